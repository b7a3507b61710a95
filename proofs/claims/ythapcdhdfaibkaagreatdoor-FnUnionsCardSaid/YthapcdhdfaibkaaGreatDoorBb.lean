import Derived.Test.YthapcdhdfaibkaaGreatDoorRows
import Derived.Test.YthapcdhdfaibkaaGreatDoorBa
import Derived.KernelRfl
import Derived.Laws.StructEq
import Derived.Laws.Cover3
import Derived.Laws.Entries
namespace Go.Proofs.YthapcdhdfaibkaaGreatDoor
open Go.RowKit
set_option linter.all false
theorem mixed: Tryz.prog.follows .mixedOrders=true:=by kernel_rfl
abbrev tI:TypeId:= 3
abbrev tFact:TypeId:= 85
abbrev tAtom:TypeId:= 111
abbrev tAccess:TypeId:= 105
abbrev tStep:TypeId:= 148
abbrev tQuery:TypeId:= 28
abbrev tBinding:TypeId:= 114
abbrev tMethod:TypeId:= 125
abbrev tRule:TypeId:= 268
abbrev tGuarded:TypeId:= 30
abbrev tLine:TypeId:= 183
abbrev tProof:TypeId:= 81
abbrev tReached:TypeId:= 90
abbrev tRun:TypeId:= 102
abbrev tCertificate:TypeId:=0
abbrev tway:TypeId:=0
abbrev tIs:TypeId:= 24
theorem j8:TyOk Tryz.prog tI false 1 [.int .i64 0] 8:=O1 (z:=.int .i64 0) (by kernel_rfl) (by kernel_rfl) Z Z
theorem ty_B:TyOk Tryz.prog 4 false 1 [.bool false] 1:=O1 (z:=.bool false) (by kernel_rfl) (by kernel_rfl) Z Z
theorem ty_S:TyOk Tryz.prog 9 false 1 [.string ByteArray.empty] 16:=O1 (z:=.string ByteArray.empty) (by kernel_rfl) (by kernel_rfl) Z Z
theorem ty_Fact:TyOk Tryz.prog tFact true 2 [.int .i64 0,.slice none 0 0] 32:=O1 (z:=.agg #[.int .i64 0,.slice none 0 0]) (by kernel_rfl) (by kernel_rfl) Z Z
theorem fo_Fact_0:V0 Tryz.prog tFact 0=some (0,tI):=by kernel_rfl
theorem fo_Fact_1:V0 Tryz.prog tFact 1=some (1, 24):=by kernel_rfl
theorem ty_Atom:TyOk Tryz.prog tAtom true 2 [.int .i64 0,.slice none 0 0] 32:=O1 (z:=.agg #[.int .i64 0,.slice none 0 0]) (by kernel_rfl) (by kernel_rfl) Z Z
theorem fo_Atom_0:V0 Tryz.prog tAtom 0=some (0,tI):=by kernel_rfl
theorem fo_Atom_1:V0 Tryz.prog tAtom 1=some (1, 24):=by kernel_rfl
theorem ty_Access:TyOk Tryz.prog tAccess true 2 [.int .i64 0,.slice none 0 0] 32:=O1 (z:=.agg #[.int .i64 0,.slice none 0 0]) (by kernel_rfl) (by kernel_rfl) Z Z
theorem fo_Access_0:V0 Tryz.prog tAccess 0=some (0,tI):=by kernel_rfl
theorem fo_Access_1:V0 Tryz.prog tAccess 1=some (1, 24):=by kernel_rfl
theorem ty_Step:TyOk Tryz.prog tStep true 2 [.int .i64 0,.int .i64 0] 16:=O1 (z:=.agg #[.int .i64 0,.int .i64 0]) (by kernel_rfl) (by kernel_rfl) Z Z
theorem fo_Step_0:V0 Tryz.prog tStep 0=some (0,tI):=by kernel_rfl
theorem fo_Step_1:V0 Tryz.prog tStep 1=some (1,tI):=by kernel_rfl
theorem ty_Query:TyOk Tryz.prog tQuery true 2 [.slice none 0 0,.slice none 0 0] 48:=O1 (z:=.agg #[.slice none 0 0,.slice none 0 0]) (by kernel_rfl) (by kernel_rfl) Z Z
theorem fo_Query_0:V0 Tryz.prog tQuery 0=some (0, 24):=by kernel_rfl
theorem fo_Query_1:V0 Tryz.prog tQuery 1=some (1, 26):=by kernel_rfl
theorem ty_Binding:TyOk Tryz.prog tBinding true 2 [.slice none 0 0,.slice none 0 0] 48:=O1 (z:=.agg #[.slice none 0 0,.slice none 0 0]) (by kernel_rfl) (by kernel_rfl) Z Z
theorem fo_Binding_0:V0 Tryz.prog tBinding 0=some (0, 24):=by kernel_rfl
theorem fo_Binding_1:V0 Tryz.prog tBinding 1=some (1, 24):=by kernel_rfl
theorem ty_Method:TyOk Tryz.prog tMethod true 5 [.int .i64 0,.slice none 0 0,.int .i64 0,.int .i64 0,.int .i64 0] 56:=O1 (z:=.agg #[.int .i64 0,.slice none 0 0,.int .i64 0,.int .i64 0,.int .i64 0]) (by kernel_rfl) (by kernel_rfl) Z Z
theorem fo_Method_0:V0 Tryz.prog tMethod 0=some (0,tI):=by kernel_rfl
theorem fo_Method_1:V0 Tryz.prog tMethod 1=some (1, 24):=by kernel_rfl
theorem fo_Method_2:V0 Tryz.prog tMethod 2=some (2,tI):=by kernel_rfl
theorem fo_Method_3:V0 Tryz.prog tMethod 3=some (3,tI):=by kernel_rfl
theorem fo_Method_4:V0 Tryz.prog tMethod 4=some (4,tI):=by kernel_rfl
theorem ty_Run:TyOk Tryz.prog tRun true 4 [.slice none 0 0,.slice none 0 0,.slice none 0 0,.int .i64 0] 80:=O1 (z:=.agg #[.slice none 0 0,.slice none 0 0,.slice none 0 0,.int .i64 0]) (by kernel_rfl) (by kernel_rfl) Z Z
theorem fo_Run_0:V0 Tryz.prog tRun 0=some (0, 34):=by kernel_rfl
theorem fo_Run_1:V0 Tryz.prog tRun 1=some (1, 35):=by kernel_rfl
theorem fo_Run_2:V0 Tryz.prog tRun 2=some (2, 31):=by kernel_rfl
theorem fo_Run_3:V0 Tryz.prog tRun 3=some (3,tI):=by kernel_rfl
theorem us_Is: Tryz.prog.underlying 24 =some (.slice tI):=by kernel_rfl
theorem ty_Is:TyOk Tryz.prog 24 false 1 [.slice none 0 0] 24:=O1 (z:=.slice none 0 0) (by kernel_rfl) (by kernel_rfl) Z Z
theorem us_Iss: Tryz.prog.underlying 34 =some (.slice tIs):=by kernel_rfl
theorem ty_Iss:TyOk Tryz.prog 34 false 1 [.slice none 0 0] 24:=O1 (z:=.slice none 0 0) (by kernel_rfl) (by kernel_rfl) Z Z
theorem us_Bs: Tryz.prog.underlying 140 =some (.slice 4):=by kernel_rfl
theorem ty_Bs:TyOk Tryz.prog 140 false 1 [.slice none 0 0] 24:=O1 (z:=.slice none 0 0) (by kernel_rfl) (by kernel_rfl) Z Z
theorem us_Ss: Tryz.prog.underlying 171 =some (.slice 9):=by kernel_rfl
theorem us_Facts: Tryz.prog.underlying 31 =some (.slice tFact):=by kernel_rfl
theorem ty_Facts:TyOk Tryz.prog 31 false 1 [.slice none 0 0] 24:=O1 (z:=.slice none 0 0) (by kernel_rfl) (by kernel_rfl) Z Z
theorem us_Atoms: Tryz.prog.underlying 26 =some (.slice tAtom):=by kernel_rfl
theorem ty_Atoms:TyOk Tryz.prog 26 false 1 [.slice none 0 0] 24:=O1 (z:=.slice none 0 0) (by kernel_rfl) (by kernel_rfl) Z Z
theorem us_Accesss: Tryz.prog.underlying 35 =some (.slice tAccess):=by kernel_rfl
theorem ty_Accesss:TyOk Tryz.prog 35 false 1 [.slice none 0 0] 24:=O1 (z:=.slice none 0 0) (by kernel_rfl) (by kernel_rfl) Z Z
theorem us_Steps: Tryz.prog.underlying 45 =some (.slice tStep):=by kernel_rfl
theorem us_Querys: Tryz.prog.underlying 56 =some (.slice tQuery):=by kernel_rfl
theorem ty_Querys:TyOk Tryz.prog 56 false 1 [.slice none 0 0] 24:=O1 (z:=.slice none 0 0) (by kernel_rfl) (by kernel_rfl) Z Z
theorem us_Bindings: Tryz.prog.underlying 108 =some (.slice tBinding):=by kernel_rfl
theorem us_Methods: Tryz.prog.underlying 25 =some (.slice tMethod):=by kernel_rfl
theorem ty_Methods:TyOk Tryz.prog 25 false 1 [.slice none 0 0] 24:=O1 (z:=.slice none 0 0) (by kernel_rfl) (by kernel_rfl) Z Z
abbrev eIs:Enc (List Int):=Enc.sl tI Enc.int
abbrev D5:Enc (List (List Int)):=Enc.sl tIs eIs
abbrev I3:Enc IL:=Enc.pair Enc.int eIs
abbrev t7:Enc (List IL):=Enc.sl tFact I3
abbrev W5:Enc IL:=Enc.pair Enc.int eIs
abbrev v8:Enc (List IL):=Enc.sl tAtom W5
abbrev a0i:Enc IL:=Enc.pair Enc.int eIs
abbrev H4:Enc (List IL):=Enc.sl tAccess a0i
abbrev a3r:Enc (Int×Int):=Enc.pair Enc.int Enc.int
abbrev Q6:Enc (List (Int×Int)):=Enc.sl tStep a3r
abbrev O6:Enc (List Int×List IL):=Enc.pair eIs v8
abbrev y7:Enc (List (List Int×List IL)):=Enc.sl tQuery O6
abbrev J7:Enc (List Int×List Int):=Enc.pair eIs eIs
abbrev B0:Enc (List (List Int×List Int)):=Enc.sl tBinding J7
abbrev V6:Enc (Int×List Int×Int×Int×Int):=Enc.pair Enc.int (Enc.pair eIs (Enc.pair Enc.int (Enc.pair Enc.int Enc.int)))
abbrev F0:Enc (List (Int×List Int×Int×Int×Int)):=Enc.sl tMethod V6
abbrev c4N:Enc (Int×IL):=Enc.pair Enc.int (Enc.pair Enc.int eIs)
abbrev c6q:Enc (List (Int×IL)):=Enc.sl tRule c4N
abbrev c0r:Enc ((List Int×List IL)×List IL):=Enc.pair O6 v8
abbrev c5b:Enc (List ((List Int×List IL)×List IL)):=Enc.sl tGuarded c0r
abbrev c4F:Enc (Int×IL×IL):=Enc.pair Enc.int (Enc.pair a0i I3)
abbrev c3H:Enc (List (Int×IL×IL)):=Enc.sl tLine c4F
abbrev c3G:Enc (List (Int×IL×IL)):=c3H
abbrev c6a:Enc (List (List (Int×IL×IL))):=Enc.sl tProof c3G
abbrev c0c:Enc ((List IL)×List Int×(List IL)×Int):=Enc.pair t7 (Enc.pair eIs (Enc.pair H4 Enc.int))
abbrev c5a:Enc (List ((List IL)×List Int×(List IL)×Int)):=Enc.sl tReached c0c
abbrev c5r:Enc (List (List Int)×(List IL)×(List IL)×Int):=Enc.pair D5 (Enc.pair H4 (Enc.pair t7 Enc.int))
abbrev c6s:Enc (List (List (List Int)×(List IL)×(List IL)×Int)):=Enc.sl tRun c5r
abbrev b4l:Enc ((List IL)×(List IL)×List Int):=Enc.pair t7 (Enc.pair t7 eIs)
abbrev c2M:Enc (List ((List IL)×(List IL)×List Int)):=Enc.sl tCertificate b4l
abbrev c5E:Enc (IL×List Int):=Enc.pair I3 eIs
abbrev c6z:Enc (List (IL×List Int)):=Enc.sl tway c5E
theorem U2 {w0:World} {L0:List Nat} {cs:List Value} {x:IL} (h:Ro w0 L0 I3 cs x):∃(a0:Option Addr) (c0:Nat),cs=[.int .i64 x.1,.slice a0 x.2.length c0]∧I64 x.1∧Ro w0 L0 eIs [.slice a0 x.2.length c0] x.2:=by
 obtain ⟨_,_,rfl,h1,g1⟩:=Ro.pair h
 obtain ⟨rfl,h1i⟩:=h1.int
 obtain ⟨a_g1,c_g1,rfl⟩:=g1.sl
 exact ⟨a_g1,c_g1,Z,h1i,g1⟩
theorem b9s {w0:World} {L0:List Nat} {x:IL} {a0:Option Addr} {m0 c0:Nat} (h0:I64 x.1) (h1:Ro w0 L0 eIs [.slice a0 m0 c0] x.2):Ro w0 L0 I3 [.int .i64 x.1,.slice a0 m0 c0] x:=(U4 (W7 h0) h1)
theorem L6 {w0:World} {L0:List Nat} {cs:List Value} {x:IL} (h:Ro w0 L0 W5 cs x):∃(a0:Option Addr) (c0:Nat),cs=[.int .i64 x.1,.slice a0 x.2.length c0]∧I64 x.1∧Ro w0 L0 eIs [.slice a0 x.2.length c0] x.2:=by
 obtain ⟨_,_,rfl,h1,g1⟩:=Ro.pair h
 obtain ⟨rfl,h1i⟩:=h1.int
 obtain ⟨a_g1,c_g1,rfl⟩:=g1.sl
 exact ⟨a_g1,c_g1,Z,h1i,g1⟩
theorem b9t {w0:World} {L0:List Nat} {x:IL} {a0:Option Addr} {m0 c0:Nat} (h0:I64 x.1) (h1:Ro w0 L0 eIs [.slice a0 m0 c0] x.2):Ro w0 L0 W5 [.int .i64 x.1,.slice a0 m0 c0] x:=(U4 (W7 h0) h1)
theorem a1Z {w0:World} {L0:List Nat} {cs:List Value} {x:IL} (h:Ro w0 L0 a0i cs x):∃(a0:Option Addr) (c0:Nat),cs=[.int .i64 x.1,.slice a0 x.2.length c0]∧I64 x.1∧Ro w0 L0 eIs [.slice a0 x.2.length c0] x.2:=by
 obtain ⟨_,_,rfl,h1,g1⟩:=Ro.pair h
 obtain ⟨rfl,h1i⟩:=h1.int
 obtain ⟨a_g1,c_g1,rfl⟩:=g1.sl
 exact ⟨a_g1,c_g1,Z,h1i,g1⟩
theorem b5R {w0:World} {L0:List Nat} {x:IL} {a0:Option Addr} {m0 c0:Nat} (h0:I64 x.1) (h1:Ro w0 L0 eIs [.slice a0 m0 c0] x.2):Ro w0 L0 a0i [.int .i64 x.1,.slice a0 m0 c0] x:=(U4 (W7 h0) h1)
theorem b0z {w0:World} {L0:List Nat} {cs:List Value} {x:Int×Int} (h:Ro w0 L0 a3r cs x):cs=[.int .i64 x.1,.int .i64 x.2]∧I64 x.1∧I64 x.2:=by
 obtain ⟨_,_,rfl,h1,g1⟩:=Ro.pair h
 obtain ⟨rfl,h1i⟩:=h1.int
 obtain ⟨rfl,g1i⟩:=g1.int
 exact ⟨Z,h1i,g1i⟩
theorem c5h {w0:World} {L0:List Nat} {x:Int×Int} (h0:I64 x.1) (h1:I64 x.2):Ro w0 L0 a3r [.int .i64 x.1,.int .i64 x.2] x:=(U4 (W7 h0) (W7 h1))
theorem P7 {w0:World} {L0:List Nat} {cs:List Value} {x:List Int×List IL} (h:Ro w0 L0 O6 cs x):∃(a0:Option Addr) (c0:Nat) (a1:Option Addr) (c1:Nat),cs=[.slice a0 x.1.length c0,.slice a1 x.2.length c1]∧Ro w0 L0 eIs [.slice a0 x.1.length c0] x.1∧Ro w0 L0 v8 [.slice a1 x.2.length c1] x.2:=by
 obtain ⟨_,_,rfl,h1,g1⟩:=Ro.pair h
 obtain ⟨a_h1,c_h1,rfl⟩:=h1.sl
 obtain ⟨a_g1,c_g1,rfl⟩:=g1.sl
 exact ⟨a_h1,c_h1,a_g1,c_g1,Z,h1,g1⟩
theorem b7M {w0:World} {L0:List Nat} {x:List Int×List IL} {a0 a1:Option Addr} {m0 c0 m1 c1:Nat} (h0:Ro w0 L0 eIs [.slice a0 m0 c0] x.1) (h1:Ro w0 L0 v8 [.slice a1 m1 c1] x.2):Ro w0 L0 O6 [.slice a0 m0 c0,.slice a1 m1 c1] x:=(U4 h0 h1)
theorem a4g {w0:World} {L0:List Nat} {cs:List Value} {x:List Int×List Int} (h:Ro w0 L0 J7 cs x):∃(a0:Option Addr) (c0:Nat) (a1:Option Addr) (c1:Nat),cs=[.slice a0 x.1.length c0,.slice a1 x.2.length c1]∧Ro w0 L0 eIs [.slice a0 x.1.length c0] x.1∧Ro w0 L0 eIs [.slice a1 x.2.length c1] x.2:=by
 obtain ⟨_,_,rfl,h1,g1⟩:=Ro.pair h
 obtain ⟨a_h1,c_h1,rfl⟩:=h1.sl
 obtain ⟨a_g1,c_g1,rfl⟩:=g1.sl
 exact ⟨a_h1,c_h1,a_g1,c_g1,Z,h1,g1⟩
theorem c3X {w0:World} {L0:List Nat} {x:List Int×List Int} {a0 a1:Option Addr} {m0 c0 m1 c1:Nat} (h0:Ro w0 L0 eIs [.slice a0 m0 c0] x.1) (h1:Ro w0 L0 eIs [.slice a1 m1 c1] x.2):Ro w0 L0 J7 [.slice a0 m0 c0,.slice a1 m1 c1] x:=(U4 h0 h1)
theorem P9 {w0:World} {L0:List Nat} {cs:List Value} {x:Int×List Int×Int×Int×Int} (h:Ro w0 L0 V6 cs x):∃(a0:Option Addr) (c0:Nat),cs=[.int .i64 x.1,.slice a0 x.2.1.length c0,.int .i64 x.2.2.1,.int .i64 x.2.2.2.1,.int .i64 x.2.2.2.2]∧I64 x.1∧Ro w0 L0 eIs [.slice a0 x.2.1.length c0] x.2.1∧I64 x.2.2.1∧I64 x.2.2.2.1∧I64 x.2.2.2.2:=by
 obtain ⟨_,_,rfl,h1,g1⟩:=Ro.pair h
 obtain ⟨rfl,h1i⟩:=h1.int
 obtain ⟨_,_,rfl,h2,g2⟩:=Ro.pair g1
 obtain ⟨a_h2,c_h2,rfl⟩:=h2.sl
 obtain ⟨_,_,rfl,h3,g3⟩:=Ro.pair g2
 obtain ⟨rfl,h3i⟩:=h3.int
 obtain ⟨_,_,rfl,h4,g4⟩:=Ro.pair g3
 obtain ⟨rfl,h4i⟩:=h4.int
 obtain ⟨rfl,g4i⟩:=g4.int
 exact ⟨a_h2,c_h2,Z,h1i,h2,h3i,h4i,g4i⟩
theorem a9x {w0:World} {L0:List Nat} {x:Int×List Int×Int×Int×Int} {a0:Option Addr} {m0 c0:Nat} (h0:I64 x.1) (h1:Ro w0 L0 eIs [.slice a0 m0 c0] x.2.1) (h2:I64 x.2.2.1) (h3:I64 x.2.2.2.1) (h4:I64 x.2.2.2.2):Ro w0 L0 V6 [.int .i64 x.1,.slice a0 m0 c0,.int .i64 x.2.2.1,.int .i64 x.2.2.2.1,.int .i64 x.2.2.2.2] x:=(U4 (W7 h0) (U4 h1 (U4 (W7 h2) (U4 (W7 h3) (W7 h4)))))
end Go.Proofs.YthapcdhdfaibkaaGreatDoor

namespace Go.Proofs.YthapcdhdfaibkaaGreatDoor
open Go.RowKit
set_option linter.all false

structure Keep (w:World) (L:List Nat) (w':World):Prop where
 size:w.heap.size≤w'.heap.size
 keep:∀b,b<w.heap.size→b∉L→w'.heap[b]? =w.heap[b]?
theorem Step.toKeep {w0 w:World} {L0 L:List Nat} (h:Step w0 L0 w L):Keep w0 L0 w:=⟨h.size,h.keep⟩
theorem b9y (w:World) (L:List Nat):Keep w L w:=⟨Nat.le_refl _,λ_ _ _=>rfl⟩
theorem Step.thenKeep {w0 w w':World} {L0 L Lp:List Nat} (h:Step w0 L0 w L) (hs:∀b∈Lp,b∈L) (k:Keep w Lp w'):Keep w0 L0 w':=
 ⟨Nat.le_trans h.size k.size,λb hb h0=>(k.keep b (Nat.lt_of_lt_of_le hb h.size) λhp=>by
  rcases h.sub b (hs b hp) with h1|h1
  ·exact h0 h1
  ·omega).trans (h.keep b hb h0)⟩
section
variable {α:Type} {E:Enc α} {w w' w0:World} {L L0 Lp:List Nat} {cs:List Value} {x:α} {pre rest:List HP}
theorem Ro.keep (h:Ro w L E cs x) (k:Keep w L w'):Ro w' [] E cs x:=by
 obtain ⟨L',h1,h2⟩:=h
 exact ⟨L',E.stable h1 λb hb=>k.keep b (E.inh h1 b hb) (h2 b hb),by simp⟩
theorem Ro.nil (h:Ro w L E cs x):Ro w [] E cs x:=h.keep (b9y _ _)
structure RoPt (w:World) (L:List Nat) (b:Nat) (cs:List Value):Prop where
 at':∃T fz,w.heap[b]? =some (.cells cs.toArray T fz)
 not:b∉L
theorem RoPt.lt {b:Nat} (h:RoPt w L b cs):b<w.heap.size:=by
 obtain ⟨T,fz,h1⟩:=h.at'
 exact (Array.getElem?_eq_some_iff.1 h1).1
theorem RoPt.keep {b:Nat} (h:RoPt w L b cs) (k:Keep w L w'):RoPt w' [] b cs:=by
 obtain ⟨T,fz,h1⟩:=h.at'
 exact ⟨⟨T,fz,by rw[k.keep b h.lt h.not];exact h1⟩,by simp⟩
theorem RoPt.has {b:Nat} {H:List HP} (h:RoPt w0 L0 b cs):Has w0 L0 H b 0 cs:=by
 obtain ⟨T,fz,h1⟩:=h.at'
 refine a8w (L':=[b]) (by simp) (by simpa using h.lt) (by simpa using h.not) λj v hj=>?_
 simp[World.cell?,h1,hj]
theorem At.pt {b:Nat} {T:TypeId} (hA:At w0 L0 pre rest w Lp) (hm:pt b T cs∈rest):RoPt w Lp b cs:=by
 obtain ⟨⟨Lr,h1,h2,h3,h4⟩⟩:=hA
 obtain ⟨L',⟨rfl,r1⟩,r2⟩:=h2.mem hm
 exact ⟨⟨T,_,r1⟩,λhp=>(List.nodup_append.1 h3).2.2 b hp b (r2 b (by simp)) Z⟩
theorem At.rop {b:Nat} (hA:At w0 L0 pre rest w Lp) (h:RoPt w0 L0 b cs):RoPt w Lp b cs:=by
 obtain ⟨⟨Lr,h1,h2,h3,h4⟩⟩:=hA
 obtain ⟨T,fz,g⟩:=h.at'
 refine ⟨⟨T,fz,by rw[h4.keep b h.lt h.not];exact g⟩,λhp=>?_⟩
 rcases h4.sub b (by simp[hp]) with h5|h5
 ·exact h.not h5
 ·have:=h.lt;omega
end
def a7z (cs:List Value):Value:=cs.headD undef
def a1U (cs:List Value):Value:=.agg cs.toArray
def FnP {α:Type} (P:Program) (w:World) (L:List Nat) (g:FuncId) (caps:List Value) (E:Enc α) (val:List Value→Value) (D:α→Prop) (p:α→Bool):Prop:=
 ∀w',Keep w L w'→∀cs x,D x→Ro w' [] E cs x→a5y P g∧Calls P g (val cs::caps).toArray w' λe w''=>e= .returned (.bool (p x))∧Ext w' w''
section
variable {P:Program} {α:Type} {E:Enc α} {w w0:World} {L L0 Lp:List Nat} {pre rest:List HP} {g:FuncId} {caps:List Value} {val:List Value→Value} {D:α→Prop} {p:α→Bool}
theorem At.fn (hA:At w0 L0 pre rest w Lp) (h:FnP P w0 L0 g caps E val D p):FnP P w Lp g caps E val D p:=by
 obtain ⟨⟨Lr,h1,h2,h3,h4⟩⟩:=hA
 exact λw' k cs x hd hx=>h w' (h4.thenKeep (λb hb=>by simp[hb]) k) cs x hd hx
theorem At.keep {w':World} (hA:At w0 L0 pre rest w Lp) (k:Keep w Lp w'):Keep w0 L0 w':=by
 obtain ⟨⟨Lr,h1,h2,h3,h4⟩⟩:=hA
 exact h4.thenKeep (λb hb=>by simp[hb]) k
theorem Tr.bool {f:FuncId} {args:List Value} {RR:World→List Nat→Prop} {b:Bool} (tr:Tr P f args RR [] (κ:=Unit) (λ_=>True) (λ_=>.bool b) (λ_=>[])) (h:RR w []):
  Calls P f args.toArray w λe w'=>e= .returned (.bool b)∧Ext w w':=by
 refine (tr.2 w [] h Z List.nodup_nil).mono ?_
 rintro e w' ⟨_,_,rfl,hp⟩
 obtain ⟨L,_,_,hs⟩:=hp
 exact ⟨Z,hs.below⟩
end
section
variable {P:Program} {Q:Exit→Act→World→Prop} {n:Nat} {w0:World} {L0:List Nat} {fr:Fr} {H:List HP} {d:Nat} {ty:TypeId} {pos:String} {af:Array Edge} {g:Option (Nat×Bool)}
theorem b2q {f:FuncId} {x:Operand} {caps:Array Value} {xs:Array Operand} {ts:Array TypeId} {vs args:List Value} {RR:World→List Nat→Prop} {κ:Type} {φ:κ→Prop} {ret:κ→Value}
  (tr:Tr P f args RR [] φ ret (λ_=>[])) (hx:ev fr x=some (.func (.func f) #[] caps)) (hxs:evs fr xs.toList=some vs) (hargs:vs++caps.toList=args) (hd:d<n) (hR:∀w Lp,At w0 L0 [] H w Lp→RR w Lp):
  Nop P Q n w0 L0 fr H ⟨some d,.call ⟨.value x,xs,ts⟩,ty,pos,af,g⟩ true (κ:=κ) (λk=>(d,ret k)::fr) (λ_=>H) φ:=
 N.call tr hx hxs hargs hd (by rfl) hR
theorem N.fn {α:Type} {E:Enc α} {f:FuncId} {x y:Operand} {caps:List Value} {ts:Array TypeId} {val:List Value→Value} {D:α→Prop} {p:α→Bool} {cs:List Value} {u:α} {v:Value}
  (h:FnP P w0 L0 f caps E val D p) (hx:ev fr x=some (.func (.func f) #[] caps.toArray)) (hy:ev fr y=some v) (hv:v=val cs) (hd:d<n) (hR:∀w Lp,At w0 L0 [] H w Lp→Ro w Lp E cs u) (hu:D u):
  Nop P Q n w0 L0 fr H ⟨some d,.call ⟨.value x, #[y],ts⟩,ty,pos,af,g⟩ true (κ:=Unit) (λ_=>(d,.bool (p u))::fr) (λ_=>H) (λ_=>True):=λK hK a w ha hw=>by
 have hw':=hw
 obtain ⟨L,hs,hn,hst⟩:=hw
 have hA:At w0 L0 [] H w []:=⟨⟨L,Z,hs,hn,hst⟩⟩
 obtain ⟨⟨fn,f1,f2,f3⟩,hcall⟩:=h w (hst.toKeep) cs u hu (hR w [] hA)
 have f2':¬fn.body=none:=λh=>by rw[h] at f2;cases f2
 have f3' : ¬ fn.name = "runtime.NumGoroutine" := by simpa using f3
 have hrun:(execOp a.eval ⟨some d,.call ⟨.value x, #[y],ts⟩,ty,pos,af,g⟩).run P w= .ok (.enter f (val cs::caps).toArray) w:=by
  rw[hv] at hy
  simp[execOp,resolve,ha.ev hx,ha.ev hy,Deferred.ofValue,invoke,callFunc,f1,f2',f3']
 rw[Oper.wp,hrun,Oper.upon_enter]
 refine hcall.mono ?_
 rintro e w' ⟨rfl,hE⟩
 refine hK () trivial w _ w' (ha.put hd _) ?_ (λ_=>hE)
 have:=hst.call (Lp:=[]) (Lp':=[]) (w':=w') (by simpa using hn) hs.inh ⟨hE.os,hE.tape,hE.output,hE.size,λb hb _=>hE.block b hb,by simp⟩ (by simp)
 simp only[List.nil_append] at this
 exact ⟨L,hs.stable this.2.2,this.2.1,this.1⟩
end
end Go.Proofs.YthapcdhdfaibkaaGreatDoor

namespace Go.Proofs.YthapcdhdfaibkaaGreatDoor
open Go.RowKit
set_option linter.all false
section
variable {P:Program} {w:World} {L:List Nat} {g:FuncId} {caps:List Value} {RR:World→List Nat→Prop}
theorem a3p {p:Int→Bool} {D:Int→Prop} (tr:∀{x:Int},D x→Tr P g (.int .i64 x::caps) (λw L=>(I64 x)∧RR w L) [] (κ:=Unit) (λ_=>True) (λ_=>.bool (p x)) (λ_=>[])) (hR:∀w',Keep w L w'→RR w' []):FnP P w L g caps Enc.int a7z D p:=
 λw' k cs x hd hx=>by obtain ⟨rfl,i1⟩:=hx.int;exact ⟨(tr hd).1,(tr hd).bool ⟨i1,hR w' k⟩⟩
theorem b5E {p:List Int→Bool} {D:(List Int)→Prop} (tr:∀{a:Option Addr} {m c:Nat} {x:List Int},D x→Tr P g (.slice a m c::caps) (λw L=>(Ro w L eIs [.slice a m c] x)∧RR w L) [] (κ:=Unit) (λ_=>True) (λ_=>.bool (p x)) (λ_=>[])) (hR:∀w',Keep w L w'→RR w' []):FnP P w L g caps eIs a7z D p:=
 λw' k cs x hd hx=>by obtain ⟨a,c,rfl⟩:=hx.sl;exact ⟨(tr (a:=a) (m:=x.length) (c:=c) hd).1,(tr hd).bool ⟨hx,hR w' k⟩⟩
theorem a7c {p:IL→Bool} {D:IL→Prop} (tr:∀{x0:Int} {a0:Option Addr} {m0 c0:Nat} {x1:List Int},D (x0,x1)→Tr P g (.agg #[.int .i64 x0,.slice a0 m0 c0]::caps) (λw L=>(I64 x0∧Ro w L eIs [.slice a0 m0 c0] x1)∧RR w L) [] (κ:=Unit) (λ_=>True) (λ_=>.bool (p (x0,x1))) (λ_=>[])) (hR:∀w',Keep w L w'→RR w' []):FnP P w L g caps I3 a1U D p:=
 λw' k cs x hd hx=>by obtain ⟨a0,c0,rfl,h0,h1⟩:=U2 hx;exact ⟨(tr (a0:=none) (m0:=0) (c0:=0) hd).1,Tr.bool (tr hd) ⟨⟨h0,h1⟩,hR w' k⟩⟩
theorem b7R {p:IL→Bool} {D:IL→Prop} (tr:∀{x0:Int} {a0:Option Addr} {m0 c0:Nat} {x1:List Int},D (x0,x1)→Tr P g (.agg #[.int .i64 x0,.slice a0 m0 c0]::caps) (λw L=>(I64 x0∧Ro w L eIs [.slice a0 m0 c0] x1)∧RR w L) [] (κ:=Unit) (λ_=>True) (λ_=>.bool (p (x0,x1))) (λ_=>[])) (hR:∀w',Keep w L w'→RR w' []):FnP P w L g caps W5 a1U D p:=
 λw' k cs x hd hx=>by obtain ⟨a0,c0,rfl,h0,h1⟩:=L6 hx;exact ⟨(tr (a0:=none) (m0:=0) (c0:=0) hd).1,Tr.bool (tr hd) ⟨⟨h0,h1⟩,hR w' k⟩⟩
theorem b5G {p:IL→Bool} {D:IL→Prop} (tr:∀{x0:Int} {a0:Option Addr} {m0 c0:Nat} {x1:List Int},D (x0,x1)→Tr P g (.agg #[.int .i64 x0,.slice a0 m0 c0]::caps) (λw L=>(I64 x0∧Ro w L eIs [.slice a0 m0 c0] x1)∧RR w L) [] (κ:=Unit) (λ_=>True) (λ_=>.bool (p (x0,x1))) (λ_=>[])) (hR:∀w',Keep w L w'→RR w' []):FnP P w L g caps a0i a1U D p:=
 λw' k cs x hd hx=>by obtain ⟨a0,c0,rfl,h0,h1⟩:=a1Z hx;exact ⟨(tr (a0:=none) (m0:=0) (c0:=0) hd).1,Tr.bool (tr hd) ⟨⟨h0,h1⟩,hR w' k⟩⟩
theorem a4f {p:(List Int×List IL)→Bool} {D:(List Int×List IL)→Prop} (tr:∀{a0:Option Addr} {m0 c0:Nat} {x0:List Int} {a1:Option Addr} {m1 c1:Nat} {x1:List IL},D (x0,x1)→Tr P g (.agg #[.slice a0 m0 c0,.slice a1 m1 c1]::caps) (λw L=>(Ro w L eIs [.slice a0 m0 c0] x0∧Ro w L v8 [.slice a1 m1 c1] x1)∧RR w L) [] (κ:=Unit) (λ_=>True) (λ_=>.bool (p (x0,x1))) (λ_=>[])) (hR:∀w',Keep w L w'→RR w' []):FnP P w L g caps O6 a1U D p:=
 λw' k cs x hd hx=>by obtain ⟨a0,c0,a1,c1,rfl,h0,h1⟩:=P7 hx;exact ⟨(tr (a0:=none) (m0:=0) (c0:=0) (a1:=none) (m1:=0) (c1:=0) hd).1,Tr.bool (tr hd) ⟨⟨h0,h1⟩,hR w' k⟩⟩
theorem a8D {p:(Int×List Int×Int×Int×Int)→Bool} {D:(Int×List Int×Int×Int×Int)→Prop} (tr:∀{x0:Int} {a0:Option Addr} {m0 c0:Nat} {x1:List Int} {x2:Int} {x3:Int} {x4:Int},D (x0,x1,x2,x3,x4)→Tr P g (.agg #[.int .i64 x0,.slice a0 m0 c0,.int .i64 x2,.int .i64 x3,.int .i64 x4]::caps) (λw L=>(I64 x0∧Ro w L eIs [.slice a0 m0 c0] x1∧I64 x2∧I64 x3∧I64 x4)∧RR w L) [] (κ:=Unit) (λ_=>True) (λ_=>.bool (p (x0,x1,x2,x3,x4))) (λ_=>[])) (hR:∀w',Keep w L w'→RR w' []):FnP P w L g caps V6 a1U D p:=
 λw' k cs x hd hx=>by obtain ⟨a0,c0,rfl,h0,h1,h2,h3,h4⟩:=P9 hx;exact ⟨(tr (a0:=none) (m0:=0) (c0:=0) hd).1,Tr.bool (tr hd) ⟨⟨h0,h1,h2,h3,h4⟩,hR w' k⟩⟩
end
end Go.Proofs.YthapcdhdfaibkaaGreatDoor

namespace Go.Proofs.YthapcdhdfaibkaaGreatDoor
open Go.RowKit
set_option linter.all false

def Own {α:Type} (pre:List HP) (E:Enc α) (cs:List Value) (x:α):Prop:=∀w L,Sep pre w L→E.rep w cs x L true
section
variable {α β:Type} {E:Enc α} {F:Enc β} {A B:List HP} {cs c1 c2:List Value} {x:α}
theorem Own.ow:Own [ow E cs x] E cs x:=λw L ⟨L1,L2,h1,h2,h3⟩=>by
 rw[Sep] at h3;subst h3;rw[h1,List.append_nil];exact h2
theorem Own.int {x:Int} (h:I64 x):Own [] Enc.int [.int .i64 x] x:=λw L hL=>⟨Z,h,hL⟩
theorem Own.bool {x:Bool}:Own [] Enc.bool [.bool x] x:=λw L hL=>⟨Z,hL⟩
theorem Own.pair {x:α×β} (h1:Own A E c1 x.1) (h2:Own B F c2 x.2):Own (A++B) (Enc.pair E F) (c1++c2) x:=λw L h=>by
 obtain ⟨L1,L2,rfl,h3,h4⟩:=Sep.append.1 h
 exact ⟨c1,c2,L1,L2,Z,Z,h1 _ _ h3,h2 _ _ h4⟩
theorem Own.nil {e:TypeId} {a:Option Addr}:Own [] (Enc.sl e E) [.slice a 0 0] []:=λw L hL=>by
 rw[Sep] at hL;subst hL
 exact ⟨a,0,0,[],[],[],Z,Z,Nat.zero_le _,Z,⟨Z,Z⟩,by simp[row]⟩
theorem Own.row {e:TypeId} {a:Option Addr} {m c:Nat} {ccs:List Value} {xs:List α} (hm:m=xs.length) (hl:m≤maxLen) (hx:∀w,y8 E w ccs xs [] true):Own [row e E.k a m c ccs] (Enc.sl e E) [.slice a m c] xs:=λw L ⟨L1,L2,h1,h2,h3⟩=>by
 rw[Sep] at h3;subst h3;rw[h1]
 exact ⟨a,m,c,ccs,L1,[],Z,hm,hl,Z,hx w,h2⟩
theorem V2 {e:TypeId} {a:Option Addr} {c:Nat} (h:Own A E cs x):Own (Go.Proofs.YthapcdhdfaibkaaGreatDoor.row e E.k a 1 c cs::A) (Enc.sl e E) [.slice a 1 c] [x]:=λw L ⟨L1,L2,h1,h2,h3⟩=>
 ⟨a,1,c,cs,L1,L2,Z,Z,by decide,h1,a3I (h _ _ h3),h2⟩
theorem c5X {e:TypeId} {a:Option Addr}:Own [Go.Proofs.YthapcdhdfaibkaaGreatDoor.row e E.k a 0 0 []] (Enc.sl e E) [.slice a 0 0] []:=Own.row Z (Nat.zero_le _) λw=>⟨Z,Z⟩
theorem b7b {z:List Value} {zx:α} (hz:Own [] E z zx) (m:Nat) (w:World):y8 E w (a1J m z) (List.replicate m zx) [] true:=by
 induction m with
 |zero=>exact ⟨Z,Z⟩
 |succ m ih=>exact ⟨z,a1J m z,[],[],Z,Z,hz w [] Z,ih⟩
theorem c0U {e:TypeId} {a:Option Addr} {m c:Nat} {z:List Value} {zx:α} (hz:Own [] E z zx) (hl:m≤maxLen):Own [Go.Proofs.YthapcdhdfaibkaaGreatDoor.row e E.k a m c (a1J m z)] (Enc.sl e E) [.slice a m c] (List.replicate m zx):=
 Own.row (by simp) hl (b7b hz m)
theorem Own.ints {e:TypeId} {a:Option Addr} {m c:Nat} {xs:List Int} (hm:m=xs.length) (hl:m≤maxLen) (hx:∀x∈xs,I64 x):Own [Go.Proofs.YthapcdhdfaibkaaGreatDoor.row e 1 a m c (ints xs)] (Enc.sl e Enc.int) [.slice a m c] xs:=
 Own.row (E:=Enc.int) hm hl λw=>y8.ints.2 ⟨Z,hx,Z⟩
end
def Plain {α:Type} (E:Enc α):Prop:=∀w cs x L,E.rep w cs x L false→E.rep w cs x [] true
theorem Plain.int:Plain Enc.int:=λw cs x L h=>⟨h.1,h.2.1,Z⟩
theorem Plain.bool:Plain Enc.bool:=λw cs x L h=>⟨h.1,Z⟩
theorem Plain.pair {α β:Type} {E:Enc α} {F:Enc β} (h1:Plain E) (h2:Plain F):Plain (Enc.pair E F):=λw cs x L ⟨c1,c2,L1,L2,e1,e2,g1,g2⟩=>
 ⟨c1,c2,[],[],e1,Z,h1 _ _ _ _ g1,h2 _ _ _ _ g2⟩
theorem Plain.elems {α:Type} {E:Enc α} (h:Plain E) {w:World}:∀{xs:List α} {cs:List Value} {L:List Nat},y8 E w cs xs L false→y8 E w cs xs [] true
 |[],_,_,hx=>⟨hx.1,Z⟩
 |x::xs,_,_,⟨c1,c2,L1,L2,e1,e2,g1,g2⟩=>⟨c1,c2,[],[],e1,Z,h _ _ _ _ g1,h.elems g2⟩

section
variable {w0 w:World} {L0:List Nat} {A A' H R:List HP}
theorem Hp.turnL {w':World} (h:Hp w0 L0 (A++R) w) (ht:∀L,Sep A w L→L.Nodup→∃L',Sep A' w' L'∧L'.Nodup∧Step w L w' L'):Hp w0 L0 (A'++R) w':=by
 obtain ⟨L,hs,hn,hst⟩:=h
 obtain ⟨L1,L2,rfl,h1,h2⟩:=Sep.append.1 hs
 obtain ⟨L',h3,h4,h5⟩:=ht L1 h1 (List.nodup_append.1 hn).1
 obtain ⟨k1,k2,k3⟩:=hst.call hn h2.inh h5 h4
 exact ⟨L'++L2,Sep.append.2 ⟨L',L2,Z,h3,h2.stable k3⟩,k2,k1⟩
theorem c2L {α:Type} {E:Enc α} {cs:List Value} {x:α} (hO:Own A E cs x) (h:Hp w0 L0 (A++R) w):Hp w0 L0 (ow E cs x::R) w:=by
 refine h.turnL (A':=[ow E cs x]) λL hL hn=>⟨L,⟨L,[],by simp,hO _ _ hL,Z⟩,hn,Step.refl _ _⟩
end
section
variable {n:Nat} {w0:World} {L0:List Nat} {fr:Fr} {A H R:List HP} {G:Act→World→Prop}
theorem m8 {α:Type} {E:Enc α} {cs:List Value} {x:α} (hO:Own A E cs x) (hH:H=A++R) (h:Ent n w0 L0 fr (ow E cs x::R) G):Ent n w0 L0 fr H G:=λa w h1 h2=>h a w h1 (c2L hO (hH▸h2))
theorem g9 {B C:HP} (he:B=C) (h:Ent n w0 L0 fr (C::R) G):Ent n w0 L0 fr (B::R) G:=he▸h
theorem a0n (hH:H=A++R) (h:∀w1 L1,a0G w1 L1 w0 L0→At w0 L0 R A w1 L1→Ent n w1 L1 fr R G):Ent n w0 L0 fr H G:=λa w h1 h2=>by
 subst hH
 obtain ⟨L,hs,hn,hst⟩:=h2
 obtain ⟨LA,LR,rfl,hA,hR⟩:=Sep.append.1 hs
 have hperm:(LA++LR).Perm (LR++LA):=List.perm_append_comm
 have hst':Step w0 L0 w (LR++LA):=⟨hst.os,hst.tape,hst.output,hst.size,hst.keep,λb hb=>hst.sub b (hperm.mem_iff.2 hb)⟩
 refine h w LR ?_ ⟨⟨LA,hR,hA,hperm.nodup_iff.1 hn,hst'⟩⟩ a w h1 ⟨LR,hR,(List.nodup_append.1 hn).2.1,Step.refl _ _⟩
 rintro X w' ⟨L',k1,k2,k3⟩
 refine ⟨L',k1,k2,⟨k3.os.trans hst.os,k3.tape.trans hst.tape,k3.output.trans hst.output,Nat.le_trans hst.size k3.size,λb hb h0=>?_,λb hb=>?_⟩⟩
 ·refine (k3.keep b (Nat.lt_of_lt_of_le hb hst.size) λhp=>?_).trans (hst.keep b hb h0)
  rcases hst.sub b (by simp[hp]) with h3|h3
  ·exact h0 h3
  ·omega
 ·rcases k3.sub b hb with h3|h3
  ·exact hst.sub b (by simp[h3])
  ·exact .inr (Nat.le_trans hst.size h3)
end
theorem a0V {α:Type} {e:TypeId} {E:Enc α} {a:Option Addr} {m c:Nat} {xs:List α} {w:World} {L:List Nat} (h:(ow (Enc.sl e E) [.slice a m c] xs).holds w L):
  ∃ccs L1 L2,L=L1++L2∧m=xs.length∧m≤maxLen∧y8 E w ccs xs L2 true∧(row e E.k a m c ccs).holds w L1:=by
 obtain ⟨a',m',c',ccs,L1,L2,h1,h2,h3,h4,h5,h6⟩:=h
 simp only[List.cons.injEq,Value.slice.injEq,and_true] at h1
 obtain ⟨rfl,rfl,rfl⟩:=h1
 exact ⟨ccs,L1,L2,h4,h2,h3,h5,h6⟩
theorem f0 {α:Type} {e:TypeId} {E:Enc α} {a:Option Addr} {m c:Nat} {xs:List α} {n:Nat} {w0:World} {L0:List Nat} {fr:Fr} {H:List HP} {G:Act→World→Prop} (hm:ow (Enc.sl e E) [.slice a m c] xs∈H)
  (h:m=xs.length→m≤9223372036854775807→Ent n w0 L0 fr H G):Ent n w0 L0 fr H G:=λac w h1 h2=>by
 obtain ⟨L,hL⟩:=h2.mem hm
 obtain ⟨_,_,_,_,g1,g2,_,_⟩:=a0V hL
 exact h g1 g2 ac w h1 h2
section
variable {P:Program} {Q:Exit→Act→World→Prop} {n:Nat} {w0:World} {L0:List Nat} {fr:Fr} {H R pre:List HP} {d:Nat} {ty:TypeId} {pos:String} {af:Array Edge} {g:Option (Nat×Bool)}
theorem b2B {α:Type} {E:Enc α} {e:TypeId} {a':Option Addr} {m c' m2:Nat} {xs ys:List α} {ccs news:List Value} {w w':World} {L1 L1' L2 Ly:List Nat}
  (hm:m=xs.length) (hys:m2=ys.length) (hl:m+m2≤maxLen) (hx:y8 E w ccs xs L2 true) (hy:y8 E w news ys Ly true) (hn:(L1++(L2++Ly)).Nodup) (r2:(row e E.k a' (m+m2) c' (ccs++news)).holds w' L1') (r3:L1'.Nodup) (r4:Step w L1 w' L1'):
  (ow (Enc.sl e E) [.slice a' (m+m2) c'] (xs++ys)).holds w' (L1'++(L2++Ly))∧(L1'++(L2++Ly)).Nodup∧Step w (L1++(L2++Ly)) w' (L1'++(L2++Ly)):=by
 have hlt:∀b∈L2++Ly,b<w.heap.size:=(hx.app hy).inh
 have hstep:Step w (L1++(L2++Ly)) w (L1++(L2++Ly)):=Step.refl _ _
 obtain ⟨k1,k2,k3⟩:=hstep.call hn hlt r4 r3
 exact ⟨⟨a',m+m2,c',ccs++news,L1',L2++Ly,Z,by simp[hm,hys],hl,Z,(hx.app hy).stable k3,r2⟩,k2,k1⟩
theorem Step.sublist {w w':World} {L L1 L2:List Nat} (h:Step w L w' L1) (hs:∀b∈L2,b∈L1):Step w L w' L2:=⟨h.os,h.tape,h.output,h.size,h.keep,λb hb=>h.sub b (hs b hb)⟩
theorem b2o {α:Type} {E:Enc α} {T e:TypeId} {agg:Bool} {k m m2 c:Nat} {z:List Value} {by':Nat} {x y:Operand} {ad a2:Option Addr} {c2:Nat} {xs ys:List α} (hT:P.underlying T=some (.slice e)) (ht:TyOk P e agg k z by') (hk:k=E.k)
  (hx:ev fr x=some (.slice ad m c)) (hy:ev fr y=some (.slice a2 m2 c2)) (hH:H=ow (Enc.sl e E) [.slice ad m c] xs::(pre++R)) (hm2:m2=ys.length)
  (hO:∀w,Hp w0 L0 H w→∀L,Sep pre w L→L.Nodup→∃news Ly,y8 E w news ys Ly true∧(∀b∈Ly,b∈L)∧Ly.Nodup∧((m2=0∧news=[])∨ ∃b o,a2=some ⟨b,o,none⟩∧L9 w b o news))
  (h63:m+m2≤9223372036854775807) (hbytes:(m+m2)*by'≤140737488355328) (hd:d<n):
  Nop P Q n w0 L0 fr H ⟨some d,.call ⟨.builtin .append, #[x,y], #[T,T]⟩,ty,pos,af,g⟩ false (κ:=Option Addr×Nat) (λp=>(d,.slice p.1 (m+m2) p.2)::fr) (λp=>ow (Enc.sl e E) [.slice p.1 (m+m2) p.2] (xs++ys)::R) (λ_=>True):=λK hK a w ha hw=>by
 subst hk
 have hw':=hw
 rw[hH] at hw'
 obtain ⟨L,⟨Lo,Lq,rfl,ho,hq⟩,hn,hst⟩:=hw'
 obtain ⟨Lp,LR,rfl,hp,hR⟩:=Sep.append.1 hq
 obtain ⟨ccs,L1,L2,rfl,g1,g2,g3,g4⟩:=a0V ho
 have hnp:Lp.Nodup:=(List.nodup_append.1 (List.nodup_append.1 hn).2.1).1
 obtain ⟨news,Ly,hy1,hy2,hy3,hsrc⟩:=hO w hw Lp hp hnp
 obtain ⟨a',c',w',L1',r1,r2,r3,r4,-⟩:=a3P (P:=P) (ty:=ty) (c2:=c2) hT ht E.pos g4 hsrc (by rw[hy1.len,hm2]) hy1.one h63 hbytes
 have hnn:((L1++(L2++Ly))++LR).Nodup:=by
  simp only[List.nodup_append] at hn ⊢
  obtain ⟨⟨n1,n2,n3⟩,⟨n4,n5,n6⟩,n7⟩:=hn
  refine ⟨⟨n1,⟨n2,hy3,λa ha b hb e=>?_⟩,λa ha b hb e=>?_⟩,n5,λa ha b hb e=>?_⟩
  ·exact n7 a (by simp[ha]) b (by simp[hy2 b hb]) e
  ·rcases List.mem_append.1 hb with hb|hb
   ·exact n3 a ha b hb e
   ·exact n7 a (by simp[ha]) b (by simp[hy2 b hb]) e
  ·simp only[List.mem_append] at ha
   rcases ha with ha|ha|ha
   ·exact n7 a (by simp[ha]) b (by simp[hb]) e
   ·exact n7 a (by simp[ha]) b (by simp[hb]) e
   ·exact n6 a (hy2 a ha) b hb e
 have hst':Step w0 L0 w ((L1++(L2++Ly))++LR):=hst.sublist λb hb=>by
  simp only[List.mem_append] at hb ⊢
  rcases hb with (hb|hb|hb)|hb
  ·exact .inl (.inl hb)
  ·exact .inl (.inr hb)
  ·exact .inr (.inl (hy2 b hb))
  ·exact .inr (.inr hb)
 obtain ⟨d1,d2,d3⟩:=b2B g1 hm2 h63 g3 hy1 (List.nodup_append.1 hnn).1 r2 r3 r4
 obtain ⟨k1,k2,k3⟩:=hst'.call hnn hR.inh d3 d2
 have hrun:(execOp a.eval ⟨some d,.call ⟨.builtin .append, #[x,y], #[T,T]⟩,ty,pos,af,g⟩).run P w= .ok (.value (.slice a' (m+m2) c')) w':=by
  simp only[execOp,resolve,ha.ev hx,ha.ev hy,List.map_toArray,List.map_cons,List.map_nil,Sem.run_bind,Sem.run_pure,Result.andThen_ok,invoke,builtin,r1]
 rw[Oper.wp,hrun]
 exact hK (a',c') trivial w _ _ (ha.put hd _) ⟨_,⟨_,LR,Z,d1,hR.stable k3⟩,k2,k1⟩ (by simp)
theorem w3 {α:Type} {E:Enc α} {T e e2:TypeId} {agg:Bool} {k m c:Nat} {z:List Value} {by':Nat} {x y:Operand} {ad a2:Option Addr} {c2:Nat} {xs:List α} {ce:List Value} {ex:α} (hT:P.underlying T=some (.slice e)) (ht:TyOk P e agg k z by') (hk:k=E.k)
  (hx:ev fr x=some (.slice ad m c)) (hy:ev fr y=some (.slice a2 1 c2)) (hO:Own pre E ce ex) (hH:H=ow (Enc.sl e E) [.slice ad m c] xs::row e2 k a2 1 c2 ce::(pre++R)) (h63:m+1≤9223372036854775807) (hbytes:(m+1)*by'≤140737488355328) (hd:d<n):
  Nop P Q n w0 L0 fr H ⟨some d,.call ⟨.builtin .append, #[x,y], #[T,T]⟩,ty,pos,af,g⟩ false (κ:=Option Addr×Nat) (λp=>(d,.slice p.1 (m+1) p.2)::fr) (λp=>ow (Enc.sl e E) [.slice p.1 (m+1) p.2] (xs++[ex])::R) (λ_=>True):=by
 subst hH
 refine b2o (pre:=row e2 k a2 1 c2 ce::pre) hT ht hk hx hy Z Z (λw hw L hL hn=>?_) h63 hbytes hd
 obtain ⟨Ls,Lp,rfl,hr,hp⟩:=hL
 have hrep:=hO w Lp hp
 refine ⟨ce,Lp,a3I hrep,λb hb=>by simp[hb],(List.nodup_append.1 hn).2.1,?_⟩
 obtain ⟨L',h0,h1⟩:=hw.mem (mS m0)
 rcases h1 with ⟨_,h2,_⟩|⟨g',cur,h2,h3,h4,h5,h6,h7,_⟩
 ·cases h2
 ·exact .inr ⟨g',0,h2,Has.row h2 (mS m0) w hw⟩
theorem a8Z {α:Type} {E:Enc α} {T e:TypeId} {agg:Bool} {k m m2 c:Nat} {z:List Value} {by':Nat} {x y:Operand} {ad a2:Option Addr} {c2:Nat} {xs ys:List α} (hT:P.underlying T=some (.slice e)) (ht:TyOk P e agg k z by') (hk:k=E.k)
  (hx:ev fr x=some (.slice ad m c)) (hy:ev fr y=some (.slice a2 m2 c2)) (hH:H=ow (Enc.sl e E) [.slice ad m c] xs::ow (Enc.sl e E) [.slice a2 m2 c2] ys::R) (hm2:m2=ys.length) (h63:m+m2≤9223372036854775807) (hbytes:(m+m2)*by'≤140737488355328) (hd:d<n):
  Nop P Q n w0 L0 fr H ⟨some d,.call ⟨.builtin .append, #[x,y], #[T,T]⟩,ty,pos,af,g⟩ false (κ:=Option Addr×Nat) (λp=>(d,.slice p.1 (m+m2) p.2)::fr) (λp=>ow (Enc.sl e E) [.slice p.1 (m+m2) p.2] (xs++ys)::R) (λ_=>True):=by
 subst hH
 refine b2o (pre:=[ow (Enc.sl e E) [.slice a2 m2 c2] ys]) hT ht hk hx hy Z hm2 (λw hw L hL hn=>?_) h63 hbytes hd
 obtain ⟨Ls,Lp,rfl,hr,hp⟩:=hL
 rw[Sep] at hp;subst hp
 obtain ⟨ccs,L1,L2,rfl,g1,g2,g3,g4⟩:=a0V hr
 refine ⟨ccs,L2,g3,λb hb=>by simp[hb],?_,?_⟩
 ·rw[List.append_nil] at hn;exact (List.nodup_append.1 hn).2.1
 ·obtain ⟨h0,h1⟩:=g4
  rcases h1 with ⟨_,h2,_⟩|⟨g',cur,h2,h3,h4,h5,h6,h7,_⟩
  ·exact .inl ⟨h2,List.eq_nil_of_length_eq_zero (by rw[h0,h2,Nat.zero_mul])⟩
  ·refine .inr ⟨g',0,h2,λj v hj=>?_⟩
   rw[←h7,List.getElem?_take] at hj
   split at hj
   ·simpa[World.cell?,h3] using hj
   ·cases hj
theorem b6Z {α:Type} {E:Enc α} {T e e2:TypeId} {agg:Bool} {k m m2 c:Nat} {z:List Value} {by':Nat} {x y:Operand} {ad a2:Option Addr} {c2:Nat} {xs ys:List α} (hE:Plain E) (hT:P.underlying T=some (.slice e)) (ht:TyOk P e agg k z by') (hk:k=E.k)
  (hx:ev fr x=some (.slice ad m c)) (hy:ev fr y=some (.slice a2 m2 c2)) (hr:Ro w0 L0 (Enc.sl e2 E) [.slice a2 m2 c2] ys) (hH:H=ow (Enc.sl e E) [.slice ad m c] xs::R) (h63:m+m2≤9223372036854775807) (hbytes:(m+m2)*by'≤140737488355328) (hd:d<n):
  Nop P Q n w0 L0 fr H ⟨some d,.call ⟨.builtin .append, #[x,y], #[T,T]⟩,ty,pos,af,g⟩ false (κ:=Option Addr×Nat) (λp=>(d,.slice p.1 (m+m2) p.2)::fr) (λp=>ow (Enc.sl e E) [.slice p.1 (m+m2) p.2] (xs++ys)::R) (λ_=>True):=by
 subst hH
 obtain ⟨ccs,⟨Lc,h1⟩,h2,h3⟩:=hr.src
 refine b2o (pre:=[]) hT ht hk hx hy Z hr.slen.1 (λw hw L hL hn=>?_) h63 hbytes hd
 refine ⟨ccs,[],?_,by simp,by simp,(h3 _).imp id λ⟨b,o,k1,k2⟩=>⟨b,o,k1,k2 w hw⟩⟩
 have:=hE.elems h1
 exact this.stable (by simp)
theorem y8.set {α:Type} {E:Enc α} {w:World} {xs:List α} {ccs ce:List Value} {L Lx:List Nat} {x:α} {j:Nat} (h:y8 E w ccs xs L true) (hj:j<xs.length) (hx:E.rep w ce x Lx true) (hn:(L++Lx).Nodup):
  ∃L',y8 E w (ccs.take (j*E.k)++ce++ccs.drop (j*E.k+E.k)) (xs.set j x) L' true∧(∀b∈L',b∈L++Lx)∧L'.Nodup:=by
 have hxs:xs=xs.take j++(xs[j]::xs.drop (j+1)):=by simp
 rw[hxs] at h
 obtain ⟨c1,c2,L1,L2,rfl,rfl,h1,d1,d2,M1,M2,rfl,rfl,h2,h3⟩:=h.split
 have hl1:c1.length=j*E.k:=by rw[h1.len,List.length_take,Nat.min_eq_left (by omega)]
 have hl2:=E.len h2
 refine ⟨L1++(Lx++M2),?_,λb hb=>?_,?_⟩
 ·rw[List.set_eq_take_append_cons_drop,if_pos hj]
  have e1:(c1++(d1++d2)).take (j*E.k)=c1:=by rw[←hl1,List.take_left]
  have e2:(c1++(d1++d2)).drop (j*E.k+E.k)=d2:=by rw[←hl1, ←hl2, ←List.append_assoc, ←List.length_append,List.drop_left]
  rw[e1,e2,List.append_assoc]
  exact h1.app ⟨ce,d2,Lx,M2,Z,Z,hx,h3⟩
 ·simp only[List.mem_append] at hb ⊢
  rcases hb with hb|hb|hb
  ·exact .inl (.inl hb)
  ·exact .inr hb
  ·exact .inl (.inr (.inr hb))
 ·simp only[List.nodup_append,List.mem_append] at hn ⊢
  obtain ⟨⟨n1,⟨n2,n3,n4⟩,n5⟩,n6,n7⟩:=hn
  exact ⟨n1,⟨n6,n3,λa ha b hb e=>n7 b (.inr (.inr hb)) a ha e.symm⟩,λa ha b hb e=>hb.elim (λhb=>n7 a (.inl ha) b hb e) (λhb=>n5 a ha b (.inr hb) e)⟩
theorem N.set {α:Type} {E:Enc α} {T e:TypeId} {agg:Bool} {k m c:Nat} {z:List Value} {by':Nat} {x y:Operand} {b off j:Nat} {v:Value} {xs:List α} {ce:List Value} {ex:α} {ad:Option Addr} (ht:TyOk P T agg k z by') (hk:k=E.k) (hx:ev fr x=some (.pointer (some ⟨b,off,none⟩))) (hy:ev fr y=some v)
  (hv:v.cells=ce.toArray) (hO:Own pre E ce ex) (had:ad=some ⟨b,0,none⟩) (hoff:off=j*k) (hH:H=ow (Enc.sl e E) [.slice ad m c] xs::(pre++R)) (hj:j<xs.length):
  Nop P Q n w0 L0 fr H ⟨none,.store T x y,ty,pos,af,g⟩ false (κ:=Unit) (λ_=>fr) (λ_=>ow (Enc.sl e E) [.slice ad m c] (xs.set j ex)::R) (λ_=>True):=λK hK a w ha hw=>by
 subst hk;subst hoff
 have hw':=hw
 rw[hH] at hw'
 obtain ⟨L,⟨Lo,Lq,rfl,ho,hq⟩,hn,hst⟩:=hw'
 obtain ⟨Lp,LR,rfl,hp,hR⟩:=Sep.append.1 hq
 obtain ⟨ccs,L1,L2,rfl,g1,g2,g3,hlen,g4⟩:=a0V ho
 have hrep:=hO w Lp hp
 have hpos:=E.pos
 have hjm:j*E.k+E.k≤m*E.k:=by rw[←Nat.succ_mul];exact Nat.mul_le_mul_right _ (by omega)
 rcases g4 with ⟨rfl,rfl,rfl⟩|⟨g',cur,h2,hb,h4,h5,h6,h7,rfl⟩
 ·omega
 rw[had] at h2;cases h2
 have hcl:m*E.k≤cur.size:=by rw[h6];exact Nat.mul_le_mul_right _ h4
 have hrun:=a2x (P:=P) ht hv (E.len hrep) (E.one hrep) hb (off:=j*E.k) (by rw[E.len hrep];omega)
 have hnn:(L2++Lp).Nodup∧b∉L2∧b∉Lp:=by
  simp only[List.nodup_append,List.mem_append,List.mem_singleton] at hn ⊢
  obtain ⟨⟨n1,n2,n3⟩,⟨n4,n5,n6⟩,n7⟩:=hn
  exact ⟨⟨n2,n4,λx hx y hy e=>n7 x (.inr hx) y (.inl hy) e⟩,λh=>n3 b Z b h Z,λh=>n7 b (.inl Z) b (.inl h) Z⟩
 obtain ⟨L',e1,e2,e3⟩:=g3.set (j:=j) (by omega) hrep hnn.1
 have hbL:b∉L':=λh=>by rcases List.mem_append.1 (e2 b h) with h|h;(exact hnn.2.1 h);(exact hnn.2.2 h)
 have hLn:(([b]++L')++LR).Nodup:=by
  simp only[List.nodup_append,List.mem_append,List.mem_singleton] at hn ⊢
  obtain ⟨⟨n1,n2,n3⟩,⟨n4,n5,n6⟩,n7⟩:=hn
  refine ⟨⟨by simp,e3,λx hx y hy e=>hbL (by rw[←hx,e];exact hy)⟩,n5,λx hx y hy e=>?_⟩
  rcases hx with hx|hx
  ·exact n7 x (.inl hx) y (.inr hy) e
  ·rcases List.mem_append.1 (e2 x hx) with h|h
   ·exact n7 x (.inr h) y (.inr hy) e
   ·exact n6 x h y hy e
 have hst':Step w0 L0 w (([b]++L')++LR):=hst.sublist λx hx=>by
  simp only[List.mem_append,List.mem_singleton] at hx ⊢
  rcases hx with (hx|hx)|hx
  ·exact .inl (.inl hx)
  ·rcases List.mem_append.1 (e2 x hx) with h|h
   ·exact .inl (.inr h)
   ·exact .inr (.inl h)
  ·exact .inr (.inr hx)
 have hblt:=(Array.getElem?_eq_some_iff.1 hb).1
 have hstep:Step w ([b]++L') (w.setRow b (cur.toList.take (j*E.k)++ce++cur.toList.drop (j*E.k+ce.length)).toArray) ([b]++L'):=
  ⟨Z,Z,Z,by simp[World.setRow],λx _ hx=>setRow_other w b x _ (λh=>hx (by simp[h])),λx hx=>.inl hx⟩
 obtain ⟨k1,k2,k3⟩:=hst'.call hLn hR.inh hstep (List.nodup_append.1 hLn).1
 simp only[Oper.wp,execOp,ha.ev hx,ha.ev hy,Sem.run_bind,hrun,Result.andThen_ok,Sem.run_pure,Oper.upon_skip]
 refine hK () trivial w _ _ ha ⟨_,⟨[b]++L',LR,Z,⟨ad,m,c,ccs.take (j*E.k)++ce++ccs.drop (j*E.k+E.k),[b],L',Z,by simp[g1],g2,Z,?_,?_⟩,hR.stable k3⟩,k2,k1⟩ (by simp)
 ·exact e1.stable λx hx=>setRow_other w b x _ (λh=>hbL (h▸hx))
 ·have hcel:=E.len hrep
  refine ⟨by simp;omega,.inr ⟨b,_,had,setRow_heap w b _ _ _ _ hb,h4,h5,by simp;omega,?_,Z⟩⟩
  rw[←h7,hcel]
  rw[List.take_append,List.take_append]
  simp only[List.length_append,List.length_take,Array.length_toList,hcel]
  rw[List.take_of_length_le (l:=List.take (j*E.k) cur.toList) (by simp;omega),List.take_of_length_le (l:=ce) (by omega)]
  congr 1
  ·rw[List.take_take,Nat.min_eq_left (by omega)]
  ·rw[List.drop_take];congr 1;rw[Nat.min_eq_left (by omega)]
end
theorem c6h {e:TypeId} {b m c:Nat} {xs:List Int} {w0:World} {L0:List Nat} {H:List HP} (hm:ow (Enc.sl e Enc.int) [.slice (some ⟨b,0,none⟩) m c] xs∈H) (i:Nat) {x:Int} (hx:xs[i]? =some x):Has w0 L0 H b (0+i*1) [.int .i64 x]:=λw h=>by
 obtain ⟨L,hL⟩:=h.mem hm
 obtain ⟨ccs,L1,L2,_,g1,g2,g3,h0,g4⟩:=a0V hL
 obtain ⟨hi,rfl⟩:=List.getElem?_eq_some_iff.1 hx
 obtain ⟨hc,_,_⟩:=y8.ints.1 g3
 rcases g4 with ⟨_,h,_⟩|⟨g,cur,h2,h3,h4,h5,h6,h7,_⟩
 ·omega
 ·cases h2
  intro j v hj
  match j,hj with
  |0,hj=>
   simp at hj;subst hj
   have:(ccs:List Value)[i]? =some (.int .i64 xs[i]):=by rw[hc];simp[Go.Proofs.YthapcdhdfaibkaaGreatDoor.ints,hi]
   rw[←h7,List.getElem?_take] at this
   split at this
   ·simpa[World.cell?,h3] using this
   ·cases this
theorem Y.ext {P:Program} {n:Nat} {fr:Fr} {x:Operand} {i:Nat} {vs:Array Value} {v:Value} (hx:ev fr x=some (.tuple vs)) (hv:vs[i]? =some v):Yp P n fr (.extract x i) v:=λa h w' d t p af g=>by
 obtain ⟨h1,h2⟩:=Array.getElem?_eq_some_iff.1 hv
 simp[execOp,h.ev hx,Instr.extract,h1,h2]
end Go.Proofs.YthapcdhdfaibkaaGreatDoor

namespace Go.Proofs.YthapcdhdfaibkaaGreatDoor
open Go.RowKit
set_option linter.all false

def hole {α:Type} (e:TypeId) (E:Enc α) (a:Option Addr) (m c:Nat) (xs:List α) (j:Nat) (ce:List Value):HP where
 holds w L:=∃c1 c2 L1 L2 L3,L=L1++(L2++L3)∧m=xs.length∧m≤maxLen∧j<xs.length∧ce.length=E.k∧(∀u∈ce,u.oneCell'=true)∧y8 E w c1 (xs.take j) L2 true∧y8 E w c2 (xs.drop (j+1)) L3 true∧(row e E.k a m c (c1++(ce++c2))).holds w L1
 stable:=by
  rintro w w' L ⟨c1,c2,L1,L2,L3,rfl,h1,h2,h3,h4,h5,h6,h7,h8⟩ hb
  exact ⟨c1,c2,L1,L2,L3,Z,h1,h2,h3,h4,h5,h6.stable λb h=>hb b (by simp[h]),h7.stable λb h=>hb b (by simp[h]),(row e E.k a m c _).stable h8 λb h=>hb b (by simp[h])⟩
 inh:=by
  rintro w L ⟨c1,c2,L1,L2,L3,rfl,h1,h2,h3,h4,h5,h6,h7,h8⟩ b hb
  simp only[List.mem_append] at hb
  rcases hb with hb|hb|hb
  ·exact (row e E.k a m c _).inh h8 b hb
  ·exact h6.inh b hb
  ·exact h7.inh b hb
section
variable {n:Nat} {w0:World} {L0:List Nat} {fr:Fr} {H R:List HP} {G:Act→World→Prop} {α:Type} {E:Enc α} {e:TypeId} {a:Option Addr} {m c:Nat} {xs:List α}
theorem R1 (hm:ow (Enc.sl e E) [.slice a m c] xs∈H) (hlt:0<m) (h:∀b,a=some ⟨b,0,none⟩→Ent n w0 L0 fr H G):Ent n w0 L0 fr H G:=λac w h1 h2=>by
 obtain ⟨L,hL⟩:=h2.mem hm
 obtain ⟨ccs,L1,L2,_,g1,g2,_,_,g4⟩:=a0V hL
 rcases g4 with ⟨_,h0,_⟩|⟨g,cur,h3,_⟩
 ·omega
 ·exact h g h3 ac w h1 h2
theorem X9 (j:Nat) {x:α} (hx:xs[j]? =some x) (h:∀ce,Ent n w0 L0 fr (hole e E a m c xs j ce::ow E ce x::R) G):Ent n w0 L0 fr (ow (Enc.sl e E) [.slice a m c] xs::R) G:=λac w h1 h2=>by
 obtain ⟨hj,rfl⟩:=List.getElem?_eq_some_iff.1 hx
 obtain ⟨L,⟨Lo,LR,rfl,ho,hR⟩,hn,hst⟩:=h2
 obtain ⟨ccs,L1,L2,rfl,g1,g2,g3,g4⟩:=a0V ho
 have hxs:xs=xs.take j++(xs[j]::xs.drop (j+1)):=by simp
 rw[hxs] at g3
 obtain ⟨c1,cr,M1,Mr,rfl,rfl,k1,d1,d2,N1,N2,rfl,rfl,k2,k3⟩:=g3.split
 have hperm:(L1++(M1++(N1++N2))++LR).Perm (L1++(M1++N2)++(N1++LR)):=by
  simp only[List.append_assoc]
  refine (List.Perm.append_left L1 (List.Perm.append_left M1 ?_))
  rw[←List.append_assoc, ←List.append_assoc]
  exact (List.perm_append_comm).append_right LR
 refine h d1 ac w h1 ⟨L1++(M1++N2)++(N1++LR),⟨_,_,Z,⟨c1,d2,L1,M1,N2,Z,g1,g2,hj,E.len k2,E.one k2,k1,k3,g4⟩,N1,LR,Z,k2,hR⟩,hperm.nodup_iff.1 hn,hst.sublist λb hb=>hperm.mem_iff.2 hb⟩
theorem U1 {j:Nat} {ce:List Value} {x':α} {A:List HP} (hO:Own A E ce x') (hH:H=hole e E a m c xs j ce::(A++R)) (h:Ent n w0 L0 fr (ow (Enc.sl e E) [.slice a m c] (xs.set j x')::R) G):Ent n w0 L0 fr H G:=λac w h1 h2=>by
 subst hH
 obtain ⟨L,⟨Lo,Lq,rfl,ho,hq⟩,hn,hst⟩:=h2
 obtain ⟨LA,LR,rfl,hA,hR⟩:=Sep.append.1 hq
 obtain ⟨c1,c2,L1,L2,L3,rfl,g1,g2,hj,g4,_,g6,g7,g8⟩:=ho
 have hrep:=hO _ _ hA
 have hperm:(L1++(L2++L3)++(LA++LR)).Perm (L1++(L2++(LA++L3))++LR):=by
  simp only[List.append_assoc]
  refine (List.Perm.append_left L1 (List.Perm.append_left L2 ?_))
  rw[←List.append_assoc, ←List.append_assoc]
  exact (List.perm_append_comm).append_right LR
 refine h ac w h1 ⟨L1++(L2++(LA++L3))++LR,⟨_,LR,Z,⟨a,m,c,c1++(ce++c2),L1,L2++(LA++L3),Z,by simp[g1],g2,Z,?_,g8⟩,hR⟩,hperm.nodup_iff.1 hn,hst.sublist λb hb=>hperm.mem_iff.2 hb⟩
 rw[List.set_eq_take_append_cons_drop,if_pos hj]
 exact g6.app ⟨ce,c2,LA,L3,Z,Z,hrep,g7⟩
theorem Has.hole {j:Nat} {ce:List Value} {b o:Nat} (ha:a=some ⟨b,o,none⟩) (hm:Go.Proofs.YthapcdhdfaibkaaGreatDoor.hole e E a m c xs j ce∈H):Has w0 L0 H b (o+j*E.k) ce:=λw h=>by
 obtain ⟨L',c1,c2,L1,L2,L3,_,g1,g2,hj,g4,g5,g6,g7,h0,g8⟩:=h.mem hm
 rcases g8 with ⟨_,h,_⟩|⟨g',cur,h2,h3,h4,h5,h6,h7,_⟩
 ·omega
 rw[ha] at h2;cases h2
 have hl1:c1.length=j*E.k:=by rw[g6.len,List.length_take,Nat.min_eq_left (by omega)]
 intro i v hi
 have hi':(c1++(ce++c2))[j*E.k+i]? =some v:=by
  rw[←hl1,List.getElem?_append_right (by omega),show c1.length+i-c1.length=i from by omega]
  rw[List.getElem?_append_left (by exact (List.getElem?_eq_some_iff.1 hi).1)];exact hi
 rw[←h7,List.getElem?_take] at hi'
 split at hi'
 ·simpa[World.cell?,h3] using hi'
 ·cases hi'
end
section
variable {P:Program} {Q:Exit→Act→World→Prop} {n:Nat} {w0:World} {L0:List Nat} {fr:Fr} {H R pre:List HP} {d:Nat} {ty:TypeId} {pos:String} {af:Array Edge} {g:Option (Nat×Bool)}
theorem c4P {α:Type} {E:Enc α} {e:TypeId} {T:TypeId} {agg:Bool} {k kk m c j f:Nat} {z:List Value} {by':Nat} {x y:Operand} {b off:Nat} {v:Value} {xs:List α} {ce vs ce':List Value} {ad:Option Addr} (ht:TyOk P T agg k z by') (hx:ev fr x=some (.pointer (some ⟨b,off,none⟩))) (hy:ev fr y=some v)
  (hv:v.cells=vs.toArray) (hl:vs.length=k) (h1':vs.all (·.oneCell')=true) (had:ad=some ⟨b,0,none⟩) (hkk:kk=E.k) (hoff:off=0+j*kk+f) (hfit:f+k≤ce.length) (hcs:ce.take f++vs++ce.drop (f+k)=ce') (hH:H=hole e E ad m c xs j ce::R):
  Nop P Q n w0 L0 fr H ⟨none,.store T x y,ty,pos,af,g⟩ false (κ:=Unit) (λ_=>fr) (λ_=>hole e E ad m c xs j ce'::R) (λ_=>True):=λK hK a w ha hw=>by
 subst hkk;subst hoff;subst hH
 have hv1:=b8O h1'
 have hw':=hw
 obtain ⟨L,⟨Lo,LR,rfl,ho,hR⟩,hn,hst⟩:=hw'
 obtain ⟨c1,c2,L1,L2,L3,rfl,g1,g2,hj,g4,g5,g6,g7,hlen,g8⟩:=ho
 have hpos:=E.pos
 rcases g8 with ⟨_,h,_⟩|⟨g',cur,h2,hb,h4,h5,h6,h7,rfl⟩
 ·omega
 rw[had] at h2;cases h2
 have hl1:c1.length=j*E.k:=by rw[g6.len,List.length_take,Nat.min_eq_left (by omega)]
 have hjm:j*E.k+E.k≤m*E.k:=by rw[←Nat.succ_mul];exact Nat.mul_le_mul_right _ (by omega)
 have hcl:m*E.k≤cur.size:=by rw[h6];exact Nat.mul_le_mul_right _ h4
 have hrun:=a2x (P:=P) ht hv hl hv1 hb (off:=0+j*E.k+f) (by omega)
 have hbn:b∉L2∧b∉L3:=by
  simp only[List.nodup_append,List.mem_append,List.mem_singleton] at hn
  obtain ⟨⟨n1,n2,n3⟩,_⟩:=hn
  exact ⟨λh=>n3 b Z b (.inl h) Z,λh=>n3 b Z b (.inr h) Z⟩
 have hstep:Step w ([b]++(L2++L3)) (w.setRow b (cur.toList.take (0+j*E.k+f)++vs++cur.toList.drop (0+j*E.k+f+vs.length)).toArray) ([b]++(L2++L3)):=
  ⟨Z,Z,Z,by simp[World.setRow],λx _ hx=>setRow_other w b x _ (λh=>hx (by simp[h])),λx hx=>.inl hx⟩
 obtain ⟨k1,k2,k3⟩:=hst.call hn hR.inh hstep (List.nodup_append.1 hn).1
 simp only[Oper.wp,execOp,ha.ev hx,ha.ev hy,Sem.run_bind,hrun,Result.andThen_ok,Sem.run_pure,Oper.upon_skip]
 have hce':ce'.length=E.k:=by rw[←hcs];simp;omega
 refine hK () trivial w _ _ ha ⟨_,⟨[b]++(L2++L3),LR,Z,⟨c1,c2,[b],L2,L3,Z,g1,g2,hj,hce',?_,?_,?_,?_,?_⟩,hR.stable k3⟩,k2,k1⟩ (by simp)
 ·intro u hu
  rw[←hcs] at hu
  simp only[List.mem_append] at hu
  rcases hu with (hu|hu)|hu
  ·exact g5 u (List.mem_of_mem_take hu)
  ·exact hv1 u hu
  ·exact g5 u (List.mem_of_mem_drop hu)
 ·exact g6.stable λx hx=>setRow_other w b x _ (λh=>hbn.1 (h▸hx))
 ·exact g7.stable λx hx=>setRow_other w b x _ (λh=>hbn.2 (h▸hx))
 ·simp only[List.length_append] at hlen ⊢;omega
 ·refine .inr ⟨b,_,had,setRow_heap w b _ _ _ _ hb,h4,h5,by simp;omega,?_,Z⟩
  have hcut:(cur.toList.take (0+j*E.k+f)++vs++cur.toList.drop (0+j*E.k+f+vs.length)).take (m*E.k)=(cur.toList.take (m*E.k)).take (j*E.k+f)++vs++(cur.toList.take (m*E.k)).drop (j*E.k+f+k):=by
   rw[hl,Nat.zero_add,List.take_append,List.take_append]
   simp only[List.length_append,List.length_take,Array.length_toList,hl]
   rw[List.take_of_length_le (l:=List.take (j*E.k+f) cur.toList) (by simp;omega),List.take_of_length_le (l:=vs) (by omega)]
   congr 1
   ·rw[List.take_take,Nat.min_eq_left (by omega)]
   ·rw[List.drop_take];congr 1;rw[Nat.min_eq_left (by omega)]
  rw[show (cur.toList.take (0+j*E.k+f)++vs++cur.toList.drop (0+j*E.k+f+vs.length)).toArray.toList=cur.toList.take (0+j*E.k+f)++vs++cur.toList.drop (0+j*E.k+f+vs.length) from Z,hcut,h7, ←hl1, ←hcs]
  rw[List.take_append,List.drop_append,List.take_of_length_le (by omega),List.drop_eq_nil_of_le (by omega)]
  rw[show c1.length+f-c1.length=f from by omega,show c1.length+f+k-c1.length=f+k from by omega,List.take_append_of_le_length (by omega),List.drop_append_of_le_length (by omega)]
  simp

def a1G (P:Program) (T:TypeId):Option (List (Nat×Nat)):=match P.underlying T with
 |some (.struct fs)=>fs.toList.mapM λf=>(P.info? f.type).map λi=>(f.offset,i.size)
 |_=>none
theorem b0D {P:Program} {w:World}:∀(l:List Field) (pl:List (Nat×Nat)),l.mapM (λf=>(P.info? f.type).map λi=>(f.offset,i.size))=some pl→
  (l.mapM (m:=Sem) (λf=>do pure (f.offset, ←sizeOf f.type))).run P w= .ok pl w
 |[],pl,h=>by simp at h;subst h;simp
 |f::l,pl,h=>by
  simp only[List.mapM_cons,Option.pure_def,Option.bind_eq_bind,Option.bind_eq_some_iff,Option.some.injEq] at h
  obtain ⟨p,h1,ps,h2,rfl⟩:=h
  obtain ⟨i,hi,rfl⟩:=Option.map_eq_some_iff.1 h1
  have ih:=b0D (w:=w) l ps h2
  simp only[List.mapM_cons,Sem.run_bind,sizeOf,typeInfo,run_program,Result.andThen_ok,hi,Sem.run_pure]
  simp only[sizeOf,typeInfo] at ih
  rw[ih];rfl
theorem J2 {T:TypeId} {k:Nat} {z:List Value} {by':Nat} {pl:List (Nat×Nat)} {ps:Array (Nat×Operand)} {pvs:List (Nat×Value)} {cs:List Value} (ht:TyOk P T true k z by') (hpl:a1G P T=some pl)
  (hps:ps.toList.mapM (λp=>(ev fr p.2).map λv=>(p.1,v))=some pvs) (hfill:Instr.fill (pl.toArray[·]?) z.toArray pvs=some cs.toArray):Yp P n fr (.build T ps) (.agg cs.toArray):=λa ha w' d t p af g=>by
 unfold a1G at hpl
 split at hpl
 ·rename_i fs hs
  obtain ⟨zv,hz1,hz2⟩:=ht.run_zero w'
  have hpv:∀(l:List (Nat×Operand)) (pvs:List (Nat×Value)),l.mapM (λp=>(ev fr p.2).map λv=>(p.1,v))=some pvs→l.map (λp=>(p.1,a.eval p.2))=pvs:=by
   intro l
   induction l with
   |nil=>intro vs hv;simp at hv;subst hv;rfl
   |cons x xs ih=>
    intro vs hv
    simp only[List.mapM_cons,Option.pure_def,Option.bind_eq_bind,Option.bind_eq_some_iff,Option.some.injEq] at hv
    obtain ⟨v,h1,vs',h2,rfl⟩:=hv
    obtain ⟨u,h3,rfl⟩:=Option.map_eq_some_iff.1 h1
    simp[ih _ h2,ha.ev h3]
  have hps':=hpv _ _ hps
  have hpl':=b0D (P:=P) (w:=w') fs.toList pl hpl
  have hpls:(fs.mapM (m:=Sem) λf=>do pure (f.offset, ←sizeOf f.type)).run P w'= .ok pl.toArray w':=by
   rw[Array.mapM_eq_mapM_toList]
   simp only[Sem.run_map,hpl',Result.andThen_ok]
  simp only[execOp,Instr.build,Sem.run_bind,hz1,Result.andThen_ok,run_underlying hs,hpls,hz2,Array.toList_map,hps',hfill,Sem.run_pure]
 ·cases hpl
end
end Go.Proofs.YthapcdhdfaibkaaGreatDoor

namespace Go.Proofs.YthapcdhdfaibkaaGreatDoor
open Go.RowKit
set_option linter.all false
theorem a6u:a1G Tryz.prog tFact=some [(0,1),(1,1)]:=by kernel_rfl
theorem a8X:a1G Tryz.prog tAtom=some [(0,1),(1,1)]:=by kernel_rfl
theorem a8r:a1G Tryz.prog tAccess=some [(0,1),(1,1)]:=by kernel_rfl
theorem pl_Step:a1G Tryz.prog tStep=some [(0,1),(1,1)]:=by kernel_rfl
theorem a2B:a1G Tryz.prog tQuery=some [(0,1),(1,1)]:=by kernel_rfl
theorem pl_Binding:a1G Tryz.prog tBinding=some [(0,1),(1,1)]:=by kernel_rfl
theorem b3f:a1G Tryz.prog tMethod=some [(0,1),(1,1),(2,1),(3,1),(4,1)]:=by kernel_rfl
theorem pl_Run:a1G Tryz.prog tRun=some [(0,1),(1,1),(2,1),(3,1)]:=by kernel_rfl
theorem N3 {x:IL} {A1:List HP} {a1:Option Addr} {m1 c1:Nat} (h0:I64 x.1) (h1:Own A1 eIs [.slice a1 m1 c1] x.2):Own ([]++A1) I3 [.int .i64 x.1,.slice a1 m1 c1] x:=(Own.pair (Own.int h0) h1)
theorem a8A {n:Nat} {w0:World} {L0:List Nat} {fr:Fr} {R:List HP} {G:Act→World→Prop} {cs:List Value} {x:IL} (h:∀(a1:Option Addr) (m1 c1:Nat),cs=[.int .i64 x.1,.slice a1 m1 c1]→I64 x.1→m1=x.2.length→  Ent n w0 L0 fr (ow eIs [.slice a1 m1 c1] x.2::R) G):Ent n w0 L0 fr (ow I3 cs x::R) G:=λa w h1 h2=>by
 obtain ⟨L,⟨Lx,LR,rfl,hx,hR⟩,hn,hst⟩:=h2
 obtain ⟨_,_,_,_,rfl,rfl,h1x,g1x⟩:=hx
 obtain ⟨rfl,ih1x,rfl⟩:=h1x
 obtain ⟨ag1x,mg1x,cg1x,ccg1x,Lag1x,Lbg1x,rfl,eg1x,gg1x,rfl,kg1x,rg1x⟩:=g1x
 refine h ag1x mg1x cg1x Z ih1x eg1x a w h1 ⟨_,⟨Lag1x++Lbg1x,_,Z,⟨ag1x,mg1x,cg1x,ccg1x,Lag1x,Lbg1x,Z,eg1x,gg1x,Z,kg1x,rg1x⟩,hR⟩,?_,?_⟩
 ·simpa[List.append_assoc] using hn
 ·simpa[List.append_assoc] using hst
theorem O3 {x:IL} {A1:List HP} {a1:Option Addr} {m1 c1:Nat} (h0:I64 x.1) (h1:Own A1 eIs [.slice a1 m1 c1] x.2):Own ([]++A1) W5 [.int .i64 x.1,.slice a1 m1 c1] x:=(Own.pair (Own.int h0) h1)
theorem a4n {n:Nat} {w0:World} {L0:List Nat} {fr:Fr} {R:List HP} {G:Act→World→Prop} {cs:List Value} {x:IL} (h:∀(a1:Option Addr) (m1 c1:Nat),cs=[.int .i64 x.1,.slice a1 m1 c1]→I64 x.1→m1=x.2.length→  Ent n w0 L0 fr (ow eIs [.slice a1 m1 c1] x.2::R) G):Ent n w0 L0 fr (ow W5 cs x::R) G:=λa w h1 h2=>by
 obtain ⟨L,⟨Lx,LR,rfl,hx,hR⟩,hn,hst⟩:=h2
 obtain ⟨_,_,_,_,rfl,rfl,h1x,g1x⟩:=hx
 obtain ⟨rfl,ih1x,rfl⟩:=h1x
 obtain ⟨ag1x,mg1x,cg1x,ccg1x,Lag1x,Lbg1x,rfl,eg1x,gg1x,rfl,kg1x,rg1x⟩:=g1x
 refine h ag1x mg1x cg1x Z ih1x eg1x a w h1 ⟨_,⟨Lag1x++Lbg1x,_,Z,⟨ag1x,mg1x,cg1x,ccg1x,Lag1x,Lbg1x,Z,eg1x,gg1x,Z,kg1x,rg1x⟩,hR⟩,?_,?_⟩
 ·simpa[List.append_assoc] using hn
 ·simpa[List.append_assoc] using hst
theorem a8B {x:IL} {A1:List HP} {a1:Option Addr} {m1 c1:Nat} (h0:I64 x.1) (h1:Own A1 eIs [.slice a1 m1 c1] x.2):Own ([]++A1) a0i [.int .i64 x.1,.slice a1 m1 c1] x:=(Own.pair (Own.int h0) h1)
theorem a4G {x:Int×Int}  (h0:I64 x.1) (h1:I64 x.2):Own ([]++[]) a3r [.int .i64 x.1,.int .i64 x.2] x:=(Own.pair (Own.int h0) (Own.int h1))
theorem b9v {n:Nat} {w0:World} {L0:List Nat} {fr:Fr} {R:List HP} {G:Act→World→Prop} {cs:List Value} {x:Int×Int} (h:  cs=[.int .i64 x.1,.int .i64 x.2]→I64 x.1→I64 x.2→  Ent n w0 L0 fr (R) G):Ent n w0 L0 fr (ow a3r cs x::R) G:=λa w h1 h2=>by
 obtain ⟨L,⟨Lx,LR,rfl,hx,hR⟩,hn,hst⟩:=h2
 obtain ⟨_,_,_,_,rfl,rfl,h1x,g1x⟩:=hx
 obtain ⟨rfl,ih1x,rfl⟩:=h1x
 obtain ⟨rfl,ig1x,rfl⟩:=g1x
 refine h  Z ih1x ig1x a w h1 ⟨_,hR,?_,?_⟩
 ·simpa[List.append_assoc] using hn
 ·simpa[List.append_assoc] using hst
theorem Q9 {x:List Int×List IL} {A0:List HP} {a0:Option Addr} {m0 c0:Nat} {A1:List HP} {a1:Option Addr} {m1 c1:Nat} (h0:Own A0 eIs [.slice a0 m0 c0] x.1) (h1:Own A1 v8 [.slice a1 m1 c1] x.2):Own (A0++A1) O6 [.slice a0 m0 c0,.slice a1 m1 c1] x:=(Own.pair h0 h1)
theorem a4F {n:Nat} {w0:World} {L0:List Nat} {fr:Fr} {R:List HP} {G:Act→World→Prop} {cs:List Value} {x:List Int×List IL} (h:∀(a0:Option Addr) (m0 c0:Nat) (a1:Option Addr) (m1 c1:Nat),cs=[.slice a0 m0 c0,.slice a1 m1 c1]→m0=x.1.length→m1=x.2.length→  Ent n w0 L0 fr (ow eIs [.slice a0 m0 c0] x.1::ow v8 [.slice a1 m1 c1] x.2::R) G):Ent n w0 L0 fr (ow O6 cs x::R) G:=λa w h1 h2=>by
 obtain ⟨L,⟨Lx,LR,rfl,hx,hR⟩,hn,hst⟩:=h2
 obtain ⟨_,_,_,_,rfl,rfl,h1x,g1x⟩:=hx
 obtain ⟨ah1x,mh1x,ch1x,cch1x,Lah1x,Lbh1x,rfl,eh1x,gh1x,rfl,kh1x,rh1x⟩:=h1x
 obtain ⟨ag1x,mg1x,cg1x,ccg1x,Lag1x,Lbg1x,rfl,eg1x,gg1x,rfl,kg1x,rg1x⟩:=g1x
 refine h ah1x mh1x ch1x ag1x mg1x cg1x Z eh1x eg1x a w h1 ⟨_,⟨Lah1x++Lbh1x,_,Z,⟨ah1x,mh1x,ch1x,cch1x,Lah1x,Lbh1x,Z,eh1x,gh1x,Z,kh1x,rh1x⟩,⟨Lag1x++Lbg1x,_,Z,⟨ag1x,mg1x,cg1x,ccg1x,Lag1x,Lbg1x,Z,eg1x,gg1x,Z,kg1x,rg1x⟩,hR⟩⟩,?_,?_⟩
 ·simpa[List.append_assoc] using hn
 ·simpa[List.append_assoc] using hst
theorem U5 {x:List Int×List Int} {A0:List HP} {a0:Option Addr} {m0 c0:Nat} {A1:List HP} {a1:Option Addr} {m1 c1:Nat} (h0:Own A0 eIs [.slice a0 m0 c0] x.1) (h1:Own A1 eIs [.slice a1 m1 c1] x.2):Own (A0++A1) J7 [.slice a0 m0 c0,.slice a1 m1 c1] x:=(Own.pair h0 h1)
theorem a5g {n:Nat} {w0:World} {L0:List Nat} {fr:Fr} {R:List HP} {G:Act→World→Prop} {cs:List Value} {x:List Int×List Int} (h:∀(a0:Option Addr) (m0 c0:Nat) (a1:Option Addr) (m1 c1:Nat),cs=[.slice a0 m0 c0,.slice a1 m1 c1]→m0=x.1.length→m1=x.2.length→  Ent n w0 L0 fr (ow eIs [.slice a0 m0 c0] x.1::ow eIs [.slice a1 m1 c1] x.2::R) G):Ent n w0 L0 fr (ow J7 cs x::R) G:=λa w h1 h2=>by
 obtain ⟨L,⟨Lx,LR,rfl,hx,hR⟩,hn,hst⟩:=h2
 obtain ⟨_,_,_,_,rfl,rfl,h1x,g1x⟩:=hx
 obtain ⟨ah1x,mh1x,ch1x,cch1x,Lah1x,Lbh1x,rfl,eh1x,gh1x,rfl,kh1x,rh1x⟩:=h1x
 obtain ⟨ag1x,mg1x,cg1x,ccg1x,Lag1x,Lbg1x,rfl,eg1x,gg1x,rfl,kg1x,rg1x⟩:=g1x
 refine h ah1x mh1x ch1x ag1x mg1x cg1x Z eh1x eg1x a w h1 ⟨_,⟨Lah1x++Lbh1x,_,Z,⟨ah1x,mh1x,ch1x,cch1x,Lah1x,Lbh1x,Z,eh1x,gh1x,Z,kh1x,rh1x⟩,⟨Lag1x++Lbg1x,_,Z,⟨ag1x,mg1x,cg1x,ccg1x,Lag1x,Lbg1x,Z,eg1x,gg1x,Z,kg1x,rg1x⟩,hR⟩⟩,?_,?_⟩
 ·simpa[List.append_assoc] using hn
 ·simpa[List.append_assoc] using hst
theorem a8C {x:Int×List Int×Int×Int×Int} {A1:List HP} {a1:Option Addr} {m1 c1:Nat} (h0:I64 x.1) (h1:Own A1 eIs [.slice a1 m1 c1] x.2.1) (h2:I64 x.2.2.1) (h3:I64 x.2.2.2.1) (h4:I64 x.2.2.2.2):Own ([]++(A1++([]++([]++[])))) V6 [.int .i64 x.1,.slice a1 m1 c1,.int .i64 x.2.2.1,.int .i64 x.2.2.2.1,.int .i64 x.2.2.2.2] x:=(Own.pair (Own.int h0) (Own.pair h1 (Own.pair (Own.int h2) (Own.pair (Own.int h3) (Own.int h4)))))
end Go.Proofs.YthapcdhdfaibkaaGreatDoor

namespace Go.Proofs.YthapcdhdfaibkaaGreatDoor
open Go.RowKit
set_option linter.all false
variable {P:Program} {n:Nat} {fr:Fr}
theorem b5I {x y:Operand} {T U:TypeId} {a b:Bool} (hT:P.underlying T=some .bool) (hx:ev fr x=some (.bool a)) (hy:ev fr y=some (.bool b)):Yp P n fr (.binOp .eql T x y U) (.bool (decide (a=b))):=λac h w' d t p af g=>by
 have e:(a==b)=decide (a=b):=by cases a<;>cases b<;>rfl
 have e2:Sem.run P (Op.equal T (.bool a) (.bool b)) w'= .ok (a==b) w':=run_equalIn_bool' w' 9999 T a b hT
 simp[execOp,h.ev hx,h.ev hy,eqGuard,binOp,e,e2]
theorem c3S {x y:Operand} {T U:TypeId} {a b:Bool} (hT:P.underlying T=some .bool) (hx:ev fr x=some (.bool a)) (hy:ev fr y=some (.bool b)):Yp P n fr (.binOp .neq T x y U) (.bool (decide (a≠b))):=λac h w' d t p af g=>by
 have e2:Sem.run P (Op.equal T (.bool a) (.bool b)) w'= .ok (a==b) w':=run_equalIn_bool' w' 9999 T a b hT
 simp[execOp,h.ev hx,h.ev hy,eqGuard,binOp,e2]
 cases a<;>cases b<;>rfl
theorem b5H {x y:Operand} {T U e:TypeId} {a:Option Addr} {l c:Nat} (hT:P.underlying T=some (.slice e)) (hx:ev fr x=some (.slice a l c)) (hy:ev fr y=some (.slice none 0 0)):Yp P n fr (.binOp .eql T x y U) (.bool a.isNone):=λac h w' d t p af g=>by
 have e2:Sem.run P (Op.equal T (.slice a l c) (.slice none 0 0)) w'= .ok a.isNone w':=run_equalIn_slice_nil w' 9999 T e a l c hT
 simp[execOp,h.ev hx,h.ev hy,eqGuard,binOp,e2]
end Go.Proofs.YthapcdhdfaibkaaGreatDoor

namespace Go.Proofs.YthapcdhdfaibkaaGreatDoor
open Go.RowKit
set_option linter.all false
def Mid (Q:Exit→Act→World→Prop) (n:Nat) (w0:World) (L0:List Nat) {κ:Type} (φ:κ→Prop) (frk:κ→Fr) (Hk:κ→List HP):Exit→Act→World→Prop
 | .normal,a,w=>∃k,φ k∧Fr.ok n (frk k) a∧Hp w0 L0 (Hk k) w
 |e,a,w=>Q e a w
instance c5j {Q:Exit→Act→World→Prop} [h:NoPan Q] {n:Nat} {w0:World} {L0:List Nat} {κ:Type} {φ:κ→Prop} {frk:κ→Fr} {Hk:κ→List HP}:NoPan (Mid Q n w0 L0 φ frk Hk):=⟨λc a d v w x=>h.out c a d v w x⟩
section
variable {P:Program} {Q:Exit→Act→World→Prop} {n:Nat} {w0:World} {L0:List Nat} {fr:Fr} {H:List HP} {κ:Type} {φ:κ→Prop} {frk:κ→Fr} {Hk:κ→List HP}
theorem a2X {c:Code} {κ:Type} (φ:κ→Prop) (frk:κ→Fr) (Hk:κ→List HP) (h:Ent n w0 L0 fr H (c.wp P (Mid Q n w0 L0 φ frk Hk))) (h2:∀k,φ k→Ent n w0 L0 (frk k) (Hk k) (Q .normal)):Ent n w0 L0 fr H (c.wp P Q):=λa w a1 a2=>by
 refine wp_mono (h a w a1 a2) λe a' w' hm=>?_
 cases e with
 |normal=>obtain ⟨k,k1,k2,k3⟩:=hm;exact h2 k k1 a' w' k2 k3
 |_=>exact hm
theorem P8 (k:κ) (hφ:φ k) (hfr:Fr.sub (frk k) fr) (hH:H.Perm (Hk k)):Ent n w0 L0 fr H (Mid Q n w0 L0 φ frk Hk .normal):=λ_ _ h1 h2=>⟨k,hφ,h1.weak hfr.get,h2.perm hH⟩
variable {ops:Array Oper} {qt:Nat→Bool} {fuel:Nat} {listed:Array Bool} {op:Op} {ty:TypeId} {pos:String} {af:Array Edge} {g:Option (Nat×Bool)}
def Pk (P:Program) (ops:Array Oper) (Q:Exit→Act→World→Prop) (qt:Nat→Bool) (fuel:Nat) (listed:Array Bool) (i:Nat) (a:Act) (w:World):Prop:=
 wpOp P ops Q i (λa' w'=>(qt i=true→Ext w w')∧T9 P ops Q qt fuel (listed.setIfInBounds i true) a' w') a w
theorem a1D {i j:Nat} (hr:Region.ready .any ops listed=[i,j]) (h1:Ent n w0 L0 fr H (Pk P ops Q qt fuel listed i)) (h2:Ent n w0 L0 fr H (Pk P ops Q qt fuel listed j)):Ent n w0 L0 fr H (T9 P ops Q qt (fuel+1) listed):=λa w a1 a2=>by
 refine ⟨λh=>absurd (hr▸h) (by simp),λx hx=>?_⟩
 rw[hr] at hx
 simp only[List.mem_cons,List.not_mem_nil,or_false] at hx
 rcases hx with rfl|rfl
 ·exact h1 a w a1 a2
 ·exact h2 a w a1 a2
theorem W3 (i:Nat) {dst:Option Tmp} {κ:Type} {fr':κ→Fr} {H':κ→List HP} {φ:κ→Prop} {q:Bool} (ho:ops[i]? =some ⟨dst,op,ty,pos,af,g⟩) (hg:N6 ops fr g=some true) (hqt:(qt i=true→q=true))
  (hn:Nop P Q n w0 L0 fr H ⟨dst,op,ty,pos,af,g⟩ q fr' H' φ) (h:∀k,φ k→Ent n w0 L0 (fr' k) (H' k) (T9 P ops Q qt fuel (listed.setIfInBounds i true))):Ent n w0 L0 fr H (Pk P ops Q qt fuel listed i):=λa w h1 h2=>by
 rw[Pk,wpOp]
 simp only[ho]
 rw[Q8 (o:=⟨dst,op,ty,pos,af,g⟩) h1 hg,if_pos Z]
 exact .inl (hn (λw a' w'=>(qt i=true→Ext w w')∧T9 P ops Q qt fuel (listed.setIfInBounds i true) a' w') (λk hk w a' w' h3 h4 h5=>⟨λhq=>h5 (hqt hq),h k hk a' w' h3 h4⟩) a w h1 h2)
end
theorem H1 {n:Nat} {w0:World} {L0:List Nat} {fr:Fr} {G:Act→World→Prop} {H:List HP} {X A0 A1 A2 A3 A4 A5 A6:HP} (x:Ent n w0 L0 fr (X::A0::A1::A2::A3::A4::A5::A6::H) G):Ent n w0 L0 fr (A0::A1::A2::A3::A4::A5::A6::X::H) G:=Ent.perm (List.perm_middle (a:=X) (l₁:=[A0,A1,A2,A3,A4,A5,A6]) (l₂:=H)) x
theorem B4 {n:Nat} {w0:World} {L0:List Nat} {fr:Fr} {G:Act→World→Prop} {H:List HP} {X A0 A1 A2 A3 A4 A5 A6 A7:HP} (x:Ent n w0 L0 fr (X::A0::A1::A2::A3::A4::A5::A6::A7::H) G):Ent n w0 L0 fr (A0::A1::A2::A3::A4::A5::A6::A7::X::H) G:=Ent.perm (List.perm_middle (a:=X) (l₁:=[A0,A1,A2,A3,A4,A5,A6,A7]) (l₂:=H)) x
theorem a8y {n:Nat} {w0:World} {L0:List Nat} {fr:Fr} {G:Act→World→Prop} {H:List HP} {X A0 A1 A2 A3 A4 A5 A6 A7 A8:HP} (x:Ent n w0 L0 fr (X::A0::A1::A2::A3::A4::A5::A6::A7::A8::H) G):Ent n w0 L0 fr (A0::A1::A2::A3::A4::A5::A6::A7::A8::X::H) G:=Ent.perm (List.perm_middle (a:=X) (l₁:=[A0,A1,A2,A3,A4,A5,A6,A7,A8]) (l₂:=H)) x
theorem a6w {n:Nat} {w0:World} {L0:List Nat} {fr:Fr} {G:Act→World→Prop} {H:List HP} {X A0 A1 A2 A3 A4 A5 A6 A7 A8 A9:HP} (x:Ent n w0 L0 fr (X::A0::A1::A2::A3::A4::A5::A6::A7::A8::A9::H) G):Ent n w0 L0 fr (A0::A1::A2::A3::A4::A5::A6::A7::A8::A9::X::H) G:=Ent.perm (List.perm_middle (a:=X) (l₁:=[A0,A1,A2,A3,A4,A5,A6,A7,A8,A9]) (l₂:=H)) x
theorem G0 {n:Nat} {w0:World} {L0:List Nat} {fr:Fr} {G:Act→World→Prop} {H:List HP} {X A0 A1 A2 A3 A4 A5 A6 A7 A8 A9 A10:HP} (x:Ent n w0 L0 fr (X::A0::A1::A2::A3::A4::A5::A6::A7::A8::A9::A10::H) G):Ent n w0 L0 fr (A0::A1::A2::A3::A4::A5::A6::A7::A8::A9::A10::X::H) G:=Ent.perm (List.perm_middle (a:=X) (l₁:=[A0,A1,A2,A3,A4,A5,A6,A7,A8,A9,A10]) (l₂:=H)) x
theorem H2 {n:Nat} {w0:World} {L0:List Nat} {fr:Fr} {G:Act→World→Prop} {H:List HP} {X A0 A1 A2 A3 A4 A5 A6 A7 A8 A9 A10 A11:HP} (x:Ent n w0 L0 fr (X::A0::A1::A2::A3::A4::A5::A6::A7::A8::A9::A10::A11::H) G):Ent n w0 L0 fr (A0::A1::A2::A3::A4::A5::A6::A7::A8::A9::A10::A11::X::H) G:=Ent.perm (List.perm_middle (a:=X) (l₁:=[A0,A1,A2,A3,A4,A5,A6,A7,A8,A9,A10,A11]) (l₂:=H)) x
theorem C2 {n:Nat} {w0:World} {L0:List Nat} {fr:Fr} {G:Act→World→Prop} {H:List HP} {X A0 A1 A2 A3 A4 A5 A6 A7 A8 A9 A10 A11 A12:HP} (x:Ent n w0 L0 fr (X::A0::A1::A2::A3::A4::A5::A6::A7::A8::A9::A10::A11::A12::H) G):Ent n w0 L0 fr (A0::A1::A2::A3::A4::A5::A6::A7::A8::A9::A10::A11::A12::X::H) G:=Ent.perm (List.perm_middle (a:=X) (l₁:=[A0,A1,A2,A3,A4,A5,A6,A7,A8,A9,A10,A11,A12]) (l₂:=H)) x
theorem c4C {len k:Nat} {z:List Value} {pvs:List (Nat×Value)} {r:Option (Array Value)} (hz:z.length=k) (h:Instr.fill (λi=>some (i*k,k)) (a1J len z).toArray pvs=r):
  Instr.fill (λi=>some (i*k,k)) ((Array.range (len*k)).map (z.toArray[· % z.toArray.size]!)) pvs=r:=by
 subst hz;rw[b2w];exact h
end Go.Proofs.YthapcdhdfaibkaaGreatDoor

namespace Go.Proofs.YthapcdhdfaibkaaGreatDoor
open Go.RowKit
set_option linter.all false
variable {P:Program} {n:Nat} {fr:Fr}
theorem a1m {w:World} {i:Nat} {y:Nat} {code:BoundsCode} (h:i≤y):(Instr.sliceBound (.int .i64 (i:Int)) y code).run P w= .ok i w:=by
 have h1:(0:Int)≤(i:Int)∧(i:Int)≤(y:Int):=by omega
 simp[Instr.sliceBound,asIntOf,h1]
theorem a2T {x y:Operand} {T e:TypeId} {agg:Bool} {k:Nat} {z:List Value} {by':Nat} {a:Option Addr} {m c h:Nat} (hT:P.underlying T=some (.slice e)) (ht:TyOk P e agg k z by') (hx:ev fr x=some (.slice a m c)) (hy:ev fr y=some (.int .i64 (h:Int))) (hh:h≤c):
  Yp P n fr (.slice T x none (some y) none) (.slice a h c):=λac hf w' d t p af g=>by
 have e1:Option.map (λx:Addr=>x.add 0) a=a:=by cases a<;>simp[Addr.add]
 simp[execOp,hf.ev hx,hf.ev hy,Instr.sliceAt,Instr.slice,Instr.sliceBounds,a1m hh,run_underlying hT,ht.run_sizeOf]
 intro _;exact e1
theorem a5i {x y:Operand} {T e:TypeId} {agg:Bool} {k:Nat} {z:List Value} {by':Nat} {a:Option Addr} {m c l:Nat} (hT:P.underlying T=some (.slice e)) (ht:TyOk P e agg k z by') (hx:ev fr x=some (.slice a m c)) (hy:ev fr y=some (.int .i64 (l:Int))) (hh:l≤m):
  Yp P n fr (.slice T x (some y) none none) (.slice (if c=l then a else a.map (·.add (l*k))) (m-l) (c-l)):=λac hf w' d t p af g=>by
 simp[execOp,hf.ev hx,hf.ev hy,Instr.sliceAt,Instr.slice,Instr.sliceBounds,a1m hh,run_underlying hT,ht.run_sizeOf]
theorem a8E {x y:Operand} {T U:TypeId} {a b:Int} (hx:ev fr x=some (.int .i64 a)) (hy:ev fr y=some (.int .i64 b)) (ha:0≤a) (hb:1≤b):Yp P n fr (.binOp .rem T x y U) (.int .i64 (a % b)):=λac hF w' d t p af g=>by
 have h2:¬b=0:=by omega
 have h3:a.tmod b=a % b:=Int.tmod_eq_emod_of_nonneg ha
 simp[execOp,hF.ev hx,hF.ev hy,eqGuard_rem,binOp_rem,Op.intDiv,h2,h3]
theorem Y.shr {x y:Operand} {T U:TypeId} {a b:Int} (hx:ev fr x=some (.int .i64 a)) (hy:ev fr y=some (.int .i64 b)) (h0:0≤b) (h1:b≤64):Yp P n fr (.binOp .shr T x y U) (.int .i64 (a/2^b.toNat)):=λac h w' d t p af g=>by
 simp[execOp,h.ev hx,h.ev hy,eqGuard_shr,binOp_shr]
def a0P (a b:Int):Int:=IntKind.i64.wrap ((BitVec.ofInt 64 a&&&BitVec.ofInt 64 b).toNat:Int)
theorem Y.and {x y:Operand} {T U:TypeId} {a b:Int} (hx:ev fr x=some (.int .i64 a)) (hy:ev fr y=some (.int .i64 b)):Yp P n fr (.binOp .and T x y U) (.int .i64 (a0P a b)):=λac h w' d t p af g=>by
 simp[execOp,h.ev hx,h.ev hy,eqGuard_and,binOp_and,Op.intBits,a0P]
 rfl
theorem c4S {x y:Operand} {ts:Array TypeId} {a b:Int} (hx:ev fr x=some (.int .i64 a)) (hy:ev fr y=some (.int .i64 b)):Yp P n fr (.call ⟨.builtin .min, #[x,y],ts⟩) (.int .i64 (if b<a then b else a)):=λac h w' d t p af g=>by
 simp[execOp,resolve,invoke,builtin,Builtin.min_,Builtin.min2,h.ev hx,h.ev hy]
theorem c4W {x y:Operand} {ts:Array TypeId} {a b:Nat} (hx:ev fr x=some (.int .i64 (a:Int))) (hy:ev fr y=some (.int .i64 (b:Int))):Yp P n fr (.call ⟨.builtin .min, #[x,y],ts⟩) (.int .i64 ((min a b:Nat):Int)):=by
 have:=c4S (P:=P) (n:=n) (ts:=ts) hx hy
 have e:(if (b:Int)<(a:Int) then (b:Int) else (a:Int))=((min a b:Nat):Int):=by split<;>omega
 rw[e] at this;exact this
end Go.Proofs.YthapcdhdfaibkaaGreatDoor

namespace Go.Proofs.YthapcdhdfaibkaaGreatDoor
open Go.RowKit
set_option linter.all false
section
variable {n:Nat} {w0:World} {L0:List Nat} {fr:Fr} {H R:List HP} {G:Act→World→Prop} {α:Type} {E:Enc α} {e:TypeId} {a:Option Addr} {m c:Nat} {xs:List α}
theorem a4b (h:∀ccs,ccs.length=m*E.k→Ent n w0 L0 fr (row e E.k a m c ccs::els E ccs xs::R) G):Ent n w0 L0 fr (ow (Enc.sl e E) [.slice a m c] xs::R) G:=λac w h1 h2=>by
 obtain ⟨L,⟨Lo,LR,rfl,ho,hR⟩,hn,hst⟩:=h2
 obtain ⟨ccs,L1,L2,rfl,g1,g2,g3,g4⟩:=a0V ho
 exact h ccs (by rw[g3.len,g1]) ac w h1 ⟨(L1++L2)++LR,⟨L1,L2++LR,by simp,g4,L2,LR,Z,g3,hR⟩,hn,hst⟩
theorem a1M {ccs:List Value} (hm:m=xs.length) (hl:m≤maxLen) (h:Ent n w0 L0 fr (ow (Enc.sl e E) [.slice a m c] xs::R) G):Ent n w0 L0 fr (row e E.k a m c ccs::els E ccs xs::R) G:=λac w h1 h2=>by
 obtain ⟨L,⟨L1,Lq,rfl,g4,L2,LR,rfl,g3,hR⟩,hn,hst⟩:=h2
 have e1:L1++(L2++LR)=(L1++L2)++LR:=by simp
 rw[e1] at hn hst
 exact h ac w h1 ⟨(L1++L2)++LR,⟨L1++L2,LR,Z,⟨a,m,c,ccs,L1,L2,Z,hm,hl,Z,g3,g4⟩,hR⟩,hn,hst⟩
theorem Ent.shr {k m':Nat} {ccs:List Value} (hm:m'≤m) (h:Ent n w0 L0 fr (row e k a m' c (ccs.take (m'*k))::R) G):Ent n w0 L0 fr (row e k a m c ccs::R) G:=λac w h1 h2=>by
 obtain ⟨L,⟨L1,LR,rfl,⟨g1,g2⟩,hR⟩,hn,hst⟩:=h2
 have hmk:m'*k≤m*k:=Nat.mul_le_mul_right _ hm
 refine h ac w h1 ⟨L1++LR,⟨L1,LR,Z,⟨by simp;omega,?_⟩,hR⟩,hn,hst⟩
 rcases g2 with ⟨h3,h4,h5⟩|⟨g,cur,h3,h4,h5,h6,h7,h8,h9⟩
 ·exact .inl ⟨h3,by omega,h5⟩
 ·refine .inr ⟨g,cur,h3,h4,by omega,h6,h7,?_,h9⟩
  rw[←h8,List.take_take,Nat.min_eq_left hmk]
theorem c0T {ccs:List Value} {i j:Nat} (hij:i≤j) (hj:j≤xs.length) (h:Ent n w0 L0 fr (els E (ccs.take (i*E.k)++ccs.drop (j*E.k)) (xs.take i++xs.drop j)::R) G):Ent n w0 L0 fr (els E ccs xs::R) G:=λac w h1 h2=>by
 obtain ⟨L,⟨L1,LR,rfl,g,hR⟩,hn,hst⟩:=h2
 have g':y8 E w ccs xs L1 true:=g
 have hx:xs=xs.take i++((xs.drop i).take (j-i)++xs.drop j):=by
  have:(xs.drop i).drop (j-i)=xs.drop j:=by rw[List.drop_drop];congr 1;omega
  rw[←this,List.take_append_drop,List.take_append_drop]
 rw[hx] at g'
 obtain ⟨c1,cr,M1,Mr,rfl,rfl,k1,kr⟩:=g'.split
 obtain ⟨c2,c3,M2,M3,rfl,rfl,k2,k3⟩:=kr.split
 have hl1:c1.length=i*E.k:=by rw[k1.len,List.length_take,Nat.min_eq_left (by omega)]
 have hl2:c2.length=(j-i)*E.k:=by rw[k2.len,List.length_take,List.length_drop,Nat.min_eq_left (by omega)]
 have hl:(c1++c2).length=j*E.k:=by rw[List.length_append,hl1,hl2, ←Nat.add_mul];congr 1;omega
 have e1:(c1++(c2++c3)).take (i*E.k)=c1:=by rw[←hl1,List.take_left]
 have e2:(c1++(c2++c3)).drop (j*E.k)=c3:=by rw[←List.append_assoc, ←hl,List.drop_left]
 rw[e1,e2] at h
 have hsub:((M1++M3)++LR).Sublist ((M1++(M2++M3))++LR):=(List.Sublist.append_left (List.sublist_append_right _ _) _).append_right _
 exact h ac w h1 ⟨(M1++M3)++LR,⟨M1++M3,LR,Z,k1.app k3,hR⟩,hn.sublist hsub,hst.sublist λb hb=>hsub.subset hb⟩
end
end Go.Proofs.YthapcdhdfaibkaaGreatDoor
