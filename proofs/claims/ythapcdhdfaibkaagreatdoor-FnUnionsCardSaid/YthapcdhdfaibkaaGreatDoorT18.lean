import Derived.Test.YthapcdhdfaibkaaGreatDoorGa
namespace Go.Proofs.YthapcdhdfaibkaaGreatDoor
open Go.RowKit
set_option linter.all false
set_option maxHeartbeats 2000000
attribute [local irreducible] Nop Yd Yp Ent Has Tr FnP FnP2 Src K8 Q7 R5 S1 E8
theorem b3r {E3:Option Addr} {I6 E4:Nat} {l0:List Int} {w8:Option Addr} {C1 w9:Nat} {i8:List Int} {v:Int} {x:Int} (hb1:l0.length≤1000000) (hb2:i8.length≤1000000):Tr Tryz.prog 351 [.agg #[.slice E3 I6 E4,.slice w8 C1 w9],.int .i64 v,.int .i64 x] (λw L=>Ro w L eIs [.slice E3 I6 E4] l0∧Ro w L eIs [.slice w8 C1 w9] i8∧I64 v∧I64 x) [] (κ:=(SL)×(SL)) (λk=>True) (λk=>.agg #[.slice k.1.1 k.1.2.1 k.1.2.2,.slice k.2.1 k.2.2.1 k.2.2.2]) (λk=>[ow eIs [.slice k.1.1 k.1.2.1 k.1.2.2] (l0++[v]),ow eIs [.slice k.2.1 k.2.2.1 k.2.2.2] (i8++[x])]):=by
 refine Ti3 Tryz.func351 22 Z λw L hR=>?_
 obtain ⟨E6,y4,i6v,i6x⟩:=hR
 obtain ⟨rfl,a0M⟩:=E6.slen
 obtain ⟨rfl,R0⟩:=y4.slen
 refine Ew Z2<|Est Z (N.box (cs:=[_,_]) Z dc Z)<|λb3 _=>Est Z (N.alloc ty_Binding dc)<|λb6 _=>Eu<|Eq_<|a2X (κ:=(Option Addr×Nat)×(Option Addr×Nat)) (λ_=>True) (λkM=>[(6,.pointer<|some ⟨b6,0,none⟩)]) (λkM=>[pt b6 114 [.slice kM.1.1 (l0.length+1) kM.1.2,.slice kM.2.1 (i8.length+1) kM.2.2],ow eIs [.slice kM.2.1 (i8.length+1) kM.2.2]<|i8++[x],ow eIs [.slice kM.1.1 (l0.length+1) kM.1.2]<|l0++[v],pt b3 114 [.slice E3 l0.length E4,.slice w8 i8.length w9]]) ?_<|λkM _=>?_
 ·refine U3 [b6,b3] (λj=> !(Nat.beq j 15)) mixed<|C7 1 Z Z dc (D3 fo_Binding_0 ty_Is dc Z) kr<|a1y 2 Z Z dc (W4 ty_Is Z ((X7.pt (mS m0) (by simp)).sub (cs':=[_]) 0 Z) Z) kr<|C7 4 Z Z dc (P5 Z) kr<|C7 8 Z Z dc (D3 fo_Binding_1 ty_Is dc Z) kr<|a1y 9 Z Z dc (W4 ty_Is Z ((X7.pt (mS m0) (by simp)).sub (cs':=[_]) 1 Z) Z) kr<|C7 11 Z Z dc (P5 Z) kr<|b9u (i:=0) (j:=5) (l:=7) (m:=12) kr ?_ ?_ ?_ ?_
  rotate_left 4
  all_goals first
   |(refine J6 0 rfl rfl (λ_ _=>SameI.out) (Nb [] [] us_Is j8 Z Z) (λb7 _=>?_);refine Ent.drop ?_)
   |refine J6 5 rfl rfl (λ_ _=>SameI.out) (Nb [_] [_] us_Is j8 Z Z) (λb12 _=>?_)
   |(refine J6 7 rfl rfl (λ_ _=>SameI.out) (Nb [] [] us_Is j8 Z Z) (λb14 _=>?_);refine Ent.drop ?_)
   |refine J6 12 rfl rfl (λ_ _=>SameI.out) (Nb [_] [_] us_Is j8 Z Z) (λb19 _=>?_)
   |skip
  refine b9u (i:=3) (j:=5) (l:=7) (m:=12) kr ?_ ?_ ?_ ?_
  rotate_left 4
  refine a1N (i:=0) (j:=7) (l:=12) kr ?_ ?_ ?_
  rotate_left 3
  refine a1N (i:=0) (j:=5) (l:=12) kr ?_ ?_ ?_
  rotate_left 3
  refine a1N (i:=0) (j:=5) (l:=7) kr ?_ ?_ ?_
  rotate_left 3
  all_goals first
   |refine J6 3 rfl rfl (λ_ _=>SameI.out) (M9 (E:=Enc.int) Plain.int us_Is j8 Z Z Z E6 om om dc) (λp10 _=>?_)
   |refine J6 5 rfl rfl (λ_ _=>SameI.out) (Nb [_] [_] us_Is j8 Z Z) (λb12 _=>?_)
   |(refine J6 7 rfl rfl (λ_ _=>SameI.out) (Nb [] [] us_Is j8 Z Z) (λb14 _=>?_);refine Ent.drop ?_)
   |refine J6 12 rfl rfl (λ_ _=>SameI.out) (Nb [_] [_] us_Is j8 Z Z) (λb19 _=>?_)
   |(refine J6 0 rfl rfl (λ_ _=>SameI.out) (Nb [] [] us_Is j8 Z Z) (λb7 _=>?_);refine Ent.drop ?_)
   |skip
  refine a1N (i:=5) (j:=7) (l:=12) kr ?_ ?_ ?_
  rotate_left 3
  refine a1N (i:=3) (j:=7) (l:=12) kr ?_ ?_ ?_
  rotate_left 3
  refine a1N (i:=3) (j:=5) (l:=12) kr ?_ ?_ ?_
  rotate_left 3
  refine a1N (i:=3) (j:=5) (l:=7) kr ?_ ?_ ?_
  rotate_left 3
  refine a1N (i:=3) (j:=7) (l:=12) kr ?_ ?_ ?_
  rotate_left 3
  refine B2 (i:=0) (j:=12) kr ?_ ?_
  rotate_left 2
  refine B2 (i:=0) (j:=7) kr ?_ ?_
  rotate_left 2
  refine a1N (i:=3) (j:=5) (l:=12) kr ?_ ?_ ?_
  rotate_left 3
  refine B2 (i:=0) (j:=12) kr ?_ ?_
  rotate_left 2
  refine B2 (i:=0) (j:=5) kr ?_ ?_
  rotate_left 2
  refine a1N (i:=3) (j:=5) (l:=7) kr ?_ ?_ ?_
  rotate_left 3
  refine B2 (i:=0) (j:=7) kr ?_ ?_
  rotate_left 2
  refine B2 (i:=0) (j:=5) kr ?_ ?_
  rotate_left 2
  all_goals first
   |refine J6 5 rfl rfl (λ_ _=>SameI.out) (Nb [_] [_] us_Is j8 Z Z) (λb12 _=>?_)
   |(refine J6 7 rfl rfl (λ_ _=>SameI.out) (Nb [] [] us_Is j8 Z Z) (λb14 _=>?_);refine Ent.drop ?_)
   |refine J6 12 rfl rfl (λ_ _=>SameI.out) (Nb [_] [_] us_Is j8 Z Z) (λb19 _=>?_)
   |refine J6 3 rfl rfl (λ_ _=>SameI.out) (M9 (E:=Enc.int) Plain.int us_Is j8 Z Z Z E6 om om dc) (λp10 _=>?_)
   |(refine J6 0 rfl rfl (λ_ _=>SameI.out) (Nb [] [] us_Is j8 Z Z) (λb7 _=>?_);refine Ent.drop ?_)
   |skip
  refine a1N (i:=6) (j:=7) (l:=12) kr ?_ ?_ ?_
  rotate_left 3
  refine B2 (i:=5) (j:=12) kr ?_ ?_
  rotate_left 2
  refine B2 (i:=5) (j:=7) kr ?_ ?_
  rotate_left 2
  refine a1N (i:=6) (j:=7) (l:=12) kr ?_ ?_ ?_
  rotate_left 3
  refine B2 (i:=3) (j:=12) kr ?_ ?_
  rotate_left 2
  refine B2 (i:=3) (j:=7) kr ?_ ?_
  rotate_left 2
  refine B2 (i:=5) (j:=12) kr ?_ ?_
  rotate_left 2
  refine B2 (i:=3) (j:=12) kr ?_ ?_
  rotate_left 2
  refine B2 (i:=3) (j:=5) kr ?_ ?_
  rotate_left 2
  refine B2 (i:=5) (j:=7) kr ?_ ?_
  rotate_left 2
  refine B2 (i:=3) (j:=7) kr ?_ ?_
  rotate_left 2
  refine B2 (i:=3) (j:=5) kr ?_ ?_
  rotate_left 2
  refine a1N (i:=6) (j:=7) (l:=12) kr ?_ ?_ ?_
  rotate_left 3
  refine B2 (i:=3) (j:=12) kr ?_ ?_
  rotate_left 2
  refine B2 (i:=3) (j:=7) kr ?_ ?_
  rotate_left 2
  refine B2 (i:=3) (j:=12) kr ?_ ?_
  rotate_left 2
  refine K1 0 ?_
  rotate_left
  refine B2 (i:=3) (j:=7) kr ?_ ?_
  rotate_left 2
  refine K1 0 ?_
  rotate_left
  refine B2 (i:=5) (j:=12) kr ?_ ?_
  rotate_left 2
  refine B2 (i:=3) (j:=12) kr ?_ ?_
  rotate_left 2
  refine B2 (i:=3) (j:=5) kr ?_ ?_
  rotate_left 2
  refine B2 (i:=3) (j:=12) kr ?_ ?_
  rotate_left 2
  refine K1 0 ?_
  rotate_left
  refine B2 (i:=3) (j:=5) kr ?_ ?_
  rotate_left 2
  refine K1 0 ?_
  rotate_left
  refine B2 (i:=5) (j:=7) kr ?_ ?_
  rotate_left 2
  refine B2 (i:=3) (j:=7) kr ?_ ?_
  rotate_left 2
  refine B2 (i:=3) (j:=5) kr ?_ ?_
  rotate_left 2
  refine B2 (i:=3) (j:=7) kr ?_ ?_
  rotate_left 2
  refine K1 0 ?_
  rotate_left
  refine B2 (i:=3) (j:=5) kr ?_ ?_
  rotate_left 2
  refine K1 0 ?_
  rotate_left
  all_goals first
   |(refine d8 ?_;refine J6 6 Z Z (λ_ _=>SameI.out) (w3 (E:=Enc.int) (ex:=v) us_Is j8 Z Z Z (Own.int i6v) Z om om dc) (λp13 _=>?_))
   |(refine J6 7 rfl rfl (λ_ _=>SameI.out) (Nb [] [] us_Is j8 Z Z) (λb14 _=>?_);refine Ent.drop ?_)
   |refine J6 12 rfl rfl (λ_ _=>SameI.out) (Nb [_] [_] us_Is j8 Z Z) (λb19 _=>?_)
   |refine J6 5 rfl rfl (λ_ _=>SameI.out) (Nb [_] [_] us_Is j8 Z Z) (λb12 _=>?_)
   |(refine d8 ?_;refine d8 ?_;refine J6 6 Z Z (λ_ _=>SameI.out) (w3 (E:=Enc.int) (ex:=v) us_Is j8 Z Z Z (Own.int i6v) Z om om dc) (λp13 _=>?_))
   |refine J6 3 rfl rfl (λ_ _=>SameI.out) (M9 (E:=Enc.int) Plain.int us_Is j8 Z Z Z E6 om om dc) (λp10 _=>?_)
   |(refine J6 0 rfl rfl (λ_ _=>SameI.out) (Nb [] [] us_Is j8 Z Z) (λb7 _=>?_);refine Ent.drop ?_)
   |skip
  refine B2 (i:=7) (j:=12) kr ?_ ?_
  rotate_left 2
  refine B2 (i:=6) (j:=12) kr ?_ ?_
  rotate_left 2
  refine B2 (i:=6) (j:=7) kr ?_ ?_
  rotate_left 2
  refine B2 (i:=6) (j:=12) kr ?_ ?_
  rotate_left 2
  refine K1 5 ?_
  rotate_left
  refine B2 (i:=6) (j:=7) kr ?_ ?_
  rotate_left 2
  refine K1 5 ?_
  rotate_left
  refine B2 (i:=7) (j:=12) kr ?_ ?_
  rotate_left 2
  refine B2 (i:=6) (j:=12) kr ?_ ?_
  rotate_left 2
  refine B2 (i:=6) (j:=7) kr ?_ ?_
  rotate_left 2
  refine B2 (i:=6) (j:=12) kr ?_ ?_
  rotate_left 2
  refine K1 3 ?_
  rotate_left
  refine B2 (i:=6) (j:=7) kr ?_ ?_
  rotate_left 2
  refine K1 3 ?_
  rotate_left
  refine B2 (i:=6) (j:=12) kr ?_ ?_
  rotate_left 2
  refine K1 5 ?_
  rotate_left
  refine B2 (i:=6) (j:=12) kr ?_ ?_
  rotate_left 2
  refine K1 3 ?_
  rotate_left
  refine K1 5 ?_
  rotate_left
  refine K1 3 ?_
  rotate_left
  refine B2 (i:=6) (j:=7) kr ?_ ?_
  rotate_left 2
  refine K1 5 ?_
  rotate_left
  refine B2 (i:=6) (j:=7) kr ?_ ?_
  rotate_left 2
  refine K1 3 ?_
  rotate_left
  refine K1 5 ?_
  rotate_left
  refine K1 3 ?_
  rotate_left
  refine B2 (i:=7) (j:=12) kr ?_ ?_
  rotate_left 2
  refine B2 (i:=6) (j:=12) kr ?_ ?_
  rotate_left 2
  refine B2 (i:=6) (j:=7) kr ?_ ?_
  rotate_left 2
  refine B2 (i:=6) (j:=12) kr ?_ ?_
  rotate_left 2
  refine K1 3 ?_
  rotate_left
  refine B2 (i:=6) (j:=7) kr ?_ ?_
  rotate_left 2
  refine K1 3 ?_
  rotate_left
  refine B2 (i:=6) (j:=12) kr ?_ ?_
  rotate_left 2
  refine K1 3 ?_
  rotate_left
  refine K1 3 ?_
  rotate_left
  refine B2 (i:=6) (j:=7) kr ?_ ?_
  rotate_left 2
  refine K1 3 ?_
  rotate_left
  refine K1 3 ?_
  rotate_left
  refine B2 (i:=6) (j:=12) kr ?_ ?_
  rotate_left 2
  refine K1 5 ?_
  rotate_left
  refine B2 (i:=6) (j:=12) kr ?_ ?_
  rotate_left 2
  refine K1 3 ?_
  rotate_left
  refine K1 5 ?_
  rotate_left
  refine K1 3 ?_
  rotate_left
  refine B2 (i:=6) (j:=12) kr ?_ ?_
  rotate_left 2
  refine K1 3 ?_
  rotate_left
  refine K1 3 ?_
  rotate_left
  refine K1 5 ?_
  rotate_left
  refine K1 3 ?_
  rotate_left
  refine K1 3 ?_
  rotate_left
  refine B2 (i:=6) (j:=7) kr ?_ ?_
  rotate_left 2
  refine K1 5 ?_
  rotate_left
  refine B2 (i:=6) (j:=7) kr ?_ ?_
  rotate_left 2
  refine K1 3 ?_
  rotate_left
  refine K1 5 ?_
  rotate_left
  refine K1 3 ?_
  rotate_left
  refine B2 (i:=6) (j:=7) kr ?_ ?_
  rotate_left 2
  refine K1 3 ?_
  rotate_left
  refine K1 3 ?_
  rotate_left
  refine K1 5 ?_
  rotate_left
  refine K1 3 ?_
  rotate_left
  refine K1 3 ?_
  rotate_left
  all_goals first
   |(refine J6 7 rfl rfl (λ_ _=>SameI.out) (Nb [] [] us_Is j8 Z Z) (λb14 _=>?_);refine Ent.drop ?_)
   |refine J6 12 rfl rfl (λ_ _=>SameI.out) (Nb [_] [_] us_Is j8 Z Z) (λb19 _=>?_)
   |(refine d8 ?_;refine J6 6 Z Z (λ_ _=>SameI.out) (w3 (E:=Enc.int) (ex:=v) us_Is j8 Z Z Z (Own.int i6v) Z om om dc) (λp13 _=>?_))
   |(refine d8 ?_;refine i9 ?_;refine J6 6 Z Z (λ_ _=>SameI.out) (w3 (E:=Enc.int) (ex:=v) us_Is j8 Z Z Z (Own.int i6v) Z om om dc) (λp13 _=>?_))
   |refine J6 5 rfl rfl (λ_ _=>SameI.out) (Nb [_] [_] us_Is j8 Z Z) (λb12 _=>?_)
   |(refine i9 ?_;refine J6 6 Z Z (λ_ _=>SameI.out) (w3 (E:=Enc.int) (ex:=v) us_Is j8 Z Z Z (Own.int i6v) Z om om dc) (λp13 _=>?_))
   |(refine d8 ?_;refine d8 ?_;refine J6 6 Z Z (λ_ _=>SameI.out) (w3 (E:=Enc.int) (ex:=v) us_Is j8 Z Z Z (Own.int i6v) Z om om dc) (λp13 _=>?_))
   |(refine i9 ?_;refine i9 ?_;refine J6 6 Z Z (λ_ _=>SameI.out) (w3 (E:=Enc.int) (ex:=v) us_Is j8 Z Z Z (Own.int i6v) Z om om dc) (λp13 _=>?_))
   |refine J6 3 rfl rfl (λ_ _=>SameI.out) (M9 (E:=Enc.int) Plain.int us_Is j8 Z Z Z E6 om om dc) (λp10 _=>?_)
   |(refine i9 ?_;refine d8 ?_;refine J6 6 Z Z (λ_ _=>SameI.out) (w3 (E:=Enc.int) (ex:=v) us_Is j8 Z Z Z (Own.int i6v) Z om om dc) (λp13 _=>?_))
   |skip
  refine B2 (i:=10) (j:=12) kr ?_ ?_
  rotate_left 2
  refine K1 7 ?_
  rotate_left
  refine B2 (i:=10) (j:=12) kr ?_ ?_
  rotate_left 2
  refine K1 6 ?_
  rotate_left
  refine K1 7 ?_
  rotate_left
  refine K1 6 ?_
  rotate_left
  refine B2 (i:=10) (j:=12) kr ?_ ?_
  rotate_left 2
  refine K1 6 ?_
  rotate_left
  refine K1 6 ?_
  rotate_left
  refine K1 7 ?_
  rotate_left
  refine K1 6 ?_
  rotate_left
  refine K1 6 ?_
  rotate_left
  refine B2 (i:=10) (j:=12) kr ?_ ?_
  rotate_left 2
  refine K1 7 ?_
  rotate_left
  refine B2 (i:=10) (j:=12) kr ?_ ?_
  rotate_left 2
  refine K1 6 ?_
  rotate_left
  refine K1 7 ?_
  rotate_left
  refine K1 6 ?_
  rotate_left
  refine B2 (i:=10) (j:=12) kr ?_ ?_
  rotate_left 2
  refine K1 6 ?_
  rotate_left
  refine K1 6 ?_
  rotate_left
  refine K1 7 ?_
  rotate_left
  refine K1 6 ?_
  rotate_left
  refine K1 6 ?_
  rotate_left
  refine B2 (i:=10) (j:=12) kr ?_ ?_
  rotate_left 2
  refine K1 6 ?_
  rotate_left
  refine K1 6 ?_
  rotate_left
  refine B2 (i:=10) (j:=12) kr ?_ ?_
  rotate_left 2
  refine K1 6 ?_
  rotate_left
  refine K1 6 ?_
  rotate_left
  refine K1 6 ?_
  rotate_left
  refine K1 6 ?_
  rotate_left
  refine K1 7 ?_
  rotate_left
  refine K1 6 ?_
  rotate_left
  refine K1 6 ?_
  rotate_left
  refine K1 7 ?_
  rotate_left
  refine K1 6 ?_
  rotate_left
  refine K1 6 ?_
  rotate_left
  refine K1 6 ?_
  rotate_left
  refine K1 6 ?_
  rotate_left
  refine B2 (i:=10) (j:=12) kr ?_ ?_
  rotate_left 2
  refine K1 7 ?_
  rotate_left
  refine B2 (i:=10) (j:=12) kr ?_ ?_
  rotate_left 2
  refine K1 6 ?_
  rotate_left
  refine K1 7 ?_
  rotate_left
  refine K1 6 ?_
  rotate_left
  refine B2 (i:=10) (j:=12) kr ?_ ?_
  rotate_left 2
  refine K1 6 ?_
  rotate_left
  refine K1 6 ?_
  rotate_left
  refine K1 7 ?_
  rotate_left
  refine K1 6 ?_
  rotate_left
  refine K1 6 ?_
  rotate_left
  refine B2 (i:=10) (j:=12) kr ?_ ?_
  rotate_left 2
  refine K1 6 ?_
  rotate_left
  refine K1 6 ?_
  rotate_left
  refine K1 6 ?_
  rotate_left
  refine K1 7 ?_
  rotate_left
  refine K1 6 ?_
  rotate_left
  refine K1 6 ?_
  rotate_left
  refine K1 6 ?_
  rotate_left
  refine B2 (i:=10) (j:=12) kr ?_ ?_
  rotate_left 2
  refine K1 6 ?_
  rotate_left
  refine K1 6 ?_
  rotate_left
  refine B2 (i:=10) (j:=12) kr ?_ ?_
  rotate_left 2
  refine K1 6 ?_
  rotate_left
  refine K1 6 ?_
  rotate_left
  refine K1 6 ?_
  rotate_left
  refine K1 6 ?_
  rotate_left
  refine B2 (i:=10) (j:=12) kr ?_ ?_
  rotate_left 2
  refine K1 6 ?_
  rotate_left
  refine K1 6 ?_
  rotate_left
  refine K1 6 ?_
  rotate_left
  refine K1 6 ?_
  rotate_left
  refine K1 6 ?_
  rotate_left
  refine K1 6 ?_
  rotate_left
  refine K1 7 ?_
  rotate_left
  refine K1 6 ?_
  rotate_left
  refine K1 6 ?_
  rotate_left
  refine K1 7 ?_
  rotate_left
  refine K1 6 ?_
  rotate_left
  refine K1 6 ?_
  rotate_left
  refine K1 6 ?_
  rotate_left
  refine K1 6 ?_
  rotate_left
  refine K1 7 ?_
  rotate_left
  refine K1 6 ?_
  rotate_left
  refine K1 6 ?_
  rotate_left
  refine K1 6 ?_
  rotate_left
  refine K1 6 ?_
  rotate_left
  refine K1 6 ?_
  rotate_left
  refine K1 6 ?_
  rotate_left
  all_goals first
   |refine J6 10 rfl rfl (λ_ _=>SameI.out) (M9 (E:=Enc.int) Plain.int us_Is j8 Z Z Z y4 om om dc) (λp17 _=>?_)
   |refine J6 12 rfl rfl (λ_ _=>SameI.out) (Nb [_] [_] us_Is j8 Z Z) (λb19 _=>?_)
   |(refine J6 7 rfl rfl (λ_ _=>SameI.out) (Nb [] [] us_Is j8 Z Z) (λb14 _=>?_);refine Ent.drop ?_)
   |(refine d8 ?_;refine i9 ?_;refine J6 6 Z Z (λ_ _=>SameI.out) (w3 (E:=Enc.int) (ex:=v) us_Is j8 Z Z Z (Own.int i6v) Z om om dc) (λp13 _=>?_))
   |(refine i9 ?_;refine J6 6 Z Z (λ_ _=>SameI.out) (w3 (E:=Enc.int) (ex:=v) us_Is j8 Z Z Z (Own.int i6v) Z om om dc) (λp13 _=>?_))
   |(refine i9 ?_;refine i9 ?_;refine J6 6 Z Z (λ_ _=>SameI.out) (w3 (E:=Enc.int) (ex:=v) us_Is j8 Z Z Z (Own.int i6v) Z om om dc) (λp13 _=>?_))
   |(refine i9 ?_;refine d8 ?_;refine J6 6 Z Z (λ_ _=>SameI.out) (w3 (E:=Enc.int) (ex:=v) us_Is j8 Z Z Z (Own.int i6v) Z om om dc) (λp13 _=>?_))
   |(refine d8 ?_;refine J6 6 Z Z (λ_ _=>SameI.out) (w3 (E:=Enc.int) (ex:=v) us_Is j8 Z Z Z (Own.int i6v) Z om om dc) (λp13 _=>?_))
   |(refine d8 ?_;refine d8 ?_;refine J6 6 Z Z (λ_ _=>SameI.out) (w3 (E:=Enc.int) (ex:=v) us_Is j8 Z Z Z (Own.int i6v) Z om om dc) (λp13 _=>?_))
   |skip
  refine K1 12 ?_
  rotate_left
  refine K1 10 ?_
  rotate_left
  refine K1 10 ?_
  rotate_left
  refine K1 12 ?_
  rotate_left
  refine K1 10 ?_
  rotate_left
  refine K1 10 ?_
  rotate_left
  refine K1 10 ?_
  rotate_left
  refine K1 10 ?_
  rotate_left
  refine K1 12 ?_
  rotate_left
  refine K1 10 ?_
  rotate_left
  refine K1 10 ?_
  rotate_left
  refine K1 10 ?_
  rotate_left
  refine K1 10 ?_
  rotate_left
  refine K1 10 ?_
  rotate_left
  refine K1 10 ?_
  rotate_left
  refine K1 12 ?_
  rotate_left
  refine K1 10 ?_
  rotate_left
  refine K1 10 ?_
  rotate_left
  refine K1 12 ?_
  rotate_left
  refine K1 10 ?_
  rotate_left
  refine K1 10 ?_
  rotate_left
  refine K1 10 ?_
  rotate_left
  refine K1 10 ?_
  rotate_left
  refine K1 12 ?_
  rotate_left
  refine K1 10 ?_
  rotate_left
  refine K1 10 ?_
  rotate_left
  refine K1 10 ?_
  rotate_left
  refine K1 10 ?_
  rotate_left
  refine K1 10 ?_
  rotate_left
  refine K1 10 ?_
  rotate_left
  refine K1 12 ?_
  rotate_left
  refine K1 10 ?_
  rotate_left
  refine K1 10 ?_
  rotate_left
  refine K1 10 ?_
  rotate_left
  refine K1 12 ?_
  rotate_left
  refine K1 10 ?_
  rotate_left
  refine K1 10 ?_
  rotate_left
  refine K1 10 ?_
  rotate_left
  refine K1 10 ?_
  rotate_left
  refine K1 10 ?_
  rotate_left
  refine K1 10 ?_
  rotate_left
  refine K1 10 ?_
  rotate_left
  refine K1 10 ?_
  rotate_left
  refine K1 10 ?_
  rotate_left
  refine K1 10 ?_
  rotate_left
  refine K1 10 ?_
  rotate_left
  refine K1 10 ?_
  rotate_left
  refine K1 10 ?_
  rotate_left
  refine K1 12 ?_
  rotate_left
  refine K1 10 ?_
  rotate_left
  refine K1 10 ?_
  rotate_left
  refine K1 12 ?_
  rotate_left
  refine K1 10 ?_
  rotate_left
  refine K1 10 ?_
  rotate_left
  refine K1 10 ?_
  rotate_left
  refine K1 10 ?_
  rotate_left
  refine K1 12 ?_
  rotate_left
  refine K1 10 ?_
  rotate_left
  refine K1 10 ?_
  rotate_left
  refine K1 10 ?_
  rotate_left
  refine K1 10 ?_
  rotate_left
  refine K1 10 ?_
  rotate_left
  refine K1 10 ?_
  rotate_left
  refine K1 12 ?_
  rotate_left
  refine K1 10 ?_
  rotate_left
  refine K1 10 ?_
  rotate_left
  refine K1 10 ?_
  rotate_left
  refine K1 10 ?_
  rotate_left
  refine K1 10 ?_
  rotate_left
  refine K1 10 ?_
  rotate_left
  refine K1 10 ?_
  rotate_left
  refine K1 10 ?_
  rotate_left
  refine K1 12 ?_
  rotate_left
  refine K1 10 ?_
  rotate_left
  refine K1 10 ?_
  rotate_left
  refine K1 10 ?_
  rotate_left
  refine K1 12 ?_
  rotate_left
  refine K1 10 ?_
  rotate_left
  refine K1 10 ?_
  rotate_left
  refine K1 10 ?_
  rotate_left
  refine K1 10 ?_
  rotate_left
  refine K1 10 ?_
  rotate_left
  refine K1 12 ?_
  rotate_left
  refine K1 10 ?_
  rotate_left
  refine K1 10 ?_
  rotate_left
  refine K1 10 ?_
  rotate_left
  refine K1 10 ?_
  rotate_left
  refine K1 10 ?_
  rotate_left
  refine K1 10 ?_
  rotate_left
  refine K1 10 ?_
  rotate_left
  refine K1 10 ?_
  rotate_left
  refine K1 10 ?_
  rotate_left
  refine K1 10 ?_
  rotate_left
  refine K1 10 ?_
  rotate_left
  refine K1 10 ?_
  rotate_left
  refine K1 10 ?_
  rotate_left
  refine K1 10 ?_
  rotate_left
  refine K1 10 ?_
  rotate_left
  refine K1 10 ?_
  rotate_left
  refine K1 10 ?_
  rotate_left
  refine K1 10 ?_
  rotate_left
  refine K1 10 ?_
  rotate_left
  refine K1 10 ?_
  rotate_left
  refine K1 10 ?_
  rotate_left
  refine K1 10 ?_
  rotate_left
  all_goals first
   |refine J6 12 rfl rfl (λ_ _=>SameI.out) (Nb [_] [_] us_Is j8 Z Z) (λb19 _=>?_)
   |refine J6 10 rfl rfl (λ_ _=>SameI.out) (M9 (E:=Enc.int) Plain.int us_Is j8 Z Z Z y4 om om dc) (λp17 _=>?_)
   |skip
  refine K1 13 ?_
  rotate_left
  refine K1 13 ?_
  rotate_left
  refine K1 13 ?_
  rotate_left
  refine K1 13 ?_
  rotate_left
  refine K1 13 ?_
  rotate_left
  refine K1 13 ?_
  rotate_left
  refine K1 13 ?_
  rotate_left
  refine K1 13 ?_
  rotate_left
  refine K1 13 ?_
  rotate_left
  refine K1 13 ?_
  rotate_left
  refine K1 13 ?_
  rotate_left
  refine K1 13 ?_
  rotate_left
  refine K1 13 ?_
  rotate_left
  refine K1 13 ?_
  rotate_left
  refine K1 13 ?_
  rotate_left
  refine K1 13 ?_
  rotate_left
  refine K1 13 ?_
  rotate_left
  refine K1 13 ?_
  rotate_left
  refine K1 13 ?_
  rotate_left
  refine K1 13 ?_
  rotate_left
  refine K1 13 ?_
  rotate_left
  refine K1 13 ?_
  rotate_left
  refine K1 13 ?_
  rotate_left
  refine K1 13 ?_
  rotate_left
  refine K1 13 ?_
  rotate_left
  refine K1 13 ?_
  rotate_left
  refine K1 13 ?_
  rotate_left
  refine K1 13 ?_
  rotate_left
  refine K1 13 ?_
  rotate_left
  refine K1 13 ?_
  rotate_left
  refine K1 13 ?_
  rotate_left
  refine K1 13 ?_
  rotate_left
  refine K1 13 ?_
  rotate_left
  refine K1 13 ?_
  rotate_left
  refine K1 13 ?_
  rotate_left
  refine K1 13 ?_
  rotate_left
  refine K1 13 ?_
  rotate_left
  refine K1 13 ?_
  rotate_left
  refine K1 13 ?_
  rotate_left
  refine K1 13 ?_
  rotate_left
  refine K1 13 ?_
  rotate_left
  refine K1 13 ?_
  rotate_left
  refine K1 13 ?_
  rotate_left
  refine K1 13 ?_
  rotate_left
  refine K1 13 ?_
  rotate_left
  refine K1 13 ?_
  rotate_left
  refine K1 13 ?_
  rotate_left
  refine K1 13 ?_
  rotate_left
  refine K1 13 ?_
  rotate_left
  refine K1 13 ?_
  rotate_left
  refine K1 13 ?_
  rotate_left
  refine K1 13 ?_
  rotate_left
  refine K1 13 ?_
  rotate_left
  refine K1 13 ?_
  rotate_left
  refine K1 13 ?_
  rotate_left
  refine K1 13 ?_
  rotate_left
  refine K1 13 ?_
  rotate_left
  refine K1 13 ?_
  rotate_left
  refine K1 13 ?_
  rotate_left
  refine K1 13 ?_
  rotate_left
  refine K1 13 ?_
  rotate_left
  refine K1 13 ?_
  rotate_left
  refine K1 13 ?_
  rotate_left
  refine K1 13 ?_
  rotate_left
  refine K1 13 ?_
  rotate_left
  refine K1 13 ?_
  rotate_left
  refine K1 13 ?_
  rotate_left
  refine K1 13 ?_
  rotate_left
  refine K1 13 ?_
  rotate_left
  refine K1 13 ?_
  rotate_left
  refine K1 13 ?_
  rotate_left
  refine K1 13 ?_
  rotate_left
  refine K1 13 ?_
  rotate_left
  refine K1 13 ?_
  rotate_left
  refine K1 13 ?_
  rotate_left
  refine K1 13 ?_
  rotate_left
  refine K1 13 ?_
  rotate_left
  refine K1 13 ?_
  rotate_left
  refine K1 13 ?_
  rotate_left
  refine K1 13 ?_
  rotate_left
  refine K1 13 ?_
  rotate_left
  refine K1 13 ?_
  rotate_left
  refine K1 13 ?_
  rotate_left
  refine K1 13 ?_
  rotate_left
  refine K1 13 ?_
  rotate_left
  refine K1 13 ?_
  rotate_left
  refine K1 13 ?_
  rotate_left
  refine K1 13 ?_
  rotate_left
  refine K1 13 ?_
  rotate_left
  refine K1 13 ?_
  rotate_left
  refine K1 13 ?_
  rotate_left
  refine K1 13 ?_
  rotate_left
  refine K1 13 ?_
  rotate_left
  refine K1 13 ?_
  rotate_left
  refine K1 13 ?_
  rotate_left
  refine K1 13 ?_
  rotate_left
  refine K1 13 ?_
  rotate_left
  refine K1 13 ?_
  rotate_left
  refine K1 13 ?_
  rotate_left
  refine K1 13 ?_
  rotate_left
  refine K1 13 ?_
  rotate_left
  refine K1 13 ?_
  rotate_left
  refine K1 13 ?_
  rotate_left
  refine K1 13 ?_
  rotate_left
  refine K1 13 ?_
  rotate_left
  all_goals first
   |(refine d8 ?_;refine J6 13 Z Z (λ_ _=>SameI.out) (w3 (E:=Enc.int) (ex:=x) us_Is j8 Z Z Z (Own.int i6x) Z om om dc) (λp20 _=>?_))
   |(refine d8 ?_;refine d8 ?_;refine J6 13 Z Z (λ_ _=>SameI.out) (w3 (E:=Enc.int) (ex:=x) us_Is j8 Z Z Z (Own.int i6x) Z om om dc) (λp20 _=>?_))
   |(refine i9 ?_;refine d8 ?_;refine J6 13 Z Z (λ_ _=>SameI.out) (w3 (E:=Enc.int) (ex:=x) us_Is j8 Z Z Z (Own.int i6x) Z om om dc) (λp20 _=>?_))
   |skip
  all_goals first
   |(refine C7 14 Z Z dc (J2 (pvs:=[_,_]) (cs:=[_,_]) ty_Binding pl_Binding Z Z) kr ?_;refine i9 ?_;refine G7 15 Z Z kr (λh=>by cases h) (Ns [_,_] ty_Binding rfl) (λ_ _=>?_);refine X4 kr (n0 ?_);refine n0 ?_;refine n0 ?_;refine n0 ?_;exact P8 (p13,p20) trivial ⟨Z,trivial⟩ (.refl _))
 ·obtain ⟨p13,p20⟩:=kM
  try dsimp only
  refine Et<|E.ret<|d8<|i9<|d8<|d8<|N7 br Z Z (mS<|mS m0) ty_Binding Z ((_,_,_),(_,_,_)) trivial Z (J:=_) (.refl _)<|.inl Z
end Go.Proofs.YthapcdhdfaibkaaGreatDoor
