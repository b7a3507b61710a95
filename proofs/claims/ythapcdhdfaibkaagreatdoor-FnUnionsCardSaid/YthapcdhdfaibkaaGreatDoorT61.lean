import Derived.Test.YthapcdhdfaibkaaGreatDoorEh
import Derived.Test.YthapcdhdfaibkaaGreatDoorT11
section
namespace Go.Proofs.YthapcdhdfaibkaaGreatDoor
open Go.RowKit
set_option linter.all false
set_option maxHeartbeats 2000000
attribute [local irreducible] Nop Yd Yp Ent Has Tr FnP FnP2 Src K8 Q7 R5 S1 E8
variable {i n:Int}
theorem a4Q (hn:0≤i∧i≤9):Tr Tryz.prog 382 [.int .i64 i] (λw L=>True) [] (κ:=Unit) (λk=>True) (λk=>O8 (O7 i)) (λk=>[]):=by
 refine Ti1 Tryz.func382 15 Z λw L hR=>Ew Z1<|Ei Z<|Eu<|Eq_<|Ew Z2<|Em Z<|Ylt Z<|l3 (λq4=>?_)<|λq4=>?_
 ·refine Eu<|r9 Z<|Ew Z5<|Em Z<|Em Z<|Yad Z om om<|Ey Z ((c4R b9W Z Z Z om (by show _≤((36:Nat):Int);omega)).yd)<|Ei Z ?_
  exact Eu<|E.ret<|a5h<|Fg Z Z () (by rw[show (O7 i)=((List.drop i.toNat ([48,49,50,51,52,53,54,55,56,57,97,98,99,100,101,102,103,104,105,106,107,108,109,110,111,112,113,114,115,116,117,118,119,120,121,122]:List UInt8)).take ((i+1).toNat-i.toNat)) from (by exact (b8P hn).symm)];try rfl) Z
 ·exact absurd q4 om
theorem a3T {base:Int} (hn:0≤i∧i≤9) (hb:base=10):Tr Tryz.prog 373 [.int .i64 i,.int .i64 base] (λw L=>True) [] (κ:=Unit) (λk=>True) (λk=>O8 (O7 i)) (λk=>[]):=by
 refine Ti2 Tryz.func373 54 Z λw L hR=>Ew Z1<|Ei Z<|Eu<|Eq_<|Ew Z2<|Em Z<|Yeq Z<|l3 (λq11=>?_)<|λq11=>?_
 ·refine Eu<|r9 Z<|Eq_<|Ew Z6<|Em Z<|Ey Z ((Y.leq Z Z).yd)<|l3 (λq13=>?_)<|λq13=>?_
  ·refine Em Z<|Em Z<|Ylt Z<|l3 (λq16=>?_)<|λq16=>?_
   ·refine Ypt Z<|Eu<|r9 Z<|Ew Z3<|Em Z<|E0 Z (a4Q fc) Z (λ_=>trivial)<|Ei Z<|Eu<|E.ret<|a5h<|a5h<|Fg Z Z () Z Z
   ·exact absurd q16 om
  ·exact absurd hn.1 q13
 ·exact absurd hb q11
theorem a5k (hn:0≤i∧i≤9):Tr Tryz.prog 340 [.int .i64 i] (λw L=>True) [] (κ:=Unit) (λk=>True) (λk=>O8 (O7 i)) (λk=>[]):=by
 refine Ti1 Tryz.func340 5 Z λw L hR=>Ew Z1<|Ei Z<|Ev Z3<|Em Z<|E0 Z (a3T fc fc) Z (λ_=>trivial)<|Ei Z<|Eu<|E.ret<|Fg Z Z () Z Z
theorem b1y (hn:0≤i∧i≤9):Tr Tryz.prog 280 [.int .i64 i] (λw L=>True) [] (κ:=Unit) (λk=>True) (λk=>O8 (O7 i)) (λk=>[]):=by
 refine Ti1 Tryz.func280 5 Z λw L hR=>Ew Z1<|Ei Z<|Ev Z3<|Em Z<|E0 Z (a5k fc) Z (λ_=>trivial)<|Ei Z<|Eu<|E.ret<|Fg Z Z () Z Z
theorem a2Z (hn:0≤n∧n≤9):Tr Tryz.prog 177 [.int .i64 n] (λw L=>True) [] (κ:=Unit) (λk=>True) (λk=>O8 (O7 n)) (λk=>[]):=by
 refine Ti1 Tryz.func177 5 Z λw L hR=>Ew Z1<|Ei Z<|Ev Z3<|Em Z<|E0 Z (b1y fc) Z (λ_=>trivial)<|Ei Z<|Eu<|E.ret<|Fg Z Z () Z Z
theorem a2Y:Tr Tryz.prog 180 [.int .i64 n] (λw L=>I64 n) [] (κ:=Unit) (λk=>True) (λk=>O8 (O7 n)) (λk=>[]):=by
 refine Ti1 Tryz.func180 31 Z λw L hR=>?_
 have i6n:=hR
 refine Ew Z1<|Ei Z<|Eu<|Eq_<|Ew Z2<|Em Z<|Yeq Z<|l3 (λq7=>?_)<|λq7=>?_
 ·refine Eu<|r9 Z<|Ew Z1<|Ei Z ?_
  exact Eu<|E.ret<|a5h<|Fg Z Z () (by rw[show (O7 n)=([48]) from (by rw[q7];exact b7x)];try rfl) Z
 ·refine Eu<|Cf<|Ew Z1<|Ei Z<|Ev Z3<|Em Z<|Ylt Z<|Ei Z<|Eu<|Eq_<|E.block<|E.loop (κ:=Nat) (λg=>g≤20∧True) (λg=>[(0,.int .i64<|(itN n g).1),(3,O8<|(itN n g).2),(4,.bool<|decide (n<0))]) (λg=>[]) (λg=>20-g) (0) ⟨Nat.zero_le _,by simp⟩ ⟨frI (by rfl),frS (by rfl),Z,trivial⟩ (.refl _)<|λg pg=>?_
  try dsimp only
  obtain ⟨pk,pa⟩:=pg
  have j6:=c2f (g:=g) i6n
  have jl:=b1x (n:=n) (g:=g)
  refine Eq_<|Ew Z2<|Em Z<|Ey Z ((Y.neq Z Z).yd)<|l3 (λq11=>?_)<|λq11=>?_
  ·refine Eu<|Ct<|E.block<|Ew Z3<|Em Z ?_
   have j7: -9≤(itN n g).1.tmod 10∧(itN n g).1.tmod 10≤9:=c0C
   refine Ey Z ((Y.rem Z Z i6 dc).yd)<|Ei Z<|Eu<|Eq_<|Ew Z2<|Em Z<|Ylt Z<|l3 (λq15=>?_)<|λq15=>?_
   ·refine Eu<|r9 Z<|Ez Z3<|Em Z<|Ey Z ((Y.neg Z om).yd)<|Ei Z<|Ev Z8<|Em Z<|Yad Z om om<|Ey Z ((b9w b7a a8M Z om).yd)<|Est Z (Nb [_] [_] us_U8s b0T Z Z)<|λb21 _=>Ey Z (c1o us_U8s a8M b9W Z m0 om)<|Em Z<|Ey Z ((O2 Z Z (by first|omega|(simp only[List.length_append,List.length_cons,List.length_nil] at *;omega))).yd)<|Ei Z<|Eu<|Ez Z3<|Em Z<|Ey Z ((Y.quo Z Z i6 dc).yd)<|Ei Z ?_
    have jg:=b8v i6n q11
    refine En<|o6<|Et<|Ent.drop ?_
    exact u7 br (g+1) ⟨frI (by first|exact a5L q11|exact a1P q11 (.inl Z) om|exact a1P q11 (.inr Z) om),frS (by first|exact a5L q11|exact a1P q11 (.inl Z) om|exact a1P q11 (.inr Z) om),Z,trivial⟩ (.refl _) ⟨oz,(show True from by trivial)⟩ oz
   ·refine Eu<|Cf<|Ew Z8<|Em Z<|Yad Z om om<|Ey Z ((b9w b7a a8M Z om).yd)<|Est Z (Nb [_] [_] us_U8s b0T Z Z)<|λb21 _=>Ey Z (c1o us_U8s a8M b9W Z m0 om)<|Em Z<|Ey Z ((O2 Z Z (by first|omega|(simp only[List.length_append,List.length_cons,List.length_nil] at *;omega))).yd)<|Ei Z<|Eu<|Ez Z3<|Em Z<|Ey Z ((Y.quo Z Z i6 dc).yd)<|Ei Z ?_
    have jg:=b8v i6n q11
    refine En<|o6<|Et<|Ent.drop ?_
    exact u7 br (g+1) ⟨frI (by first|exact a5L q11|exact a1P q11 (.inl Z) om|exact a1P q11 (.inr Z) om),frS (by first|exact a5L q11|exact a1P q11 (.inl Z) om|exact a1P q11 (.inr Z) om),Z,trivial⟩ (.refl _) ⟨oz,(show True from by trivial)⟩ oz
  ·refine Eu<|r8 Z<|E.exit<|l2<|l2<|u4<|Et<|Eq_<|Ew Z1<|Em Z<|l3 (λq27=>?_)<|λq27=>?_
   ·refine Eu<|r9 Z<|Ew Z3<|Em Z<|Ey Z ((O2 Z Z (by first|omega|(simp only[List.length_append,List.length_cons,List.length_nil] at *;omega))).yd)<|Ei Z ?_
    exact Eu<|E.ret<|a5h<|Fg Z Z () (by rw[show (O7 n)=(([45])++((itN n g).2)) from (by rw[b6f pk om];exact (b8D q7 q27).symm)];try rfl) Z
   ·refine Eu<|Cf<|Ew Z2<|Em Z<|Ei Z ?_
    exact Eu<|E.ret<|Fg Z Z () (by rw[show (O7 n)=((itN n g).2) from (by rw[b6f pk om];exact (b8w q7 q27).symm)];try rfl) Z
theorem b4z {rel:Int}:TB Tryz.prog 236 [.int .i64 rel] (λw L=>True) (inR rel 0 2):=by
 refine Ti1 Tryz.func236 5 Z λw L hR=>Ew Z1<|Ei Z<|Ev Z3<|Em Z<|E0 Z L8 Z (λ_=>trivial)<|Ei Z<|Eu<|E.ret<|Fg Z Z () Z Z
end Go.Proofs.YthapcdhdfaibkaaGreatDoor
end
section
namespace Go.Proofs.YthapcdhdfaibkaaGreatDoor
open Go.RowKit
set_option linter.all false
set_option maxHeartbeats 2000000
attribute [local irreducible] Nop Yd Yp Ent Has Tr FnP FnP2 Src K8 Q7 R5 S1 E8
variable {t l6:Int} {c6:List IL} {s:List (List UInt8)} {l f9 d9:List Int} {m_s c_s m_l c_l C0 w4 u5 r6 s9 o0:Nat} {a_s a_l w5 r7 o1:Option Addr}
theorem b8s {v:List UInt8}:Tr Tryz.prog 254 [.slice a_s m_s c_s,O8 v] (λw L=>Ro w L eSs [.slice a_s m_s c_s] s) [] (κ:=Unit) (λk=>True) (λk=>.int .i64 (J0 (λz=>decide (v=z)) s)) (λk=>[]):=by
 refine Ti2 Tryz.func254 19 Z λw L hR=>?_
 have hs:=hR
 obtain ⟨rfl,ls⟩:=hs.slen
 refine Ew Z1<|Ei Z<|Eu<|Eq_<|Ew Z3<|Em Z<|Yln us_Ss Z<|Em Z<|Eu<|E.block<|Lo (κ:=Nat) (λg=>g≤s.length∧∀x∈s.take g,(λz=>decide (v=z)) x=false) (λg=>[(0,.slice a_s s.length c_s),(1,O8 v),(7,.int .i64 (↑s.length:Int)),(8,.int .i64 (g:Int))]) (λg=>[]) (λg=>s.length-g) 0 ⟨by omega,by simp⟩<|λg pg=>?_
 obtain ⟨pk,pa⟩:=pg
 refine Ew Z1<|Ylt Z<|l3 (λq9=>?_)<|λq9=>?_
 ·refine Eu<|Eq_<|Ct<|Eq_<|E.block<|Ew Z2<|Em Z<|Ei Z<|Ev Z6<|Em Z<|Em Z<|Em Z ?_
  obtain ⟨eb14,eo14,ea14,eh14⟩:=hs.elemS g om
  refine Il us_Ss ty_S Z ea14 g Z om Z (eh14 _)<|Ey Z ((a8z Z Z).yd)<|l3 (λq16=>?_)<|λq16=>?_
  ·refine Eu<|r9 Z<|Ew Z2<|Em Z<|Ei Z<|Eu<|E.ret<|v7<|a5h<|a5h<|v7<|a5h<|Fg Z Z () (congrArg (Value.int .i64) (by first|exact P3 om pa (decide_eq_true q16)|exact O4 om pa)) Z
  ·refine Eu<|r8 Z<|v6<|o6<|Et<|Ez Z2<|Yad Z om om<|Em Z ?_
   exact Eu<|u7 br (g+1) rs (.refl _) ⟨by omega,X3 om pa<|decide_eq_false q16⟩ om
 ·refine Eu<|Eq_<|r8 Z<|E.exit<|l2<|l2<|u4<|Et<|Ew Z1<|Ei Z<|Eu<|E.ret<|Fg Z Z () (congrArg (Value.int .i64) (by first|exact P3 om pa (decide_eq_true q16)|exact O4 om pa)) Z
theorem a0Y {v:List UInt8}:TB Tryz.prog 152 [.slice a_s m_s c_s,O8 v] (λw L=>Ro w L eSs [.slice a_s m_s c_s] s) (s.any (λz=>decide (v=z))):=by
 refine Ti2 Tryz.func152 9 Z λw L hR=>?_
 have hs:=hR
 obtain ⟨rfl,ls⟩:=hs.slen
 refine Ew Z1<|Ei Z<|Ev Z5<|Em Z<|Em Z<|E0 Z b8s Z (λhA=>hA.ro hs)<|Ey Z ((Y.geq Z Z).yd)<|Ei Z<|Eu<|E.ret<|Fb Z Z (by exact W1)
theorem b1g (ht:K7 t=true):Tr Tryz.prog 313 [.int .i64 t] (λw L=>True) [] (κ:=Unit) (λk=>True) (λk=>O8 (M5 t)) (λk=>[]):=by
 refine Ti1 Tryz.func313 11 Z λw L hR=>Ew Z1<|Ei Z<|Eu<|Eq_<|Ew Z2<|Em Z<|E0 Z a1E Z (λ_=>trivial)<|Ent.b (λq4=>?_)<|λq4=>?_
 ·have j4:10≤t∧t≤17:=by simpa[inR] using q4
  have j5:=a2y (n:=t-10)
  refine Eu<|r9 Z<|Ew Z5<|Em Z<|Ey Z ((Y.sub Z Z om om).yd)<|E0 Z (a2Z fc) Z (λ_=>trivial)<|Ey Z ((O2 Z Z (by first|omega|(simp only[List.length_append,List.length_cons,List.length_nil] at *;omega))).yd)<|Ei Z ?_
  exact Eu<|E.ret<|a5h<|Fg Z Z () (by rw[show (M5 t)=(([120])++(O7<|t-10)) from (by rw[M5,if_pos q4])];try rfl) Z
 ·have j5:=b7e ht q4
  refine Eu<|Cf<|Ew Z3<|Em Z<|E0 Z (a2Z fc) Z (λ_=>trivial)<|Ei Z ?_
  exact Eu<|E.ret<|Fg Z Z () (by rw[show (M5 t)=(O7 t) from (by rw[M5,if_neg (by rw[q4];decide)])];try rfl) Z
theorem a7o:Tr Tryz.prog 314 [.int .i64 t] (λw L=>I64 t) [] (κ:=Unit) (λk=>True) (λk=>O8 (M5 t)) (λk=>[]):=by
 refine Ti1 Tryz.func314 11 Z λw L hR=>?_
 have i6t:=hR
 refine Ew Z1<|Ei Z<|Eu<|Eq_<|Ew Z2<|Em Z<|E0 Z a0N Z (λ_=>trivial)<|Ent.b (λq4=>?_)<|λq4=>?_
 ·have j4:10≤t∧t≤17:=by simpa[inR] using q4
  have j5:=a2y (n:=t-10)
  refine Eu<|r9 Z<|Ew Z5<|Em Z<|Ey Z ((Y.sub Z Z om om).yd)<|E0 Z a2Y Z (λhA=>i6)<|Ey Z ((O2 Z Z (by first|omega|(simp only[List.length_append,List.length_cons,List.length_nil] at *;omega))).yd)<|Ei Z ?_
  exact Eu<|E.ret<|a5h<|Fg Z Z () (by rw[show (M5 t)=(([120])++(O7<|t-10)) from (by rw[M5,if_pos q4])];try rfl) Z
 ·refine Eu<|Cf<|Ew Z3<|Em Z<|E0 Z a2Y Z (λhA=>i6t)<|Ei Z ?_
  exact Eu<|E.ret<|Fg Z Z () (by rw[show (M5 t)=(O7 t) from (by rw[M5,if_neg (by rw[q4];decide)])];try rfl) Z
theorem a4N (hz:l.length≤1000) (hv:∀t∈l,K7 t=true):Tr Tryz.prog 235 [.slice a_l m_l c_l] (λw L=>Ro w L eIs [.slice a_l m_l c_l] l) [] (κ:=Unit) (λk=>True) (λk=>O8 (Lib.join (l.map M5) [44])) (λk=>[]):=by
 refine Ti1 Tryz.func235 21 Z λw L hR=>?_
 have hl:=hR
 obtain ⟨rfl,ll⟩:=hl.slen
 refine Ew Z1<|Ei Z<|Ev Z2<|Est Z (Nb [] [] us_Ss ty_S Z Z)<|λb6 _=>Ent.drop<|Ei Z<|Eu<|Eq_<|Ew Z3<|Em Z<|Yln us_Is Z<|Em Z<|Eu<|E.block<|m8 (A:=[]) (Own.nil (E:=Enc.str) (e:=tS) (a:=(some ⟨b6,0,none⟩))) Z<|g9 (congrArg (ow eSs [_]) (show _=(l.take 0).map M5 from by rfl))<|Lo (κ:=Nat×SL) (λg=>g.1≤l.length∧True) (λg=>[(3,.slice g.2.1 g.2.2.1 g.2.2.2),(7,.slice a_l l.length c_l),(8,.int .i64 (↑l.length:Int)),(9,.int .i64 (↑g.1:Int))]) (λg=>[ow eSs [.slice g.2.1 g.2.2.1 g.2.2.2]<|(l.take g.1).map M5]) (λg=>l.length-g.1) (0,(some ⟨b6,0,none⟩),0,0) ⟨Nat.zero_le _,by simp⟩<|λg pg=>?_
 obtain ⟨g,aA0_0,mA0_0,cA0_0⟩:=g
 try dsimp only at pg
 try dsimp only
 obtain ⟨pk,pa⟩:=pg
 have jt:=List.length_take_le g l
 refine f0 m0 ?_
 rintro rfl laA0_0
 refine Ew Z1<|Ylt Z<|l3 (λq10=>?_)<|λq10=>?_
 ·obtain ⟨eb11,eo11,ea11,ei11,eh11⟩:=hl.elemI g om
  refine Eu<|Eq_<|Ct<|Eq_<|E.block<|Ew Z3<|Il us_Is j8 Z ea11 g Z om Z (eh11 _)<|Ei Z<|Eu<|Ez Z6<|Em Z<|Em Z<|E0 Z (b1g<|hv _<|List.getElem_mem om) Z (λ_=>trivial)<|Est Z (Nb [_] [_] us_Ss ty_S Z Z)<|λb16 _=>d8<|Est Z (w3 (E:=Enc.str) (ex:=M5 l[g]) us_Ss ty_S Z Z Z Own.str Z bn bn dc)<|λp17 _=>Ei Z<|En<|o6<|Et<|Ez Z2<|Yad Z om om<|Em Z<|Eu<|g9 (congrArg (ow eSs [_]) (show _=(l.take<|g+1).map M5 from by rw[List.take_succ_eq_append_getElem om,List.map_append];rfl)) ?_
  exact Ea (g+1,p17.1,(((l.take g).map M5).length+1),p17.2) ⟨oz,trivial⟩
 ·refine Eu<|Eq_<|r8 Z<|E.exit<|l2<|l2<|u4<|Et<|Ew Z3<|Em Z<|E0 Z (a8U (by simp only[List.length_map,List.length_take];omega)<|Nat.le_trans (T3 (K:=22) (λx=>a0H) (show _≤1000 by (try rw[List.length_take]);omega)) dc) Z (λhA=>hA.ow m0)<|Ei Z ?_
  exact Eu<|E.ret<|Fg Z Z () (by rw[show (Lib.join (l.map M5) [44])=(Lib.join ((l.take g).map M5)<|[44]) from (by rw[List.take_of_length_le om])];try rfl) Z
theorem a6h (hz:l.length≤1000):Tr Tryz.prog 237 [.slice a_l m_l c_l] (λw L=>Ro w L eIs [.slice a_l m_l c_l] l) [] (κ:=Unit) (λk=>True) (λk=>O8 (Lib.join (l.map M5) [44])) (λk=>[]):=by
 refine Ti1 Tryz.func237 23 Z λw L hR=>?_
 have hl:=hR
 obtain ⟨rfl,ll⟩:=hl.slen
 refine Ew Z1<|Ei Z<|Ev Z1<|Ei Z<|Eu<|Eq_<|Ew Z1<|Ei Z<|Eu<|E.block<|E.loop (κ:=Nat) (λg=>g≤l.length∧True) (λg=>[(0,.slice a_l l.length c_l),(3,O8<|Lib.join ((l.take g).map M5) [44]),(4,.int .i64 (g:Int))]) (λg=>[]) (λg=>l.length-g) (0) ⟨Nat.zero_le _,by simp⟩ ⟨Z,frS (by simp[Lib.join_nil]),Z,trivial⟩ (.refl _)<|λg pg=>?_
 try dsimp only
 obtain ⟨pk,pa⟩:=pg
 have jl:=a2c (f:=M5) (K:=22) (l:=l) (g:=g) (n:=1000) (B:=23000) (sep:=[44]) (λx=>a0H) hz dc
 refine Eq_<|Ew Z4<|Em Z<|Em Z<|Yln us_Is Z<|Ylt Z<|l3 (λq8=>?_)<|λq8=>?_
 ·refine Eu<|Ct<|Eq_<|E.block<|Eq_<|Ew Z2<|Em Z<|Ey Z ((Y.gtr Z Z).yd)<|l3 (λq12=>?_)<|λq12=>?_
  ·refine Eu<|r9 Z<|Ez Z3<|Em Z<|Ey Z ((O2 Z Z (by first|omega|(simp only[List.length_append,List.length_cons,List.length_nil] at *;omega))).yd)<|Ei Z<|Eu<|Ez Z8<|Em Z<|Em Z<|Em Z ?_
   obtain ⟨eb18,eo18,ea18,ei18,eh18⟩:=hl.elemI g om
   refine Il us_Is j8 Z ea18 g Z om Z (eh18 _)<|E0 Z a7o Z (λhA=>ei18) ?_
   have ji:=a0H (t:=l[g])
   refine Ey Z ((O2 Z Z (by first|omega|(simp only[List.length_append,List.length_cons,List.length_nil] at *;omega))).yd)<|Ei Z<|En<|o6<|Et<|Ez Z3<|Em Z<|Yad Z om om<|Ei Z ?_
   exact Eu<|u7 br (g+1) ⟨Z,frS (by first|exact a3H (f:=M5) om om|exact a3G (f:=M5) om om),Z,trivial⟩ (.refl _) ⟨oz,trivial⟩ oz
  ·refine Eu<|Cf<|Ez Z8<|Em Z<|Em Z<|Em Z ?_
   obtain ⟨eb18,eo18,ea18,ei18,eh18⟩:=hl.elemI g om
   refine Il us_Is j8 Z ea18 g Z om Z (eh18 _)<|E0 Z a7o Z (λhA=>ei18) ?_
   have ji:=a0H (t:=l[g])
   refine Ey Z ((O2 Z Z (by first|omega|(simp only[List.length_append,List.length_cons,List.length_nil] at *;omega))).yd)<|Ei Z<|En<|o6<|Et<|Ez Z3<|Em Z<|Yad Z om om<|Ei Z ?_
   exact Eu<|u7 br (g+1) ⟨Z,frS (by first|exact a3H (f:=M5) om om|exact a3G (f:=M5) om om),Z,trivial⟩ (.refl _) ⟨oz,trivial⟩ oz
 ·refine Eu<|r8 Z<|E.exit<|l2<|l2<|u4<|Et<|Ew Z2<|Em Z<|Ei Z ?_
  exact Eu<|E.ret<|Fg Z Z () (by rw[show (Lib.join (l.map M5) [44])=(Lib.join ((l.take g).map M5) [44]) from (by rw[List.take_of_length_le om])];try rfl) Z
theorem a9i:Tr Tryz.prog 126 [.agg #[.int .i64 l6,.slice w5 C0 w4]] (λw L=>I64 l6∧Ro w L eIs [.slice w5 C0 w4] f9) [] (κ:=Unit) (λk=>True) (λk=>O8 (E9 (l6,f9))) (λk=>[]):=by
 refine Ti1 Tryz.func126 30 Z λw L hR=>?_
 obtain ⟨M0,y5⟩:=hR
 obtain ⟨rfl,R4⟩:=y5.slen
 refine Ew Z2<|Est Z (N.box (cs:=[_,_]) Z dc Z)<|λb1 _=>Ei Z<|Eu<|Eq_<|Ew Z17<|Lz fo_Atom_0 j8 Z m0 Z<|E0 Z b4z Z (λ_=>trivial)<|Ent.b (λq5=>?_)<|λq5=>?_
 ·refine Yno true Z<|Em Z<|Lz fo_Atom_1 ty_Is Z m0 Z<|Yln us_Is Z<|E0 Z L8 Z (λ_=>trivial)<|Ent.b (λq11=>?_)<|λq11=>?_
  ·refine Yno true Z<|Ypf Z<|Em Z<|Lz fo_Atom_1 ty_Is Z m0 Z<|E0 Z a5B Z (λhA=>hA.ro y5)<|Ent.b (λq17=>?_)<|λq17=>?_
   ·have jl3:f9.length≤1000:=by simp only[inR,decide_eq_true_eq] at q11;omega
    have j1:=a2y (n:=l6)
    have j3:=T3 (f:=M5) (K:=22) (l:=f9) (n:=3) (sep:=[44]) (λx=>a0H) (by simp only[inR,decide_eq_true_eq] at q11;omega)
    have jF:0≤l6∧l6≤9:=by simp only[inR,decide_eq_true_eq] at q5;omega
    refine Yno true Z<|Ypf Z<|Eu<|Cf<|Eq_<|D.region (λj=>true) mixed<|Df 0 1 fo_Atom_0 j8 Z (Hz m0 0 Z)<|Df 5 6 fo_Atom_1 ty_Is Z (Hz m0 1 Z)<|D0 2 Z (a2Z jF) Z (λ_=>trivial)<|Dyp 3 Z (O2 Z Z (by first|omega|(simp only[List.length_append,List.length_cons,List.length_nil] at *;omega)))<|Dyp 4 Z (O2 Z Z (by first|omega|(simp only[List.length_append,List.length_cons,List.length_nil] at *;omega)))<|D0 7 Z (a4N jl3<|c3N q17) Z (λhA=>hA.ro y5)<|Dyp 8 Z (O2 Z Z (by first|omega|(simp only[List.length_append,List.length_cons,List.length_nil] at *;omega)))<|Dyp 9 Z (O2 Z Z (by first|omega|(simp only[List.length_append,List.length_cons,List.length_nil] at *;omega)))<|Dyp 10 Z (E5 Z) ?_
    exact o4 kr<|Et<|E.ret<|Fg Z Z () (by rw[show (E9 (l6,f9))=((((([114])++(O7 l6))++([40]))++(Lib.join (f9.map M5) [44]))++([41])) from (by rw[E9,q5,q11,q17];rfl)];try rfl) Z
   ·refine Yno false Z<|Ypf Z<|Eu<|r9 Z<|Ew Z1<|Ei Z ?_
    exact Eu<|E.ret<|a5h<|Fg Z Z () (by rw[show (E9 (l6,f9))=([]) from (by rw[E9,q5,q11,q17];rfl)];try rfl) Z
  ·refine Yno false Z<|Ypf Z<|Em Z<|Es Z<|Es Z<|Es Z<|Es Z<|Ypt Z<|Eu<|r9 Z<|Ew Z1<|Ei Z ?_
   exact Eu<|E.ret<|a5h<|Fg Z Z () (by rw[show (E9 (l6,f9))=([]) from (by rw[E9,q5,q11];rfl)];try rfl) Z
 ·refine Yno false Z<|Em Z<|Es Z<|Es Z<|Es Z<|Es Z<|Es Z<|Ypt Z<|Em Z<|Es Z<|Es Z<|Es Z<|Es Z<|Ypt Z<|Eu<|r9 Z<|Ew Z1<|Ei Z ?_
  exact Eu<|E.ret<|a5h<|Fg Z Z () (by rw[show (E9 (l6,f9))=([]) from (by rw[E9,q5];rfl)];try rfl) Z
theorem a4x:Tr Tryz.prog 128 [.agg #[.int .i64 l6,.slice w5 C0 w4]] (λw L=>I64 l6∧Ro w L eIs [.slice w5 C0 w4] f9) [] (κ:=Unit) (λk=>True) (λk=>O8 (E9 (l6,f9))) (λk=>[]):=by
 refine Ti1 Tryz.func128 39 Z λw L hR=>?_
 obtain ⟨M0,y5⟩:=hR
 obtain ⟨rfl,R4⟩:=y5.slen
 refine Ew Z2<|Est Z (N.box (cs:=[_,_]) Z dc Z)<|λb1 _=>Ei Z<|Eu<|Eq_<|Ew Z11<|Lz fo_Atom_0 j8 Z m0 Z<|E0 Z H3 Z (λ_=>trivial)<|Ent.b (λq6=>?_)<|λq6=>?_
 ·refine Yno true Z<|Em Z<|Lz fo_Atom_1 ty_Is Z m0 Z<|Yln us_Is Z<|E0 Z H3 Z (λ_=>trivial)<|Ent.b (λq12=>?_)<|λq12=>?_
  ·have jl3:f9.length≤1000:=by simp only[inR,decide_eq_true_eq] at q12;omega
   have j1:=a2y (n:=l6)
   have j3:=T3 (f:=M5) (K:=22) (l:=f9) (n:=3) (sep:=[44]) (λx=>a0H) (by simp only[inR,decide_eq_true_eq] at q12;omega)
   refine Yno true Z<|Ypf Z<|Eu<|Cf<|Eq_<|Ew Z1<|Ei Z<|Eu<|E.block<|Lo (κ:=Nat) (λg=>g≤f9.length∧(f9.any<|λt=> !K7 t)=((f9.drop g).any (λt=> !K7 t))) (λg=>[(1,.pointer<|some ⟨b1,0,none⟩),(3,.int .i64 (g:Int))]) (λg=>[pt b1 111 [.int .i64 l6,.slice w5 f9.length w4]]) (λg=>f9.length-g) 0 ⟨Nat.zero_le _,by rfl⟩<|λg pg=>?_
   obtain ⟨pk,pa⟩:=pg
   refine Eq_<|Ew Z5<|Em Z<|Lz fo_Atom_1 ty_Is Z m0 Z<|Yln us_Is Z<|Ylt Z<|l3 (λq19=>?_)<|λq19=>?_
   ·refine Eu<|Ct<|Eq_<|E.block<|Ew Z7<|Lz fo_Atom_1 ty_Is Z m0 Z<|Em Z ?_
    obtain ⟨eb25,eo25,ea25,ei25,eh25⟩:=y5.elemI g om
    refine Il us_Is j8 Z ea25 g Z om Z (eh25 _)<|E0 Z a7k Z (λ_=>trivial)<|Ent.b (λq27=>?_)<|λq27=>?_
    ·refine Yno true Z<|Eu<|r8 Z<|v6<|o6<|Et<|Ez Z3<|Em Z<|Yad Z om om<|Ei Z ?_
     exact Eu<|u7 br (g+1) ⟨Z,Z,trivial⟩ (.refl _) ⟨by omega,by rw[pa];exact c1X om q27⟩ om
    ·refine Yno false Z<|Eu<|r9 Z<|Ew Z1<|Ei Z ?_
     exact Eu<|E.ret<|v7<|a5h<|a5h<|v7<|a5h<|Fg Z Z () (by rw[show (E9 (l6,f9))=([]) from (by rw[E9,q6,q12,pa,c4M om q27];rfl)];try rfl) Z
   ·refine Eu<|r8 Z<|E.exit<|l2<|l2<|u4<|Et<|Eq_<|D.region (λj=>true) mixed<|Df 0 1 fo_Atom_0 j8 Z (Hz m0 0 Z)<|Df 5 6 fo_Atom_1 ty_Is Z (Hz m0 1 Z)<|D0 2 Z a2Y Z (λhA=>M0)<|Dyp 3 Z (O2 Z Z (by first|omega|(simp only[List.length_append,List.length_cons,List.length_nil] at *;omega)))<|Dyp 4 Z (O2 Z Z (by first|omega|(simp only[List.length_append,List.length_cons,List.length_nil] at *;omega)))<|D0 7 Z (a6h jl3) Z (λhA=>hA.ro y5)<|Dyp 8 Z (O2 Z Z (by first|omega|(simp only[List.length_append,List.length_cons,List.length_nil] at *;omega)))<|Dyp 9 Z (O2 Z Z (by first|omega|(simp only[List.length_append,List.length_cons,List.length_nil] at *;omega)))<|Dyp 10 Z (E5 Z) ?_
    exact o4 kr<|Et<|E.ret<|Fg Z Z () (by rw[show (E9 (l6,f9))=((((([114])++(O7 l6))++([40]))++(Lib.join (f9.map M5) [44]))++([41])) from (by rw[E9,q6,q12,pa,c3x om];rfl)];try rfl) Z
  ·refine Yno false Z<|Ypf Z<|Eu<|r9 Z<|Ew Z1<|Ei Z ?_
   exact Eu<|E.ret<|a5h<|Fg Z Z () (by rw[show (E9 (l6,f9))=([]) from (by rw[E9,q6,q12];rfl)];try rfl) Z
 ·refine Yno false Z<|Em Z<|Es Z<|Es Z<|Es Z<|Es Z<|Es Z<|Ypt Z<|Eu<|r9 Z<|Ew Z1<|Ei Z ?_
  exact Eu<|E.ret<|a5h<|Fg Z Z () (by rw[show (E9 (l6,f9))=([]) from (by rw[E9,q6];rfl)];try rfl) Z
theorem a7L (hz:D8 (λx=>x.2.length) c6≤1048576):Tr Tryz.prog 125 [.agg #[.slice r7 u5 r6,.slice o1 s9 o0]] (λw L=>Ro w L eIs [.slice r7 u5 r6] d9∧Ro w L v8 [.slice o1 s9 o0] c6) [] (κ:=Unit) (λk=>True) (λk=>O8 (H5 (d9,c6))) (λk=>[]):=by
 refine Ti1 Tryz.func125 46 Z λw L hR=>?_
 obtain ⟨s7,o2⟩:=hR
 obtain ⟨rfl,I8⟩:=s7.slen
 obtain ⟨rfl,G9⟩:=o2.slen
 have jn:c6.length≤1048576:=by unfold D8 at hz;omega
 refine Ew Z2<|Est Z (N.box (cs:=[_,_]) Z dc Z)<|λb1 _=>Ei Z<|Ev Z2<|Est Z (Nb [] [] us_Ss ty_S Z Z)<|λb7 _=>Ent.drop<|Ei Z<|Eu<|Eq_<|Ew Z4<|Lz fo_Query_1 ty_Atoms Z m0 Z<|Yln us_Atoms Z<|Em Z<|Eu<|E.block<|m8 (A:=[]) (Own.nil (E:=Enc.str) (e:=tS) (a:=(some ⟨b7,0,none⟩))) Z<|g9 (congrArg (ow eSs [_]) (show _=(c6.take 0).map E9 from by rfl))<|Lo (κ:=Nat×SL) (λg=>g.1≤c6.length∧True) (λg=>[(1,.pointer<|some ⟨b1,0,none⟩),(3,.slice g.2.1 g.2.2.1 g.2.2.2),(9,.slice o1 c6.length o0),(10,.int .i64 (↑c6.length:Int)),(11,.int .i64 (↑g.1:Int))]) (λg=>[ow eSs [.slice g.2.1 g.2.2.1 g.2.2.2]<|(c6.take g.1).map E9,pt b1 28 [.slice r7 d9.length r6,.slice o1 c6.length o0]]) (λg=>c6.length-g.1) (0,(some ⟨b7,0,none⟩),0,0) ⟨Nat.zero_le _,by simp⟩<|λg pg=>?_
 obtain ⟨g,aA0_0,mA0_0,cA0_0⟩:=g
 try dsimp only at pg
 try dsimp only
 obtain ⟨pk,pa⟩:=pg
 have jt:=List.length_take_le g c6
 refine f0 m0 ?_
 rintro rfl laA0_0
 refine Ew Z1<|Ylt Z<|l3 (λq12=>?_)<|λq12=>?_
 ·obtain ⟨eb13,eo13,ec13,ea13,er13,el13,eh13⟩:=o2.elem g om
  obtain ⟨xa13_0,xc13_0,rfl,ei13_0,xh13_0⟩:=L6 er13
  have:=xh13_0.slen.2
  refine Eu<|Eq_<|Ct<|Eq_<|E.block<|Ew Z4<|Ix us_Atoms ty_Atom Z ea13 g Z om<|Ey Z (l4 (cs:=[_,_]) ty_Atom Z (eh13 _) Z)<|Est Z (N.alloc ty_Atom dc)<|λb5 _=>Est Z (Ns [_,_] ty_Atom Z)<|λ_ _=>Eu<|Ez Z6<|Em Z<|Ey Z (l4 (cs:=[_,_]) ty_Atom Z (Has.pt m0) Z)<|E0 Z a9i Z (λhA=>⟨ei13_0,hA.ro xh13_0⟩)<|Est Z (Nb [_] [_] us_Ss ty_S Z Z)<|λb18 _=>i9<|Est Z (w3 (E:=Enc.str) (ex:=E9 c6[g]) us_Ss ty_S Z Z Z Own.str Z bn bn dc)<|λp19 _=>Ei Z<|En<|o6<|Et<|Ez Z2<|Yad Z om om<|Em Z<|Eu<|d8<|Ent.drop<|g9 (congrArg (ow eSs [_]) (show _=(c6.take<|g+1).map E9 from by rw[List.take_succ_eq_append_getElem om,List.map_append];rfl))<|d8<|d8 ?_
  exact Ea (g+1,p19.1,(((c6.take g).map E9).length+1),p19.2) ⟨oz,trivial⟩
 ·refine Eu<|Eq_<|r8 Z<|E.exit<|l2<|l2<|u4<|Et<|Eq_<|Ew Z13<|Em Z ?_
  have jg:(c6.take g).map E9=c6.map E9:=by rw[List.take_of_length_le om]
  refine Yln us_Ss Z<|E0 Z L8 Z (λ_=>trivial)<|Ent.b (λq23=>?_)<|λq23=>?_
  ·refine Yno true Z<|Em Z<|Em Z<|E0 Z a0Y Z (λhA=>hA.ow m0)<|Ent.b (λq27=>?_)<|λq27=>?_
   ·refine Ypf Z<|Em Z<|Es Z<|Es Z<|Es Z<|Ypt Z<|Eu<|r9 Z<|Ew Z1<|Ei Z ?_
    exact Eu<|E.ret<|a5h<|Fg Z Z () (by rw[show (H5 (d9,c6))=([]) from (by rw[jg,b0L] at q27;exact a7Y q27)];try rfl) Z
   ·refine Ypf Z<|Em Z<|Ey Z (l4 (cs:=[_,_]) ty_Query Z (Has.pt<|mS m0) Z)<|E0 Z (a6l fo) Z (λhA=>⟨hA.ro s7,hA.ro o2⟩)<|Ent.b (λq31=>?_)<|λq31=>?_
    ·have jo:=c0n q31
     have q4:inR (c6.length:Int) 1 4=true:=by rw[jg,List.length_map] at q23;exact q23
     have jr:c6.length≤4:=by simp only[inR,decide_eq_true_eq] at q4;omega
     have jj:=T3 (f:=E9) (K:=100) (l:=c6) (n:=4) (sep:=[32,97,110,100,32]) (λx=>a2r) jr
     have jh:=a7W (h:=d9) jo.1
     have jm:=T3 (f:=M5) (K:=22) (l:=d9) (n:=3) (sep:=[44]) (λx=>a0H) jo.1
     have jl:=a2c (f:=E9) (K:=100) (l:=c6) (g:=g) (n:=4) (B:=420) (sep:=[32,97,110,100,32]) (λx=>a2r) jr dc
     have j0:nT E9 c6=false:=by rw[jg,b0L] at q27;exact q27
     refine Yno true Z<|Ypf Z<|Eu<|Cf<|Ew Z1<|Ei Z<|Eu<|Eq_<|Ew Z4<|Lz fo_Query_0 ty_Is Z (mS m0) Z<|Yln us_Is Z<|Ey Z ((Y.gtr Z Z).yd)<|l3 (λq37=>?_)<|λq37=>?_
     ·refine Eu<|r9 Z<|Ez Z4<|Lz fo_Query_0 ty_Is Z (mS m0) Z<|E0 Z (a4N (by first|omega|(have:=jo.1;omega)) jo.2) Z (λhA=>hA.ro s7)<|Ei Z<|Ev Z6<|Em Z<|Ey Z ((O2 Z Z (by first|omega|(simp only[List.length_append,List.length_cons,List.length_nil] at *;omega))).yd)<|Em Z<|E0 Z (a8U (by simp only[List.length_map,List.length_take];omega) (by rw[jg];exact Nat.le_trans jj dc)) Z (λhA=>hA.ow m0)<|Ey Z ((O2 Z Z (by first|omega|(simp only[List.length_append,List.length_cons,List.length_nil] at *;omega))).yd)<|Ei Z ?_
      exact Eu<|E.ret<|Fg Z Z () (by rw[show (H5 (d9,c6))=(((Lib.join (d9.map M5) [44])++([32,105,102,32]))++(Lib.join ((c6.take g).map E9)<|[32,97,110,100,32])) from (by rw[jg];rw[a7R (h:=d9) om];exact a5D q4 q31 j0)];try rfl) Z
     ·refine Eu<|Cf<|Ew Z6<|Em Z<|Ey Z ((O2 Z Z (by first|omega|(simp only[List.length_append,List.length_cons,List.length_nil] at *;omega))).yd)<|Em Z<|E0 Z (a8U (by simp only[List.length_map,List.length_take];omega) (by rw[jg];exact Nat.le_trans jj dc)) Z (λhA=>hA.ow m0)<|Ey Z ((O2 Z Z (by first|omega|(simp only[List.length_append,List.length_cons,List.length_nil] at *;omega))).yd)<|Ei Z ?_
      exact Eu<|E.ret<|Fg Z Z () (by rw[show (H5 (d9,c6))=((([121,101,115])++([32,105,102,32]))++(Lib.join ((c6.take g).map E9)<|[32,97,110,100,32])) from (by rw[jg];rw[a9C (h:=d9) om];exact a5D q4 q31 j0)];try rfl) Z
    ·refine Yno false Z<|Ypf Z<|Eu<|r9 Z<|Ew Z1<|Ei Z ?_
     exact Eu<|E.ret<|a5h<|Fg Z Z () (by rw[show (H5 (d9,c6))=([]) from (by exact a5M q31)];try rfl) Z
  ·refine Yno false Z<|Em Z<|Es Z<|Es Z<|Ypt Z<|Em Z<|Es Z<|Es Z<|Es Z<|Ypt Z<|Eu<|r9 Z<|Ew Z1<|Ei Z ?_
   exact Eu<|E.ret<|a5h<|Fg Z Z () (by rw[show (H5 (d9,c6))=([]) from (by rw[jg,List.length_map] at q23;exact b2X q23)];try rfl) Z
theorem a8l (hz:D8 (λx=>x.2.length) c6≤1048576):Tr Tryz.prog 127 [.agg #[.slice r7 u5 r6,.slice o1 s9 o0]] (λw L=>Ro w L eIs [.slice r7 u5 r6] d9∧Ro w L v8 [.slice o1 s9 o0] c6) [] (κ:=Unit) (λk=>True) (λk=>O8 (H5 (d9,c6))) (λk=>[]):=by
 refine Ti1 Tryz.func127 68 Z λw L hR=>?_
 obtain ⟨s7,o2⟩:=hR
 obtain ⟨rfl,I8⟩:=s7.slen
 obtain ⟨rfl,G9⟩:=o2.slen
 refine Ew Z2<|Est Z (N.box (cs:=[_,_]) Z dc Z)<|λb1 _=>Ei Z<|Eu<|Eq_<|Ew Z11<|Lz fo_Query_1 ty_Atoms Z m0 Z<|Yln us_Atoms Z<|E0 Z H3 Z (λ_=>trivial)<|Ent.b (λq11=>?_)<|λq11=>?_
 ·refine Yno true Z<|Em Z<|Lz fo_Query_0 ty_Is Z m0 Z<|Yln us_Is Z<|Ey Z ((Y.gtr Z Z).yd)<|l3 (λq17=>?_)<|λq17=>?_
  ·refine Ypf Z<|Eu<|r9 Z<|Ew Z1<|Ei Z ?_
   exact Eu<|E.ret<|a5h<|Fg Z Z () (by rw[show (H5 (d9,c6))=([]) from (by exact a5M (b7n q17))];try rfl) Z
  ·have jr:c6.length≤4:=by have q4:=q11;simp only[inR,decide_eq_true_eq] at q4;omega
   have jh:=a7W (h:=d9) om
   have jm:=T3 (f:=M5) (K:=22) (l:=d9) (n:=3) (sep:=[44]) (λx=>a0H) om
   refine Ypf Z<|Eu<|Cf<|Ew Z1<|Ei Z<|Eu<|Eq_<|Ew Z4<|Lz fo_Query_0 ty_Is Z m0 Z<|Yln us_Is Z<|Ey Z ((Y.gtr Z Z).yd)<|l3 (λq22=>?_)<|λq22=>?_
   ·refine Eu<|r9 Z<|Ez Z4<|Lz fo_Query_0 ty_Is Z m0 Z<|E0 Z (a6h (by first|omega|(have:=jo.1;omega))) Z (λhA=>hA.ro s7)<|Ei Z<|Ev Z3<|Ey Z (l4 (cs:=[_,_]) ty_Query Z (Has.pt m0) Z)<|El Z (a2a fo) Z (λhA=>⟨hA.ro s7,hA.ro o2⟩)<|λa27 c27 l27=>Ei Z<|Eu<|Eq_<|Ew Z1<|Ei Z<|Eu<|E.block<|Lo (κ:=Nat) (λg=>g≤d9.length∧(d9.any<|a3t c6)=((d9.drop g).any (a3t c6))) (λg=>[(1,.pointer<|some ⟨b1,0,none⟩),(3,O8<|Lib.join (d9.map M5) [44]),(4,.slice a27 (k7 (λt=>inR t 10 17) c6).length c27),(5,.int .i64 (g:Int))]) (λg=>[ow eIs [.slice a27 (k7 (λt=>inR t 10 17) c6).length c27]<|k7 (λt=>inR t 10 17) c6,pt b1 28 [.slice r7 d9.length r6,.slice o1 c6.length o0]]) (λg=>d9.length-g) 0 ⟨Nat.zero_le _,by rfl⟩<|λg pg=>?_
    obtain ⟨pk,pa⟩:=pg
    have pa1:=pa
    refine Eq_<|Ew Z5<|Em Z<|Lz fo_Query_0 ty_Is Z (mS m0) Z<|Yln us_Is Z<|Ylt Z<|l3 (λq32=>?_)<|λq32=>?_
    ·refine Eu<|Ct<|Eq_<|E.block<|Ew Z8<|Em Z<|Lz fo_Query_0 ty_Is Z (mS m0) Z<|Em Z ?_
     obtain ⟨eb39,eo39,ea39,ei39,eh39⟩:=s7.elemI g om
     refine Il us_Is j8 Z ea39 g Z om Z (eh39 _)<|E0 Z a0Q Z (λhA=>hA.ow m0)<|Ent.b (λq41=>?_)<|λq41=>?_
     ·refine Yno true Z<|Eu<|r8 Z<|v6<|o6<|Et<|Ez Z3<|Em Z<|Yad Z om om<|Ei Z<|Eu<|d8<|d8 ?_
      exact u7 br (g+1) rs (.refl _) ⟨by omega,by rw[pa];exact b2W om q41⟩ om
     ·refine Yno false Z<|Eu<|r9 Z<|Ew Z1<|Ei Z ?_
      exact Eu<|E.ret<|v7<|a5h<|a5h<|v7<|a5h<|Fg Z Z () (by rw[show (H5 (d9,c6))=([]) from (by exact a5M (b0F<|pa.trans<|b5V om q41))];try rfl) Z
    ·refine Eu<|r8 Z<|E.exit<|l2<|l2<|u4<|Et<|Ew Z3<|Em Z<|Ey Z ((O2 Z Z (by first|omega|(simp only[List.length_append,List.length_cons,List.length_nil] at *;omega))).yd)<|Ei Z<|Eu<|Eq_<|Ew Z1<|Ei Z<|Eu<|E.block<|E.loop (κ:=Nat) (λr=>r≤c6.length∧nT E9 c6=nT E9 (c6.drop r)) (λr=>[(1,.pointer<|some ⟨b1,0,none⟩),(3,O8<|a2U d9++[32,105,102,32]++Lib.join ((c6.take r).map E9) [32,97,110,100,32]),(6,.int .i64 (r:Int))]) (λr=>[ow eIs [.slice a27 (k7 (λt=>inR t 10 17) c6).length c27]<|k7 (λt=>inR t 10 17) c6,pt b1 28 [.slice r7 d9.length r6,.slice o1 c6.length o0]]) (λr=>c6.length-r) (0) ⟨Nat.zero_le _,by rfl⟩ ⟨Z,frS (by rw[b3e,List.append_nil];first|rw[a7R (h:=d9) om]|rw[←a9C (h:=d9) om]),Z,trivial⟩ (.refl _)<|λr pr=>?_
     try dsimp only
     obtain ⟨pk,pa⟩:=pr
     have pa2:=pa
     have jl:=a2c (f:=E9) (K:=100) (l:=c6) (g:=r) (n:=4) (B:=420) (sep:=[32,97,110,100,32]) (λx=>a2r) jr dc
     refine Eq_<|Ew Z5<|Em Z<|Lz fo_Query_1 ty_Atoms Z (mS m0) Z<|Yln us_Atoms Z<|Ylt Z<|l3 (λq49=>?_)<|λq49=>?_
     ·refine Eu<|Ct<|Eq_<|E.block<|Ew Z7<|Lz fo_Query_1 ty_Atoms Z (mS m0) Z<|Em Z ?_
      obtain ⟨eb55,eo55,ec55,ea55,er55,el55,eh55⟩:=o2.elem r om
      obtain ⟨xa55_0,xc55_0,rfl,ei55_0,xh55_0⟩:=L6 er55
      have:=xh55_0.slen.2
      refine Ix us_Atoms ty_Atom Z ea55 r Z om<|Ey Z (l4 (cs:=[_,_]) ty_Atom Z (eh55 _) Z)<|E0 Z a4x Z (λhA=>⟨ei55_0,hA.ro xh55_0⟩)<|Ei Z<|Eu<|Eq_<|Ew Z2<|Em Z<|Ey Z ((a8z Z Z).yd)<|l3 (λq59=>?_)<|λq59=>?_
      ·refine Eu<|r9 Z<|Ew Z1<|Ei Z ?_
       exact Eu<|E.ret<|a5h<|v7<|a5h<|a5h<|v7<|a5h<|Fg Z Z () (by rw[show (H5 (d9,c6))=([]) from (by exact a7Y (pa2.trans<|b7h om q59))];try rfl) Z
      ·have ja:(E9 (c6[r].1,c6[r].2)).length≤100:=a2r
       refine Eu<|Cf<|Eq_<|Ew Z2<|Em Z<|Ey Z ((Y.gtr Z Z).yd)<|l3 (λq61=>?_)<|λq61=>?_
       ·refine Eu<|r9 Z<|Ez Z3<|Em Z<|Ey Z ((O2 Z Z (by first|omega|(simp only[List.length_append,List.length_cons,List.length_nil] at *;omega))).yd)<|Ei Z<|Eu<|Ez Z4<|Em Z<|Em Z<|Ey Z ((O2 Z Z (by first|omega|(simp only[List.length_append,List.length_cons,List.length_nil] at *;omega))).yd)<|Ei Z<|En<|o6<|Et<|Ez Z3<|Em Z<|Yad Z om om<|Ei Z<|Eu<|d8<|d8 ?_
        exact u7 br (r+1) ⟨Z,frS (by first|exact a4c (f:=E9) om om|exact a4D (f:=E9) om om),Z,trivial⟩ (.refl _) ⟨oz,(show nT E9 c6=nT E9 (c6.drop<|r+1) from by rw[pa2];exact a4L om q59)⟩ oz
       ·refine Eu<|Cf<|Ez Z4<|Em Z<|Em Z<|Ey Z ((O2 Z Z (by first|omega|(simp only[List.length_append,List.length_cons,List.length_nil] at *;omega))).yd)<|Ei Z<|En<|o6<|Et<|Ez Z3<|Em Z<|Yad Z om om<|Ei Z<|Eu<|d8<|d8 ?_
        exact u7 br (r+1) ⟨Z,frS (by first|exact a4c (f:=E9) om om|exact a4D (f:=E9) om om),Z,trivial⟩ (.refl _) ⟨oz,(show nT E9 c6=nT E9 (c6.drop<|r+1) from by rw[pa2];exact a4L om q59)⟩ oz
     ·refine Eu<|r8 Z<|E.exit<|l2<|l2<|u4<|Et<|Ew Z2<|Em Z<|Ei Z ?_
      exact Eu<|E.ret<|Fg Z Z () (by rw[show (H5 (d9,c6))=(a2U d9++[32,105,102,32]++Lib.join ((c6.take r).map E9) [32,97,110,100,32]) from (by rw[a5D q11 (b0U q17<|pa1.trans<|b5j om)<|pa2.trans<|b4P om];rw[List.take_of_length_le om])];try rfl) Z
   ·refine Eu<|Cf<|Ew Z3<|Ey Z (l4 (cs:=[_,_]) ty_Query Z (Has.pt m0) Z)<|El Z (a2a fo) Z (λhA=>⟨hA.ro s7,hA.ro o2⟩)<|λa27 c27 l27=>Ei Z<|Eu<|Eq_<|Ew Z1<|Ei Z<|Eu<|E.block<|Lo (κ:=Nat) (λg=>g≤d9.length∧(d9.any<|a3t c6)=((d9.drop g).any (a3t c6))) (λg=>[(1,.pointer<|some ⟨b1,0,none⟩),(3,O8<|[121,101,115]),(4,.slice a27 (k7 (λt=>inR t 10 17) c6).length c27),(5,.int .i64 (g:Int))]) (λg=>[ow eIs [.slice a27 (k7 (λt=>inR t 10 17) c6).length c27]<|k7 (λt=>inR t 10 17) c6,pt b1 28 [.slice r7 d9.length r6,.slice o1 c6.length o0]]) (λg=>d9.length-g) 0 ⟨Nat.zero_le _,by rfl⟩<|λg pg=>?_
    obtain ⟨pk,pa⟩:=pg
    have pa1:=pa
    refine Eq_<|Ew Z5<|Em Z<|Lz fo_Query_0 ty_Is Z (mS m0) Z<|Yln us_Is Z<|Ylt Z<|l3 (λq32=>?_)<|λq32=>?_
    ·refine Eu<|Ct<|Eq_<|E.block<|Ew Z8<|Em Z<|Lz fo_Query_0 ty_Is Z (mS m0) Z<|Em Z ?_
     obtain ⟨eb39,eo39,ea39,ei39,eh39⟩:=s7.elemI g om
     refine Il us_Is j8 Z ea39 g Z om Z (eh39 _)<|E0 Z a0Q Z (λhA=>hA.ow m0)<|Ent.b (λq41=>?_)<|λq41=>?_
     ·refine Yno true Z<|Eu<|r8 Z<|v6<|o6<|Et<|Ez Z3<|Em Z<|Yad Z om om<|Ei Z<|Eu<|d8<|d8 ?_
      exact u7 br (g+1) rs (.refl _) ⟨by omega,by rw[pa];exact b2W om q41⟩ om
     ·refine Yno false Z<|Eu<|r9 Z<|Ew Z1<|Ei Z ?_
      exact Eu<|E.ret<|v7<|a5h<|a5h<|v7<|a5h<|Fg Z Z () (by rw[show (H5 (d9,c6))=([]) from (by exact a5M (b0F<|pa.trans<|b5V om q41))];try rfl) Z
    ·refine Eu<|r8 Z<|E.exit<|l2<|l2<|u4<|Et<|Ew Z3<|Em Z<|Ey Z ((O2 Z Z (by first|omega|(simp only[List.length_append,List.length_cons,List.length_nil] at *;omega))).yd)<|Ei Z<|Eu<|Eq_<|Ew Z1<|Ei Z<|Eu<|E.block<|E.loop (κ:=Nat) (λr=>r≤c6.length∧nT E9 c6=nT E9 (c6.drop r)) (λr=>[(1,.pointer<|some ⟨b1,0,none⟩),(3,O8<|a2U d9++[32,105,102,32]++Lib.join ((c6.take r).map E9) [32,97,110,100,32]),(6,.int .i64 (r:Int))]) (λr=>[ow eIs [.slice a27 (k7 (λt=>inR t 10 17) c6).length c27]<|k7 (λt=>inR t 10 17) c6,pt b1 28 [.slice r7 d9.length r6,.slice o1 c6.length o0]]) (λr=>c6.length-r) (0) ⟨Nat.zero_le _,by rfl⟩ ⟨Z,frS (by rw[b3e,List.append_nil];first|rw[a7R (h:=d9) om]|rw[←a9C (h:=d9) om]),Z,trivial⟩ (.refl _)<|λr pr=>?_
     try dsimp only
     obtain ⟨pk,pa⟩:=pr
     have pa2:=pa
     have jl:=a2c (f:=E9) (K:=100) (l:=c6) (g:=r) (n:=4) (B:=420) (sep:=[32,97,110,100,32]) (λx=>a2r) jr dc
     refine Eq_<|Ew Z5<|Em Z<|Lz fo_Query_1 ty_Atoms Z (mS m0) Z<|Yln us_Atoms Z<|Ylt Z<|l3 (λq49=>?_)<|λq49=>?_
     ·refine Eu<|Ct<|Eq_<|E.block<|Ew Z7<|Lz fo_Query_1 ty_Atoms Z (mS m0) Z<|Em Z ?_
      obtain ⟨eb55,eo55,ec55,ea55,er55,el55,eh55⟩:=o2.elem r om
      obtain ⟨xa55_0,xc55_0,rfl,ei55_0,xh55_0⟩:=L6 er55
      have:=xh55_0.slen.2
      refine Ix us_Atoms ty_Atom Z ea55 r Z om<|Ey Z (l4 (cs:=[_,_]) ty_Atom Z (eh55 _) Z)<|E0 Z a4x Z (λhA=>⟨ei55_0,hA.ro xh55_0⟩)<|Ei Z<|Eu<|Eq_<|Ew Z2<|Em Z<|Ey Z ((a8z Z Z).yd)<|l3 (λq59=>?_)<|λq59=>?_
      ·refine Eu<|r9 Z<|Ew Z1<|Ei Z ?_
       exact Eu<|E.ret<|a5h<|v7<|a5h<|a5h<|v7<|a5h<|Fg Z Z () (by rw[show (H5 (d9,c6))=([]) from (by exact a7Y (pa2.trans<|b7h om q59))];try rfl) Z
      ·have ja:(E9 (c6[r].1,c6[r].2)).length≤100:=a2r
       refine Eu<|Cf<|Eq_<|Ew Z2<|Em Z<|Ey Z ((Y.gtr Z Z).yd)<|l3 (λq61=>?_)<|λq61=>?_
       ·refine Eu<|r9 Z<|Ez Z3<|Em Z<|Ey Z ((O2 Z Z (by first|omega|(simp only[List.length_append,List.length_cons,List.length_nil] at *;omega))).yd)<|Ei Z<|Eu<|Ez Z4<|Em Z<|Em Z<|Ey Z ((O2 Z Z (by first|omega|(simp only[List.length_append,List.length_cons,List.length_nil] at *;omega))).yd)<|Ei Z<|En<|o6<|Et<|Ez Z3<|Em Z<|Yad Z om om<|Ei Z<|Eu<|d8<|d8 ?_
        exact u7 br (r+1) ⟨Z,frS (by first|exact a4c (f:=E9) om om|exact a4D (f:=E9) om om),Z,trivial⟩ (.refl _) ⟨oz,(show nT E9 c6=nT E9 (c6.drop<|r+1) from by rw[pa2];exact a4L om q59)⟩ oz
       ·refine Eu<|Cf<|Ez Z4<|Em Z<|Em Z<|Ey Z ((O2 Z Z (by first|omega|(simp only[List.length_append,List.length_cons,List.length_nil] at *;omega))).yd)<|Ei Z<|En<|o6<|Et<|Ez Z3<|Em Z<|Yad Z om om<|Ei Z<|Eu<|d8<|d8 ?_
        exact u7 br (r+1) ⟨Z,frS (by first|exact a4c (f:=E9) om om|exact a4D (f:=E9) om om),Z,trivial⟩ (.refl _) ⟨oz,(show nT E9 c6=nT E9 (c6.drop<|r+1) from by rw[pa2];exact a4L om q59)⟩ oz
     ·refine Eu<|r8 Z<|E.exit<|l2<|l2<|u4<|Et<|Ew Z2<|Em Z<|Ei Z ?_
      exact Eu<|E.ret<|Fg Z Z () (by rw[show (H5 (d9,c6))=(a2U d9++[32,105,102,32]++Lib.join ((c6.take r).map E9) [32,97,110,100,32]) from (by rw[a5D q11 (b0U q17<|pa1.trans<|b5j om)<|pa2.trans<|b4P om];rw[List.take_of_length_le om])];try rfl) Z
 ·refine Yno false Z<|Em Z<|Es Z<|Es Z<|Es Z<|Es Z<|Ypt Z<|Eu<|r9 Z<|Ew Z1<|Ei Z ?_
  exact Eu<|E.ret<|a5h<|Fg Z Z () (by rw[show (H5 (d9,c6))=([]) from (by exact b2X q11)];try rfl) Z
end Go.Proofs.YthapcdhdfaibkaaGreatDoor
end
