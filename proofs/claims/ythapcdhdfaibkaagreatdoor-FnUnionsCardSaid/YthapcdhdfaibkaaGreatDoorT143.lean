import Derived.Test.YthapcdhdfaibkaaGreatDoorT130
import Derived.Test.YthapcdhdfaibkaaGreatDoorT78
import Derived.Test.YthapcdhdfaibkaaGreatDoorIc
section
namespace Go.Proofs.YthapcdhdfaibkaaGreatDoor
set_option linter.all false
section
variable {ys rl:List Rul} {m:List Int} {a b:Int} {g:Nat} {s:List Int} {d6:List Fct} {f:Fct}
end
end Go.Proofs.YthapcdhdfaibkaaGreatDoor
end
section
namespace Go.Proofs.YthapcdhdfaibkaaGreatDoor
open Go.RowKit
set_option linter.all false
set_option maxHeartbeats 2000000
attribute [local irreducible] Nop Yd Yp Ent Has Tr FnP FnP2 Src K8 Q7 R5 S1 E8
theorem b2h {b_c:Nat} {a_b:Option Addr} {m_b c_b:Nat} {bs:List UInt8}:Tr Tryz.prog 238 [.pointer (some ⟨b_c,0,none⟩)] (λw L=>Ro w L a0f [.slice a_b m_b c_b] bs) [cur b_c a_b m_b c_b] (κ:=(List Int)×(List (Int×List Int×Int×Int×Int))×(List Int)×(List IL)×(SL)×(SL)×(SL)×SL) (λk=>(1≤k.1.length∧k.1.length≤4)∧(k.2.1.length≤5∧∀m∈k.2.1,m.2.1.length≤4)∧sQ k.2.2.1 k.2.2.2.1∧((∀a∈k.2.2.2.1,dA dT a)∨ ∀a∈k.2.2.2.1,dA rT a)) (λk=>.tuple #[.slice k.2.2.2.2.1.1 k.2.2.2.2.1.2.1 k.2.2.2.2.1.2.2,.slice k.2.2.2.2.2.1.1 k.2.2.2.2.2.1.2.1 k.2.2.2.2.2.1.2.2,.agg #[.slice k.2.2.2.2.2.2.1.1 k.2.2.2.2.2.2.1.2.1 k.2.2.2.2.2.2.1.2.2,.slice k.2.2.2.2.2.2.2.1 k.2.2.2.2.2.2.2.2.1 k.2.2.2.2.2.2.2.2.2]]) (λk=>[ow eIs [.slice k.2.2.2.2.1.1 k.2.2.2.2.1.2.1 k.2.2.2.2.1.2.2] k.1,ow F0 [.slice k.2.2.2.2.2.1.1 k.2.2.2.2.2.1.2.1 k.2.2.2.2.2.1.2.2] k.2.1,ow eIs [.slice k.2.2.2.2.2.2.1.1 k.2.2.2.2.2.2.1.2.1 k.2.2.2.2.2.2.1.2.2] k.2.2.1,ow v8 [.slice k.2.2.2.2.2.2.2.1 k.2.2.2.2.2.2.2.2.1 k.2.2.2.2.2.2.2.2.2] k.2.2.2.1,cur b_c a_b m_b c_b]):=by
 refine Ti1 Tryz.func238 28 Z λw L hR=>?_
 have hbs:=hR
 obtain ⟨rfl,lb⟩:=hbs.slen
 refine Ew Z3<|Ei Z<|Ei Z<|Est Z (N.alloc ty_Query dc)<|λb4 _=>Ev Z10<|Em Z<|d8<|Est Z (N.call (pre:=[_]) b3v Z Z Z dc Z<|λw Lp hA=>hA.ro hbs)<|λk10 o10=>?_
 obtain ⟨xs10,ms10,hq10,aq10,⟨a10_0,m10_0,c10_0⟩,⟨a10_1,m10_1,c10_1⟩,⟨a10_2,m10_2,c10_2⟩,⟨a10_3,m10_3,c10_3⟩⟩:=k10
 try dsimp only at o10
 try (conv=>arg 4;dsimp only)
 try (conv=>arg 5;dsimp only[ca,na])
 refine f0 m0 ?_
 rintro rfl l10_0
 refine f0 (mS m0) ?_
 rintro rfl l10_1
 refine f0 (mS<|mS m0) ?_
 rintro rfl l10_2
 refine f0 (mS<|mS<|mS m0) ?_
 rintro rfl l10_3
 refine Em Z<|Ey Z ((Y.ext Z Z).yd)<|Ey Z ((Y.ext Z Z).yd)<|Ey Z ((Y.ext Z Z).yd)<|Est Z (N.alloc ty_Query dc)<|λb7 _=>Ei Z<|Ei Z<|Est Z (Ns [_,_] ty_Query Z)<|λ_ _=>Eu<|Eq_<|Ew Z6<|Em Z<|E0 Z M7 Z (λhA=>hA.ow<|mS m0)<|Ent.b (λq15=>?_)<|λq15=>?_
 ·refine Em Z<|Em Z<|u6<|Est Z (N.call (pre:=[_]) R7 Z Z Z dc Z<|λw Lp hA=>hA.ro hbs)<|λo18 o18=>?_
  try dsimp only at o18
  try (conv=>arg 5;dsimp only[ca,na])
  refine Ent.b (λq18=>?_)<|λq18=>?_
  ·refine Ypt Z<|Eu<|r9 Z<|Ew Z8<|Em Z<|Em Z<|Em Z<|Em Z<|Est Z (N.call (pre:=[_]) (a7l (a0b q15).1 (a0b q15).2.2) Z Z Z dc Z<|λw Lp hA=>⟨hA.ow<|mS m0,hA.ro hbs⟩)<|λk24 o24=>?_
   obtain ⟨hq24,aq24,⟨a24_0,m24_0,c24_0⟩,⟨a24_1,m24_1,c24_1⟩⟩:=k24
   try dsimp only at o24
   try (conv=>arg 4;dsimp only)
   try (conv=>arg 5;dsimp only[ca,na])
   refine f0 m0 ?_
   rintro rfl l24_0
   refine f0 (mS m0) ?_
   rintro rfl l24_1
   refine Ei Z<|Ei Z<|B4<|Est Z (Ns [_,_] ty_Query Z)<|λ_ _=>Eu<|E.ret<|a5h<|i9<|i9<|s4<|s4<|u6<|s6<|s6<|s6<|s6<|a7b br Z Z Z Z (mS<|mS<|mS<|mS<|mS m0) ty_Query Z (xs10,ms10,hq24,aq24,(_,_,_),(_,_,_),(_,_,_),(_,_,_)) (show (1≤xs10.length∧xs10.length≤4)∧(ms10.length≤5∧∀m∈ms10,m.2.1.length≤4)∧sQ hq24 aq24∧((∀a∈aq24,dA dT a)∨ ∀a∈aq24,dA rT a) from by first|exact ⟨o10.1,o10.2.1,o24.small4,.inr o24.2.1⟩|exact ⟨o10.1,o10.2.1,o10.2.2.small,.inl o10.2.2.2.1⟩) Z (J:=_) (.refl _)<|.inl Z
  ·refine Ypt Z<|Eu<|Cf<|Eq_<|D.region (λj=> !(Nat.beq j 5)) mixed<|Dm 0 Z<|Dm 1 Z<|Dy 2 Z (l4 (cs:=[_,_]) ty_Query Z (Has.pt<|mS m0) Z)<|Dyp 3 Z (E5 Z)<|Dyp 4 Z (E5 Z)<|s4<|w6 5 Z Z kr (λh=>by cases h) (Ns [_,_] ty_Query rfl)<|λ_ _=>o4 kr<|Et<|E.ret<|s4<|s4<|s4<|s4<|u6<|s6<|s6<|s6<|s6<|a7b br Z Z Z Z (mS<|mS<|mS<|mS<|mS m0) ty_Query Z (xs10,ms10,hq10,aq10,(_,_,_),(_,_,_),(_,_,_),(_,_,_)) (show (1≤xs10.length∧xs10.length≤4)∧(ms10.length≤5∧∀m∈ms10,m.2.1.length≤4)∧sQ hq10 aq10∧((∀a∈aq10,dA dT a)∨ ∀a∈aq10,dA rT a) from by first|exact ⟨o10.1,o10.2.1,o24.small4,.inr o24.2.1⟩|exact ⟨o10.1,o10.2.1,o10.2.2.small,.inl o10.2.2.2.1⟩) Z (J:=_) (.refl _)<|.inl Z
 ·refine Em Z<|Es Z<|Es Z<|Ypf Z<|Eu<|Cf<|Eq_<|D.region (λj=> !(Nat.beq j 5)) mixed<|Dm 0 Z<|Dm 1 Z<|Dy 2 Z (l4 (cs:=[_,_]) ty_Query Z (Has.pt m0) Z)<|Dyp 3 Z (E5 Z)<|Dyp 4 Z (E5 Z)<|s4<|w6 5 Z Z kr (λh=>by cases h) (Ns [_,_] ty_Query rfl)<|λ_ _=>o4 kr<|Et<|E.ret<|u6<|u6<|u6<|u6<|s4<|s6<|s6<|s6<|s6<|a7b br Z Z Z Z (mS<|mS<|mS<|mS<|mS m0) ty_Query Z (xs10,ms10,hq10,aq10,(_,_,_),(_,_,_),(_,_,_),(_,_,_)) (show (1≤xs10.length∧xs10.length≤4)∧(ms10.length≤5∧∀m∈ms10,m.2.1.length≤4)∧sQ hq10 aq10∧((∀a∈aq10,dA dT a)∨ ∀a∈aq10,dA rT a) from by first|exact ⟨o10.1,o10.2.1,o24.small4,.inr o24.2.1⟩|exact ⟨o10.1,o10.2.1,o10.2.2.small,.inl o10.2.2.2.1⟩) Z (J:=_) (.refl _)<|.inl Z
end Go.Proofs.YthapcdhdfaibkaaGreatDoor
end
section
namespace Go.Proofs.YthapcdhdfaibkaaGreatDoor
open Go.RowKit
set_option linter.all false
section
variable {P:Program} {n:Nat} {w0:World} {L0:List Nat} {fr:Fr} {H:List HP} {fn:Func} {κ:Type} {φ:κ→Prop} {ret:κ→Value} {post:κ→List HP} {wb:World} {Lb:List Nat}
theorem c3W (hb:a0G w0 L0 wb Lb) {e:Exit} {s0:Nat} {v0:Value} {s1:Nat} {v1:Value} {s2:Nat} {v2:Value} {s3:Nat} {v3:Value} (hres:fn.results= #[.tmp s0,.tmp s1,.tmp s2,.tmp s3]) (hv0:fr.lookup s0=some v0) (hv1:fr.lookup s1=some v1) (hv2:fr.lookup s2=some v2) (hv3:fr.lookup s3=some v3) 
    (k:κ) (hk:φ k) (hr: .tuple #[v0,v1,v2,v3]=ret k) {J:List HP} (hH:H.Perm (post k++J)) (he:e= .ret∨e= .normal):Ent n w0 L0 fr H (bodyPost P fn (Fin φ ret post wb Lb) e):=
  a4i hb he k hk hr hH λa w h1 h2=>by
    have u0:=h1.ev (x:=.tmp s0) hv0
    have u1:=h1.ev (x:=.tmp s1) hv1
    have u2:=h1.ev (x:=.tmp s2) hv2
    have u3:=h1.ev (x:=.tmp s3) hv3
    simp only[Act.eval] at u0 u1 u2 u3
    rw[Array.getD_eq_getD_getElem?] at u0 u1 u2 u3
    simp[results,hres,u0,u1,u2,u3]
end
end Go.Proofs.YthapcdhdfaibkaaGreatDoor
end
section
namespace Go.Proofs.YthapcdhdfaibkaaGreatDoor
open Go.RowKit
set_option linter.all false
set_option maxHeartbeats 2000000
attribute [local irreducible] Nop Yd Yp Ent Has Tr FnP FnP2 Src K8 Q7 R5 S1 E8
variable {m_code c_code:Nat} {a_code:Option Addr}
theorem a2K {b_c:Nat} {a_b:Option Addr} {m_b c_b:Nat} {bs:List UInt8}:Tr Tryz.prog 129 [.pointer (some ⟨b_c,0,none⟩)] (λw L=>Ro w L a0f [.slice a_b m_b c_b] bs) [cur b_c a_b m_b c_b] (κ:=(List Int)×(List (Int×List Int×Int×Int×Int))×(List (List Int×List IL))×(SL)×(SL)×SL) (λk=>(1≤k.1.length∧k.1.length≤4)∧(k.2.1.length≤5∧∀m∈k.2.1,m.2.1.length≤4)∧uU k.2.2.1) (λk=>.tuple #[.slice k.2.2.2.1.1 k.2.2.2.1.2.1 k.2.2.2.1.2.2,.slice k.2.2.2.2.1.1 k.2.2.2.2.1.2.1 k.2.2.2.2.1.2.2,.slice k.2.2.2.2.2.1 k.2.2.2.2.2.2.1 k.2.2.2.2.2.2.2]) (λk=>[ow eIs [.slice k.2.2.2.1.1 k.2.2.2.1.2.1 k.2.2.2.1.2.2] k.1,ow F0 [.slice k.2.2.2.2.1.1 k.2.2.2.2.1.2.1 k.2.2.2.2.1.2.2] k.2.1,ow y7 [.slice k.2.2.2.2.2.1 k.2.2.2.2.2.2.1 k.2.2.2.2.2.2.2] k.2.2.1,cur b_c a_b m_b c_b]):=by
 refine Ti1 Tryz.func129 84 Z λw L hR=>?_
 have hbs:=hR
 obtain ⟨rfl,lb⟩:=hbs.slen
 refine Ew Z3<|Ei Z<|Ei Z<|Ei Z<|Ev Z10<|Em Z<|Est Z (N.call (pre:=[_]) b2h Z Z Z dc Z<|λw Lp hA=>hA.ro hbs)<|λk15 o15=>?_
 obtain ⟨xs15,ms15,hq15,aq15,⟨a15_0,m15_0,c15_0⟩,⟨a15_1,m15_1,c15_1⟩,⟨a15_2,m15_2,c15_2⟩,⟨a15_3,m15_3,c15_3⟩⟩:=k15
 try dsimp only at o15
 try (conv=>arg 4;dsimp only)
 try (conv=>arg 5;dsimp only[ca,na])
 have jt:=b8a o15.2.2.1
 have jh:=o15.2.2.1.2.2
 have ju:uAq aq15:=o15.2.2.2
 have jqn:aq15.length≤1048576:=by have:=o15.2.2.1.1;omega
 have jqt:∀a∈aq15,a.2.length≤1048576:=λa ha=>by have:=o15.2.2.1.2.1 a ha;omega
 refine f0 m0 ?_
 rintro rfl l15_0
 refine f0 (mS m0) ?_
 rintro rfl l15_1
 refine f0 (mS<|mS m0) ?_
 rintro rfl l15_2
 refine f0 (mS<|mS<|mS m0) ?_
 rintro rfl l15_3
 refine Em Z<|Ey Z ((Y.ext Z Z).yd)<|Ey Z ((Y.ext Z Z).yd)<|Ey Z ((Y.ext Z Z).yd)<|Est Z (N.alloc ty_Query dc)<|λb7 _=>Ei Z<|Ei Z<|Est Z (Ns [_,_] ty_Query Z)<|λ_ _=>Ev Z3<|Ey Z (l4 (cs:=[_,_]) ty_Query Z (Has.pt m0) Z)<|Est Z (Nb [_] [_,_] us_Querys ty_Query Z Z)<|λb20 _=>m8 (A:=[_]) (V2<|c0N (E:=O6) (ce:=[.slice a15_2 (hq15).length c15_2,.slice a15_3 (aq15).length c15_3]) Z (by simp[Value.oneCell'])) Z<|Ei Z<|Eu<|Eq_<|Ew Z3<|Em Z<|s4<|Est Z (N.call (pre:=[_]) B5 Z Z Z dc Z<|λw Lp hA=>hA.ro hbs)<|λx22 o22=>?_
 try dsimp only at o22
 try (conv=>arg 5;dsimp only[ca,na])
 refine Ei Z<|Eu<|E.block<|E.loop (κ:=Nat×(List<|Option<|List Int×List IL)×SL) (λg=>g.1≤(x22).toNat∧osI g.2.1 g.1) (λg=>[(0,.pointer<|some ⟨b_c,0,none⟩),(5,.slice a15_0 (xs15).length c15_0),(6,.slice a15_1 (ms15).length c15_1),(7,.pointer<|some ⟨b7,0,none⟩),(8,.slice g.2.2.1 g.2.2.2.1 g.2.2.2.2),(9,.int .i64<|x22-(↑g.1:Int))]) (λg=>[cur b_c a_b bs.length c_b,ow (Enc.sl tQuery<|a2O [.slice a15_2 (hq15).length c15_2,.slice a15_3 (aq15).length c15_3] O6) [.slice g.2.2.1 g.2.2.2.1 g.2.2.2.2] g.2.1,pt b7 28 [.slice a15_2 (hq15).length c15_2,.slice a15_3 (aq15).length c15_3],ow eIs [.slice a15_0 (xs15).length c15_0] xs15,ow F0 [.slice a15_1 (ms15).length c15_1] ms15,ow eIs [.slice a15_2 (hq15).length c15_2] hq15,ow v8 [.slice a15_3 (aq15).length c15_3] aq15]) (λg=>(x22).toNat-g.1) (0,[none],(some ⟨b20,0,none⟩),1,1) ⟨Nat.zero_le _,by exact c7G⟩ ⟨Z,Z,Z,Z,Z,frI om,trivial⟩ (.refl _)<|λg pg=>?_
 obtain ⟨g,os,aA0_0,mA0_0,cA0_0⟩:=g
 try dsimp only at pg
 try dsimp only
 obtain ⟨pk,pa⟩:=pg
 have pa0:=pa
 have jo:=osI.len pa
 refine f0 (mS m0) ?_
 rintro rfl laA0_0
 refine Eq_<|Ew Z6<|Em Z<|Ey Z ((Y.gtr Z Z).yd)<|l3 (λq24=>?_)<|λq24=>?_
 ·refine Em Z<|Em Z<|E0 Z M7 Z (λhA=>hA.ow<|mS<|mS<|mS m0)<|Ent.b (λq27=>?_)<|λq27=>?_
  ·refine Ypt Z<|Eu<|Ct<|Eq_<|E.block<|Ew Z5<|Em Z<|Em Z<|Est Z (N.call (pre:=[_]) (a7l (a0b q27).1 (a0b q27).2.2) Z Z Z dc Z<|λw Lp hA=>⟨hA.ow<|mS<|mS m0,hA.ro hbs⟩)<|λk33 o33=>?_
   obtain ⟨hq33,aq33,⟨a33_0,m33_0,c33_0⟩,⟨a33_1,m33_1,c33_1⟩⟩:=k33
   try dsimp only at o33
   try (conv=>arg 4;dsimp only)
   try (conv=>arg 5;dsimp only[ca,na])
   have jt3:=b8a o33.small4
   refine f0 m0 ?_
   rintro rfl l33_0
   refine f0 (mS m0) ?_
   rintro rfl l33_1
   refine Est Z (N.alloc ty_Query dc)<|λb10 _=>Est Z (Ns [_,_] ty_Query Z)<|λ_ _=>Ev Z3<|Ey Z (l4 (cs:=[_,_]) ty_Query Z (Has.pt m0) Z)<|El Z (a2a fo) Z (λhA=>⟨hA.ow<|mS m0,hA.ow<|mS<|mS m0⟩)<|λa35 c35 l35=>Ei Z<|Ev Z3<|Est Z (Nb [] [] us_Is j8 Z Z)<|λb36 _=>Ent.drop<|Ey Z ((D3 fo_Query_0 ty_Is dc Z).yd)<|d8<|Est Z (Ns [_,_] ty_Is Z)<|λ_ _=>Eu<|Eq_<|Ew Z1<|Ei Z<|Eu<|E.block<|m8 (A:=[]) (Own.nil (E:=Enc.int) (e:=tI) (a:=(some ⟨b36,0,none⟩))) Z<|Lo (κ:=Nat×(List Int)×SL) (λh=>h.1≤hq15.length∧h.2.1.length≤h.1) (λh=>[(0,.pointer<|some ⟨b_c,0,none⟩),(5,.slice a15_0 (xs15).length c15_0),(6,.slice a15_1 (ms15).length c15_1),(7,.pointer<|some ⟨b7,0,none⟩),(8,.slice aA0_0 (os).length cA0_0),(9,.int .i64<|x22-(g:Int)),(10,.pointer<|some ⟨b10,0,none⟩),(11,.slice a35 (k7 (λt=>inR t 10 17) aq33).length c35),(12,.int .i64 (↑h.1:Int))]) (λh=>[ow eIs [.slice h.2.2.1 h.2.2.2.1 h.2.2.2.2] h.2.1,pt b10 28 [.slice h.2.2.1 h.2.2.2.1 h.2.2.2.2,.slice a33_1 (aq33).length c33_1],ow eIs [.slice a35 (k7 (λt=>inR t 10 17) aq33).length c35]<|k7 (λt=>inR t 10 17) aq33,ow eIs [.slice a33_0 (hq33).length c33_0] hq33,ow v8 [.slice a33_1 (aq33).length c33_1] aq33,cur b_c a_b bs.length c_b,ow (Enc.sl tQuery<|a2O [.slice a15_2 (hq15).length c15_2,.slice a15_3 (aq15).length c15_3] O6) [.slice aA0_0 (os).length cA0_0] os,pt b7 28 [.slice a15_2 (hq15).length c15_2,.slice a15_3 (aq15).length c15_3],ow eIs [.slice a15_0 (xs15).length c15_0] xs15,ow F0 [.slice a15_1 (ms15).length c15_1] ms15,ow eIs [.slice a15_2 (hq15).length c15_2] hq15,ow v8 [.slice a15_3 (aq15).length c15_3] aq15]) (λh=>hq15.length-h.1) (0,[],(some ⟨b36,0,none⟩),0,0) ⟨Nat.zero_le _,by simp⟩<|λh ph=>?_
   obtain ⟨h,hd,aA1_0,mA1_0,cA1_0⟩:=h
   try dsimp only at ph
   try dsimp only
   obtain ⟨pk,pa⟩:=ph
   refine f0 m0 ?_
   rintro rfl laA1_0
   refine Eq_<|Ew Z10<|Em Z<|Lf fo_Query_0 ty_Is Z (Hs (Has.pt<|mS<|mS<|mS<|mS<|mS<|mS<|mS m0) 0 Z)<|Yln us_Is Z<|Ylt Z<|l3 (λq42=>?_)<|λq42=>?_
   ·refine Em Z<|Em Z<|Yln us_Is Z<|Ey Z ((Y.gtr Z Z).yd)<|l3 (λq46=>?_)<|λq46=>?_
    ·refine Ypt Z<|Eu<|Ct<|Eq_<|E.block<|U3 [b10] (λj=> !(Nat.beq j 12)) mixed<|C7 0 Z Z dc (D3 fo_Query_0 ty_Is dc Z) kr<|a1y 1 Z Z dc (W4 ty_Is Z ((X7.pt (mS m0) (by simp)).sub (cs':=[_]) 0 Z) Z) kr<|C7 2 Z Z dc (P5 Z) kr<|C7 3 Z Z dc (P5 Z) kr<|C7 4 Z Z dc (P5 Z) kr<|C7 5 Z Z dc (Y.len us_Is Z) kr<|u6<|G7 6 Z Z kr (λ_ _=>SameI.out) (N.call (pre:=[_]) B5 Z Z Z dc Z<|λw Lp hA=>hA.ro hbs)<|λx56 o56=>?_
     try dsimp only at o56
     try (conv=>arg 5;dsimp only[ca,na])
     refine R1 (mS<|mS<|mS m0) om λab57 ae57=>b6V x56.toNat (mS<|mS<|mS m0) om λei57=>C7 7 Z Z dc (y6 us_Is j8 Z ae57 Z x56.toNat om om) kr<|b7L 8 Z Z dc (z7 j8 Z (b5D ae57 (mS<|mS<|mS m0) om) Z) kr<|G7 9 Z Z kr (λ_ _=>SameI.out) (Nb [_] [_] us_Is j8 Z Z)<|λb59 _=>i9<|G7 10 Z Z kr (λ_ _=>SameI.out) (w3 (E:=Enc.int) (ex:=(k7 (λt=>inR t 10 17) aq33)[x56.toNat]) us_Is j8 Z Z Z (Own.int ei57) Z bn bn dc)<|λp60 _=>C7 11 Z Z dc (D3 fo_Query_0 ty_Is dc Z) kr<|i9<|G7 12 Z Z kr (λh=>by cases h) (Ns [_,_] ty_Is rfl)<|λ_ _=>X4 kr<|o6<|Et<|Ez Z3<|Em Z<|Yad Z om om<|Ei Z<|Eu<|G0<|G0<|G0<|G0<|G0<|G0<|B4<|G0<|G0<|G0<|a6w<|G0 ?_
     exact Ea (h+1,hd++[(k7 (λt=>inR t 10 17) aq33)[x56.toNat]],p60.1,((hd).length+1),p60.2) ⟨oz,(show (hd++[(k7 (λt=>inR t 10 17) aq33)[x56.toNat]]).length≤(h+1) from by (simp only[List.length_append,List.length_singleton];omega))⟩
    ·refine Ypt Z<|Eu<|r8 Z<|E.exit<|l2<|l2<|u4<|Et<|Eq_<|Ew Z2<|Em Z<|u6<|Est Z (N.call (pre:=[_]) R7 Z Z Z dc Z<|λw Lp hA=>hA.ro hbs)<|λo63 o63=>?_
     try dsimp only at o63
     try (conv=>arg 5;dsimp only[ca,na])
     refine Ent.b (λq63=>?_)<|λq63=>?_
     ·refine Eu<|r9 Z<|Ew Z3<|Ey Z (l4 (cs:=[_,_]) ty_Query Z (Has.pt<|mS<|mS<|mS<|mS<|mS<|mS<|mS m0) Z)<|Est Z (N.call (a2W fo fo fo) Z Z Z dc Z<|λw Lp hA=>⟨hA.ow<|mS<|mS<|mS<|mS<|mS<|mS<|mS<|mS<|mS<|mS m0,hA.ow<|mS<|mS<|mS<|mS<|mS<|mS<|mS<|mS<|mS<|mS<|mS m0⟩)<|λk65 _=>?_
      obtain ⟨⟨a65_0,m65_0,c65_0⟩,⟨a65_1,m65_1,c65_1⟩⟩:=k65
      refine f0 m0 ?_
      rintro rfl l65_0
      refine f0 (mS m0) ?_
      rintro rfl l65_1
      refine s6<|Est Z (Ns [_,_] ty_Query Z)<|λ_ _=>Eu<|U3 [b10] (λj=> !(Nat.beq j 11)) mixed<|C7 0 Z Z dc (D3 fo_Query_1 ty_Atoms dc Z) kr<|a1y 1 Z Z dc (W4 ty_Atoms Z ((X7.pt m0 (by simp)).sub (cs':=[_]) 1 Z) Z) kr<|C7 2 Z Z dc (P5 Z) kr<|C7 3 Z Z dc (P5 Z) kr<|n0<|G7 4 Z Z kr (λ_ _=>SameI.out) (N.call (pre:=[_]) (a1K (a0b q27).1 (a0b q27).2.2) Z Z Z dc Z<|λw Lp hA=>⟨hA.ow<|mS<|mS<|mS<|mS<|mS<|mS<|mS<|mS<|mS m0,hA.ro hbs⟩)<|λk70 o70=>?_
      obtain ⟨hq70,aq70,⟨a70_0,m70_0,c70_0⟩,⟨a70_1,m70_1,c70_1⟩⟩:=k70
      try dsimp only at o70
      try (conv=>arg 4;dsimp only)
      try (conv=>arg 5;dsimp only[ca,na])
      have jl:=o70.1
      refine f0 m0 ?_
      rintro rfl l70_0
      refine f0 (mS m0) ?_
      rintro rfl l70_1
      refine C7 5 Z Z dc (c1n (cs:=[_,_]) fo_Query_1 ty_Atoms Z Z) kr<|R1 (mS m0) om λab72 ae72=>d8<|X9 (x:=aq70[0]) 0 (List.getElem?_eq_getElem om) λce72=>?_
      refine d8<|a4n λoa72_1 om72_1 oc72_1 oe72 oi72_0 on72_1=>?_
      subst oe72
      subst on72_1
      refine C7 6 Z Z dc (y6 us_Atoms ty_Atom Z ae72 Z 0 Z om) kr<|b7L 7 Z Z dc (l4 (cs:=[_,_]) ty_Atom Z (Has.hole ae72<|mS m0) Z) kr<|G7 8 Z Z kr (λ_ _=>SameI.out) (Nb [_] [_,_] us_Atoms ty_Atom Z Z)<|λb74 _=>d8<|d8<|H1<|G7 9 Z Z kr (λ_ _=>SameI.out) (w3 (E:=W5) (ex:=aq70[0]) us_Atoms ty_Atom Z Z Z (O3 (x:=aq70[0]) oi72_0 Own.ow) Z bn bn dc)<|λp75 _=>C7 10 Z Z dc (D3 fo_Query_1 ty_Atoms dc Z) kr<|s6<|G7 11 Z Z kr (λh=>by cases h) (Ns [_,_] ty_Atoms rfl)<|λ_ _=>X4 kr<|Et<|Ez Z5<|i9<|Ent.drop<|Em Z<|Ey Z (l4 (cs:=[_,_]) ty_Query Z (Has.pt m0) Z)<|Est Z (Nb [_] [_,_] us_Querys ty_Query Z Z)<|λb79 _=>i9<|u6<|i9<|a6w<|Est Z (w3 (E:=(a2O [.slice a15_2 (hq15).length c15_2,.slice a15_3 (aq15).length c15_3] O6)) (ex:=some (hq15,aq15++[aq70[0]])) us_Querys ty_Query Z Z Z (a7a<|(Q9 (x:=(hq15,aq15++[aq70[0]])) Own.ow Own.ow)) Z om om dc)<|λp80 _=>Ei Z<|En<|o6<|Et<|Ez Z3<|Em Z<|Ey Z ((Y.sub Z Z om om).yd)<|Ei Z<|Eu<|d8<|Ent.drop<|d8<|Ent.drop<|i9<|Ent.drop<|i9<|Ent.drop<|i9<|Ent.drop<|i9<|Ent.drop<|s4<|s4<|s4<|s4<|s4 ?_
      refine u6<|s4 ?_
      exact u7 br (g+1,os++[some (hq15,aq15++[aq70[0]])],p80.1,((os).length+1),p80.2) ⟨Z,Z,Z,Z,Z,frI om,trivial⟩ (.refl _) ⟨oz,(show osI (os++[some (hq15,aq15++[aq70[0]])]) (g+1) from by first|exact osI.step pa0 (b1f o33 om)|exact osI.step pa0 (b3M o15.2.2.1 ju o70))⟩ oz
     ·refine Eu<|Cf<|Ez Z5<|Em Z<|Ey Z (l4 (cs:=[_,_]) ty_Query Z (Has.pt<|mS<|mS m0) Z)<|Est Z (Nb [_] [_,_] us_Querys ty_Query Z Z)<|λb79 _=>s4<|n0<|i9<|H1<|Est Z (w3 (E:=(a2O [.slice a15_2 (hq15).length c15_2,.slice a15_3 (aq15).length c15_3] O6)) (ex:=some (hd,aq33)) us_Querys ty_Query Z Z Z (a7a<|(Q9 (x:=(hd,aq33)) Own.ow Own.ow)) Z om om dc)<|λp80 _=>Ei Z<|En<|o6<|Et<|Ez Z3<|Em Z<|Ey Z ((Y.sub Z Z om om).yd)<|Ei Z<|Eu<|i9<|Ent.drop<|i9<|Ent.drop<|i9<|Ent.drop<|s4<|s4<|s4<|s4<|s4<|u6<|s4 ?_
      exact u7 br (g+1,os++[some (hd,aq33)],p80.1,((os).length+1),p80.2) ⟨Z,Z,Z,Z,Z,frI om,trivial⟩ (.refl _) ⟨oz,(show osI (os++[some (hd,aq33)]) (g+1) from by first|exact osI.step pa0 (b1f o33 om)|exact osI.step pa0 (b3M o15.2.2.1 ju o70))⟩ oz
   ·refine Em Z<|Es Z<|Es Z<|Es Z<|Ypf Z<|Eu<|r8 Z<|E.exit<|l2<|l2<|u4<|Et<|Eq_<|Ew Z2<|Em Z<|u6<|Est Z (N.call (pre:=[_]) R7 Z Z Z dc Z<|λw Lp hA=>hA.ro hbs)<|λo63 o63=>?_
    try dsimp only at o63
    try (conv=>arg 5;dsimp only[ca,na])
    refine Ent.b (λq63=>?_)<|λq63=>?_
    ·refine Eu<|r9 Z<|Ew Z3<|Ey Z (l4 (cs:=[_,_]) ty_Query Z (Has.pt<|mS<|mS<|mS<|mS<|mS<|mS<|mS m0) Z)<|Est Z (N.call (a2W fo fo fo) Z Z Z dc Z<|λw Lp hA=>⟨hA.ow<|mS<|mS<|mS<|mS<|mS<|mS<|mS<|mS<|mS<|mS m0,hA.ow<|mS<|mS<|mS<|mS<|mS<|mS<|mS<|mS<|mS<|mS<|mS m0⟩)<|λk65 _=>?_
     obtain ⟨⟨a65_0,m65_0,c65_0⟩,⟨a65_1,m65_1,c65_1⟩⟩:=k65
     refine f0 m0 ?_
     rintro rfl l65_0
     refine f0 (mS m0) ?_
     rintro rfl l65_1
     refine s6<|Est Z (Ns [_,_] ty_Query Z)<|λ_ _=>Eu<|U3 [b10] (λj=> !(Nat.beq j 11)) mixed<|C7 0 Z Z dc (D3 fo_Query_1 ty_Atoms dc Z) kr<|a1y 1 Z Z dc (W4 ty_Atoms Z ((X7.pt m0 (by simp)).sub (cs':=[_]) 1 Z) Z) kr<|C7 2 Z Z dc (P5 Z) kr<|C7 3 Z Z dc (P5 Z) kr<|n0<|G7 4 Z Z kr (λ_ _=>SameI.out) (N.call (pre:=[_]) (a1K (a0b q27).1 (a0b q27).2.2) Z Z Z dc Z<|λw Lp hA=>⟨hA.ow<|mS<|mS<|mS<|mS<|mS<|mS<|mS<|mS<|mS m0,hA.ro hbs⟩)<|λk70 o70=>?_
     obtain ⟨hq70,aq70,⟨a70_0,m70_0,c70_0⟩,⟨a70_1,m70_1,c70_1⟩⟩:=k70
     try dsimp only at o70
     try (conv=>arg 4;dsimp only)
     try (conv=>arg 5;dsimp only[ca,na])
     have jl:=o70.1
     refine f0 m0 ?_
     rintro rfl l70_0
     refine f0 (mS m0) ?_
     rintro rfl l70_1
     refine C7 5 Z Z dc (c1n (cs:=[_,_]) fo_Query_1 ty_Atoms Z Z) kr<|R1 (mS m0) om λab72 ae72=>d8<|X9 (x:=aq70[0]) 0 (List.getElem?_eq_getElem om) λce72=>?_
     refine d8<|a4n λoa72_1 om72_1 oc72_1 oe72 oi72_0 on72_1=>?_
     subst oe72
     subst on72_1
     refine C7 6 Z Z dc (y6 us_Atoms ty_Atom Z ae72 Z 0 Z om) kr<|b7L 7 Z Z dc (l4 (cs:=[_,_]) ty_Atom Z (Has.hole ae72<|mS m0) Z) kr<|G7 8 Z Z kr (λ_ _=>SameI.out) (Nb [_] [_,_] us_Atoms ty_Atom Z Z)<|λb74 _=>d8<|d8<|H1<|G7 9 Z Z kr (λ_ _=>SameI.out) (w3 (E:=W5) (ex:=aq70[0]) us_Atoms ty_Atom Z Z Z (O3 (x:=aq70[0]) oi72_0 Own.ow) Z bn bn dc)<|λp75 _=>C7 10 Z Z dc (D3 fo_Query_1 ty_Atoms dc Z) kr<|s6<|G7 11 Z Z kr (λh=>by cases h) (Ns [_,_] ty_Atoms rfl)<|λ_ _=>X4 kr<|Et<|Ez Z5<|i9<|Ent.drop<|Em Z<|Ey Z (l4 (cs:=[_,_]) ty_Query Z (Has.pt m0) Z)<|Est Z (Nb [_] [_,_] us_Querys ty_Query Z Z)<|λb79 _=>i9<|u6<|i9<|a6w<|Est Z (w3 (E:=(a2O [.slice a15_2 (hq15).length c15_2,.slice a15_3 (aq15).length c15_3] O6)) (ex:=some (hq15,aq15++[aq70[0]])) us_Querys ty_Query Z Z Z (a7a<|(Q9 (x:=(hq15,aq15++[aq70[0]])) Own.ow Own.ow)) Z om om dc)<|λp80 _=>Ei Z<|En<|o6<|Et<|Ez Z3<|Em Z<|Ey Z ((Y.sub Z Z om om).yd)<|Ei Z<|Eu<|d8<|Ent.drop<|d8<|Ent.drop<|i9<|Ent.drop<|i9<|Ent.drop<|i9<|Ent.drop<|i9<|Ent.drop<|s4<|s4<|s4<|s4<|s4 ?_
     refine u6<|s4 ?_
     exact u7 br (g+1,os++[some (hq15,aq15++[aq70[0]])],p80.1,((os).length+1),p80.2) ⟨Z,Z,Z,Z,Z,frI om,trivial⟩ (.refl _) ⟨oz,(show osI (os++[some (hq15,aq15++[aq70[0]])]) (g+1) from by first|exact osI.step pa0 (b1f o33 om)|exact osI.step pa0 (b3M o15.2.2.1 ju o70))⟩ oz
    ·refine Eu<|Cf<|Ez Z5<|Em Z<|Ey Z (l4 (cs:=[_,_]) ty_Query Z (Has.pt<|mS<|mS m0) Z)<|Est Z (Nb [_] [_,_] us_Querys ty_Query Z Z)<|λb79 _=>s4<|n0<|i9<|H1<|Est Z (w3 (E:=(a2O [.slice a15_2 (hq15).length c15_2,.slice a15_3 (aq15).length c15_3] O6)) (ex:=some (hd,aq33)) us_Querys ty_Query Z Z Z (a7a<|(Q9 (x:=(hd,aq33)) Own.ow Own.ow)) Z om om dc)<|λp80 _=>Ei Z<|En<|o6<|Et<|Ez Z3<|Em Z<|Ey Z ((Y.sub Z Z om om).yd)<|Ei Z<|Eu<|i9<|Ent.drop<|i9<|Ent.drop<|i9<|Ent.drop<|s4<|s4<|s4<|s4<|s4<|u6<|s4 ?_
     exact u7 br (g+1,os++[some (hd,aq33)],p80.1,((os).length+1),p80.2) ⟨Z,Z,Z,Z,Z,frI om,trivial⟩ (.refl _) ⟨oz,(show osI (os++[some (hd,aq33)]) (g+1) from by first|exact osI.step pa0 (b1f o33 om)|exact osI.step pa0 (b3M o15.2.2.1 ju o70))⟩ oz
  ·refine Ypt Z<|Eu<|r8 Z<|E.exit<|l2<|l2<|u4<|Et<|Ew Z6<|Em Z<|Em Z<|Em Z<|Ei Z<|Ei Z<|Ei Z ?_
   obtain ⟨us,hos,pu⟩:=pa0
   refine Eu<|E.ret<|s4<|s4<|n0<|g9 (congrArg (ow (Enc.sl tQuery<|a2O [.slice a15_2 (hq15).length c15_2,.slice a15_3 (aq15).length c15_3] O6) [_]) hos)<|b3o (A:=[_,_]) (x:=(hq15,aq15)) (Q9 (x:=(hq15,aq15)) Own.ow Own.ow)<|s6<|s6<|n0<|n0<|n0<|n0<|b7Q br Z Z Z Z (xs15,ms15,(hq15,aq15)::us,(_,_,_),(_,_,_),(_,_,_)) (show (1≤xs15.length∧xs15.length≤4)∧(ms15.length≤5∧∀m∈ms15,m.2.1.length≤4)∧uU ((hq15,aq15)::us) from by exact ⟨o15.1,o15.2.1,c1b pu om<|c1c o15.2.2.1 ju⟩) Z (J:=_) (.refl _)<|.inl Z
 ·refine Em Z<|Es Z<|Es Z<|Ypf Z<|Eu<|r8 Z<|E.exit<|l2<|l2<|u4<|Et<|Ew Z6<|Em Z<|Em Z<|Em Z<|Ei Z<|Ei Z<|Ei Z ?_
  obtain ⟨us,hos,pu⟩:=pa0
  refine Eu<|E.ret<|s4<|s4<|n0<|g9 (congrArg (ow (Enc.sl tQuery<|a2O [.slice a15_2 (hq15).length c15_2,.slice a15_3 (aq15).length c15_3] O6) [_]) hos)<|b3o (A:=[_,_]) (x:=(hq15,aq15)) (Q9 (x:=(hq15,aq15)) Own.ow Own.ow)<|s6<|s6<|n0<|n0<|n0<|n0<|b7Q br Z Z Z Z (xs15,ms15,(hq15,aq15)::us,(_,_,_),(_,_,_),(_,_,_)) (show (1≤xs15.length∧xs15.length≤4)∧(ms15.length≤5∧∀m∈ms15,m.2.1.length≤4)∧uU ((hq15,aq15)::us) from by exact ⟨o15.1,o15.2.1,c1b pu om<|c1c o15.2.2.1 ju⟩) Z (J:=_) (.refl _)<|.inl Z
theorem a7E {code:List UInt8} (hcl:code.length≤1048576):Tr Tryz.prog 44 [.slice a_code m_code c_code] (λw L=>Ro w L a0f [.slice a_code m_code c_code] code) [] (κ:=(List Int)×(List (List Int×List IL))×(SL)×SL) (λk=>k.1.length≤4∧uU k.2.1) (λk=>.tuple #[.slice k.2.2.1.1 k.2.2.1.2.1 k.2.2.1.2.2,.slice k.2.2.2.1 k.2.2.2.2.1 k.2.2.2.2.2]) (λk=>[ow eIs [.slice k.2.2.1.1 k.2.2.1.2.1 k.2.2.1.2.2] k.1,ow y7 [.slice k.2.2.2.1 k.2.2.2.2.1 k.2.2.2.2.2] k.2.1]):=by
 refine Ti1 Tryz.func44 16 Z λw L hR=>?_
 have hcode:=hR
 obtain ⟨rfl,lcode⟩:=hcode.slen
 refine Ew Z2<|Ei Z<|Ei Z<|Ev Z10<|Em Z<|Est Z (N.call (a3z fc) Z Z Z dc Z<|λw Lp hA=>hA.ro hcode)<|λb9 _=>?_
 have hbs:=hcode
 refine Est Z (N.call (pre:=[_]) a2K Z Z Z dc Z<|λw Lp hA=>hA.ro hbs)<|λk10 o10=>?_
 obtain ⟨xs10,ms10,us10,⟨a10_0,m10_0,c10_0⟩,⟨a10_1,m10_1,c10_1⟩,⟨a10_2,m10_2,c10_2⟩⟩:=k10
 try dsimp only at o10
 try (conv=>arg 4;dsimp only)
 try (conv=>arg 5;dsimp only[ca,na])
 refine f0 m0 ?_
 rintro rfl l10_0
 refine f0 (mS m0) ?_
 rintro rfl l10_1
 refine f0 (mS<|mS m0) ?_
 rintro rfl l10_2
 refine Em Z<|Ey Z ((Y.ext Z Z).yd)<|Ey Z ((Y.ext Z Z).yd)<|Ey Z ((Y.ext Z Z).yd)<|Ei Z<|Ei Z<|Ei Z<|Ev Z4<|Em Z<|Em Z<|Ei Z<|Ei Z<|Eu<|E.ret<|i9<|d8<|d8<|d8<|b2n br Z Z Z (xs10,us10,(_,_,_),(_,_,_)) (show xs10.length≤4∧uU us10 from by exact ⟨o10.1.2,o10.2.2⟩) Z (J:=_) (.refl _)<|.inl Z
theorem a5j {code:List UInt8} (hcl:code.length≤1048576):Tr Tryz.prog 30 [.slice a_code m_code c_code] (λw L=>Ro w L a0f [.slice a_code m_code c_code] code) [] (κ:=(List Int)×(List (Int×List Int×Int×Int×Int))×(List (List Int×List IL))×(List IL)×(SL)×(SL)×(SL)×SL) (λk=>(1≤k.1.length∧k.1.length≤4)∧(k.2.1.length≤5∧∀m∈k.2.1,m.2.1.length≤4)∧uU k.2.2.1∧k.2.2.2.1.length≤9∧∀f∈k.2.2.2.1,1≤f.2.length∧f.2.length≤4) (λk=>.tuple #[.slice k.2.2.2.2.1.1 k.2.2.2.2.1.2.1 k.2.2.2.2.1.2.2,.slice k.2.2.2.2.2.1.1 k.2.2.2.2.2.1.2.1 k.2.2.2.2.2.1.2.2,.slice k.2.2.2.2.2.2.1.1 k.2.2.2.2.2.2.1.2.1 k.2.2.2.2.2.2.1.2.2,.slice k.2.2.2.2.2.2.2.1 k.2.2.2.2.2.2.2.2.1 k.2.2.2.2.2.2.2.2.2]) (λk=>[ow eIs [.slice k.2.2.2.2.1.1 k.2.2.2.2.1.2.1 k.2.2.2.2.1.2.2] k.1,ow F0 [.slice k.2.2.2.2.2.1.1 k.2.2.2.2.2.1.2.1 k.2.2.2.2.2.1.2.2] k.2.1,ow y7 [.slice k.2.2.2.2.2.2.1.1 k.2.2.2.2.2.2.1.2.1 k.2.2.2.2.2.2.1.2.2] k.2.2.1,ow t7 [.slice k.2.2.2.2.2.2.2.1 k.2.2.2.2.2.2.2.2.1 k.2.2.2.2.2.2.2.2.2] k.2.2.2.1]):=by
 refine Ti1 Tryz.func30 24 Z λw L hR=>?_
 have hcode:=hR
 obtain ⟨rfl,lcode⟩:=hcode.slen
 refine Ew Z4<|Ei Z<|Ei Z<|Ei Z<|Ei Z<|Ev Z3<|Em Z<|Est Z (N.call (a3z fc) Z Z Z dc Z<|λw Lp hA=>hA.ro hcode)<|λb11 _=>?_
 have hbs:=hcode
 refine Ei Z<|Ev Z9<|Em Z<|Est Z (N.call (pre:=[_]) a2K Z Z Z dc Z<|λw Lp hA=>hA.ro hbs)<|λk14 o14=>?_
 obtain ⟨xs14,ms14,us14,⟨a14_0,m14_0,c14_0⟩,⟨a14_1,m14_1,c14_1⟩,⟨a14_2,m14_2,c14_2⟩⟩:=k14
 try dsimp only at o14
 try (conv=>arg 4;dsimp only)
 try (conv=>arg 5;dsimp only[ca,na])
 refine f0 m0 ?_
 rintro rfl l14_0
 refine f0 (mS m0) ?_
 rintro rfl l14_1
 refine f0 (mS<|mS m0) ?_
 rintro rfl l14_2
 refine Em Z<|Ey Z ((Y.ext Z Z).yd)<|Ey Z ((Y.ext Z Z).yd)<|Ey Z ((Y.ext Z Z).yd)<|Ei Z<|Ei Z<|Ei Z<|Ev Z10<|Em Z<|Em Z<|Em Z<|Em Z<|Em Z<|n0<|Est Z (N.call (pre:=[_]) a9b Z Z Z dc Z<|λw Lp hA=>⟨hA.ow m0,hA.ro hbs⟩)<|λk23 o23=>?_
 obtain ⟨fl23,⟨a23,m23,c23⟩⟩:=k23
 try dsimp only at o23
 try (conv=>arg 4;dsimp only)
 try (conv=>arg 5;dsimp only[ca,na])
 refine f0 m0 ?_
 rintro rfl l23
 refine Ei Z<|Ei Z<|Ei Z<|Ei Z<|Eu<|E.ret<|s6<|s6<|s6<|n0<|n0<|n0<|n0<|c3W br Z Z Z Z Z (xs14,ms14,us14,fl23,(_,_,_),(_,_,_),(_,_,_),(_,_,_)) (show (1≤xs14.length∧xs14.length≤4)∧(ms14.length≤5∧∀m∈ms14,m.2.1.length≤4)∧uU us14∧fl23.length≤9∧∀f∈fl23,1≤f.2.length∧f.2.length≤4 from by exact ⟨o14.1,o14.2.1,o14.2.2,o23⟩) Z (J:=_) (.refl _)<|.inl Z
theorem a5S {code:List UInt8} (hcl:code.length≤1048576):Tr Tryz.prog 42 [.slice a_code m_code c_code] (λw L=>Ro w L a0f [.slice a_code m_code c_code] code) [] (κ:=(List Int)×(List Int)×(List IL)×(List (List Int×List IL))×(SL)×(SL)×(SL)×SL) (λk=>k.1.length≤4∧uQ k.2.1 k.2.2.1∧k.2.2.2.1.length≤2∧∀q∈k.2.2.2.1,uQ q.1 q.2) (λk=>.tuple #[.slice k.2.2.2.2.1.1 k.2.2.2.2.1.2.1 k.2.2.2.2.1.2.2,.agg #[.slice k.2.2.2.2.2.1.1 k.2.2.2.2.2.1.2.1 k.2.2.2.2.2.1.2.2,.slice k.2.2.2.2.2.2.1.1 k.2.2.2.2.2.2.1.2.1 k.2.2.2.2.2.2.1.2.2],.slice k.2.2.2.2.2.2.2.1 k.2.2.2.2.2.2.2.2.1 k.2.2.2.2.2.2.2.2.2]) (λk=>[ow eIs [.slice k.2.2.2.2.1.1 k.2.2.2.2.1.2.1 k.2.2.2.2.1.2.2] k.1,ow (a0u y7 O6) [.slice k.2.2.2.2.2.2.2.1 k.2.2.2.2.2.2.2.2.1 k.2.2.2.2.2.2.2.2.2,.slice k.2.2.2.2.2.1.1 k.2.2.2.2.2.1.2.1 k.2.2.2.2.2.1.2.2,.slice k.2.2.2.2.2.2.1.1 k.2.2.2.2.2.2.1.2.1 k.2.2.2.2.2.2.1.2.2] (k.2.2.2.1,(k.2.1,k.2.2.1))]):=by
 refine Ti1 Tryz.func42 21 Z λw L hR=>?_
 have hcode:=hR
 obtain ⟨rfl,lcode⟩:=hcode.slen
 refine Ew Z3<|Ei Z<|Est Z (N.alloc ty_Query dc)<|λb3 _=>Ei Z<|Ev Z10<|Em Z<|Est Z (N.call (a3z fc) Z Z Z dc Z<|λw Lp hA=>hA.ro hcode)<|λb10 _=>?_
 have hbs:=hcode
 refine Est Z (N.call (pre:=[_]) a2K Z Z Z dc Z<|λw Lp hA=>hA.ro hbs)<|λk11 o11=>?_
 obtain ⟨xs11,ms11,us11,⟨a11_0,m11_0,c11_0⟩,⟨a11_1,m11_1,c11_1⟩,⟨a11_2,m11_2,c11_2⟩⟩:=k11
 try dsimp only at o11
 try (conv=>arg 4;dsimp only)
 try (conv=>arg 5;dsimp only[ca,na])
 have jl:=o11.2.2.1
 refine f0 m0 ?_
 rintro rfl l11_0
 refine f0 (mS m0) ?_
 rintro rfl l11_1
 refine f0 (mS<|mS m0) ?_
 rintro rfl l11_2
 refine Em Z<|Ey Z ((Y.ext Z Z).yd)<|Ey Z ((Y.ext Z Z).yd)<|Ey Z ((Y.ext Z Z).yd)<|Ei Z<|Ei Z<|Ei Z<|Eu<|Eq_<|D.region (λj=> !(Nat.beq j 7)) mixed<|Dm 0 Z<|Dm 1 Z<|R1 (mS<|mS m0) om λab17 ae17=>i9<|X9 (x:=us11[0]) 0 (List.getElem?_eq_getElem om) λce17=>?_
 refine d8<|a4F λoa17_0 om17_0 oc17_0 oa17_1 om17_1 oc17_1 oe17 on17_0 on17_1=>?_
 subst oe17
 subst on17_0
 subst on17_1
 refine Dyp 2 Z (y6 us_Querys ty_Query Z ae17 Z 0 Z om)<|Dy 3 Z (l4 (cs:=[_,_]) ty_Query Z (Has.hole ae17<|mS<|mS m0) Z)<|Dm 4 Z<|Dyp 5 Z (a5i (l:=1) us_Querys ty_Query Z Z om)<|Dyp 6 Z (E5 Z)<|s4<|w6 7 Z Z kr (λh=>by cases h) (Ns [_,_] ty_Query rfl)<|λ_ _=>Dyp 8 Z (E5 Z)<|o4 kr<|Et<|E.ret<|i9<|i9<|n0<|b7K (A:=[_,_]) (Q9 (x:=us11[0]) Own.ow Own.ow) (List.set_getElem_self om)<|i9<|d8<|d8 ?_
 exact c5Y br Z Z Z Z (mS<|mS m0) ty_Query Z (xs11,us11[0].1,us11[0].2,(us11.drop 1),(_,_,_),(_,_,_),(_,_,_),(_,_,_)) (show xs11.length≤4∧uQ us11[0].1 us11[0].2∧(us11.drop 1).length≤2∧∀q∈(us11.drop 1),uQ q.1 q.2 from by exact ⟨o11.1.2,o11.2.2.2 _<|List.getElem_mem om,by rw[List.length_drop];omega,λq hq=>o11.2.2.2 q<|List.mem_of_mem_drop hq⟩) Z (J:=_) (.refl _)<|.inl Z
theorem a6c {code:List UInt8} (hcl:code.length≤1048576):Tr Tryz.prog 43 [.slice a_code m_code c_code] (λw L=>Ro w L a0f [.slice a_code m_code c_code] code) [] (κ:=(List Int)×(List (List Int×List IL))×(List (List Int×List IL))×(SL)×(SL)×SL) (λk=>k.1.length≤4∧uU k.2.1∧∀q∈k.2.2.1,uQ q.1 q.2) (λk=>.tuple #[.slice k.2.2.2.1.1 k.2.2.2.1.2.1 k.2.2.2.1.2.2,.slice k.2.2.2.2.1.1 k.2.2.2.2.1.2.1 k.2.2.2.2.1.2.2,.slice k.2.2.2.2.2.1 k.2.2.2.2.2.2.1 k.2.2.2.2.2.2.2]) (λk=>[ow eIs [.slice k.2.2.2.1.1 k.2.2.2.1.2.1 k.2.2.2.1.2.2] k.1,ow (a0u y7 y7) [.slice k.2.2.2.2.1.1 k.2.2.2.2.1.2.1 k.2.2.2.2.1.2.2,.slice k.2.2.2.2.2.1 k.2.2.2.2.2.2.1 k.2.2.2.2.2.2.2] (k.2.1,k.2.2.1)]):=by
 refine Ti1 Tryz.func43 28 Z λw L hR=>?_
 have hcode:=hR
 obtain ⟨rfl,lcode⟩:=hcode.slen
 refine Ew Z3<|Ei Z<|Ei Z<|Ei Z<|Ev Z10<|Em Z<|Est Z (N.call (a3z fc) Z Z Z dc Z<|λw Lp hA=>hA.ro hcode)<|λb10 _=>?_
 have hbs:=hcode
 refine Est Z (N.call (pre:=[_]) a2K Z Z Z dc Z<|λw Lp hA=>hA.ro hbs)<|λk11 o11=>?_
 obtain ⟨xs11,ms11,us11,⟨a11_0,m11_0,c11_0⟩,⟨a11_1,m11_1,c11_1⟩,⟨a11_2,m11_2,c11_2⟩⟩:=k11
 try dsimp only at o11
 try (conv=>arg 4;dsimp only)
 try (conv=>arg 5;dsimp only[ca,na])
 have jl:=o11.2.2.1
 have jt:=uU.tot o11.2.2
 have jh:=uU.head o11.2.2
 refine f0 m0 ?_
 rintro rfl l11_0
 refine f0 (mS m0) ?_
 rintro rfl l11_1
 refine f0 (mS<|mS m0) ?_
 rintro rfl l11_2
 refine Em Z<|Ey Z ((Y.ext Z Z).yd)<|Ey Z ((Y.ext Z Z).yd)<|Ey Z ((Y.ext Z Z).yd)<|Ei Z<|Ei Z<|Ei Z<|Eu<|Eq_<|Ew Z4<|Em Z<|Yln us_U8s Z<|Ey Z ((a8E Z Z om om).yd)<|Yeq Z<|l3 (λq18=>?_)<|λq18=>?_
 ·refine Eu<|r9 Z<|Ew Z8<|Em Z<|Em Z<|Em Z<|Em Z<|El Z (a2h fc fc fc) Z (λhA=>⟨hA.ow m0,hA.ow<|mS<|mS m0⟩)<|λa23 c23 l23=>Ei Z<|Ei Z<|Ei Z<|Eu<|E.ret<|a5h<|n0<|b9r<|d8<|d8<|d8<|b7Q br Z Z Z Z (xs11,us11,m7 xs11 us11,(_,_,_),(_,_,_),(_,_,_)) (show xs11.length≤4∧uU us11∧∀q∈(m7 xs11 us11),uQ q.1 q.2 from by first|exact ⟨o11.1.2,o11.2.2,λq hq=>o11.2.2.2 q<|a0e hq⟩|exact ⟨o11.1.2,o11.2.2,λq hq=>o11.2.2.2 q<|List.mem_of_mem_take hq⟩) Z (J:=_) (.refl _)<|.inl Z
 ·refine Eu<|Cf<|Eq_<|D.region (λj=>true) mixed<|Dm 0 Z<|Dm 1 Z<|Dm 2 Z<|c7F (mS<|mS m0) λcw27=>Dyp 3 Z (a2T (h:=1) us_Querys ty_Query Z Z om)<|Dyp 4 Z (E5 Z)<|Dyp 5 Z (E5 Z)<|Dyp 6 Z (E5 Z)<|o4 kr<|Et<|E.ret<|i9<|b7N 1 om<|d8<|d8<|d8<|b7Q br Z Z Z Z (xs11,us11,(us11.take 1),(_,_,_),(_,_,_),(_,_,_)) (show xs11.length≤4∧uU us11∧∀q∈(us11.take 1),uQ q.1 q.2 from by first|exact ⟨o11.1.2,o11.2.2,λq hq=>o11.2.2.2 q<|a0e hq⟩|exact ⟨o11.1.2,o11.2.2,λq hq=>o11.2.2.2 q<|List.mem_of_mem_take hq⟩) Z (J:=_) (.refl _)<|.inl Z
end Go.Proofs.YthapcdhdfaibkaaGreatDoor
end
