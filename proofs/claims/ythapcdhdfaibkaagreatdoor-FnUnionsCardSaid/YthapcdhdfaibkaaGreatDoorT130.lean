import Derived.Test.YthapcdhdfaibkaaGreatDoorT90
import Derived.Test.YthapcdhdfaibkaaGreatDoorHq
namespace Go.Proofs.YthapcdhdfaibkaaGreatDoor
open Go.RowKit
set_option linter.all false
set_option maxHeartbeats 2000000
attribute [local irreducible] Nop Yd Yp Ent Has Tr FnP FnP2 Src K8 Q7 R5 S1 E8
variable {s:List Int} {b_c m_s c_s m_b c_b:Nat} {a_s a_b:Option Addr}
theorem a5E {bs:List UInt8} (h1:1≤s.length) (hsz:∀z∈s,1≤z∧z≤3) (h3:s.length≤3):Tr Tryz.prog 343 [.pointer (some ⟨b_c,0,none⟩),.slice a_s m_s c_s] (λw L=>Ro w L eIs [.slice a_s m_s c_s] s∧Ro w L a0f [.slice a_b m_b c_b] bs) [cur b_c a_b m_b c_b] (κ:=Int×(List Int)×Int×Int×Int×SL) (λk=>(-10≤k.1∧k.1≤10)∧k.2.1.length≤3∧(-10≤k.2.2.1∧k.2.2.1≤100)∧(-10≤k.2.2.2.1∧k.2.2.2.1≤100)∧ -10≤k.2.2.2.2.1∧k.2.2.2.2.1≤100) (λk=>.agg #[.int .i64 k.1,.slice k.2.2.2.2.2.1 k.2.2.2.2.2.2.1 k.2.2.2.2.2.2.2,.int .i64 k.2.2.1,.int .i64 k.2.2.2.1,.int .i64 k.2.2.2.2.1]) (λk=>[ow eIs [.slice k.2.2.2.2.2.1 k.2.2.2.2.2.2.1 k.2.2.2.2.2.2.2] k.2.1,cur b_c a_b m_b c_b]):=by
 refine Ti2 Tryz.func343 38 Z λw L hR=>?_
 obtain ⟨hs,hbs⟩:=hR
 obtain ⟨rfl,ls⟩:=hs.slen
 obtain ⟨rfl,lb⟩:=hbs.slen
 refine Ew Z1<|Est Z (N.alloc ty_Method dc)<|λb4 _=>Ev Z15<|Em Z<|Em Z<|Yln us_Is Z<|d8<|Est Z (N.call (pre:=[_]) B5 Z Z Z dc Z<|λw Lp hA=>hA.ro hbs)<|λx10 o10=>?_
 try dsimp only at o10
 try (conv=>arg 5;dsimp only[ca,na])
 have jx:x10.toNat<s.length:=by omega
 have jz:=hsz _ (List.getElem_mem jx)
 refine Em Z<|Est Z (Nb [_,_,_,_,_] [_,_,_,_,_] us_Is j8 Z Z)<|λb12 _=>m8 (A:=[_]) (Own.ints (e:=tI) (xs:=[0,0,0,1,2]) Z (by simp[maxLen]) (by simp only[List.forall_mem_cons];exact ⟨i6,i6,i6,i6,i6,List.forall_mem_nil _⟩)) Z<|d8<|Est Z (N.call (pre:=[_]) (K4 dc) Z Z Z dc Z<|λw Lp hA=>⟨hA.ow m0,hA.ro hbs⟩)<|λx13 o13=>?_
 try dsimp only at o13
 try (conv=>arg 5;dsimp only[ca,na])
 have jp:0≤x13∧x13≤2:=by simp at o13;omega
 refine Em Z<|Est Z (N.call (pre:=[_]) B5 Z Z Z dc Z<|λw Lp hA=>hA.ro hbs)<|λx15 o15=>?_
 try dsimp only at o15
 try (conv=>arg 5;dsimp only[ca,na])
 refine Em Z<|Est Z (N.call (pre:=[_]) B5 Z Z Z dc Z<|λw Lp hA=>hA.ro hbs)<|λx17 o17=>?_
 try dsimp only at o17
 try (conv=>arg 5;dsimp only[ca,na])
 refine Yad Z om om<|Ey Z ((J2 (pvs:=[_,_,_,_]) (cs:=[_,_,_,_,_]) ty_Method b3f Z Z).yd)<|Est Z (N.alloc ty_Method dc)<|λb5 _=>Est Z (Ns [_,_,_,_,_] ty_Method Z)<|λ_ _=>Eu<|Eq_<|Ew Z1<|Ei Z<|Eu<|E.block<|m8 (A:=[]) (Own.nil (E:=Enc.int) (e:=tI) (a:=none)) Z<|Lo (κ:=Nat×(List Int)×SL) (λg=>g.1≤s[x10.toNat].toNat∧g.2.1.length≤g.1) (λg=>[(0,.pointer<|some ⟨b_c,0,none⟩),(1,.slice a_s s.length c_s),(4,.pointer<|some ⟨b4,0,none⟩),(5,.pointer<|some ⟨b5,0,none⟩),(6,.int .i64 (↑g.1:Int))]) (λg=>[ow eIs [.slice g.2.2.1 g.2.2.2.1 g.2.2.2.2] g.2.1,pt b5 125 [.int .i64 x10,.slice g.2.2.1 g.2.2.2.1 g.2.2.2.2,.int .i64 x13,.int .i64 x15,.int .i64<|1+x17],cur b_c a_b bs.length c_b,ow eIs [.slice (some ⟨b12,0,none⟩) 5 5]<|[0,0,0,1,2],pt b4 125 [.int .i64 0,.slice none 0 0,.int .i64 0,.int .i64 0,.int .i64 0]]) (λg=>s[x10.toNat].toNat-g.1) (0,[],none,0,0) ⟨Nat.zero_le _,by simp⟩<|λg pg=>?_
 obtain ⟨g,ms,aA0_0,mA0_0,cA0_0⟩:=g
 try dsimp only at pg
 try dsimp only
 obtain ⟨pk,pa⟩:=pg
 refine f0 m0 ?_
 rintro rfl laA0_0
 refine Eq_<|Ew Z7<|Em Z<|Em Z<|Lz fo_Method_0 j8 Z (mS m0) Z ?_
 obtain ⟨eb24,eo24,ea24,ei24,eh24⟩:=hs.elemI x10.toNat om
 refine Il us_Is j8 Z ea24 x10.toNat om om Z (eh24 _)<|Ylt Z<|l3 (λq26=>?_)<|λq26=>?_
 ·refine Eu<|Ct<|Eq_<|E.block<|Ew Z2<|Em Z<|i9<|Est Z (N.call (pre:=[_]) R7 Z Z Z dc Z<|λw Lp hA=>hA.ro hbs)<|λo30 o30=>?_
  try dsimp only at o30
  try (conv=>arg 5;dsimp only[ca,na])
  refine Ent.b (λq30=>?_)<|λq30=>?_
  ·refine Eu<|r9 Z<|Ez Z7<|Lz fo_Method_1 ty_Is Z (mS<|mS m0) Z<|Em Z<|Est Z (Nb [_] [_] us_Is j8 Z Z)<|λb34 _=>i9<|Est Z (w3 (E:=Enc.int) (ex:=(g:Int)) us_Is j8 Z Z Z (Own.int i6) Z bn bn dc)<|λp35 _=>Ey Z ((D3 fo_Method_1 ty_Is dc Z).yd)<|i9<|Est Z (Ns [_,_,_,_,_] ty_Is Z)<|λ_ _=>En<|o6<|Et<|Ez Z3<|Em Z<|Yad Z om om<|Ei Z<|Eu<|s6<|s6<|s6<|n0<|s6 ?_
   exact Ea (g+1,ms++[(g:Int)],p35.1,((ms).length+1),p35.2) ⟨oz,(show (ms++[(g:Int)]).length≤(g+1) from by first|omega|(simp only[List.length_append,List.length_singleton];omega))⟩
  ·refine Eu<|r8 Z<|v6<|o6<|Et<|Ez Z3<|Em Z<|Yad Z om om<|Ei Z<|Eu<|s6<|s6<|i9<|s6<|s6 ?_
   exact Ea (g+1,ms,aA0_0,_,cA0_0) ⟨oz,(show ms.length≤(g+1) from by first|omega|(simp only[List.length_append,List.length_singleton];omega))⟩
 ·refine Eu<|r8 Z<|E.exit<|l2<|l2<|u4<|Et<|Ew Z2<|Ey Z (l4 (cs:=[_,_,_,_,_]) ty_Method Z (Has.pt<|mS m0) Z)<|s6<|Est Z (Ns [_,_,_,_,_] ty_Method Z)<|λ_ _=>Eu<|E.ret<|d8<|n0<|d8 ?_
  exact N7 br Z Z (mS<|mS m0) ty_Method Z (x10,ms,x13,x15,(1+x17),(_,_,_)) (show (-10≤x10∧x10≤10)∧ms.length≤3∧(-10≤x13∧x13≤100)∧(-10≤x15∧x15≤100)∧ -10≤(1+x17)∧(1+x17)≤100 from by first|omega|(simp only[List.length_append,List.length_singleton,List.length_nil,List.length_cons];omega)) Z (J:=_) (.refl _)<|.inl Z
theorem b0j {bs:List UInt8} (h1:1≤s.length) (hsz:∀z∈s,1≤z∧z≤3) (h3:s.length≤3):Tr Tryz.prog 285 [.pointer (some ⟨b_c,0,none⟩),.slice a_s m_s c_s] (λw L=>Ro w L eIs [.slice a_s m_s c_s] s∧Ro w L a0f [.slice a_b m_b c_b] bs) [cur b_c a_b m_b c_b] (κ:=(List (Int×List Int×Int×Int×Int))×SL) (λk=>(1≤k.1.length∧k.1.length≤4)∧∀m∈k.1,m.2.1.length≤4) (λk=>.slice k.2.1 k.2.2.1 k.2.2.2) (λk=>[ow F0 [.slice k.2.1 k.2.2.1 k.2.2.2] k.1,cur b_c a_b m_b c_b]):=by
 refine Ti2 Tryz.func285 24 Z λw L hR=>?_
 obtain ⟨hs,hbs⟩:=hR
 obtain ⟨rfl,ls⟩:=hs.slen
 obtain ⟨rfl,lb⟩:=hbs.slen
 refine Ew Z1<|Ei Z<|Ev Z2<|Est Z (Nb [] [] us_Methods ty_Method Z Z)<|λb8 _=>Ent.drop<|Ei Z<|Eu<|Eq_<|Ew Z4<|Em Z<|Est Z (N.call (pre:=[_]) B5 Z Z Z dc Z<|λw Lp hA=>hA.ro hbs)<|λx10 o10=>?_
 try dsimp only at o10
 try (conv=>arg 5;dsimp only[ca,na])
 refine Yad Z om om<|Ei Z<|Eu<|E.block<|m8 (A:=[]) (Own.nil (E:=V6) (e:=tMethod) (a:=(some ⟨b8,0,none⟩))) Z<|E.loop (κ:=Nat×(List<|Int×List Int×Int×Int×Int)×SL) (λg=>g.1≤(1+x10).toNat∧g.2.1.length=g.1∧∀m∈g.2.1,m.2.1.length≤4) (λg=>[(0,.pointer<|some ⟨b_c,0,none⟩),(1,.slice a_s s.length c_s),(5,.slice g.2.2.1 g.2.2.2.1 g.2.2.2.2),(6,.int .i64<|1+x10-(↑g.1:Int))]) (λg=>[ow F0 [.slice g.2.2.1 g.2.2.2.1 g.2.2.2.2] g.2.1,cur b_c a_b bs.length c_b]) (λg=>(1+x10).toNat-g.1) (0,[],(some ⟨b8,0,none⟩),0,0) ⟨Nat.zero_le _,by simp⟩ ⟨Z,Z,Z,frI om,trivial⟩ (.refl _)<|λg pg=>?_
 obtain ⟨g,ys,aA0_0,mA0_0,cA0_0⟩:=g
 try dsimp only at pg
 try dsimp only
 obtain ⟨pk,pa⟩:=pg
 refine f0 m0 ?_
 rintro rfl laA0_0
 refine Eq_<|Ew Z2<|Em Z<|Ey Z ((Y.gtr Z Z).yd)<|l3 (λq13=>?_)<|λq13=>?_
 ·refine Eu<|Ct<|Eq_<|E.block<|Ew Z5<|Em Z<|Em Z<|d8<|Est Z (N.call (pre:=[_]) (a5E fc fc fc) Z Z Z dc Z<|λw Lp hA=>⟨hA.ro hs,hA.ro hbs⟩)<|λk18 o18=>?_
  obtain ⟨mr18,mi18,ml18,mc18,mq18,⟨a18,m18,c18⟩⟩:=k18
  try dsimp only at o18
  try (conv=>arg 4;dsimp only)
  try (conv=>arg 5;dsimp only[ca,na])
  refine f0 m0 ?_
  rintro rfl l18
  refine Est Z (N.alloc ty_Method dc)<|λb7 _=>Est Z (Ns [_,_,_,_,_] ty_Method Z)<|λ_ _=>Eu<|Ez Z5<|Em Z<|Ey Z (l4 (cs:=[_,_,_,_,_]) ty_Method Z (Has.pt m0) Z)<|Est Z (Nb [_] [_,_,_,_,_] us_Methods ty_Method Z Z)<|λb21 _=>i9<|d8<|s6<|Est Z (w3 (E:=V6) (ex:=(mr18,mi18,ml18,mc18,mq18)) us_Methods ty_Method Z Z Z (a8C (x:=(mr18,mi18,ml18,mc18,mq18)) i6 Own.ow i6 i6 i6) Z bn bn dc)<|λp22 _=>Ei Z<|En<|o6<|Et<|Ez Z3<|Em Z<|Ey Z ((Y.sub Z Z om om).yd)<|Ei Z<|Eu<|d8<|Ent.drop<|d8<|d8 ?_
  exact u7 br (g+1,ys++[(mr18,mi18,ml18,mc18,mq18)],p22.1,((ys).length+1),p22.2) ⟨Z,Z,Z,frI om,trivial⟩ (.refl _) ⟨oz,(show (ys++[(mr18,mi18,ml18,mc18,mq18)]).length=(g+1)∧∀m∈(ys++[(mr18,mi18,ml18,mc18,mq18)]),m.2.1.length≤4 from by exact c2A pa om)⟩ oz
 ·refine Eu<|r8 Z<|E.exit<|l2<|l2<|u4<|Et<|Ew Z2<|Em Z<|Ei Z<|Eu<|E.ret<|d8<|d8<|F.r1 br Z Z (ys,(_,_,_)) (show (1≤ys.length∧ys.length≤4)∧∀m∈ys,m.2.1.length≤4 from by exact ⟨by omega,pa.2⟩) Z (J:=_) (.refl _)<|.inl Z
theorem a7H {bs:List UInt8}:Tr Tryz.prog 286 [.pointer (some ⟨b_c,0,none⟩),.slice a_s m_s c_s] (λw L=>Ro w L eIs [.slice a_s m_s c_s] s∧Ro w L a0f [.slice a_b m_b c_b] bs) [cur b_c a_b m_b c_b] (κ:=Int×(List Int)×Int×Int×Int×SL) (λk=>(-10≤k.1∧k.1≤10)∧k.2.1.length≤4∧(-10≤k.2.2.1∧k.2.2.1≤100)∧(-10≤k.2.2.2.1∧k.2.2.2.1≤100)∧ -10≤k.2.2.2.2.1∧k.2.2.2.2.1≤100) (λk=>.agg #[.int .i64 k.1,.slice k.2.2.2.2.2.1 k.2.2.2.2.2.2.1 k.2.2.2.2.2.2.2,.int .i64 k.2.2.1,.int .i64 k.2.2.2.1,.int .i64 k.2.2.2.2.1]) (λk=>[ow eIs [.slice k.2.2.2.2.2.1 k.2.2.2.2.2.2.1 k.2.2.2.2.2.2.2] k.2.1,cur b_c a_b m_b c_b]):=by
 refine Ti2 Tryz.func286 43 Z λw L hR=>?_
 obtain ⟨hs,hbs⟩:=hR
 obtain ⟨rfl,ls⟩:=hs.slen
 obtain ⟨rfl,lb⟩:=hbs.slen
 refine Ew Z1<|Est Z (N.alloc ty_Method dc)<|λb4 _=>Ev Z3<|Ey Z ((J2 (pvs:=[_]) (cs:=[_,_,_,_,_]) ty_Method b3f Z Z).yd)<|Est Z (N.alloc ty_Method dc)<|λb5 _=>Est Z (Ns [_,_,_,_,_] ty_Method Z)<|λ_ _=>Eu<|Eq_<|Ew Z2<|Em Z<|E0 Z M7 Z (λhA=>hA.ro hs)<|Ent.b (λq8=>?_)<|λq8=>?_
 ·refine Eu<|r9 Z<|Ez Z4<|Em Z<|Em Z<|i9<|Est Z (N.call (pre:=[_]) (a5E (a0b q8).1 (a0b q8).2.2 (a0b q8).2.1) Z Z Z dc Z<|λw Lp hA=>⟨hA.ro hs,hA.ro hbs⟩)<|λk11 o11=>?_
  obtain ⟨mr11,mi11,ml11,mc11,mq11,⟨a11,m11,c11⟩⟩:=k11
  try dsimp only at o11
  try (conv=>arg 4;dsimp only)
  try (conv=>arg 5;dsimp only[ca,na])
  refine f0 m0 ?_
  rintro rfl l11
  refine i9<|Est Z (Ns [_,_,_,_,_] ty_Method Z)<|λ_ _=>Eu<|Eq_<|Ew Z2<|Em Z<|i9<|Est Z (N.call (pre:=[_]) B5 Z Z Z dc Z<|λw Lp hA=>hA.ro hbs)<|λx13 o13=>?_
  try dsimp only at o13
  try (conv=>arg 5;dsimp only[ca,na])
  refine Eu<|E.block<|Ew Z2<|Yeq Z<|Ei Z<|l3 (λq14=>?_)<|λq14=>?_
  ·refine Eu<|r9 Z<|Ez Z5<|Em Z<|Est Z (Nb [_,_,_] [_,_,_] us_Is j8 Z Z)<|λb17 _=>m8 (A:=[_]) (Own.ints (e:=tI) (xs:=[-1,9,10]) Z (by simp[maxLen]) (by simp only[List.forall_mem_cons];exact ⟨i6,i6,i6,List.forall_mem_nil _⟩)) Z<|d8<|Est Z (N.call (pre:=[_]) (K4 dc) Z Z Z dc Z<|λw Lp hA=>⟨hA.ow m0,hA.ro hbs⟩)<|λx18 o18=>?_
   try dsimp only at o18
   try (conv=>arg 5;dsimp only[ca,na])
   have jp: -10≤x18∧x18≤100:=by simp at o18;omega
   refine Ey Z ((D3 fo_Method_2 j8 dc Z).yd)<|i9<|Est Z (Ns [_,_,_,_,_] j8 Z)<|λ_ _=>En<|o6<|Et<|Ew Z2<|Ey Z (l4 (cs:=[_,_,_,_,_]) ty_Method Z (Has.pt m0) Z)<|s6<|Est Z (Ns [_,_,_,_,_] ty_Method Z)<|λ_ _=>Eu<|E.ret<|s6<|n0<|d8 ?_
   exact N7 br Z Z (mS<|mS m0) ty_Method Z (mr11,mi11,x18,mc11,mq11,(_,_,_)) (show (-10≤mr11∧mr11≤10)∧mi11.length≤4∧(-10≤x18∧x18≤100)∧(-10≤mc11∧mc11≤100)∧ -10≤mq11∧mq11≤100 from by first|omega|(simp only[List.length_append,List.length_singleton,List.length_nil,List.length_cons];omega)) Z (J:=_) (.refl _)<|.inl Z
  ·refine Eu<|r8 Z<|Ew Z2<|Yeq Z<|Ei Z<|l3 (λq20=>?_)<|λq20=>?_
   ·refine Eu<|r9 Z<|U3 [b5] (λj=> !(Nat.beq j 8)) mixed<|C7 0 Z Z dc (D3 fo_Method_1 ty_Is dc Z) kr<|a1y 1 Z Z dc (W4 ty_Is Z ((X7.pt (mS m0) (by simp)).sub (cs':=[_]) 1 Z) Z) kr<|C7 2 Z Z dc (P5 Z) kr<|G7 3 Z Z kr (λ_ _=>SameI.out) (N.call (pre:=[_]) B5 Z Z Z dc Z<|λw Lp hA=>hA.ro hbs)<|λx25 o25=>?_
    try dsimp only at o25
    try (conv=>arg 5;dsimp only[ca,na])
    refine C7 4 Z Z dc (Y.sub Z Z om om) kr<|G7 5 Z Z kr (λ_ _=>SameI.out) (Nb [_] [_] us_Is j8 Z Z)<|λb27 _=>n0<|G7 6 Z Z kr (λ_ _=>SameI.out) (w3 (E:=Enc.int) (ex:=(x25-1)) us_Is j8 Z Z Z (Own.int i6) Z bn bn dc)<|λp28 _=>C7 7 Z Z dc (D3 fo_Method_1 ty_Is dc Z) kr<|i9<|G7 8 Z Z kr (λh=>by cases h) (Ns [_,_,_,_,_] ty_Is rfl)<|λ_ _=>X4 kr<|o6<|Et<|Ew Z2<|Ey Z (l4 (cs:=[_,_,_,_,_]) ty_Method Z (Has.pt m0) Z)<|n0<|Est Z (Ns [_,_,_,_,_] ty_Method Z)<|λ_ _=>Eu<|E.ret<|i9<|n0<|d8 ?_
    exact N7 br Z Z (mS<|mS m0) ty_Method Z (mr11,mi11++[(x25-1)],ml11,mc11,mq11,(_,_,_)) (show (-10≤mr11∧mr11≤10)∧(mi11++[(x25-1)]).length≤4∧(-10≤ml11∧ml11≤100)∧(-10≤mc11∧mc11≤100)∧ -10≤mq11∧mq11≤100 from by first|omega|(simp only[List.length_append,List.length_singleton,List.length_nil,List.length_cons];omega)) Z (J:=_) (.refl _)<|.inl Z
   ·refine Eu<|r8 Z<|Ew Z2<|Yeq Z<|Ei Z<|l3 (λq30=>?_)<|λq30=>?_
    ·refine Eu<|r9 Z<|Ez Z5<|Em Z<|Est Z (Nb [_,_,_] [_,_,_] us_Is j8 Z Z)<|λb33 _=>m8 (A:=[_]) (Own.ints (e:=tI) (xs:=[0,99,100]) Z (by simp[maxLen]) (by simp only[List.forall_mem_cons];exact ⟨i6,i6,i6,List.forall_mem_nil _⟩)) Z<|d8<|Est Z (N.call (pre:=[_]) (K4 dc) Z Z Z dc Z<|λw Lp hA=>⟨hA.ow m0,hA.ro hbs⟩)<|λx34 o34=>?_
     try dsimp only at o34
     try (conv=>arg 5;dsimp only[ca,na])
     have jp: -10≤x34∧x34≤100:=by simp at o34;omega
     refine Ey Z ((D3 fo_Method_4 j8 dc Z).yd)<|i9<|Est Z (Ns [_,_,_,_,_] j8 Z)<|λ_ _=>En<|o6<|Et<|Ew Z2<|Ey Z (l4 (cs:=[_,_,_,_,_]) ty_Method Z (Has.pt m0) Z)<|s6<|Est Z (Ns [_,_,_,_,_] ty_Method Z)<|λ_ _=>Eu<|E.ret<|s6<|n0<|d8 ?_
     exact N7 br Z Z (mS<|mS m0) ty_Method Z (mr11,mi11,ml11,mc11,x34,(_,_,_)) (show (-10≤mr11∧mr11≤10)∧mi11.length≤4∧(-10≤ml11∧ml11≤100)∧(-10≤mc11∧mc11≤100)∧ -10≤x34∧x34≤100 from by first|omega|(simp only[List.length_append,List.length_singleton,List.length_nil,List.length_cons];omega)) Z (J:=_) (.refl _)<|.inl Z
    ·refine Eu<|r8 Z<|Ew Z2<|Yeq Z<|Ei Z<|l3 (λq36=>?_)<|λq36=>?_
     ·refine Eu<|r9 Z<|Ez Z5<|Em Z<|Est Z (Nb [_,_,_] [_,_,_] us_Is j8 Z Z)<|λb39 _=>m8 (A:=[_]) (Own.ints (e:=tI) (xs:=[-1,99,100]) Z (by simp[maxLen]) (by simp only[List.forall_mem_cons];exact ⟨i6,i6,i6,List.forall_mem_nil _⟩)) Z<|d8<|Est Z (N.call (pre:=[_]) (K4 dc) Z Z Z dc Z<|λw Lp hA=>⟨hA.ow m0,hA.ro hbs⟩)<|λx40 o40=>?_
      try dsimp only at o40
      try (conv=>arg 5;dsimp only[ca,na])
      have jp: -10≤x40∧x40≤100:=by simp at o40;omega
      refine Ey Z ((D3 fo_Method_3 j8 dc Z).yd)<|i9<|Est Z (Ns [_,_,_,_,_] j8 Z)<|λ_ _=>En<|o6<|Et<|Ew Z2<|Ey Z (l4 (cs:=[_,_,_,_,_]) ty_Method Z (Has.pt m0) Z)<|s6<|Est Z (Ns [_,_,_,_,_] ty_Method Z)<|λ_ _=>Eu<|E.ret<|s6<|n0<|d8 ?_
      exact N7 br Z Z (mS<|mS m0) ty_Method Z (mr11,mi11,ml11,x40,mq11,(_,_,_)) (show (-10≤mr11∧mr11≤10)∧mi11.length≤4∧(-10≤ml11∧ml11≤100)∧(-10≤x40∧x40≤100)∧ -10≤mq11∧mq11≤100 from by first|omega|(simp only[List.length_append,List.length_singleton,List.length_nil,List.length_cons];omega)) Z (J:=_) (.refl _)<|.inl Z
     ·refine Eu<|r8 Z<|v6<|o6<|Et<|Ew Z2<|Ey Z (l4 (cs:=[_,_,_,_,_]) ty_Method Z (Has.pt<|mS m0) Z)<|n0<|Est Z (Ns [_,_,_,_,_] ty_Method Z)<|λ_ _=>Eu<|E.ret<|n0<|i9<|d8 ?_
      exact N7 br Z Z (mS<|mS m0) ty_Method Z (mr11,mi11,ml11,mc11,mq11,(_,_,_)) (show (-10≤mr11∧mr11≤10)∧mi11.length≤4∧(-10≤ml11∧ml11≤100)∧(-10≤mc11∧mc11≤100)∧ -10≤mq11∧mq11≤100 from by first|omega|(simp only[List.length_append,List.length_singleton,List.length_nil,List.length_cons];omega)) Z (J:=_) (.refl _)<|.inl Z
 ·refine Eu<|Cf<|Eq_<|Ew Z2<|Em Z<|i9<|Est Z (N.call (pre:=[_]) B5 Z Z Z dc Z<|λw Lp hA=>hA.ro hbs)<|λx13 o13=>?_
  try dsimp only at o13
  try (conv=>arg 5;dsimp only[ca,na])
  refine Eu<|E.block<|Ew Z2<|Yeq Z<|Ei Z<|l3 (λq14=>?_)<|λq14=>?_
  ·refine Eu<|r9 Z<|Ez Z5<|Em Z<|Est Z (Nb [_,_,_] [_,_,_] us_Is j8 Z Z)<|λb17 _=>m8 (A:=[_]) (Own.ints (e:=tI) (xs:=[-1,9,10]) Z (by simp[maxLen]) (by simp only[List.forall_mem_cons];exact ⟨i6,i6,i6,List.forall_mem_nil _⟩)) Z<|d8<|Est Z (N.call (pre:=[_]) (K4 dc) Z Z Z dc Z<|λw Lp hA=>⟨hA.ow m0,hA.ro hbs⟩)<|λx18 o18=>?_
   try dsimp only at o18
   try (conv=>arg 5;dsimp only[ca,na])
   have jp: -10≤x18∧x18≤100:=by simp at o18;omega
   refine Ey Z ((D3 fo_Method_2 j8 dc Z).yd)<|i9<|Est Z (Ns [_,_,_,_,_] j8 Z)<|λ_ _=>En<|o6<|Et<|Ew Z2<|Ey Z (l4 (cs:=[_,_,_,_,_]) ty_Method Z (Has.pt m0) Z)<|n0<|Est Z (Ns [_,_,_,_,_] ty_Method Z)<|λ_ _=>Eu<|E.ret<|m8 (A:=[]) (Own.nil (E:=Enc.int) (e:=tI) (a:=none)) Z<|n0<|d8 ?_
   exact N7 br Z Z (mS<|mS m0) ty_Method Z (0,[],x18,0,1,(none,0,0)) (show (-10≤(0:Int)∧(0:Int)≤10)∧([]:List Int).length≤4∧(-10≤x18∧x18≤100)∧(-10≤(0:Int)∧(0:Int)≤100)∧ -10≤(1:Int)∧(1:Int)≤100 from by first|omega|(simp only[List.length_append,List.length_singleton,List.length_nil,List.length_cons];omega)) Z (J:=_) (.refl _)<|.inl Z
  ·refine Eu<|r8 Z<|Ew Z2<|Yeq Z<|Ei Z<|l3 (λq20=>?_)<|λq20=>?_
   ·refine Eu<|r9 Z<|U3 [b5] (λj=> !(Nat.beq j 8)) mixed<|C7 0 Z Z dc (D3 fo_Method_1 ty_Is dc Z) kr<|a1y 1 Z Z dc (W4 ty_Is Z ((X7.pt (mS m0) (by simp)).sub (cs':=[_]) 1 Z) Z) kr<|C7 2 Z Z dc (P5 Z) kr<|G7 3 Z Z kr (λ_ _=>SameI.out) (N.call (pre:=[_]) B5 Z Z Z dc Z<|λw Lp hA=>hA.ro hbs)<|λx25 o25=>?_
    try dsimp only at o25
    try (conv=>arg 5;dsimp only[ca,na])
    refine C7 4 Z Z dc (Y.sub Z Z om om) kr<|G7 5 Z Z kr (λ_ _=>SameI.out) (Nb [_] [_] us_Is j8 Z Z)<|λb27 _=>m8 (A:=[]) (Own.nil (E:=Enc.int) (e:=tI) (a:=none)) Z<|d8<|d8<|G7 6 Z Z kr (λ_ _=>SameI.out) (w3 (E:=Enc.int) (ex:=(x25-1)) us_Is j8 Z Z Z (Own.int i6) Z bn bn dc)<|λp28 _=>C7 7 Z Z dc (D3 fo_Method_1 ty_Is dc Z) kr<|i9<|G7 8 Z Z kr (λh=>by cases h) (Ns [_,_,_,_,_] ty_Is rfl)<|λ_ _=>X4 kr<|o6<|Et<|Ew Z2<|Ey Z (l4 (cs:=[_,_,_,_,_]) ty_Method Z (Has.pt m0) Z)<|n0<|Est Z (Ns [_,_,_,_,_] ty_Method Z)<|λ_ _=>Eu<|E.ret<|i9<|n0<|d8 ?_
    exact N7 br Z Z (mS<|mS m0) ty_Method Z (0,[]++[(x25-1)],0,0,1,(_,_,_)) (show (-10≤(0:Int)∧(0:Int)≤10)∧([]++[(x25-1)]:List Int).length≤4∧(-10≤(0:Int)∧(0:Int)≤100)∧(-10≤(0:Int)∧(0:Int)≤100)∧ -10≤(1:Int)∧(1:Int)≤100 from by first|omega|(simp only[List.length_append,List.length_singleton,List.length_nil,List.length_cons];omega)) Z (J:=_) (.refl _)<|.inl Z
   ·refine Eu<|r8 Z<|Ew Z2<|Yeq Z<|Ei Z<|l3 (λq30=>?_)<|λq30=>?_
    ·refine Eu<|r9 Z<|Ez Z5<|Em Z<|Est Z (Nb [_,_,_] [_,_,_] us_Is j8 Z Z)<|λb33 _=>m8 (A:=[_]) (Own.ints (e:=tI) (xs:=[0,99,100]) Z (by simp[maxLen]) (by simp only[List.forall_mem_cons];exact ⟨i6,i6,i6,List.forall_mem_nil _⟩)) Z<|d8<|Est Z (N.call (pre:=[_]) (K4 dc) Z Z Z dc Z<|λw Lp hA=>⟨hA.ow m0,hA.ro hbs⟩)<|λx34 o34=>?_
     try dsimp only at o34
     try (conv=>arg 5;dsimp only[ca,na])
     have jp: -10≤x34∧x34≤100:=by simp at o34;omega
     refine Ey Z ((D3 fo_Method_4 j8 dc Z).yd)<|i9<|Est Z (Ns [_,_,_,_,_] j8 Z)<|λ_ _=>En<|o6<|Et<|Ew Z2<|Ey Z (l4 (cs:=[_,_,_,_,_]) ty_Method Z (Has.pt m0) Z)<|n0<|Est Z (Ns [_,_,_,_,_] ty_Method Z)<|λ_ _=>Eu<|E.ret<|m8 (A:=[]) (Own.nil (E:=Enc.int) (e:=tI) (a:=none)) Z<|n0<|d8 ?_
     exact N7 br Z Z (mS<|mS m0) ty_Method Z (0,[],0,0,x34,(none,0,0)) (show (-10≤(0:Int)∧(0:Int)≤10)∧([]:List Int).length≤4∧(-10≤(0:Int)∧(0:Int)≤100)∧(-10≤(0:Int)∧(0:Int)≤100)∧ -10≤x34∧x34≤100 from by first|omega|(simp only[List.length_append,List.length_singleton,List.length_nil,List.length_cons];omega)) Z (J:=_) (.refl _)<|.inl Z
    ·refine Eu<|r8 Z<|Ew Z2<|Yeq Z<|Ei Z<|l3 (λq36=>?_)<|λq36=>?_
     ·refine Eu<|r9 Z<|Ez Z5<|Em Z<|Est Z (Nb [_,_,_] [_,_,_] us_Is j8 Z Z)<|λb39 _=>m8 (A:=[_]) (Own.ints (e:=tI) (xs:=[-1,99,100]) Z (by simp[maxLen]) (by simp only[List.forall_mem_cons];exact ⟨i6,i6,i6,List.forall_mem_nil _⟩)) Z<|d8<|Est Z (N.call (pre:=[_]) (K4 dc) Z Z Z dc Z<|λw Lp hA=>⟨hA.ow m0,hA.ro hbs⟩)<|λx40 o40=>?_
      try dsimp only at o40
      try (conv=>arg 5;dsimp only[ca,na])
      have jp: -10≤x40∧x40≤100:=by simp at o40;omega
      refine Ey Z ((D3 fo_Method_3 j8 dc Z).yd)<|i9<|Est Z (Ns [_,_,_,_,_] j8 Z)<|λ_ _=>En<|o6<|Et<|Ew Z2<|Ey Z (l4 (cs:=[_,_,_,_,_]) ty_Method Z (Has.pt m0) Z)<|n0<|Est Z (Ns [_,_,_,_,_] ty_Method Z)<|λ_ _=>Eu<|E.ret<|m8 (A:=[]) (Own.nil (E:=Enc.int) (e:=tI) (a:=none)) Z<|n0<|d8 ?_
      exact N7 br Z Z (mS<|mS m0) ty_Method Z (0,[],0,x40,1,(none,0,0)) (show (-10≤(0:Int)∧(0:Int)≤10)∧([]:List Int).length≤4∧(-10≤(0:Int)∧(0:Int)≤100)∧(-10≤x40∧x40≤100)∧ -10≤(1:Int)∧(1:Int)≤100 from by first|omega|(simp only[List.length_append,List.length_singleton,List.length_nil,List.length_cons];omega)) Z (J:=_) (.refl _)<|.inl Z
     ·refine Eu<|r8 Z<|v6<|o6<|Et<|Ew Z2<|Ey Z (l4 (cs:=[_,_,_,_,_]) ty_Method Z (Has.pt<|mS m0) Z)<|i9<|Est Z (Ns [_,_,_,_,_] ty_Method Z)<|λ_ _=>Eu<|E.ret<|m8 (A:=[]) (Own.nil (E:=Enc.int) (e:=tI) (a:=none)) Z<|i9<|d8 ?_
      exact N7 br Z Z (mS<|mS m0) ty_Method Z (0,[],0,0,1,(none,0,0)) (show (-10≤(0:Int)∧(0:Int)≤10)∧([]:List Int).length≤4∧(-10≤(0:Int)∧(0:Int)≤100)∧(-10≤(0:Int)∧(0:Int)≤100)∧ -10≤(1:Int)∧(1:Int)≤100 from by first|omega|(simp only[List.length_append,List.length_singleton,List.length_nil,List.length_cons];omega)) Z (J:=_) (.refl _)<|.inl Z
theorem b3v {bs:List UInt8}:Tr Tryz.prog 183 [.pointer (some ⟨b_c,0,none⟩)] (λw L=>Ro w L a0f [.slice a_b m_b c_b] bs) [cur b_c a_b m_b c_b] (κ:=(List Int)×(List (Int×List Int×Int×Int×Int))×(List Int)×(List IL)×(SL)×(SL)×(SL)×SL) (λk=>(1≤k.1.length∧k.1.length≤4)∧(k.2.1.length≤5∧∀m∈k.2.1,m.2.1.length≤4)∧dQ dT 3 3 k.2.2.1 k.2.2.2.1) (λk=>.tuple #[.slice k.2.2.2.2.1.1 k.2.2.2.2.1.2.1 k.2.2.2.2.1.2.2,.slice k.2.2.2.2.2.1.1 k.2.2.2.2.2.1.2.1 k.2.2.2.2.2.1.2.2,.agg #[.slice k.2.2.2.2.2.2.1.1 k.2.2.2.2.2.2.1.2.1 k.2.2.2.2.2.2.1.2.2,.slice k.2.2.2.2.2.2.2.1 k.2.2.2.2.2.2.2.2.1 k.2.2.2.2.2.2.2.2.2]]) (λk=>[ow eIs [.slice k.2.2.2.2.1.1 k.2.2.2.2.1.2.1 k.2.2.2.2.1.2.2] k.1,ow F0 [.slice k.2.2.2.2.2.1.1 k.2.2.2.2.2.1.2.1 k.2.2.2.2.2.1.2.2] k.2.1,ow eIs [.slice k.2.2.2.2.2.2.1.1 k.2.2.2.2.2.2.1.2.1 k.2.2.2.2.2.2.1.2.2] k.2.2.1,ow v8 [.slice k.2.2.2.2.2.2.2.1 k.2.2.2.2.2.2.2.2.1 k.2.2.2.2.2.2.2.2.2] k.2.2.2.1,cur b_c a_b m_b c_b]):=by
 refine Ti1 Tryz.func183 38 Z λw L hR=>?_
 have hbs:=hR
 obtain ⟨rfl,lb⟩:=hbs.slen
 refine Ew Z3<|Ei Z<|Ei Z<|Est Z (N.alloc ty_Query dc)<|λb4 _=>Ev Z3<|Em Z<|d8<|Est Z (N.call (pre:=[_]) a5H Z Z Z dc Z<|λw Lp hA=>hA.ro hbs)<|λk9 o9=>?_
 obtain ⟨xs9,⟨a9,m9,c9⟩⟩:=k9
 try dsimp only at o9
 try (conv=>arg 4;dsimp only)
 try (conv=>arg 5;dsimp only[ca,na])
 refine f0 m0 ?_
 rintro rfl l9
 refine Ei Z<|Ev Z4<|Em Z<|Em Z<|d8<|Est Z (N.call (pre:=[_]) (b0j o9.1 o9.2.2 o9.2.1) Z Z Z dc Z<|λw Lp hA=>⟨hA.ow m0,hA.ro hbs⟩)<|λk12 o12=>?_
 obtain ⟨ms12,⟨a12,m12,c12⟩⟩:=k12
 try dsimp only at o12
 try (conv=>arg 4;dsimp only)
 try (conv=>arg 5;dsimp only[ca,na])
 refine f0 m0 ?_
 rintro rfl l12
 refine Ei Z<|Ev Z5<|Em Z<|Em Z<|d8<|Est Z (N.call (pre:=[_]) (a1K o9.1 o9.2.2) Z Z Z dc Z<|λw Lp hA=>⟨hA.ow<|mS m0,hA.ro hbs⟩)<|λk15 o15=>?_
 obtain ⟨hq15,aq15,⟨a15_0,m15_0,c15_0⟩,⟨a15_1,m15_1,c15_1⟩⟩:=k15
 try dsimp only at o15
 try (conv=>arg 4;dsimp only)
 try (conv=>arg 5;dsimp only[ca,na])
 refine f0 m0 ?_
 rintro rfl l15_0
 refine f0 (mS m0) ?_
 rintro rfl l15_1
 refine Est Z (N.alloc ty_Query dc)<|λb7 _=>Est Z (Ns [_,_] ty_Query Z)<|λ_ _=>Eu<|Eq_<|Ew Z2<|Em Z<|n0<|Est Z (N.call (pre:=[_]) B5 Z Z Z dc Z<|λw Lp hA=>hA.ro hbs)<|λx17 o17=>?_
 try dsimp only at o17
 try (conv=>arg 5;dsimp only[ca,na])
 refine Eu<|E.block<|Ew Z2<|Yeq Z<|Ei Z<|l3 (λq18=>?_)<|λq18=>?_
 ·refine Eu<|r9 Z<|Ez Z7<|Em Z<|Em Z<|Em Z<|Est Z (N.call (pre:=[_]) a7H Z Z Z dc Z<|λw Lp hA=>⟨hA.ow<|mS<|mS<|mS<|mS m0,hA.ro hbs⟩)<|λk23 o23=>?_
  obtain ⟨mr23,mi23,ml23,mc23,mq23,⟨a23,m23,c23⟩⟩:=k23
  try dsimp only at o23
  try (conv=>arg 4;dsimp only)
  try (conv=>arg 5;dsimp only[ca,na])
  refine f0 m0 ?_
  rintro rfl l23
  refine Est Z (Nb [_] [_,_,_,_,_] us_Methods ty_Method Z Z)<|λb24 _=>d8<|d8<|s4<|Est Z (w3 (E:=V6) (ex:=(mr23,mi23,ml23,mc23,mq23)) us_Methods ty_Method Z Z Z (a8C (x:=(mr23,mi23,ml23,mc23,mq23)) i6 Own.ow i6 i6 i6) Z bn bn dc)<|λp25 _=>Ei Z<|En<|o6<|Et<|Eq_<|D.region (λj=> !(Nat.beq j 5)) mixed<|Dm 0 Z<|Dm 1 Z<|Dy 2 Z (l4 (cs:=[_,_]) ty_Query Z (Has.pt<|mS<|mS m0) Z)<|Dyp 3 Z (E5 Z)<|Dyp 4 Z (E5 Z)<|s4<|w6 5 Z Z kr (λh=>by cases h) (Ns [_,_] ty_Query rfl)<|λ_ _=>o4 kr<|Et<|E.ret<|u6<|u6<|n0<|s4<|u6<|s6<|s6<|s6<|s6<|a7b br Z Z Z Z (mS<|mS<|mS<|mS<|mS m0) ty_Query Z (xs9,ms12++[(mr23,mi23,ml23,mc23,mq23)],hq15,aq15,(_,_,_),(_,_,_),(_,_,_),(_,_,_)) (show (1≤xs9.length∧xs9.length≤4)∧((ms12++[(mr23,mi23,ml23,mc23,mq23)]).length≤5∧∀m∈(ms12++[(mr23,mi23,ml23,mc23,mq23)]),m.2.1.length≤4)∧dQ dT 3 3 hq15 aq15 from by exact ⟨⟨by omega,by omega⟩,c3I o12 o23.2.1,o15.up⟩) Z (J:=_) (.refl _)<|.inl Z
 ·refine Eu<|r8 Z<|Ew Z2<|Yeq Z<|Ei Z<|l3 (λq26=>?_)<|λq26=>?_
  ·refine Eu<|r9 Z<|Ez Z4<|Em Z<|Em Z<|Est Z (N.call (pre:=[_]) b4W Z Z Z dc Z<|λw Lp hA=>⟨hA.ow<|mS<|mS<|mS<|mS m0,hA.ro hbs⟩)<|λk30 o30=>?_
   obtain ⟨hq30,aq30,⟨a30_0,m30_0,c30_0⟩,⟨a30_1,m30_1,c30_1⟩⟩:=k30
   try dsimp only at o30
   try (conv=>arg 4;dsimp only)
   try (conv=>arg 5;dsimp only[ca,na])
   refine f0 m0 ?_
   rintro rfl l30_0
   refine f0 (mS m0) ?_
   rintro rfl l30_1
   refine n0<|Est Z (Ns [_,_] ty_Query Z)<|λ_ _=>En<|o6<|Et<|Eq_<|D.region (λj=> !(Nat.beq j 5)) mixed<|Dm 0 Z<|Dm 1 Z<|Dy 2 Z (l4 (cs:=[_,_]) ty_Query Z (Has.pt m0) Z)<|Dyp 3 Z (E5 Z)<|Dyp 4 Z (E5 Z)<|B4<|w6 5 Z Z kr (λh=>by cases h) (Ns [_,_] ty_Query rfl)<|λ_ _=>o4 kr<|Et<|E.ret<|n0<|n0<|H1<|B4<|s4<|s6<|s6<|s6<|s6<|a7b br Z Z Z Z (mS<|mS<|mS<|mS<|mS m0) ty_Query Z (xs9,ms12,hq30,aq30,(_,_,_),(_,_,_),(_,_,_),(_,_,_)) (show (1≤xs9.length∧xs9.length≤4)∧(ms12.length≤5∧∀m∈ms12,m.2.1.length≤4)∧dQ dT 3 3 hq30 aq30 from by exact ⟨⟨by omega,by omega⟩,b7l o12,o30⟩) Z (J:=_) (.refl _)<|.inl Z
  ·refine Eu<|r8 Z<|Ew Z2<|Yeq Z<|Ei Z<|l3 (λq31=>?_)<|λq31=>?_
   ·refine Eu<|r9 Z<|Ez Z3<|Em Z<|Est Z (N.call (pre:=[_]) a7F Z Z Z dc Z<|λw Lp hA=>hA.ro hbs)<|λk34 o34=>?_
    obtain ⟨xs34,⟨a34,m34,c34⟩⟩:=k34
    try dsimp only at o34
    try (conv=>arg 4;dsimp only)
    try (conv=>arg 5;dsimp only[ca,na])
    refine f0 m0 ?_
    rintro rfl l34
    refine Ei Z<|En<|o6<|Et<|Eq_<|D.region (λj=> !(Nat.beq j 5)) mixed<|Dm 0 Z<|Dm 1 Z<|Dy 2 Z (l4 (cs:=[_,_]) ty_Query Z (Has.pt<|mS<|mS m0) Z)<|Dyp 3 Z (E5 Z)<|Dyp 4 Z (E5 Z)<|H1<|w6 5 Z Z kr (λh=>by cases h) (Ns [_,_] ty_Query rfl)<|λ_ _=>o4 kr<|Et<|E.ret<|u6<|u6<|s4<|s6<|u6<|s6<|s6<|s6<|s6<|a7b br Z Z Z Z (mS<|mS<|mS<|mS<|mS m0) ty_Query Z (xs34,ms12,hq15,aq15,(_,_,_),(_,_,_),(_,_,_),(_,_,_)) (show (1≤xs34.length∧xs34.length≤4)∧(ms12.length≤5∧∀m∈ms12,m.2.1.length≤4)∧dQ dT 3 3 hq15 aq15 from by exact ⟨o34,b7l o12,o15.up⟩) Z (J:=_) (.refl _)<|.inl Z
   ·refine Eu<|r8 Z<|v6<|o6<|Et<|Eq_<|D.region (λj=> !(Nat.beq j 5)) mixed<|Dm 0 Z<|Dm 1 Z<|Dy 2 Z (l4 (cs:=[_,_]) ty_Query Z (Has.pt<|mS m0) Z)<|Dyp 3 Z (E5 Z)<|Dyp 4 Z (E5 Z)<|s4<|w6 5 Z Z kr (λh=>by cases h) (Ns [_,_] ty_Query rfl)<|λ_ _=>o4 kr<|Et<|E.ret<|s6<|s6<|u6<|s4<|u6<|s6<|s6<|s6<|s6<|a7b br Z Z Z Z (mS<|mS<|mS<|mS<|mS m0) ty_Query Z (xs9,ms12,hq15,aq15,(_,_,_),(_,_,_),(_,_,_),(_,_,_)) (show (1≤xs9.length∧xs9.length≤4)∧(ms12.length≤5∧∀m∈ms12,m.2.1.length≤4)∧dQ dT 3 3 hq15 aq15 from by exact ⟨⟨by omega,by omega⟩,b7l o12,o15.up⟩) Z (J:=_) (.refl _)<|.inl Z
end Go.Proofs.YthapcdhdfaibkaaGreatDoor
