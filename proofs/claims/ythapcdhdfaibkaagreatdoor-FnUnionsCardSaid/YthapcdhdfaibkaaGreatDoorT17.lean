import Derived.Test.YthapcdhdfaibkaaGreatDoorT18
namespace Go.Proofs.YthapcdhdfaibkaaGreatDoor
open Go.RowKit
set_option linter.all false
set_option maxHeartbeats 2000000
attribute [local irreducible] Nop Yd Yp Ent Has Tr FnP FnP2 Src K8 Q7 R5 S1 E8
variable {l6 o3:Int} {d6 c6:List IL} {l:List (List Int×List Int)} {l0 i8 f9 i7 d9:List Int} {I6 E4 C1 w9 C0 w4 G6 C3 m_l c_l m_facts c_facts u5 r6 s9 o0:Nat} {E3 w8 w5 C4 a_l a_facts r7 o1:Option Addr}
theorem a7K (hb1:l0.length≤1000000) (hb2:i8.length≤1000000):Tr Tryz.prog 346 [.agg #[.slice E3 I6 E4,.slice w8 C1 w9]] (λw L=>Ro w L eIs [.slice E3 I6 E4] l0∧Ro w L eIs [.slice w8 C1 w9] i8) [] (κ:=(SL)×(SL)) (λk=>True) (λk=>.agg #[.slice k.1.1 k.1.2.1 k.1.2.2,.slice k.2.1 k.2.2.1 k.2.2.2]) (λk=>[ow eIs [.slice k.1.1 k.1.2.1 k.1.2.2] l0,ow eIs [.slice k.2.1 k.2.2.1 k.2.2.2] i8]):=by
 refine Ti1 Tryz.func346 10 Z λw L hR=>?_
 obtain ⟨E6,y4⟩:=hR
 obtain ⟨rfl,a0M⟩:=E6.slen
 obtain ⟨rfl,R0⟩:=y4.slen
 refine Ew Z2<|Est Z (N.box (cs:=[_,_]) Z dc Z)<|λb1 _=>Est Z (N.alloc ty_Binding dc)<|λb2 _=>Eu<|Eq_<|D.region (λj=> !(Nat.beq j 7)) mixed<|Df 0 1 fo_Binding_0 ty_Is Z (Hz (mS m0) 0 Z)<|Df 3 4 fo_Binding_1 ty_Is Z (Hz (mS m0) 1 Z)<|Dl 2 Z (a1g fc) Z (λhA=>hA.ro E6)<|λa5 c5 l5=>Dl 5 Z (a1g fc) Z (λhA=>hA.ro y4)<|λa8 c8 l8=>Dyp 6 Z (J2 (pvs:=[_,_]) (cs:=[_,_]) ty_Binding pl_Binding Z Z)<|i9<|w6 7 Z Z kr (λh=>by cases h) (Ns [_,_] ty_Binding rfl)<|λ_ _=>o4 kr<|Et<|E.ret<|d8<|i9<|d8<|d8<|N7 br Z Z (mS<|mS m0) ty_Binding Z ((_,_,_),(_,_,_)) trivial Z (J:=_) (.refl _)<|.inl Z
theorem b3t (hb1:l0.length≤1000000) (hb2:i8.length≤1000000):Tr Tryz.prog 322 [.agg #[.slice E3 I6 E4,.slice w8 C1 w9]] (λw L=>Ro w L eIs [.slice E3 I6 E4] l0∧Ro w L eIs [.slice w8 C1 w9] i8) [] (κ:=(SL)×(SL)) (λk=>True) (λk=>.agg #[.slice k.1.1 k.1.2.1 k.1.2.2,.slice k.2.1 k.2.2.1 k.2.2.2]) (λk=>[ow eIs [.slice k.1.1 k.1.2.1 k.1.2.2] l0,ow eIs [.slice k.2.1 k.2.2.1 k.2.2.2] i8]):=by
 refine Ti1 Tryz.func322 12 Z λw L hR=>?_
 obtain ⟨E6,y4⟩:=hR
 obtain ⟨rfl,a0M⟩:=E6.slen
 obtain ⟨rfl,R0⟩:=y4.slen
 refine Ew Z2<|Est Z (N.box (cs:=[_,_]) Z dc Z)<|λb1 _=>Est Z (N.alloc ty_Binding dc)<|λb2 _=>Eu<|Eq_<|a2X (κ:=(Option Addr×Nat)×(Option Addr×Nat)) (λ_=>True) (λkM=>[(2,.pointer<|some ⟨b2,0,none⟩)]) (λkM=>[pt b2 114 [.slice kM.1.1 l0.length kM.1.2,.slice kM.2.1 i8.length kM.2.2],ow eIs [.slice kM.2.1 i8.length kM.2.2] i8,ow eIs [.slice kM.1.1 l0.length kM.1.2] l0,pt b1 114 [.slice E3 l0.length E4,.slice w8 i8.length w9]]) ?_<|λkM _=>?_
 ·refine D.region (λj=> !(Nat.beq j 9)) mixed<|Df 1 2 fo_Binding_0 ty_Is Z (Hz (mS m0) 0 Z)<|Df 5 6 fo_Binding_1 ty_Is Z (Hz (mS m0) 1 Z)<|a1D (i:=0) (j:=4) kr ?_ ?_
  ·refine W3 0 Z Z (λ_=>rfl) (Nb [] [] us_Is j8 Z Z)<|λb3 _=>Ent.drop<|a1D (i:=3) (j:=4) kr ?_ ?_
   ·refine W3 3 Z Z (λ_=>rfl) (M9 (E:=Enc.int) Plain.int us_Is j8 Z Z Z E6 bn bn dc)<|λp6 _=>w6 4 Z Z kr (λ_=>rfl) (Nb [] [] us_Is j8 Z Z)<|λb7 _=>Ent.drop<|w6 7 Z Z kr (λ_=>rfl) (M9 (E:=Enc.int) Plain.int us_Is j8 Z Z Z y4 bn bn dc)<|λp10 _=>Dyp 8 Z (J2 (pvs:=[_,_]) (cs:=[_,_]) ty_Binding pl_Binding Z Z)<|i9<|w6 9 Z Z kr (λh=>by cases h) (Ns [_,_] ty_Binding rfl)<|λ_ _=>o4 kr<|n0<|n0<|n0<|n0<|P8 (p6,p10) trivial ⟨Z,trivial⟩<|.refl _
   ·refine W3 4 Z Z (λ_=>rfl) (Nb [] [] us_Is j8 Z Z)<|λb7 _=>Ent.drop<|w6 3 Z Z kr (λ_=>rfl) (M9 (E:=Enc.int) Plain.int us_Is j8 Z Z Z E6 bn bn dc)<|λp6 _=>w6 7 Z Z kr (λ_=>rfl) (M9 (E:=Enc.int) Plain.int us_Is j8 Z Z Z y4 bn bn dc)<|λp10 _=>Dyp 8 Z (J2 (pvs:=[_,_]) (cs:=[_,_]) ty_Binding pl_Binding Z Z)<|i9<|w6 9 Z Z kr (λh=>by cases h) (Ns [_,_] ty_Binding rfl)<|λ_ _=>o4 kr<|n0<|n0<|n0<|n0<|P8 (p6,p10) trivial ⟨Z,trivial⟩<|.refl _
  ·refine W3 4 Z Z (λ_=>rfl) (Nb [] [] us_Is j8 Z Z)<|λb7 _=>Ent.drop<|w6 0 Z Z kr (λ_=>rfl) (Nb [] [] us_Is j8 Z Z)<|λb3 _=>Ent.drop<|w6 3 Z Z kr (λ_=>rfl) (M9 (E:=Enc.int) Plain.int us_Is j8 Z Z Z E6 bn bn dc)<|λp6 _=>w6 7 Z Z kr (λ_=>rfl) (M9 (E:=Enc.int) Plain.int us_Is j8 Z Z Z y4 bn bn dc)<|λp10 _=>Dyp 8 Z (J2 (pvs:=[_,_]) (cs:=[_,_]) ty_Binding pl_Binding Z Z)<|i9<|w6 9 Z Z kr (λh=>by cases h) (Ns [_,_] ty_Binding rfl)<|λ_ _=>o4 kr<|n0<|n0<|n0<|n0<|P8 (p6,p10) trivial ⟨Z,trivial⟩<|.refl _
 ·obtain ⟨p6,p10⟩:=kM
  try dsimp only
  refine Et<|E.ret<|d8<|i9<|d8<|d8<|N7 br Z Z (mS<|mS m0) ty_Binding Z ((_,_,_),(_,_,_)) trivial Z (J:=_) (.refl _)<|.inl Z
theorem b2i {v:Int}:TB Tryz.prog 350 [.agg #[.slice E3 I6 E4,.slice w8 C1 w9],.int .i64 v] (λw L=>Ro w L eIs [.slice E3 I6 E4] l0∧Ro w L eIs [.slice w8 C1 w9] i8) (!unb (l0,i8) v):=by
 refine Ti2 Tryz.func350 27 Z λw L hR=>?_
 obtain ⟨E6,y4⟩:=hR
 obtain ⟨rfl,a0M⟩:=E6.slen
 obtain ⟨rfl,R0⟩:=y4.slen
 refine Ew Z2<|Est Z (N.box (cs:=[_,_]) Z dc Z)<|λb2 _=>Ei Z<|Eu<|Eq_<|Ew Z1<|Ei Z<|Eu<|E.block<|Lo (κ:=Nat) (λg=>g≤(min l0.length i8.length)∧(l0.take<|min l0.length i8.length).any (λx=>decide (x=v))=((l0.take<|min l0.length i8.length).drop g).any (λx=>decide (x=v))) (λg=>[(1,.int .i64 v),(2,.pointer<|some ⟨b2,0,none⟩),(5,.int .i64 (g:Int))]) (λg=>[pt b2 114 [.slice E3 l0.length E4,.slice w8 i8.length w9]]) (λg=>(min l0.length i8.length)-g) 0 ⟨Nat.zero_le _,by simp⟩<|λg pg=>?_
 obtain ⟨pk,pa⟩:=pg
 refine Eq_<|Ew Z12<|Em Z<|Lz fo_Binding_0 ty_Is Z m0 Z<|Yln us_Is Z<|Ylt Z<|l3 (λq10=>?_)<|λq10=>?_
 ·refine Em Z<|Em Z<|Lz fo_Binding_1 ty_Is Z m0 Z<|Yln us_Is Z<|Ylt Z<|l3 (λq16=>?_)<|λq16=>?_
  ·refine Ypt Z<|Eu<|Ct<|Eq_<|E.block<|Ew Z7<|Lz fo_Binding_0 ty_Is Z m0 Z<|Em Z ?_
   obtain ⟨eb23,eo23,ea23,ei23,eh23⟩:=E6.elemI g om
   refine Il us_Is j8 Z ea23 g Z om Z (eh23 _)<|Em Z<|Yeq Z<|l3 (λq26=>?_)<|λq26=>?_
   ·refine Eu<|r9 Z<|Ew Z1<|Ei Z<|Eu<|E.ret<|v7<|a5h<|a5h<|v7<|a5h<|Fb Z Z (by grind[unb,a3v,a5T,d1,d2,t1,t2])
   ·refine Eu<|r8 Z<|v6<|o6<|Et<|Ez Z3<|Em Z<|Yad Z om om<|Ei Z ?_
    exact Eu<|u7 br (g+1) rs (.refl _) ⟨by omega,by grind[a3v,d1,d2,t1,t2]⟩ om
  ·refine Ypt Z<|Eu<|r8 Z<|E.exit<|l2<|l2<|u4<|Et<|Ew Z1<|Ei Z<|Eu<|E.ret<|Fb Z Z (by grind[unb,a3v,a5T,d1,d2,t1,t2])
 ·refine Em Z<|Es Z<|Es Z<|Es Z<|Es Z<|Es Z<|Ypf Z<|Eu<|r8 Z<|E.exit<|l2<|l2<|u4<|Et<|Ew Z1<|Ei Z<|Eu<|E.ret<|Fb Z Z (by grind[unb,a3v,a5T,d1,d2,t1,t2])
theorem a9X (hb1:l0.length≤1000) (hb2:i8.length≤1000) (hat:f9.length≤1000):Tr Tryz.prog 295 [.agg #[.slice E3 I6 E4,.slice w8 C1 w9],.agg #[.int .i64 l6,.slice w5 C0 w4],.agg #[.int .i64 o3,.slice C4 G6 C3]] (λw L=>Ro w L eIs [.slice E3 I6 E4] l0∧Ro w L eIs [.slice w8 C1 w9] i8∧I64 l6∧Ro w L eIs [.slice w5 C0 w4] f9∧I64 o3∧Ro w L eIs [.slice C4 G6 C3] i7) [] (κ:=(SL)×(SL)) (λk=>True) (λk=>.tuple #[.agg #[.slice k.1.1 k.1.2.1 k.1.2.2,.slice k.2.1 k.2.2.1 k.2.2.2],.bool (t6 (l0,i8) (l6,f9) (o3,i7))]) (λk=>[ow eIs [.slice k.1.1 k.1.2.1 k.1.2.2] (cond (t6 (l0,i8) (l6,f9) (o3,i7)) (u9 (l0,i8) (l6,f9) (o3,i7)).1 []),ow eIs [.slice k.2.1 k.2.2.1 k.2.2.2] (cond (t6 (l0,i8) (l6,f9) (o3,i7)) (u9 (l0,i8) (l6,f9) (o3,i7)).2 [])]):=by
 refine Ti3 Tryz.func295 81 Z λw L hR=>?_
 obtain ⟨E6,y4,M0,y5,L4,z8⟩:=hR
 obtain ⟨rfl,a0M⟩:=E6.slen
 obtain ⟨rfl,R0⟩:=y4.slen
 obtain ⟨rfl,R4⟩:=y5.slen
 obtain ⟨rfl,Y6⟩:=z8.slen
 refine Ew Z5<|Est Z (N.box (cs:=[_,_]) Z dc Z)<|λb3 _=>Est Z (N.box (cs:=[_,_]) Z dc Z)<|λb4 _=>Est Z (N.box (cs:=[_,_]) Z dc Z)<|λb5 _=>Est Z (N.alloc ty_Binding dc)<|λb6 _=>Ei Z<|Eu<|Eq_<|Ew Z23<|Lz fo_Atom_0 j8 Z (mS<|mS m0) Z<|Lz fo_Fact_0 j8 Z (mS m0) Z<|Ey Z ((Y.neq Z Z).yd)<|l3 (λq15=>?_)<|λq15=>?_
 ·refine Em Z<|Es Z<|Es Z<|Es Z<|Es Z<|Es Z<|Es Z<|Es Z<|Ypt Z<|Em Z<|Es Z<|Es Z<|Es Z<|Es Z<|Es Z<|Es Z<|Es Z<|Ypt Z<|Eu<|r9 Z<|Ew Z3<|Ey Z ((J2 (pvs:=[]) (cs:=[_,_]) ty_Binding pl_Binding Z Z).yd)<|Est Z (Ns [_,_] ty_Binding Z)<|λ_ _=>Ei Z<|Eu<|E.ret<|a5h<|m8 (A:=[]) (Own.nil (E:=Enc.int) (e:=tI) (a:=none)) Z<|g9 (congrArg (ow eIs [_]) (show _=cond (t6 (l0,i8) (l6,f9) (o3,i7)) (u9 (l0,i8) (l6,f9) (o3,i7)).2 [] by grind[t6,u9,z6,B9,B6,D2,D4,B7,d1,d2,t1,t2]))<|m8 (A:=[]) (Own.nil (E:=Enc.int) (e:=tI) (a:=none)) Z<|g9 (congrArg (ow eIs [_]) (show _=cond (t6 (l0,i8) (l6,f9) (o3,i7)) (u9 (l0,i8) (l6,f9) (o3,i7)).1 [] by grind[t6,u9,z6,B9,B6,D2,D4,B7,d1,d2,t1,t2]))<|d8<|d8 ?_
  exact a1z br Z Z Z (mS<|mS m0) ty_Binding Z ((none,0,0),(none,0,0)) trivial (by rw[show (t6 (l0,i8) (l6,f9) (o3,i7))=(false) from (by grind[t6,u9,z6,B9,B6,D2,D4,B7,d1,d2,t1,t2])];try rfl) (J:=_) (.refl _)<|.inl Z
 ·refine Em Z<|Lz fo_Atom_1 ty_Is Z (mS<|mS m0) Z<|Yln us_Is Z<|Lz fo_Fact_1 ty_Is Z (mS m0) Z<|Yln us_Is Z<|Ey Z ((Y.neq Z Z).yd)<|l3 (λq23=>?_)<|λq23=>?_
  ·refine Ypf Z<|Em Z<|Es Z<|Es Z<|Es Z<|Es Z<|Es Z<|Es Z<|Es Z<|Ypt Z<|Eu<|r9 Z<|Ew Z3<|Ey Z ((J2 (pvs:=[]) (cs:=[_,_]) ty_Binding pl_Binding Z Z).yd)<|Est Z (Ns [_,_] ty_Binding Z)<|λ_ _=>Ei Z<|Eu<|E.ret<|a5h<|m8 (A:=[]) (Own.nil (E:=Enc.int) (e:=tI) (a:=none)) Z<|g9 (congrArg (ow eIs [_]) (show _=cond (t6 (l0,i8) (l6,f9) (o3,i7)) (u9 (l0,i8) (l6,f9) (o3,i7)).2 [] by grind[t6,u9,z6,B9,B6,D2,D4,B7,d1,d2,t1,t2]))<|m8 (A:=[]) (Own.nil (E:=Enc.int) (e:=tI) (a:=none)) Z<|g9 (congrArg (ow eIs [_]) (show _=cond (t6 (l0,i8) (l6,f9) (o3,i7)) (u9 (l0,i8) (l6,f9) (o3,i7)).1 [] by grind[t6,u9,z6,B9,B6,D2,D4,B7,d1,d2,t1,t2]))<|d8<|d8 ?_
   exact a1z br Z Z Z (mS<|mS m0) ty_Binding Z ((none,0,0),(none,0,0)) trivial (by rw[show (t6 (l0,i8) (l6,f9) (o3,i7))=(false) from (by grind[t6,u9,z6,B9,B6,D2,D4,B7,d1,d2,t1,t2])];try rfl) (J:=_) (.refl _)<|.inl Z
  ·refine Ypf Z<|Em Z<|Lz fo_Binding_0 ty_Is Z (mS<|mS<|mS m0) Z<|Yln us_Is Z<|Lz fo_Binding_1 ty_Is Z (mS<|mS<|mS m0) Z<|Yln us_Is Z<|Ey Z ((Y.neq Z Z).yd)<|l3 (λq32=>?_)<|λq32=>?_
   ·refine Ypf Z<|Eu<|r9 Z<|Ew Z3<|Ey Z ((J2 (pvs:=[]) (cs:=[_,_]) ty_Binding pl_Binding Z Z).yd)<|Est Z (Ns [_,_] ty_Binding Z)<|λ_ _=>Ei Z<|Eu<|E.ret<|a5h<|m8 (A:=[]) (Own.nil (E:=Enc.int) (e:=tI) (a:=none)) Z<|g9 (congrArg (ow eIs [_]) (show _=cond (t6 (l0,i8) (l6,f9) (o3,i7)) (u9 (l0,i8) (l6,f9) (o3,i7)).2 [] by grind[t6,u9,z6,B9,B6,D2,D4,B7,d1,d2,t1,t2]))<|m8 (A:=[]) (Own.nil (E:=Enc.int) (e:=tI) (a:=none)) Z<|g9 (congrArg (ow eIs [_]) (show _=cond (t6 (l0,i8) (l6,f9) (o3,i7)) (u9 (l0,i8) (l6,f9) (o3,i7)).1 [] by grind[t6,u9,z6,B9,B6,D2,D4,B7,d1,d2,t1,t2]))<|d8<|d8 ?_
    exact a1z br Z Z Z (mS<|mS m0) ty_Binding Z ((none,0,0),(none,0,0)) trivial (by rw[show (t6 (l0,i8) (l6,f9) (o3,i7))=(false) from (by grind[t6,u9,z6,B9,B6,D2,D4,B7,d1,d2,t1,t2])];try rfl) (J:=_) (.refl _)<|.inl Z
   ·refine Ypf Z<|Eu<|Cf<|Ew Z4<|Ey Z (l4 (cs:=[_,_]) ty_Binding Z (Has.pt<|mS<|mS<|mS m0) Z)<|Est Z (N.call (a7K fc fc) Z Z Z dc Z<|λw Lp hA=>⟨hA.ro E6,hA.ro y4⟩)<|λk36 _=>?_
    obtain ⟨⟨a36_0,m36_0,c36_0⟩,⟨a36_1,m36_1,c36_1⟩⟩:=k36
    refine f0 m0 ?_
    rintro rfl l36_0
    refine f0 (mS m0) ?_
    rintro rfl l36_1
    refine Est Z (N.alloc ty_Binding dc)<|λb8 _=>Est Z (Ns [_,_] ty_Binding Z)<|λ_ _=>Eu<|Eq_<|Ew Z4<|Lf fo_Atom_1 ty_Is Z (Hs (Has.pt<|mS<|mS<|mS<|mS<|mS m0) 1 Z)<|Yln us_Is Z<|Em Z<|Eu<|E.block<|d8<|g9 (congrArg (ow eIs [_]) (show _=(H0 (l0,i8)<|(f9.zip i7).take 0).1 from by first|rfl|(simp;done)|grind[t6,u9,z6,B9,B6,D2,D4,B7,d1,d2,t1,t2]))<|i9<|g9 (congrArg (ow eIs [_]) (show _=(H0 (l0,i8)<|(f9.zip i7).take 0).2 from by first|rfl|(simp;done)|grind[t6,u9,z6,B9,B6,D2,D4,B7,d1,d2,t1,t2]))<|Lo (κ:=Nat×Option Addr×Nat×Nat×SL) (λg=>g.1≤f9.length∧okV (l0,i8) (f9.zip i7)=okV (H0 (l0,i8)<|(f9.zip i7).take g.1) ((f9.zip i7).drop g.1)) (λg=>[(5,.pointer<|some ⟨b5,0,none⟩),(6,.pointer<|some ⟨b6,0,none⟩),(8,.pointer<|some ⟨b8,0,none⟩),(38,.slice w5 f9.length w4),(39,.int .i64 (↑f9.length:Int)),(40,.int .i64 (↑g.1:Int))]) (λg=>[ow eIs [.slice g.2.2.2.2.1 g.2.2.2.2.2.1 g.2.2.2.2.2.2]<|(H0 (l0,i8)<|(f9.zip i7).take g.1).2,ow eIs [.slice g.2.1 g.2.2.1 g.2.2.2.1]<|(H0 (l0,i8)<|(f9.zip i7).take g.1).1,pt b8 114 [.slice g.2.1 g.2.2.1 g.2.2.2.1,.slice g.2.2.2.2.1 g.2.2.2.2.2.1 g.2.2.2.2.2.2],pt b6 114 [.slice none 0 0,.slice none 0 0],pt b5 85 [.int .i64 o3,.slice C4 i7.length C3],pt b4 111 [.int .i64 l6,.slice w5 f9.length w4],pt b3 114 [.slice E3 l0.length E4,.slice w8 i8.length w9]]) (λg=>f9.length-g.1) (0,a36_0,(l0).length,c36_0,a36_1,(i8).length,c36_1) ⟨Nat.zero_le _,by rfl⟩<|λg pg=>?_
    obtain ⟨g,aA0_0,mA0_0,cA0_0,aA0_1,mA0_1,cA0_1⟩:=g
    try dsimp only at pg
    try dsimp only
    obtain ⟨pk,pa⟩:=pg
    have jl:=b9e (b:=(l0,i8)) (t:=f9) (v:=i7) (g:=g)
    have je:=a6E (l:=(f9.zip i7).take g) (x:=(l0,i8)) (show l0.length=i8.length by omega)
    try dsimp only at jl
    refine f0 (mS m0) ?_
    rintro rfl laA0_0
    refine f0 m0 ?_
    rintro rfl laA0_1
    refine Ew Z1<|Ylt Z<|l3 (λq41=>?_)<|λq41=>?_
    ·refine Eu<|Eq_<|Ct<|Eq_<|E.block<|Ew Z5<|Em Z ?_
     obtain ⟨eb43,eo43,ea43,ei43,eh43⟩:=y5.elemI g om
     refine Il us_Is j8 Z ea43 g Z om Z (eh43 _)<|Ei Z<|Ei Z<|Eu<|Eq_<|Ew Z8<|Em Z<|E0 Z a1E Z (λ_=>trivial)<|Ent.b (λq46=>?_)<|λq46=>?_
     ·refine Em Z<|Ey Z (l4 (cs:=[_,_]) ty_Binding Z (Has.pt<|mS<|mS m0) Z)<|Em Z<|E0 Z a3C Z (λhA=>⟨hA.ow<|mS m0,hA.ow m0⟩)<|Ylt Z<|l3 (λq51=>?_)<|λq51=>?_
      ·refine Ypt Z<|Eu<|r9 Z<|a2X (κ:=(Option Addr×Nat)×(Option Addr×Nat)) (λ_=>True) (λkM=>[(5,.pointer<|some ⟨b5,0,none⟩),(6,.pointer<|some ⟨b6,0,none⟩),(8,.pointer<|some ⟨b8,0,none⟩),(9,.int .i64 (g:Int)),(10,.int .i64 f9[g]),(38,.slice w5 f9.length w4),(39,.int .i64 (↑f9.length:Int)),(40,.int .i64 (g:Int))]) (λkM=>[pt b8 114 [.slice kM.1.1 (((H0 (l0,i8)<|(f9.zip i7).take g).1).length+1) kM.1.2,.slice kM.2.1 (((H0 (l0,i8)<|(f9.zip i7).take g).2).length+1) kM.2.2],ow eIs [.slice kM.2.1 (((H0 (l0,i8)<|(f9.zip i7).take g).2).length+1) kM.2.2]<|((H0 (l0,i8)<|(f9.zip i7).take g).2)++[i7[g]],ow eIs [.slice kM.1.1 (((H0 (l0,i8)<|(f9.zip i7).take g).1).length+1) kM.1.2]<|((H0 (l0,i8)<|(f9.zip i7).take g).1)++[f9[g]],pt b6 114 [.slice none 0 0,.slice none 0 0],pt b5 85 [.int .i64 o3,.slice C4 i7.length C3],pt b4 111 [.int .i64 l6,.slice w5 f9.length w4],pt b3 114 [.slice E3 l0.length E4,.slice w8 i8.length w9]]) ?_<|λkM _=>?_
       ·refine U3 [b8,b6,b5,b4,b3] (λj=> !(Nat.beq j 15)&& !(Nat.beq j 17)) mixed<|C7 0 Z Z dc (D3 fo_Binding_0 ty_Is dc Z) kr<|a1y 1 Z Z dc (W4 ty_Is Z ((X7.pt (mS<|mS m0) (by simp)).sub (cs':=[_]) 0 Z) Z) kr<|C7 2 Z Z dc (P5 Z) kr<|C7 5 Z Z dc (D3 fo_Binding_1 ty_Is dc Z) kr<|a1y 6 Z Z dc (W4 ty_Is Z ((X7.pt (mS<|mS m0) (by simp)).sub (cs':=[_]) 1 Z) Z) kr<|C7 7 Z Z dc (D3 fo_Fact_1 ty_Is dc Z) kr<|a1y 8 Z Z dc (W4 ty_Is Z ((X7.pt (mS<|mS<|mS<|mS m0) (by simp)).sub (cs':=[_]) 1 Z) Z) kr<|C7 9 Z Z dc (P5 Z) kr ?_
        obtain ⟨eb63,eo63,ea63,ei63,eh63⟩:=z8.elemI g om
        refine C7 10 Z Z dc (y6 us_Is j8 Z ea63 Z g Z om) kr<|a1y 11 Z Z dc (W4 j8 Z (X7.ro eh63) Z) kr<|B2 (i:=3) (j:=12) kr ?_ ?_
        ·refine J6 3 Z Z (λ_ _=>SameI.out) (Nb [_] [_] us_Is j8 Z Z)<|λb56 _=>B2 (i:=4) (j:=12) kr ?_ ?_
         ·refine i9<|J6 4 Z Z (λ_ _=>SameI.out) (w3 (E:=Enc.int) (ex:=f9[g]) us_Is j8 Z Z Z (Own.int ei43) Z bn bn dc)<|λp57 _=>C7 14 Z Z dc (D3 fo_Binding_0 ty_Is dc Z) kr<|G7 12 Z Z kr (λ_ _=>SameI.out) (Nb [_] [_] us_Is j8 Z Z)<|λb65 _=>i9<|G7 13 Z Z kr (λ_ _=>SameI.out) (w3 (E:=Enc.int) (ex:=i7[g]) us_Is j8 Z Z Z (Own.int ei63) Z bn bn dc)<|λp66 _=>i9<|G7 15 Z Z kr (λh=>by cases h) (Ns [_,_] ty_Is rfl)<|λ_ _=>C7 16 Z Z dc (D3 fo_Binding_1 ty_Is dc Z) kr<|G7 17 Z Z kr (λh=>by cases h) (Ns [_,_] ty_Is rfl)<|λ_ _=>X4 kr<|s4<|s4<|s4<|s4<|s4<|s4<|s4<|P8 (p57,p66) trivial ⟨Z,Z,Z,Z,Z,Z,Z,Z,trivial⟩<|.refl _
         ·refine J6 12 Z Z (λ_ _=>SameI.out) (Nb [_] [_] us_Is j8 Z Z)<|λb65 _=>d8<|n0<|G7 4 Z Z kr (λ_ _=>SameI.out) (w3 (E:=Enc.int) (ex:=f9[g]) us_Is j8 Z Z Z (Own.int ei43) Z bn bn dc)<|λp57 _=>C7 14 Z Z dc (D3 fo_Binding_0 ty_Is dc Z) kr<|d8<|i9<|G7 13 Z Z kr (λ_ _=>SameI.out) (w3 (E:=Enc.int) (ex:=i7[g]) us_Is j8 Z Z Z (Own.int ei63) Z bn bn dc)<|λp66 _=>i9<|G7 15 Z Z kr (λh=>by cases h) (Ns [_,_] ty_Is rfl)<|λ_ _=>C7 16 Z Z dc (D3 fo_Binding_1 ty_Is dc Z) kr<|G7 17 Z Z kr (λh=>by cases h) (Ns [_,_] ty_Is rfl)<|λ_ _=>X4 kr<|s4<|s4<|s4<|s4<|s4<|s4<|s4<|P8 (p57,p66) trivial ⟨Z,Z,Z,Z,Z,Z,Z,Z,trivial⟩<|.refl _
        ·refine J6 12 Z Z (λ_ _=>SameI.out) (Nb [_] [_] us_Is j8 Z Z)<|λb65 _=>G7 3 Z Z kr (λ_ _=>SameI.out) (Nb [_] [_] us_Is j8 Z Z)<|λb56 _=>n0<|G7 4 Z Z kr (λ_ _=>SameI.out) (w3 (E:=Enc.int) (ex:=f9[g]) us_Is j8 Z Z Z (Own.int ei43) Z bn bn dc)<|λp57 _=>C7 14 Z Z dc (D3 fo_Binding_0 ty_Is dc Z) kr<|d8<|i9<|G7 13 Z Z kr (λ_ _=>SameI.out) (w3 (E:=Enc.int) (ex:=i7[g]) us_Is j8 Z Z Z (Own.int ei63) Z bn bn dc)<|λp66 _=>i9<|G7 15 Z Z kr (λh=>by cases h) (Ns [_,_] ty_Is rfl)<|λ_ _=>C7 16 Z Z dc (D3 fo_Binding_1 ty_Is dc Z) kr<|G7 17 Z Z kr (λh=>by cases h) (Ns [_,_] ty_Is rfl)<|λ_ _=>X4 kr<|s4<|s4<|s4<|s4<|s4<|s4<|s4<|P8 (p57,p66) trivial ⟨Z,Z,Z,Z,Z,Z,Z,Z,trivial⟩<|.refl _
       ·obtain ⟨p57,p66⟩:=kM
        try dsimp only
        refine Et<|Eq_<|D.region (λj=>true) mixed<|Dy 0 Z (l4 (cs:=[_,_]) ty_Binding Z (Has.pt m0) Z)<|Dm 1 Z<|Df 3 4 fo_Fact_1 ty_Is Z (Hz (mS<|mS<|mS<|mS m0) 1 Z)<|Dm 5 Z ?_
        obtain ⟨eb75,eo75,ea75,ei75,eh75⟩:=z8.elemI g om
        refine Dyp 6 Z (y6 us_Is j8 Z ea75 Z g Z om)<|Dy 7 Z (z7 j8 Z (eh75 _) Z)<|D0 2 Z a0L Z (λhA=>⟨hA.ow<|mS<|mS m0,hA.ow<|mS m0⟩)<|Dyp 8 Z (Y.neq Z Z)<|l3 (λq77=>?_)<|λq77=>?_
        ·refine o4 kr<|Et<|r9 Z<|Ew Z3<|Ey Z ((J2 (pvs:=[]) (cs:=[_,_]) ty_Binding pl_Binding Z Z).yd)<|n0<|Est Z (Ns [_,_] ty_Binding Z)<|λ_ _=>Ei Z<|Eu<|E.ret<|v7<|a5h<|a5h<|v7<|a5h<|m8 (A:=[]) (Own.nil (E:=Enc.int) (e:=tI) (a:=none)) Z<|g9 (congrArg (ow eIs [_]) (show _=cond (t6 (l0,i8) (l6,f9) (o3,i7)) (u9 (l0,i8) (l6,f9) (o3,i7)).2 [] by grind[t6,u9,z6,B9,B6,D2,D4,B7,d1,d2,t1,t2]))<|m8 (A:=[]) (Own.nil (E:=Enc.int) (e:=tI) (a:=none)) Z<|g9 (congrArg (ow eIs [_]) (show _=cond (t6 (l0,i8) (l6,f9) (o3,i7)) (u9 (l0,i8) (l6,f9) (o3,i7)).1 [] by grind[t6,u9,z6,B9,B6,D2,D4,B7,d1,d2,t1,t2]))<|d8<|d8 ?_
         exact a1z br Z Z Z (mS<|mS m0) ty_Binding Z ((none,0,0),(none,0,0)) trivial (by rw[show (t6 (l0,i8) (l6,f9) (o3,i7))=(false) from (by grind[t6,u9,z6,B9,B6,D2,D4,B7,d1,d2,t1,t2])];try rfl) (J:=_) (.refl _)<|.inl Z
        ·refine o4 kr<|Et<|r8 Z<|v6<|o6<|Et<|Ez Z2<|Yad Z om om<|Em Z<|Eu<|i9<|g9 (congrArg (ow eIs [_]) (show _=(H0 (l0,i8)<|(f9.zip i7).take (g+1)).1 from by grind[t6,u9,z6,B9,B6,D2,D4,B7,d1,d2,t1,t2]))<|i9<|g9 (congrArg (ow eIs [_]) (show _=(H0 (l0,i8)<|(f9.zip i7).take (g+1)).2 from by grind[t6,u9,z6,B9,B6,D2,D4,B7,d1,d2,t1,t2]))<|s4<|s4<|s4<|s4<|s4<|s4<|s4 ?_
         exact Ea (g+1,p57.1,(((H0 (l0,i8)<|(f9.zip i7).take g).1).length+1),p57.2,p66.1,(((H0 (l0,i8)<|(f9.zip i7).take g).2).length+1),p66.2) ⟨oz,(show okV (l0,i8) (f9.zip i7)=okV (H0 (l0,i8)<|(f9.zip i7).take (g+1)) ((f9.zip i7).drop (g+1)) from by grind[t6,u9,z6,B9,B6,D2,D4,B7,d1,d2,t1,t2])⟩
      ·refine Ypt Z<|Eu<|Cf<|Eq_<|D.region (λj=>true) mixed<|Dy 0 Z (l4 (cs:=[_,_]) ty_Binding Z (Has.pt<|mS<|mS m0) Z)<|Dm 1 Z<|Df 3 4 fo_Fact_1 ty_Is Z (Hz (mS<|mS<|mS<|mS m0) 1 Z)<|Dm 5 Z ?_
       obtain ⟨eb75,eo75,ea75,ei75,eh75⟩:=z8.elemI g om
       refine Dyp 6 Z (y6 us_Is j8 Z ea75 Z g Z om)<|Dy 7 Z (z7 j8 Z (eh75 _) Z)<|D0 2 Z a0L Z (λhA=>⟨hA.ow<|mS m0,hA.ow m0⟩)<|Dyp 8 Z (Y.neq Z Z)<|l3 (λq77=>?_)<|λq77=>?_
       ·refine o4 kr<|Et<|r9 Z<|Ew Z3<|Ey Z ((J2 (pvs:=[]) (cs:=[_,_]) ty_Binding pl_Binding Z Z).yd)<|n0<|Est Z (Ns [_,_] ty_Binding Z)<|λ_ _=>Ei Z<|Eu<|E.ret<|v7<|a5h<|a5h<|v7<|a5h<|m8 (A:=[]) (Own.nil (E:=Enc.int) (e:=tI) (a:=none)) Z<|g9 (congrArg (ow eIs [_]) (show _=cond (t6 (l0,i8) (l6,f9) (o3,i7)) (u9 (l0,i8) (l6,f9) (o3,i7)).2 [] by grind[t6,u9,z6,B9,B6,D2,D4,B7,d1,d2,t1,t2]))<|m8 (A:=[]) (Own.nil (E:=Enc.int) (e:=tI) (a:=none)) Z<|g9 (congrArg (ow eIs [_]) (show _=cond (t6 (l0,i8) (l6,f9) (o3,i7)) (u9 (l0,i8) (l6,f9) (o3,i7)).1 [] by grind[t6,u9,z6,B9,B6,D2,D4,B7,d1,d2,t1,t2]))<|d8<|d8 ?_
        exact a1z br Z Z Z (mS<|mS m0) ty_Binding Z ((none,0,0),(none,0,0)) trivial (by rw[show (t6 (l0,i8) (l6,f9) (o3,i7))=(false) from (by grind[t6,u9,z6,B9,B6,D2,D4,B7,d1,d2,t1,t2])];try rfl) (J:=_) (.refl _)<|.inl Z
       ·refine o4 kr<|Et<|r8 Z<|v6<|o6<|Et<|Ez Z2<|Yad Z om om<|Em Z<|Eu<|d8<|g9 (congrArg (ow eIs [_]) (show _=(H0 (l0,i8)<|(f9.zip i7).take (g+1)).1 from by grind[t6,u9,z6,B9,B6,D2,D4,B7,d1,d2,t1,t2]))<|d8<|g9 (congrArg (ow eIs [_]) (show _=(H0 (l0,i8)<|(f9.zip i7).take (g+1)).2 from by grind[t6,u9,z6,B9,B6,D2,D4,B7,d1,d2,t1,t2]))<|s4<|s4<|s4<|s4<|s4<|s4<|s4 ?_
        exact Ea (g+1,aA0_0,_,cA0_0,aA0_1,_,cA0_1) ⟨oz,(show okV (l0,i8) (f9.zip i7)=okV (H0 (l0,i8)<|(f9.zip i7).take (g+1)) ((f9.zip i7).drop (g+1)) from by grind[t6,u9,z6,B9,B6,D2,D4,B7,d1,d2,t1,t2])⟩
     ·refine Em Z<|Es Z<|Es Z<|Es Z<|Es Z<|Ypf Z<|Eu<|Cf<|Eq_<|D.region (λj=>true) mixed<|Dy 0 Z (l4 (cs:=[_,_]) ty_Binding Z (Has.pt<|mS<|mS m0) Z)<|Dm 1 Z<|Df 3 4 fo_Fact_1 ty_Is Z (Hz (mS<|mS<|mS<|mS m0) 1 Z)<|Dm 5 Z ?_
      obtain ⟨eb75,eo75,ea75,ei75,eh75⟩:=z8.elemI g om
      refine Dyp 6 Z (y6 us_Is j8 Z ea75 Z g Z om)<|Dy 7 Z (z7 j8 Z (eh75 _) Z)<|D0 2 Z a0L Z (λhA=>⟨hA.ow<|mS m0,hA.ow m0⟩)<|Dyp 8 Z (Y.neq Z Z)<|l3 (λq77=>?_)<|λq77=>?_
      ·refine o4 kr<|Et<|r9 Z<|Ew Z3<|Ey Z ((J2 (pvs:=[]) (cs:=[_,_]) ty_Binding pl_Binding Z Z).yd)<|n0<|Est Z (Ns [_,_] ty_Binding Z)<|λ_ _=>Ei Z<|Eu<|E.ret<|v7<|a5h<|a5h<|v7<|a5h<|m8 (A:=[]) (Own.nil (E:=Enc.int) (e:=tI) (a:=none)) Z<|g9 (congrArg (ow eIs [_]) (show _=cond (t6 (l0,i8) (l6,f9) (o3,i7)) (u9 (l0,i8) (l6,f9) (o3,i7)).2 [] by grind[t6,u9,z6,B9,B6,D2,D4,B7,d1,d2,t1,t2]))<|m8 (A:=[]) (Own.nil (E:=Enc.int) (e:=tI) (a:=none)) Z<|g9 (congrArg (ow eIs [_]) (show _=cond (t6 (l0,i8) (l6,f9) (o3,i7)) (u9 (l0,i8) (l6,f9) (o3,i7)).1 [] by grind[t6,u9,z6,B9,B6,D2,D4,B7,d1,d2,t1,t2]))<|d8<|d8 ?_
       exact a1z br Z Z Z (mS<|mS m0) ty_Binding Z ((none,0,0),(none,0,0)) trivial (by rw[show (t6 (l0,i8) (l6,f9) (o3,i7))=(false) from (by grind[t6,u9,z6,B9,B6,D2,D4,B7,d1,d2,t1,t2])];try rfl) (J:=_) (.refl _)<|.inl Z
      ·refine o4 kr<|Et<|r8 Z<|v6<|o6<|Et<|Ez Z2<|Yad Z om om<|Em Z<|Eu<|d8<|g9 (congrArg (ow eIs [_]) (show _=(H0 (l0,i8)<|(f9.zip i7).take (g+1)).1 from by grind[t6,u9,z6,B9,B6,D2,D4,B7,d1,d2,t1,t2]))<|d8<|g9 (congrArg (ow eIs [_]) (show _=(H0 (l0,i8)<|(f9.zip i7).take (g+1)).2 from by grind[t6,u9,z6,B9,B6,D2,D4,B7,d1,d2,t1,t2]))<|s4<|s4<|s4<|s4<|s4<|s4<|s4 ?_
       exact Ea (g+1,aA0_0,_,cA0_0,aA0_1,_,cA0_1) ⟨oz,(show okV (l0,i8) (f9.zip i7)=okV (H0 (l0,i8)<|(f9.zip i7).take (g+1)) ((f9.zip i7).drop (g+1)) from by grind[t6,u9,z6,B9,B6,D2,D4,B7,d1,d2,t1,t2])⟩
    ·refine Eu<|Eq_<|r8 Z<|E.exit<|l2<|l2<|u4<|Et<|Ew Z3<|Ey Z (l4 (cs:=[_,_]) ty_Binding Z (Has.pt<|mS<|mS m0) Z)<|n0<|Est Z (Ns [_,_] ty_Binding Z)<|λ_ _=>Ei Z<|Eu<|E.ret<|d8<|g9 (congrArg (ow eIs [_]) (show _=cond (t6 (l0,i8) (l6,f9) (o3,i7)) (u9 (l0,i8) (l6,f9) (o3,i7)).2 [] by grind[t6,u9,z6,B9,B6,D2,D4,B7,d1,d2,t1,t2]))<|i9<|g9 (congrArg (ow eIs [_]) (show _=cond (t6 (l0,i8) (l6,f9) (o3,i7)) (u9 (l0,i8) (l6,f9) (o3,i7)).1 [] by grind[t6,u9,z6,B9,B6,D2,D4,B7,d1,d2,t1,t2]))<|d8<|d8 ?_
     exact a1z br Z Z Z (mS<|mS m0) ty_Binding Z ((_,_,_),(_,_,_)) trivial (by rw[show (t6 (l0,i8) (l6,f9) (o3,i7))=(true) from (by grind[t6,u9,z6,B9,B6,D2,D4,B7,d1,d2,t1,t2])];try rfl) (J:=_) (.refl _)<|.inl Z
theorem a4Z (hb1:l0.length≤1000) (hb2:i8.length≤1000) (hat:f9.length≤1000):Tr Tryz.prog 303 [.agg #[.slice E3 I6 E4,.slice w8 C1 w9],.agg #[.int .i64 l6,.slice w5 C0 w4],.agg #[.int .i64 o3,.slice C4 G6 C3]] (λw L=>Ro w L eIs [.slice E3 I6 E4] l0∧Ro w L eIs [.slice w8 C1 w9] i8∧I64 l6∧Ro w L eIs [.slice w5 C0 w4] f9∧I64 o3∧Ro w L eIs [.slice C4 G6 C3] i7) [] (κ:=(SL)×(SL)) (λk=>True) (λk=>.tuple #[.agg #[.slice k.1.1 k.1.2.1 k.1.2.2,.slice k.2.1 k.2.2.1 k.2.2.2],.bool (t6 (l0,i8) (l6,f9) (o3,i7))]) (λk=>[ow eIs [.slice k.1.1 k.1.2.1 k.1.2.2] (cond (t6 (l0,i8) (l6,f9) (o3,i7)) (u9 (l0,i8) (l6,f9) (o3,i7)).1 []),ow eIs [.slice k.2.1 k.2.2.1 k.2.2.2] (cond (t6 (l0,i8) (l6,f9) (o3,i7)) (u9 (l0,i8) (l6,f9) (o3,i7)).2 [])]):=by
 refine Ti3 Tryz.func303 88 Z λw L hR=>?_
 obtain ⟨E6,y4,M0,y5,L4,z8⟩:=hR
 obtain ⟨rfl,a0M⟩:=E6.slen
 obtain ⟨rfl,R0⟩:=y4.slen
 obtain ⟨rfl,R4⟩:=y5.slen
 obtain ⟨rfl,Y6⟩:=z8.slen
 refine Ew Z5<|Est Z (N.box (cs:=[_,_]) Z dc Z)<|λb3 _=>Est Z (N.box (cs:=[_,_]) Z dc Z)<|λb4 _=>Est Z (N.box (cs:=[_,_]) Z dc Z)<|λb5 _=>Est Z (N.alloc ty_Binding dc)<|λb6 _=>Ei Z<|Ev Z4<|Ey Z (l4 (cs:=[_,_]) ty_Binding Z (Has.pt<|mS<|mS<|mS m0) Z)<|Est Z (N.call (b3t fc fc) Z Z Z dc Z<|λw Lp hA=>⟨hA.ro E6,hA.ro y4⟩)<|λk12 _=>?_
 obtain ⟨⟨a12_0,m12_0,c12_0⟩,⟨a12_1,m12_1,c12_1⟩⟩:=k12
 refine f0 m0 ?_
 rintro rfl l12_0
 refine f0 (mS m0) ?_
 rintro rfl l12_1
 refine Est Z (N.alloc ty_Binding dc)<|λb8 _=>Est Z (Ns [_,_] ty_Binding Z)<|λ_ _=>Eu<|Eq_<|Ew Z23<|Lf fo_Atom_0 j8 Z (Hs (Has.pt<|mS<|mS<|mS<|mS<|mS m0) 0 Z)<|Lz fo_Fact_0 j8 Z (mS<|mS<|mS<|mS m0) Z<|Ey Z ((Y.neq Z Z).yd)<|l3 (λq17=>?_)<|λq17=>?_
 ·refine Em Z<|Es Z<|Es Z<|Es Z<|Es Z<|Es Z<|Es Z<|Es Z<|Ypt Z<|Em Z<|Es Z<|Es Z<|Es Z<|Es Z<|Es Z<|Es Z<|Es Z<|Ypt Z<|Eu<|r9 Z<|Ew Z3<|Ey Z ((J2 (pvs:=[]) (cs:=[_,_]) ty_Binding pl_Binding Z Z).yd)<|n0<|Est Z (Ns [_,_] ty_Binding Z)<|λ_ _=>Ei Z<|Eu<|E.ret<|a5h<|m8 (A:=[]) (Own.nil (E:=Enc.int) (e:=tI) (a:=none)) Z<|g9 (congrArg (ow eIs [_]) (show _=cond (t6 (l0,i8) (l6,f9) (o3,i7)) (u9 (l0,i8) (l6,f9) (o3,i7)).2 [] by grind[t6,u9,z6,B9,B6,D2,D4,B7,P0,d1,d2,t1,t2]))<|m8 (A:=[]) (Own.nil (E:=Enc.int) (e:=tI) (a:=none)) Z<|g9 (congrArg (ow eIs [_]) (show _=cond (t6 (l0,i8) (l6,f9) (o3,i7)) (u9 (l0,i8) (l6,f9) (o3,i7)).1 [] by grind[t6,u9,z6,B9,B6,D2,D4,B7,P0,d1,d2,t1,t2]))<|d8<|d8 ?_
  exact a1z br Z Z Z (mS<|mS m0) ty_Binding Z ((none,0,0),(none,0,0)) trivial (by rw[show (t6 (l0,i8) (l6,f9) (o3,i7))=(false) from (by grind[t6,u9,z6,B9,B6,D2,D4,B7,P0,d1,d2,t1,t2])];try rfl) (J:=_) (.refl _)<|.inl Z
 ·refine Em Z<|Lf fo_Atom_1 ty_Is Z (Hs (Has.pt<|mS<|mS<|mS<|mS<|mS m0) 1 Z)<|Yln us_Is Z<|Lz fo_Fact_1 ty_Is Z (mS<|mS<|mS<|mS m0) Z<|Yln us_Is Z<|Ey Z ((Y.neq Z Z).yd)<|l3 (λq25=>?_)<|λq25=>?_
  ·refine Ypf Z<|Em Z<|Es Z<|Es Z<|Es Z<|Es Z<|Es Z<|Es Z<|Es Z<|Ypt Z<|Eu<|r9 Z<|Ew Z3<|Ey Z ((J2 (pvs:=[]) (cs:=[_,_]) ty_Binding pl_Binding Z Z).yd)<|n0<|Est Z (Ns [_,_] ty_Binding Z)<|λ_ _=>Ei Z<|Eu<|E.ret<|a5h<|m8 (A:=[]) (Own.nil (E:=Enc.int) (e:=tI) (a:=none)) Z<|g9 (congrArg (ow eIs [_]) (show _=cond (t6 (l0,i8) (l6,f9) (o3,i7)) (u9 (l0,i8) (l6,f9) (o3,i7)).2 [] by grind[t6,u9,z6,B9,B6,D2,D4,B7,P0,d1,d2,t1,t2]))<|m8 (A:=[]) (Own.nil (E:=Enc.int) (e:=tI) (a:=none)) Z<|g9 (congrArg (ow eIs [_]) (show _=cond (t6 (l0,i8) (l6,f9) (o3,i7)) (u9 (l0,i8) (l6,f9) (o3,i7)).1 [] by grind[t6,u9,z6,B9,B6,D2,D4,B7,P0,d1,d2,t1,t2]))<|d8<|d8 ?_
   exact a1z br Z Z Z (mS<|mS m0) ty_Binding Z ((none,0,0),(none,0,0)) trivial (by rw[show (t6 (l0,i8) (l6,f9) (o3,i7))=(false) from (by grind[t6,u9,z6,B9,B6,D2,D4,B7,P0,d1,d2,t1,t2])];try rfl) (J:=_) (.refl _)<|.inl Z
  ·refine Ypf Z<|Em Z<|Lf fo_Binding_0 ty_Is Z (Hs (Has.pt<|mS<|mS<|mS<|mS<|mS<|mS m0) 0 Z)<|Yln us_Is Z<|Lf fo_Binding_1 ty_Is Z (Hs (Has.pt<|mS<|mS<|mS<|mS<|mS<|mS m0) 1 Z)<|Yln us_Is Z<|Ey Z ((Y.neq Z Z).yd)<|l3 (λq34=>?_)<|λq34=>?_
   ·refine Ypf Z<|Eu<|r9 Z<|Ew Z3<|Ey Z ((J2 (pvs:=[]) (cs:=[_,_]) ty_Binding pl_Binding Z Z).yd)<|n0<|Est Z (Ns [_,_] ty_Binding Z)<|λ_ _=>Ei Z<|Eu<|E.ret<|a5h<|m8 (A:=[]) (Own.nil (E:=Enc.int) (e:=tI) (a:=none)) Z<|g9 (congrArg (ow eIs [_]) (show _=cond (t6 (l0,i8) (l6,f9) (o3,i7)) (u9 (l0,i8) (l6,f9) (o3,i7)).2 [] by grind[t6,u9,z6,B9,B6,D2,D4,B7,P0,d1,d2,t1,t2]))<|m8 (A:=[]) (Own.nil (E:=Enc.int) (e:=tI) (a:=none)) Z<|g9 (congrArg (ow eIs [_]) (show _=cond (t6 (l0,i8) (l6,f9) (o3,i7)) (u9 (l0,i8) (l6,f9) (o3,i7)).1 [] by grind[t6,u9,z6,B9,B6,D2,D4,B7,P0,d1,d2,t1,t2]))<|d8<|d8 ?_
    exact a1z br Z Z Z (mS<|mS m0) ty_Binding Z ((none,0,0),(none,0,0)) trivial (by rw[show (t6 (l0,i8) (l6,f9) (o3,i7))=(false) from (by grind[t6,u9,z6,B9,B6,D2,D4,B7,P0,d1,d2,t1,t2])];try rfl) (J:=_) (.refl _)<|.inl Z
   ·refine Ypf Z<|Eu<|Cf<|Eq_<|Ew Z1<|Ei Z<|Eu<|E.block<|d8<|g9 (congrArg (ow eIs [_]) (show _=(H0 (l0,i8)<|(f9.zip i7).take 0).1 from by first|rfl|(simp;done)|grind[t6,u9,z6,B9,B6,D2,D4,B7,P0,d1,d2,t1,t2]))<|i9<|g9 (congrArg (ow eIs [_]) (show _=(H0 (l0,i8)<|(f9.zip i7).take 0).2 from by first|rfl|(simp;done)|grind[t6,u9,z6,B9,B6,D2,D4,B7,P0,d1,d2,t1,t2]))<|Lo (κ:=Nat×Option Addr×Nat×Nat×SL) (λg=>g.1≤f9.length∧okV (l0,i8) (f9.zip i7)=okV (H0 (l0,i8)<|(f9.zip i7).take g.1) ((f9.zip i7).drop g.1)) (λg=>[(4,.pointer<|some ⟨b4,0,none⟩),(5,.pointer<|some ⟨b5,0,none⟩),(6,.pointer<|some ⟨b6,0,none⟩),(8,.pointer<|some ⟨b8,0,none⟩),(9,.int .i64 (↑g.1:Int))]) (λg=>[ow eIs [.slice g.2.2.2.2.1 g.2.2.2.2.2.1 g.2.2.2.2.2.2]<|(H0 (l0,i8)<|(f9.zip i7).take g.1).2,ow eIs [.slice g.2.1 g.2.2.1 g.2.2.2.1]<|(H0 (l0,i8)<|(f9.zip i7).take g.1).1,pt b8 114 [.slice g.2.1 g.2.2.1 g.2.2.2.1,.slice g.2.2.2.2.1 g.2.2.2.2.2.1 g.2.2.2.2.2.2],pt b6 114 [.slice none 0 0,.slice none 0 0],pt b5 85 [.int .i64 o3,.slice C4 i7.length C3],pt b4 111 [.int .i64 l6,.slice w5 f9.length w4],pt b3 114 [.slice E3 l0.length E4,.slice w8 i8.length w9]]) (λg=>f9.length-g.1) (0,a12_0,(l0).length,c12_0,a12_1,(i8).length,c12_1) ⟨Nat.zero_le _,by rfl⟩<|λg pg=>?_
    obtain ⟨g,aA0_0,mA0_0,cA0_0,aA0_1,mA0_1,cA0_1⟩:=g
    try dsimp only at pg
    try dsimp only
    obtain ⟨pk,pa⟩:=pg
    have jl:=b9e (b:=(l0,i8)) (t:=f9) (v:=i7) (g:=g)
    have je:=a6E (l:=(f9.zip i7).take g) (x:=(l0,i8)) (show l0.length=i8.length by omega)
    try dsimp only at jl
    refine f0 (mS m0) ?_
    rintro rfl laA0_0
    refine f0 m0 ?_
    rintro rfl laA0_1
    refine Eq_<|Ew Z5<|Em Z<|Lf fo_Atom_1 ty_Is Z (Hs (Has.pt<|mS<|mS<|mS<|mS<|mS m0) 1 Z)<|Yln us_Is Z<|Ylt Z<|l3 (λq41=>?_)<|λq41=>?_
    ·refine Eu<|Ct<|Eq_<|E.block<|Eq_<|D.region (λj=>true) mixed<|Dy 0 Z (l4 (cs:=[_,_]) ty_Binding Z (Has.pt<|mS<|mS m0) Z)<|Df 1 2 fo_Atom_1 ty_Is Z (Hs (Has.pt<|mS<|mS<|mS<|mS<|mS m0) 1 Z)<|Dm 3 Z ?_
     obtain ⟨eb48,eo48,ea48,ei48,eh48⟩:=y5.elemI g om
     refine Dyp 4 Z (y6 us_Is j8 Z ea48 Z g Z om)<|Dy 5 Z (z7 j8 Z (eh48 _) Z)<|D0 6 Z a2F Z (λhA=>⟨hA.ow<|mS m0,hA.ow m0⟩)<|Dyp 7 Z (E5 Z)<|o4 kr<|Et<|Eq_<|D.region (λj=>true) mixed<|Df 0 1 fo_Atom_1 ty_Is Z (Hs (Has.pt<|mS<|mS<|mS<|mS<|mS m0) 1 Z)<|Dm 2 Z<|Dyp 3 Z (y6 us_Is j8 Z ea48 Z g Z om)<|Dy 4 Z (z7 j8 Z (eh48 _) Z)<|D0 5 Z a0N Z (λ_=>trivial)<|Ent.b (λq56=>?_)<|λq56=>?_
     ·refine Dm 6 Z<|Dy 7 Z (l4 (cs:=[_,_]) ty_Binding Z (Has.pt<|mS<|mS m0) Z)<|Df 8 9 fo_Atom_1 ty_Is Z (Hs (Has.pt<|mS<|mS<|mS<|mS<|mS m0) 1 Z)<|Dm 10 Z<|Dyp 11 Z (y6 us_Is j8 Z ea48 Z g Z om)<|Dy 12 Z (z7 j8 Z (eh48 _) Z)<|D0 13 Z b2i Z (λhA=>⟨hA.ow<|mS m0,hA.ow m0⟩)<|Ent.b (λq64=>?_)<|λq64=>?_
      ·refine Dyp 14 Z (Y.not (b:=true) Z)<|Dyp 15 Z (J9 Z Z)<|o4 kr<|Et<|r8 Z<|Ew Z7<|Em Z<|Lz fo_Fact_1 ty_Is Z (mS<|mS<|mS<|mS m0) Z<|Em Z ?_
       obtain ⟨eb83,eo83,ea83,ei83,eh83⟩:=z8.elemI g om
       refine Il us_Is j8 Z ea83 g Z om Z (eh83 _)<|Ey Z ((Y.neq Z Z).yd)<|l3 (λq85=>?_)<|λq85=>?_
       ·refine Eu<|r9 Z<|Ew Z3<|Ey Z ((J2 (pvs:=[]) (cs:=[_,_]) ty_Binding pl_Binding Z Z).yd)<|n0<|Est Z (Ns [_,_] ty_Binding Z)<|λ_ _=>Ei Z<|Eu<|E.ret<|v7<|a5h<|a5h<|v7<|a5h<|m8 (A:=[]) (Own.nil (E:=Enc.int) (e:=tI) (a:=none)) Z<|g9 (congrArg (ow eIs [_]) (show _=cond (t6 (l0,i8) (l6,f9) (o3,i7)) (u9 (l0,i8) (l6,f9) (o3,i7)).2 [] by grind[t6,u9,z6,B9,B6,D2,D4,B7,P0,d1,d2,t1,t2]))<|m8 (A:=[]) (Own.nil (E:=Enc.int) (e:=tI) (a:=none)) Z<|g9 (congrArg (ow eIs [_]) (show _=cond (t6 (l0,i8) (l6,f9) (o3,i7)) (u9 (l0,i8) (l6,f9) (o3,i7)).1 [] by grind[t6,u9,z6,B9,B6,D2,D4,B7,P0,d1,d2,t1,t2]))<|d8<|d8 ?_
        exact a1z br Z Z Z (mS<|mS m0) ty_Binding Z ((none,0,0),(none,0,0)) trivial (by rw[show (t6 (l0,i8) (l6,f9) (o3,i7))=(false) from (by grind[t6,u9,z6,B9,B6,D2,D4,B7,P0,d1,d2,t1,t2])];try rfl) (J:=_) (.refl _)<|.inl Z
       ·refine Eu<|r8 Z<|v6<|o6<|Et<|Ez Z3<|Em Z<|Yad Z om om<|Ei Z<|Eu<|d8<|g9 (congrArg (ow eIs [_]) (show _=(H0 (l0,i8)<|(f9.zip i7).take (g+1)).1 from by grind[t6,u9,z6,B9,B6,D2,D4,B7,P0,d1,d2,t1,t2]))<|d8<|g9 (congrArg (ow eIs [_]) (show _=(H0 (l0,i8)<|(f9.zip i7).take (g+1)).2 from by grind[t6,u9,z6,B9,B6,D2,D4,B7,P0,d1,d2,t1,t2]))<|s4<|s4<|s4<|s4<|s4<|s4<|s4 ?_
        exact Ea (g+1,aA0_0,_,cA0_0,aA0_1,_,cA0_1) ⟨oz,(show okV (l0,i8) (f9.zip i7)=okV (H0 (l0,i8)<|(f9.zip i7).take (g+1)) ((f9.zip i7).drop (g+1)) from by grind[t6,u9,z6,B9,B6,D2,D4,B7,P0,d1,d2,t1,t2])⟩
      ·refine Dyp 14 Z (Y.not (b:=false) Z)<|Dyp 15 Z (J9 Z Z)<|o4 kr<|Et<|r9 Z<|D.region (λj=> !(Nat.beq j 12)) mixed<|Dy 0 Z (l4 (cs:=[_,_]) ty_Binding Z (Has.pt<|mS<|mS m0) Z)<|Df 1 2 fo_Atom_1 ty_Is Z (Hs (Has.pt<|mS<|mS<|mS<|mS<|mS m0) 1 Z)<|Dm 3 Z<|Dyp 4 Z (y6 us_Is j8 Z ea48 Z g Z om)<|Dy 5 Z (z7 j8 Z (eh48 _) Z)<|Df 6 7 fo_Fact_1 ty_Is Z (Hz (mS<|mS<|mS<|mS m0) 1 Z)<|Dm 8 Z ?_
       obtain ⟨eb76,eo76,ea76,ei76,eh76⟩:=z8.elemI g om
       refine Dyp 9 Z (y6 us_Is j8 Z ea76 Z g Z om)<|Dy 10 Z (z7 j8 Z (eh76 _) Z)<|w6 11 Z Z kr (λ_=>rfl) (N.call (b3r fc fc) Z Z Z dc Z<|λw Lp hA=>⟨hA.ow<|mS m0,hA.ow m0,ei48,ei76⟩)<|λk78 _=>?_
       obtain ⟨⟨a78_0,m78_0,c78_0⟩,⟨a78_1,m78_1,c78_1⟩⟩:=k78
       refine f0 m0 ?_
       rintro rfl l78_0
       refine f0 (mS m0) ?_
       rintro rfl l78_1
       refine s6<|w6 12 Z Z kr (λh=>by cases h) (Ns [_,_] ty_Binding rfl)<|λ_ _=>o4 kr<|o6<|Et<|Ez Z3<|Em Z<|Yad Z om om<|Ei Z<|Eu<|n0<|Ent.drop<|n0<|Ent.drop<|d8<|g9 (congrArg (ow eIs [_]) (show _=(H0 (l0,i8)<|(f9.zip i7).take (g+1)).1 from by grind[t6,u9,z6,B9,B6,D2,D4,B7,P0,d1,d2,t1,t2]))<|i9<|g9 (congrArg (ow eIs [_]) (show _=(H0 (l0,i8)<|(f9.zip i7).take (g+1)).2 from by grind[t6,u9,z6,B9,B6,D2,D4,B7,P0,d1,d2,t1,t2]))<|s4<|s4<|s4<|s4<|s4<|s4<|s4 ?_
       exact Ea (g+1,a78_0,_,c78_0,a78_1,_,c78_1) ⟨oz,(show okV (l0,i8) (f9.zip i7)=okV (H0 (l0,i8)<|(f9.zip i7).take (g+1)) ((f9.zip i7).drop (g+1)) from by grind[t6,u9,z6,B9,B6,D2,D4,B7,P0,d1,d2,t1,t2])⟩
     ·refine Dm 6 Z<|Dsk 7 Z<|Dsk 8 Z<|Dsk 9 Z<|Dsk 10 Z<|Dsk 11 Z<|Dsk 12 Z<|Dsk 13 Z<|Dsk 14 Z<|Dyp 15 Z (J3 Z Z)<|o4 kr<|Et<|r8 Z<|Ew Z7<|Em Z<|Lz fo_Fact_1 ty_Is Z (mS<|mS<|mS<|mS m0) Z<|Em Z ?_
      obtain ⟨eb83,eo83,ea83,ei83,eh83⟩:=z8.elemI g om
      refine Il us_Is j8 Z ea83 g Z om Z (eh83 _)<|Ey Z ((Y.neq Z Z).yd)<|l3 (λq85=>?_)<|λq85=>?_
      ·refine Eu<|r9 Z<|Ew Z3<|Ey Z ((J2 (pvs:=[]) (cs:=[_,_]) ty_Binding pl_Binding Z Z).yd)<|n0<|Est Z (Ns [_,_] ty_Binding Z)<|λ_ _=>Ei Z<|Eu<|E.ret<|v7<|a5h<|a5h<|v7<|a5h<|m8 (A:=[]) (Own.nil (E:=Enc.int) (e:=tI) (a:=none)) Z<|g9 (congrArg (ow eIs [_]) (show _=cond (t6 (l0,i8) (l6,f9) (o3,i7)) (u9 (l0,i8) (l6,f9) (o3,i7)).2 [] by grind[t6,u9,z6,B9,B6,D2,D4,B7,P0,d1,d2,t1,t2]))<|m8 (A:=[]) (Own.nil (E:=Enc.int) (e:=tI) (a:=none)) Z<|g9 (congrArg (ow eIs [_]) (show _=cond (t6 (l0,i8) (l6,f9) (o3,i7)) (u9 (l0,i8) (l6,f9) (o3,i7)).1 [] by grind[t6,u9,z6,B9,B6,D2,D4,B7,P0,d1,d2,t1,t2]))<|d8<|d8 ?_
       exact a1z br Z Z Z (mS<|mS m0) ty_Binding Z ((none,0,0),(none,0,0)) trivial (by rw[show (t6 (l0,i8) (l6,f9) (o3,i7))=(false) from (by grind[t6,u9,z6,B9,B6,D2,D4,B7,P0,d1,d2,t1,t2])];try rfl) (J:=_) (.refl _)<|.inl Z
      ·refine Eu<|r8 Z<|v6<|o6<|Et<|Ez Z3<|Em Z<|Yad Z om om<|Ei Z<|Eu<|d8<|g9 (congrArg (ow eIs [_]) (show _=(H0 (l0,i8)<|(f9.zip i7).take (g+1)).1 from by grind[t6,u9,z6,B9,B6,D2,D4,B7,P0,d1,d2,t1,t2]))<|d8<|g9 (congrArg (ow eIs [_]) (show _=(H0 (l0,i8)<|(f9.zip i7).take (g+1)).2 from by grind[t6,u9,z6,B9,B6,D2,D4,B7,P0,d1,d2,t1,t2]))<|s4<|s4<|s4<|s4<|s4<|s4<|s4 ?_
       exact Ea (g+1,aA0_0,_,cA0_0,aA0_1,_,cA0_1) ⟨oz,(show okV (l0,i8) (f9.zip i7)=okV (H0 (l0,i8)<|(f9.zip i7).take (g+1)) ((f9.zip i7).drop (g+1)) from by grind[t6,u9,z6,B9,B6,D2,D4,B7,P0,d1,d2,t1,t2])⟩
    ·refine Eu<|r8 Z<|E.exit<|l2<|l2<|u4<|Et<|Ew Z3<|Ey Z (l4 (cs:=[_,_]) ty_Binding Z (Has.pt<|mS<|mS m0) Z)<|n0<|Est Z (Ns [_,_] ty_Binding Z)<|λ_ _=>Ei Z<|Eu<|E.ret<|d8<|g9 (congrArg (ow eIs [_]) (show _=cond (t6 (l0,i8) (l6,f9) (o3,i7)) (u9 (l0,i8) (l6,f9) (o3,i7)).2 [] by grind[t6,u9,z6,B9,B6,D2,D4,B7,P0,d1,d2,t1,t2]))<|i9<|g9 (congrArg (ow eIs [_]) (show _=cond (t6 (l0,i8) (l6,f9) (o3,i7)) (u9 (l0,i8) (l6,f9) (o3,i7)).1 [] by grind[t6,u9,z6,B9,B6,D2,D4,B7,P0,d1,d2,t1,t2]))<|d8<|d8 ?_
     exact a1z br Z Z Z (mS<|mS m0) ty_Binding Z ((_,_,_),(_,_,_)) trivial (by rw[show (t6 (l0,i8) (l6,f9) (o3,i7))=(true) from (by grind[t6,u9,z6,B9,B6,D2,D4,B7,P0,d1,d2,t1,t2])];try rfl) (J:=_) (.refl _)<|.inl Z
theorem a3y (hbl:∀b∈l,b.1.length≤1000∧b.2.length≤1000) (hat:f9.length≤1000) (hk:Few (l6,f9) d6) (hn:l.length*1000≤1000000000000):TL Tryz.prog 190 [.slice a_l m_l c_l,.agg #[.int .i64 l6,.slice w5 C0 w4],.slice a_facts m_facts c_facts] (λw L=>Ro w L B0 [.slice a_l m_l c_l] l∧I64 l6∧Ro w L eIs [.slice w5 C0 w4] f9∧Ro w L t7 [.slice a_facts m_facts c_facts] d6) B0 (I9 l (l6,f9) d6):=by
 refine Ti3 Tryz.func190 42 Z λw L hR=>?_
 obtain ⟨hl,M0,y5,hfacts⟩:=hR
 obtain ⟨rfl,ll⟩:=hl.slen
 obtain ⟨rfl,R4⟩:=y5.slen
 obtain ⟨rfl,lfacts⟩:=hfacts.slen
 refine Ew Z2<|Est Z (N.box (cs:=[_,_]) Z dc Z)<|λb4 _=>Ei Z<|Ev Z2<|Est Z (Nb [] [] us_Bindings ty_Binding Z Z)<|λb14 _=>Ent.drop<|Ei Z<|Eu<|Eq_<|Ew Z3<|Em Z<|Yln us_Bindings Z<|Em Z<|Eu<|E.block<|m8 (A:=[]) (Own.nil (E:=J7) (e:=tBinding) (a:=(some ⟨b14,0,none⟩))) Z<|g9 (congrArg (ow B0 [_]) (show _=I9 (l.take 0) (l6,f9) d6 from by first|rfl|(simp;done)|grind[Y4,a0x,a0w,Y2,d1,d2,t1,t2]))<|Lo (κ:=Nat×SL) (λg=>g.1≤l.length∧True) (λg=>[(2,.slice a_facts d6.length c_facts),(4,.pointer<|some ⟨b4,0,none⟩),(7,.slice g.2.1 g.2.2.1 g.2.2.2),(15,.slice a_l l.length c_l),(16,.int .i64 (↑l.length:Int)),(17,.int .i64 (↑g.1:Int))]) (λg=>[ow B0 [.slice g.2.1 g.2.2.1 g.2.2.2]<|I9 (l.take g.1) (l6,f9) d6,pt b4 111 [.int .i64 l6,.slice w5 f9.length w4]]) (λg=>l.length-g.1) (0,(some ⟨b14,0,none⟩),0,0) ⟨Nat.zero_le _,by simp⟩<|λg pg=>?_
 obtain ⟨g,aA0_0,mA0_0,cA0_0⟩:=g
 try dsimp only at pg
 try dsimp only
 obtain ⟨pk,pa⟩:=pg
 have jn:=a4U hk (l:=l.take g)
 have jp:=List.length_take_le g l
 refine f0 m0 ?_
 rintro rfl laA0_0
 refine Ew Z1<|Ylt Z<|l3 (λq18=>?_)<|λq18=>?_
 ·obtain ⟨eb19,eo19,ec19,ea19,er19,el19,eh19⟩:=hl.elem g om
  obtain ⟨xa19_0,xc19_0,xa19_1,xc19_1,rfl,xh19_0,xh19_1⟩:=a4g er19
  have:=xh19_0.slen.2
  have:=xh19_1.slen.2
  refine Eu<|Eq_<|Ct<|Eq_<|E.block<|Ew Z4<|Ix us_Bindings ty_Binding Z ea19 g Z om<|Ey Z (l4 (cs:=[_,_]) ty_Binding Z (eh19 _) Z)<|Est Z (N.alloc ty_Binding dc)<|λb9 _=>Est Z (Ns [_,_] ty_Binding Z)<|λ_ _=>Ev Z3<|Em Z<|Yln us_Facts Z<|Em Z<|Eu<|E.block<|d8<|g9 (congrArg (ow B0 [_]) (show _=I9 (l.take g) (l6,f9) d6++W6 l[g] (l6,f9) (d6.take 0) from by first|rfl|(simp;done)|grind[Y4,a0x,a0w,Y2,d1,d2,t1,t2]))<|Lo (κ:=Nat×SL) (λh=>h.1≤d6.length∧True) (λh=>[(2,.slice a_facts d6.length c_facts),(4,.pointer<|some ⟨b4,0,none⟩),(7,.slice h.2.1 h.2.2.1 h.2.2.2),(9,.pointer<|some ⟨b9,0,none⟩),(15,.slice a_l l.length c_l),(16,.int .i64 (↑l.length:Int)),(17,.int .i64 (g:Int)),(21,.slice a_facts d6.length c_facts),(22,.int .i64 (↑d6.length:Int)),(23,.int .i64 (↑h.1:Int))]) (λh=>[ow B0 [.slice h.2.1 h.2.2.1 h.2.2.2]<|I9 (l.take g) (l6,f9) d6++W6 l[g] (l6,f9) (d6.take h.1),pt b9 114 [.slice xa19_0 l[g].1.length xc19_0,.slice xa19_1 l[g].2.length xc19_1],pt b4 111 [.int .i64 l6,.slice w5 f9.length w4]]) (λh=>d6.length-h.1) (0,aA0_0,(I9 (l.take g) (l6,f9) d6).length,cA0_0) ⟨Nat.zero_le _,by simp⟩<|λh ph=>?_
  obtain ⟨h,aA1_0,mA1_0,cA1_0⟩:=h
  try dsimp only at ph
  try dsimp only
  obtain ⟨pk,pa⟩:=ph
  have jo:=b2V hk hn (g:=g) om h
  refine f0 m0 ?_
  rintro rfl laA1_0
  refine Ew Z1<|Ylt Z<|l3 (λq24=>?_)<|λq24=>?_
  ·obtain ⟨eb25,eo25,ec25,ea25,er25,el25,eh25⟩:=hfacts.elem h om
   obtain ⟨xa25_0,xc25_0,rfl,ei25_0,xh25_0⟩:=U2 er25
   have:=xh25_0.slen.2
   refine Eu<|Eq_<|Ct<|Eq_<|E.block<|Ew Z4<|Ix us_Facts ty_Fact Z ea25 h Z om<|Ey Z (l4 (cs:=[_,_]) ty_Fact Z (eh25 _) Z)<|Est Z (N.alloc ty_Fact dc)<|λb11 _=>Est Z (Ns [_,_] ty_Fact Z)<|λ_ _=>Ev Z10<|Ey Z (l4 (cs:=[_,_]) ty_Binding Z (Has.pt<|mS<|mS m0) Z)<|Ey Z (l4 (cs:=[_,_]) ty_Atom Z (Has.pt<|mS<|mS<|mS m0) Z)<|Ey Z (l4 (cs:=[_,_]) ty_Fact Z (Has.pt m0) Z)<|Est Z (N.call (a9X ((hbl _<|List.getElem_mem om).1) ((hbl _<|List.getElem_mem om).2)<|fo) Z Z Z dc Z<|λw Lp hA=>⟨hA.ro xh19_0,hA.ro xh19_1,M0,hA.ro y5,ei25_0,hA.ro xh25_0⟩)<|λk31 _=>?_
   obtain ⟨⟨a31_0,m31_0,c31_0⟩,⟨a31_1,m31_1,c31_1⟩⟩:=k31
   refine f0 m0 ?_
   rintro rfl l31_0
   refine f0 (mS m0) ?_
   rintro rfl l31_1
   refine Em Z<|Ey Z ((Y.ext Z Z).yd)<|Ey Z ((Y.ext Z Z).yd)<|Est Z (N.alloc ty_Binding dc)<|λb12 _=>Est Z (Ns [_,_] ty_Binding Z)<|λ_ _=>Ei Z<|Ent.b (λq13=>?_)<|λq13=>?_
   ·refine Ev Z1<|Em Z<|Eu<|r9 Z<|Ez Z5<|Em Z<|Ey Z (l4 (cs:=[_,_]) ty_Binding Z (Has.pt m0) Z)<|Est Z (Nb [_] [_,_] us_Bindings ty_Binding Z Z)<|λb37 _=>n0<|n0<|i9<|u6<|Est Z (w3 (E:=J7) (ex:=(cond (t6 l[g] (l6,f9) d6[h]) (u9 l[g] (l6,f9) d6[h]).1 [],cond (t6 l[g] (l6,f9) d6[h]) (u9 l[g] (l6,f9) d6[h]).2 [])) us_Bindings ty_Binding Z Z Z (U5 (x:=(cond (t6 l[g] (l6,f9) d6[h]) (u9 l[g] (l6,f9) d6[h]).1 [],cond (t6 l[g] (l6,f9) d6[h]) (u9 l[g] (l6,f9) d6[h]).2 [])) Own.ow Own.ow) Z bn bn dc)<|λp38 _=>Ei Z<|En<|o6<|Et<|Ez Z2<|Yad Z om om<|Em Z<|Eu<|d8<|Ent.drop<|d8<|Ent.drop<|g9 (congrArg (ow B0 [_]) (show _=I9 (l.take g) (l6,f9) d6++W6 l[g] (l6,f9) (d6.take<|h+1) from by grind[Y4,a0x,a0w,Y2,d1,d2,t1,t2]))<|i9<|i9<|i9 ?_
    exact Ea (h+1,p38.1,((I9 (l.take g) (l6,f9) d6++W6 l[g] (l6,f9) (d6.take h)).length+1),p38.2) ⟨oz,trivial⟩
   ·refine Ev Z1<|Em Z<|Eu<|r8 Z<|v6<|o6<|Et<|Ez Z2<|Yad Z om om<|Em Z<|Eu<|Ent.drop<|Ent.drop<|Ent.drop<|Ent.drop<|g9 (congrArg (ow B0 [_]) (show _=I9 (l.take g) (l6,f9) d6++W6 l[g] (l6,f9) (d6.take<|h+1) from by grind[Y4,a0x,a0w,Y2,d1,d2,t1,t2]))<|i9<|i9<|i9 ?_
    exact Ea (h+1,aA1_0,_,cA1_0) ⟨oz,trivial⟩
  ·refine Eu<|Eq_<|r8 Z<|E.exit<|l2<|l2<|u4<|o6<|Et<|Ez Z2<|Yad Z om om<|Em Z<|Eu<|d8<|Ent.drop<|g9 (congrArg (ow B0 [_]) (show _=I9 (l.take<|g+1) (l6,f9) d6 from by grind[Y4,a0x,a0w,Y2,d1,d2,t1,t2]))<|d8<|d8 ?_
   exact Ea (g+1,aA1_0,_,cA1_0) ⟨oz,trivial⟩
 ·refine Eu<|Eq_<|r8 Z<|E.exit<|l2<|l2<|u4<|Et<|Ew Z2<|Em Z<|Ei Z<|Eu<|E.ret<|g9 (congrArg (ow B0 [_]) (show _=I9 l (l6,f9) d6 by grind[Y4,a0x,a0w,Y2,d1,d2,t1,t2]))<|Fg Z Z (_,_,_) Z Z
theorem a3w (hbl:∀b∈l,b.1.length≤1000∧b.2.length≤1000) (hat:f9.length≤1000) (hk:Few (l6,f9) d6) (hn:l.length*1000≤1000000000000):TL Tryz.prog 205 [.slice a_l m_l c_l,.agg #[.int .i64 l6,.slice w5 C0 w4],.slice a_facts m_facts c_facts] (λw L=>Ro w L B0 [.slice a_l m_l c_l] l∧I64 l6∧Ro w L eIs [.slice w5 C0 w4] f9∧Ro w L t7 [.slice a_facts m_facts c_facts] d6) B0 (I9 l (l6,f9) d6):=by
 refine Ti3 Tryz.func205 44 Z λw L hR=>?_
 obtain ⟨hl,M0,y5,hfacts⟩:=hR
 obtain ⟨rfl,ll⟩:=hl.slen
 obtain ⟨rfl,R4⟩:=y5.slen
 obtain ⟨rfl,lfacts⟩:=hfacts.slen
 refine Ew Z2<|Est Z (N.box (cs:=[_,_]) Z dc Z)<|λb4 _=>Ei Z<|Ev Z2<|Est Z (Nb [] [] us_Bindings ty_Binding Z Z)<|λb12 _=>Ent.drop<|Ei Z<|Eu<|Eq_<|Ew Z1<|Ei Z<|Eu<|E.block<|m8 (A:=[]) (Own.nil (E:=J7) (e:=tBinding) (a:=(some ⟨b12,0,none⟩))) Z<|g9 (congrArg (ow B0 [_]) (show _=I9 (l.take 0) (l6,f9) d6 from by first|rfl|(simp;done)|grind[Y4,a0x,a0w,Y2,d1,d2,t1,t2]))<|Lo (κ:=Nat×SL) (λg=>g.1≤l.length∧True) (λg=>[(0,.slice a_l l.length c_l),(2,.slice a_facts d6.length c_facts),(4,.pointer<|some ⟨b4,0,none⟩),(7,.slice g.2.1 g.2.2.1 g.2.2.2),(8,.int .i64 (↑g.1:Int))]) (λg=>[ow B0 [.slice g.2.1 g.2.2.1 g.2.2.2]<|I9 (l.take g.1) (l6,f9) d6,pt b4 111 [.int .i64 l6,.slice w5 f9.length w4]]) (λg=>l.length-g.1) (0,(some ⟨b12,0,none⟩),0,0) ⟨Nat.zero_le _,by simp⟩<|λg pg=>?_
 obtain ⟨g,aA0_0,mA0_0,cA0_0⟩:=g
 try dsimp only at pg
 try dsimp only
 obtain ⟨pk,pa⟩:=pg
 have jn:=a4U hk (l:=l.take g)
 have jp:=List.length_take_le g l
 refine f0 m0 ?_
 rintro rfl laA0_0
 refine Eq_<|Ew Z4<|Em Z<|Em Z<|Yln us_Bindings Z<|Ylt Z<|l3 (λq16=>?_)<|λq16=>?_
 ·refine Eu<|Ct<|Eq_<|E.block<|Ew Z1<|Ei Z<|Eu<|E.block<|g9 (congrArg (ow B0 [_]) (show _=I9 (l.take g) (l6,f9) d6++W6 l[g] (l6,f9) (d6.take 0) from by first|rfl|(simp;done)|grind[Y4,a0x,a0w,Y2,d1,d2,t1,t2]))<|Lo (κ:=Nat×SL) (λh=>h.1≤d6.length∧True) (λh=>[(0,.slice a_l l.length c_l),(2,.slice a_facts d6.length c_facts),(4,.pointer<|some ⟨b4,0,none⟩),(7,.slice h.2.1 h.2.2.1 h.2.2.2),(8,.int .i64 (g:Int)),(9,.int .i64 (↑h.1:Int))]) (λh=>[ow B0 [.slice h.2.1 h.2.2.1 h.2.2.2]<|I9 (l.take g) (l6,f9) d6++W6 l[g] (l6,f9) (d6.take h.1),pt b4 111 [.int .i64 l6,.slice w5 f9.length w4]]) (λh=>d6.length-h.1) (0,aA0_0,(I9 (l.take g) (l6,f9) d6).length,cA0_0) ⟨Nat.zero_le _,by simp⟩<|λh ph=>?_
  obtain ⟨h,aA1_0,mA1_0,cA1_0⟩:=h
  try dsimp only at ph
  try dsimp only
  obtain ⟨pk,pa⟩:=ph
  have jo:=b2V hk hn (g:=g) om h
  refine f0 m0 ?_
  rintro rfl laA1_0
  refine Eq_<|Ew Z4<|Em Z<|Em Z<|Yln us_Facts Z<|Ylt Z<|l3 (λq22=>?_)<|λq22=>?_
  ·refine Eu<|Ct<|Eq_<|E.block<|Eq_<|a2X (κ:=Nat×Option Addr×Nat×Option Addr×Nat) (λ_=>True) (λkM=>[(0,.slice a_l l.length c_l),(2,.slice a_facts d6.length c_facts),(4,.pointer<|some ⟨b4,0,none⟩),(7,.slice aA1_0 (I9 (l.take g) (l6,f9) d6++W6 l[g] (l6,f9) (d6.take h)).length cA1_0),(8,.int .i64 (g:Int)),(9,.int .i64 (h:Int)),(10,.pointer<|some ⟨kM.1,0,none⟩),(11,.bool<|t6 l[g] (l6,f9) d6[h])]) (λkM=>[pt kM.1 114 [.slice kM.2.1 (cond (t6 l[g] (l6,f9) d6[h]) (u9 l[g] (l6,f9) d6[h]).1 []).length kM.2.2.1,.slice kM.2.2.2.1 (cond (t6 l[g] (l6,f9) d6[h]) (u9 l[g] (l6,f9) d6[h]).2 []).length kM.2.2.2.2],ow eIs [.slice kM.2.1 (cond (t6 l[g] (l6,f9) d6[h]) (u9 l[g] (l6,f9) d6[h]).1 []).length kM.2.2.1]<|cond (t6 l[g] (l6,f9) d6[h]) (u9 l[g] (l6,f9) d6[h]).1 [],ow eIs [.slice kM.2.2.2.1 (cond (t6 l[g] (l6,f9) d6[h]) (u9 l[g] (l6,f9) d6[h]).2 []).length kM.2.2.2.2]<|cond (t6 l[g] (l6,f9) d6[h]) (u9 l[g] (l6,f9) d6[h]).2 [],ow B0 [.slice aA1_0 (I9 (l.take g) (l6,f9) d6++W6 l[g] (l6,f9) (d6.take h)).length cA1_0]<|I9 (l.take g) (l6,f9) d6++W6 l[g] (l6,f9) (d6.take h),pt b4 111 [.int .i64 l6,.slice w5 f9.length w4]]) ?_<|λkM _=>?_
   ·refine D.region (λj=> !(Nat.beq j 14)) mixed<|Dm 0 Z<|Dm 1 Z ?_
    obtain ⟨eb28,eo28,ec28,ea28,er28,el28,eh28⟩:=hl.elem g om
    obtain ⟨xa28_0,xc28_0,xa28_1,xc28_1,rfl,xh28_0,xh28_1⟩:=a4g er28
    have:=xh28_0.slen.2
    have:=xh28_1.slen.2
    refine Dyp 2 Z (y6 us_Bindings ty_Binding Z ea28 Z g Z om)<|Dy 3 Z (l4 (cs:=[_,_]) ty_Binding Z (eh28 _) Z)<|Dy 4 Z (l4 (cs:=[_,_]) ty_Atom Z (Has.pt<|mS m0) Z)<|Dm 5 Z<|Dm 6 Z ?_
    obtain ⟨eb33,eo33,ec33,ea33,er33,el33,eh33⟩:=hfacts.elem h om
    obtain ⟨xa33_0,xc33_0,rfl,ei33_0,xh33_0⟩:=U2 er33
    have:=xh33_0.slen.2
    refine Dyp 7 Z (y6 us_Facts ty_Fact Z ea33 Z h Z om)<|Dy 8 Z (l4 (cs:=[_,_]) ty_Fact Z (eh33 _) Z)<|a1D (i:=9) (j:=13) kr ?_ ?_
    ·refine W3 9 Z Z (λ_=>rfl) (N.call (a4Z ((hbl _<|List.getElem_mem om).1) ((hbl _<|List.getElem_mem om).2)<|fo) Z Z Z dc Z<|λw Lp hA=>⟨hA.ro xh28_0,hA.ro xh28_1,M0,hA.ro y5,ei33_0,hA.ro xh33_0⟩)<|λk35 _=>?_
     obtain ⟨⟨a35_0,m35_0,c35_0⟩,⟨a35_1,m35_1,c35_1⟩⟩:=k35
     refine f0 m0 ?_
     rintro rfl l35_0
     refine f0 (mS m0) ?_
     rintro rfl l35_1
     refine Dm 10 Z<|Dyp 11 Z (Y.ext Z Z)<|Dyp 12 Z (Y.ext Z Z)<|w6 13 Z Z kr (λ_=>rfl) (N.alloc ty_Binding dc)<|λb10 _=>w6 14 Z Z kr (λh=>by cases h) (Ns [_,_] ty_Binding rfl)<|λ_ _=>Dyp 15 Z (E5 Z)<|o4 kr<|s6<|s6<|s6<|s6<|s6<|P8 (b10,a35_0,c35_0,a35_1,c35_1) trivial ⟨Z,Z,Z,Z,Z,Z,Z,Z,trivial⟩<|.refl _
    ·refine W3 13 Z Z (λ_=>rfl) (N.alloc ty_Binding dc)<|λb10 _=>w6 9 Z Z kr (λ_=>rfl) (N.call (a4Z ((hbl _<|List.getElem_mem om).1) ((hbl _<|List.getElem_mem om).2)<|fo) Z Z Z dc Z<|λw Lp hA=>⟨hA.ro xh28_0,hA.ro xh28_1,M0,hA.ro y5,ei33_0,hA.ro xh33_0⟩)<|λk35 _=>?_
     obtain ⟨⟨a35_0,m35_0,c35_0⟩,⟨a35_1,m35_1,c35_1⟩⟩:=k35
     refine f0 m0 ?_
     rintro rfl l35_0
     refine f0 (mS m0) ?_
     rintro rfl l35_1
     refine Dm 10 Z<|Dyp 11 Z (Y.ext Z Z)<|Dyp 12 Z (Y.ext Z Z)<|i9<|w6 14 Z Z kr (λh=>by cases h) (Ns [_,_] ty_Binding rfl)<|λ_ _=>Dyp 15 Z (E5 Z)<|o4 kr<|s6<|s6<|s6<|s6<|s6<|P8 (b10,a35_0,c35_0,a35_1,c35_1) trivial ⟨Z,Z,Z,Z,Z,Z,Z,Z,trivial⟩<|.refl _
   ·obtain ⟨b10,a35_0,c35_0,a35_1,c35_1⟩:=kM
    try dsimp only
    refine Et<|Ew Z1<|Em Z<|Ent.b (λq38=>?_)<|λq38=>?_
    ·refine Eu<|r9 Z<|Ez Z5<|Em Z<|Ey Z (l4 (cs:=[_,_]) ty_Binding Z (Has.pt m0) Z)<|Est Z (Nb [_] [_,_] us_Bindings ty_Binding Z Z)<|λb41 _=>n0<|n0<|i9<|s6<|Est Z (w3 (E:=J7) (ex:=(cond (t6 l[g] (l6,f9) d6[h]) (u9 l[g] (l6,f9) d6[h]).1 [],cond (t6 l[g] (l6,f9) d6[h]) (u9 l[g] (l6,f9) d6[h]).2 [])) us_Bindings ty_Binding Z Z Z (U5 (x:=(cond (t6 l[g] (l6,f9) d6[h]) (u9 l[g] (l6,f9) d6[h]).1 [],cond (t6 l[g] (l6,f9) d6[h]) (u9 l[g] (l6,f9) d6[h]).2 [])) Own.ow Own.ow) Z bn bn dc)<|λp42 _=>Ei Z<|En<|o6<|Et<|Ez Z3<|Em Z<|Yad Z om om<|Ei Z<|Eu<|d8<|Ent.drop<|g9 (congrArg (ow B0 [_]) (show _=I9 (l.take g) (l6,f9) d6++W6 l[g] (l6,f9) (d6.take<|h+1) from by grind[Y4,a0x,a0w,Y2,d1,d2,t1,t2]))<|d8<|d8 ?_
     exact Ea (h+1,p42.1,((I9 (l.take g) (l6,f9) d6++W6 l[g] (l6,f9) (d6.take h)).length+1),p42.2) ⟨oz,trivial⟩
    ·refine Eu<|r8 Z<|v6<|o6<|Et<|Ez Z3<|Em Z<|Yad Z om om<|Ei Z<|Eu<|Ent.drop<|Ent.drop<|Ent.drop<|g9 (congrArg (ow B0 [_]) (show _=I9 (l.take g) (l6,f9) d6++W6 l[g] (l6,f9) (d6.take<|h+1) from by grind[Y4,a0x,a0w,Y2,d1,d2,t1,t2]))<|d8<|d8 ?_
     exact Ea (h+1,aA1_0,_,cA1_0) ⟨oz,trivial⟩
  ·refine Eu<|r8 Z<|E.exit<|l2<|l2<|u4<|o6<|Et<|Ez Z3<|Em Z<|Yad Z om om<|Ei Z<|Eu<|g9 (congrArg (ow B0 [_]) (show _=I9 (l.take<|g+1) (l6,f9) d6 from by grind[Y4,a0x,a0w,Y2,d1,d2,t1,t2]))<|d8<|d8 ?_
   exact Ea (g+1,aA1_0,_,cA1_0) ⟨oz,trivial⟩
 ·refine Eu<|r8 Z<|E.exit<|l2<|l2<|u4<|Et<|Ew Z2<|Em Z<|Ei Z<|Eu<|E.ret<|g9 (congrArg (ow B0 [_]) (show _=I9 l (l6,f9) d6 by grind[Y4,a0x,a0w,Y2,d1,d2,t1,t2]))<|Fg Z Z (_,_,_) Z Z
theorem a4z (hqa:c6.length≤4) (hqt:∀a∈c6,a.2.length≤3) (hf:∀a∈c6,Few a d6):TL Tryz.prog 73 [.agg #[.slice r7 u5 r6,.slice o1 s9 o0],.slice a_facts m_facts c_facts] (λw L=>Ro w L eIs [.slice r7 u5 r6] d9∧Ro w L v8 [.slice o1 s9 o0] c6∧Ro w L t7 [.slice a_facts m_facts c_facts] d6) B0 (B1 c6 d6):=by
 refine Ti2 Tryz.func73 23 Z λw L hR=>?_
 obtain ⟨s7,o2,hfacts⟩:=hR
 obtain ⟨rfl,I8⟩:=s7.slen
 obtain ⟨rfl,G9⟩:=o2.slen
 obtain ⟨rfl,lfacts⟩:=hfacts.slen
 refine Ew Z2<|Est Z (N.box (cs:=[_,_]) Z dc Z)<|λb2 _=>Ei Z<|Ev Z3<|Ey Z ((J2 (pvs:=[]) (cs:=[_,_]) ty_Binding pl_Binding Z Z).yd)<|Est Z (Nb [_] [_,_] us_Bindings ty_Binding Z Z)<|λb9 _=>m8 (A:=_::_) (V2 (E:=J7) (e:=tBinding)<|U5 (x:=([],[])) Own.nil Own.nil) Z<|Ei Z<|Eu<|Eq_<|Ew Z4<|Lz fo_Query_1 ty_Atoms Z (mS m0) Z<|Yln us_Atoms Z<|Em Z<|Eu<|E.block<|g9 (congrArg (ow B0 [_]) (show _=B1 (c6.take 0) d6 from by first|rfl|(simp;done)|grind[a1Q,a1o,d1,d2,t1,t2]))<|Lo (κ:=Nat×SL) (λg=>g.1≤c6.length∧True) (λg=>[(1,.slice a_facts d6.length c_facts),(5,.slice g.2.1 g.2.2.1 g.2.2.2),(11,.slice o1 c6.length o0),(12,.int .i64 (↑c6.length:Int)),(13,.int .i64 (↑g.1:Int))]) (λg=>[ow B0 [.slice g.2.1 g.2.2.1 g.2.2.2]<|B1 (c6.take g.1) d6,pt b2 28 [.slice r7 d9.length r6,.slice o1 c6.length o0]]) (λg=>c6.length-g.1) (0,(some ⟨b9,0,none⟩),1,1) ⟨Nat.zero_le _,by simp⟩<|λg pg=>?_
 obtain ⟨g,aA0_0,mA0_0,cA0_0⟩:=g
 try dsimp only at pg
 try dsimp only
 obtain ⟨pk,pa⟩:=pg
 refine f0 m0 ?_
 rintro rfl laA0_0
 refine Ew Z1<|Ylt Z<|l3 (λq14=>?_)<|λq14=>?_
 ·obtain ⟨eb15,eo15,ec15,ea15,er15,el15,eh15⟩:=o2.elem g om
  obtain ⟨xa15_0,xc15_0,rfl,ei15_0,xh15_0⟩:=L6 er15
  have:=xh15_0.slen.2
  refine Eu<|Eq_<|Ct<|Eq_<|E.block<|Ew Z4<|Ix us_Atoms ty_Atom Z ea15 g Z om<|Ey Z (l4 (cs:=[_,_]) ty_Atom Z (eh15 _) Z)<|Est Z (N.alloc ty_Atom dc)<|λb7 _=>Est Z (Ns [_,_] ty_Atom Z)<|λ_ _=>Eu<|Ez Z5<|Em Z<|Ey Z (l4 (cs:=[_,_]) ty_Atom Z (Has.pt m0) Z)<|Em Z<|El Z (a3y (λb hb=>by have:=(a5s (d6:=d6) hf hqa hqt (g:=g) om).2 b hb;omega) (Nat.le_trans (hqt _<|List.getElem_mem om) dc) (hf _<|List.getElem_mem om) (a5s (d6:=d6) hf hqa hqt (g:=g) om).1) Z (λhA=>⟨hA.ow<|mS m0,ei15_0,hA.ro xh15_0,hA.ro hfacts⟩)<|λa20 c20 l20=>Ei Z<|En<|o6<|Et<|Ez Z2<|Yad Z om om<|Em Z<|Eu<|d8<|Ent.drop<|d8<|Ent.drop<|g9 (congrArg (ow B0 [_]) (show _=B1 (c6.take<|g+1) d6 from by grind[a1Q,a1o,d1,d2,t1,t2]))<|d8<|d8 ?_
  exact Ea (g+1,a20,_,c20) ⟨oz,trivial⟩
 ·refine Eu<|Eq_<|r8 Z<|E.exit<|l2<|l2<|u4<|Et<|Ew Z2<|Em Z<|Ei Z<|Eu<|E.ret<|g9 (congrArg (ow B0 [_]) (show _=B1 c6 d6 by grind[a1Q,a1o,d1,d2,t1,t2]))<|Fg Z Z (_,_,_) Z Z
theorem a9g (hqa:c6.length≤4) (hqt:∀a∈c6,a.2.length≤3) (hf:∀a∈c6,Few a d6):TL Tryz.prog 82 [.agg #[.slice r7 u5 r6,.slice o1 s9 o0],.slice a_facts m_facts c_facts] (λw L=>Ro w L eIs [.slice r7 u5 r6] d9∧Ro w L v8 [.slice o1 s9 o0] c6∧Ro w L t7 [.slice a_facts m_facts c_facts] d6) B0 (B1 c6 d6):=by
 refine Ti2 Tryz.func82 25 Z λw L hR=>?_
 obtain ⟨s7,o2,hfacts⟩:=hR
 obtain ⟨rfl,I8⟩:=s7.slen
 obtain ⟨rfl,G9⟩:=o2.slen
 obtain ⟨rfl,lfacts⟩:=hfacts.slen
 refine Ew Z2<|Est Z (N.box (cs:=[_,_]) Z dc Z)<|λb2 _=>Ei Z<|Ev Z3<|Ey Z ((J2 (pvs:=[]) (cs:=[_,_]) ty_Binding pl_Binding Z Z).yd)<|Est Z (Nb [_] [_,_] us_Bindings ty_Binding Z Z)<|λb8 _=>m8 (A:=_::_) (V2 (E:=J7) (e:=tBinding)<|U5 (x:=([],[])) Own.nil Own.nil) Z<|Ei Z<|Eu<|Eq_<|Ew Z1<|Ei Z<|Eu<|E.block<|g9 (congrArg (ow B0 [_]) (show _=B1 (c6.take 0) d6 from by first|rfl|(simp;done)|grind[a1Q,a1o,d1,d2,t1,t2]))<|Lo (κ:=Nat×SL) (λg=>g.1≤c6.length∧True) (λg=>[(1,.slice a_facts d6.length c_facts),(2,.pointer<|some ⟨b2,0,none⟩),(5,.slice g.2.1 g.2.2.1 g.2.2.2),(6,.int .i64 (↑g.1:Int))]) (λg=>[ow B0 [.slice g.2.1 g.2.2.1 g.2.2.2]<|B1 (c6.take g.1) d6,pt b2 28 [.slice r7 d9.length r6,.slice o1 c6.length o0]]) (λg=>c6.length-g.1) (0,(some ⟨b8,0,none⟩),1,1) ⟨Nat.zero_le _,by simp⟩<|λg pg=>?_
 obtain ⟨g,aA0_0,mA0_0,cA0_0⟩:=g
 try dsimp only at pg
 try dsimp only
 obtain ⟨pk,pa⟩:=pg
 refine f0 m0 ?_
 rintro rfl laA0_0
 refine Eq_<|Ew Z5<|Em Z<|Lz fo_Query_1 ty_Atoms Z (mS m0) Z<|Yln us_Atoms Z<|Ylt Z<|l3 (λq13=>?_)<|λq13=>?_
 ·refine Eu<|Ct<|Eq_<|E.block<|Ez Z9<|Em Z<|Lz fo_Query_1 ty_Atoms Z (mS m0) Z<|Em Z ?_
  obtain ⟨eb20,eo20,ec20,ea20,er20,el20,eh20⟩:=o2.elem g om
  obtain ⟨xa20_0,xc20_0,rfl,ei20_0,xh20_0⟩:=L6 er20
  have:=xh20_0.slen.2
  refine Ix us_Atoms ty_Atom Z ea20 g Z om<|Ey Z (l4 (cs:=[_,_]) ty_Atom Z (eh20 _) Z)<|Em Z<|El Z (a3w (λb hb=>by have:=(a5s (d6:=d6) hf hqa hqt (g:=g) om).2 b hb;omega) (Nat.le_trans (hqt _<|List.getElem_mem om) dc) (hf _<|List.getElem_mem om) (a5s (d6:=d6) hf hqa hqt (g:=g) om).1) Z (λhA=>⟨hA.ow m0,ei20_0,hA.ro xh20_0,hA.ro hfacts⟩)<|λa23 c23 l23=>Ei Z<|En<|o6<|Et<|Ez Z3<|Em Z<|Yad Z om om<|Ei Z<|Eu<|d8<|Ent.drop<|g9 (congrArg (ow B0 [_]) (show _=B1 (c6.take<|g+1) d6 from by grind[a1Q,a1o,d1,d2,t1,t2]))<|d8<|d8 ?_
  exact Ea (g+1,a23,_,c23) ⟨oz,trivial⟩
 ·refine Eu<|r8 Z<|E.exit<|l2<|l2<|u4<|Et<|Ew Z2<|Em Z<|Ei Z<|Eu<|E.ret<|g9 (congrArg (ow B0 [_]) (show _=B1 c6 d6 by grind[a1Q,a1o,d1,d2,t1,t2]))<|Fg Z Z (_,_,_) Z Z
end Go.Proofs.YthapcdhdfaibkaaGreatDoor
