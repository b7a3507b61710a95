import Derived.Test.YthapcdhdfaibkaaGreatDoorT8
namespace Go.Proofs.YthapcdhdfaibkaaGreatDoor
open Go.RowKit
set_option linter.all false
set_option maxHeartbeats 2000000
attribute [local irreducible] Nop Yd Yp Ent Has Tr FnP FnP2 Src K8 Q7 R5 S1 E8
variable {arity G5 D6 G4 D7 r5:Int} {l:List (Int×List Int×Int×Int×Int)} {t8 s s8:List Int} {m_l c_l H9 F5 m_s c_s G1 C8:Nat} {a_l F6 a_s C9:Option Addr}
theorem b0i {l:List Int}:TB Tryz.prog 352 [.slice a_l m_l c_l] (λw L=>Ro w L eIs [.slice a_l m_l c_l] l) (E8 ltB l):=by
 refine Ti1 Tryz.func352 24 Z λw L hR=>?_
 have hl:=hR
 obtain ⟨rfl,ll⟩:=hl.slen
 refine Ew Z1<|Ei Z<|Eu<|Eq_<|Ew Z3<|Em Z<|Yln us_Is Z<|Em Z<|Eu<|E.block<|Lo (κ:=Nat) (λg=>g≤l.length∧E8 ltB l=E8 ltB (l.drop<|g-1)) (λg=>[(0,.slice a_l l.length c_l),(5,.int .i64 (↑l.length:Int)),(6,.int .i64 (g:Int))]) (λg=>[]) (λg=>l.length-g) 0 ⟨Nat.zero_le _,by simp⟩<|λg pg=>?_
 obtain ⟨pk,pa⟩:=pg
 refine Ew Z1<|Ylt Z<|l3 (λq7=>?_)<|λq7=>?_
 ·refine Eu<|Eq_<|Ct<|Eq_<|E.block<|Ew Z2<|Em Z<|Ei Z<|Eu<|Eq_<|D.region (λj=>true) mixed<|Dm 0 Z<|Dyp 1 Z (Y.gtr Z Z)<|l3 (λq10=>?_)<|λq10=>?_
  ·refine Dm 2 Z<|Dm 3 Z<|Dm 4 Z ?_
   obtain ⟨eb14,eo14,ea14,ei14,eh14⟩:=hl.elemI g om
   refine Dyp 5 Z (y6 us_Is j8 Z ea14 Z g Z om)<|Dy 6 Z (z7 j8 Z (eh14 _) Z)<|Dm 7 Z<|Dm 8 Z<|Dyp 9 Z (Y.sub Z Z om om) ?_
   obtain ⟨eb19,eo19,ea19,ei19,eh19⟩:=hl.elemI (g-1) om
   refine Dyp 10 Z (y6 us_Is j8 Z ea19 Z (g-1) om om)<|Dy 11 Z (z7 j8 Z (eh19 _) Z)<|Dyp 12 Z (Y.leq Z Z)<|l3 (λq21=>?_)<|λq21=>?_
   ·refine Dyp 13 Z (J9 Z Z)<|o4 kr<|Et<|r9 Z<|Ew Z1<|Ei Z<|Eu<|E.ret<|v7<|a5h<|a5h<|v7<|a5h<|Fb Z Z (by grind[I2,I4,K0,ltB,d1,d2,t1,t2])
   ·refine Dyp 13 Z (J9 Z Z)<|o4 kr<|Et<|r8 Z<|v6<|o6<|Et<|Ez Z2<|Yad Z om om<|Em Z ?_
    exact Eu<|u7 br (g+1) rs (.refl _) ⟨by omega,by grind[I2,I4,K0,ltB,d1,d2,t1,t2]⟩ om
  ·refine Dm 2 Z<|Dsk 3 Z<|Dsk 4 Z<|Dsk 5 Z<|Dsk 6 Z<|Dsk 7 Z<|Dsk 8 Z<|Dsk 9 Z<|Dsk 10 Z<|Dsk 11 Z<|Dsk 12 Z<|Dyp 13 Z (J3 Z Z)<|o4 kr<|Et<|r8 Z<|v6<|o6<|Et<|Ez Z2<|Yad Z om om<|Em Z ?_
   exact Eu<|u7 br (g+1) rs (.refl _) ⟨by omega,by grind[I2,I4,K0,ltB,d1,d2,t1,t2]⟩ om
 ·refine Eu<|Eq_<|r8 Z<|E.exit<|l2<|l2<|u4<|Et<|Ew Z1<|Ei Z<|Eu<|E.ret<|Fb Z Z (by grind[I2,I4,K0,ltB,d1,d2,t1,t2])
theorem a6J {i:Int} {b_arity:Nat}:TB Tryz.prog 353 [.int .i64 i,.pointer (some ⟨b_arity,0,none⟩)] (λw L=>(I64 i)∧RoPt w L b_arity [.int .i64 arity]∧ -1000≤arity∧arity≤1000) (!inR i 0 (arity-1)):=by
 refine Ti2 Tryz.func353 9 Z λw L hR=>?_
 obtain ⟨i6i,hb_arity,as0,as1⟩:=hR
 refine Ew Z1<|Ei Z<|Ev Z6<|Em Z<|Ey Z (z7 j8 Z (hb_arity.has) Z)<|Ey Z ((Y.sub Z Z om om).yd)<|E0 Z L8 Z (λ_=>trivial)<|Ey Z ((Y.not Z).yd)<|Ei Z<|Eu<|E.ret<|Fb Z Z (by grind[d1,d2,t1,t2])
theorem a7f {n:Int}:TB Tryz.prog 347 [.int .i64 n] (λw L=>True) (inR n 0 99):=by
 refine Ti1 Tryz.func347 5 Z λw L hR=>Ew Z1<|Ei Z<|Ev Z3<|Em Z<|E0 Z L8 Z (λ_=>trivial)<|Ei Z<|Eu<|E.ret<|Fg Z Z () Z Z
theorem a8h:TB Tryz.prog 304 [.agg #[.int .i64 G5,.slice F6 H9 F5,.int .i64 D6,.int .i64 G4,.int .i64 D7],.int .i64 arity] (λw L=>I64 G5∧Ro w L eIs [.slice F6 H9 F5] t8∧I64 D6∧I64 G4∧I64 D7∧ -1000≤arity∧arity≤1000) (a0X (G5,t8,D6,G4,D7) arity):=by
 refine Ti2 Tryz.func304 30 Z λw L hR=>?_
 obtain ⟨Y1,F4,R9,V1,S0,as0,as1⟩:=hR
 obtain ⟨rfl,a0p⟩:=F4.slen
 refine Ew Z3<|Est Z (N.box (cs:=[_,_,_,_,_]) Z dc Z)<|λb2 _=>Est Z (N.box (cs:=[_]) Z dc Z)<|λb3 _=>Ei Z<|Ev Z26<|Lz fo_Method_1 ty_Is Z (mS m0) Z<|E0 Z b0i Z (λhA=>hA.ro F4)<|Ent.b (λq7=>?_)<|λq7=>?_
 ·refine Em Z<|Lz fo_Method_1 ty_Is Z (mS m0) Z<|Ey Z ((Y.fn (vs:=[_]) Z).yd)<|E0 Z (a0c (f:=(λi=> !inR i 0 (arity-1))) (D_f:=(λ_=>True)) (by intros;exact trivial)) Z (λhA=>⟨hA.ro F4,a3p (D:=(λ_=>True)) (λhd=>a6J)<|λw' hk=>⟨(hA.pt m0).keep hk,(by first|assumption|omega),(by first|assumption|omega)⟩⟩)<|Ent.b (λq12=>?_)<|λq12=>?_
  ·refine Yno true Z<|Ypt Z<|Em Z<|Es Z<|Es Z<|Es Z<|Ypf Z<|Em Z<|Es Z<|Es Z<|Es Z<|Ypf Z<|Em Z<|Es Z<|Es Z<|Es Z<|Ypf Z<|Ei Z<|Eu<|E.ret<|Fb Z Z (by grind[a0X,Y9,d1,d2,t1,t2])
  ·refine Yno false Z<|Ypt Z<|Em Z<|Lz fo_Method_2 j8 Z (mS m0) Z<|E0 Z L8 Z (λ_=>trivial)<|Ent.b (λq18=>?_)<|λq18=>?_
   ·refine Ypt Z<|Em Z<|Lz fo_Method_3 j8 Z (mS m0) Z<|E0 Z a7f Z (λ_=>trivial)<|Ent.b (λq23=>?_)<|λq23=>?_
    ·refine Ypt Z<|Em Z<|Lz fo_Method_4 j8 Z (mS m0) Z<|E0 Z L8 Z (λ_=>trivial)<|Ypt Z<|Ei Z<|Eu<|E.ret<|Fb Z Z (by grind[a0X,Y9,d1,d2,t1,t2])
    ·refine Ypt Z<|Em Z<|Es Z<|Es Z<|Es Z<|Ypf Z<|Ei Z<|Eu<|E.ret<|Fb Z Z (by grind[a0X,Y9,d1,d2,t1,t2])
   ·refine Ypt Z<|Em Z<|Es Z<|Es Z<|Es Z<|Ypf Z<|Em Z<|Es Z<|Es Z<|Es Z<|Ypf Z<|Ei Z<|Eu<|E.ret<|Fb Z Z (by grind[a0X,Y9,d1,d2,t1,t2])
 ·refine Em Z<|Es Z<|Es Z<|Es Z<|Es Z<|Es Z<|Ypf Z<|Em Z<|Es Z<|Es Z<|Es Z<|Ypf Z<|Em Z<|Es Z<|Es Z<|Es Z<|Ypf Z<|Em Z<|Es Z<|Es Z<|Es Z<|Ypf Z<|Ei Z<|Eu<|E.ret<|Fb Z Z (by grind[a0X,Y9,d1,d2,t1,t2])
theorem b0I:TB Tryz.prog 214 [.slice a_s m_s c_s,.agg #[.int .i64 G5,.slice F6 H9 F5,.int .i64 D6,.int .i64 G4,.int .i64 D7]] (λw L=>Ro w L eIs [.slice a_s m_s c_s] s∧I64 G5∧Ro w L eIs [.slice F6 H9 F5] t8∧I64 D6∧I64 G4∧I64 D7) (S4 s (G5,t8,D6,G4,D7)):=by
 refine Ti2 Tryz.func214 18 Z λw L hR=>?_
 obtain ⟨hs,Y1,F4,R9,V1,S0⟩:=hR
 obtain ⟨rfl,ls⟩:=hs.slen
 obtain ⟨rfl,a0p⟩:=F4.slen
 refine Ew Z2<|Est Z (N.box (cs:=[_,_,_,_,_]) Z dc Z)<|λb3 _=>Ei Z<|Eu<|Eq_<|D.region (λj=>true) mixed<|Dm 0 Z<|Df 1 2 fo_Method_0 j8 Z (Hz m0 0 Z)<|D0 3 Z a4o Z (λhA=>hA.ro hs)<|Ent.b (λq8=>?_)<|λq8=>?_
 ·obtain ⟨z1,z2,z3,z4⟩:=a0R q8
  rw[L5 om] at z3 z4
  refine Dm 4 Z<|Dy 5 Z (l4 (cs:=[_,_,_,_,_]) ty_Method Z (Has.pt m0) Z)<|Dm 6 Z<|Df 7 8 fo_Method_0 j8 Z (Hz m0 0 Z) ?_
  obtain ⟨eb14,eo14,ea14,ei14,eh14⟩:=hs.elemI G5.toNat om
  refine Dyp 9 Z (y6 us_Is j8 Z ea14 Z G5.toNat om om)<|Dy 10 Z (z7 j8 Z (eh14 _) Z)<|D0 11 Z a8h Z (λhA=>⟨Y1,hA.ro F4,R9,V1,S0,(by first|assumption|omega),(by first|assumption|omega)⟩)<|Dyp 12 Z (J9 Z Z)<|Dyp 13 Z (E5 Z)<|o4 kr<|Et<|E.ret<|Fb Z Z (by grind[S4,F8,d1,d2,t1,t2])
 ·refine Dm 4 Z<|Dsk 5 Z<|Dsk 6 Z<|Dsk 7 Z<|Dsk 8 Z<|Dsk 9 Z<|Dsk 10 Z<|Dsk 11 Z<|Dyp 12 Z (J3 Z Z)<|Dyp 13 Z (E5 Z)<|o4 kr<|Et<|E.ret<|Fb Z Z (by grind[S4,F8,d1,d2,t1,t2])
theorem b0H:TB Tryz.prog 173 [.slice a_s m_s c_s,.agg #[.int .i64 G5,.slice F6 H9 F5,.int .i64 D6,.int .i64 G4,.int .i64 D7]] (λw L=>Ro w L eIs [.slice a_s m_s c_s] s∧I64 G5∧Ro w L eIs [.slice F6 H9 F5] t8∧I64 D6∧I64 G4∧I64 D7) (S4 s (G5,t8,D6,G4,D7)):=by
 refine Ti2 Tryz.func173 74 Z λw L hR=>?_
 obtain ⟨hs,Y1,F4,R9,V1,S0⟩:=hR
 obtain ⟨rfl,ls⟩:=hs.slen
 obtain ⟨rfl,a0p⟩:=F4.slen
 refine Ew Z2<|Est Z (N.box (cs:=[_,_,_,_,_]) Z dc Z)<|λb3 _=>Ei Z<|Eu<|Eq_<|Ew Z30<|Em Z<|E0 Z M7 Z (λhA=>hA.ro hs)<|Ent.b (λq7=>?_)<|λq7=>?_
 ·refine Yno true Z<|Em Z<|Lz fo_Method_0 j8 Z m0 Z<|Em Z<|Yln us_Is Z<|Ey Z ((Y.sub Z Z om om).yd)<|E0 Z H3 Z (λ_=>trivial)<|Ent.b (λq15=>?_)<|λq15=>?_
  ·have y1:N8 s G5=true:=by rw[N8,q7,q15];rfl
   obtain ⟨z1,z2,z3,z4⟩:=a0R y1
   rw[L5 om] at z3 z4
   refine Yno true Z<|Ypf Z<|Em Z<|Lz fo_Method_2 j8 Z m0 Z<|E0 Z H3 Z (λ_=>trivial)<|Ent.b (λq21=>?_)<|λq21=>?_
   ·refine Yno true Z<|Ypf Z<|Em Z<|Lz fo_Method_3 j8 Z m0 Z<|E0 Z H3 Z (λ_=>trivial)<|Ent.b (λq27=>?_)<|λq27=>?_
    ·refine Yno true Z<|Ypf Z<|Em Z<|Lz fo_Method_4 j8 Z m0 Z<|E0 Z H3 Z (λ_=>trivial)<|Ent.b (λq33=>?_)<|λq33=>?_
     ·refine Yno true Z<|Ypf Z<|Eu<|Cf<|Eq_<|Ew Z1<|Ei Z<|Eu<|E.block<|Lo (κ:=Nat) (λg=>g≤t8.length∧(Y9 t8 (at0 s G5)&&E8 ltB t8)=(Y9 (t8.drop g) (at0 s G5)&&E8 ltB (t8.drop<|g-1))) (λg=>[(0,.slice a_s s.length c_s),(3,.pointer<|some ⟨b3,0,none⟩),(5,.int .i64 (g:Int))]) (λg=>[pt b3 125 [.int .i64 G5,.slice F6 t8.length F5,.int .i64 D6,.int .i64 G4,.int .i64 D7]]) (λg=>t8.length-g) 0 ⟨Nat.zero_le _,by simp⟩<|λg pg=>?_
      obtain ⟨pk,pa⟩:=pg
      refine Eq_<|Ew Z5<|Em Z<|Lz fo_Method_1 ty_Is Z m0 Z<|Yln us_Is Z<|Ylt Z<|l3 (λq40=>?_)<|λq40=>?_
      ·refine Eu<|Ct<|Eq_<|E.block<|Eq_<|D.region (λj=>true) mixed<|Df 0 1 fo_Method_1 ty_Is Z (Hz m0 1 Z)<|Dm 2 Z ?_
       obtain ⟨eb46,eo46,ea46,ei46,eh46⟩:=F4.elemI g om
       refine Dyp 3 Z (y6 us_Is j8 Z ea46 Z g Z om)<|Dy 4 Z (z7 j8 Z (eh46 _) Z)<|Dm 5 Z<|Df 6 7 fo_Method_0 j8 Z (Hz m0 0 Z) ?_
       obtain ⟨eb51,eo51,ea51,ei51,eh51⟩:=hs.elemI G5.toNat om
       refine Dyp 8 Z (y6 us_Is j8 Z ea51 Z G5.toNat om om)<|Dy 9 Z (z7 j8 Z (eh51 _) Z)<|Dyp 10 Z (Y.sub Z Z om om)<|D0 11 Z H3 Z (λ_=>trivial)<|Ent.b (λq54=>?_)<|λq54=>?_
       ·refine Dyp 12 Z (Y.not (b:=true) Z)<|Dm 13 Z<|Dm 14 Z<|Dyp 15 Z (Y.gtr Z Z)<|l3 (λq58=>?_)<|λq58=>?_
        ·refine Dm 16 Z<|Df 17 18 fo_Method_1 ty_Is Z (Hz m0 1 Z)<|Dm 19 Z<|Dyp 20 Z (y6 us_Is j8 Z ea46 Z g Z om)<|Dy 21 Z (z7 j8 Z (eh46 _) Z)<|Df 22 23 fo_Method_1 ty_Is Z (Hz m0 1 Z)<|Dm 24 Z<|Dyp 25 Z (Y.sub Z Z om om) ?_
         obtain ⟨eb69,eo69,ea69,ei69,eh69⟩:=F4.elemI (g-1) om
         refine Dyp 26 Z (y6 us_Is j8 Z ea69 Z (g-1) om om)<|Dy 27 Z (z7 j8 Z (eh69 _) Z)<|Dyp 28 Z (Y.leq Z Z)<|l3 (λq71=>?_)<|λq71=>?_
         ·refine Dyp 29 Z (J9 Z Z)<|Dyp 30 Z (J3 Z Z)<|o4 kr<|Et<|r9 Z<|Ew Z1<|Ei Z<|Eu<|E.ret<|v7<|a5h<|a5h<|v7<|a5h<|Fb Z Z (by grind[S4,a0X,N8,F8,Y9,I2,I4,K0,ltB,d1,d2,t1,t2])
         ·refine Dyp 29 Z (J9 Z Z)<|Dyp 30 Z (J3 Z Z)<|o4 kr<|Et<|r8 Z<|v6<|o6<|Et<|Ez Z3<|Em Z<|Yad Z om om<|Ei Z ?_
          exact Eu<|u7 br (g+1) rs (.refl _) ⟨by omega,by grind[Y9,I2,I4,K0,ltB,F8,d1,d2,t1,t2]⟩ om
        ·refine Dm 16 Z<|Dsk 17 Z<|Dsk 18 Z<|Dsk 19 Z<|Dsk 20 Z<|Dsk 21 Z<|Dsk 22 Z<|Dsk 23 Z<|Dsk 24 Z<|Dsk 25 Z<|Dsk 26 Z<|Dsk 27 Z<|Dsk 28 Z<|Dyp 29 Z (J3 Z Z)<|Dyp 30 Z (J3 Z Z)<|o4 kr<|Et<|r8 Z<|v6<|o6<|Et<|Ez Z3<|Em Z<|Yad Z om om<|Ei Z ?_
         exact Eu<|u7 br (g+1) rs (.refl _) ⟨by omega,by grind[Y9,I2,I4,K0,ltB,F8,d1,d2,t1,t2]⟩ om
       ·refine Dyp 12 Z (Y.not (b:=false) Z)<|Dm 13 Z<|Dsk 14 Z<|Dsk 15 Z<|b3P 16 Z Z dc kr<|Dsk 17 Z<|Dsk 18 Z<|Dsk 19 Z<|Dsk 20 Z<|Dsk 21 Z<|Dsk 22 Z<|Dsk 23 Z<|Dsk 24 Z<|Dsk 25 Z<|Dsk 26 Z<|Dsk 27 Z<|Dsk 28 Z<|Dsk 29 Z<|Dyp 30 Z (J9 Z Z)<|o4 kr<|Et<|r9 Z<|Ew Z1<|Ei Z<|Eu<|E.ret<|v7<|a5h<|a5h<|v7<|a5h<|Fb Z Z (by grind[S4,a0X,N8,F8,Y9,I2,I4,K0,ltB,d1,d2,t1,t2])
      ·refine Eu<|r8 Z<|E.exit<|l2<|l2<|u4<|Et<|Ew Z1<|Ei Z<|Eu<|E.ret<|Fb Z Z (by grind[S4,a0X,N8,F8,Y9,I2,I4,K0,ltB,d1,d2,t1,t2])
     ·refine Yno false Z<|Ypf Z<|Eu<|r9 Z<|Ew Z1<|Ei Z<|Eu<|E.ret<|a5h<|Fb Z Z (by grind[S4,a0X,N8,F8,Y9,I2,I4,K0,ltB,d1,d2,t1,t2])
    ·refine Yno false Z<|Ypf Z<|Em Z<|Es Z<|Es Z<|Es Z<|Es Z<|Ypt Z<|Eu<|r9 Z<|Ew Z1<|Ei Z<|Eu<|E.ret<|a5h<|Fb Z Z (by grind[S4,a0X,N8,F8,Y9,I2,I4,K0,ltB,d1,d2,t1,t2])
   ·refine Yno false Z<|Ypf Z<|Em Z<|Es Z<|Es Z<|Es Z<|Es Z<|Ypt Z<|Em Z<|Es Z<|Es Z<|Es Z<|Es Z<|Ypt Z<|Eu<|r9 Z<|Ew Z1<|Ei Z<|Eu<|E.ret<|a5h<|Fb Z Z (by grind[S4,a0X,N8,F8,Y9,I2,I4,K0,ltB,d1,d2,t1,t2])
  ·refine Yno false Z<|Ypf Z<|Em Z<|Es Z<|Es Z<|Es Z<|Es Z<|Ypt Z<|Em Z<|Es Z<|Es Z<|Es Z<|Es Z<|Ypt Z<|Em Z<|Es Z<|Es Z<|Es Z<|Es Z<|Ypt Z<|Eu<|r9 Z<|Ew Z1<|Ei Z<|Eu<|E.ret<|a5h<|Fb Z Z (by grind[S4,a0X,N8,F8,Y9,I2,I4,K0,ltB,d1,d2,t1,t2])
 ·refine Yno false Z<|Em Z<|Es Z<|Es Z<|Es Z<|Es Z<|Es Z<|Es Z<|Es Z<|Ypt Z<|Em Z<|Es Z<|Es Z<|Es Z<|Es Z<|Ypt Z<|Em Z<|Es Z<|Es Z<|Es Z<|Es Z<|Ypt Z<|Em Z<|Es Z<|Es Z<|Es Z<|Es Z<|Ypt Z<|Eu<|r9 Z<|Ew Z1<|Ei Z<|Eu<|E.ret<|a5h<|Fb Z Z (by grind[S4,a0X,N8,F8,Y9,I2,I4,K0,ltB,d1,d2,t1,t2])
theorem a7q {b_s:Nat}:TB Tryz.prog 213 [.agg #[.int .i64 G5,.slice F6 H9 F5,.int .i64 D6,.int .i64 G4,.int .i64 D7],.pointer (some ⟨b_s,0,none⟩)] (λw L=>(I64 G5∧Ro w L eIs [.slice F6 H9 F5] t8∧I64 D6∧I64 G4∧I64 D7)∧RoPt w L b_s [.slice a_s m_s c_s]∧Ro w L eIs [.slice a_s m_s c_s] s) (!S4 s (G5,t8,D6,G4,D7)):=by
 refine Ti2 Tryz.func213 8 Z λw L hR=>?_
 obtain ⟨⟨Y1,F4,R9,V1,S0⟩,hb_s,hs⟩:=hR
 obtain ⟨rfl,a0p⟩:=F4.slen
 obtain ⟨rfl,ls⟩:=hs.slen
 refine Ew Z2<|Est Z (N.box (cs:=[_,_,_,_,_]) Z dc Z)<|λb2 _=>Ei Z<|Ev Z5<|Ey Z (z7 ty_Is Z (hb_s.has) Z)<|Ey Z (l4 (cs:=[_,_,_,_,_]) ty_Method Z (Has.pt m0) Z)<|E0 Z b0I Z (λhA=>⟨hA.ro hs,Y1,hA.ro F4,R9,V1,S0⟩)<|Ey Z ((Y.not Z).yd)<|Ei Z<|Eu<|E.ret<|Fb Z Z (by grind[d1,d2,t1,t2])
theorem a4y:TB Tryz.prog 104 [.slice a_s m_s c_s,.slice a_l m_l c_l] (λw L=>Ro w L eIs [.slice a_s m_s c_s] s∧Ro w L F0 [.slice a_l m_l c_l] l) (C5 s l):=by
 refine Ti2 Tryz.func104 18 Z λw L hR=>?_
 obtain ⟨hs,hl⟩:=hR
 obtain ⟨rfl,ls⟩:=hs.slen
 obtain ⟨rfl,ll⟩:=hl.slen
 refine Ew Z2<|Est Z (N.box (cs:=[_]) Z dc Z)<|λb2 _=>Ei Z<|Ev Z14<|Ey Z (z7 ty_Is Z (Has.pt m0) Z)<|E0 Z a2n Z (λhA=>hA.ro hs)<|Ent.b (λq6=>?_)<|λq6=>?_
 ·refine Em Z<|Em Z<|Yln us_Methods Z<|Ey Z ((Y.leq Z Z).yd)<|l3 (λq10=>?_)<|λq10=>?_
  ·refine Ypt Z<|Em Z<|Em Z<|Ey Z ((Y.fn (vs:=[_]) Z).yd)<|E0 Z (a5X (f:=(λz=> !S4 s z)) (D_f:=(λ_=>True)) (by intros;exact trivial)) Z (λhA=>⟨hA.ro hl,a8D (D:=(λ_=>True)) (λhd=>a7q)<|λw' hk=>⟨(hA.pt m0).keep hk,(hA.ro hs).keep hk⟩⟩)<|Ey Z ((Y.not Z).yd)<|Ypt Z<|Ei Z<|Eu<|E.ret<|Fb Z Z (by grind[C5,d1,d2,t1,t2])
  ·refine Ypt Z<|Em Z<|Es Z<|Es Z<|Es Z<|Es Z<|Ypf Z<|Ei Z<|Eu<|E.ret<|Fb Z Z (by grind[C5,d1,d2,t1,t2])
 ·refine Em Z<|Es Z<|Es Z<|Es Z<|Ypf Z<|Em Z<|Es Z<|Es Z<|Es Z<|Es Z<|Ypf Z<|Ei Z<|Eu<|E.ret<|Fb Z Z (by grind[C5,d1,d2,t1,t2])
theorem a2Q:TB Tryz.prog 59 [.slice a_s m_s c_s,.slice a_l m_l c_l] (λw L=>Ro w L eIs [.slice a_s m_s c_s] s∧Ro w L F0 [.slice a_l m_l c_l] l) (C5 s l):=by
 refine Ti2 Tryz.func59 26 Z λw L hR=>?_
 obtain ⟨hs,hl⟩:=hR
 obtain ⟨rfl,ls⟩:=hs.slen
 obtain ⟨rfl,ll⟩:=hl.slen
 refine Ew Z1<|Ei Z<|Eu<|Eq_<|Ew Z1<|Ei Z<|Eu<|E.block<|Lo (κ:=Nat) (λg=>g≤l.length∧l.any (λm=> !S4 s m)=(l.drop g).any (λm=> !S4 s m)) (λg=>[(0,.slice a_s s.length c_s),(1,.slice a_l l.length c_l),(5,.int .i64 (g:Int))]) (λg=>[]) (λg=>l.length-g) 0 ⟨Nat.zero_le _,by simp⟩<|λg pg=>?_
 obtain ⟨pk,pa⟩:=pg
 refine Eq_<|Ew Z4<|Em Z<|Em Z<|Yln us_Methods Z<|Ylt Z<|l3 (λq9=>?_)<|λq9=>?_
 ·refine Eu<|Ct<|Eq_<|E.block<|Ew Z7<|Em Z<|Em Z<|Em Z ?_
  obtain ⟨eb15,eo15,ec15,ea15,er15,el15,eh15⟩:=hl.elem g om
  obtain ⟨xa15_0,xc15_0,rfl,ei15_0,xh15_0,ei15_2,ei15_3,ei15_4⟩:=P9 er15
  have:=xh15_0.slen.2
  refine Ix us_Methods ty_Method Z ea15 g Z om<|Ey Z (l4 (cs:=[_,_,_,_,_]) ty_Method Z (eh15 _) Z)<|E0 Z b0H Z (λhA=>⟨hA.ro hs,ei15_0,hA.ro xh15_0,ei15_2,ei15_3,ei15_4⟩)<|Ent.b (λq17=>?_)<|λq17=>?_
  ·refine Yno true Z<|Eu<|r8 Z<|v6<|o6<|Et<|Ez Z3<|Em Z<|Yad Z om om<|Ei Z ?_
   exact Eu<|u7 br (g+1) rs (.refl _) ⟨by omega,by grind[d1,d2,t1,t2]⟩ om
  ·refine Yno false Z<|Eu<|r9 Z<|Ew Z1<|Ei Z<|Eu<|E.ret<|v7<|a5h<|a5h<|v7<|a5h<|Fb Z Z (by grind[C5,d1,d2,t1,t2])
 ·refine Eu<|r8 Z<|E.exit<|l2<|l2<|u4<|Et<|Ew Z8<|Em Z<|E0 Z M7 Z (λhA=>hA.ro hs)<|Ent.b (λq20=>?_)<|λq20=>?_
  ·refine Em Z<|Em Z<|Yln us_Methods Z<|Ey Z ((Y.leq Z Z).yd)<|Ypt Z<|Ei Z<|Eu<|E.ret<|Fb Z Z (by grind[C5,d1,d2,t1,t2])
  ·refine Em Z<|Es Z<|Es Z<|Es Z<|Ypf Z<|Ei Z<|Eu<|E.ret<|Fb Z Z (by grind[C5,d1,d2,t1,t2])
theorem a7P {b0p:Int} {a1p:Option Addr} {a1q a1r:Nat} {a2C:List Int} {b_a:Nat}:TB Tryz.prog 197 [.agg #[.int .i64 b0p,.slice a1p a1q a1r],.pointer (some ⟨b_a,0,none⟩)] (λw L=>(I64 b0p∧Ro w L eIs [.slice a1p a1q a1r] a2C)∧RoPt w L b_a [.int .i64 r5,.slice C9 G1 C8]∧I64 r5∧Ro w L eIs [.slice C9 G1 C8] s8) (decide ((b0p,a2C)=(r5,s8))):=by
 refine Ti2 Tryz.func197 7 Z λw L hR=>?_
 obtain ⟨⟨b7H,a1S⟩,hb_a,P2,D9⟩:=hR
 obtain ⟨rfl,b3g⟩:=a1S.slen
 obtain ⟨rfl,Y5⟩:=D9.slen
 refine Ew Z2<|Est Z (N.box (cs:=[_,_]) Z dc Z)<|λb2 _=>Ei Z<|Ev Z4<|Ey Z (l4 (cs:=[_,_]) ty_Access Z (Has.pt m0) Z)<|Ey Z (l4 (cs:=[_,_]) ty_Access Z (hb_a.has) Z)<|E0 Z a9f Z (λhA=>⟨⟨b7H,hA.ro a1S,P2,hA.ro D9⟩,trivial⟩)<|Ei Z<|Eu<|E.ret<|Fg Z Z () Z Z
theorem a9E {l:List IL}:TB Tryz.prog 77 [.slice a_l m_l c_l,.agg #[.int .i64 r5,.slice C9 G1 C8]] (λw L=>Ro w L H4 [.slice a_l m_l c_l] l∧I64 r5∧Ro w L eIs [.slice C9 G1 C8] s8) (a2k l (r5,s8)):=by
 refine Ti2 Tryz.func77 8 Z λw L hR=>?_
 obtain ⟨hl,P2,D9⟩:=hR
 obtain ⟨rfl,ll⟩:=hl.slen
 obtain ⟨rfl,Y5⟩:=D9.slen
 refine Ew Z2<|Est Z (N.box (cs:=[_,_]) Z dc Z)<|λb3 _=>Ei Z<|Ev Z4<|Em Z<|Ey Z ((Y.fn (vs:=[_]) Z).yd)<|E0 Z (a6r (f:=(λz=>decide (z=(r5,s8)))) (D_f:=(λ_=>True)) (by intros;exact trivial)) Z (λhA=>⟨hA.ro hl,b5G (D:=(λ_=>True)) (λhd=>a7P)<|λw' hk=>⟨(hA.pt m0).keep hk,P2,(hA.ro D9).keep hk⟩⟩)<|Ei Z<|Eu<|E.ret<|Fb Z Z (by rfl)
theorem b0P {a_log:Option Addr} {m_log c_log:Nat} {log:List IL}:TB Tryz.prog 86 [.slice a_log m_log c_log,.agg #[.int .i64 r5,.slice C9 G1 C8]] (λw L=>Ro w L H4 [.slice a_log m_log c_log] log∧I64 r5∧Ro w L eIs [.slice C9 G1 C8] s8) (a2k log (r5,s8)):=by
 refine Ti2 Tryz.func86 18 Z λw L hR=>?_
 obtain ⟨hlog,P2,D9⟩:=hR
 obtain ⟨rfl,llog⟩:=hlog.slen
 obtain ⟨rfl,Y5⟩:=D9.slen
 refine Ew Z2<|Est Z (N.box (cs:=[_,_]) Z dc Z)<|λb3 _=>Ei Z<|Eu<|Eq_<|Ew Z1<|Ei Z<|Eu<|E.block<|Lo (κ:=Nat) (λg=>g≤log.length∧a2k log (r5,s8)=a2k (log.drop g) (r5,s8)) (λg=>[(0,.slice a_log log.length c_log),(3,.pointer<|some ⟨b3,0,none⟩),(5,.int .i64 (g:Int))]) (λg=>[pt b3 105 [.int .i64 r5,.slice C9 s8.length C8]]) (λg=>log.length-g) 0 ⟨Nat.zero_le _,by simp⟩<|λg pg=>?_
 obtain ⟨pk,pa⟩:=pg
 refine Eq_<|Ew Z4<|Em Z<|Em Z<|Yln us_Accesss Z<|Ylt Z<|l3 (λq9=>?_)<|λq9=>?_
 ·refine Eu<|Ct<|Eq_<|E.block<|Eq_<|D.region (λj=>true) mixed<|Dm 0 Z<|Dm 1 Z ?_
  obtain ⟨eb14,eo14,ec14,ea14,er14,el14,eh14⟩:=hlog.elem g om
  obtain ⟨xa14_0,xc14_0,rfl,ei14_0,xh14_0⟩:=a1Z er14
  have:=xh14_0.slen.2
  refine Dyp 2 Z (y6 us_Accesss ty_Access Z ea14 Z g Z om)<|Dy 3 Z (l4 (cs:=[_,_]) ty_Access Z (eh14 _) Z)<|Dy 4 Z (l4 (cs:=[_,_]) ty_Access Z (Has.pt m0) Z)<|D0 5 Z b3A Z (λhA=>⟨ei14_0,hA.ro xh14_0,P2,hA.ro D9⟩)<|Ent.b (λq17=>?_)<|λq17=>?_
  ·refine o4 kr<|Et<|r9 Z<|Ew Z1<|Ei Z<|Eu<|E.ret<|v7<|a5h<|a5h<|v7<|a5h<|Fb Z Z (by grind[a2k,d1,d2,t1,t2])
  ·refine o4 kr<|Et<|r8 Z<|v6<|o6<|Et<|Ez Z3<|Em Z<|Yad Z om om<|Ei Z ?_
   exact Eu<|u7 br (g+1) rs (.refl _) ⟨by omega,by grind[a2k,d1,d2,t1,t2]⟩ om
 ·refine Eu<|r8 Z<|E.exit<|l2<|l2<|u4<|Et<|Ew Z1<|Ei Z<|Eu<|E.ret<|Fb Z Z (by grind[a2k,d1,d2,t1,t2])
end Go.Proofs.YthapcdhdfaibkaaGreatDoor
