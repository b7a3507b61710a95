import Derived.Test.YthapcdhdfaibkaaGreatDoorT6
namespace Go.Proofs.YthapcdhdfaibkaaGreatDoor
open Go.RowKit
set_option linter.all false
set_option maxHeartbeats 2000000
attribute [local irreducible] Nop Yd Yp Ent Has Tr FnP FnP2 Src
variable {x l6 a4E r5 a3W:Int} {s1 s2 s8 i8:List Int} {m_s1 c_s1 m_s2 c_s2 G1 C8 C1 w9:Nat} {a_s1 a_s2 C9 w8:Option Addr}
theorem a5z:TB Tryz.prog 337 [.int .i64 x] (λw L=>True) (false):=by
 refine Ti1 Tryz.func337 6 Z λw L hR=>Ew Z1<|Ei Z<|Ev Z4<|Em Z<|Em Z<|Ey Z ((Y.neq Z Z).yd)<|Ei Z<|Eu<|E.ret<|Fb Z Z (by simp)
theorem a4w {y:Int}:Tr Tryz.prog 266 [.int .i64 x,.int .i64 y] (λw L=>True) [] (κ:=Unit) (λk=>True) (λk=>.int .i64 (S2 x y)) (λk=>[]):=by
 refine Ti2 Tryz.func266 20 Z λw L hR=>Ew Z1<|Ei Z<|Ev Z3<|Em Z<|E0 Z a5z Z (λ_=>trivial)<|Ei Z<|Ev Z3<|Em Z<|E0 Z a5z Z (λ_=>trivial)<|Ei Z<|Eu<|Eq_<|Ew Z1<|Em Z<|Eu<|Cf<|Eq_<|Ew Z1<|Em Z<|Eu<|Cf<|Eq_<|Ew Z3<|Em Z<|Em Z<|Ylt Z<|l3 (λq16=>?_)<|λq16=>?_
 ·refine Eu<|r9 Z<|Ew Z1<|Ei Z<|Eu<|E.ret<|a5h<|Fg Z Z () (congrArg (Value.int .i64) (by grind[S2,d1,d2,t1,t2])) Z
 ·refine Eu<|Cf<|Eq_<|Ew Z3<|Em Z<|Em Z<|Ey Z ((Y.gtr Z Z).yd)<|l3 (λq19=>?_)<|λq19=>?_
  ·refine Eu<|r9 Z<|Ew Z1<|Ei Z<|Eu<|E.ret<|a5h<|Fg Z Z () (congrArg (Value.int .i64) (by grind[S2,d1,d2,t1,t2])) Z
  ·refine Eu<|Cf<|Ew Z1<|Ei Z<|Eu<|E.ret<|Fg Z Z () (congrArg (Value.int .i64) (by grind[S2,d1,d2,t1,t2])) Z
theorem b4K {a_vals:Option Addr} {m_vals c_vals:Nat} {a3a:List Int}:Tr Tryz.prog 265 [.slice a_vals m_vals c_vals] (λw L=>Ro w L eIs [.slice a_vals m_vals c_vals] a3a) [] (κ:=Unit) (λk=>True) (λk=>.int .i64 (orI a3a)) (λk=>[]):=by
 refine Ti1 Tryz.func265 18 Z λw L hR=>?_
 have hvals:=hR
 obtain ⟨rfl,lvals⟩:=hvals.slen
 refine Ew Z1<|Ei Z<|Ev Z1<|Ei Z<|Eu<|Eq_<|Ew Z3<|Em Z<|Yln us_Is Z<|Em Z<|Eu<|E.block<|Lo (κ:=Nat) (λg=>g≤a3a.length∧orI a3a=orI (a3a.drop g)) (λg=>[(3,.int .i64 0),(6,.slice a_vals a3a.length c_vals),(7,.int .i64 (↑a3a.length:Int)),(8,.int .i64 (g:Int))]) (λg=>[]) (λg=>a3a.length-g) 0 ⟨Nat.zero_le _,by simp⟩<|λg pg=>?_
 obtain ⟨pk,pa⟩:=pg
 refine Ew Z1<|Ylt Z<|l3 (λq9=>?_)<|λq9=>?_
 ·obtain ⟨eb10,eo10,ea10,ei10,eh10⟩:=hvals.elemI g om
  refine Eu<|Eq_<|Ct<|Eq_<|E.block<|Ew Z3<|Il us_Is j8 Z ea10 g Z om Z (eh10 _)<|Ei Z<|Ev Z3<|Em Z<|Em Z<|Ey Z ((Y.neq Z Z).yd)<|l3 (λq14=>?_)<|λq14=>?_
  ·refine Eu<|r9 Z<|Ew Z2<|Em Z<|Ei Z<|Eu<|E.ret<|v7<|a5h<|a5h<|v7<|a5h<|Fg Z Z () (congrArg (Value.int .i64) (by grind[orI,d1,d2,t1,t2])) Z
  ·refine Eu<|r8 Z<|v6<|o6<|Et<|Ez Z2<|Yad Z om om<|Em Z ?_
   exact Eu<|u7 br (g+1) rs (.refl _) ⟨by omega,by grind[orI,d1,d2,t1,t2]⟩ om
 ·refine Eu<|Eq_<|r8 Z<|E.exit<|l2<|l2<|u4<|Et<|Ew Z2<|Em Z<|Ei Z<|Eu<|E.ret<|Fg Z Z () (congrArg (Value.int .i64) (by grind[orI,d1,d2,t1,t2])) Z
theorem a2w:Tr Tryz.prog 267 [.slice a_s1 m_s1 c_s1,.slice a_s2 m_s2 c_s2] (λw L=>Ro w L eIs [.slice a_s1 m_s1 c_s1] s1∧Ro w L eIs [.slice a_s2 m_s2 c_s2] s2) [] (κ:=Unit) (λk=>True) (λk=>.int .i64 (I7 s1 s2)) (λk=>[]):=by
 refine Ti2 Tryz.func267 36 Z λw L hR=>?_
 obtain ⟨hs1,hs2⟩:=hR
 obtain ⟨rfl,ls1⟩:=hs1.slen
 obtain ⟨rfl,ls2⟩:=hs2.slen
 refine Ew Z1<|Ei Z<|Eu<|Eq_<|Ew Z3<|Em Z<|Yln us_Is Z<|Em Z<|Eu<|E.block<|Lo (κ:=Nat) (λg=>g≤s1.length∧I7 s1 s2=I7 (s1.drop g) (s2.drop g)) (λg=>[(0,.slice a_s1 s1.length c_s1),(1,.slice a_s2 s2.length c_s2),(9,.slice a_s1 s1.length c_s1),(10,.int .i64 (↑s1.length:Int)),(11,.int .i64 (g:Int))]) (λg=>[]) (λg=>s1.length-g) 0 ⟨Nat.zero_le _,by simp⟩<|λg pg=>?_
 obtain ⟨pk,pa⟩:=pg
 refine Ew Z1<|Ylt Z<|l3 (λq12=>?_)<|λq12=>?_
 ·refine Eu<|Eq_<|Ct<|Eq_<|E.block<|Ew Z5<|Em Z ?_
  obtain ⟨eb14,eo14,ea14,ei14,eh14⟩:=hs1.elemI g om
  refine Il us_Is j8 Z ea14 g Z om Z (eh14 _)<|Ei Z<|Ei Z<|Eu<|Eq_<|Ew Z4<|Em Z<|Em Z<|Yln us_Is Z<|Ey Z ((Y.geq Z Z).yd)<|l3 (λq19=>?_)<|λq19=>?_
  ·refine Eu<|r9 Z<|Ew Z1<|Ei Z<|Eu<|E.ret<|a5h<|v7<|a5h<|a5h<|v7<|a5h<|Fg Z Z () (congrArg (Value.int .i64) (by grind[I7,d1,d2,t1,t2])) Z
  ·refine Eu<|Cf<|Ew Z5<|Em Z<|Em Z ?_
   obtain ⟨eb22,eo22,ea22,ei22,eh22⟩:=hs2.elemI g om
   refine Il us_Is j8 Z ea22 g Z om Z (eh22 _)<|Ei Z<|Ev Z4<|Em Z<|Em Z<|E0 Z a4w Z (λ_=>trivial)<|Ei Z<|Ev Z2<|Em Z<|Ey Z ((Y.neq Z Z).yd)<|l3 (λq28=>?_)<|λq28=>?_
   ·refine Eu<|r9 Z<|Ew Z2<|Em Z<|Ei Z<|Eu<|E.ret<|v7<|a5h<|a5h<|v7<|a5h<|Fg Z Z () (congrArg (Value.int .i64) (by grind[I7,d1,d2,t1,t2])) Z
   ·refine Eu<|r8 Z<|v6<|o6<|Et<|Ez Z2<|Yad Z om om<|Em Z ?_
    exact Eu<|u7 br (g+1) rs (.refl _) ⟨by omega,by grind[I7,d1,d2,t1,t2]⟩ om
 ·refine Eu<|Eq_<|r8 Z<|E.exit<|l2<|l2<|u4<|Et<|Eq_<|Ew Z5<|Em Z<|Yln us_Is Z<|Em Z<|Yln us_Is Z<|Ylt Z<|l3 (λq35=>?_)<|λq35=>?_
  ·refine Eu<|r9 Z<|Ew Z1<|Ei Z<|Eu<|E.ret<|a5h<|Fg Z Z () (congrArg (Value.int .i64) (by grind[I7,d1,d2,t1,t2])) Z
  ·refine Eu<|Cf<|Ew Z1<|Ei Z<|Eu<|E.ret<|Fg Z Z () (congrArg (Value.int .i64) (by grind[I7,d1,d2,t1,t2])) Z
theorem a2l:Tr Tryz.prog 163 [.agg #[.int .i64 l6,.slice C9 G1 C8],.agg #[.int .i64 a4E,.slice w8 C1 w9]] (λw L=>I64 l6∧Ro w L eIs [.slice C9 G1 C8] s8∧I64 a4E∧Ro w L eIs [.slice w8 C1 w9] i8) [] (κ:=Unit) (λk=>True) (λk=>.int .i64 (R3 (l6,s8) (a4E,i8))) (λk=>[]):=by
 refine Ti2 Tryz.func163 17 Z λw L hR=>?_
 obtain ⟨M0,D9,c2B,y4⟩:=hR
 obtain ⟨rfl,Y5⟩:=D9.slen
 obtain ⟨rfl,R0⟩:=y4.slen
 refine Ew Z3<|Est Z (N.box (cs:=[_,_]) Z dc Z)<|λb2 _=>Est Z (N.box (cs:=[_,_]) Z dc Z)<|λb3 _=>Ei Z<|Eu<|Eq_<|D.region (λj=>true) mixed<|Df 0 1 fo_Fact_0 j8 Z (Hz (mS m0) 0 Z)<|Df 2 3 fo_Fact_0 j8 Z (Hz m0 0 Z)<|Df 5 6 fo_Fact_1 ty_Is Z (Hz (mS m0) 1 Z)<|Df 7 8 fo_Fact_1 ty_Is Z (Hz m0 1 Z) ?_
 have j1:= @b4A l6 a4E
 refine D0 4 Z a4w Z (λ_=>trivial) ?_
 have j2:= @b4y s8 i8
 refine D0 9 Z a2w Z (λhA=>⟨hA.ro D9,hA.ro y4⟩)<|w6 10 Z Z kr (λ_=>rfl) (Nb [_,_] [_,_] us_Is j8 Z Z)<|λb15 _=>m8 (A:=[_]) (Own.ints (e:=tI) (xs:=[S2 l6 a4E,I7 s8 i8]) Z (by simp[maxLen]) (by simp only[List.forall_mem_cons];exact ⟨i6,i6,List.forall_mem_nil _⟩)) Z<|D0 11 Z b4K Z (λhA=>hA.ow m0)<|Dyp 12 Z (E5 Z)<|o4 kr<|Et<|E.ret<|Fg Z Z () (congrArg (Value.int .i64) (by grind[R3,orI,d1,d2,t1,t2])) Z
theorem a0W:Tr Tryz.prog 102 [.agg #[.int .i64 l6,.slice C9 G1 C8],.agg #[.int .i64 a4E,.slice w8 C1 w9]] (λw L=>I64 l6∧Ro w L eIs [.slice C9 G1 C8] s8∧I64 a4E∧Ro w L eIs [.slice w8 C1 w9] i8) [] (κ:=Unit) (λk=>True) (λk=>.int .i64 (R3 (l6,s8) (a4E,i8))) (λk=>[]):=by
 refine Ti2 Tryz.func102 66 Z λw L hR=>?_
 obtain ⟨M0,D9,c2B,y4⟩:=hR
 obtain ⟨rfl,Y5⟩:=D9.slen
 obtain ⟨rfl,R0⟩:=y4.slen
 refine Ew Z3<|Est Z (N.box (cs:=[_,_]) Z dc Z)<|λb2 _=>Est Z (N.box (cs:=[_,_]) Z dc Z)<|λb3 _=>Ei Z<|Eu<|Eq_<|Ew Z5<|Lz fo_Fact_0 j8 Z (mS m0) Z<|Lz fo_Fact_0 j8 Z m0 Z<|Ey Z ((Y.neq Z Z).yd)<|l3 (λq10=>?_)<|λq10=>?_
 ·refine Eu<|r9 Z<|Eq_<|Ew Z5<|Lz fo_Fact_0 j8 Z (mS m0) Z<|Lz fo_Fact_0 j8 Z m0 Z<|Ylt Z<|l3 (λq15=>?_)<|λq15=>?_
  ·refine Eu<|r9 Z<|Ew Z1<|Ei Z<|Eu<|E.ret<|a5h<|a5h<|Fg Z Z () (congrArg (Value.int .i64) (by grind[R3,S2,I7,d1,d2,t1,t2])) Z
  ·refine Eu<|Cf<|Ew Z1<|Ei Z<|Eu<|E.ret<|a5h<|Fg Z Z () (congrArg (Value.int .i64) (by grind[R3,S2,I7,d1,d2,t1,t2])) Z
 ·refine Eu<|Cf<|Eq_<|Ew Z1<|Ei Z<|Eu<|E.block<|Lo (κ:=Nat) (λg=>g≤s8.length∧g≤i8.length∧I7 s8 i8=I7 (s8.drop g) (i8.drop g)) (λg=>[(2,.pointer<|some ⟨b2,0,none⟩),(3,.pointer<|some ⟨b3,0,none⟩),(5,.int .i64 (g:Int))]) (λg=>[pt b3 85 [.int .i64 a4E,.slice w8 i8.length w9],pt b2 85 [.int .i64 l6,.slice C9 s8.length C8]]) (λg=>s8.length-g) 0 ⟨Nat.zero_le _,by simp⟩<|λg pg=>?_
  obtain ⟨pk,pa⟩:=pg
  refine Eq_<|Ew Z12<|Em Z<|Lz fo_Fact_1 ty_Is Z (mS m0) Z<|Yln us_Is Z<|Ylt Z<|l3 (λq20=>?_)<|λq20=>?_
  ·refine Em Z<|Em Z<|Lz fo_Fact_1 ty_Is Z m0 Z<|Yln us_Is Z<|Ylt Z<|l3 (λq26=>?_)<|λq26=>?_
   ·refine Ypt Z<|Eu<|Ct<|Eq_<|E.block<|Eq_<|Eq_<|D.region (λj=>true) mixed<|Df 0 1 fo_Fact_1 ty_Is Z (Hz (mS m0) 1 Z)<|Dm 2 Z ?_
    obtain ⟨eb33,eo33,ea33,ei33,eh33⟩:=D9.elemI g om
    refine Dyp 3 Z (y6 us_Is j8 Z ea33 Z g Z om)<|Dy 4 Z (z7 j8 Z (eh33 _) Z)<|Df 5 6 fo_Fact_1 ty_Is Z (Hz m0 1 Z)<|Dm 7 Z ?_
    obtain ⟨eb38,eo38,ea38,ei38,eh38⟩:=y4.elemI g om
    refine Dyp 8 Z (y6 us_Is j8 Z ea38 Z g Z om)<|Dy 9 Z (z7 j8 Z (eh38 _) Z)<|Dyp 10 Z (Y.lss Z Z)<|l3 (λq40=>?_)<|λq40=>?_
    ·refine o4 kr<|Et<|r9 Z<|Ew Z1<|Ei Z<|Eu<|E.ret<|a5h<|v7<|a5h<|a5h<|v7<|a5h<|Fg Z Z () (congrArg (Value.int .i64) (by grind[R3,S2,I7,d1,d2,t1,t2])) Z
    ·refine o4 kr<|Et<|Cf<|Eq_<|D.region (λj=>true) mixed<|Df 0 1 fo_Fact_1 ty_Is Z (Hz (mS m0) 1 Z)<|Dm 2 Z<|Dyp 3 Z (y6 us_Is j8 Z ea33 Z g Z om)<|Dy 4 Z (z7 j8 Z (eh33 _) Z)<|Df 5 6 fo_Fact_1 ty_Is Z (Hz m0 1 Z)<|Dm 7 Z<|Dyp 8 Z (y6 us_Is j8 Z ea38 Z g Z om)<|Dy 9 Z (z7 j8 Z (eh38 _) Z)<|Dyp 10 Z (Y.gtr Z Z)<|l3 (λq51=>?_)<|λq51=>?_
     ·refine o4 kr<|Et<|r9 Z<|Ew Z1<|Ei Z<|Eu<|E.ret<|v7<|a5h<|a5h<|v7<|a5h<|Fg Z Z () (congrArg (Value.int .i64) (by grind[R3,S2,I7,d1,d2,t1,t2])) Z
     ·refine o4 kr<|Et<|r8 Z<|v6<|o6<|Et<|Ez Z3<|Em Z<|Yad Z om om<|Ei Z<|Eu<|d8<|d8 ?_
      exact u7 br (g+1) rs (.refl _) ⟨by omega,by grind[I7,S2,d1,d2,t1,t2]⟩ om
   ·refine Ypt Z<|Eu<|r8 Z<|E.exit<|l2<|l2<|u4<|Et<|Eq_<|Ew Z7<|Lz fo_Fact_1 ty_Is Z (mS m0) Z<|Yln us_Is Z<|Lz fo_Fact_1 ty_Is Z m0 Z<|Yln us_Is Z<|Ylt Z<|l3 (λq58=>?_)<|λq58=>?_
    ·refine Eu<|r9 Z<|Ew Z1<|Ei Z<|Eu<|E.ret<|a5h<|Fg Z Z () (congrArg (Value.int .i64) (by grind[R3,S2,I7,d1,d2,t1,t2])) Z
    ·refine Eu<|Cf<|Eq_<|Ew Z7<|Lz fo_Fact_1 ty_Is Z (mS m0) Z<|Yln us_Is Z<|Lz fo_Fact_1 ty_Is Z m0 Z<|Yln us_Is Z<|Ey Z ((Y.gtr Z Z).yd)<|l3 (λq65=>?_)<|λq65=>?_
     ·refine Eu<|r9 Z<|Ew Z1<|Ei Z<|Eu<|E.ret<|a5h<|Fg Z Z () (congrArg (Value.int .i64) (by grind[R3,S2,I7,d1,d2,t1,t2])) Z
     ·refine Eu<|Cf<|Ew Z1<|Ei Z<|Eu<|E.ret<|Fg Z Z () (congrArg (Value.int .i64) (by grind[R3,S2,I7,d1,d2,t1,t2])) Z
  ·refine Em Z<|Es Z<|Es Z<|Es Z<|Es Z<|Es Z<|Ypf Z<|Eu<|r8 Z<|E.exit<|l2<|l2<|u4<|Et<|Eq_<|Ew Z7<|Lz fo_Fact_1 ty_Is Z (mS m0) Z<|Yln us_Is Z<|Lz fo_Fact_1 ty_Is Z m0 Z<|Yln us_Is Z<|Ylt Z<|l3 (λq58=>?_)<|λq58=>?_
   ·refine Eu<|r9 Z<|Ew Z1<|Ei Z<|Eu<|E.ret<|a5h<|Fg Z Z () (congrArg (Value.int .i64) (by grind[R3,S2,I7,d1,d2,t1,t2])) Z
   ·refine Eu<|Cf<|Eq_<|Ew Z7<|Lz fo_Fact_1 ty_Is Z (mS m0) Z<|Yln us_Is Z<|Lz fo_Fact_1 ty_Is Z m0 Z<|Yln us_Is Z<|Ey Z ((Y.gtr Z Z).yd)<|l3 (λq65=>?_)<|λq65=>?_
    ·refine Eu<|r9 Z<|Ew Z1<|Ei Z<|Eu<|E.ret<|a5h<|Fg Z Z () (congrArg (Value.int .i64) (by grind[R3,S2,I7,d1,d2,t1,t2])) Z
    ·refine Eu<|Cf<|Ew Z1<|Ei Z<|Eu<|E.ret<|Fg Z Z () (congrArg (Value.int .i64) (by grind[R3,S2,I7,d1,d2,t1,t2])) Z
theorem a1v:TB Tryz.prog 226 [.slice a_s1 m_s1 c_s1,.slice a_s2 m_s2 c_s2] (λw L=>Ro w L eIs [.slice a_s1 m_s1 c_s1] s1∧Ro w L eIs [.slice a_s2 m_s2 c_s2] s2) (decide (s1=s2)):=by
 refine Ti2 Tryz.func226 26 Z λw L hR=>?_
 obtain ⟨hs1,hs2⟩:=hR
 obtain ⟨rfl,ls1⟩:=hs1.slen
 obtain ⟨rfl,ls2⟩:=hs2.slen
 refine Ew Z1<|Ei Z<|Eu<|Eq_<|Ew Z5<|Em Z<|Yln us_Is Z<|Em Z<|Yln us_Is Z<|Ey Z ((Y.neq Z Z).yd)<|l3 (λq10=>?_)<|λq10=>?_
 ·refine Eu<|r9 Z<|Ew Z1<|Ei Z<|Eu<|E.ret<|a5h<|Fb Z Z (by grind[d1,d2,t1,t2])
 ·refine Eu<|Cf<|Eq_<|Ew Z3<|Em Z<|Yln us_Is Z<|Em Z<|Eu<|E.block<|Lo (κ:=Nat) (λg=>g≤s1.length∧s1.length=s2.length∧(s1=s2↔s1.drop g=s2.drop g)) (λg=>[(0,.slice a_s1 s1.length c_s1),(1,.slice a_s2 s2.length c_s2),(12,.int .i64 (↑s1.length:Int)),(13,.int .i64 (g:Int))]) (λg=>[]) (λg=>s1.length-g) 0 ⟨Nat.zero_le _,by exact ⟨by omega,by simp⟩⟩<|λg pg=>?_
  obtain ⟨pk,pa⟩:=pg
  refine Ew Z1<|Ylt Z<|l3 (λq14=>?_)<|λq14=>?_
  ·refine Eu<|Eq_<|Ct<|Eq_<|E.block<|Ew Z2<|Em Z<|Ei Z<|Eu<|Eq_<|D.region (λj=>true) mixed<|Dm 0 Z<|Dm 1 Z ?_
   obtain ⟨eb18,eo18,ea18,ei18,eh18⟩:=hs1.elemI g om
   refine Dyp 2 Z (y6 us_Is j8 Z ea18 Z g Z om)<|Dy 3 Z (z7 j8 Z (eh18 _) Z)<|Dm 4 Z<|Dm 5 Z ?_
   obtain ⟨eb22,eo22,ea22,ei22,eh22⟩:=hs2.elemI g om
   refine Dyp 6 Z (y6 us_Is j8 Z ea22 Z g Z om)<|Dy 7 Z (z7 j8 Z (eh22 _) Z)<|Dyp 8 Z (Y.neq Z Z)<|l3 (λq24=>?_)<|λq24=>?_
   ·refine o4 kr<|Et<|r9 Z<|Ew Z1<|Ei Z<|Eu<|E.ret<|v7<|a5h<|a5h<|v7<|a5h<|Fb Z Z (by grind[d1,d2,t1,t2])
   ·refine o4 kr<|Et<|r8 Z<|v6<|o6<|Et<|Ez Z2<|Yad Z om om<|Em Z ?_
    exact Eu<|u7 br (g+1) rs (.refl _) ⟨by omega,by grind[d1,d2,t1,t2]⟩ om
  ·refine Eu<|Eq_<|r8 Z<|E.exit<|l2<|l2<|u4<|Et<|Ew Z1<|Ei Z<|Eu<|E.ret<|Fb Z Z (by grind[d1,d2,t1,t2])
theorem a2b {a_a:Option Addr} {m_a c_a:Nat} {a:List Int} {a_b:Option Addr} {m_b c_b:Nat} {b:List Int}:TB Tryz.prog 93 [.slice a_a m_a c_a,.slice a_b m_b c_b] (λw L=>Ro w L eIs [.slice a_a m_a c_a] a∧Ro w L eIs [.slice a_b m_b c_b] b) (decide (a=b)):=by
 refine Ti2 Tryz.func93 26 Z λw L hR=>?_
 obtain ⟨ha,hb⟩:=hR
 obtain ⟨rfl,la⟩:=ha.slen
 obtain ⟨rfl,lb⟩:=hb.slen
 refine Ew Z1<|Ei Z<|Eu<|Eq_<|Ew Z5<|Em Z<|Yln us_Is Z<|Em Z<|Yln us_Is Z<|Ey Z ((Y.neq Z Z).yd)<|l3 (λq10=>?_)<|λq10=>?_
 ·refine Eu<|r9 Z<|Ew Z1<|Ei Z<|Eu<|E.ret<|a5h<|Fb Z Z (by grind[d1,d2,t1,t2])
 ·refine Eu<|Cf<|Eq_<|Ew Z1<|Ei Z<|Eu<|E.block<|Lo (κ:=Nat) (λg=>g≤a.length∧a.length=b.length∧(a=b↔a.drop g=b.drop g)) (λg=>[(0,.slice a_a a.length c_a),(1,.slice a_b b.length c_b),(5,.int .i64 (g:Int))]) (λg=>[]) (λg=>a.length-g) 0 ⟨Nat.zero_le _,by exact ⟨by omega,by simp⟩⟩<|λg pg=>?_
  obtain ⟨pk,pa⟩:=pg
  refine Eq_<|Ew Z4<|Em Z<|Em Z<|Yln us_Is Z<|Ylt Z<|l3 (λq14=>?_)<|λq14=>?_
  ·refine Eu<|Ct<|Eq_<|E.block<|Eq_<|D.region (λj=>true) mixed<|Dm 0 Z<|Dm 1 Z ?_
   obtain ⟨eb19,eo19,ea19,ei19,eh19⟩:=ha.elemI g om
   refine Dyp 2 Z (y6 us_Is j8 Z ea19 Z g Z om)<|Dy 3 Z (z7 j8 Z (eh19 _) Z)<|Dm 4 Z<|Dm 5 Z ?_
   obtain ⟨eb23,eo23,ea23,ei23,eh23⟩:=hb.elemI g om
   refine Dyp 6 Z (y6 us_Is j8 Z ea23 Z g Z om)<|Dy 7 Z (z7 j8 Z (eh23 _) Z)<|Dyp 8 Z (Y.neq Z Z)<|l3 (λq25=>?_)<|λq25=>?_
   ·refine o4 kr<|Et<|r9 Z<|Ew Z1<|Ei Z<|Eu<|E.ret<|v7<|a5h<|a5h<|v7<|a5h<|Fb Z Z (by grind[d1,d2,t1,t2])
   ·refine o4 kr<|Et<|r8 Z<|v6<|o6<|Et<|Ez Z3<|Em Z<|Yad Z om om<|Ei Z ?_
    exact Eu<|u7 br (g+1) rs (.refl _) ⟨by omega,by grind[d1,d2,t1,t2]⟩ om
  ·refine Eu<|r8 Z<|E.exit<|l2<|l2<|u4<|Et<|Ew Z1<|Ei Z<|Eu<|E.ret<|Fb Z Z (by grind[d1,d2,t1,t2])
theorem a9f:TB Tryz.prog 198 [.agg #[.int .i64 r5,.slice C9 G1 C8],.agg #[.int .i64 a3W,.slice w8 C1 w9]] (λw L=>(I64 r5∧Ro w L eIs [.slice C9 G1 C8] s8∧I64 a3W∧Ro w L eIs [.slice w8 C1 w9] i8)∧True) (decide ((r5,s8)=(a3W,i8))):=by
 refine Ti2 Tryz.func198 17 Z λw L hR=>?_
 obtain ⟨⟨P2,D9,b7I,y4⟩,_⟩:=hR
 obtain ⟨rfl,Y5⟩:=D9.slen
 obtain ⟨rfl,R0⟩:=y4.slen
 refine Ew Z3<|Est Z (N.box (cs:=[_,_]) Z dc Z)<|λb2 _=>Est Z (N.box (cs:=[_,_]) Z dc Z)<|λb3 _=>Ei Z<|Ev Z13<|Lz fo_Access_0 j8 Z (mS m0) Z<|Lz fo_Access_0 j8 Z m0 Z<|Yeq Z<|l3 (λq9=>?_)<|λq9=>?_
 ·refine Em Z<|Lz fo_Access_1 ty_Is Z (mS m0) Z<|Lz fo_Access_1 ty_Is Z m0 Z<|E0 Z a1v Z (λhA=>⟨hA.ro D9,hA.ro y4⟩)<|Ypt Z<|Ei Z<|Eu<|E.ret<|Fb Z Z (by grind[d1,d2,t1,t2])
 ·refine Em Z<|Es Z<|Es Z<|Es Z<|Es Z<|Es Z<|Ypf Z<|Ei Z<|Eu<|E.ret<|Fb Z Z (by grind[d1,d2,t1,t2])
theorem b3A:TB Tryz.prog 94 [.agg #[.int .i64 r5,.slice C9 G1 C8],.agg #[.int .i64 a3W,.slice w8 C1 w9]] (λw L=>I64 r5∧Ro w L eIs [.slice C9 G1 C8] s8∧I64 a3W∧Ro w L eIs [.slice w8 C1 w9] i8) (decide ((r5,s8)=(a3W,i8))):=by
 refine Ti2 Tryz.func94 17 Z λw L hR=>?_
 obtain ⟨P2,D9,b7I,y4⟩:=hR
 obtain ⟨rfl,Y5⟩:=D9.slen
 obtain ⟨rfl,R0⟩:=y4.slen
 refine Ew Z3<|Est Z (N.box (cs:=[_,_]) Z dc Z)<|λb2 _=>Est Z (N.box (cs:=[_,_]) Z dc Z)<|λb3 _=>Ei Z<|Ev Z13<|Lz fo_Access_0 j8 Z (mS m0) Z<|Lz fo_Access_0 j8 Z m0 Z<|Yeq Z<|l3 (λq9=>?_)<|λq9=>?_
 ·refine Em Z<|Lz fo_Access_1 ty_Is Z (mS m0) Z<|Lz fo_Access_1 ty_Is Z m0 Z<|E0 Z a2b Z (λhA=>⟨hA.ro D9,hA.ro y4⟩)<|Ypt Z<|Ei Z<|Eu<|E.ret<|Fb Z Z (by grind[d1,d2,t1,t2])
 ·refine Em Z<|Es Z<|Es Z<|Es Z<|Es Z<|Es Z<|Ypf Z<|Ei Z<|Eu<|E.ret<|Fb Z Z (by grind[d1,d2,t1,t2])
end Go.Proofs.YthapcdhdfaibkaaGreatDoor
