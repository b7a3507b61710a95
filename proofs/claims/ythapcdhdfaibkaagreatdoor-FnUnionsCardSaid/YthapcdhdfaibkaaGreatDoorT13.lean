import Derived.Test.YthapcdhdfaibkaaGreatDoorT8
import Derived.Test.YthapcdhdfaibkaaGreatDoorT20
section
namespace Go.Proofs.YthapcdhdfaibkaaGreatDoor
open Go.RowKit
set_option linter.all false
set_option maxHeartbeats 2000000
attribute [local irreducible] Nop Yd Yp Ent Has Tr FnP FnP2 Src
variable {o3:Int} {l:List IL} {i7:List Int} {G6 C3 m_l c_l:Nat} {C4 a_l:Option Addr}
theorem a9R {a6Z:Int} {a1p:Option Addr} {a1q a1r:Nat} {a2C:List Int} {b_f:Nat}:TB Tryz.prog 200 [.agg #[.int .i64 a6Z,.slice a1p a1q a1r],.pointer (some ⟨b_f,0,none⟩)] (λw L=>(I64 a6Z∧Ro w L eIs [.slice a1p a1q a1r] a2C)∧RoPt w L b_f [.int .i64 o3,.slice C4 G6 C3]∧I64 o3∧Ro w L eIs [.slice C4 G6 C3] i7) (decide (R3 (a6Z,a2C) (o3,i7)=0)):=by
 refine Ti2 Tryz.func200 8 Z λw L hR=>?_
 obtain ⟨⟨b2j,a1S⟩,hb_f,L4,z8⟩:=hR
 obtain ⟨rfl,b3g⟩:=a1S.slen
 obtain ⟨rfl,Y6⟩:=z8.slen
 refine Ew Z2<|Est Z (N.box (cs:=[_,_]) Z dc Z)<|λb2 _=>Ei Z<|Ev Z5<|Ey Z (l4 (cs:=[_,_]) ty_Fact Z (Has.pt m0) Z)<|Ey Z (l4 (cs:=[_,_]) ty_Fact Z (hb_f.has) Z)<|E0 Z a2l Z (λhA=>⟨b2j,hA.ro a1S,L4,hA.ro z8⟩)<|Yeq Z<|Ei Z<|Eu<|E.ret<|Fg Z Z () Z Z
theorem b1J:TB Tryz.prog 78 [.slice a_l m_l c_l,.agg #[.int .i64 o3,.slice C4 G6 C3]] (λw L=>Ro w L t7 [.slice a_l m_l c_l] l∧I64 o3∧Ro w L eIs [.slice C4 G6 C3] i7) (O5 l (o3,i7)):=by
 refine Ti2 Tryz.func78 8 Z λw L hR=>?_
 obtain ⟨hl,L4,z8⟩:=hR
 obtain ⟨rfl,ll⟩:=hl.slen
 obtain ⟨rfl,Y6⟩:=z8.slen
 refine Ew Z2<|Est Z (N.box (cs:=[_,_]) Z dc Z)<|λb3 _=>Ei Z<|Ev Z4<|Em Z<|Ey Z ((Y.fn (vs:=[_]) Z).yd)<|E0 Z (a7r (f:=(λz=>decide (R3 z (o3,i7)=0))) (D_f:=(λ_=>True)) (by intros;exact trivial)) Z (λhA=>⟨hA.ro hl,a7c (D:=(λ_=>True)) (λhd=>a9R)<|λw' hk=>⟨(hA.pt m0).keep hk,L4,(hA.ro z8).keep hk⟩⟩)<|Ei Z<|Eu<|E.ret<|Fb Z Z (by rfl)
theorem b1L:TB Tryz.prog 63 [.slice a_l m_l c_l,.agg #[.int .i64 o3,.slice C4 G6 C3]] (λw L=>Ro w L t7 [.slice a_l m_l c_l] l∧I64 o3∧Ro w L eIs [.slice C4 G6 C3] i7) (O5 l (o3,i7)):=by
 refine Ti2 Tryz.func63 19 Z λw L hR=>?_
 obtain ⟨hl,L4,z8⟩:=hR
 obtain ⟨rfl,ll⟩:=hl.slen
 obtain ⟨rfl,Y6⟩:=z8.slen
 refine Ew Z2<|Est Z (N.box (cs:=[_,_]) Z dc Z)<|λb3 _=>Ei Z<|Eu<|Eq_<|Ew Z1<|Ei Z<|Eu<|E.block<|Lo (κ:=Nat) (λg=>g≤l.length∧O5 l (o3,i7)=O5 (l.drop g) (o3,i7)) (λg=>[(0,.slice a_l l.length c_l),(3,.pointer<|some ⟨b3,0,none⟩),(5,.int .i64 (g:Int))]) (λg=>[pt b3 85 [.int .i64 o3,.slice C4 i7.length C3]]) (λg=>l.length-g) 0 ⟨Nat.zero_le _,by simp⟩<|λg pg=>?_
 obtain ⟨pk,pa⟩:=pg
 refine Eq_<|Ew Z4<|Em Z<|Em Z<|Yln us_Facts Z<|Ylt Z<|l3 (λq9=>?_)<|λq9=>?_
 ·refine Eu<|Ct<|Eq_<|E.block<|Eq_<|D.region (λj=>true) mixed<|Dm 0 Z<|Dm 1 Z ?_
  obtain ⟨eb14,eo14,ec14,ea14,er14,el14,eh14⟩:=hl.elem g om
  obtain ⟨xa14_0,xc14_0,rfl,ei14_0,xh14_0⟩:=U2 er14
  have:=xh14_0.slen.2
  refine Dyp 2 Z (y6 us_Facts ty_Fact Z ea14 Z g Z om)<|Dy 3 Z (l4 (cs:=[_,_]) ty_Fact Z (eh14 _) Z)<|Dy 4 Z (l4 (cs:=[_,_]) ty_Fact Z (Has.pt m0) Z)<|D0 5 Z a0W Z (λhA=>⟨ei14_0,hA.ro xh14_0,L4,hA.ro z8⟩)<|Dyp 6 Z (Y.eql Z Z)<|l3 (λq18=>?_)<|λq18=>?_
  ·refine o4 kr<|Et<|r9 Z<|Ew Z1<|Ei Z<|Eu<|E.ret<|v7<|a5h<|a5h<|v7<|a5h<|Fb Z Z (by grind[O5,d1,d2,t1,t2])
  ·refine o4 kr<|Et<|r8 Z<|v6<|o6<|Et<|Ez Z3<|Em Z<|Yad Z om om<|Ei Z ?_
   exact Eu<|u7 br (g+1) rs (.refl _) ⟨by omega,by grind[O5,d1,d2,t1,t2]⟩ om
 ·refine Eu<|r8 Z<|E.exit<|l2<|l2<|u4<|Et<|Ew Z1<|Ei Z<|Eu<|E.ret<|Fb Z Z (by grind[O5,d1,d2,t1,t2])
theorem c2N {l6:Int} {w5:Option Addr} {C0 w4:Nat} {f9:List Int} {E3:Option Addr} {I6 E4:Nat} {l0:List Int} {w8:Option Addr} {C1 w9:Nat} {i8:List Int} (hz:f9.length≤1048576):Tr Tryz.prog 79 [.agg #[.int .i64 l6,.slice w5 C0 w4],.agg #[.slice E3 I6 E4,.slice w8 C1 w9]] (λw L=>I64 l6∧Ro w L eIs [.slice w5 C0 w4] f9∧Ro w L eIs [.slice E3 I6 E4] l0∧Ro w L eIs [.slice w8 C1 w9] i8) [] (κ:=SL) (λk=>True) (λk=>.agg #[.int .i64 ((R2 (l6,f9) (l0,i8)).1),.slice k.1 k.2.1 k.2.2]) (λk=>[ow eIs [.slice k.1 k.2.1 k.2.2] ((R2 (l6,f9) (l0,i8)).2)]):=by
 refine Ti2 Tryz.func79 29 Z λw L hR=>?_
 obtain ⟨M0,y5,E6,y4⟩:=hR
 obtain ⟨rfl,R4⟩:=y5.slen
 obtain ⟨rfl,a0M⟩:=E6.slen
 obtain ⟨rfl,R0⟩:=y4.slen
 have jv:=a8o (b:=(l0,i8)) (l:=f9) y5.i64 E6.i64 y4.i64
 refine Ew Z3<|Est Z (N.box (cs:=[_,_]) Z dc Z)<|λb2 _=>Est Z (N.box (cs:=[_,_]) Z dc Z)<|λb3 _=>Est Z (N.alloc ty_Fact dc)<|λb4 _=>Ev Z6<|Lz fo_Atom_0 j8 Z (mS<|mS m0) Z<|Est Z (Nb [] [] us_Is j8 Z Z)<|λb10 _=>Ent.drop<|Ey Z ((J2 (pvs:=[_,_]) (cs:=[_,_]) ty_Fact a6u Z Z).yd)<|Est Z (N.alloc ty_Fact dc)<|λb5 _=>Est Z (Ns [_,_] ty_Fact Z)<|λ_ _=>Eu<|Eq_<|Ew Z4<|Lz fo_Atom_1 ty_Is Z (mS<|mS<|mS m0) Z<|Yln us_Is Z<|Em Z<|Eu<|E.block<|m8 (A:=[]) (Own.nil (E:=Enc.int) (e:=tI) (a:=(some ⟨b10,0,none⟩))) Z<|g9 (congrArg (ow eIs [_]) (show _=(f9.take 0).map (y9 (l0,i8)) from by first|rfl|(simp;done)|grind[R2,d1,d2,t1,t2]))<|Lo (κ:=Nat×SL) (λg=>g.1≤f9.length∧True) (λg=>[(3,.pointer<|some ⟨b3,0,none⟩),(4,.pointer<|some ⟨b4,0,none⟩),(5,.pointer<|some ⟨b5,0,none⟩),(13,.slice w5 f9.length w4),(14,.int .i64 (↑f9.length:Int)),(15,.int .i64 (↑g.1:Int))]) (λg=>[ow eIs [.slice g.2.1 g.2.2.1 g.2.2.2]<|(f9.take g.1).map (y9 (l0,i8)),pt b5 85 [.int .i64 l6,.slice g.2.1 g.2.2.1 g.2.2.2],pt b4 85 [.int .i64 0,.slice none 0 0],pt b3 114 [.slice E3 l0.length E4,.slice w8 i8.length w9],pt b2 111 [.int .i64 l6,.slice w5 f9.length w4]]) (λg=>f9.length-g.1) (0,(some ⟨b10,0,none⟩),0,0) ⟨Nat.zero_le _,by simp⟩<|λg pg=>?_
 obtain ⟨g,aA0_0,mA0_0,cA0_0⟩:=g
 try dsimp only at pg
 try dsimp only
 obtain ⟨pk,pa⟩:=pg
 refine f0 m0 ?_
 rintro rfl laA0_0
 refine Ew Z1<|Ylt Z<|l3 (λq16=>?_)<|λq16=>?_
 ·obtain ⟨eb17,eo17,ea17,ei17,eh17⟩:=y5.elemI g om
  refine Eu<|Eq_<|Ct<|Eq_<|E.block<|Ew Z3<|Il us_Is j8 Z ea17 g Z om Z (eh17 _)<|Ei Z<|Eu<|D.region (λj=> !(Nat.beq j 6)&& !(Nat.beq j 8)) mixed<|Df 0 1 fo_Fact_1 ty_Is Z (Hz (mS m0) 1 Z)<|Dy 2 Z (l4 (cs:=[_,_]) ty_Binding Z (Has.pt<|mS<|mS<|mS m0) Z)<|Dm 3 Z<|D0 4 Z a0L Z (λhA=>⟨hA.ro E6,hA.ro y4⟩)<|w6 5 Z Z kr (λ_=>rfl) (Nb [_] [_] us_Is j8 Z Z)<|λb24 _=>d8<|w6 6 Z Z kr (λh=>by cases h) (w3 (E:=Enc.int) (ex:=y9 (l0,i8) f9[g]) us_Is j8 Z Z Z (Own.int i6) Z bn bn dc)<|λp25 _=>Dyp 7 Z (D3 fo_Fact_1 ty_Is dc Z)<|d8<|w6 8 Z Z kr (λh=>by cases h) (Ns [_,_] ty_Is rfl)<|λ_ _=>o4 kr<|o6<|Et<|Ez Z2<|Yad Z om om<|Em Z<|Eu<|d8<|g9 (congrArg (ow eIs [_]) (show _=(f9.take<|g+1).map (y9 (l0,i8)) from by grind[R2,d1,d2,t1,t2]))<|s6<|s6<|s6<|s6<|s6 ?_
  exact Ea (g+1,p25.1,(((f9.take g).map (y9 (l0,i8))).length+1),p25.2) ⟨oz,trivial⟩
 ·refine Eu<|Eq_<|r8 Z<|E.exit<|l2<|l2<|u4<|Et<|Ew Z2<|Ey Z (l4 (cs:=[_,_]) ty_Fact Z (Has.pt<|mS m0) Z)<|i9<|Est Z (Ns [_,_] ty_Fact Z)<|λ_ _=>Eu<|E.ret<|d8<|g9 (congrArg (ow eIs [_]) (show _=(R2 (l6,f9) (l0,i8)).2 by grind[R2,d1,d2,t1,t2])) ?_
  exact N7 br Z Z (mS m0) ty_Fact Z (_,_,_) trivial (by rw[show ((R2 (l6,f9) (l0,i8)).1)=(l6) from (by grind[R2,d1,d2,t1,t2])];try rfl) (J:=_) (.refl _)<|.inl Z
end Go.Proofs.YthapcdhdfaibkaaGreatDoor
end
section
namespace Go.Proofs.YthapcdhdfaibkaaGreatDoor
open Go.RowKit
set_option linter.all false
set_option maxHeartbeats 2000000
attribute [local irreducible] Nop Yd Yp Ent Has Tr FnP FnP2 Src K8 Q7 R5 S1 E8
variable {o3:Int} {l:List IL} {i7 s:List Int} {G6 C3 m_l c_l m_s c_s:Nat} {C4 a_l a_s:Option Addr}
theorem a3u (hyf:i7.length≤1048576):Tr Tryz.prog 165 [.agg #[.int .i64 o3,.slice C4 G6 C3]] (λw L=>I64 o3∧Ro w L eIs [.slice C4 G6 C3] i7) [] (κ:=SL) (λk=>True) (λk=>.agg #[.int .i64 o3,.slice k.1 k.2.1 k.2.2]) (λk=>[ow eIs [.slice k.1 k.2.1 k.2.2] i7]):=by
 refine Ti1 Tryz.func165 9 Z λw L hR=>?_
 obtain ⟨L4,z8⟩:=hR
 obtain ⟨rfl,Y6⟩:=z8.slen
 refine Ew Z2<|Est Z (N.box (cs:=[_,_]) Z dc Z)<|λb1 _=>Est Z (N.alloc ty_Fact dc)<|λb2 _=>Eu<|Eq_<|D.region (λj=> !(Nat.beq j 6)) mixed<|Df 0 1 fo_Fact_0 j8 Z (Hz (mS m0) 0 Z)<|Df 2 3 fo_Fact_1 ty_Is Z (Hz (mS m0) 1 Z)<|Dl 4 Z (a1g fc) Z (λhA=>hA.ro z8)<|λa7 c7 l7=>Dyp 5 Z (J2 (pvs:=[_,_]) (cs:=[_,_]) ty_Fact a6u Z Z)<|d8<|w6 6 Z Z kr (λh=>by cases h) (Ns [_,_] ty_Fact rfl)<|λ_ _=>o4 kr<|Et<|E.ret<|d8<|N7 br Z Z (mS m0) ty_Fact Z (_,_,_) trivial Z (J:=_) (.refl _)<|.inl Z
theorem T4 {rel:Int} {a_values:Option Addr} {m_values c_values:Nat} {N5:List Int} (hz:N5.length≤1048576):Tr Tryz.prog 209 [.int .i64 rel,.slice a_values m_values c_values] (λw L=>I64 rel∧Ro w L eIs [.slice a_values m_values c_values] N5) [] (κ:=SL) (λk=>True) (λk=>.agg #[.int .i64 rel,.slice k.1 k.2.1 k.2.2]) (λk=>[ow eIs [.slice k.1 k.2.1 k.2.2] N5]):=by
 refine Ti2 Tryz.func209 10 Z λw L hR=>?_
 obtain ⟨i6rel,hvalues⟩:=hR
 obtain ⟨rfl,lvalues⟩:=hvalues.slen
 refine Ew Z1<|Est Z (N.alloc ty_Fact dc)<|λb4 _=>Ev Z6<|Em Z<|Est Z (Nb [] [] us_Is j8 Z Z)<|λb6 _=>Ent.drop<|Em Z<|Est Z (M9 (E:=Enc.int) Plain.int us_Is j8 Z Z Z hvalues bn bn dc)<|λp8 _=>Ey Z ((J2 (pvs:=[_,_]) (cs:=[_,_]) ty_Fact a6u Z Z).yd)<|d8<|Est Z (Ns [_,_] ty_Fact Z)<|λ_ _=>Eu<|E.ret<|d8<|N7 br Z Z (mS m0) ty_Fact Z (_,_,_) trivial Z (J:=_) (.refl _)<|.inl Z
theorem a9S (hz:l.length≤1073741824) (hyl:∀x∈l,x.2.length≤1048576):TL Tryz.prog 156 [.slice a_l m_l c_l] (λw L=>Ro w L t7 [.slice a_l m_l c_l] l) t7 l:=by
 refine Ti1 Tryz.func156 20 Z λw L hR=>?_
 have hl:=hR
 obtain ⟨rfl,ll⟩:=hl.slen
 refine Ew Z1<|Ei Z<|Ev Z2<|Est Z (Nb [] [] us_Facts ty_Fact Z Z)<|λb6 _=>Ent.drop<|Ei Z<|Eu<|Eq_<|Ew Z3<|Em Z<|Yln us_Facts Z<|Em Z<|Eu<|E.block<|m8 (A:=[]) (Own.nil (E:=I3) (e:=tFact) (a:=(some ⟨b6,0,none⟩))) Z<|g9 (congrArg (ow t7 [_]) (show _=l.take 0 from by first|rfl|(simp;done)|grind[d1,d2,t1,t2]))<|Lo (κ:=Nat×SL) (λg=>g.1≤l.length∧True) (λg=>[(3,.slice g.2.1 g.2.2.1 g.2.2.2),(7,.slice a_l l.length c_l),(8,.int .i64 (↑l.length:Int)),(9,.int .i64 (↑g.1:Int))]) (λg=>[ow t7 [.slice g.2.1 g.2.2.1 g.2.2.2]<|l.take g.1]) (λg=>l.length-g.1) (0,(some ⟨b6,0,none⟩),0,0) ⟨Nat.zero_le _,by simp⟩<|λg pg=>?_
 obtain ⟨g,aA0_0,mA0_0,cA0_0⟩:=g
 try dsimp only at pg
 try dsimp only
 obtain ⟨pk,pa⟩:=pg
 have jp:=List.length_take_le g l
 refine f0 m0 ?_
 rintro rfl laA0_0
 refine Ew Z1<|Ylt Z<|l3 (λq10=>?_)<|λq10=>?_
 ·obtain ⟨eb11,eo11,ec11,ea11,er11,el11,eh11⟩:=hl.elem g om
  obtain ⟨xa11_0,xc11_0,rfl,ei11_0,xh11_0⟩:=U2 er11
  have:=xh11_0.slen.2
  refine Eu<|Eq_<|Ct<|Eq_<|E.block<|Ew Z4<|Ix us_Facts ty_Fact Z ea11 g Z om<|Ey Z (l4 (cs:=[_,_]) ty_Fact Z (eh11 _) Z)<|Est Z (N.alloc ty_Fact dc)<|λb5 _=>Est Z (Ns [_,_] ty_Fact Z)<|λ_ _=>Eu<|Ez Z6<|Em Z<|Ey Z (l4 (cs:=[_,_]) ty_Fact Z (Has.pt m0) Z)<|Est Z (N.call (a3u<|hyl _<|List.getElem_mem om) Z Z Z dc Z<|λw Lp hA=>⟨ei11_0,hA.ro xh11_0⟩)<|λk15 _=>?_
  obtain ⟨a15,m15,c15⟩:=k15
  refine f0 m0 ?_
  rintro rfl l15
  refine Est Z (Nb [_] [_,_] us_Facts ty_Fact Z Z)<|λb16 _=>d8<|d8<|n0<|Est Z (w3 (E:=I3) (ex:=l[g]) us_Facts ty_Fact Z Z Z (N3 (x:=l[g]) ei11_0 Own.ow) Z bn bn dc)<|λp17 _=>Ei Z<|En<|o6<|Et<|Ez Z2<|Yad Z om om<|Em Z<|Eu<|d8<|Ent.drop<|g9 (congrArg (ow t7 [_]) (show _=l.take (g+1) from by grind[d1,d2,t1,t2])) ?_
  exact Ea (g+1,p17.1,((l.take g).length+1),p17.2) ⟨oz,trivial⟩
 ·refine Eu<|Eq_<|r8 Z<|E.exit<|l2<|l2<|u4<|Et<|Ew Z2<|Em Z<|Ei Z<|Eu<|E.ret<|g9 (congrArg (ow t7 [_]) (show _=l by grind[d1,d2,t1,t2]))<|Fg Z Z (_,_,_) Z Z
theorem b2e {a6Z:Int} {a1p:Option Addr} {a1q a1r:Nat} {a2C:List Int} {b_f:Nat}:TB Tryz.prog 293 [.agg #[.int .i64 a6Z,.slice a1p a1q a1r],.pointer (some ⟨b_f,0,none⟩)] (λw L=>(I64 a6Z∧Ro w L eIs [.slice a1p a1q a1r] a2C)∧RoPt w L b_f [.int .i64 o3,.slice C4 G6 C3]∧I64 o3∧Ro w L eIs [.slice C4 G6 C3] i7) (decide (0<R3 (a6Z,a2C) (o3,i7))):=by
 refine Ti2 Tryz.func293 8 Z λw L hR=>?_
 obtain ⟨⟨b2j,a1S⟩,hb_f,L4,z8⟩:=hR
 obtain ⟨rfl,b3g⟩:=a1S.slen
 obtain ⟨rfl,Y6⟩:=z8.slen
 refine Ew Z2<|Est Z (N.box (cs:=[_,_]) Z dc Z)<|λb2 _=>Ei Z<|Ev Z5<|Ey Z (l4 (cs:=[_,_]) ty_Fact Z (Has.pt m0) Z)<|Ey Z (l4 (cs:=[_,_]) ty_Fact Z (hb_f.has) Z)<|E0 Z a2l Z (λhA=>⟨b2j,hA.ro a1S,L4,hA.ro z8⟩)<|Ey Z ((Y.gtr Z Z).yd)<|Ei Z<|Eu<|E.ret<|Fg Z Z () Z Z
theorem b4Z (hz:l.length≤1000000000) (hyf:i7.length≤1048576):Tr Tryz.prog 189 [.slice a_l m_l c_l,.agg #[.int .i64 o3,.slice C4 G6 C3]] (λw L=>I64 o3∧Ro w L eIs [.slice C4 G6 C3] i7) [ow t7 [.slice a_l m_l c_l] l] (κ:=SL) (λk=>True) (λk=>.slice k.1 k.2.1 k.2.2) (λk=>[ow t7 [.slice k.1 k.2.1 k.2.2] (F3 l (o3,i7))]):=by
 refine Ti2 Tryz.func189 23 Z λw L hR=>?_
 obtain ⟨L4,z8⟩:=hR
 obtain ⟨rfl,Y6⟩:=z8.slen
 refine f0 m0 ?_
 rintro rfl ll
 refine Ew Z2<|Est Z (N.box (cs:=[_,_]) Z dc Z)<|λb3 _=>Ei Z<|Eu<|Eq_<|Ew Z3<|Em Z<|Ey Z (l4 (cs:=[_,_]) ty_Fact Z (Has.pt m0) Z)<|E0 Z b1J Z (λhA=>⟨hA.ow<|mS m0,L4,hA.ro z8⟩)<|Ent.b (λq8=>?_)<|λq8=>?_
 ·refine Eu<|r9 Z<|Ew Z2<|Em Z<|Ei Z<|Eu<|E.ret<|a5h<|d8<|g9 (congrArg (ow t7 [_]) (show _=F3 l (o3,i7) by grind[a5f,a6V]))<|Fg Z Z (_,_,_) Z Z
 ·refine Eu<|Cf<|Ew Z4<|Em Z<|Ey Z ((Y.fn (vs:=[_]) Z).yd)<|E0 Z (a3b (f:=(λz=>decide (0<R3 z (o3,i7)))) (D_f:=(λ_=>True)) (by intros;exact trivial)) Z (λhA=>⟨hA.ow<|mS m0,a7c (D:=(λ_=>True)) (λhd=>b2e)<|λw' hk=>⟨(hA.pt m0).keep hk,L4,(hA.ro z8).keep hk⟩⟩)<|Ei Z<|Eu<|Eq_<|Ew Z2<|Em Z<|Ylt Z<|l3 (λq14=>?_)<|λq14=>?_
  ·refine Eu<|r9 Z<|Ez Z3<|Em Z<|Yln us_Facts Z<|Ei Z<|Ev Z7<|Em Z<|Em Z<|Ey Z (l4 (cs:=[_,_]) ty_Fact Z (Has.pt m0) Z)<|Est Z (N.call (a3u fc) Z Z Z dc Z<|λw Lp hA=>⟨L4,hA.ro z8⟩)<|λk20 _=>?_
   obtain ⟨a20,m20,c20⟩:=k20
   refine f0 m0 ?_
   rintro rfl l20
   refine Est Z (Nb [_] [_,_] us_Facts ty_Fact Z Z)<|λb21 _=>d8<|d8<|m8 (A:=_::_) (V2 (E:=I3) (e:=tFact)<|N3 (x:=(o3,i7)) L4 Own.ow) Z ?_
   have ji:=a3i (p:=λz=>decide (0<R3 z (o3,i7))) (s:=l)
   refine i9<|Est Z (N.call (pre:=[_,_]) (a7p om (by simp) (by simp;omega)) Z Z Z dc Z tv)<|λk22 _=>?_
   obtain ⟨a22,m22,c22⟩:=k22
   refine f0 m0 ?_
   rintro rfl l22
   refine Ei Z<|Eu<|E.ret<|g9 (congrArg (ow t7 [_]) (show _=F3 l (o3,i7) by grind[a5f,a6V]))<|Fg Z Z (_,_,_) Z Z
  ·refine Eu<|Cf<|Ew Z7<|Em Z<|Em Z<|Ey Z (l4 (cs:=[_,_]) ty_Fact Z (Has.pt m0) Z)<|Est Z (N.call (a3u fc) Z Z Z dc Z<|λw Lp hA=>⟨L4,hA.ro z8⟩)<|λk20 _=>?_
   obtain ⟨a20,m20,c20⟩:=k20
   refine f0 m0 ?_
   rintro rfl l20
   refine Est Z (Nb [_] [_,_] us_Facts ty_Fact Z Z)<|λb21 _=>d8<|d8<|m8 (A:=_::_) (V2 (E:=I3) (e:=tFact)<|N3 (x:=(o3,i7)) L4 Own.ow) Z ?_
   have ji:=a3i (p:=λz=>decide (0<R3 z (o3,i7))) (s:=l)
   refine i9<|Est Z (N.call (pre:=[_,_]) (a7p om (by simp) (by simp;omega)) Z Z Z dc Z tv)<|λk22 _=>?_
   obtain ⟨a22,m22,c22⟩:=k22
   refine f0 m0 ?_
   rintro rfl l22
   refine Ei Z<|Eu<|E.ret<|g9 (congrArg (ow t7 [_]) (show _=F3 l (o3,i7) by grind[a5f,a6V]))<|Fg Z Z (_,_,_) Z Z
theorem a3S (hz:l.length≤1000000000) (hyl:∀x∈l,x.2.length≤1048576) (hyf:i7.length≤1048576):TL Tryz.prog 160 [.slice a_l m_l c_l,.agg #[.int .i64 o3,.slice C4 G6 C3]] (λw L=>Ro w L t7 [.slice a_l m_l c_l] l∧I64 o3∧Ro w L eIs [.slice C4 G6 C3] i7) t7 (F3 l (o3,i7)):=by
 refine Ti2 Tryz.func160 62 Z λw L hR=>?_
 obtain ⟨hl,L4,z8⟩:=hR
 obtain ⟨rfl,ll⟩:=hl.slen
 obtain ⟨rfl,Y6⟩:=z8.slen
 refine Ew Z2<|Est Z (N.box (cs:=[_,_]) Z dc Z)<|λb3 _=>Ei Z<|Ev Z2<|Est Z (Nb [] [] us_Facts ty_Fact Z Z)<|λb8 _=>Ent.drop<|Ei Z<|Ev Z4<|Em Z<|Ey Z (l4 (cs:=[_,_]) ty_Fact Z (Has.pt m0) Z)<|E0 Z b1L Z (λhA=>⟨hA.ro hl,L4,hA.ro z8⟩)<|Ei Z<|Ent.b (λq6=>?_)<|λq6=>?_
 ·refine Eu<|Eq_<|Ew Z1<|Ei Z<|Eu<|E.block<|m8 (A:=[]) (Own.nil (E:=I3) (e:=tFact) (a:=(some ⟨b8,0,none⟩))) Z<|g9 (congrArg (ow t7 [_]) (show _=addS (O5 l (o3,i7)) (ltF (o3,i7)) (o3,i7) (l.take 0) from by first|rfl|(simp;done)|grind[F3,G2,G3,H7,H8,W8,d1,d2,t1,t2]))<|E.loop (κ:=Nat×SL) (λg=>g.1≤l.length∧True) (λg=>[(0,.slice a_l l.length c_l),(3,.pointer<|some ⟨b3,0,none⟩),(5,.slice g.2.1 g.2.2.1 g.2.2.2),(6,.bool<|O5 l (o3,i7)||(l.take g.1).any (ltF (o3,i7))),(7,.int .i64 (↑g.1:Int))]) (λg=>[ow t7 [.slice g.2.1 g.2.2.1 g.2.2.2]<|addS (O5 l (o3,i7)) (ltF (o3,i7)) (o3,i7)<|l.take g.1,pt b3 85 [.int .i64 o3,.slice C4 i7.length C3]]) (λg=>l.length-g.1) (0,(some ⟨b8,0,none⟩),0,0) ⟨Nat.zero_le _,by simp⟩ ⟨Z,Z,Z,frB (by first|rfl|(simp;done)|grind[F3,G2,G3,H7,H8,W8,d1,d2,t1,t2]),Z,trivial⟩ (.refl _)<|λg pg=>?_
  obtain ⟨g,aA0_0,mA0_0,cA0_0⟩:=g
  try dsimp only at pg
  try dsimp only
  obtain ⟨pk,pa⟩:=pg
  have jp:=List.length_take_le g l
  have ji:=a9N (h:=O5 l (o3,i7)) (p:=(ltF (o3,i7))) (f:=(o3,i7)) (l:=l.take g)
  refine f0 m0 ?_
  rintro rfl laA0_0
  refine Eq_<|Ew Z4<|Em Z<|Em Z<|Yln us_Facts Z<|Ylt Z<|l3 (λq15=>?_)<|λq15=>?_
  ·refine Eu<|Ct<|Eq_<|E.block<|Eq_<|Eq_<|D.region (λj=>true) mixed<|Dm 0 Z<|Ent.b (λq18=>?_)<|λq18=>?_
   ·refine Dyp 1 Z (Y.not (b:=true) Z)<|Dm 2 Z<|Dsk 3 Z<|Dsk 4 Z<|Dsk 5 Z<|Dsk 6 Z<|Dsk 7 Z<|Dsk 8 Z<|Dsk 9 Z<|Dyp 10 Z (J3 Z Z)<|o4 kr<|Et<|Cf<|D.region (λj=> !(Nat.beq j 13)) mixed<|Dm 0 Z<|Dm 1 Z<|Dm 2 Z ?_
    obtain ⟨eb40,eo40,ec40,ea40,er40,el40,eh40⟩:=hl.elem g om
    obtain ⟨xa40_0,xc40_0,rfl,ei40_0,xh40_0⟩:=U2 er40
    have:=xh40_0.slen.2
    refine Dyp 3 Z (y6 us_Facts ty_Fact Z ea40 Z g Z om)<|Df 4 5 fo_Fact_0 j8 Z (Hs (eh40 _) 0 Z)<|Dm 6 Z<|Dm 7 Z<|Dyp 8 Z (y6 us_Facts ty_Fact Z ea40 Z g Z om)<|Df 9 10 fo_Fact_1 ty_Is Z (Hs (eh40 _) 1 Z)<|w6 11 Z Z kr (λ_=>rfl) (N.call (T4<|hyl _<|List.getElem_mem om) Z Z Z dc Z<|λw Lp hA=>⟨ei40_0,hA.ro xh40_0⟩)<|λk48 _=>?_
    obtain ⟨a48,m48,c48⟩:=k48
    refine f0 m0 ?_
    rintro rfl l48
    refine w6 12 Z Z kr (λ_=>rfl) (Nb [_] [_,_] us_Facts ty_Fact Z Z)<|λb49 _=>d8<|d8<|i9<|w6 13 Z Z kr (λh=>by cases h) (w3 (E:=I3) (ex:=l[g]) us_Facts ty_Fact Z Z Z (N3 (x:=l[g]) ei40_0 Own.ow) Z bn bn dc)<|λp50 _=>Dyp 14 Z (E5 Z)<|o4 kr<|o6<|Et<|Ez Z3<|Em Z<|Yad Z om om<|Ei Z<|Eu<|g9 (congrArg (ow t7 [_]) (show _=addS (O5 l (o3,i7)) (ltF (o3,i7)) (o3,i7) (l.take<|g+1) from by grind[F3,G2,G3,H7,H8,W8,d1,d2,t1,t2]))<|d8<|d8 ?_
    exact u7 br (g+1,p50.1,((addS (O5 l (o3,i7)) (ltF (o3,i7)) (o3,i7)<|l.take g).length+1),p50.2) ⟨Z,Z,Z,frB (by grind[F3,G2,G3,H7,H8,W8,d1,d2,t1,t2]),Z,trivial⟩ (.refl _) ⟨oz,trivial⟩ oz
   ·refine Dyp 1 Z (Y.not (b:=false) Z)<|Dm 2 Z<|Dy 3 Z (l4 (cs:=[_,_]) ty_Fact Z (Has.pt<|mS m0) Z)<|Dm 4 Z<|Dm 5 Z ?_
    obtain ⟨eb24,eo24,ec24,ea24,er24,el24,eh24⟩:=hl.elem g om
    obtain ⟨xa24_0,xc24_0,rfl,ei24_0,xh24_0⟩:=U2 er24
    have:=xh24_0.slen.2
    refine Dyp 6 Z (y6 us_Facts ty_Fact Z ea24 Z g Z om)<|Dy 7 Z (l4 (cs:=[_,_]) ty_Fact Z (eh24 _) Z)<|D0 8 Z a0W Z (λhA=>⟨L4,hA.ro z8,ei24_0,hA.ro xh24_0⟩)<|Dyp 9 Z (Y.lss Z Z)<|l3 (λq27=>?_)<|λq27=>?_
    ·refine Dyp 10 Z (J9 Z Z)<|o4 kr<|Et<|r9 Z<|Ew Z9<|Em Z<|Lz fo_Fact_0 j8 Z (mS m0) Z<|Lz fo_Fact_1 ty_Is Z (mS m0) Z<|Est Z (N.call (T4 fc) Z Z Z dc Z<|λw Lp hA=>⟨L4,hA.ro z8⟩)<|λk34 _=>?_
     obtain ⟨a34,m34,c34⟩:=k34
     refine f0 m0 ?_
     rintro rfl l34
     refine Est Z (Nb [_] [_,_] us_Facts ty_Fact Z Z)<|λb35 _=>d8<|d8<|i9<|Est Z (w3 (E:=I3) (ex:=(o3,i7)) us_Facts ty_Fact Z Z Z (N3 (x:=(o3,i7)) L4 Own.ow) Z bn bn dc)<|λp36 _=>Ei Z<|Eu<|Ez Z1<|Ei Z<|Eu<|D.region (λj=> !(Nat.beq j 13)) mixed<|Dm 0 Z<|Dm 1 Z<|Dm 2 Z<|Dyp 3 Z (y6 us_Facts ty_Fact Z ea24 Z g Z om)<|Df 4 5 fo_Fact_0 j8 Z (Hs (eh24 _) 0 Z)<|Dm 6 Z<|Dm 7 Z<|Dyp 8 Z (y6 us_Facts ty_Fact Z ea24 Z g Z om)<|Df 9 10 fo_Fact_1 ty_Is Z (Hs (eh24 _) 1 Z)<|w6 11 Z Z kr (λ_=>rfl) (N.call (T4<|hyl _<|List.getElem_mem om) Z Z Z dc Z<|λw Lp hA=>⟨ei24_0,hA.ro xh24_0⟩)<|λk48 _=>?_
     obtain ⟨a48,m48,c48⟩:=k48
     refine f0 m0 ?_
     rintro rfl l48
     refine w6 12 Z Z kr (λ_=>rfl) (Nb [_] [_,_] us_Facts ty_Fact Z Z)<|λb49 _=>d8<|d8<|i9<|w6 13 Z Z kr (λh=>by cases h) (w3 (E:=I3) (ex:=l[g]) us_Facts ty_Fact Z Z Z (N3 (x:=l[g]) ei24_0 Own.ow) Z bn bn dc)<|λp50 _=>Dyp 14 Z (E5 Z)<|o4 kr<|o6<|Et<|Ez Z3<|Em Z<|Yad Z om om<|Ei Z<|Eu<|g9 (congrArg (ow t7 [_]) (show _=addS (O5 l (o3,i7)) (ltF (o3,i7)) (o3,i7) (l.take<|g+1) from by grind[F3,G2,G3,H7,H8,W8,d1,d2,t1,t2]))<|d8<|d8 ?_
     exact u7 br (g+1,p50.1,(((addS (O5 l (o3,i7)) (ltF (o3,i7)) (o3,i7)<|l.take g).length+1)+1),p50.2) ⟨Z,Z,Z,frB (by grind[F3,G2,G3,H7,H8,W8,d1,d2,t1,t2]),Z,trivial⟩ (.refl _) ⟨oz,trivial⟩ oz
    ·refine Dyp 10 Z (J9 Z Z)<|o4 kr<|Et<|Cf<|D.region (λj=> !(Nat.beq j 13)) mixed<|Dm 0 Z<|Dm 1 Z<|Dm 2 Z<|Dyp 3 Z (y6 us_Facts ty_Fact Z ea24 Z g Z om)<|Df 4 5 fo_Fact_0 j8 Z (Hs (eh24 _) 0 Z)<|Dm 6 Z<|Dm 7 Z<|Dyp 8 Z (y6 us_Facts ty_Fact Z ea24 Z g Z om)<|Df 9 10 fo_Fact_1 ty_Is Z (Hs (eh24 _) 1 Z)<|w6 11 Z Z kr (λ_=>rfl) (N.call (T4<|hyl _<|List.getElem_mem om) Z Z Z dc Z<|λw Lp hA=>⟨ei24_0,hA.ro xh24_0⟩)<|λk48 _=>?_
     obtain ⟨a48,m48,c48⟩:=k48
     refine f0 m0 ?_
     rintro rfl l48
     refine w6 12 Z Z kr (λ_=>rfl) (Nb [_] [_,_] us_Facts ty_Fact Z Z)<|λb49 _=>d8<|d8<|i9<|w6 13 Z Z kr (λh=>by cases h) (w3 (E:=I3) (ex:=l[g]) us_Facts ty_Fact Z Z Z (N3 (x:=l[g]) ei24_0 Own.ow) Z bn bn dc)<|λp50 _=>Dyp 14 Z (E5 Z)<|o4 kr<|o6<|Et<|Ez Z3<|Em Z<|Yad Z om om<|Ei Z<|Eu<|g9 (congrArg (ow t7 [_]) (show _=addS (O5 l (o3,i7)) (ltF (o3,i7)) (o3,i7) (l.take<|g+1) from by grind[F3,G2,G3,H7,H8,W8,d1,d2,t1,t2]))<|d8<|d8 ?_
     exact u7 br (g+1,p50.1,((addS (O5 l (o3,i7)) (ltF (o3,i7)) (o3,i7)<|l.take g).length+1),p50.2) ⟨Z,Z,Z,frB (by grind[F3,G2,G3,H7,H8,W8,d1,d2,t1,t2]),Z,trivial⟩ (.refl _) ⟨oz,trivial⟩ oz
  ·refine Eu<|r8 Z<|E.exit<|l2<|l2<|u4<|Et<|Eq_<|Ew Z2<|Em Z<|Ent.b (λq51=>?_)<|λq51=>?_
   ·refine Yno true Z<|Eu<|Cf<|Ew Z2<|Em Z<|Ei Z<|Eu<|E.ret<|g9 (congrArg (ow t7 [_]) (show _=F3 l (o3,i7) by grind[F3,G2,G3,H7,H8,W8,d1,d2,t1,t2]))<|Fg Z Z (_,_,_) Z Z
   ·refine Yno false Z<|Eu<|r9 Z<|Ez Z9<|Em Z<|Lz fo_Fact_0 j8 Z (mS m0) Z<|Lz fo_Fact_1 ty_Is Z (mS m0) Z<|Est Z (N.call (T4 fc) Z Z Z dc Z<|λw Lp hA=>⟨L4,hA.ro z8⟩)<|λk58 _=>?_
    obtain ⟨a58,m58,c58⟩:=k58
    refine f0 m0 ?_
    rintro rfl l58
    refine Est Z (Nb [_] [_,_] us_Facts ty_Fact Z Z)<|λb59 _=>d8<|d8<|i9<|Est Z (w3 (E:=I3) (ex:=(o3,i7)) us_Facts ty_Fact Z Z Z (N3 (x:=(o3,i7)) L4 Own.ow) Z bn bn dc)<|λp60 _=>Ei Z<|Ev Z2<|Em Z<|Ei Z<|Eu<|E.ret<|g9 (congrArg (ow t7 [_]) (show _=F3 l (o3,i7) by grind[F3,G2,G3,H7,H8,W8,d1,d2,t1,t2]))<|Fg Z Z (_,_,_) Z Z
 ·refine Eu<|Eq_<|Ew Z1<|Ei Z<|Eu<|E.block<|m8 (A:=[]) (Own.nil (E:=I3) (e:=tFact) (a:=(some ⟨b8,0,none⟩))) Z<|g9 (congrArg (ow t7 [_]) (show _=addS (O5 l (o3,i7)) (ltF (o3,i7)) (o3,i7) (l.take 0) from by first|rfl|(simp;done)|grind[F3,G2,G3,H7,H8,W8,d1,d2,t1,t2]))<|E.loop (κ:=Nat×SL) (λg=>g.1≤l.length∧True) (λg=>[(0,.slice a_l l.length c_l),(3,.pointer<|some ⟨b3,0,none⟩),(5,.slice g.2.1 g.2.2.1 g.2.2.2),(6,.bool<|O5 l (o3,i7)||(l.take g.1).any (ltF (o3,i7))),(7,.int .i64 (↑g.1:Int))]) (λg=>[ow t7 [.slice g.2.1 g.2.2.1 g.2.2.2]<|addS (O5 l (o3,i7)) (ltF (o3,i7)) (o3,i7)<|l.take g.1,pt b3 85 [.int .i64 o3,.slice C4 i7.length C3]]) (λg=>l.length-g.1) (0,(some ⟨b8,0,none⟩),0,0) ⟨Nat.zero_le _,by simp⟩ ⟨Z,Z,Z,frB (by first|rfl|(simp;done)|grind[F3,G2,G3,H7,H8,W8,d1,d2,t1,t2]),Z,trivial⟩ (.refl _)<|λg pg=>?_
  obtain ⟨g,aA0_0,mA0_0,cA0_0⟩:=g
  try dsimp only at pg
  try dsimp only
  obtain ⟨pk,pa⟩:=pg
  have jp:=List.length_take_le g l
  have ji:=a9N (h:=O5 l (o3,i7)) (p:=(ltF (o3,i7))) (f:=(o3,i7)) (l:=l.take g)
  refine f0 m0 ?_
  rintro rfl laA0_0
  refine Eq_<|Ew Z4<|Em Z<|Em Z<|Yln us_Facts Z<|Ylt Z<|l3 (λq15=>?_)<|λq15=>?_
  ·refine Eu<|Ct<|Eq_<|E.block<|Eq_<|Eq_<|D.region (λj=>true) mixed<|Dm 0 Z<|Ent.b (λq18=>?_)<|λq18=>?_
   ·refine Dyp 1 Z (Y.not (b:=true) Z)<|Dm 2 Z<|Dsk 3 Z<|Dsk 4 Z<|Dsk 5 Z<|Dsk 6 Z<|Dsk 7 Z<|Dsk 8 Z<|Dsk 9 Z<|Dyp 10 Z (J3 Z Z)<|o4 kr<|Et<|Cf<|D.region (λj=> !(Nat.beq j 13)) mixed<|Dm 0 Z<|Dm 1 Z<|Dm 2 Z ?_
    obtain ⟨eb40,eo40,ec40,ea40,er40,el40,eh40⟩:=hl.elem g om
    obtain ⟨xa40_0,xc40_0,rfl,ei40_0,xh40_0⟩:=U2 er40
    have:=xh40_0.slen.2
    refine Dyp 3 Z (y6 us_Facts ty_Fact Z ea40 Z g Z om)<|Df 4 5 fo_Fact_0 j8 Z (Hs (eh40 _) 0 Z)<|Dm 6 Z<|Dm 7 Z<|Dyp 8 Z (y6 us_Facts ty_Fact Z ea40 Z g Z om)<|Df 9 10 fo_Fact_1 ty_Is Z (Hs (eh40 _) 1 Z)<|w6 11 Z Z kr (λ_=>rfl) (N.call (T4<|hyl _<|List.getElem_mem om) Z Z Z dc Z<|λw Lp hA=>⟨ei40_0,hA.ro xh40_0⟩)<|λk48 _=>?_
    obtain ⟨a48,m48,c48⟩:=k48
    refine f0 m0 ?_
    rintro rfl l48
    refine w6 12 Z Z kr (λ_=>rfl) (Nb [_] [_,_] us_Facts ty_Fact Z Z)<|λb49 _=>d8<|d8<|i9<|w6 13 Z Z kr (λh=>by cases h) (w3 (E:=I3) (ex:=l[g]) us_Facts ty_Fact Z Z Z (N3 (x:=l[g]) ei40_0 Own.ow) Z bn bn dc)<|λp50 _=>Dyp 14 Z (E5 Z)<|o4 kr<|o6<|Et<|Ez Z3<|Em Z<|Yad Z om om<|Ei Z<|Eu<|g9 (congrArg (ow t7 [_]) (show _=addS (O5 l (o3,i7)) (ltF (o3,i7)) (o3,i7) (l.take<|g+1) from by grind[F3,G2,G3,H7,H8,W8,d1,d2,t1,t2]))<|d8<|d8 ?_
    exact u7 br (g+1,p50.1,((addS (O5 l (o3,i7)) (ltF (o3,i7)) (o3,i7)<|l.take g).length+1),p50.2) ⟨Z,Z,Z,frB (by grind[F3,G2,G3,H7,H8,W8,d1,d2,t1,t2]),Z,trivial⟩ (.refl _) ⟨oz,trivial⟩ oz
   ·refine Dyp 1 Z (Y.not (b:=false) Z)<|Dm 2 Z<|Dy 3 Z (l4 (cs:=[_,_]) ty_Fact Z (Has.pt<|mS m0) Z)<|Dm 4 Z<|Dm 5 Z ?_
    obtain ⟨eb24,eo24,ec24,ea24,er24,el24,eh24⟩:=hl.elem g om
    obtain ⟨xa24_0,xc24_0,rfl,ei24_0,xh24_0⟩:=U2 er24
    have:=xh24_0.slen.2
    refine Dyp 6 Z (y6 us_Facts ty_Fact Z ea24 Z g Z om)<|Dy 7 Z (l4 (cs:=[_,_]) ty_Fact Z (eh24 _) Z)<|D0 8 Z a0W Z (λhA=>⟨L4,hA.ro z8,ei24_0,hA.ro xh24_0⟩)<|Dyp 9 Z (Y.lss Z Z)<|l3 (λq27=>?_)<|λq27=>?_
    ·refine Dyp 10 Z (J9 Z Z)<|o4 kr<|Et<|r9 Z<|Ew Z9<|Em Z<|Lz fo_Fact_0 j8 Z (mS m0) Z<|Lz fo_Fact_1 ty_Is Z (mS m0) Z<|Est Z (N.call (T4 fc) Z Z Z dc Z<|λw Lp hA=>⟨L4,hA.ro z8⟩)<|λk34 _=>?_
     obtain ⟨a34,m34,c34⟩:=k34
     refine f0 m0 ?_
     rintro rfl l34
     refine Est Z (Nb [_] [_,_] us_Facts ty_Fact Z Z)<|λb35 _=>d8<|d8<|i9<|Est Z (w3 (E:=I3) (ex:=(o3,i7)) us_Facts ty_Fact Z Z Z (N3 (x:=(o3,i7)) L4 Own.ow) Z bn bn dc)<|λp36 _=>Ei Z<|Eu<|Ez Z1<|Ei Z<|Eu<|D.region (λj=> !(Nat.beq j 13)) mixed<|Dm 0 Z<|Dm 1 Z<|Dm 2 Z<|Dyp 3 Z (y6 us_Facts ty_Fact Z ea24 Z g Z om)<|Df 4 5 fo_Fact_0 j8 Z (Hs (eh24 _) 0 Z)<|Dm 6 Z<|Dm 7 Z<|Dyp 8 Z (y6 us_Facts ty_Fact Z ea24 Z g Z om)<|Df 9 10 fo_Fact_1 ty_Is Z (Hs (eh24 _) 1 Z)<|w6 11 Z Z kr (λ_=>rfl) (N.call (T4<|hyl _<|List.getElem_mem om) Z Z Z dc Z<|λw Lp hA=>⟨ei24_0,hA.ro xh24_0⟩)<|λk48 _=>?_
     obtain ⟨a48,m48,c48⟩:=k48
     refine f0 m0 ?_
     rintro rfl l48
     refine w6 12 Z Z kr (λ_=>rfl) (Nb [_] [_,_] us_Facts ty_Fact Z Z)<|λb49 _=>d8<|d8<|i9<|w6 13 Z Z kr (λh=>by cases h) (w3 (E:=I3) (ex:=l[g]) us_Facts ty_Fact Z Z Z (N3 (x:=l[g]) ei24_0 Own.ow) Z bn bn dc)<|λp50 _=>Dyp 14 Z (E5 Z)<|o4 kr<|o6<|Et<|Ez Z3<|Em Z<|Yad Z om om<|Ei Z<|Eu<|g9 (congrArg (ow t7 [_]) (show _=addS (O5 l (o3,i7)) (ltF (o3,i7)) (o3,i7) (l.take<|g+1) from by grind[F3,G2,G3,H7,H8,W8,d1,d2,t1,t2]))<|d8<|d8 ?_
     exact u7 br (g+1,p50.1,(((addS (O5 l (o3,i7)) (ltF (o3,i7)) (o3,i7)<|l.take g).length+1)+1),p50.2) ⟨Z,Z,Z,frB (by grind[F3,G2,G3,H7,H8,W8,d1,d2,t1,t2]),Z,trivial⟩ (.refl _) ⟨oz,trivial⟩ oz
    ·refine Dyp 10 Z (J9 Z Z)<|o4 kr<|Et<|Cf<|D.region (λj=> !(Nat.beq j 13)) mixed<|Dm 0 Z<|Dm 1 Z<|Dm 2 Z<|Dyp 3 Z (y6 us_Facts ty_Fact Z ea24 Z g Z om)<|Df 4 5 fo_Fact_0 j8 Z (Hs (eh24 _) 0 Z)<|Dm 6 Z<|Dm 7 Z<|Dyp 8 Z (y6 us_Facts ty_Fact Z ea24 Z g Z om)<|Df 9 10 fo_Fact_1 ty_Is Z (Hs (eh24 _) 1 Z)<|w6 11 Z Z kr (λ_=>rfl) (N.call (T4<|hyl _<|List.getElem_mem om) Z Z Z dc Z<|λw Lp hA=>⟨ei24_0,hA.ro xh24_0⟩)<|λk48 _=>?_
     obtain ⟨a48,m48,c48⟩:=k48
     refine f0 m0 ?_
     rintro rfl l48
     refine w6 12 Z Z kr (λ_=>rfl) (Nb [_] [_,_] us_Facts ty_Fact Z Z)<|λb49 _=>d8<|d8<|i9<|w6 13 Z Z kr (λh=>by cases h) (w3 (E:=I3) (ex:=l[g]) us_Facts ty_Fact Z Z Z (N3 (x:=l[g]) ei24_0 Own.ow) Z bn bn dc)<|λp50 _=>Dyp 14 Z (E5 Z)<|o4 kr<|o6<|Et<|Ez Z3<|Em Z<|Yad Z om om<|Ei Z<|Eu<|g9 (congrArg (ow t7 [_]) (show _=addS (O5 l (o3,i7)) (ltF (o3,i7)) (o3,i7) (l.take<|g+1) from by grind[F3,G2,G3,H7,H8,W8,d1,d2,t1,t2]))<|d8<|d8 ?_
     exact u7 br (g+1,p50.1,((addS (O5 l (o3,i7)) (ltF (o3,i7)) (o3,i7)<|l.take g).length+1),p50.2) ⟨Z,Z,Z,frB (by grind[F3,G2,G3,H7,H8,W8,d1,d2,t1,t2]),Z,trivial⟩ (.refl _) ⟨oz,trivial⟩ oz
  ·refine Eu<|r8 Z<|E.exit<|l2<|l2<|u4<|Et<|Eq_<|Ew Z2<|Em Z<|Ent.b (λq51=>?_)<|λq51=>?_
   ·refine Yno true Z<|Eu<|Cf<|Ew Z2<|Em Z<|Ei Z<|Eu<|E.ret<|g9 (congrArg (ow t7 [_]) (show _=F3 l (o3,i7) by grind[F3,G2,G3,H7,H8,W8,d1,d2,t1,t2]))<|Fg Z Z (_,_,_) Z Z
   ·refine Yno false Z<|Eu<|r9 Z<|Ez Z9<|Em Z<|Lz fo_Fact_0 j8 Z (mS m0) Z<|Lz fo_Fact_1 ty_Is Z (mS m0) Z<|Est Z (N.call (T4 fc) Z Z Z dc Z<|λw Lp hA=>⟨L4,hA.ro z8⟩)<|λk58 _=>?_
    obtain ⟨a58,m58,c58⟩:=k58
    refine f0 m0 ?_
    rintro rfl l58
    refine Est Z (Nb [_] [_,_] us_Facts ty_Fact Z Z)<|λb59 _=>d8<|d8<|i9<|Est Z (w3 (E:=I3) (ex:=(o3,i7)) us_Facts ty_Fact Z Z Z (N3 (x:=(o3,i7)) L4 Own.ow) Z bn bn dc)<|λp60 _=>Ei Z<|Ev Z2<|Em Z<|Ei Z<|Eu<|E.ret<|g9 (congrArg (ow t7 [_]) (show _=F3 l (o3,i7) by grind[F3,G2,G3,H7,H8,W8,d1,d2,t1,t2]))<|Fg Z Z (_,_,_) Z Z
theorem a5q:TB Tryz.prog 69 [.slice a_s m_s c_s,.slice a_l m_l c_l] (λw L=>Ro w L eIs [.slice a_s m_s c_s] s∧Ro w L t7 [.slice a_l m_l c_l] l) (B8 s l):=by
 refine Ti2 Tryz.func69 40 Z λw L hR=>?_
 obtain ⟨hs,hl⟩:=hR
 obtain ⟨rfl,ls⟩:=hs.slen
 obtain ⟨rfl,ll⟩:=hl.slen
 refine Ew Z1<|Ei Z<|Eu<|Eq_<|Ew Z3<|Em Z<|Yln us_Facts Z<|Em Z<|Eu<|E.block<|Lo (κ:=Nat) (λg=>g≤l.length∧a1W s l 0=a1W s l g) (λg=>[(0,.slice a_s s.length c_s),(1,.slice a_l l.length c_l),(7,.slice a_l l.length c_l),(8,.int .i64 (↑l.length:Int)),(9,.int .i64 (g:Int))]) (λg=>[]) (λg=>l.length-g) 0 ⟨Nat.zero_le _,by simp⟩<|λg pg=>?_
 obtain ⟨pk,pa⟩:=pg
 refine Ew Z1<|Ylt Z<|l3 (λq10=>?_)<|λq10=>?_
 ·refine Eu<|Eq_<|Ct<|Eq_<|E.block<|Ew Z6<|Em Z ?_
  obtain ⟨eb12,eo12,ec12,ea12,er12,el12,eh12⟩:=hl.elem g om
  obtain ⟨xa12_0,xc12_0,rfl,ei12_0,xh12_0⟩:=U2 er12
  have:=xh12_0.slen.2
  refine Ix us_Facts ty_Fact Z ea12 g Z om<|Ey Z (l4 (cs:=[_,_]) ty_Fact Z (eh12 _) Z)<|Est Z (N.alloc ty_Fact dc)<|λb6 _=>Ei Z<|Est Z (Ns [_,_] ty_Fact Z)<|λ_ _=>Eu<|Eq_<|D.region (λj=>true) mixed<|Dm 0 Z<|Dy 1 Z (l4 (cs:=[_,_]) ty_Fact Z (Has.pt m0) Z)<|D0 2 Z b3y Z (λhA=>⟨hA.ro hs,ei12_0,hA.ro xh12_0⟩)<|Ent.b (λq16=>?_)<|λq16=>?_
  ·refine Dyp 3 Z (Y.not (b:=true) Z)<|Dm 4 Z<|Dm 5 Z<|Dyp 6 Z (Y.gtr Z Z)<|l3 (λq20=>?_)<|λq20=>?_
   ·refine Dm 7 Z<|Dm 8 Z<|Dm 9 Z<|Dyp 10 Z (Y.sub Z Z om om) ?_
    obtain ⟨eb25,eo25,ec25,ea25,er25,el25,eh25⟩:=hl.elem (g-1) om
    obtain ⟨xa25_0,xc25_0,rfl,ei25_0,xh25_0⟩:=U2 er25
    have:=xh25_0.slen.2
    refine Dyp 11 Z (y6 us_Facts ty_Fact Z ea25 Z (g-1) om om)<|Dy 12 Z (l4 (cs:=[_,_]) ty_Fact Z (eh25 _) Z)<|Dy 13 Z (l4 (cs:=[_,_]) ty_Fact Z (Has.pt m0) Z)<|D0 14 Z a2l Z (λhA=>⟨ei25_0,hA.ro xh25_0,ei12_0,hA.ro xh12_0⟩)<|Dyp 15 Z (Y.geq Z Z)<|l3 (λq29=>?_)<|λq29=>?_
    ·refine Dyp 16 Z (J9 Z Z)<|Dyp 17 Z (J3 Z Z)<|o4 kr<|Et<|r9 Z<|Ew Z1<|Ei Z<|Eu<|E.ret<|v7<|a5h<|a5h<|v7<|a5h<|Fb Z Z (by grind[B8,a1W,I2,I4,K0,ltF,d1,d2,t1,t2])
    ·refine Dyp 16 Z (J9 Z Z)<|Dyp 17 Z (J3 Z Z)<|o4 kr<|Et<|r8 Z<|v6<|o6<|Et<|Ez Z2<|Yad Z om om<|Em Z<|Eu<|Ent.drop ?_
     exact u7 br (g+1) rs (.refl _) ⟨by omega,by grind[a1W,I2,I4,K0,ltF,Bool.and_assoc,d1,d2,t1,t2]⟩ om
   ·refine Dm 7 Z<|Dsk 8 Z<|Dsk 9 Z<|Dsk 10 Z<|Dsk 11 Z<|Dsk 12 Z<|Dsk 13 Z<|Dsk 14 Z<|Dsk 15 Z<|Dyp 16 Z (J3 Z Z)<|Dyp 17 Z (J3 Z Z)<|o4 kr<|Et<|r8 Z<|v6<|o6<|Et<|Ez Z2<|Yad Z om om<|Em Z<|Eu<|Ent.drop ?_
    exact u7 br (g+1) rs (.refl _) ⟨by omega,by grind[a1W,I2,I4,K0,ltF,Bool.and_assoc,d1,d2,t1,t2]⟩ om
  ·refine Dyp 3 Z (Y.not (b:=false) Z)<|Dm 4 Z<|Dsk 5 Z<|Dsk 6 Z<|b3P 7 Z Z dc kr<|Dsk 8 Z<|Dsk 9 Z<|Dsk 10 Z<|Dsk 11 Z<|Dsk 12 Z<|Dsk 13 Z<|Dsk 14 Z<|Dsk 15 Z<|Dsk 16 Z<|Dyp 17 Z (J9 Z Z)<|o4 kr<|Et<|r9 Z<|Ew Z1<|Ei Z<|Eu<|E.ret<|v7<|a5h<|a5h<|v7<|a5h<|Fb Z Z (by grind[B8,a1W,I2,I4,K0,ltF,d1,d2,t1,t2])
 ·refine Eu<|Eq_<|r8 Z<|E.exit<|l2<|l2<|u4<|Et<|Ew Z8<|Em Z<|E0 Z a2n Z (λhA=>hA.ro hs)<|Ent.b (λq34=>?_)<|λq34=>?_
  ·refine Em Z<|Em Z<|Yln us_Facts Z<|Ey Z ((Y.leq Z Z).yd)<|Ypt Z<|Ei Z<|Eu<|E.ret<|Fb Z Z (by grind[B8,a1W,I2,I4,K0,ltF,d1,d2,t1,t2])
  ·refine Em Z<|Es Z<|Es Z<|Es Z<|Ypf Z<|Ei Z<|Eu<|E.ret<|Fb Z Z (by grind[B8,a1W,I2,I4,K0,ltF,d1,d2,t1,t2])
theorem a1i:TB Tryz.prog 16 [.slice a_s m_s c_s,.slice a_l m_l c_l] (λw L=>Ro w L eIs [.slice a_s m_s c_s] s∧Ro w L t7 [.slice a_l m_l c_l] l) (B8 s l):=by
 refine Ti2 Tryz.func16 43 Z λw L hR=>?_
 obtain ⟨hs,hl⟩:=hR
 obtain ⟨rfl,ls⟩:=hs.slen
 obtain ⟨rfl,ll⟩:=hl.slen
 refine Ew Z1<|Ei Z<|Eu<|Eq_<|Ew Z1<|Ei Z<|Eu<|E.block<|Lo (κ:=Nat) (λg=>g≤l.length∧a1W s l 0=a1W s l g) (λg=>[(0,.slice a_s s.length c_s),(1,.slice a_l l.length c_l),(5,.int .i64 (g:Int))]) (λg=>[]) (λg=>l.length-g) 0 ⟨Nat.zero_le _,by simp⟩<|λg pg=>?_
 obtain ⟨pk,pa⟩:=pg
 refine Eq_<|Ew Z4<|Em Z<|Em Z<|Yln us_Facts Z<|Ylt Z<|l3 (λq9=>?_)<|λq9=>?_
 ·refine Eu<|Ct<|Eq_<|E.block<|Eq_<|D.region (λj=>true) mixed<|Dm 0 Z<|Dm 1 Z<|Dm 2 Z ?_
  obtain ⟨eb15,eo15,ec15,ea15,er15,el15,eh15⟩:=hl.elem g om
  obtain ⟨xa15_0,xc15_0,rfl,ei15_0,xh15_0⟩:=U2 er15
  have:=xh15_0.slen.2
  refine Dyp 3 Z (y6 us_Facts ty_Fact Z ea15 Z g Z om)<|Dy 4 Z (l4 (cs:=[_,_]) ty_Fact Z (eh15 _) Z)<|D0 5 Z b3s Z (λhA=>⟨hA.ro hs,ei15_0,hA.ro xh15_0⟩)<|Ent.b (λq17=>?_)<|λq17=>?_
  ·refine Dyp 6 Z (Y.not (b:=true) Z)<|Dm 7 Z<|Dm 8 Z<|Dyp 9 Z (Y.gtr Z Z)<|l3 (λq21=>?_)<|λq21=>?_
   ·refine Dm 10 Z<|Dm 11 Z<|Dm 12 Z<|Dyp 13 Z (Y.sub Z Z om om) ?_
    obtain ⟨eb26,eo26,ec26,ea26,er26,el26,eh26⟩:=hl.elem (g-1) om
    obtain ⟨xa26_0,xc26_0,rfl,ei26_0,xh26_0⟩:=U2 er26
    have:=xh26_0.slen.2
    refine Dyp 14 Z (y6 us_Facts ty_Fact Z ea26 Z (g-1) om om)<|Dy 15 Z (l4 (cs:=[_,_]) ty_Fact Z (eh26 _) Z)<|Dm 16 Z<|Dm 17 Z<|Dyp 18 Z (y6 us_Facts ty_Fact Z ea15 Z g Z om)<|Dy 19 Z (l4 (cs:=[_,_]) ty_Fact Z (eh15 _) Z)<|D0 20 Z a0W Z (λhA=>⟨ei26_0,hA.ro xh26_0,ei15_0,hA.ro xh15_0⟩)<|Dyp 21 Z (Y.geq Z Z)<|l3 (λq33=>?_)<|λq33=>?_
    ·refine Dyp 22 Z (J9 Z Z)<|Dyp 23 Z (J3 Z Z)<|o4 kr<|Et<|r9 Z<|Ew Z1<|Ei Z<|Eu<|E.ret<|v7<|a5h<|a5h<|v7<|a5h<|Fb Z Z (by grind[B8,a1W,I2,I4,K0,ltF,d1,d2,t1,t2])
    ·refine Dyp 22 Z (J9 Z Z)<|Dyp 23 Z (J3 Z Z)<|o4 kr<|Et<|r8 Z<|v6<|o6<|Et<|Ez Z3<|Em Z<|Yad Z om om<|Ei Z ?_
     exact Eu<|u7 br (g+1) rs (.refl _) ⟨by omega,by grind[a1W,I2,I4,K0,ltF,Bool.and_assoc,d1,d2,t1,t2]⟩ om
   ·refine Dm 10 Z<|Dsk 11 Z<|Dsk 12 Z<|Dsk 13 Z<|Dsk 14 Z<|Dsk 15 Z<|Dsk 16 Z<|Dsk 17 Z<|Dsk 18 Z<|Dsk 19 Z<|Dsk 20 Z<|Dsk 21 Z<|Dyp 22 Z (J3 Z Z)<|Dyp 23 Z (J3 Z Z)<|o4 kr<|Et<|r8 Z<|v6<|o6<|Et<|Ez Z3<|Em Z<|Yad Z om om<|Ei Z ?_
    exact Eu<|u7 br (g+1) rs (.refl _) ⟨by omega,by grind[a1W,I2,I4,K0,ltF,Bool.and_assoc,d1,d2,t1,t2]⟩ om
  ·refine Dyp 6 Z (Y.not (b:=false) Z)<|Dm 7 Z<|Dsk 8 Z<|Dsk 9 Z<|b3P 10 Z Z dc kr<|Dsk 11 Z<|Dsk 12 Z<|Dsk 13 Z<|Dsk 14 Z<|Dsk 15 Z<|Dsk 16 Z<|Dsk 17 Z<|Dsk 18 Z<|Dsk 19 Z<|Dsk 20 Z<|Dsk 21 Z<|Dsk 22 Z<|Dyp 23 Z (J9 Z Z)<|o4 kr<|Et<|r9 Z<|Ew Z1<|Ei Z<|Eu<|E.ret<|v7<|a5h<|a5h<|v7<|a5h<|Fb Z Z (by grind[B8,a1W,I2,I4,K0,ltF,d1,d2,t1,t2])
 ·refine Eu<|r8 Z<|E.exit<|l2<|l2<|u4<|Et<|Ew Z8<|Em Z<|E0 Z M7 Z (λhA=>hA.ro hs)<|Ent.b (λq37=>?_)<|λq37=>?_
  ·refine Em Z<|Em Z<|Yln us_Facts Z<|Ey Z ((Y.leq Z Z).yd)<|Ypt Z<|Ei Z<|Eu<|E.ret<|Fb Z Z (by grind[B8,a1W,I2,I4,K0,ltF,d1,d2,t1,t2])
  ·refine Em Z<|Es Z<|Es Z<|Es Z<|Ypf Z<|Ei Z<|Eu<|E.ret<|Fb Z Z (by grind[B8,a1W,I2,I4,K0,ltF,d1,d2,t1,t2])
end Go.Proofs.YthapcdhdfaibkaaGreatDoor
end
