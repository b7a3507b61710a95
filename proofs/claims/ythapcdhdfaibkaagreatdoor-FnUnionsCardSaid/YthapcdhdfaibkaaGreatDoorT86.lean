import Derived.Test.YthapcdhdfaibkaaGreatDoorT85
namespace Go.Proofs.YthapcdhdfaibkaaGreatDoor
open Go.RowKit
set_option linter.all false
set_option maxHeartbeats 2000000
attribute [local irreducible] Nop Yd Yp Ent Has Tr FnP FnP2 Src K8 Q7 R5 S1 E8
variable {l6 method:Int} {l:List (Int×List Int×Int×Int×Int)} {log:List IL} {f9 l0 i8:List Int} {C0 w4 I6 E4 C1 w9 m_l c_l m_log c_log:Nat} {w5 E3 w8 a_l a_log:Option Addr}
theorem a5n {G5:Int} {F6:Option Addr} {H9 F5:Nat} {t8:List Int} {D6:Int} {G4:Int} {D7:Int} (hi:∀i∈t8,0≤i∧i.toNat<f9.length) (hl3:t8.length≤1000):TL Tryz.prog 85 [.agg #[.int .i64 G5,.slice F6 H9 F5,.int .i64 D6,.int .i64 G4,.int .i64 D7],.agg #[.int .i64 l6,.slice w5 C0 w4],.agg #[.slice E3 I6 E4,.slice w8 C1 w9]] (λw L=>I64 G5∧Ro w L eIs [.slice F6 H9 F5] t8∧I64 D6∧I64 G4∧I64 D7∧I64 l6∧Ro w L eIs [.slice w5 C0 w4] f9∧Ro w L eIs [.slice E3 I6 E4] l0∧Ro w L eIs [.slice w8 C1 w9] i8) eIs (a0F (G5,t8,D6,G4,D7) (l6,f9) (l0,i8)):=by
 refine Ti3 Tryz.func85 32 Z λw L hR=>?_
 obtain ⟨Y1,F4,R9,V1,S0,M0,y5,E6,y4⟩:=hR
 obtain ⟨rfl,a0p⟩:=F4.slen
 obtain ⟨rfl,R4⟩:=y5.slen
 obtain ⟨rfl,a0M⟩:=E6.slen
 obtain ⟨rfl,R0⟩:=y4.slen
 have jv:=y4.i64
 have jw:=y5.i64
 refine Ew Z4<|Est Z (N.box (cs:=[_,_,_,_,_]) Z dc Z)<|λb3 _=>Est Z (N.box (cs:=[_,_]) Z dc Z)<|λb4 _=>Est Z (N.box (cs:=[_,_]) Z dc Z)<|λb5 _=>Ei Z<|Ev Z2<|Est Z (Nb [] [] us_Is j8 Z Z)<|λb9 _=>Ent.drop<|Ei Z<|Eu<|Eq_<|Ew Z1<|Ei Z<|Eu<|E.block<|m8 (A:=[]) (Own.nil (E:=Enc.int) (e:=tI) (a:=(some ⟨b9,0,none⟩))) Z<|g9 (congrArg (ow eIs [_]) (show _=(t8.take 0).map (λi=>y9 (l0,i8)<|at0 f9 i) from by rfl))<|Lo (κ:=Nat×SL) (λg=>g.1≤t8.length∧True) (λg=>[(3,.pointer<|some ⟨b3,0,none⟩),(4,.pointer<|some ⟨b4,0,none⟩),(5,.pointer<|some ⟨b5,0,none⟩),(7,.slice g.2.1 g.2.2.1 g.2.2.2),(8,.int .i64 (↑g.1:Int))]) (λg=>[ow eIs [.slice g.2.1 g.2.2.1 g.2.2.2]<|(t8.take g.1).map (λi=>y9 (l0,i8)<|at0 f9 i),pt b5 114 [.slice E3 l0.length E4,.slice w8 i8.length w9],pt b4 111 [.int .i64 l6,.slice w5 f9.length w4],pt b3 125 [.int .i64 G5,.slice F6 t8.length F5,.int .i64 D6,.int .i64 G4,.int .i64 D7]]) (λg=>t8.length-g.1) (0,(some ⟨b9,0,none⟩),0,0) ⟨Nat.zero_le _,by simp⟩<|λg pg=>?_
 obtain ⟨g,aA0_0,mA0_0,cA0_0⟩:=g
 try dsimp only at pg
 try dsimp only
 obtain ⟨pk,pa⟩:=pg
 have jt:=List.length_take_le g t8
 refine f0 m0 ?_
 rintro rfl laA0_0
 refine Eq_<|Ew Z5<|Em Z<|Lz fo_Method_1 ty_Is Z (mS<|mS<|mS m0) Z<|Yln us_Is Z<|Ylt Z<|l3 (λq14=>?_)<|λq14=>?_
 ·refine Eu<|Ct<|Eq_<|E.block<|D.region (λj=> !(Nat.beq j 13)) mixed<|Dm 0 Z<|Dy 1 Z (l4 (cs:=[_,_]) ty_Binding Z (Has.pt<|mS m0) Z)<|Df 2 3 fo_Atom_1 ty_Is Z (Hz (mS<|mS m0) 1 Z)<|Df 4 5 fo_Method_1 ty_Is Z (Hz (mS<|mS<|mS m0) 1 Z)<|Dm 6 Z ?_
  obtain ⟨eb24,eo24,ea24,ei24,eh24⟩:=F4.elemI g om
  refine Dyp 7 Z (y6 us_Is j8 Z ea24 Z g Z om)<|Dy 8 Z (z7 j8 Z (eh24 _) Z) ?_
  have jx:=hi _ (List.getElem_mem (show g<t8.length by omega))
  obtain ⟨eb26,eo26,ea26,ei26,eh26⟩:=y5.elemI t8[g].toNat om
  refine Dyp 9 Z (y6 us_Is j8 Z ea26 Z t8[g].toNat om om)<|Dy 10 Z (z7 j8 Z (eh26 _) Z)<|D0 11 Z a2F Z (λhA=>⟨hA.ro E6,hA.ro y4⟩) ?_
  have jy:=a6Y (b:=(l0,i8)) (jw f9[t8[g].toNat] (List.getElem_mem om)) jv
  refine w6 12 Z Z kr (λ_=>rfl) (Nb [_] [_] us_Is j8 Z Z)<|λb29 _=>d8<|w6 13 Z Z kr (λh=>by cases h) (w3 (E:=Enc.int) (ex:=y9 (l0,i8)<|f9[t8[g].toNat]) us_Is j8 Z Z Z (Own.int i6) Z bn bn dc)<|λp30 _=>Dyp 14 Z (E5 Z)<|o4 kr<|o6<|Et<|Ez Z3<|Em Z<|Yad Z om om<|Ei Z<|Eu<|g9 (congrArg (ow eIs [_]) (show _=(t8.take<|g+1).map (λi=>y9 (l0,i8)<|at0 f9 i) from by exact b4E (a:=(l6,f9)) om om))<|n0<|n0<|n0<|n0 ?_
  exact Ea (g+1,p30.1,(((t8.take g).map (λi=>y9 (l0,i8)<|at0 f9 i)).length+1),p30.2) ⟨oz,trivial⟩
 ·refine Eu<|r8 Z<|E.exit<|l2<|l2<|u4<|Et<|Ew Z2<|Em Z<|Ei Z<|Eu<|E.ret<|g9 (congrArg (ow eIs [_]) (show _=a0F (G5,t8,D6,G4,D7) (l6,f9) (l0,i8) by rw[show g=t8.length from by omega,List.take_length];rfl))<|Fg Z Z (_,_,_) Z Z
theorem a5d (hm:0≤method∧method.toNat<l.length) (hi:∀i∈(atM l method).2.1,0≤i∧i.toNat<f9.length) (hl3:(atM l method).2.1.length≤1000):Tr Tryz.prog 76 [.slice a_l m_l c_l,.int .i64 method,.agg #[.int .i64 l6,.slice w5 C0 w4],.agg #[.slice E3 I6 E4,.slice w8 C1 w9]] (λw L=>Ro w L F0 [.slice a_l m_l c_l] l∧I64 l6∧Ro w L eIs [.slice w5 C0 w4] f9∧Ro w L eIs [.slice E3 I6 E4] l0∧Ro w L eIs [.slice w8 C1 w9] i8) [] (κ:=SL) (λk=>True) (λk=>.agg #[.int .i64 method,.slice k.1 k.2.1 k.2.2]) (λk=>[ow eIs [.slice k.1 k.2.1 k.2.2] (a0F (atM l method) (l6,f9) (l0,i8))]):=by
 refine Ti4 Tryz.func76 39 Z λw L hR=>?_
 obtain ⟨hl,M0,y5,E6,y4⟩:=hR
 obtain ⟨rfl,ll⟩:=hl.slen
 obtain ⟨rfl,R4⟩:=y5.slen
 obtain ⟨rfl,a0M⟩:=E6.slen
 obtain ⟨rfl,R0⟩:=y4.slen
 have jv:=y4.i64
 have jw:=y5.i64
 rw[U6 hm.2] at hi hl3
 refine Ew Z3<|Est Z (N.box (cs:=[_,_]) Z dc Z)<|λb6 _=>Est Z (N.box (cs:=[_,_]) Z dc Z)<|λb7 _=>Est Z (N.alloc ty_Access dc)<|λb8 _=>Ev Z5<|Em Z<|Est Z (Nb [] [] us_Is j8 Z Z)<|λb13 _=>Ent.drop<|Ey Z ((J2 (pvs:=[_,_]) (cs:=[_,_]) ty_Access a8r Z Z).yd)<|Est Z (N.alloc ty_Access dc)<|λb9 _=>Est Z (Ns [_,_] ty_Access Z)<|λ_ _=>Eu<|Eq_<|Ew Z7<|Em Z<|Em Z ?_
 obtain ⟨eb17,eo17,ec17,ea17,er17,el17,eh17⟩:=hl.elem method.toNat om
 obtain ⟨xa17_0,xc17_0,rfl,ei17_0,xh17_0,ei17_2,ei17_3,ei17_4⟩:=P9 er17
 have:=xh17_0.slen.2
 refine Ix us_Methods ty_Method Z ea17 method.toNat om om<|Lf fo_Method_1 ty_Is Z (Hs (eh17 _) 1 Z)<|Yln us_Is Z<|Em Z<|Eu<|E.block<|m8 (A:=[]) (Own.nil (E:=Enc.int) (e:=tI) (a:=(some ⟨b13,0,none⟩))) Z<|g9 (congrArg (ow eIs [_]) (show _=(l[method.toNat].2.1.take 0).map (λi=>y9 (l0,i8)<|at0 f9 i) from by rfl))<|Lo (κ:=Nat×SL) (λg=>g.1≤l[method.toNat].2.1.length∧True) (λg=>[(6,.pointer<|some ⟨b6,0,none⟩),(7,.pointer<|some ⟨b7,0,none⟩),(8,.pointer<|some ⟨b8,0,none⟩),(9,.pointer<|some ⟨b9,0,none⟩),(19,.slice xa17_0 l[method.toNat].2.1.length xc17_0),(20,.int .i64 (↑l[method.toNat].2.1.length:Int)),(21,.int .i64 (↑g.1:Int))]) (λg=>[ow eIs [.slice g.2.1 g.2.2.1 g.2.2.2]<|(l[method.toNat].2.1.take g.1).map (λi=>y9 (l0,i8)<|at0 f9 i),pt b9 105 [.int .i64 method,.slice g.2.1 g.2.2.1 g.2.2.2],pt b8 105 [.int .i64 0,.slice none 0 0],pt b7 114 [.slice E3 l0.length E4,.slice w8 i8.length w9],pt b6 111 [.int .i64 l6,.slice w5 f9.length w4]]) (λg=>l[method.toNat].2.1.length-g.1) (0,(some ⟨b13,0,none⟩),0,0) ⟨Nat.zero_le _,by simp⟩<|λg pg=>?_
 obtain ⟨g,aA0_0,mA0_0,cA0_0⟩:=g
 try dsimp only at pg
 try dsimp only
 obtain ⟨pk,pa⟩:=pg
 have jt:=List.length_take_le g l[method.toNat].2.1
 refine f0 m0 ?_
 rintro rfl laA0_0
 refine Ew Z1<|Ylt Z<|l3 (λq22=>?_)<|λq22=>?_
 ·obtain ⟨eb23,eo23,ea23,ei23,eh23⟩:=xh17_0.elemI g om
  refine Eu<|Eq_<|Ct<|Eq_<|E.block<|Ew Z3<|Il us_Is j8 Z ea23 g Z om Z (eh23 _)<|Ei Z<|Eu<|D.region (λj=> !(Nat.beq j 10)&& !(Nat.beq j 12)) mixed<|Df 0 1 fo_Access_1 ty_Is Z (Hz (mS m0) 1 Z)<|Dy 2 Z (l4 (cs:=[_,_]) ty_Binding Z (Has.pt<|mS<|mS<|mS m0) Z)<|Df 3 4 fo_Atom_1 ty_Is Z (Hz (mS<|mS<|mS<|mS m0) 1 Z)<|Dm 5 Z ?_
  have jx:=hi _ (List.getElem_mem (show g<l[method.toNat].2.1.length by omega))
  obtain ⟨eb31,eo31,ea31,ei31,eh31⟩:=y5.elemI l[method.toNat].2.1[g].toNat om
  refine Dyp 6 Z (y6 us_Is j8 Z ea31 Z l[method.toNat].2.1[g].toNat om om)<|Dy 7 Z (z7 j8 Z (eh31 _) Z)<|D0 8 Z a0L Z (λhA=>⟨hA.ro E6,hA.ro y4⟩) ?_
  have jy:=a6Y (b:=(l0,i8)) (jw f9[l[method.toNat].2.1[g].toNat] (List.getElem_mem om)) jv
  refine w6 9 Z Z kr (λ_=>rfl) (Nb [_] [_] us_Is j8 Z Z)<|λb34 _=>d8<|w6 10 Z Z kr (λh=>by cases h) (w3 (E:=Enc.int) (ex:=y9 (l0,i8)<|f9[l[method.toNat].2.1[g].toNat]) us_Is j8 Z Z Z (Own.int i6) Z bn bn dc)<|λp35 _=>Dyp 11 Z (D3 fo_Access_1 ty_Is dc Z)<|d8<|w6 12 Z Z kr (λh=>by cases h) (Ns [_,_] ty_Is rfl)<|λ_ _=>o4 kr<|o6<|Et<|Ez Z2<|Yad Z om om<|Em Z<|Eu<|d8<|g9 (congrArg (ow eIs [_]) (show _=(l[method.toNat].2.1.take<|g+1).map (λi=>y9 (l0,i8)<|at0 f9 i) from by exact b4E (a:=(l6,f9)) om om))<|s6<|s6<|s6<|s6<|s6 ?_
  exact Ea (g+1,p35.1,(((l[method.toNat].2.1.take g).map (λi=>y9 (l0,i8)<|at0 f9 i)).length+1),p35.2) ⟨oz,trivial⟩
 ·refine Eu<|Eq_<|r8 Z<|E.exit<|l2<|l2<|u4<|Et<|Ew Z2<|Ey Z (l4 (cs:=[_,_]) ty_Access Z (Has.pt<|mS m0) Z)<|i9<|Est Z (Ns [_,_] ty_Access Z)<|λ_ _=>Eu<|E.ret<|d8<|g9 (congrArg (ow eIs [_]) (show _=a0F (atM l method) (l6,f9) (l0,i8) by rw[show g=l[method.toNat].2.1.length from by omega,List.take_length,a0F,U6 hm.2]))<|N7 br Z Z (mS m0) ty_Access Z (_,_,_) trivial Z (J:=_) (.refl _)<|.inl Z
theorem b3u:Tr Tryz.prog 296 [.slice a_l m_l c_l,.int .i64 method] (λw L=>Ro w L F0 [.slice a_l m_l c_l] l∧I64 method) [] (κ:=Unit) (λk=>True) (λk=>.int .i64 (a1C l method)) (λk=>[]):=by
 refine Ti2 Tryz.func296 25 Z λw L hR=>?_
 obtain ⟨hl,i6method⟩:=hR
 obtain ⟨rfl,ll⟩:=hl.slen
 refine Ew Z1<|Ei Z<|Eu<|Eq_<|Ew Z15<|Em Z<|Em Z<|Yln us_Methods Z<|Ey Z ((Y.sub Z Z om om).yd)<|E0 Z L8 Z (λ_=>trivial)<|Ent.b (λq9=>?_)<|λq9=>?_
 ·have zz:=V8 q9
  refine Yno true Z<|Em Z<|Em Z<|Em Z ?_
  obtain ⟨eb14,eo14,ec14,ea14,er14,el14,eh14⟩:=hl.elem method.toNat om
  obtain ⟨xa14_0,xc14_0,rfl,ei14_0,xh14_0,ei14_2,ei14_3,ei14_4⟩:=P9 er14
  have:=xh14_0.slen.2
  refine Ix us_Methods ty_Method Z ea14 method.toNat om om<|Lf fo_Method_3 j8 Z (Hs (eh14 _) 3 Z)<|E0 Z a7f Z (λ_=>trivial)<|Ent.b (λq17=>?_)<|λq17=>?_
  ·refine Yno true Z<|Ypf Z<|Eu<|Cf<|Ew Z6<|Em Z<|Em Z<|Ix us_Methods ty_Method Z ea14 method.toNat om om<|Lf fo_Method_3 j8 Z (Hs (eh14 _) 3 Z)<|Ei Z<|Eu<|E.ret<|Fg Z Z () (congrArg (Value.int .i64) (by exact a6C q9 om q17)) Z
  ·refine Yno false Z<|Ypf Z<|Eu<|r9 Z<|Ew Z1<|Ei Z<|Eu<|E.ret<|a5h<|Fg Z Z () (congrArg (Value.int .i64) (by exact a6I om q17)) Z
 ·refine Yno false Z<|Em Z<|Es Z<|Es Z<|Es Z<|Es Z<|Es Z<|Es Z<|Es Z<|Ypt Z<|Eu<|r9 Z<|Ew Z1<|Ei Z<|Eu<|E.ret<|a5h<|Fg Z Z () (congrArg (Value.int .i64) (by exact a6K q9)) Z
theorem b1F (hlg:log.length≤1000000000000):Tr Tryz.prog 191 [.slice a_l m_l c_l,.slice a_log m_log c_log] (λw L=>Ro w L F0 [.slice a_l m_l c_l] l∧Ro w L H4 [.slice a_log m_log c_log] log) [] (κ:=Unit) (λk=>True) (λk=>.int .i64 (a0E l log)) (λk=>[]):=by
 refine Ti2 Tryz.func191 22 Z λw L hR=>?_
 obtain ⟨hl,hlog⟩:=hR
 obtain ⟨rfl,ll⟩:=hl.slen
 obtain ⟨rfl,llog⟩:=hlog.slen
 refine Ew Z1<|Ei Z<|Ev Z1<|Ei Z<|Eu<|Eq_<|Ew Z3<|Em Z<|Yln us_Accesss Z<|Em Z<|Eu<|E.block<|E.loop (κ:=Nat) (λg=>g≤log.length∧True) (λg=>[(0,.slice a_l l.length c_l),(5,.int .i64<|a0E l<|log.take g),(8,.slice a_log log.length c_log),(9,.int .i64 (↑log.length:Int)),(10,.int .i64 (g:Int))]) (λg=>[]) (λg=>log.length-g) (0) ⟨Nat.zero_le _,by simp⟩ ⟨Z,frI (by rfl),Z,Z,Z,trivial⟩ (.refl _)<|λg pg=>?_
 try dsimp only
 obtain ⟨pk,pa⟩:=pg
 have jc:=b5s (l:=l) (log:=log.take g)
 have jt:=List.length_take_le g log
 refine Ew Z1<|Ylt Z<|l3 (λq11=>?_)<|λq11=>?_
 ·obtain ⟨eb12,eo12,ec12,ea12,er12,el12,eh12⟩:=hlog.elem g om
  obtain ⟨xa12_0,xc12_0,rfl,ei12_0,xh12_0⟩:=a1Z er12
  have:=xh12_0.slen.2
  refine Eu<|Eq_<|Ct<|Eq_<|E.block<|Ew Z4<|Ix us_Accesss ty_Access Z ea12 g Z om<|Ey Z (l4 (cs:=[_,_]) ty_Access Z (eh12 _) Z)<|Est Z (N.alloc ty_Access dc)<|λb7 _=>Est Z (Ns [_,_] ty_Access Z)<|λ_ _=>Eu<|Ez Z7<|Em Z<|Em Z<|Lz fo_Access_0 j8 Z m0 Z<|E0 Z b3u Z (λhA=>⟨hA.ro hl,ei12_0⟩) ?_
  have jm:=b4k (l:=l) (m:=log[g].1)
  refine Yad Z om om<|Ei Z<|En<|o6<|Et<|Ez Z2<|Yad Z om om<|Em Z<|Eu<|Ent.drop ?_
  exact u7 br (g+1) ⟨Z,frI (by exact a3A om),Z,Z,Z,trivial⟩ (.refl _) ⟨oz,trivial⟩ oz
 ·refine Eu<|Eq_<|r8 Z<|E.exit<|l2<|l2<|u4<|Et<|Ew Z2<|Em Z<|Ei Z<|Eu<|E.ret<|Fg Z Z () (congrArg (Value.int .i64) (by rw[List.take_of_length_le om])) Z
theorem b2a (hlg:log.length≤1000000000000):Tr Tryz.prog 206 [.slice a_l m_l c_l,.slice a_log m_log c_log] (λw L=>Ro w L F0 [.slice a_l m_l c_l] l∧Ro w L H4 [.slice a_log m_log c_log] log) [] (κ:=Unit) (λk=>True) (λk=>.int .i64 (a0E l log)) (λk=>[]):=by
 refine Ti2 Tryz.func206 46 Z λw L hR=>?_
 obtain ⟨hl,hlog⟩:=hR
 obtain ⟨rfl,ll⟩:=hl.slen
 obtain ⟨rfl,llog⟩:=hlog.slen
 refine Ew Z1<|Ei Z<|Ev Z1<|Ei Z<|Eu<|Eq_<|Ew Z1<|Ei Z<|Eu<|E.block<|E.loop (κ:=Nat) (λg=>g≤log.length∧True) (λg=>[(0,.slice a_l l.length c_l),(1,.slice a_log log.length c_log),(5,.int .i64<|a0E l<|log.take g),(6,.int .i64 (g:Int))]) (λg=>[]) (λg=>log.length-g) (0) ⟨Nat.zero_le _,by simp⟩ ⟨Z,Z,frI (by rfl),Z,trivial⟩ (.refl _)<|λg pg=>?_
 try dsimp only
 obtain ⟨pk,pa⟩:=pg
 have jc:=b5s (l:=l) (log:=log.take g)
 have jt:=List.length_take_le g log
 refine Eq_<|Ew Z4<|Em Z<|Em Z<|Yln us_Accesss Z<|Ylt Z<|l3 (λq10=>?_)<|λq10=>?_
 ·refine Eu<|Ct<|Eq_<|E.block<|Ew Z21<|Em Z<|Em Z ?_
  obtain ⟨eb15,eo15,ec15,ea15,er15,el15,eh15⟩:=hlog.elem g om
  obtain ⟨xa15_0,xc15_0,rfl,ei15_0,xh15_0⟩:=a1Z er15
  have:=xh15_0.slen.2
  refine Ix us_Accesss ty_Access Z ea15 g Z om<|Lf fo_Access_0 j8 Z (Hs (eh15 _) 0 Z)<|Em Z<|Yln us_Methods Z<|Ey Z ((Y.sub Z Z om om).yd)<|E0 Z H3 Z (λ_=>trivial)<|Ent.b (λq21=>?_)<|λq21=>?_
  ·have zz:=V8 q21
   refine Em Z<|Em Z<|Em Z<|Em Z<|Ix us_Accesss ty_Access Z ea15 g Z om<|Lf fo_Access_0 j8 Z (Hs (eh15 _) 0 Z) ?_
   obtain ⟨eb29,eo29,ec29,ea29,er29,el29,eh29⟩:=hl.elem log[g].1.toNat om
   obtain ⟨xa29_0,xc29_0,rfl,ei29_0,xh29_0,ei29_2,ei29_3,ei29_4⟩:=P9 er29
   have:=xh29_0.slen.2
   refine Ix us_Methods ty_Method Z ea29 log[g].1.toNat om om<|Lf fo_Method_3 j8 Z (Hs (eh29 _) 3 Z)<|E0 Z H3 Z (λ_=>trivial)<|Ent.b (λq32=>?_)<|λq32=>?_
   ·have zy:=V8 q32
    refine Ypt Z<|Eu<|r9 Z<|Ez Z12<|Em Z<|Em Z<|Em Z<|Em Z<|Ix us_Accesss ty_Access Z ea15 g Z om<|Lf fo_Access_0 j8 Z (Hs (eh15 _) 0 Z)<|Ix us_Methods ty_Method Z ea29 log[g].1.toNat om om<|Lf fo_Method_3 j8 Z (Hs (eh29 _) 3 Z)<|Yad Z om om<|Ei Z<|En<|o6<|Et<|Ez Z3<|Em Z<|Yad Z om om<|Ei Z ?_
    exact Eu<|u7 br (g+1) ⟨Z,Z,frI (by first|exact a2M om (a6K q21)|exact a2M om (a6I om q32)|(rw[a6C q21 om q32];exact a3A om)),Z,trivial⟩ (.refl _) ⟨oz,trivial⟩ oz
   ·refine Ypt Z<|Eu<|r8 Z<|v6<|o6<|Et<|Ez Z3<|Em Z<|Yad Z om om<|Ei Z ?_
    exact Eu<|u7 br (g+1) ⟨Z,Z,frI (by first|exact a2M om (a6K q21)|exact a2M om (a6I om q32)|(rw[a6C q21 om q32];exact a3A om)),Z,trivial⟩ (.refl _) ⟨oz,trivial⟩ oz
  ·refine Em Z<|Es Z<|Es Z<|Es Z<|Es Z<|Es Z<|Es Z<|Es Z<|Es Z<|Es Z<|Es Z<|Ypf Z<|Eu<|r8 Z<|v6<|o6<|Et<|Ez Z3<|Em Z<|Yad Z om om<|Ei Z ?_
   exact Eu<|u7 br (g+1) ⟨Z,Z,frI (by first|exact a2M om (a6K q21)|exact a2M om (a6I om q32)|(rw[a6C q21 om q32];exact a3A om)),Z,trivial⟩ (.refl _) ⟨oz,trivial⟩ oz
 ·refine Eu<|r8 Z<|E.exit<|l2<|l2<|u4<|Et<|Ew Z2<|Em Z<|Ei Z<|Eu<|E.ret<|Fg Z Z () (congrArg (Value.int .i64) (by rw[List.take_of_length_le om])) Z
end Go.Proofs.YthapcdhdfaibkaaGreatDoor
