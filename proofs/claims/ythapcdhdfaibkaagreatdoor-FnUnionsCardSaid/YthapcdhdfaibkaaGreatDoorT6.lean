import Derived.Test.YthapcdhdfaibkaaGreatDoorT1
section
namespace Go.Proofs.YthapcdhdfaibkaaGreatDoor
open Go.RowKit
set_option linter.all false
set_option maxHeartbeats 2000000
attribute [local irreducible] Nop Yd Yp Ent Has Tr FnP FnP2 Src
variable {n o3:Int} {s i7:List Int} {m_s c_s G6 C3:Nat} {a_s C4:Option Addr}
theorem a3U:TB Tryz.prog 342 [.int .i64 n] (λw L=>True) (inR n 0 9):=by
 refine Ti1 Tryz.func342 5 Z λw L hR=>Ew Z1<|Ei Z<|Ev Z3<|Em Z<|E0 Z L8 Z (λ_=>trivial)<|Ei Z<|Eu<|E.ret<|Fg Z Z () Z Z
theorem a7S:TB Tryz.prog 341 [.int .i64 n] (λw L=>(I64 n)∧True) (!inR n 0 9):=by
 refine Ti1 Tryz.func341 6 Z λw L hR=>?_
 obtain ⟨i6n,_⟩:=hR
 refine Ew Z1<|Ei Z<|Ev Z4<|Em Z<|E0 Z a3U Z (λ_=>trivial)<|Ey Z ((Y.not Z).yd)<|Ei Z<|Eu<|E.ret<|Fb Z Z (by simp_all)
theorem a9W {a_l:Option Addr} {m_l c_l:Nat} {l:List Int}:TB Tryz.prog 281 [.slice a_l m_l c_l] (λw L=>Ro w L eIs [.slice a_l m_l c_l] l) (S3 l):=by
 refine Ti1 Tryz.func281 6 Z λw L hR=>?_
 have hl:=hR
 obtain ⟨rfl,ll⟩:=hl.slen
 refine Ew Z1<|Ei Z<|Ev Z4<|Em Z<|E0 Z (a0c (f:=(λn=> !inR n 0 9)) (D_f:=(λ_=>True)) (by intros;exact trivial)) Z (λhA=>⟨hA.ro hl,a3p (D:=(λ_=>True)) (λhd=>a7S)<|λw' hk=>trivial⟩)<|Ey Z ((Y.not Z).yd)<|Ei Z<|Eu<|E.ret<|Fb Z Z (by rfl)
theorem b3y:TB Tryz.prog 187 [.slice a_s m_s c_s,.agg #[.int .i64 o3,.slice C4 G6 C3]] (λw L=>Ro w L eIs [.slice a_s m_s c_s] s∧I64 o3∧Ro w L eIs [.slice C4 G6 C3] i7) (N9 s (o3,i7)):=by
 refine Ti2 Tryz.func187 25 Z λw L hR=>?_
 obtain ⟨hs,L4,z8⟩:=hR
 obtain ⟨rfl,ls⟩:=hs.slen
 obtain ⟨rfl,Y6⟩:=z8.slen
 refine Ew Z2<|Est Z (N.box (cs:=[_,_]) Z dc Z)<|λb3 _=>Ei Z<|Eu<|Eq_<|D.region (λj=>true) mixed<|Dm 0 Z<|Df 1 2 fo_Fact_0 j8 Z (Hz m0 0 Z)<|D0 3 Z a4o Z (λhA=>hA.ro hs)<|Ent.b (λq8=>?_)<|λq8=>?_
 ·obtain ⟨z1,z2,_,_⟩:=a0R q8
  refine Dm 4 Z<|Df 5 6 fo_Fact_1 ty_Is Z (Hz m0 1 Z)<|Dyp 7 Z (Y.len us_Is Z)<|Dm 8 Z<|Df 9 10 fo_Fact_0 j8 Z (Hz m0 0 Z) ?_
  obtain ⟨eb16,eo16,ea16,ei16,eh16⟩:=hs.elemI o3.toNat om
  refine Dyp 11 Z (y6 us_Is j8 Z ea16 Z o3.toNat om om)<|Dy 12 Z (z7 j8 Z (eh16 _) Z)<|Dyp 13 Z (Y.eql Z Z)<|l3 (λq18=>?_)<|λq18=>?_
  ·refine Dyp 14 Z (J9 Z Z)<|Dm 15 Z<|Df 16 17 fo_Fact_1 ty_Is Z (Hz m0 1 Z)<|D0 18 Z a9W Z (λhA=>hA.ro z8)<|Dyp 19 Z (J9 Z Z)<|Dyp 20 Z (E5 Z)<|o4 kr<|Et<|E.ret<|Fb Z Z (by exact b2U (f:=(o3,i7)) q8 (F8 (i:=o3) (show o3.toNat<s.length by omega)) q18)
  ·refine Dyp 14 Z (J9 Z Z)<|Dm 15 Z<|Dsk 16 Z<|Dsk 17 Z<|Dsk 18 Z<|Dyp 19 Z (J3 Z Z)<|Dyp 20 Z (E5 Z)<|o4 kr<|Et<|E.ret<|Fb Z Z (by exact b1j (F8 (i:=o3) (show o3.toNat<s.length by omega)) q18)
 ·refine Dm 4 Z<|Dsk 5 Z<|Dsk 6 Z<|Dsk 7 Z<|Dsk 8 Z<|Dsk 9 Z<|Dsk 10 Z<|Dsk 11 Z<|Dsk 12 Z<|Dsk 13 Z<|Dyp 14 Z (J3 Z Z)<|Dm 15 Z<|Dsk 16 Z<|Dsk 17 Z<|Dsk 18 Z<|Dyp 19 Z (J3 Z Z)<|Dyp 20 Z (E5 Z)<|o4 kr<|Et<|E.ret<|Fb Z Z (by exact a6R q8)
theorem b3s:TB Tryz.prog 101 [.slice a_s m_s c_s,.agg #[.int .i64 o3,.slice C4 G6 C3]] (λw L=>Ro w L eIs [.slice a_s m_s c_s] s∧I64 o3∧Ro w L eIs [.slice C4 G6 C3] i7) (N9 s (o3,i7)):=by
 refine Ti2 Tryz.func101 43 Z λw L hR=>?_
 obtain ⟨hs,L4,z8⟩:=hR
 obtain ⟨rfl,ls⟩:=hs.slen
 obtain ⟨rfl,Y6⟩:=z8.slen
 refine Ew Z2<|Est Z (N.box (cs:=[_,_]) Z dc Z)<|λb3 _=>Ei Z<|Eu<|Eq_<|Eq_<|D.region (λj=>true) mixed<|Dm 0 Z<|D0 1 Z M7 Z (λhA=>hA.ro hs)<|Ent.b (λq7=>?_)<|λq7=>?_
 ·refine Dyp 2 Z (Y.not (b:=true) Z)<|Dm 3 Z<|Df 4 5 fo_Fact_0 j8 Z (Hz m0 0 Z)<|Dm 6 Z<|Dyp 7 Z (Y.len us_Is Z)<|Dyp 8 Z (Y.sub Z Z om om)<|D0 9 Z H3 Z (λ_=>trivial)<|Ent.b (λq15=>?_)<|λq15=>?_
  ·have y1:N8 s o3=true:=by rw[N8,q7,q15];rfl
   obtain ⟨z1,z2,_,_⟩:=a0R y1
   refine Dyp 10 Z (Y.not (b:=true) Z)<|Dyp 11 Z (J3 Z Z)<|Dm 12 Z<|Df 13 14 fo_Fact_1 ty_Is Z (Hz m0 1 Z)<|Dyp 15 Z (Y.len us_Is Z)<|Dm 16 Z<|Df 17 18 fo_Fact_0 j8 Z (Hz m0 0 Z) ?_
   obtain ⟨eb25,eo25,ea25,ei25,eh25⟩:=hs.elemI o3.toNat om
   refine Dyp 19 Z (y6 us_Is j8 Z ea25 Z o3.toNat om om)<|Dy 20 Z (z7 j8 Z (eh25 _) Z)<|Dyp 21 Z (Y.neq Z Z)<|l3 (λq27=>?_)<|λq27=>?_
   ·refine Dyp 22 Z (J3 Z Z)<|o4 kr<|Et<|r9 Z<|Ew Z1<|Ei Z<|Eu<|E.ret<|a5h<|Fb Z Z (by exact b1j (F8 (i:=o3) (show o3.toNat<s.length by omega)) q27)
   ·refine Dyp 22 Z (J3 Z Z)<|o4 kr<|Et<|Cf<|Eq_<|Ew Z1<|Ei Z<|Eu<|E.block<|Lo (κ:=Nat) (λg=>g≤i7.length∧∀x∈i7.take g,(!inR x 0 9)=false) (λg=>[(3,.pointer<|some ⟨b3,0,none⟩),(5,.int .i64 (g:Int))]) (λg=>[pt b3 85 [.int .i64 o3,.slice C4 i7.length C3]]) (λg=>i7.length-g) 0 ⟨by omega,by simp⟩<|λg pg=>?_
    obtain ⟨pk,pa⟩:=pg
    refine Eq_<|Ew Z5<|Em Z<|Lz fo_Fact_1 ty_Is Z m0 Z<|Yln us_Is Z<|Ylt Z<|l3 (λq33=>?_)<|λq33=>?_
    ·refine Eu<|Ct<|Eq_<|E.block<|Ew Z7<|Lz fo_Fact_1 ty_Is Z m0 Z<|Em Z ?_
     obtain ⟨eb39,eo39,ea39,ei39,eh39⟩:=z8.elemI g om
     refine Il us_Is j8 Z ea39 g Z om Z (eh39 _)<|E0 Z H3 Z (λ_=>trivial)<|Ent.b (λq41=>?_)<|λq41=>?_
     ·refine Yno true Z<|Eu<|r8 Z<|v6<|o6<|Et<|Ez Z3<|Em Z<|Yad Z om om<|Ei Z ?_
      exact Eu<|u7 br (g+1) ⟨Z,Z,trivial⟩ (.refl _) ⟨by omega,X3 om pa (by rw[q41];rfl)⟩ om
     ·refine Yno false Z<|Eu<|r9 Z<|Ew Z1<|Ei Z ?_
      exact Eu<|E.ret<|v7<|a5h<|a5h<|v7<|a5h<|Fb Z Z (by exact b7A (by rw[S3,b1z (k:=g) (show g<i7.length by omega) (by rw[q41];rfl)];rfl))
    ·refine Eu<|r8 Z<|E.exit<|l2<|l2<|u4<|Et<|Ew Z1<|Ei Z ?_
     exact Eu<|E.ret<|Fb Z Z (by rw[←b2U (f:=(o3,i7)) y1 (F8 (i:=o3) (show o3.toNat<s.length by omega)) (show (i7.length:Int)=s[o3.toNat] by omega),S3,b0f (show ¬g<i7.length by omega) pa];rfl)
  ·refine Dyp 10 Z (Y.not (b:=false) Z)<|Dyp 11 Z (J3 Z Z)<|Dm 12 Z<|Dsk 13 Z<|Dsk 14 Z<|Dsk 15 Z<|Dsk 16 Z<|Dsk 17 Z<|Dsk 18 Z<|Dsk 19 Z<|Dsk 20 Z<|Dsk 21 Z<|Dyp 22 Z (J9 Z Z)<|o4 kr<|Et<|r9 Z<|Ew Z1<|Ei Z<|Eu<|E.ret<|a5h<|Fb Z Z (by exact a6R (c0G q15))
 ·refine Dyp 2 Z (Y.not (b:=false) Z)<|Dm 3 Z<|Dsk 4 Z<|Dsk 5 Z<|Dsk 6 Z<|Dsk 7 Z<|Dsk 8 Z<|Dsk 9 Z<|Dsk 10 Z<|Dyp 11 Z (J9 Z Z)<|Dm 12 Z<|Dsk 13 Z<|Dsk 14 Z<|Dsk 15 Z<|Dsk 16 Z<|Dsk 17 Z<|Dsk 18 Z<|Dsk 19 Z<|Dsk 20 Z<|Dsk 21 Z<|Dyp 22 Z (J9 Z Z)<|o4 kr<|Et<|r9 Z<|Ew Z1<|Ei Z<|Eu<|E.ret<|a5h<|Fb Z Z (by exact a6R (b8j q7))
end Go.Proofs.YthapcdhdfaibkaaGreatDoor
end
section
namespace Go.Proofs.YthapcdhdfaibkaaGreatDoor
open Go.RowKit
set_option linter.all false
set_option maxHeartbeats 2000000
attribute [local irreducible] Nop Yd Yp Ent Has Tr FnP FnP2 Src
variable {t term:Int} {c6:List IL} {s l0 i8 d9:List Int} {m_s c_s I6 E4 C1 w9 u5 r6 s9 o0:Nat} {a_s E3 w8 r7 o1:Option Addr}
theorem a1g (hz:s.length≤1048576):TL Tryz.prog 242 [.slice a_s m_s c_s] (λw L=>Ro w L eIs [.slice a_s m_s c_s] s) eIs s:=by
 refine Ti1 Tryz.func242 8 Z λw L hR=>?_
 have hs:=hR
 obtain ⟨rfl,ls⟩:=hs.slen
 refine Ew Z1<|Ei Z<|Eu<|Eq_<|Ew Z2<|Em Z<|Ey Z ((b5H us_Is Z Z).yd)<|Ent.b (λq4=>?_)<|λq4=>?_
 ·refine Eu<|r9 Z<|Ew Z1<|Ei Z<|Eu<|E.ret<|a5h<|m8 (A:=[]) (Own.nil (E:=Enc.int) (e:=tI) (a:=none)) Z<|g9 (congrArg (ow eIs [_]) (show _=s by (cases a_s with|none=>exact hs.none_nil.symm|some x=>cases q4)))<|Fg Z Z (none,0,0) Z Z
 ·refine Eu<|Cf<|Ew Z4<|Est Z (Nb [] [] us_Is j8 Z Z)<|λb5 _=>Ent.drop<|Em Z<|Est Z (M9 (E:=Enc.int) Plain.int us_Is j8 Z Z Z hs bn bn dc)<|λp7 _=>Ei Z<|Eu<|E.ret<|Fg Z Z (_,_,_) Z Z
theorem b2t {v:Int}:Tr Tryz.prog 234 [.slice a_s m_s c_s,.int .i64 v] (λw L=>Ro w L eIs [.slice a_s m_s c_s] s) [] (κ:=Unit) (λk=>True) (λk=>.int .i64 (J0 (λx=>decide (x=v)) s)) (λk=>[]):=by
 refine Ti2 Tryz.func234 19 Z λw L hR=>?_
 have hs:=hR
 obtain ⟨rfl,ls⟩:=hs.slen
 refine Ew Z1<|Ei Z<|Eu<|Eq_<|Ew Z3<|Em Z<|Yln us_Is Z<|Em Z<|Eu<|E.block<|Lo (κ:=Nat) (λg=>g≤s.length∧∀x∈s.take g,decide (x=v)=false) (λg=>[(0,.slice a_s s.length c_s),(1,.int .i64 v),(7,.int .i64 (↑s.length:Int)),(8,.int .i64 (g:Int))]) (λg=>[]) (λg=>s.length-g) 0 ⟨by omega,by simp⟩<|λg pg=>?_
 obtain ⟨pk,pa⟩:=pg
 refine Ew Z1<|Ylt Z<|l3 (λq9=>?_)<|λq9=>?_
 ·refine Eu<|Eq_<|Ct<|Eq_<|E.block<|Ew Z2<|Em Z<|Ei Z<|Ev Z6<|Em Z<|Em Z<|Em Z ?_
  obtain ⟨eb14,eo14,ea14,ei14,eh14⟩:=hs.elemI g om
  refine Il us_Is j8 Z ea14 g Z om Z (eh14 _)<|Yeq Z<|l3 (λq16=>?_)<|λq16=>?_
  ·refine Eu<|r9 Z<|Ew Z2<|Em Z<|Ei Z<|Eu<|E.ret<|v7<|a5h<|a5h<|v7<|a5h<|Fg Z Z () (congrArg (Value.int .i64) (by exact P3 (p:=λx=>decide (x=v)) om pa (decide_eq_true om))) Z
  ·refine Eu<|r8 Z<|v6<|o6<|Et<|Ez Z2<|Yad Z om om<|Em Z ?_
   exact Eu<|u7 br (g+1) rs (.refl _) ⟨by omega,X3 (p:=λx=>decide (x=v)) om pa<|decide_eq_false om⟩ om
 ·refine Eu<|Eq_<|r8 Z<|E.exit<|l2<|l2<|u4<|Et<|Ew Z1<|Ei Z<|Eu<|E.ret<|Fg Z Z () (congrArg (Value.int .i64) (by exact O4 om pa)) Z
theorem a0N:TB Tryz.prog 98 [.int .i64 t] (λw L=>True) (inR t 10 17):=by
 refine Ti1 Tryz.func98 5 Z λw L hR=>Ew Z1<|Ei Z<|Ev Z3<|Em Z<|E0 Z H3 Z (λ_=>trivial)<|Ei Z<|Eu<|E.ret<|Fg Z Z () Z Z
theorem a1E:TB Tryz.prog 122 [.int .i64 t] (λw L=>True) (inR t 10 17):=by
 refine Ti1 Tryz.func122 5 Z λw L hR=>Ew Z1<|Ei Z<|Ev Z3<|Em Z<|E0 Z L8 Z (λ_=>trivial)<|Ei Z<|Eu<|E.ret<|Fg Z Z () Z Z
theorem a3C:Tr Tryz.prog 297 [.agg #[.slice E3 I6 E4,.slice w8 C1 w9],.int .i64 t] (λw L=>Ro w L eIs [.slice E3 I6 E4] l0∧Ro w L eIs [.slice w8 C1 w9] i8) [] (κ:=Unit) (λk=>True) (λk=>.int .i64 (J0 (λx=>decide (x=t)) (l0.take (min l0.length i8.length)))) (λk=>[]):=by
 refine Ti2 Tryz.func297 17 Z λw L hR=>?_
 obtain ⟨E6,y4⟩:=hR
 obtain ⟨rfl,a0M⟩:=E6.slen
 obtain ⟨rfl,R0⟩:=y4.slen
 refine Ew Z2<|Est Z (N.box (cs:=[_,_]) Z dc Z)<|λb2 _=>Ei Z<|Ev Z13<|Lz fo_Binding_0 ty_Is Z m0 Z<|Lz fo_Binding_0 ty_Is Z m0 Z<|Yln us_Is Z<|Lz fo_Binding_1 ty_Is Z m0 Z<|Yln us_Is Z<|Ey Z ((c4W (a:=l0.length) (b:=i8.length) Z Z).yd) ?_
 have rs14:=E6.upto (min l0.length i8.length) om
 have rl14:=rs14.slen.1
 have rc14:=E6.cap
 refine Ey Z ((a2T (h:=min l0.length i8.length) us_Is j8 Z Z om).yd)<|Em Z<|E0 Z b2t Z (λhA=>hA.ro rs14)<|Ei Z<|Eu<|E.ret<|Fg Z Z () Z Z
theorem a0L:Tr Tryz.prog 195 [.agg #[.slice E3 I6 E4,.slice w8 C1 w9],.int .i64 term] (λw L=>Ro w L eIs [.slice E3 I6 E4] l0∧Ro w L eIs [.slice w8 C1 w9] i8) [] (κ:=Unit) (λk=>True) (λk=>.int .i64 (y9 (l0,i8) term)) (λk=>[]):=by
 refine Ti2 Tryz.func195 20 Z λw L hR=>?_
 obtain ⟨E6,y4⟩:=hR
 obtain ⟨rfl,a0M⟩:=E6.slen
 obtain ⟨rfl,R0⟩:=y4.slen
 refine Ew Z2<|Est Z (N.box (cs:=[_,_]) Z dc Z)<|λb2 _=>Ei Z<|Eu<|Eq_<|Ew Z3<|Em Z<|E0 Z a1E Z (λ_=>trivial)<|Ent.b (λq7=>?_)<|λq7=>?_
 ·refine Yno true Z<|Eu<|Cf<|Ew Z4<|Ey Z (l4 (cs:=[_,_]) ty_Binding Z (Has.pt m0) Z)<|Em Z<|E0 Z a3C Z (λhA=>⟨hA.ro E6,hA.ro y4⟩)<|Ei Z<|Eu<|Eq_<|Ew Z2<|Em Z<|Ylt Z<|l3 (λq14=>?_)<|λq14=>?_
  ·refine Eu<|r9 Z<|Ew Z1<|Ei Z<|Eu<|E.ret<|a5h<|Fg Z Z () (congrArg (Value.int .i64) (by exact b4q q7 q14)) Z
  ·obtain ⟨z1,z2⟩:=a8e q14
   rw[List.length_take] at z2
   refine Eu<|Cf<|Ew Z6<|Lz fo_Binding_1 ty_Is Z m0 Z<|Em Z ?_
   obtain ⟨eb18,eo18,ea18,ei18,eh18⟩:=y4.elemI ((J0 (λx=>decide (x=term)) (l0.take (min l0.length i8.length))).toNat) om
   refine Il us_Is j8 Z ea18 ((J0 (λx=>decide (x=term))<|l0.take<|min l0.length i8.length).toNat) om om Z (eh18 _)<|Ei Z<|Eu<|E.ret<|Fg Z Z () (congrArg (Value.int .i64) (by exact c0k (b:=(l0,i8)) q7 q14 (show (J0 (λx=>decide (x=term))<|l0.take<|min l0.length i8.length).toNat<i8.length by omega))) Z
 ·refine Yno false Z<|Eu<|r9 Z<|Ew Z2<|Em Z<|Ei Z<|Eu<|E.ret<|a5h<|Fg Z Z () (congrArg (Value.int .i64) (by exact X0 q7)) Z
theorem a2F:Tr Tryz.prog 207 [.agg #[.slice E3 I6 E4,.slice w8 C1 w9],.int .i64 term] (λw L=>Ro w L eIs [.slice E3 I6 E4] l0∧Ro w L eIs [.slice w8 C1 w9] i8) [] (κ:=Unit) (λk=>True) (λk=>.int .i64 (y9 (l0,i8) term)) (λk=>[]):=by
 refine Ti2 Tryz.func207 36 Z λw L hR=>?_
 obtain ⟨E6,y4⟩:=hR
 obtain ⟨rfl,a0M⟩:=E6.slen
 obtain ⟨rfl,R0⟩:=y4.slen
 refine Ew Z2<|Est Z (N.box (cs:=[_,_]) Z dc Z)<|λb2 _=>Ei Z<|Eu<|Eq_<|Ew Z3<|Em Z<|E0 Z a0N Z (λ_=>trivial)<|Ent.b (λq7=>?_)<|λq7=>?_
 ·refine Yno true Z<|Eu<|Cf<|Eq_<|Ew Z1<|Ei Z<|Eu<|E.block<|Lo (κ:=Nat) (λg=>(g≤l0.length∧g≤i8.length)∧∀x∈l0.take g,decide (x=term)=false) (λg=>[(1,.int .i64 term),(2,.pointer<|some ⟨b2,0,none⟩),(5,.int .i64 (g:Int))]) (λg=>[pt b2 114 [.slice E3 l0.length E4,.slice w8 i8.length w9]]) (λg=>l0.length-g) 0 ⟨by omega,by simp⟩<|λg pg=>?_
  obtain ⟨pk,pa⟩:=pg
  refine Eq_<|Ew Z12<|Em Z<|Lz fo_Binding_0 ty_Is Z m0 Z<|Yln us_Is Z<|Ylt Z<|l3 (λq14=>?_)<|λq14=>?_
  ·refine Em Z<|Em Z<|Lz fo_Binding_1 ty_Is Z m0 Z<|Yln us_Is Z<|Ylt Z<|l3 (λq20=>?_)<|λq20=>?_
   ·refine Ypt Z<|Eu<|Ct<|Eq_<|E.block<|Ew Z7<|Lz fo_Binding_0 ty_Is Z m0 Z<|Em Z ?_
    obtain ⟨eb27,eo27,ea27,ei27,eh27⟩:=E6.elemI g om
    refine Il us_Is j8 Z ea27 g Z om Z (eh27 _)<|Em Z<|Yeq Z<|l3 (λq30=>?_)<|λq30=>?_
    ·refine Eu<|r9 Z<|Ew Z6<|Lz fo_Binding_1 ty_Is Z m0 Z<|Em Z ?_
     obtain ⟨eb34,eo34,ea34,ei34,eh34⟩:=y4.elemI g om
     refine Il us_Is j8 Z ea34 g Z om Z (eh34 _)<|Ei Z<|Eu<|E.ret<|v7<|a5h<|a5h<|v7<|a5h<|Fg Z Z () (congrArg (Value.int .i64) (by exact a4O (b:=(l0,i8)) q7 (show g<l0.length by omega) (show g<i8.length by omega) om pa)) Z
    ·refine Eu<|r8 Z<|v6<|o6<|Et<|Ez Z3<|Em Z<|Yad Z om om<|Ei Z ?_
     exact Eu<|u7 br (g+1) rs (.refl _) ⟨by omega,X3 (p:=λx=>decide (x=term)) (show g<l0.length by omega) pa<|decide_eq_false q30⟩ om
   ·refine Ypt Z<|Eu<|r8 Z<|E.exit<|l2<|l2<|u4<|Et<|Ew Z1<|Ei Z<|Eu<|E.ret<|Fg Z Z () (congrArg (Value.int .i64) (by exact b2Q (b:=(l0,i8)) q7 (g:=g) (show ¬(g<l0.length∧g<i8.length) by omega) pa)) Z
  ·refine Em Z<|Es Z<|Es Z<|Es Z<|Es Z<|Es Z<|Ypf Z<|Eu<|r8 Z<|E.exit<|l2<|l2<|u4<|Et<|Ew Z1<|Ei Z<|Eu<|E.ret<|Fg Z Z () (congrArg (Value.int .i64) (by exact b2Q (b:=(l0,i8)) q7 (g:=g) (show ¬(g<l0.length∧g<i8.length) by omega) pa)) Z
 ·refine Yno false Z<|Eu<|r9 Z<|Ew Z2<|Em Z<|Ei Z<|Eu<|E.ret<|a5h<|Fg Z Z () (congrArg (Value.int .i64) (by exact X0 q7)) Z
theorem a6p (hz:d9.length≤1048576):TL Tryz.prog 253 [.agg #[.slice r7 u5 r6,.slice o1 s9 o0],.agg #[.slice E3 I6 E4,.slice w8 C1 w9]] (λw L=>Ro w L eIs [.slice r7 u5 r6] d9∧Ro w L v8 [.slice o1 s9 o0] c6∧Ro w L eIs [.slice E3 I6 E4] l0∧Ro w L eIs [.slice w8 C1 w9] i8) eIs (d9.map (y9 (l0,i8))):=by
 refine Ti2 Tryz.func253 26 Z λw L hR=>?_
 obtain ⟨s7,o2,E6,y4⟩:=hR
 obtain ⟨rfl,I8⟩:=s7.slen
 obtain ⟨rfl,G9⟩:=o2.slen
 obtain ⟨rfl,a0M⟩:=E6.slen
 obtain ⟨rfl,R0⟩:=y4.slen
 have jv:=a8o (b:=(l0,i8)) (l:=d9) s7.i64 E6.i64 y4.i64
 refine Ew Z3<|Est Z (N.box (cs:=[_,_]) Z dc Z)<|λb2 _=>Est Z (N.box (cs:=[_,_]) Z dc Z)<|λb3 _=>Ei Z<|Ev Z2<|Est Z (Nb [] [] us_Is j8 Z Z)<|λb7 _=>Ent.drop<|Ei Z<|Eu<|Eq_<|Ew Z1<|Ei Z<|Eu<|E.block<|m8 (A:=[]) (Own.nil (E:=Enc.int) (e:=tI) (a:=(some ⟨b7,0,none⟩))) Z<|g9 (congrArg (ow eIs [_]) (show _=(d9.take 0).map (y9 (l0,i8)) from by first|rfl|(simp;done)|grind[d1,d2,t1,t2]))<|Lo (κ:=Nat×SL) (λg=>g.1≤d9.length∧True) (λg=>[(2,.pointer<|some ⟨b2,0,none⟩),(3,.pointer<|some ⟨b3,0,none⟩),(5,.slice g.2.1 g.2.2.1 g.2.2.2),(6,.int .i64 (↑g.1:Int))]) (λg=>[ow eIs [.slice g.2.1 g.2.2.1 g.2.2.2]<|(d9.take g.1).map (y9 (l0,i8)),pt b3 114 [.slice E3 l0.length E4,.slice w8 i8.length w9],pt b2 28 [.slice r7 d9.length r6,.slice o1 c6.length o0]]) (λg=>d9.length-g.1) (0,(some ⟨b7,0,none⟩),0,0) ⟨Nat.zero_le _,by simp⟩<|λg pg=>?_
 obtain ⟨g,aA0_0,mA0_0,cA0_0⟩:=g
 try dsimp only at pg
 try dsimp only
 obtain ⟨pk,pa⟩:=pg
 refine f0 m0 ?_
 rintro rfl laA0_0
 refine Eq_<|Ew Z5<|Em Z<|Lz fo_Query_0 ty_Is Z (mS<|mS m0) Z<|Yln us_Is Z<|Ylt Z<|l3 (λq12=>?_)<|λq12=>?_
 ·refine Eu<|Ct<|Eq_<|E.block<|D.region (λj=> !(Nat.beq j 9)) mixed<|Dm 0 Z<|Dy 1 Z (l4 (cs:=[_,_]) ty_Binding Z (Has.pt<|mS m0) Z)<|Df 2 3 fo_Query_0 ty_Is Z (Hz (mS<|mS m0) 0 Z)<|Dm 4 Z ?_
  obtain ⟨eb20,eo20,ea20,ei20,eh20⟩:=s7.elemI g om
  refine Dyp 5 Z (y6 us_Is j8 Z ea20 Z g Z om)<|Dy 6 Z (z7 j8 Z (eh20 _) Z)<|D0 7 Z a2F Z (λhA=>⟨hA.ro E6,hA.ro y4⟩)<|w6 8 Z Z kr (λ_=>rfl) (Nb [_] [_] us_Is j8 Z Z)<|λb23 _=>d8<|w6 9 Z Z kr (λh=>by cases h) (w3 (E:=Enc.int) (ex:=y9 (l0,i8) d9[g]) us_Is j8 Z Z Z (Own.int i6) Z bn bn dc)<|λp24 _=>Dyp 10 Z (E5 Z)<|o4 kr<|o6<|Et<|Ez Z3<|Em Z<|Yad Z om om<|Ei Z<|Eu<|g9 (congrArg (ow eIs [_]) (show _=(d9.take<|g+1).map (y9 (l0,i8)) from by grind[d1,d2,t1,t2]))<|i9<|i9<|i9 ?_
  exact Ea (g+1,p24.1,(((d9.take g).map (y9 (l0,i8))).length+1),p24.2) ⟨oz,trivial⟩
 ·refine Eu<|r8 Z<|E.exit<|l2<|l2<|u4<|Et<|Ew Z2<|Em Z<|Ei Z<|Eu<|E.ret<|g9 (congrArg (ow eIs [_]) (show _=d9.map (y9 (l0,i8)) by grind[d1,d2,t1,t2]))<|Fg Z Z (_,_,_) Z Z
theorem a2L (hz:d9.length≤1048576):TL Tryz.prog 202 [.agg #[.slice r7 u5 r6,.slice o1 s9 o0],.agg #[.slice E3 I6 E4,.slice w8 C1 w9]] (λw L=>Ro w L eIs [.slice r7 u5 r6] d9∧Ro w L v8 [.slice o1 s9 o0] c6∧Ro w L eIs [.slice E3 I6 E4] l0∧Ro w L eIs [.slice w8 C1 w9] i8) eIs (d9.map (y9 (l0,i8))):=by
 refine Ti2 Tryz.func202 24 Z λw L hR=>?_
 obtain ⟨s7,o2,E6,y4⟩:=hR
 obtain ⟨rfl,I8⟩:=s7.slen
 obtain ⟨rfl,G9⟩:=o2.slen
 obtain ⟨rfl,a0M⟩:=E6.slen
 obtain ⟨rfl,R0⟩:=y4.slen
 have jv:=a8o (b:=(l0,i8)) (l:=d9) s7.i64 E6.i64 y4.i64
 refine Ew Z3<|Est Z (N.box (cs:=[_,_]) Z dc Z)<|λb2 _=>Est Z (N.box (cs:=[_,_]) Z dc Z)<|λb3 _=>Ei Z<|Ev Z2<|Est Z (Nb [] [] us_Is j8 Z Z)<|λb8 _=>Ent.drop<|Ei Z<|Eu<|Eq_<|Ew Z4<|Lz fo_Query_0 ty_Is Z (mS m0) Z<|Yln us_Is Z<|Em Z<|Eu<|E.block<|m8 (A:=[]) (Own.nil (E:=Enc.int) (e:=tI) (a:=(some ⟨b8,0,none⟩))) Z<|g9 (congrArg (ow eIs [_]) (show _=(d9.take 0).map (y9 (l0,i8)) from by first|rfl|(simp;done)|grind[d1,d2,t1,t2]))<|Lo (κ:=Nat×SL) (λg=>g.1≤d9.length∧True) (λg=>[(3,.pointer<|some ⟨b3,0,none⟩),(5,.slice g.2.1 g.2.2.1 g.2.2.2),(10,.slice r7 d9.length r6),(11,.int .i64 (↑d9.length:Int)),(12,.int .i64 (↑g.1:Int))]) (λg=>[ow eIs [.slice g.2.1 g.2.2.1 g.2.2.2]<|(d9.take g.1).map (y9 (l0,i8)),pt b3 114 [.slice E3 l0.length E4,.slice w8 i8.length w9],pt b2 28 [.slice r7 d9.length r6,.slice o1 c6.length o0]]) (λg=>d9.length-g.1) (0,(some ⟨b8,0,none⟩),0,0) ⟨Nat.zero_le _,by simp⟩<|λg pg=>?_
 obtain ⟨g,aA0_0,mA0_0,cA0_0⟩:=g
 try dsimp only at pg
 try dsimp only
 obtain ⟨pk,pa⟩:=pg
 refine f0 m0 ?_
 rintro rfl laA0_0
 refine Ew Z1<|Ylt Z<|l3 (λq13=>?_)<|λq13=>?_
 ·obtain ⟨eb14,eo14,ea14,ei14,eh14⟩:=s7.elemI g om
  refine Eu<|Eq_<|Ct<|Eq_<|E.block<|Ew Z3<|Il us_Is j8 Z ea14 g Z om Z (eh14 _)<|Ei Z<|Eu<|Ez Z7<|Em Z<|Ey Z (l4 (cs:=[_,_]) ty_Binding Z (Has.pt<|mS m0) Z)<|Em Z<|E0 Z a0L Z (λhA=>⟨hA.ro E6,hA.ro y4⟩)<|Est Z (Nb [_] [_] us_Is j8 Z Z)<|λb20 _=>d8<|Est Z (w3 (E:=Enc.int) (ex:=y9 (l0,i8) d9[g]) us_Is j8 Z Z Z (Own.int i6) Z bn bn dc)<|λp21 _=>Ei Z<|En<|o6<|Et<|Ez Z2<|Yad Z om om<|Em Z<|Eu<|g9 (congrArg (ow eIs [_]) (show _=(d9.take<|g+1).map (y9 (l0,i8)) from by grind[d1,d2,t1,t2]))<|i9<|i9<|i9 ?_
  exact Ea (g+1,p21.1,(((d9.take g).map (y9 (l0,i8))).length+1),p21.2) ⟨oz,trivial⟩
 ·refine Eu<|Eq_<|r8 Z<|E.exit<|l2<|l2<|u4<|Et<|Ew Z2<|Em Z<|Ei Z<|Eu<|E.ret<|g9 (congrArg (ow eIs [_]) (show _=d9.map (y9 (l0,i8)) by grind[d1,d2,t1,t2]))<|Fg Z Z (_,_,_) Z Z
end Go.Proofs.YthapcdhdfaibkaaGreatDoor
end
