import Derived.Test.YthapcdhdfaibkaaGreatDoorBe
section
namespace Go.Proofs.YthapcdhdfaibkaaGreatDoor
open Go.RowKit
set_option linter.all false
theorem kr {α:Sort _} {a b:α} (h:a=b:=by kernel_rfl):a=b:=h
theorem dc {p:Prop} [i:Decidable p] (h:p:=by decide):p:=h
theorem om {p:Prop} (h:p:=by omega):p:=h
theorem oz {p:Prop} (h:p:=by (try dsimp only);omega):p:=h
theorem rs {p:Prop} (h:p:=by repeat' constructor):p:=h
theorem bl {a b:Nat} (h:Nat.ble a b=true:=by rfl):a≤b:=Nat.le_of_ble_eq_true h
theorem fo {p:Prop} (h:p:=by first|omega|assumption):p:=h
theorem fc {p:Prop} (h:p:=by first|omega|assumption|(constructor<;>omega)):p:=h
theorem mx {p:Prop} (h:p:=by unfold maxLen;omega):p:=h
theorem bn {p:Prop} (h:p:=by first|omega|(simp only[List.length_map,List.length_take,List.length_append,List.length_drop,List.length_cons,List.length_nil];omega)):p:=h
theorem i6 {p:Prop} (h:p:=by first|assumption|(unfold I64;(try dsimp only);omega)|grind):p:=h
theorem br {w:World} {L:List Nat}:a0G w L w L:=a0G.refl w L
theorem d1 {α:Type} {l:List α} {i:Nat} (h:i<l.length):l.drop i=l[i]::l.drop (i+1):=List.drop_eq_getElem_cons h
theorem d2 {α:Type} {l:List α} {i:Nat} (h:l.length≤i):l.drop i=[]:=List.drop_eq_nil_of_le h
theorem t1 {α:Type} {l:List α} {i:Nat} (h:i<l.length):l.take (i+1)=l.take i++[l[i]]:=List.take_succ_eq_append_getElem h
theorem t2 {α:Type} {l:List α} {i:Nat} (h:l.length≤i):l.take i=l:=List.take_of_length_le h
section
variable {P:Program} {Q:Exit→Act→World→Prop} {n:Nat} {w0:World} {L0:List Nat} {fr:Fr} {H:List HP} {ops:Array Oper} {i:Nat} {rest:List Nat} {op:Op} {d:Nat} {ty:TypeId} {pos:String} {af:Array Edge} {g:Option (Nat×Bool)} {v:Value}
theorem En (h:Ent n w0 L0 fr H (Q .normal)):Ent n w0 L0 fr H (wpOps P ops Q []):=E.nil h
theorem Et {K:Act→World→Prop} (h:Ent n w0 L0 fr H K):Ent n w0 L0 fr H (Exit.then K Q .normal):=b7S h
theorem Eq_ {x y:Code} (h:Ent n w0 L0 fr H (x.wp P (Exit.then (y.wp P Q) Q))):Ent n w0 L0 fr H ((Code.seq x y).wp P Q):=E.seq h
theorem Ey (ho:ops[i]? =some ⟨some d,op,ty,pos,af,g⟩) (hy:Yd P n w0 L0 fr H op v) (h:Ent n w0 L0 ((d,v)::fr) H (wpOps P ops Q rest)) (hg:N6 ops fr g=some true:=by rfl) (hd:d<n:=by decide):
  Ent n w0 L0 fr H (wpOps P ops Q (i::rest)):=E.y ho hg hd hy h
theorem Emv {x:Operand} (ho:ops[i]? =some ⟨some d,.move x,ty,pos,af,g⟩) (hx:ev fr x=some v) (h:Ent n w0 L0 ((d,v)::fr) H (wpOps P ops Q rest)) (hg:N6 ops fr g=some true:=by rfl) (hd:d<n:=by decide):
  Ent n w0 L0 fr H (wpOps P ops Q (i::rest)):=E.y ho hg hd (P5 hx).yd h
theorem Eas {x:Operand} (ho:ops[i]? =some ⟨some d,.assign x,ty,pos,af,g⟩) (hx:ev fr x=some v) (h:Ent n w0 L0 ((d,v)::fr) H (wpOps P ops Q rest)) (hg:N6 ops fr g=some true:=by rfl) (hd:d<n:=by decide):
  Ent n w0 L0 fr H (wpOps P ops Q (i::rest)):=E.y ho hg hd (E5 hx).yd h
theorem Es {dst:Option Tmp} (ho:ops[i]? =some ⟨dst,op,ty,pos,af,g⟩) (h:Ent n w0 L0 fr H (wpOps P ops Q rest)) (hg:N6 ops fr g=some false:=by rfl) (hfr:(dst.bind λd'=>fr.lookup d')=none:=by rfl):
  Ent n w0 L0 fr H (wpOps P ops Q (i::rest)):=E.skip ho hg hfr h
theorem Est {dst:Option Tmp} {κ:Type} {fr':κ→Fr} {H':κ→List HP} {φ:κ→Prop} {q:Bool} (ho:ops[i]? =some ⟨dst,op,ty,pos,af,g⟩)
  (hn:Nop P Q n w0 L0 fr H ⟨dst,op,ty,pos,af,g⟩ q fr' H' φ) (h:∀k,φ k→Ent n w0 L0 (fr' k) (H' k) (wpOps P ops Q rest)) (hg:N6 ops fr g=some true:=by rfl):Ent n w0 L0 fr H (wpOps P ops Q (i::rest)):=c0J ho hg hn h
end
section
variable {P:Program} {Q:Exit→Act→World→Prop} {n:Nat} {w0:World} {L0:List Nat} {fr:Fr} {H:List HP} {ops:Array Oper} {qt:Nat→Bool} {fuel:Nat} {listed:Array Bool} {op:Op} {d:Nat} {ty:TypeId} {pos:String} {af:Array Edge} {g:Option (Nat×Bool)} {v:Value}
theorem Dy (i:Nat) [hQ:NoPan Q] (ho:ops[i]? =some ⟨some d,op,ty,pos,af,g⟩) (hy:Yd P n w0 L0 fr H op v)
  (h:Ent n w0 L0 ((d,v)::fr) H (T9 P ops Q qt fuel (listed.setIfInBounds i true))) (hg:N6 ops fr g=some true:=by rfl) (hd:d<n:=by decide) (hk:Z0 ops qt false listed i=true:=by kernel_rfl):Ent n w0 L0 fr H (T9 P ops Q qt (fuel+1) listed):=D.y i ho hg hd hy hk h
theorem Dyp (i:Nat) [hQ:NoPan Q] (ho:ops[i]? =some ⟨some d,op,ty,pos,af,g⟩) (hy:Yp P n fr op v)
  (h:Ent n w0 L0 ((d,v)::fr) H (T9 P ops Q qt fuel (listed.setIfInBounds i true))) (hg:N6 ops fr g=some true:=by rfl) (hd:d<n:=by decide) (hk:Z0 ops qt true listed i=true:=by kernel_rfl):Ent n w0 L0 fr H (T9 P ops Q qt (fuel+1) listed):=c0L i ho hg hd hy hk h
theorem Dsk (i:Nat) {dst:Option Tmp} [hQ:NoPan Q] (ho:ops[i]? =some ⟨dst,op,ty,pos,af,g⟩)
  (h:Ent n w0 L0 fr H (T9 P ops Q qt fuel (listed.setIfInBounds i true))) (hg:N6 ops fr g=some false:=by rfl) (hk:Z0 ops qt true listed i=true:=by kernel_rfl) (hfr:(dst.bind λd'=>fr.lookup d')=none:=by rfl):Ent n w0 L0 fr H (T9 P ops Q qt (fuel+1) listed):=D.skip i ho hg hk hfr h
end
section
variable {P:Program} {Q:Exit→Act→World→Prop} {n:Nat} {w0:World} {L0:List Nat} {fr:Fr} {H R:List HP} {ops:Array Oper} {i:Nat} {rest:List Nat} {d:Nat} {ty:TypeId} {pos:String} {af:Array Edge} {g:Option (Nat×Bool)} {v:Value}
theorem Em {x:Operand} (h0:(ops[i]?,ev fr x)=(some ⟨some d,.move x,ty,pos,af,g⟩,some v)) (h:Ent n w0 L0 ((d,v)::fr) H (wpOps P ops Q rest)) (hg:N6 ops fr g=some true:=by rfl) (hd:d<n:=by decide):Ent n w0 L0 fr H (wpOps P ops Q (i::rest)):=Emv (Prod.mk.inj h0).1 (Prod.mk.inj h0).2 h hg hd
theorem Ei {x:Operand} (h0:(ops[i]?,ev fr x)=(some ⟨some d,.assign x,ty,pos,af,g⟩,some v)) (h:Ent n w0 L0 ((d,v)::fr) H (wpOps P ops Q rest)) (hg:N6 ops fr g=some true:=by rfl) (hd:d<n:=by decide):Ent n w0 L0 fr H (wpOps P ops Q (i::rest)):=Eas (Prod.mk.inj h0).1 (Prod.mk.inj h0).2 h hg hd
theorem Hz {b:Nat} {T:TypeId} {cs:List Value} (hm:pt b T cs∈H) (i:Nat) (he:(cs.drop i).take 1=[v]):Has w0 L0 H b (0+i) [v]:=(Has.pt hm).sub (cs':=[v]) i he
theorem Ns {T T':TypeId} {agg:Bool} {k:Nat} {z:List Value} {by':Nat} {x y:Operand} {b off:Nat} {cs vs:List Value} (cs':List Value) (ht:TyOk P T agg k z by') (h0:(ev fr x,ev fr y,v.cells,vs.length,vs.all (·.oneCell'),cs.take off++vs++cs.drop (off+k))=(some (.pointer (some ⟨b,off,none⟩)),some v,vs.toArray,k,true,cs')) (hfit:Nat.ble (off+k) cs.length=true:=by rfl):
  Nop P Q n w0 L0 fr (pt b T' cs::R) ⟨none,.store T x y,ty,pos,af,g⟩ false (κ:=Unit) (λ_=>fr) (λ_=>pt b T' cs'::R) (λ_=>True):=by
 simp only[Prod.mk.injEq] at h0
 exact b3O ht h0.1 h0.2.1 h0.2.2.1 h0.2.2.2.1 h0.2.2.2.2.1 (Nat.le_of_ble_eq_true hfit) h0.2.2.2.2.2
theorem Nb {T e:TypeId} {agg:Bool} {k len:Nat} {z:List Value} {by':Nat} {ps:Array (Nat×Operand)} (pvs:List (Nat×Value)) (cs:List Value) (hT:P.underlying T=some (.slice e)) (ht:TyOk P e agg k z by')
  (hps:ps.toList.mapM (λp=>(ev fr p.2).map λv=>(p.1,v))=some pvs) (hfill:Instr.fill (λi=>some (i*k,k)) (a1J len z).toArray pvs=some cs.toArray) (hz:z.length=k:=by rfl) (hl:cs.length=len*k:=by rfl) (hd:d<n:=by decide) (hsm:len*k≤16777216:=by decide) (hlm:len≤maxLen:=by decide):
  Nop P Q n w0 L0 fr H ⟨some d,.buildSlice T len ps,ty,pos,af,g⟩ true (κ:=Nat) (λb=>(d,.slice (some ⟨b,0,none⟩) len len)::fr) (λb=>row e k (some ⟨b,0,none⟩) len len cs::H) (λ_=>True):=c4Q hT ht hps hsm hlm (c4C hz hfill) hl hd
end
theorem tv {α:World→List Nat→Prop}:∀w Lp,α w Lp→True:=λ_ _ _=>trivial
abbrev isC (t:Int):Bool:=inR t 0 9
abbrev isV (t:Int):Bool:=inR t 10 17
abbrev Z1:List Nat:=[0]
abbrev Z2:List Nat:=[0,1]
abbrev Z3:List Nat:=[0,1,2]
abbrev Z4:List Nat:=[0,1,2,3]
abbrev Z5:List Nat:=[0,1,2,3,4]
abbrev Z6:List Nat:=[0,1,2,3,4,5]
abbrev Z7:List Nat:=[0,1,2,3,4,5,6]
abbrev Z8:List Nat:=[0,1,2,3,4,5,6,7]
abbrev Z9:List Nat:=[0,1,2,3,4,5,6,7,8]
abbrev Z10:List Nat:=[0,1,2,3,4,5,6,7,8,9]
abbrev Z11:List Nat:=[0,1,2,3,4,5,6,7,8,9,10]
abbrev Z12:List Nat:=[0,1,2,3,4,5,6,7,8,9,10,11]
abbrev Z13:List Nat:=[0,1,2,3,4,5,6,7,8,9,10,11,12]
abbrev Z14:List Nat:=[0,1,2,3,4,5,6,7,8,9,10,11,12,13]
abbrev Z15:List Nat:=[0,1,2,3,4,5,6,7,8,9,10,11,12,13,14]
abbrev Z16:List Nat:=[0,1,2,3,4,5,6,7,8,9,10,11,12,13,14,15]
abbrev Z17:List Nat:=[0,1,2,3,4,5,6,7,8,9,10,11,12,13,14,15,16]
abbrev Z19:List Nat:=[0,1,2,3,4,5,6,7,8,9,10,11,12,13,14,15,16,17,18]
abbrev Z20:List Nat:=[0,1,2,3,4,5,6,7,8,9,10,11,12,13,14,15,16,17,18,19]
abbrev Z21:List Nat:=[0,1,2,3,4,5,6,7,8,9,10,11,12,13,14,15,16,17,18,19,20]
abbrev Z23:List Nat:=[0,1,2,3,4,5,6,7,8,9,10,11,12,13,14,15,16,17,18,19,20,21,22]
abbrev Z26:List Nat:=[0,1,2,3,4,5,6,7,8,9,10,11,12,13,14,15,16,17,18,19,20,21,22,23,24,25]
abbrev Z30:List Nat:=[0,1,2,3,4,5,6,7,8,9,10,11,12,13,14,15,16,17,18,19,20,21,22,23,24,25,26,27,28,29]
abbrev Z35:List Nat:=[0,1,2,3,4,5,6,7,8,9,10,11,12,13,14,15,16,17,18,19,20,21,22,23,24,25,26,27,28,29,30,31,32,33,34]
section
variable {P:Program} {Q Q1 Q2:Exit→Act→World→Prop} {n:Nat} {w0:World} {L0:List Nat} {fr:Fr} {H:List HP} {ops ops2:Array Oper} {id:Nat} {y:Code}
theorem Ev (l:List Nat) (h:Ent n w0 L0 fr H (wpOps P ops2 (Exit.then (y.wp P Q1) Q1) l)) (hl:List.range ops2.size=l:=by rfl):Ent n w0 L0 fr H (wpOps P ops (Exit.then ((Code.seq (Code.region id ops2 false) y).wp P Q1) Q2) []):=E.nil (b7S (E.seq (E.region hl h)))
theorem Ew (l:List Nat) (h:Ent n w0 L0 fr H (wpOps P ops2 (Exit.then (y.wp P Q) Q) l)) (hl:List.range ops2.size=l:=by rfl):Ent n w0 L0 fr H ((Code.seq (Code.region id ops2 false) y).wp P Q):=E.seq (E.region hl h)
theorem Ez (l:List Nat) (h:Ent n w0 L0 fr H (wpOps P ops2 Q l)) (hl:List.range ops2.size=l:=by rfl):Ent n w0 L0 fr H ((Code.region id ops2 false).wp P Q):=E.region hl h
theorem Eu {K:Act→World→Prop} (h:Ent n w0 L0 fr H K):Ent n w0 L0 fr H (wpOps P ops (Exit.then K Q) []):=E.nil (b7S h)
end
section
variable {P:Program} {n:Nat} {w0:World} {L0:List Nat} {fr:Fr} {H:List HP} {fn:Func} {t:Nat}
theorem Fb {b b':Bool} (hres:fn.results= #[.tmp t]) (hv:fr.lookup t=some (.bool b)) (h:b=b'):Ent n w0 L0 fr H (bodyPost P fn (Fin (κ:=Unit) (λ_=>True) (λ_=>.bool b') (λ_=>[]) w0 L0) .ret):=
 F.r1 (a0G.refl _ _) hres hv () trivial (congrArg Value.bool h) (J:=H) (.refl _) (.inl Z)
theorem Fg {v:Value} {κ:Type} {φ:κ→Prop} {ret:κ→Value} {post:κ→List HP} (hres:fn.results= #[.tmp t]) (hv:fr.lookup t=some v) (k:κ) (hr:v=ret k) {J:List HP} (hH:H=post k++J) (hk:φ k:=by trivial):Ent n w0 L0 fr H (bodyPost P fn (Fin φ ret post w0 L0) .ret):=
 F.r1 (a0G.refl _ _) hres hv k hk hr (J:=J) (hH▸ .refl _) (.inl Z)
end
section
variable {P:Program} {Q:Exit→Act→World→Prop} {n:Nat} {w0:World} {L0:List Nat} {fr:Fr} {H:List HP} {ops:Array Oper} {qt:Nat→Bool} {fuel:Nat} {listed:Array Bool}
theorem K1 (i:Nat) {R:World→World→Prop} (h1:Ent n w0 L0 fr H (PkK P ops Q R qt fuel listed i)) (hr:Region.ready .any ops listed=[i]:=by kernel_rfl):Ent n w0 L0 fr H (a0C P ops Q R qt (fuel+1) listed):=c3Y hr h1
end
section
variable {P:Program} {n:Nat} {w0:World} {L0:List Nat} {fr:Fr} {H:List HP}
theorem Ea {κ:Type} {φ:κ→Prop} {frk:κ→Fr} {Hk:κ→List HP} {μ:κ→Nat} {m:Nat} (k':κ) (hk:φ k') (hfr:Fr.sub (frk k') fr:=by repeat' constructor) (hH:H.Perm (Hk k'):=by exact .refl _) (hm:μ k'<m:=by (try dsimp only);omega):Ent n w0 L0 fr H (λa w=>∃k',φ k'∧Fr.ok n (frk k') a∧Hp w0 L0 (Hk k') w∧μ k'<m):=u7 (a0G.refl _ _) k' hfr hH hk hm
end
end Go.Proofs.YthapcdhdfaibkaaGreatDoor
end
section
namespace Go.Proofs.YthapcdhdfaibkaaGreatDoor
open Go.RowKit
set_option linter.all false
abbrev SL:=Option Addr×Nat×Nat
abbrev TB (P:Program) (f:FuncId) (args:List Value) (RR:World→List Nat→Prop) (b:Bool):Prop:=Tr P f args RR [] (κ:=Unit) (λ_=>True) (λ_=>.bool b) (λ_=>[])
abbrev TL (P:Program) (f:FuncId) (args:List Value) (RR:World→List Nat→Prop) {α:Type} (E:Enc α) (x:α):Prop:=Tr P f args RR [] (κ:=SL) (λ_=>True) (λk=>.slice k.1 k.2.1 k.2.2) (λk=>[ow E [.slice k.1 k.2.1 k.2.2] x])
theorem ca {α:Type} {a:α} {x y:List α}:(a::x)++y=a::(x++y):=rfl
theorem na {α:Type} {x:List α}:[]++x=x:=rfl
section
variable {P:Program} {f:FuncId} {RR:World→List Nat→Prop} {pre:List HP} {κ:Type} {φ:κ→Prop} {ret:κ→Value} {post:κ→List HP} {c:Code} {x0 x1 x2 x3 x4 x5 x6 x7:Value}
theorem Ti1 {fn : Func} (hf : P.funcs[f]? = some fn) (n : Nat) (hb : fn.body = some c) (h : ∀ w L, RR w L → Ent n w L [(0, x0)] pre (c.wp P (bodyPost P fn (Fin φ ret post w L)))) (hn : fn.ntmps = n := by exact rfl) (hl : Nat.ble 1 n = true := by exact rfl) (hs : (fn.name == "runtime.NumGoroutine") = false := by decide +kernel) : Tr P f [x0] RR pre φ ret post :=
 Tr.intro hf hb hn hs (Nat.le_of_ble_eq_true hl) Z h
theorem Ti2 {fn : Func} (hf : P.funcs[f]? = some fn) (n : Nat) (hb : fn.body = some c) (h : ∀ w L, RR w L → Ent n w L [(0, x0), (1, x1)] pre (c.wp P (bodyPost P fn (Fin φ ret post w L)))) (hn : fn.ntmps = n := by exact rfl) (hl : Nat.ble 2 n = true := by exact rfl) (hs : (fn.name == "runtime.NumGoroutine") = false := by decide +kernel) : Tr P f [x0, x1] RR pre φ ret post :=
 Tr.intro hf hb hn hs (Nat.le_of_ble_eq_true hl) Z h
theorem Ti3 {fn : Func} (hf : P.funcs[f]? = some fn) (n : Nat) (hb : fn.body = some c) (h : ∀ w L, RR w L → Ent n w L [(0, x0), (1, x1), (2, x2)] pre (c.wp P (bodyPost P fn (Fin φ ret post w L)))) (hn : fn.ntmps = n := by exact rfl) (hl : Nat.ble 3 n = true := by exact rfl) (hs : (fn.name == "runtime.NumGoroutine") = false := by decide +kernel) : Tr P f [x0, x1, x2] RR pre φ ret post :=
 Tr.intro hf hb hn hs (Nat.le_of_ble_eq_true hl) Z h
theorem Ti4 {fn : Func} (hf : P.funcs[f]? = some fn) (n : Nat) (hb : fn.body = some c) (h : ∀ w L, RR w L → Ent n w L [(0, x0), (1, x1), (2, x2), (3, x3)] pre (c.wp P (bodyPost P fn (Fin φ ret post w L)))) (hn : fn.ntmps = n := by exact rfl) (hl : Nat.ble 4 n = true := by exact rfl) (hs : (fn.name == "runtime.NumGoroutine") = false := by decide +kernel) : Tr P f [x0, x1, x2, x3] RR pre φ ret post :=
 Tr.intro hf hb hn hs (Nat.le_of_ble_eq_true hl) Z h
theorem Ti5 {fn : Func} (hf : P.funcs[f]? = some fn) (n : Nat) (hb : fn.body = some c) (h : ∀ w L, RR w L → Ent n w L [(0, x0), (1, x1), (2, x2), (3, x3), (4, x4)] pre (c.wp P (bodyPost P fn (Fin φ ret post w L)))) (hn : fn.ntmps = n := by exact rfl) (hl : Nat.ble 5 n = true := by exact rfl) (hs : (fn.name == "runtime.NumGoroutine") = false := by decide +kernel) : Tr P f [x0, x1, x2, x3, x4] RR pre φ ret post :=
 Tr.intro hf hb hn hs (Nat.le_of_ble_eq_true hl) Z h
theorem Ti6 {fn : Func} (hf : P.funcs[f]? = some fn) (n : Nat) (hb : fn.body = some c) (h : ∀ w L, RR w L → Ent n w L [(0, x0), (1, x1), (2, x2), (3, x3), (4, x4), (5, x5)] pre (c.wp P (bodyPost P fn (Fin φ ret post w L)))) (hn : fn.ntmps = n := by exact rfl) (hl : Nat.ble 6 n = true := by exact rfl) (hs : (fn.name == "runtime.NumGoroutine") = false := by decide +kernel) : Tr P f [x0, x1, x2, x3, x4, x5] RR pre φ ret post :=
 Tr.intro hf hb hn hs (Nat.le_of_ble_eq_true hl) Z h
end
section
variable {P:Program} {Q:Exit→Act→World→Prop} {n:Nat} {w0:World} {L0:List Nat} {fr:Fr} {H R pre:List HP} {ops:Array Oper} {i j k:Nat} {rest:List Nat} {d e:Nat} {ty ty2 ty3:TypeId} {pos pos2 pos3:String} {af af2 af3:Array Edge} {g g2 g3:Option (Nat×Bool)} {v:Value}
section
variable {f:FuncId} {x:Operand} {caps:Array Value} {xs:Array Operand} {ts:Array TypeId} {vs args:List Value} {RR:World→List Nat→Prop} {α:Type} {T:TypeId} {Ec:Enc α} {X:List α}
theorem E0 {ret:Unit→Value} (ho:ops[i]? =some ⟨some d,.call ⟨.value x,xs,ts⟩,ty,pos,af,g⟩) (tr:Tr P f args RR [] (κ:=Unit) (λ_=>True) ret (λ_=>[])) (h0:(ev fr x,evs fr xs.toList,vs++caps.toList)=(some (.func (.func f) #[] caps),some vs,args))
  (hR:∀{w Lp},At w0 L0 [] H w Lp→RR w Lp) (h:Ent n w0 L0 ((d,ret ())::fr) H (wpOps P ops Q rest)) (hg:N6 ops fr g=some true:=by rfl) (hd:d<n:=by decide):Ent n w0 L0 fr H (wpOps P ops Q (i::rest)):=by
 simp only[Prod.mk.injEq] at h0
 exact c0J ho hg (b2q tr h0.1 h0.2.1 h0.2.2 hd (λw Lp hA=>hR hA)) λ_ _=>h
theorem El (ho:ops[i]? =some ⟨some d,.call ⟨.value x,xs,ts⟩,ty,pos,af,g⟩) (tr:Tr P f args RR pre (κ:=Option Addr×Nat×Nat) (λ_=>True) (λk=>.slice k.1 k.2.1 k.2.2) (λk=>[ow (Enc.sl T Ec) [.slice k.1 k.2.1 k.2.2] X])) (h0:(ev fr x,evs fr xs.toList,vs++caps.toList,H)=(some (.func (.func f) #[] caps),some vs,args,pre++R))
  (hR:∀{w Lp},At w0 L0 pre R w Lp→RR w Lp) (h:∀a c,X.length≤9223372036854775807→Ent n w0 L0 ((d,.slice a X.length c)::fr) (ow (Enc.sl T Ec) [.slice a X.length c] X::R) (wpOps P ops Q rest)) (hg:N6 ops fr g=some true:=by rfl) (hd:d<n:=by decide):Ent n w0 L0 fr H (wpOps P ops Q (i::rest)):=by
 simp only[Prod.mk.injEq] at h0
 refine c0J ho hg (N.call tr h0.1 h0.2.1 h0.2.2.1 hd h0.2.2.2 (λw Lp hA=>hR hA)) λk _=>?_
 obtain ⟨a,m,c⟩:=k
 refine f0 (List.Mem.head _) λe1 e2=>?_
 subst e1
 exact h a c e2
variable {qt:Nat→Bool} {fuel:Nat} {listed:Array Bool}
theorem D0 (i:Nat) {ret:Unit→Value} (ho:ops[i]? =some ⟨some d,.call ⟨.value x,xs,ts⟩,ty,pos,af,g⟩) (tr:Tr P f args RR [] (κ:=Unit) (λ_=>True) ret (λ_=>[])) (h0:(ev fr x,evs fr xs.toList,vs++caps.toList)=(some (.func (.func f) #[] caps),some vs,args))
  (hR:∀{w Lp},At w0 L0 [] H w Lp→RR w Lp) (h:Ent n w0 L0 ((d,ret ())::fr) H (T9 P ops Q qt fuel (listed.setIfInBounds i true))) (hg:N6 ops fr g=some true:=by rfl) (hr:Region.ready .any ops listed=[i]:=by kernel_rfl) (hd:d<n:=by decide):Ent n w0 L0 fr H (T9 P ops Q qt (fuel+1) listed):=by
 simp only[Prod.mk.injEq] at h0
 exact w6 i ho hg hr (λ_=>rfl) (b2q tr h0.1 h0.2.1 h0.2.2 hd (λw Lp hA=>hR hA)) λ_ _=>h
theorem Dl (i:Nat) (ho:ops[i]? =some ⟨some d,.call ⟨.value x,xs,ts⟩,ty,pos,af,g⟩) (tr:Tr P f args RR pre (κ:=Option Addr×Nat×Nat) (λ_=>True) (λk=>.slice k.1 k.2.1 k.2.2) (λk=>[ow (Enc.sl T Ec) [.slice k.1 k.2.1 k.2.2] X])) (h0:(ev fr x,evs fr xs.toList,vs++caps.toList,H)=(some (.func (.func f) #[] caps),some vs,args,pre++R))
  (hR:∀{w Lp},At w0 L0 pre R w Lp→RR w Lp) (h:∀a c,X.length≤9223372036854775807→Ent n w0 L0 ((d,.slice a X.length c)::fr) (ow (Enc.sl T Ec) [.slice a X.length c] X::R) (T9 P ops Q qt fuel (listed.setIfInBounds i true))) (hg:N6 ops fr g=some true:=by rfl) (hr:Region.ready .any ops listed=[i]:=by kernel_rfl) (hqt:qt i=true→c1e pre=true:=by exact λ_=>rfl) (hd:d<n:=by decide):Ent n w0 L0 fr H (T9 P ops Q qt (fuel+1) listed):=by
 simp only[Prod.mk.injEq] at h0
 refine w6 i ho hg hr hqt (N.call tr h0.1 h0.2.1 h0.2.2.1 hd h0.2.2.2 (λw Lp hA=>hR hA)) λk _=>?_
 obtain ⟨a,m,c⟩:=k
 refine f0 (List.Mem.head _) λe1 e2=>?_
 subst e1
 exact h a c e2
end
section
variable {x y z:Operand} {s T ft:TypeId} {f o kk b off:Nat} {zz:List Value} {by':Nat}
theorem Hs {b off:Nat} {cs:List Value} (h:Has w0 L0 H b off cs) (i:Nat) (he:(cs.drop i).take 1=[v]):Has w0 L0 H b (off+i) [v]:=h.sub (cs':=[v]) i he
theorem Lf (hf:V0 P s f=some (o,ft)) (ht:TyOk P ft false 1 zz by') (h0:(ops[i]?,ev fr x,ops[j]?,ev ((d,.pointer (some ⟨b,off+o,none⟩))::fr) y)=(some ⟨some d,.fieldAddr s x f,ty,pos,af,g⟩,some (.pointer (some ⟨b,off,none⟩)),some ⟨some e,.load ft y,ty2,pos2,af2,g2⟩,some (.pointer (some ⟨b,off+o,none⟩))))
  (hc:Has w0 L0 H b (off+o) [v]) (h:Ent n w0 L0 ((e,v)::(d,.pointer (some ⟨b,off+o,none⟩))::fr) H (wpOps P ops Q rest)) (hg:N6 ops fr g=some true:=by rfl) (hd:d<n:=by decide) (hg2:N6 ops ((d,.pointer (some ⟨b,off+o,none⟩))::fr) g2=some true:=by rfl) (he:e<n:=by decide):Ent n w0 L0 fr H (wpOps P ops Q (i::j::rest)):=by
 simp only[Prod.mk.injEq] at h0
 exact E.y h0.1 hg hd (D3 hf ht (by decide) h0.2.1).yd (E.y h0.2.2.1 hg2 he (z7 ht h0.2.2.2 hc Z) h)
theorem Lz {T':TypeId} {cs:List Value} (hf:V0 P s f=some (o,ft)) (ht:TyOk P ft false 1 zz by') (h0:(ops[i]?,ev fr x,ops[j]?,ev ((d,.pointer (some ⟨b,0+o,none⟩))::fr) y)=(some ⟨some d,.fieldAddr s x f,ty,pos,af,g⟩,some (.pointer (some ⟨b,0,none⟩)),some ⟨some e,.load ft y,ty2,pos2,af2,g2⟩,some (.pointer (some ⟨b,0+o,none⟩))))
  (hm:pt b T' cs∈H) (hv:(cs.drop o).take 1=[v]) (h:Ent n w0 L0 ((e,v)::(d,.pointer (some ⟨b,0+o,none⟩))::fr) H (wpOps P ops Q rest)) (hg:N6 ops fr g=some true:=by rfl) (hd:d<n:=by decide) (hg2:N6 ops ((d,.pointer (some ⟨b,0+o,none⟩))::fr) g2=some true:=by rfl) (he:e<n:=by decide):Ent n w0 L0 fr H (wpOps P ops Q (i::j::rest)):=
 Lf hf ht h0 (Hz hm o hv) h hg hd hg2 he
theorem Ix {t:TypeId} {agg:Bool} {ad:Option Addr} {m c:Nat} {ii:Int} (hT:P.underlying T=some (.slice t)) (ht:TyOk P t agg kk zz by') (h0:(ops[i]?,ev fr x,ev fr y)=(some ⟨some d,.indexAddr T x y,ty,pos,af,g⟩,some (.slice ad m c),some (.int .i64 ii))) (ha:ad=some ⟨b,off,none⟩) (j:Nat) (hj:ii=(j:Int)) (hlt:j<m)
  (h:Ent n w0 L0 ((d,.pointer (some ⟨b,off+j*kk,none⟩))::fr) H (wpOps P ops Q rest)) (hg:N6 ops fr g=some true:=by rfl) (hd:d<n:=by decide):Ent n w0 L0 fr H (wpOps P ops Q (i::rest)):=by
 simp only[Prod.mk.injEq] at h0
 exact E.y h0.1 hg hd (y6 hT ht h0.2.1 ha h0.2.2 j hj hlt).yd h
theorem Il {t:TypeId} {ad:Option Addr} {m c:Nat} {ii:Int} (hT:P.underlying T=some (.slice t)) (ht:TyOk P t false 1 zz by') (h0:(ops[i]?,ev fr x,ev fr y)=(some ⟨some d,.indexAddr T x y,ty,pos,af,g⟩,some (.slice ad m c),some (.int .i64 ii))) (ha:ad=some ⟨b,off,none⟩) (k:Nat) (hj:ii=(k:Int)) (hlt:k<m)
  (h1:(ops[j]?,ev ((d,.pointer (some ⟨b,off+k*1,none⟩))::fr) z)=(some ⟨some e,.load t z,ty2,pos2,af2,g2⟩,some (.pointer (some ⟨b,off+k*1,none⟩)))) (hc:Has w0 L0 H b (off+k*1) [v])
  (h:Ent n w0 L0 ((e,v)::(d,.pointer (some ⟨b,off+k*1,none⟩))::fr) H (wpOps P ops Q rest)) (hg:N6 ops fr g=some true:=by rfl) (hd:d<n:=by decide) (hg2:N6 ops ((d,.pointer (some ⟨b,off+k*1,none⟩))::fr) g2=some true:=by rfl) (he:e<n:=by decide):Ent n w0 L0 fr H (wpOps P ops Q (i::j::rest)):=by
 simp only[Prod.mk.injEq] at h0 h1
 exact E.y h0.1 hg hd (y6 hT ht h0.2.1 ha h0.2.2 k hj hlt).yd (E.y h1.1 hg2 he (z7 ht h1.2 hc Z) h)
variable {qt:Nat→Bool} {fuel:Nat} {listed:Array Bool}
theorem Df (i j:Nat) [hQ:NoPan Q] (hf:V0 P s f=some (o,ft)) (ht:TyOk P ft false 1 zz by') (h0:(ops[i]?,ev fr x,ops[j]?,ev ((d,.pointer (some ⟨b,off+o,none⟩))::fr) y)=(some ⟨some d,.fieldAddr s x f,ty,pos,af,g⟩,some (.pointer (some ⟨b,off,none⟩)),some ⟨some e,.load ft y,ty2,pos2,af2,g2⟩,some (.pointer (some ⟨b,off+o,none⟩))))
  (hc:Has w0 L0 H b (off+o) [v]) (h:Ent n w0 L0 ((e,v)::(d,.pointer (some ⟨b,off+o,none⟩))::fr) H (T9 P ops Q qt fuel ((listed.setIfInBounds i true).setIfInBounds j true))) (hg:N6 ops fr g=some true:=by rfl) (hd:d<n:=by decide) (hk:Z0 ops qt true listed i=true:=by kernel_rfl) (hg2:N6 ops ((d,.pointer (some ⟨b,off+o,none⟩))::fr) g2=some true:=by rfl) (he:e<n:=by decide) (hk2:Z0 ops qt false (listed.setIfInBounds i true) j=true:=by kernel_rfl):Ent n w0 L0 fr H (T9 P ops Q qt (fuel+1+1) listed):=by
 simp only[Prod.mk.injEq] at h0
 exact c0L i h0.1 hg hd (D3 hf ht (by decide) h0.2.1) hk (D.y j h0.2.2.1 hg2 he (z7 ht h0.2.2.2 hc Z) hk2 h)
end
section
variable {x y z:Operand} {T U:TypeId} {kd:IntKind} {a b:Int} {t:Bool}
theorem Ylt (h0:(ops[i]?,ev fr x,ev fr y)=(some ⟨some d,.binOp .lss T x y U,ty,pos,af,g⟩,some (.int kd a),some (.int kd b))) (h:Ent n w0 L0 ((d,.bool (decide (a<b)))::fr) H (wpOps P ops Q rest)) (hg:N6 ops fr g=some true:=by rfl) (hd:d<n:=by decide):Ent n w0 L0 fr H (wpOps P ops Q (i::rest)):=by
 simp only[Prod.mk.injEq] at h0
 exact E.y h0.1 hg hd (Y.lss h0.2.1 h0.2.2).yd h
theorem Yeq (h0:(ops[i]?,ev fr x,ev fr y)=(some ⟨some d,.binOp .eql T x y U,ty,pos,af,g⟩,some (.int kd a),some (.int kd b))) (h:Ent n w0 L0 ((d,.bool (decide (a=b)))::fr) H (wpOps P ops Q rest)) (hg:N6 ops fr g=some true:=by rfl) (hd:d<n:=by decide):Ent n w0 L0 fr H (wpOps P ops Q (i::rest)):=by
 simp only[Prod.mk.injEq] at h0
 exact E.y h0.1 hg hd (Y.eql h0.2.1 h0.2.2).yd h
theorem Yad (h0:(ops[i]?,ev fr x,ev fr y)=(some ⟨some d,.binOp .add T x y U,ty,pos,af,g⟩,some (.int .i64 a),some (.int .i64 b))) (h1: -9223372036854775808≤a+b) (h2:a+b≤9223372036854775807) (h:Ent n w0 L0 ((d,.int .i64 (a+b))::fr) H (wpOps P ops Q rest)) (hg:N6 ops fr g=some true:=by rfl) (hd:d<n:=by decide):Ent n w0 L0 fr H (wpOps P ops Q (i::rest)):=by
 simp only[Prod.mk.injEq] at h0
 exact E.y h0.1 hg hd (Y.add h0.2.1 h0.2.2 h1 h2).yd h
theorem Yno (t:Bool) (h0:(ops[i]?,ev fr x)=(some ⟨some d,.unOp .not T x,ty,pos,af,g⟩,some (.bool t))) (h:Ent n w0 L0 ((d,.bool (!t))::fr) H (wpOps P ops Q rest)) (hg:N6 ops fr g=some true:=by rfl) (hd:d<n:=by decide):Ent n w0 L0 fr H (wpOps P ops Q (i::rest)):=by
 simp only[Prod.mk.injEq] at h0
 exact E.y h0.1 hg hd (Y.not h0.2).yd h
theorem Ypf (h0:(ops[i]?,ev fr x,ev fr z)=(some ⟨some d,.pick x y z,ty,pos,af,g⟩,some (.bool false),some v)) (h:Ent n w0 L0 ((d,v)::fr) H (wpOps P ops Q rest)) (hg:N6 ops fr g=some true:=by rfl) (hd:d<n:=by decide):Ent n w0 L0 fr H (wpOps P ops Q (i::rest)):=by
 simp only[Prod.mk.injEq] at h0
 exact E.y h0.1 hg hd (J3 h0.2.1 h0.2.2).yd h
theorem Ypt (h0:(ops[i]?,ev fr x,ev fr y)=(some ⟨some d,.pick x y z,ty,pos,af,g⟩,some (.bool true),some v)) (h:Ent n w0 L0 ((d,v)::fr) H (wpOps P ops Q rest)) (hg:N6 ops fr g=some true:=by rfl) (hd:d<n:=by decide):Ent n w0 L0 fr H (wpOps P ops Q (i::rest)):=by
 simp only[Prod.mk.injEq] at h0
 exact E.y h0.1 hg hd (J9 h0.2.1 h0.2.2).yd h
theorem Yln {t:TypeId} {ad:Option Addr} {m c:Nat} (hT:P.underlying T=some (.slice t)) (h0:(ops[i]?,ev fr x)=(some ⟨some d,.call ⟨.builtin .len, #[x], #[T]⟩,ty,pos,af,g⟩,some (.slice ad m c))) (h:Ent n w0 L0 ((d,.int .i64 m)::fr) H (wpOps P ops Q rest)) (hg:N6 ops fr g=some true:=by rfl) (hd:d<n:=by decide):Ent n w0 L0 fr H (wpOps P ops Q (i::rest)):=by
 simp only[Prod.mk.injEq] at h0
 exact E.y h0.1 hg hd (Y.len hT h0.2).yd h
variable {qt:Nat→Bool} {fuel:Nat} {listed:Array Bool}
theorem Dm (i:Nat) [hQ:NoPan Q] (h0:(ops[i]?,ev fr x)=(some ⟨some d,.move x,ty,pos,af,g⟩,some v)) (h:Ent n w0 L0 ((d,v)::fr) H (T9 P ops Q qt fuel (listed.setIfInBounds i true))) (hg:N6 ops fr g=some true:=by rfl) (hd:d<n:=by decide) (hk:Z0 ops qt true listed i=true:=by kernel_rfl):Ent n w0 L0 fr H (T9 P ops Q qt (fuel+1) listed):=by
 simp only[Prod.mk.injEq] at h0
 exact c0L i h0.1 hg hd (P5 h0.2) hk h
end
theorem Lo {c:Code} {κ:Type} (φ:κ→Prop) (frk:κ→Fr) (Hk:κ→List HP) (μ:κ→Nat) (k0:κ) (h0:φ k0)
  (round:∀k,φ k→Ent n w0 L0 (frk k) (Hk k) (c.wp P (Exit.then (λa w=>∃k',φ k'∧Fr.ok n (frk k') a∧Hp w0 L0 (Hk k') w∧μ k'<μ k) Q))) (hfr:Fr.sub (frk k0) fr:=by repeat' constructor) (hH:H.Perm (Hk k0):=by exact .refl _):Ent n w0 L0 fr H ((Code.loop c).wp P Q):=E.loop φ frk Hk μ k0 h0 hfr hH round
theorem Ct {K:Act→World→Prop} {cc:Operand} {y:Code} (h:Ent n w0 L0 fr H K) (hc:ev fr cc=some (.bool true):=by rfl):Ent n w0 L0 fr H ((Code.cond cc .skip y).wp P (Exit.then K Q)):=r9 hc (v6 h)
theorem Cf {K:Act→World→Prop} {cc:Operand} {x:Code} (h:Ent n w0 L0 fr H K) (hc:ev fr cc=some (.bool false):=by rfl):Ent n w0 L0 fr H ((Code.cond cc x .skip).wp P (Exit.then K Q)):=r8 hc (v6 h)
end
end Go.Proofs.YthapcdhdfaibkaaGreatDoor
end
