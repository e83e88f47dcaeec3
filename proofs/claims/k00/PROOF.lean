import PyProof.Rows.All
import Wide.All
import OpenK.AllK
import Wide.FinOn
import PySem.Challenge.RW_struckpieces_k00_errors_and_their_fields
import HandS.ForMost
import HandS.ForExc
import HandS.IsInst
import HandS.TupAny
import HandS.TupMul
import HandS.StrMore
import HandS.Style
import HandS.OwnEq
import HandS.Walk
import HandS.Evl
import HandS.Dict
import HandS.More
import HandS.ExcInit
import HandS.ExcIs
import HandS.Nested
import KE.KExcSuper
import KE.KExcIs
import HandS.ExcValue
import HandS.ExcField
import HandS.Zip
import KE.KStateDown
import HandS.Head0
import HandS.Head1
import HandS.Head2
import HandS.HeadEnd
import HandS.HeadHook1
import HandS.HeadHook2
set_option Elab.async false
set_option linter.all false
set_option maxRecDepth 100000
set_option maxHeartbeats 4000000
/-! readings, step by step -/
namespace RD
open PySem PySem.Spec PyProof.Rows L2

/-! ### heaps -/
/-- all but x is as it was -/
def KB (x : Addr) (H H' : Hp) : Prop := ∀ b o, b ≠ x → H b = some o → H' b = some o
theorem at_same {H H' : Hp} {a : Addr} {o : HO} (s : Same H H') (h : H a = some o) : H' a = some o := s a o h
theorem at_kb {x a : Addr} {H H' : Hp} {o : HO} (s : KB x H H') (n : a ≠ x) (h : H a = some o) : H' a = some o := s a o n h
theorem Same.kb {x : Addr} {H H' : Hp} (s : Same H H') : KB x H H' := fun b o _ h => s b o h
theorem KB.refl {x : Addr} {H : Hp} : KB x H H := fun _ _ _ h => h
theorem KB.trans {x : Addr} {H H1 H2 : Hp} (a : KB x H H1) (b : KB x H1 H2) : KB x H H2 := fun c o n h => b c o n (a c o n h)
theorem KB.seq {x : Addr} {K : PySem.W.Frag} {H H' : Hp} {a : Addr} {xs : List V} (e : KB x H H') (n : a ≠ x) (h : SqL K H a xs) : SqL K H' a xs := by
  rcases h with (h | ⟨o, h⟩) | h
  · exact .inl (.inl (e _ _ n h))
  · exact .inl (.inr ⟨o, e _ _ n h⟩)
  · exact .inr h
theorem KB.tup {x : Addr} {K : PySem.W.Frag} {H H' : Hp} {a : Addr} {xs : List V} (e : KB x H H') (n : a ≠ x) (h : SqT K H a xs) : SqT K H' a xs := by
  rcases h with (h | ⟨o, h⟩) | h
  · exact .inl (.inl (e _ _ n h))
  · exact .inl (.inr ⟨o, e _ _ n h⟩)
  · exact .inr h
theorem Same.tup {K : PySem.W.Frag} {H H' : Hp} {a : Addr} {xs : List V} (e : Same H H') (h : SqT K H a xs) : SqT K H' a xs := by
  rcases h with (h | ⟨o, h⟩) | h
  · exact .inl (.inl (e _ _ h))
  · exact .inl (.inr ⟨o, e _ _ h⟩)
  · exact .inr h
theorem fr_of {H H' : Hp} {p : Addr} (n : H' p = none) (s : Same H H') : H p = none := Same.free s n
theorem sm_tr {H H1 H' : Hp} (h2 : Same H1 H') (h1 : Same H H1) : Same H H' := h1.trans h2
theorem kb_tr {x : Addr} {H H1 H' : Hp} (h2 : KB x H1 H') (h1 : KB x H H1) : KB x H H' := h1.trans h2
theorem kb_trs {x : Addr} {H H1 H' : Hp} (h2 : Same H1 H') (h1 : KB x H H1) : KB x H H' := h1.trans (Same.kb h2)
theorem same_new {H : Hp} {p : Addr} {o : HO} (h : H p = none) : Same H (upd H p o) := fun b x e => by
  rw [upd_ne (ne_of_none e h)]
  exact e
theorem kb_upd {H : Hp} {p : Addr} {o : HO} : KB p H (upd H p o) := fun b x n e => by
  rw [upd_ne n]
  exact e
theorem same_mut {H H' : Hp} {p : Addr} (k : KB p H H') {H0 : Hp} (s : Same H0 H) (n : H0 p = none) : Same H0 H' := fun b o e => k b o (ne_of_none e n) (s b o e)
theorem free_back {H H' : Hp} {p : Addr} (s : Same H H') (n : H' p = none) : H p = none := Same.free s n
theorem ne_no {H : Hp} {a b : Addr} {o : HO} (h' : H b = none) (h : H a = some o) : a ≠ b := ne_of_none h h'
theorem ne_no' {H : Hp} {a b : Addr} {o : HO} (h' : H b = none) (h : H a = some o) : b ≠ a := (ne_of_none h h').symm
theorem sz (n : Nat) (h : Nat.ble n 16777216 = true := by rfl) : n ≤ sizeLine := by rw [sizeLine_eq]; exact Nat.le_of_ble_eq_true h
theorem szo {n : Nat} (h : n ≤ 16777216) : n ≤ sizeLine := by rw [sizeLine_eq]; exact h
theorem szl {n : Nat} (h : n < 16777216) : n < sizeLine := by rw [sizeLine_eq]; exact h

/-- a new object is laid -/
def NewO (H : Hp) (o : HO) (Q : VK) : Prop := ∀ p, H p = none → Q (.ref p) (upd H p o)
/-! ### expressions -/
section
variable {K : PySem.W.Frag} {σ : L2.St} {H : Hp} {Q : VK} {QB : Bool → Hp → Prop} {QL : List V → Hp → Prop} {QO : Option Int → Hp → Prop} {ta tb te : TE} {tx ty : TA} {t u : TT} {r : R2} {v x y : V} {i j : Int} {tl th : TO}
theorem op (h : ta σ H fun x H1 => tb σ H1 fun y H2 => r x y H2 Q) : tOp r ta tb σ H Q := h
theorem un {r : V → Hp → VK → Prop} (h : ta σ H fun x H1 => r x H1 Q) : tUn r ta σ H Q := h
theorem var {i : Nat} (e : σ[i]? = some (some v)) (h : Q v H) : tVar i σ H Q := ⟨v, e, h⟩
theorem c (h : Q v H) : tC v σ H Q := h
theorem nil (h : QL [] H) : tNil σ H QL := h
theorem cons (h : ta σ H fun x H1 => tx σ H1 fun xs H2 => QL (x :: xs) H2) : tCons ta tx σ H QL := h
theorem cb {r : List V → Hp → VK → Prop} (h : tx σ H fun vs H1 => r vs H1 Q) : tCB r tx σ H Q := h
theorem call {sp : Sp} {dvs : List V} {E : XK} (h : tx σ H fun vs H1 => sp (vs ++ dvs) H1 Q E) : tCall sp dvs E tx σ H Q := h
theorem test (h : te σ H fun x H' => ∃ k, x = .bl k ∧ QB k H') : tTest te σ H QB := h
theorem tb' (h : te σ H fun x H' => ∃ k, x = .bl k ∧ QB k H') : tB te σ H QB := h
theorem bl {b : Bool} {R : Bool → Prop} (h : R b) : ∃ k, V.bl b = .bl k ∧ R k := ⟨b, rfl, h⟩
theorem and' (h : t σ H fun c H1 => if c = true then u σ H1 QB else QB false H1) : tAnd t u σ H QB := h
theorem or' (h : t σ H fun c H1 => if c = true then QB true H1 else u σ H1 QB) : tOr t u σ H QB := h
theorem not' (h : t σ H fun c H1 => QB (!c) H1) : tNot t σ H QB := h
theorem andV (h : ta σ H fun x H1 => ∃ c, x = .bl c ∧ if c = true then tb σ H1 Q else Q (.bl false) H1) : tAndV ta tb σ H Q := h
theorem orV (h : ta σ H fun x H1 => ∃ c, x = .bl c ∧ if c = true then Q (.bl true) H1 else tb σ H1 Q) : tOrV ta tb σ H Q := h
theorem notV (h : ta σ H fun x H1 => ∃ c, x = .bl c ∧ Q (.bl (!c)) H1) : tNotV ta σ H Q := h
theorem bl2 {b : Bool} {A B : Prop} (h : if b = true then A else B) : ∃ c, V.bl b = .bl c ∧ if c = true then A else B := ⟨b, rfl, h⟩
theorem blA {b : Bool} {A : Hp → Prop} {B : Hp → Prop} (h : if b = true then A H else B H) : ∃ c, V.bl b = .bl c ∧ if c = true then A H else B H := ⟨b, rfl, h⟩
theorem blN {b : Bool} (h : Q (.bl (!b)) H) : ∃ c, V.bl b = .bl c ∧ Q (.bl (!c)) H := ⟨b, rfl, h⟩
theorem ife (h : t σ H fun c H1 => if c = true then ta σ H1 Q else tb σ H1 Q) : tIf t ta tb σ H Q := h
theorem sl {r : V → Option Int → Option Int → Hp → VK → Prop} (h : te σ H fun x H1 => tl σ H1 fun l H2 => th σ H2 fun u H3 => r x l u H3 Q) : tSl r te tl th σ H Q := h
theorem part (h : te σ H fun x H1 => ∃ i, x = .int i ∧ QO (some i) H1) : tPart te σ H QO := h
theorem noPart (h : QO none H) : tNoPart σ H QO := h
theorem partI {R : Int → Prop} (h : R i) : ∃ j, V.int i = .int j ∧ R j := ⟨i, rfl, h⟩
theorem rd0 {g : Int → Int → V} (h : Q (g i j) H) : rI0 g (.int i) (.int j) H Q := ⟨i, j, rfl, rfl, h⟩
theorem rdI {C : Int → Int → Prop} {g : Int → Int → V} (hc : C i j) (h : Q (g i j) H) : rI C g (.int i) (.int j) H Q := ⟨i, j, rfl, rfl, hc, h⟩
theorem rdU {g : Int → V} (h : Q (g i) H) : rU g (.int i) H Q := ⟨i, rfl, h⟩
theorem rdEq (hs : scal x y = true) (h : Q (.bl (decide (x = y))) H) : rEq x y H Q := ⟨hs, h⟩
theorem rdNe (hs : scal x y = true) (h : Q (.bl (!decide (x = y))) H) : rNe x y H Q := ⟨hs, h⟩
theorem ixL {p : Addr} {xs : List V} (hx : SqL K H p xs) (ha : atI xs i = some v) (h : Q v H) : rIxL K (.ref p) (.int i) H Q := ⟨p, xs, i, v, rfl, rfl, hx, ha, h⟩
theorem ixT {p : Addr} {xs : List V} (hx : SqT K H p xs) (ha : atI xs i = some v) (h : Q v H) : rIxT K (.ref p) (.int i) H Q := ⟨p, xs, i, v, rfl, rfl, hx, ha, h⟩
theorem ixS {z : Str} {c : Nat} (hl : z.length ≤ sizeLine) (ha : atI z.cps.toList i = some c) (h : Q (.str ⟨#[c]⟩) H) : rIxS (.str z) (.int i) H Q := ⟨z, i, c, rfl, rfl, hl, ha, h⟩
theorem tup (h : tx σ H fun xs H1 => xs.length ≤ sizeLine ∧ NewO H1 (.tup xs) Q) : tTup tx σ H Q := h
theorem lst (h : tx σ H fun xs H1 => xs.length ≤ sizeLine ∧ NewO H1 (.lst xs) Q) : tLst tx σ H Q := h
theorem slL {a : Addr} {xs : List V} {lo hi : Option Int} (hx : SqL K H a xs) (h : ∀ p H2, H p = none → Same H H2 → H2 p = some (.lst (cutV xs lo hi)) → Q (.ref p) H2) : rSlL K (.ref a) lo hi H Q := ⟨a, xs, rfl, hx, fun p hp => h p _ hp (same_new hp) upd_same⟩
/-- a new object: the heap from then on is any that holds it and all else -/
theorem new {o : HO} {R : Addr → Hp → Prop} (h : ∀ p H2, H p = none → Same H H2 → H2 p = some o → R p H2) : ∀ p, H p = none → R p (upd H p o) := fun p hp => h p _ hp (same_new hp) upd_same
theorem newZ {n : Nat} {o : HO} (z : n ≤ sizeLine) (h : ∀ p H2, H p = none → Same H H2 → H2 p = some o → Q (.ref p) H2) : n ≤ sizeLine ∧ NewO H o Q := ⟨z, fun p hp => h p _ hp (same_new hp) upd_same⟩
theorem newO {o : HO} (h : ∀ p H2, H p = none → Same H H2 → H2 p = some o → Q (.ref p) H2) : NewO H o Q := fun p hp => h p _ hp (same_new hp) upd_same
theorem mutn {a : Addr} {o : HO} {R : Hp → Prop} (h : ∀ H2, KB a H H2 → H2 a = some o → R H2) : R (upd H a o) := h _ kb_upd upd_same
theorem len {p : Addr} {ys : List V} {R : Addr → List V → Prop} (hx : SqL K H p ys ∨ SqT K H p ys) (h : R p ys) : (∃ q zs, [V.ref p] = [.ref q] ∧ (SqL K H q zs ∨ SqT K H q zs) ∧ R q zs) := ⟨p, ys, rfl, hx, h⟩
theorem lenS {z : Str} {R : Str → Prop} (hl : z.length ≤ sizeLine) (h : R z) : (∃ w : Str, [V.str z] = [.str w] ∧ w.length ≤ sizeLine ∧ R w) := ⟨z, rfl, hl, h⟩
theorem int1 {R : Int → Prop} {S : Bool → Prop} (h : R i) : (∃ k, [V.int i] = [.int k] ∧ R k) ∨ ∃ k, [V.int i] = [.bl k] ∧ S k := .inl ⟨i, rfl, h⟩
theorem int1b {b : Bool} {R : Int → Prop} {S : Bool → Prop} (h : S b) : (∃ k, [V.bl b] = [.int k] ∧ R k) ∨ ∃ k, [V.bl b] = [.bl k] ∧ S k := .inr ⟨b, rfl, h⟩
theorem abs1 {R : Int → Prop} (h : R i) : (∃ k, [V.int i] = [.int k] ∧ R k) := ⟨i, rfl, h⟩
theorem all1 {a : Addr} {bs : List Bool} (hx : SqL K H a (bs.map V.bl)) (h : Q (.bl (bs.all id)) H) : rAll K [.ref a] H Q := ⟨a, bs, rfl, hx, h⟩
theorem any1 {a : Addr} {bs : List Bool} (hx : SqL K H a (bs.map V.bl)) (h : Q (.bl (bs.any id)) H) : rAny K [.ref a] H Q := ⟨a, bs, rfl, hx, h⟩
theorem isi {x c : V} {t u : Value} {b : Bool} (hc : ClsV c u) (hx : TyX K H x t) (e : PySem.W.kitOne K t u = some b) (h : Q (.bl b) H) : rIsi K [x, c] H Q := ⟨x, c, t, u, b, rfl, hc, hx, e, h⟩
theorem isiT {x : V} {tp : Addr} {cs : List V} {t : Value} {us : List Value} {b : Bool} (ht : H tp = some (.tup cs)) (hc : Paired ClsV cs us) (hx : TyX K H x t) (e : PySem.W.kitAny K t us = some b) (h : Q (.bl b) H) : rIsiT K [x, .ref tp] H Q := ⟨x, tp, cs, t, us, b, rfl, ht, hc, hx, e, h⟩
theorem cat {l b : Addr} {xs zs : List V} (h1 : H l = some (.lst xs)) (h2 : H b = some (.lst zs)) (hz : xs.length + zs.length ≤ sizeLine) (h : ∀ p H2, H p = none → Same H H2 → H2 p = some (.lst (xs ++ zs)) → Q (.ref p) H2) : rCat (.ref l) (.ref b) H Q := ⟨l, b, xs, zs, rfl, rfl, h1, h2, hz, fun p hp => h p _ hp (same_new hp) upd_same⟩
theorem eqD {d e : PyData} (h1 : Dp K H x d) (h2 : Dp K H y e) (s1 : SeqAt.shaped d = true) (s2 : SeqAt.shaped e = true) (h : Q (.bl (PyData.eqv d e)) H) : rEqD K x y H Q := ⟨d, e, h1, h2, s1, s2, h⟩
theorem neD {d e : PyData} (h1 : Dp K H x d) (h2 : Dp K H y e) (s1 : SeqAt.shaped d = true) (s2 : SeqAt.shaped e = true) (h : Q (.bl (!PyData.eqv d e)) H) : rNeD K x y H Q := ⟨d, e, h1, h2, s1, s2, h⟩
theorem ite1 {A B : Prop} (h : A) : if true = true then A else B := iteT h
theorem ite0 {A B : Prop} (h : B) : if false = true then A else B := iteF h
theorem ite1n {A B : Prop} (h : B) : if (!true) = true then A else B := iteF h
theorem ite0n {A B : Prop} (h : A) : if (!false) = true then A else B := iteT h
theorem ite_b {b : Bool} {A B : Prop} (h1 : b = true → A) (h2 : b = false → B) : if b = true then A else B := by
  cases b with
  | true => exact iteT (h1 rfl)
  | false => exact iteF (h2 rfl)
theorem ite_d {p : Prop} [Decidable p] {A B : Prop} (h1 : p → A) (h2 : ¬ p → B) : if decide p = true then A else B := ite_b (fun e => h1 (of_decide_eq_true e)) (fun e => h2 (of_decide_eq_false e))
theorem ite_nd {p : Prop} [Decidable p] {A B : Prop} (h1 : ¬ p → A) (h2 : p → B) : if (!decide p) = true then A else B := ite_b (fun e => h1 (of_decide_eq_false (by simpa using e))) (fun e => h2 (of_decide_eq_true (by simpa using e)))
end

/-! ### statements -/
section
variable {K : PySem.W.Frag} {σ : L2.St} {H : Hp} {D : Ends} {te ta : TE} {ts t u : TS} {tt : TT} {g : TG} {tx : TA} {v : V} {i : Nat} {QS : L2.St → Hp → Prop}
theorem seq (h : t { D with nx := u D } σ H) : tSeq t u D σ H := h
theorem asg (h : te σ H fun x H1 => g x σ H1 D.nx) : tAsg te g D σ H := h
theorem name (h : QS (σ.set i (some v)) H) : gName i v σ H QS := h
theorem ret (h : te σ H D.rt) : tRet te D σ H := h
theorem drop (h : te σ H fun _ H1 => D.nx σ H1) : tDrop te D σ H := h
theorem next (h : D.nx σ H) : tNext D σ H := h
theorem ifs (h : tt σ H fun b H1 => if b = true then t D σ H1 else u D σ H1) : tIfS tt t u D σ H := h
theorem par {j : Nat} (h : tx σ H fun vs H1 => ∃ v w, vs = [v, w] ∧ D.nx ((σ.set i (some v)).set j (some w)) H1) : tPar i j tx D σ H := h
theorem par2 {x y : V} {R : V → V → Prop} (h : R x y) : ∃ v w, [x, y] = [v, w] ∧ R v w := ⟨x, y, rfl, h⟩
theorem sub {to ti : TE} {s : TSet} (h : to σ H fun o H1 => ti σ H1 fun i H2 => s o i v H2 fun H3 => QS σ H3) : gSub to ti s v σ H QS := h
theorem setL {p : Addr} {xs : List V} {k : Int} {j : Nat} {R : Hp → Prop} (hx : H p = some (.lst xs)) (hi : ixN xs.length k = some j) (h : ∀ H2, KB p H H2 → H2 p = some (.lst (xs.set j v)) → R H2) : rSetL (.ref p) (.int k) v H R := ⟨p, xs, k, j, rfl, rfl, hx, hi, mutn h⟩
theorem gtup {n : Nat} {tg : TGs} {a : Addr} {xs : List V} (hx : SqT K H a xs) (hn : xs.length = n) (h : tg xs σ H QS) : gTup K n tg (.ref a) σ H QS := ⟨a, xs, rfl, hx, hn, h⟩
theorem gcons {tg : TG} {tgs : TGs} {vs : List V} (h : tg v σ H fun σ' H' => tgs vs σ' H' QS) : gCons tg tgs (v :: vs) σ H QS := ⟨v, vs, rfl, h⟩
theorem gnil (h : QS σ H) : gNil [] σ H QS := ⟨rfl, h⟩
theorem bm {T : String} {r : V → List V → Hp → VK → Prop} {Q : VK} (h : ta σ H fun x H1 => tyV K T x H1 ∧ tx σ H1 fun xs H2 => r x xs H2 Q) : tBM K T r ta tx σ H Q := h
theorem bmL {p : Addr} {xs : List V} {R : Prop} (hx : SqL K H p xs) (h : R) : tyV K "list" (.ref p) H ∧ R := ⟨.inl ⟨rfl, _, hx⟩, h⟩
theorem app {l : Addr} {xs : List V} {y : V} {Q : VK} (hx : H l = some (.lst xs)) (hz : xs.length < sizeLine) (h : ∀ H2, KB l H H2 → H2 l = some (.lst (xs ++ [y])) → Q .non H2) : rAppend (.ref l) [y] H Q := ⟨l, xs, y, rfl, rfl, hx, hz, mutn h⟩
end
end RD
namespace RD
open PySem PySem.Spec PyProof.Rows L2
theorem at_lt {α : Type} {xs : List α} {i : Int} (h0 : 0 ≤ i) (h1 : i < (xs.length : Int)) : ∃ v, atI xs i = some v ∧ xs[i.toNat]? = some v := by
  have h : i.toNat < xs.length := by omega
  obtain ⟨v, hv⟩ : ∃ v, xs[i.toNat]? = some v := ⟨_, List.getElem?_eq_getElem h⟩
  have z : atI xs ((i.toNat : Nat) : Int) = some v := atI_nat hv
  rw [show ((i.toNat : Nat) : Int) = i by omega] at z
  exact ⟨v, z, hv⟩
theorem at_map {ns : List Int} {i : Int} (h0 : 0 ≤ i) (h1 : i < ((ns.map V.int).length : Int)) : ∃ n, atI (ns.map V.int) i = some (.int n) ∧ ns[i.toNat]? = some n := by
  obtain ⟨v, e1, e2⟩ := at_lt h0 h1
  rw [List.getElem?_map] at e2
  cases h : ns[i.toNat]? with
  | none => rw [h] at e2; cases e2
  | some n => rw [h] at e2; cases e2; exact ⟨n, e1, rfl⟩
/-! ### loops and comprehensions -/
def ForG (J : It) (g : TG) (tb : TS) (D : Ends) (σ : L2.St) (H1 : Hp) : Prop := ∃ W : Nat → Nat → L2.St → Hp → Prop, (∃ m, W 0 m σ H1) ∧ ∀ i m σ H, W i m σ H →
  (J.stop i H ∧ D.nx σ H) ∨ (J.go i H ∧ ∃ N : L2.St → Hp → Prop, (∀ σ' H', N σ' H' → ∃ m', m' < m ∧ W (i + 1) m' σ' H') ∧ ∀ x H', J.yld i H x H' → g x σ H' fun σ2 H2 => tb { D with nx := N, ct := N, bk := D.nx } σ2 H2)
def LcG (J : It) (g : TG) (tt : TT) (te : TE) (vs : List Nat) (σ : L2.St) (H1 : Hp) (Q : VK) : Prop := ∀ D, H1 D = none → ∃ W : Nat → Nat → Hp → Prop, (∃ m, W 0 m (upd H1 D (.lst []))) ∧ ∀ i m H, W i m H →
  (J.stop i H ∧ Q (.ref D) H) ∨ (J.go i H ∧ ∃ Nx : Hp → Prop, (∀ H', Nx H' → ∃ m', m' < m ∧ W (i + 1) m' H') ∧ ∀ x H', J.yld i H x H' → g x (wipe σ vs) H' fun σ2 H2 => wipe σ2 vs = wipe σ vs ∧ tt σ2 H2 fun b H3 =>
    if b = true then te σ2 H3 fun y H4 => ∃ acc, H4 D = some (.lst acc) ∧ acc.length < sizeLine ∧ Nx (upd H4 D (.lst (acc ++ [y]))) else Nx H3)
section
variable {K : PySem.W.Frag} {J : It} {n : Nat} {G : Hp → Prop} {Y : Nat → Hp → V → Hp → Prop} {g : TG} {tt : TT} {te : TE} {tb : TS} {D : Ends} {vs : List Nat} {σ : L2.St} {H1 H : Hp} {Q : VK} {wi : TI} {tx : TA} {R : It → Hp → Prop}
theorem fors (h : wi σ H fun J H1 => ForG J g tb D σ H1) : tFor wi g tb D σ H := h
theorem lc (h : wi σ H fun J H1 => LcG J g tt te vs σ H1 Q) : tLc wi g tt te vs σ H Q := h
theorem yes {QB : Bool → Hp → Prop} (h : QB true H) : tYes σ H QB := h
theorem ilist (h : te σ H fun x H1 => ∃ a, x = .ref a ∧ (∃ xs, SqL K H1 a xs) ∧ R (Itl K a) H1) : iList K te σ H R := h
theorem ilistV {a : Addr} {xs : List V} {S : Addr → Prop} (hx : SqL K H a xs) (h : S a) : ∃ b, V.ref a = .ref b ∧ (∃ xs, SqL K H b xs) ∧ S b := ⟨a, rfl, ⟨xs, hx⟩, h⟩
theorem itup (h : te σ H fun x H1 => ∃ a, x = .ref a ∧ (∃ xs, SqT K H1 a xs) ∧ R (Itt K a) H1) : iTup K te σ H R := h
theorem itupV {a : Addr} {xs : List V} {S : Addr → Prop} (hx : SqT K H a xs) (h : S a) : ∃ b, V.ref a = .ref b ∧ (∃ xs, SqT K H b xs) ∧ S b := ⟨a, rfl, ⟨xs, hx⟩, h⟩
theorem irng1 (h : tx σ H fun vs H1 => ∃ j : Int, vs = [.int j] ∧ -(2 ^ 62) ≤ j ∧ j < 2 ^ 62 ∧ R (Itr 0 j.toNat) H1) : iRng1 tx σ H R := h
theorem irng1V {j : Int} {S : Int → Prop} (h1 : -(2 ^ 62) ≤ j) (h2 : j < 2 ^ 62) (h : S j) : ∃ k : Int, [V.int j] = [.int k] ∧ -(2 ^ 62) ≤ k ∧ k < 2 ^ 62 ∧ S k := ⟨j, rfl, h1, h2, h⟩
theorem irng2 (h : tx σ H fun vs H1 => ∃ i j : Int, vs = [.int i, .int j] ∧ (-(2 ^ 62) ≤ i ∧ i < 2 ^ 62 ∧ -(2 ^ 62) ≤ j ∧ j < 2 ^ 62) ∧ R (Itr i (j - i).toNat) H1) : iRng2 tx σ H R := h
theorem irng2V {i j : Int} {S : Int → Int → Prop} (h1 : -(2 ^ 62) ≤ i ∧ i < 2 ^ 62 ∧ -(2 ^ 62) ≤ j ∧ j < 2 ^ 62) (h : S i j) : ∃ a b : Int, [V.int i, V.int j] = [.int a, .int b] ∧ (-(2 ^ 62) ≤ a ∧ a < 2 ^ 62 ∧ -(2 ^ 62) ≤ b ∧ b < 2 ^ 62) ∧ S a b := ⟨i, j, rfl, h1, h⟩
theorem ienum (h : tx σ H fun vs H1 => ∃ a xs, vs = [.ref a] ∧ SqL K H1 a xs ∧ R (Ite K a) H1) : iEnum K tx σ H R := h
theorem ienumV {a : Addr} {xs : List V} {S : Addr → Prop} (hx : SqL K H a xs) (h : S a) : ∃ b ys, [V.ref a] = [.ref b] ∧ SqL K H b ys ∧ S b := ⟨a, xs, rfl, hx, h⟩
theorem izip (h : tx σ H fun vs H1 => ∃ a b xs ys, vs = [.ref a, .ref b] ∧ SqL K H1 a xs ∧ SqL K H1 b ys ∧ R (Itz K a b) H1) : iZip K tx σ H R := h
theorem izipV {a b : Addr} {xs ys : List V} {S : Addr → Addr → Prop} (hx : SqL K H a xs) (hy : SqL K H b ys) (h : S a b) : ∃ c d xs ys, [V.ref a, V.ref b] = [.ref c, .ref d] ∧ SqL K H c xs ∧ SqL K H d ys ∧ S c d := ⟨a, b, xs, ys, rfl, hx, hy, h⟩
theorem istr (h : te σ H fun v H1 => ∃ x, v = .str x ∧ R (Its x) H1) : iStr te σ H R := h
theorem istrV {z : Str} {S : Str → Prop} (h : S z) : ∃ x, V.str z = .str x ∧ S x := ⟨z, rfl, h⟩
theorem forW (w : Walk J n G Y) (Pv : Nat → L2.St → Hp → Prop) (h0 : Pv 0 σ H) (hG : ∀ i σ H, i ≤ n → Pv i σ H → G H)
    (hs : ∀ i x σ H H', i < n → Pv i σ H → Y i H x H' → g x σ H' fun σ2 H2 => tb { D with nx := Pv (i + 1), ct := Pv (i + 1), bk := D.nx } σ2 H2) (hd : ∀ σ H, Pv n σ H → D.nx σ H) : ForG J g tb D σ H := for_it w Pv h0 hG hs hd
theorem lcW (w : Walk J n G Y) (hn : n ≤ 16777216)
    (h : ∀ D H2, H1 D = none → Same H1 H2 → H2 D = some (.lst []) → ∃ Pv : Nat → List V → Hp → Prop, Pv 0 [] H2 ∧ (∀ i acc H, i ≤ n → Pv i acc H → G H) ∧
      (∀ i x acc H H' (Z : VK) (N : Hp → Prop), i < n → Pv i acc H → H D = some (.lst acc) → Y i H x H' →
        (∀ y H4, H4 D = some (.lst acc) → (∀ H5, KB D H4 H5 → H5 D = some (.lst (acc ++ [y])) → Pv (i + 1) (acc ++ [y]) H5) → Z y H4) → (∀ H4, H4 D = some (.lst acc) → Pv (i + 1) acc H4 → N H4) →
        g x (wipe σ vs) H' fun σ2 H2 => wipe σ2 vs = wipe σ vs ∧ tt σ2 H2 fun b H3 => if b = true then te σ2 H3 Z else N H3) ∧
      (∀ acc H, Pv n acc H → H D = some (.lst acc) → Q (.ref D) H)) : LcG J g tt te vs σ H1 Q := by
  intro D hD
  obtain ⟨Pv, p0, pG, ps, pd⟩ := h D (upd H1 D (.lst [])) hD (same_new hD) upd_same
  refine lc_it w (fun i H => ∃ acc, acc.length ≤ i ∧ H D = some (.lst acc) ∧ Pv i acc H) ⟨[], Nat.le_refl _, upd_same, p0⟩ (fun i H hi ⟨acc, _, _, p⟩ => pG i acc H hi p) (fun i x H H' hi ⟨acc, hl, hD', p⟩ hy => ?_) (fun H ⟨acc, _, hD', p⟩ => pd acc H p hD')
  refine ps i x acc H H' _ _ hi p hD' hy (fun y H4 h4 h5 => ⟨acc, h4, by rw [sizeLine_eq]; omega, acc ++ [y], by rw [List.length_append]; simp; omega, upd_same, h5 _ kb_upd upd_same⟩) (fun H4 h4 h5 => ⟨acc, by omega, h4, h5⟩)
/-- pairs laid anew, the heap told by what it holds -/
def YP (xs ys : Nat → Option V) : Nat → Hp → V → Hp → Prop := fun i H v H' => ∃ T x y, v = .ref T ∧ H T = none ∧ Same H H' ∧ H' T = some (.tup [x, y]) ∧ xs i = some x ∧ ys i = some y
theorem yp {xs ys : Nat → Option V} {i : Nat} {H : Hp} {v : V} {H' : Hp} (h : YPair xs ys i H v H') : YP xs ys i H v H' := by
  obtain ⟨T, x, y, rfl, hT, rfl, h1, h2⟩ := h
  exact ⟨T, x, y, rfl, hT, same_new hT, upd_same, h1, h2⟩
theorem w_enum {a : Addr} {xs : List V} : Walk (Ite K a) xs.length (fun H => SqL K H a xs) (YP (fun i => some (.int (i : Nat))) (fun i => xs[i]?)) := walk_enum.mono (fun _ h => h) fun _ _ _ _ _ _ y => yp y
theorem w_zip {a b : Addr} {xs ys : List V} {n : Nat} (hn : n = min xs.length ys.length) : Walk (Itz K a b) n (fun H => SqL K H a xs ∧ SqL K H b ys) (YP (fun i => xs[i]?) (fun i => ys[i]?)) := (walk_zip hn).mono (fun _ h => h) fun _ _ _ _ _ _ y => yp y
/-- a comprehension that only makes: every item comes to what fs says (none: left out) -/
theorem lcF {fs0 : List V} (w : Walk J n G (YAt fs0)) (hn : n ≤ 16777216) (os : Nat → Option V) (hG : ∀ H', Same H1 H' → G H')
    (hs : ∀ i x H' (Z : VK) (N : Hp → Prop), i < n → fs0[i]? = some x → Same H1 H' → (∀ y H4, os i = some y → Same H' H4 → Z y H4) → (∀ H4, os i = none → Same H' H4 → N H4) →
        g x (wipe σ vs) H' fun σ2 H2 => wipe σ2 vs = wipe σ vs ∧ tt σ2 H2 fun b H3 => if b = true then te σ2 H3 Z else N H3)
    (hd : ∀ D H', H1 D = none → Same H1 H' → H' D = some (.lst ((List.range n).filterMap os)) → Q (.ref D) H') : LcG J g tt te vs σ H1 Q := by
  refine lcW w hn fun D H2 hD hs2 hv => ⟨fun i acc H => Same H1 H ∧ acc = (List.range i).filterMap os, ⟨hs2, rfl⟩, fun i acc H _ p => hG H p.1, fun i x acc H H' Z N hi p hDa hy hZ hN => ?_, fun acc H p hDa => hd D H hD p.1 (by rw [hDa, p.2])⟩
  obtain ⟨rfl, hx⟩ := hy
  refine hs i x H' Z N hi hx p.1 (fun y H4 e s4 => hZ y H4 (s4 _ _ hDa) fun H5 k5 h5 => ⟨?_, ?_⟩) (fun H4 e s4 => hN H4 (s4 _ _ hDa) ⟨p.1.trans s4, ?_⟩)
  · exact same_mut k5 (p.1.trans s4) hD
  · rw [List.range_succ, List.filterMap_append, ← p.2]
    simp [e]
  · rw [List.range_succ, List.filterMap_append, ← p.2]
    simp [e]
/-- the same over pairs laid anew -/
theorem lcP {fx fy : Nat → Option V} (w : Walk J n G (YP fx fy)) (hn : n ≤ 16777216) (os : Nat → Option V) (hG : ∀ H', Same H1 H' → G H')
    (hs : ∀ i T x y H' (Z : VK) (N : Hp → Prop), i < n → fx i = some x → fy i = some y → Same H1 H' → H' T = some (.tup [x, y]) → (∀ y H4, os i = some y → Same H' H4 → Z y H4) → (∀ H4, os i = none → Same H' H4 → N H4) →
        g (.ref T) (wipe σ vs) H' fun σ2 H2 => wipe σ2 vs = wipe σ vs ∧ tt σ2 H2 fun b H3 => if b = true then te σ2 H3 Z else N H3)
    (hd : ∀ D H', H1 D = none → Same H1 H' → H' D = some (.lst ((List.range n).filterMap os)) → Q (.ref D) H') : LcG J g tt te vs σ H1 Q := by
  refine lcW w hn fun D H2 hD hs2 hv => ⟨fun i acc H => Same H1 H ∧ acc = (List.range i).filterMap os, ⟨hs2, rfl⟩, fun i acc H _ p => hG H p.1, fun i x acc H H' Z N hi p hDa hy hZ hN => ?_, fun acc H p hDa => hd D H hD p.1 (by rw [hDa, p.2])⟩
  obtain ⟨T, x1, y1, rfl, hT, s3, h3, hx, hy⟩ := hy
  refine hs i T x1 y1 H' Z N hi hx hy (p.1.trans s3) h3 (fun y H4 e s4 => hZ y H4 (s4 _ _ (s3 _ _ hDa)) fun H5 k5 h5 => ⟨?_, ?_⟩) (fun H4 e s4 => hN H4 (s4 _ _ (s3 _ _ hDa)) ⟨(p.1.trans s3).trans s4, ?_⟩)
  · exact same_mut k5 ((p.1.trans s3).trans s4) hD
  · rw [List.range_succ, List.filterMap_append, ← p.2]
    simp [e]
  · rw [List.range_succ, List.filterMap_append, ← p.2]
    simp [e]
end
theorem range_get {α β : Type} (f : α → β) : ∀ l : List α, (List.range l.length).filterMap (fun i => (l[i]?).map f) = l.map f
  | [] => rfl
  | a :: l => by
    have ih := range_get f l
    rw [List.length_cons, List.range_succ_eq_map, List.filterMap_cons]
    simp only [List.getElem?_cons_zero, Option.map_some, List.filterMap_map, List.map_cons]
    rw [← ih]
    rfl
end RD

/-! an own exception whose __init__ is super().__init__(x); self.f = x -/
namespace SPX
open PySem PySem.Spec PyProof.Rows L2 NdefX PySem.W

section
variable {prog : Program} {w : World} {A : Around} {E : Value → Shared → Prop} {h : Heap} {g : Array GenState} {d : Drawn} {t : Nat} {os : OsState}
variable {nm q : Str} {C N : Addr} {bs bm : List Value} {hdct : Bool} {sn : List Str} {sub : List Value} {ab : Bool} {col : Option Bool} {dd : Option Addr} {k0 k1 k2 k3 k5 : Option Value}
/-- the bound ValueError.__init__ called -/
theorem call_mw {u e t0 : Addr} {rest : List Value} {Q : Value → Shared → Prop}
    (hC : h.get? C = some (excClassObj nm q C N bs bm hdct sn sub ab col dd k0 k1 k2 k3 k5 "ValueError.__new__")) (he : h.get? e = some (HandSPX.excO C t0)) (hu : h.get? u = some (kxs_mw "ValueError.__init__" e)) (hrest : rest.length ≤ sizeLine)
    (hq : ∀ h' t1, (∀ b o, b ≠ e → h.get? b = some o → h'.get? b = some o) → h'.get? e = some (HandSPX.excO C t1) → Q .none ⟨h', g, d, t, os⟩) :
    wpAny (model prog w) A (call (.ref u) rest) Q E ⟨h, g, d, t, os⟩ := by
  refine wpAny_call (codeAny_of_tree ?_)
  show wpAny _ A.in1 (callAny (.ref u) ⟨rest, []⟩) _ _ _
  simp only [callAny]
  refine wpAny_bind (wpAny_load hu ?_)
  simp only [kxs_mw, show (Value.type "method-wrapper" == Value.type "method" || Value.type "method-wrapper" == Value.type "builtin_function_or_method" || Value.type "method-wrapper" == Value.type "method-wrapper") = true by decide, if_true]
  refine W.KFB.if_so (by decide) ?_
  refine wpAny_bind (check_bound_init F.excBase_ValueError.toExcCallFacts hC he rfl ?_)
  refine wpAny_bind (wpAny_pure (wpAny_pure ?_))
  refine ⟨plainId_quiet F.excBase_ValueError.init.plain _, codeAny_builtin F.excBase_ValueError.initEntry ?_⟩
  rw [Around.under_plainId F.excBase_ValueError.init.plain _]
  wp_walk
  refine hq _ h.objs.size (fun b o hb ho => ?_) ?_
  · rw [Heap.get?_update_other _ _ (Ne.symm hb)]
    exact Heap.get?_push_of_some _ ho
  · rw [Heap.get?_update_self _ (Heap.get?_push_of_some _ he) rfl]
    rfl
end

/-- what is known of such a class and its __init__ -/
structure SiC (P : Program) (K : PySem.W.Frag) (mg : Str → Option Value) (st : Stmt) (qual fld prm : Str) (D f : Addr) (fd : FuncData) : Prop where
  oex : OexC K D
  sc : NScope ["self", prm, "__class__"] ["self", prm] ["__class__"] (defScope st)
  sup : (defScope st).names.lookup ("super" : Str) = some .globalImplicit
  body : ∃ p0 p1 p2 p3 p4 p5 p6 p7 p8 p9, defBody st = [.Expr (.Call (.Attribute (.Call (.Name "super" p0) [] [] p1) "__init__" p2) [.Name prm p3] [] p4) p5, .Assign [.Attribute (.Name "self" p6) fld p7] (.Name prm p8) p9] ∧
    ∃ pl : Sem Bool, ∀ (L f cda cc : Addr), eval (.Call (.Attribute (.Call (.Name "super" p0) [] [] p1) "__init__" p2) [.Name prm p3] [] p4) (PySem.W.envX qual (defScope st) L f (.ref cda) [("__class__", cc)]) = (do
      let ov ← attributeBase (.Call (.Name "super" p0) [] [] p1) "__init__" (PySem.W.envX qual (defScope st) L f (.ref cda) [("__class__", cc)]) (eval (.Call (.Name "super" p0) [] [] p1) (PySem.W.envX qual (defScope st) L f (.ref cda) [("__class__", cc)]))
      standAt p2.atName
      let (f', first) ← holding [ov] (getMethod ov "__init__" pl)
      callWith p4 f' first (backTo p4 (starEach [.Name prm p3] (PySem.W.envX qual (defScope st) L f (.ref cda) [("__class__", cc)]))) [])
  head : ((defArgs st).posonlyargs ++ (defArgs st).args).head?.map (·.arg) = some "self"
  fdI : ∃ oc od osl kV doc pm an cda cc ct ccl cdd vs ccs file tf cl cld csl, fd = PySem.W.fnX "__init__" qual (defArgs st) (defBody st) (defScope st) [("__class__", cc)] .none kV doc pm an (.ref cda) ct ∧
    K.lookup f = some ⟨oc, od, .func fd, osl⟩ ∧ PySem.W.codeIn K (.ref cda) qual = true ∧ K.lookup cda = some ⟨ccl, cdd, .fields vs, ccs⟩ ∧ vs[2]? = some (.str file tf) ∧ ((P.main.file : Str) == file) = true ∧
    K.lookup cc = some ⟨cl, cld, .cell (some (.ref D)), csl⟩
  cls : (PySem.W.clsIn K D).isSome = true
  sub : PySem.W.mroIn K D (.ref D) = some true
  subV : PySem.W.subIn K (.ref D) (.type "ValueError") = some true
  top : (P.main.scope.names.lookup ("super" : Str)).isSome = false
  opq : PySem.W.nsIn K cStatics "thirdparty.any" = some none
  sin : PySem.W.ks_superIn K D D "__init__" = some (some (.builtin "ValueError.__init__"))
  nos : mg "super" = none
  hno : PySem.W.findIn K (.ref D) fld = some none
  nd : (prm == ("__debug__" : Str)) = false
  nc : (prm == ("__classdict__" : Str)) = false

def spSi (D : Addr) (fld : Str) : Sp := fun vs H Q _ => ∃ (a : Addr) (v : V), vs = [.ref a, v] ∧ H a = some (exo a D none) ∧ ∀ d, H d = none → d ≠ a → Q .non (upd (upd H d (exd d [(fld, v)])) a (exo a D (some d)))

section
variable {P : Program} {w : World} {K : PySem.W.Frag} {mg : Str → Option Value} {base : Heap} {CX : CXT}
theorem si_ok {st : Stmt} {qual fld prm : Str} {D f : Addr} {fd : FuncData} {k : Nat} (T : SiC P K mg st qual fld prm D f fd) : FnOk P w K mg base CX (k + 1) f fd ["self", prm] (spSi D fld) := by
  refine ⟨fun vs H Q E h => by obtain ⟨a, v, rfl, _⟩ := h; rfl, fun A outer s H args us vs Q E hr e0 hb r hsp => ?_⟩
  obtain ⟨a, v, rfl, ha, q⟩ := hsp
  obtain ⟨p0, p1, p2, p3, p4, p5, p6, p7, p8, p9, hbody, pl, hev⟩ := T.body
  obtain ⟨oc, od, osl, kV, doc, pm, an, cda, cc, ct, ccl, cdd, cvs, ccs, file, tf, cl, cld, csl, rfl, lk, hcd, hcode, hvs, hfile, hcell⟩ := T.fdI
  have KX : K.In s.heap := e0.mod.kin.keeps fun b o e => (e0.bs b o e).1
  have lim : s.heap.NoLimit := e0.mod.nolimit.keeps fun b o e => (e0.bs b o e).1
  have hlen : (["self", prm] : List Str).length = us.length := by rw [← r.length]; rfl
  have S := T.sc
  refine ks_codeAny_call_defAt (fd := PySem.W.fnX "__init__" qual (defArgs st) (defBody st) (defScope st) [("__class__", cc)] .none kV doc pm an (.ref cda) ct) (body := defBody st) (binds := (["self", prm] : List Str).zip us) hr.depth (KX _ _ lk) rfl lim (PySem.W.codeRec_of KX hcd) rfl hb S.nocell (fun ⟨n, _⟩ hy => S.par n (List.of_mem_zip hy).1) (fun h₁ hns kp => ?_) S.co S.gen S.kind
  let F : NF := ⟨"__init__", qual, defArgs st, defBody st, defScope st, [("__class__", cc)], cda⟩
  show _root_.PySem.wpAt (model P w) (A.deeper (envF F f s.heap.objs.size)) (.func (defBody st) (envF F f s.heap.objs.size)) (execs (defBody st) (envF F f s.heap.objs.size)) _ _ _
  have hbc := e0.bs cc _ (e0.mod.kin _ _ hcell)
  have C : CellsAt F.cl ["__class__"] [some (.ref D)] s.heap H := by
    have look : ∀ y c, F.cl.lookup y = some c → c = cc := fun y c e => by
      have e' : List.lookup y [(("__class__" : Str), cc)] = some c := e
      simp only [List.lookup] at e'
      split at e' <;> simp at e' <;> exact e'.symm
    refine ⟨rfl, fun y c e => ?_, fun x y c e1 e2 => ?_, fun i y e => ?_⟩
    · rw [look y c e]
      exact ⟨hbc.2, _, _, hbc.1, rfl⟩
    · have key : ∀ z, List.lookup z [(("__class__" : Str), cc)] = some c → z = ("__class__" : Str) := fun z e' => by
        simp only [List.lookup] at e'
        split at e'
        · rename_i hz
          exact beq_iff_eq.mp hz
        · cases e'
      rw [key x e1, key y e2]
    · cases i with
      | zero =>
        simp at e
        subst e
        refine ⟨cc, by show List.lookup ("__class__" : Str) [(("__class__" : Str), cc)] = some cc; simp [List.lookup], fun v' hv' => ?_⟩
        simp at hv'
        subst hv'
        exact ⟨.ref D, rfl, _, hbc.1, rfl⟩
      | succ i => simp at e
  have I : Inv (ncx CX P w K mg base ["self", prm, "__class__"] F f A outer s H E) [] (startF ["self", prm, "__class__"] [.ref a, v] [some (.ref D)]) H { s with heap := h₁, toks := s.toks + ((["self", prm] : List Str).zip us).length } :=
    inv_startN S hr.hd e0 rfl r C hns kp
  generalize hs1 : ({ s with heap := h₁, toks := s.toks + ((["self", prm] : List Str).zip us).length } : Shared) = s1 at I ⊢
  have kloc : ∀ x ∈ (["self", prm] : List Str), (defScope st).names.lookup x = some .local := S.par
  have vis0 : Vis (ncx CX P w K mg base ["self", prm, "__class__"] F f A outer s H E).env.scope "self" := .inl (kloc "self" (by simp))
  have vis1 : Vis (ncx CX P w K mg base ["self", prm, "__class__"] F f A outer s H E).env.scope prm := .inl (kloc prm (by simp))
  have hσ : startF ["self", prm, "__class__"] [.ref a, v] [some (.ref D)] = [some (.ref a), some v, some (.ref D)] := rfl
  rw [hσ] at I
  have h0 : (ncx CX P w K mg base ["self", prm, "__class__"] F f A outer s H E).N[0]? = some ("self" : Str) := rfl
  have h1 : (ncx CX P w K mg base ["self", prm, "__class__"] F f A outer s H E).N[1]? = some prm := rfl
  obtain ⟨ar, har, hself⟩ : ∃ ar, ((defArgs st).posonlyargs ++ (defArgs st).args).head? = some ar ∧ ar.arg = ("self" : Str) := by
    have z := T.head
    cases e : ((defArgs st).posonlyargs ++ (defArgs st).args).head? with
    | none => rw [e] at z; cases z
    | some ar => rw [e] at z; exact ⟨ar, rfl, Option.some.inj z⟩
  obtain ⟨cdD, hclsD⟩ := Option.isSome_iff_exists.mp T.cls
  obtain ⟨nm, qn, Nn, bs, bm, sn, sub, ab, col, dd, k0, k1, k2, k3, k5, hC0, hbm⟩ := T.oex.cls
  have hkc : (envF F f s.heap.objs.size).kindOf "__class__" = some .free := S.frk "__class__" (by simp)
  have hcl1 : (envF F f s.heap.objs.size).cells.lookup ("__class__" : Str) = some cc := by show List.lookup ("__class__" : Str) [(("__class__" : Str), cc)] = some cc; simp [List.lookup]
  have I0 := I
  clear hs1
  obtain ⟨hh, g, dr, tk, os1⟩ := s1
  obtain ⟨oD, hD1, hD2⟩ : ∃ oD, hh.get? D = some oD ∧ oD.data = .cls cdD := by
    unfold PySem.W.clsIn at hclsD
    split at hclsD
    · rename_i c d cd' sl ho
      cases hclsD
      exact ⟨_, I.kIn _ _ ho, rfl⟩
    · cases hclsD
  rw [show execs (defBody st) (envF F f s.heap.objs.size) = execs [.Expr (.Call (.Attribute (.Call (.Name "super" p0) [] [] p1) "__init__" p2) [.Name prm p3] [] p4) p5, .Assign [.Attribute (.Name "self" p6) fld p7] (.Name prm p8) p9] (envF F f s.heap.objs.size) from by rw [hbody]]
  have hint : interactive (envF F f s.heap.objs.size) = false := by
    unfold interactive
    rw [show (envF F f s.heap.objs.size).scope.kind = .function from S.kind]
    rfl
  refine ks_wpAt_execs_cons (ks_wpAt_Expr_any (ks_wpAt_MethodCall (pl := pl) ?_ (hev _ _ _ _)) (hi := hint))
  refine ks_wpAt_super_base (fd := PySem.W.fnX "__init__" qual (defArgs st) (defBody st) (defScope st) [("__class__", cc)] .none kV doc pm an (.ref cda) ct) (ar := ar) T.sup hkc (by decide) rfl (I.kIn _ _ lk) rfl har rfl (I.kIn _ _ hcode) rfl hvs hfile T.top ?_
  obtain ⟨mb, hb1, hb2⟩ := I.mod.blt
  refine ks_loadName_global S.kind T.sup (Calls.loadGlobal_builtin (I.mod.glob.keeps I.bk) T.nos (hb1.keeps I.bk) ((hb2 "super" (by decide)).trans (by decide +kernel)) ⟨rfl, ?_⟩)
  refine wpAny_loadName_free S.kind hkc hcl1 ⟨_, I.kIn _ _ hcell, rfl⟩ ?_
  obtain ⟨m, hn, hl⟩ := I.loc
  obtain ⟨u0, ru0, lk0⟩ := hl 0 "self" (.ref a) h0 rfl vis0
  obtain rfl : u0 = Value.ref a := ru0
  have hm0 : m "self" = some (.ref a) := by
    rcases lk0 with ⟨_, e⟩ | ⟨kk, _⟩
    · exact e
    · have kk : (defScope st).names.lookup ("self" : Str) = some .cell ∨ (defScope st).names.lookup ("self" : Str) = some .free := kk
      rw [kloc "self" (by simp)] at kk
      rcases kk with kk | kk <;> cases kk
  rw [hself]
  refine wpAny_loadName_local S.kind (kloc "self" (by simp)) hn hm0 ?_
  refine ks_wpAny_isType_cls hD1 hD2 ⟨rfl, ?_⟩
  obtain ⟨t1, hx⟩ := exo_at I.hok ha
  refine ks_wpAny_call_super hD1 hD2 hx rfl (fun c e => nomatch e) (PySem.W.looks_mroIn I.kIn T.sub) (fun h' e k => ?_)
  have I2 : Inv (ncx CX P w K mg base ["self", prm, "__class__"] F f A outer s H E) [] [some (.ref a), some v, some (.ref D)] H ⟨h', g, dr, tk, os1⟩ := I.kept (h' := h') (t' := tk) k
  have hx2 : h'.get? a = some ({ cls := .ref D, dict := none, data := .fields #[.ref t1, .none, .none, .none, .bool false, .none] } : Obj) := k _ _ hx
  have IA : PySem.W.InstAt h' a ({ cls := .ref D, dict := none, data := .fields #[.ref t1, .none, .none, .none, .bool false, .none] } : Obj) D none := ⟨hx2, rfl, rfl, trivial⟩
  have hsin := T.sin
  unfold PySem.W.ks_superIn at hsin
  rw [hclsD] at hsin
  refine kxs_getMethod kxs_ValueError e (looks_opaque I2.kIn T.opq) (l₀ := cdD.mro) (fun A Q E s k q => wpAny_bind ((PySem.W.looks_clsIn I2.kIn hclsD) A _ E s k (wpAny_pure q))) rfl I2.kIn hsin (IA.type.andThen (PySem.W.looks_subIn I2.kIn T.subV)) (PySem.W.ks_ne I2.kIn IA hclsD) (by decide) ?_
  have kp3 : ∀ b u, h'.get? b = some u → (h'.push (kxs_mw "ValueError.__init__" a)).get? b = some u := fun b u z => Heap.get?_push_of_some _ z
  have I3 : Inv (ncx CX P w K mg base ["self", prm, "__class__"] F f A outer s H E) [] [some (.ref a), some v, some (.ref D)] H ⟨h'.push (kxs_mw "ValueError.__init__" a), g, dr, tk + 1, os1⟩ := I2.kept (h' := h'.push (kxs_mw "ValueError.__init__" a)) (t' := tk + 1) kp3
  have hu3 : (h'.push (kxs_mw "ValueError.__init__" a)).get? h'.objs.size = some (kxs_mw "ValueError.__init__" a) := Heap.get?_push_at rfl rfl
  have I3p : Inv (ncx CX P w K mg base ["self", prm, "__class__"] F f A outer s H E) [(h'.objs.size, kxs_mw "ValueError.__init__" a)] [some (.ref a), some v, some (.ref D)] H ⟨h'.push (kxs_mw "ValueError.__init__" a), g, dr, tk + 1, os1⟩ :=
    I3.pins_of fun p hp => by
      obtain rfl := List.mem_singleton.mp hp
      exact ⟨hu3, I2.hok.fresh (Nat.le_refl _), Nat.ne_of_gt I2.lt, I2.nofs (Nat.le_refl _), fun v z => nomatch z⟩
  show wpAny _ _ (callWith p4 (.ref h'.objs.size) [] (backTo p4 (starEach [.Name prm p3] (envF F f s.heap.objs.size))) []) _ _ _
  rw [show starEach [Expr.Name prm p3] (envF F f s.heap.objs.size) = (false, eval (.Name prm p3) (envF F f s.heap.objs.size)) :: starEach [] (envF F f s.heap.objs.size) from rfl]
  refine PySem.W.kxs_callWith (i := "ValueError.__init__") (x := a) rfl ?_
  refine Calls.evalArgs_plain ?_
  refine thn ((pa_cons (X := ncx CX P w K mg base ["self", prm, "__class__"] F f A outer s H E) (pe_var h1 vis1 T.nd T.nc) pa_nil).run p4 _ _ _ _ (fun vs H2 => vs = [v] ∧ H2 = H) I3p ⟨v, rfl, rfl, rfl⟩) fun us2 s2 hh2 => ?_
  obtain ⟨vs2, H2, I4, r4, rfl, rfl⟩ := hh2
  obtain ⟨hu4, _⟩ := I4.pin (h'.objs.size, kxs_mw "ValueError.__init__" a) (List.mem_append_right _ (List.mem_singleton.mpr rfl))
  refine ⟨hu4, ?_⟩
  obtain ⟨t4, hx4⟩ := exo_at I4.hok ha
  obtain ⟨hh4, g4, dr4, tk4, os4⟩ := s2
  have hl4 : us2.length ≤ sizeLine := by
    rw [← r4.length, sizeLine_eq]
    show 1 ≤ _
    omega
  refine call_mw (I4.kIn _ _ hC0) hx4 hu4 hl4 fun h5 t5 k5 hx5 => ?_
  have J := I4.write (t' := tk4) (x := a) (e := a) (o := exo a D none) (by rw [ha]; exact True.intro) (.inl rfl) k5 ⟨_, hx5⟩ (exo_ok hx5)
  have eu : upd H2 a (exo a D none) = H2 := by
    funext b
    by_cases hb : b = a
    · rw [hb, upd_same, ha]
    · rw [upd_ne hb]
  rw [eu] at J
  have J0 := J.pins_of (pins' := []) fun p hp => absurd hp (by simp)
  show _root_.PySem.wpAt _ _ _ (execs [.Assign [.Attribute (.Name "self" p6) fld p7] (.Name prm p8) p9] (envF F f s.heap.objs.size)) _ _ _
  refine _root_.PySem.wpAt_of_wpAny ?_
  refine wpAny_mono ((pss_one (ps_ost (X := ncx CX P w K mg base ["self", prm, "__class__"] F f A outer s H2 E) (f := fld) (pe_var h0 vis0) (pe_var h1 vis1 T.nd T.nc))).run [] _ _ _ { nx := fun _ H' => Q .non H', rt := Q } J0 ⟨v, rfl, .ref a, rfl, a, D, rfl, T.oex, T.hno, .inl ⟨ha, fun dx n ne => q dx n ne⟩⟩) (fun fl s' hs => ?_) fun e s' hs => hs
  cases fl with
  | ret u =>
    obtain ⟨v', σ', H', J', rv, q'⟩ := hs
    exact ⟨v', H', J'.os, J'.bare, J'.base, J'.hok, rv, q'⟩
  | next =>
    obtain ⟨σ', H', J', q'⟩ := hs
    exact ⟨V.non, H', J'.os, J'.bare, J'.base, J'.hok, rfl, q'⟩
  | brk =>
    obtain ⟨_, _, _, q'⟩ := hs
    exact False.elim q'
  | cont =>
    obtain ⟨_, _, _, q'⟩ := hs
    exact False.elim q'
end

/-! ### exceptions held as values -/
/-- isinstance(e, c), e an exception that the heap tracks -/
def rIsO (K : PySem.W.Frag) : List V → Hp → VK → Prop := fun xs H Q => ∃ (a D : Addr) (d : Option Addr) (c : V) (cv : Value) (b : Bool), xs = [.ref a, c] ∧ H a = some (exo a D d) ∧ (∀ dx, d = some dx → ∃ fs, H dx = some (exd dx fs)) ∧ ExcC K D ∧ ClsV c cv ∧ PySem.W.kitOne K (.ref D) cv = some b ∧ Q (.bl b) H
theorem call_isO {X : Cx} : CallR X (.builtin "isinstance") (rIsO X.K) := by
  intro pins s σ H xs us Q I r h
  obtain ⟨a, D, d, c, cv, b, rfl, ha, hd, C, hcv, e, q⟩ := h
  cases r with
  | cons rx rr =>
    cases rr with
    | cons rt rr =>
      cases rr
      cases rx
      have ec := hcv.eq rt
      subst ec
      obtain ⟨t1, ho⟩ := exo_at I.hok ha
      have hcl : (PySem.W.clsIn X.K D).isSome = true := by
        obtain ⟨cd, hc, _⟩ := PySem.W.any_some C.hd
        rw [hc]
        rfl
      cases d with
      | none =>
        have J : PySem.W.InstAt s.heap a ({ cls := .ref D, dict := none, data := .fields #[.ref t1, .none, .none, .none, .bool false, .none] } : Obj) D none := ⟨ho, rfl, rfl, trivial⟩
        exact PySem.W.kia_one (PySem.W.kitx_exc hcl C.hg C.hk C.hs C.ha C.hn C.ht C.hm) I.kIn J e (fun z => nomatch z) fun tk => ⟨.bl b, H, I.tok tk, rfl, q⟩
      | some dx =>
        obtain ⟨fs, hdx⟩ := hd dx rfl
        obtain ⟨mA, hns, rel⟩ := exd_at I.hok hdx
        obtain ⟨oD, _, _, hoD, _⟩ := hns
        have J : PySem.W.InstAt s.heap a ({ cls := .ref D, dict := some dx, data := .fields #[.ref t1, .none, .none, .none, .bool false, .none] } : Obj) D (some oD) := ⟨ho, rfl, rfl, hoD⟩
        exact PySem.W.kia_one (PySem.W.kitx_exc hcl C.hg C.hk C.hs C.ha C.hn C.ht C.hm) I.kIn J e (fun z => nomatch z) fun tk => ⟨.bl b, H, I.tok tk, rfl, q⟩
/-- X(), an own exception class without own __init__ -/
def tExo0 (C : Addr) : TE := fun _ H Q => ∀ a, H a = none → Q (.ref a) (upd H a (exo a C none))
section
variable {X : Cx} {CX : CXT} {C f : Addr} {x n : Str} {e : Expr} {es : List Expr} {te : TE} {ta : TA} {p pos : Pos} {sp : Sp} {dvs : List V} {ds : List Value} {k : Nat} {fd : FuncData} {ps : List Str}
theorem pe_exo0 (q : PySem.W.excIn X.K C [.type "ValueError", .type "Exception", .type "BaseException", .type "object"] "ValueError.__new__" = true) (gC : X.mg x = some (.ref C)) (kC : PySem.W.keepIn X.K (.ref C) = true) (hg : Gl X x) (hdb : (x == ("__debug__" : Str)) = false := by decide) :
    PE X (.Call (.Name x p) [] [] pos) (tExo0 C) := by
  refine ⟨fun pins s σ H Q I h => ?_⟩
  refine wpAny_Call_Name_kw (ld_glob I hg gC ?_ hdb)
  refine PySem.W.callWith_K0 I.kIn kC ?_
  obtain ⟨bm, N, nm, qn, bs, hdct, sn, sub, ab, col, dd, k0, k1, k2, k3, k5, mN, hC, hN, hni, T⟩ := exc_obj I.kIn q
  show wpAny _ _ (call (.ref C) []) _ _ _
  refine wpAny_call_exc_subT F.excBase_ValueError T hC hN hni (fun h' a hm => ?_) (by show 0 ≤ sizeLine; exact Nat.zero_le _)
  have hn : H a = none := I.hok.gone hm.new
  obtain ⟨t, ht, _, _⟩ := hm.there
  exact ⟨.ref a, upd H a (exo a C none), I.laidN hm.keeps hm.new hn (exo_ok ht), rfl, h a hn⟩
/-- X(e, ..), its own __init__ keeping sp, as a value -/
def tMkV (C : Addr) (sp : Sp) (dvs : List V) (ta : TA) : TE := fun σ H Q => ta σ H fun vs H1 => vs.length ≤ 1000 ∧ ∀ a, H1 a = none → sp (.ref a :: (vs ++ dvs)) (upd H1 a (exo a C none)) (fun v H2 => v = .non ∧ Q (.ref a) H2) (fun _ _ _ => False)
theorem pe_mkV (T : OexC X.K C) (iC : PySem.W.findIn X.K (.ref C) "__init__" = some (some (.ref f))) (tI : PySem.W.typeIn X.K (.ref f) = some (.type "function"))
    (F1 : FnOk X.prog X.w X.K X.mg X.base CX k f fd ps sp) (hr : Room (k + 1) X.A) (hb : Binds X.K fd ps ds) (hd : Vals dvs ds) (hx : Passes CX X (fun _ _ _ => False)) (hg : Gl X x) (hm : X.mg x = some (.ref C)) (ha : PA X (e :: es) ta)
    (hdb : (x == ("__debug__" : Str)) = false := by decide) (he : starEach (e :: es) X.env = (false, eval e X.env) :: starEach es X.env := by rfl) (hpl : (backTo pos (starEach es X.env)).any (·.1) = false := by rfl) :
    PE X (.Call (.Name x p) (e :: es) [] pos) (tMkV C sp dvs ta) := by
  refine ⟨fun pins s σ H Q I h => ?_⟩
  obtain ⟨nm, q, N, bs, bm, sn, sub, ab, col, dd, k0, k1, k2, k3, k5, hC, hbm⟩ := T.cls
  refine wpAny_Call_Name_kw (ld_glob I hg hm ?_ hdb)
  refine PySem.W.callWith_K (h₀ := X.base) I.ok.mod.kin T.kC (thn (ha.run pos pins s σ H _ I h) fun us s1 ⟨vs, H1, I1, r1, hz, q1⟩ => ⟨I1.kIn, ?_⟩) he hpl
  show wpAny _ _ (call (.ref C) us) _ _ _
  obtain ⟨hp, g, dr, tk, os⟩ := s1
  have hsz : hp.objs.size ≤ hp.objs.size + 1 := Nat.le_succ _
  have hn : H1 (hp.objs.size + 1) = none := I1.hok.fresh hsz
  have hq := q1 (hp.objs.size + 1) hn
  have kk : ∀ b o, hp.get? b = some o → ((hp.push (PySem.W.kdv_tup us)).push (PySem.HandSPX.excO C hp.objs.size)).get? b = some o := fun b o e => Heap.get?_push_of_some _ (Heap.get?_push_of_some _ e)
  have hget : ((hp.push (PySem.W.kdv_tup us)).push (PySem.HandSPX.excO C hp.objs.size)).get? (hp.objs.size + 1) = some (PySem.HandSPX.excO C hp.objs.size) := by heap_get
  have I2 : Inv X pins σ (upd H1 (hp.objs.size + 1) (exo (hp.objs.size + 1) C none)) ⟨(hp.push (PySem.W.kdv_tup us)).push (PySem.HandSPX.excO C hp.objs.size), g, dr, tk, os⟩ :=
    I1.laid (t' := tk) (a := hp.objs.size + 1) (o := exo (hp.objs.size + 1) C none) (h' := (hp.push (PySem.W.kdv_tup us)).push (PySem.HandSPX.excO C hp.objs.size)) kk hsz (exo_ok hget)
  have r2 : Vals (V.ref (hp.objs.size + 1) :: (vs ++ dvs)) (Value.ref (hp.objs.size + 1) :: (us ++ ds)) := .cons rfl (r1.append hd)
  have hl : (Value.ref (hp.objs.size + 1) :: us ++ ds).length = ps.length := by
    have e := r2.length
    rw [F1.len _ _ _ _ hq] at e
    exact e.symm
  have hus : us.length ≤ sizeLine := by
    rw [← Paired.length r1, sizeLine_eq]
    omega
  refine wpAny_call (PySem.HandSPX.call_own F.excBase_ValueError (fun Y => PySem.HandSPX.refsVE_contains Y bm hbm) (I1.kIn _ _ hC) (PySem.W.looks_findIn I1.kIn iC) (fun self => PySem.W.bind_fn I1.kIn self tI) hus
    (codeAny_mono (F1.run _ X.stack _ _ ⟨Value.ref (hp.objs.size + 1) :: us, []⟩ (Value.ref (hp.objs.size + 1) :: (us ++ ds)) _ _ (fun _ _ _ => False) (hr.make C us []) (I2.env0.make C us []) (hb _ (Value.ref (hp.objs.size + 1) :: us) I2.kIn hl) r2 hq) fun r s' hq' => ?_))
  cases r with
  | error er => exact hx pins σ _ _ er s' I2 hq'
  | ok fl =>
    cases fl with
    | ret u =>
      obtain ⟨v, H', I3, rv, ev, q3⟩ := I2.after hq'
      subst ev
      exact ⟨rv, ⟨V.ref (hp.objs.size + 1), H', I3, rfl, q3⟩⟩
    | next => exact False.elim hq'
    | brk => exact False.elim hq'
    | cont => exact False.elim hq'
/-- e.n, e such an exception with its dict -/
def tXo (K : PySem.W.Frag) (n : Str) (te : TE) : TE := fun σ H Q => te σ H fun x H1 => ∃ (a C dx : Addr) (fs : List (Str × V)) (v : V), x = .ref a ∧ H1 a = some (exo a C (some dx)) ∧ H1 dx = some (exd dx fs) ∧ ExcC K C ∧ PySem.W.findIn K (.ref C) n = some none ∧ fs.lookup n = some v ∧ Q v H1
theorem pe_xo (he : PE X e te) (hb : attributeBase e n X.env (eval e X.env) = eval e X.env := by rfl) : PE X (.Attribute e n pos) (tXo X.K n te) := by
  refine ⟨fun pins s σ H Q I h => ?_⟩
  refine attr_of hb (thn (he.run pins s σ H _ I h) fun u s1 hh => ?_)
  obtain ⟨x, H1, I1, rx, a, C, dx, fs, v, ex, ha, hdx, T, hno, l, q⟩ := hh
  subst ex
  obtain rfl : u = Value.ref a := rx
  obtain ⟨t1, ho⟩ := exo_at I1.hok ha
  obtain ⟨mA, hns, hr⟩ := exd_at I1.hok hdx
  obtain ⟨od, hod, hl⟩ := lookIn_ns hns
  obtain ⟨u, hu, ru⟩ := RelO.some_of (v := v) (o := mA n) (by rw [← l]; exact hr n)
  have J : PySem.W.InstAt s1.heap a ({ cls := .ref C, dict := some dx, data := .fields #[.ref t1, .none, .none, .none, .bool false, .none] } : Obj) C (some od) := ⟨ho, rfl, rfl, hod⟩
  exact HandSPX.exc_get I1.kIn J T.hg T.hk T.hs (PySem.W.findObj_own T.hd hno rfl (by rw [hl, hu])) (handed_of ru) ⟨v, H1, I1.tok _, ru, q⟩
end
/-! reading lemmas -/
/-- an exception of class D lies at a -/
def ExA (K : PySem.W.Frag) (H : Hp) (a D : Addr) : Prop := ∃ d, H a = some (exo a D d) ∧ (∀ dx, d = some dx → ∃ fs, H dx = some (exd dx fs)) ∧ ExcC K D
/-- one with a single field -/
def ExF (H : Hp) (a D : Addr) (fld : Str) (v : V) : Prop := ∃ d, H a = some (exo a D (some d)) ∧ H d = some (exd d [(fld, v)])
theorem ExA.same {K : PySem.W.Frag} {H H' : Hp} {a D : Addr} (s : Same H H') (h : ExA K H a D) : ExA K H' a D := by
  obtain ⟨d, h1, h2, h3⟩ := h
  exact ⟨d, s _ _ h1, fun dx e => (h2 dx e).imp fun fs h => s _ _ h, h3⟩
theorem ExF.same {H H' : Hp} {a D : Addr} {fld : Str} {v : V} (s : Same H H') (h : ExF H a D fld v) : ExF H' a D fld v := by
  obtain ⟨d, h1, h2⟩ := h
  exact ⟨d, s _ _ h1, s _ _ h2⟩
theorem ExF.exA {K : PySem.W.Frag} {H : Hp} {a D : Addr} {fld : Str} {v : V} (h : ExF H a D fld v) (e : ExcC K D) : ExA K H a D := by
  obtain ⟨d, h1, h2⟩ := h
  exact ⟨some d, h1, fun dx e => ⟨_, by cases e; exact h2⟩, e⟩
theorem isO {K : PySem.W.Frag} {H : Hp} {a D : Addr} {c : V} {cv : Value} {b : Bool} {Q : VK} (h : ExA K H a D) (hc : ClsV c cv) (e : PySem.W.kitOne K (.ref D) cv = some b) (q : Q (.bl b) H) : rIsO K [.ref a, c] H Q := by
  obtain ⟨d, h1, h2, h3⟩ := h
  exact ⟨a, D, d, c, cv, b, rfl, h1, h2, h3, hc, e, q⟩
theorem same_up {H : Hp} {p : Addr} {o : HO} (h : H p = none) : Same H (upd H p o) := fun b x e => by
  unfold upd
  rw [if_neg (fun z => by subst z; rw [h] at e; cases e)]
  exact e
theorem exo0R {C : Addr} {σ : L2.St} {H : Hp} {Q : VK} (h : ∀ p H2, H p = none → Same H H2 → H2 p = some (exo p C none) → Q (.ref p) H2) : tExo0 C σ H Q := fun p hp => h p _ hp (same_up hp) upd_same
theorem mkV {C : Addr} {sp : Sp} {dvs : List V} {ta : TA} {σ : L2.St} {H : Hp} {Q : VK} (h : ta σ H fun vs H1 => vs.length ≤ 1000 ∧ ∀ a, H1 a = none → sp (.ref a :: (vs ++ dvs)) (upd H1 a (exo a C none)) (fun v H2 => v = .non ∧ Q (.ref a) H2) (fun _ _ _ => False)) : tMkV C sp dvs ta σ H Q := h
theorem mkF {C : Addr} {fld : Str} {v : V} {H1 : Hp} {R : Addr → Hp → Prop} {E : XK} (q : ∀ p H2, H1 p = none → Same H1 H2 → ExF H2 p C fld v → R p H2) :
    [v].length ≤ 1000 ∧ ∀ a, H1 a = none → spSi C fld (.ref a :: ([v] ++ [])) (upd H1 a (exo a C none)) (fun u H2 => u = .non ∧ R a H2) E := by
  refine ⟨(by show 1 ≤ 1000; decide), fun a ha => ⟨a, v, rfl, upd_same, fun d hd n => ⟨rfl, q a _ ha (fun b o e => ?_) ⟨d, upd_same, ?_⟩⟩⟩⟩
  · have n1 : b ≠ a := fun z => by subst z; rw [ha] at e; cases e
    have e1 : upd H1 a (exo a C none) b = some o := by
      unfold upd
      rw [if_neg n1]
      exact e
    have n2 : b ≠ d := fun z => by subst z; rw [hd] at e1; cases e1
    unfold upd at *
    rw [if_neg n1, if_neg n2]
    exact e1
  · unfold upd
    rw [if_neg n, if_pos rfl]
theorem xo {n : Str} {te : TE} {K : PySem.W.Frag} {σ : L2.St} {H : Hp} {Q : VK} (h : te σ H fun x H1 => ∃ (a C dx : Addr) (fs : List (Str × V)) (v : V), x = .ref a ∧ H1 a = some (exo a C (some dx)) ∧ H1 dx = some (exd dx fs) ∧ ExcC K C ∧ PySem.W.findIn K (.ref C) n = some none ∧ fs.lookup n = some v ∧ Q v H1) : tXo K n te σ H Q := h
theorem xoF {n : Str} {K : PySem.W.Frag} {H : Hp} {a C : Addr} {v : V} {R : V → Prop} (h : ExF H a C n v) (e : ExcC K C) (hn : PySem.W.findIn K (.ref C) n = some none) (q : R v) :
    ∃ (b C dx : Addr) (fs : List (Str × V)) (w : V), V.ref a = .ref b ∧ H b = some (exo b C (some dx)) ∧ H dx = some (exd dx fs) ∧ ExcC K C ∧ PySem.W.findIn K (.ref C) n = some none ∧ fs.lookup n = some w ∧ R w := by
  obtain ⟨d, h1, h2⟩ := h
  exact ⟨a, C, d, _, v, rfl, h1, h2, e, hn, by simp [List.lookup], q⟩
end SPX

/-! nested data; what the laws' own comparison asks -/
namespace SPD
open PySem PySem.Spec PyProof.Rows L2

/-! ### kinds -/
inductive Kd where
  | non | bl | int | str | dct | lst | tup
  deriving DecidableEq
def Kd.ty : Kd → String
  | .non => "NoneType" | .bl => "bool" | .int => "int" | .str => "str" | .dct => "dict" | .lst => "list" | .tup => "tuple"
def Kd.sq : Kd → Bool
  | .lst => true | .tup => true | _ => false
inductive KdOf (K : PySem.W.Frag) (H : Hp) : V → Kd → Prop where
  | non : KdOf K H .non .non
  | bl (b : Bool) : KdOf K H (.bl b) .bl
  | int (i : Int) : KdOf K H (.int i) .int
  | str (x : Str) : KdOf K H (.str x) .str
  | dct {a : Addr} {kvs : List (Key × V)} (h : H a = some (.dK kvs)) : KdOf K H (.ref a) .dct
  | lst {a : Addr} {xs : List V} (h : H a = some (.lst xs)) : KdOf K H (.ref a) .lst
  | tup {a : Addr} {xs : List V} (h : H a = some (.tup xs)) : KdOf K H (.ref a) .tup
theorem KdOf.tyx {K : PySem.W.Frag} {H : Hp} {v : V} {k : Kd} (h : KdOf K H v k) : TyX K H v (.type k.ty) := by
  cases h with
  | non => exact .base .non
  | bl b => exact .base (.bl b)
  | int i => exact .base (.int i)
  | str x => exact .base (.str x)
  | dct h => exact .base (.dK h)
  | lst h => exact .base (.lst h)
  | tup h => exact .base (.tup h)
theorem kit_kd {K : PySem.W.Frag} (k : Kd) : PySem.W.kitOne K (.type k.ty) (.type "tuple") = some (decide (k = .tup)) ∧ PySem.W.kitOne K (.type k.ty) (.type "list") = some (decide (k = .lst)) ∧ PySem.W.kitOne K (.type k.ty) (.type "bool") = some (decide (k = .bl)) ∧ PySem.W.kitOne K (.type k.ty) (.type "str") = some (decide (k = .str)) := by
  cases k <;> exact ⟨kit_ty (by decide +kernel), kit_ty (by decide +kernel), kit_ty (by decide +kernel), kit_ty (by decide +kernel)⟩
theorem kit_int {K : PySem.W.Frag} (k : Kd) : PySem.W.kitOne K (.type k.ty) (.type "int") = some (decide (k = .int ∨ k = .bl)) := by
  cases k <;> exact kit_ty (by decide +kernel)
theorem kit_two {K : PySem.W.Frag} {t c d : Value} {a b : Bool} (h1 : PySem.W.kitOne K t c = some a) (h2 : PySem.W.kitOne K t d = some b) : PySem.W.kitAny K t [c, d] = some (a || b) := by
  refine kitAny_cons h1 (fun e => kitAny_cons h2 (fun e2 => ?_) fun e2 => ?_) fun e => ?_
  · rw [kitAny_nil, e, e2]
    rfl
  · rw [e, e2]
    rfl
  · rw [e]
    rfl
theorem kit_seq {K : PySem.W.Frag} (k : Kd) : PySem.W.kitAny K (.type k.ty) [.type "tuple", .type "list"] = some k.sq := by
  obtain ⟨h1, h2, _⟩ := kit_kd (K := K) k
  rw [kit_two h1 h2]
  cases k <;> rfl

/-! ### data: what is within stands apart from x -/
def leaf : V → Bool
  | .non => true | .bl _ => true | .int _ => true | .str _ => true | _ => false
inductive Dq (x : Addr) (H : Hp) : Nat → V → Prop where
  | leaf {n : Nat} {v : V} : leaf v = true → Dq x H n v
  | dct {n : Nat} {a : Addr} {kvs : List (Key × V)} : a ≠ x → H a = some (.dK kvs) → (kvs.map (·.1)).Nodup → (∀ p ∈ kvs, flatB p.2 = true) → Dq x H n (.ref a)
  | tup {n : Nat} {a : Addr} {xs : List V} : a ≠ x → H a = some (.tup xs) → xs.length ≤ 16777216 → (∀ y, y ∈ xs → Dq x H n y) → Dq x H (n + 1) (.ref a)
  | lst {n : Nat} {a : Addr} {xs : List V} : a ≠ x → H a = some (.lst xs) → xs.length ≤ 16777216 → (∀ y, y ∈ xs → Dq x H n y) → Dq x H (n + 1) (.ref a)
theorem Dq.kb {x : Addr} {H H' : Hp} (k : RD.KB x H H') {n : Nat} {v : V} (h : Dq x H n v) : Dq x H' n v := by
  induction h with
  | leaf e => exact .leaf e
  | dct ne h nd fl => exact .dct ne (k _ _ ne h) nd fl
  | tup ne h hl _ ih => exact .tup ne (k _ _ ne h) hl ih
  | lst ne h hl _ ih => exact .lst ne (k _ _ ne h) hl ih
theorem Dq.same {x : Addr} {H H' : Hp} (k : Same H H') {n : Nat} {v : V} (h : Dq x H n v) : Dq x H' n v := h.kb (RD.Same.kb k)
theorem Dq.mono {x : Addr} {H : Hp} {n : Nat} {v : V} (h : Dq x H n v) : ∀ m, n ≤ m → Dq x H m v := by
  induction h with
  | leaf e => exact fun m _ => .leaf e
  | dct ne h nd fl => exact fun m _ => .dct ne h nd fl
  | tup ne h hl _ ih =>
    intro m hm
    obtain ⟨k, rfl⟩ : ∃ k, m = k + 1 := ⟨m - 1, by omega⟩
    exact .tup ne h hl fun y hy => ih y hy k (by omega)
  | lst ne h hl _ ih =>
    intro m hm
    obtain ⟨k, rfl⟩ : ∃ k, m = k + 1 := ⟨m - 1, by omega⟩
    exact .lst ne h hl fun y hy => ih y hy k (by omega)
theorem Dq.kd {K : PySem.W.Frag} {x : Addr} {H : Hp} {n : Nat} {v : V} (h : Dq x H n v) : ∃ k, KdOf K H v k := by
  cases h with
  | leaf e =>
    cases v with
    | non => exact ⟨_, .non⟩
    | bl b => exact ⟨_, .bl b⟩
    | int i => exact ⟨_, .int i⟩
    | str z => exact ⟨_, .str z⟩
    | byt b => cases e
    | flt b => cases e
    | ref a => cases e
    | ty s => cases e
  | dct ne h nd fl => exact ⟨_, .dct h⟩
  | tup ne h _ => exact ⟨_, .tup h⟩
  | lst ne h _ => exact ⟨_, .lst h⟩

/-! ### == of what is no list, no tuple; the laws' own comparison -/
inductive EqB (K : PySem.W.Frag) (H : Hp) : V → V → Bool → Prop where
  | scal {x y : V} : scal x y = true → EqB K H x y (decide (x = y))
  | deep {x y : V} {d e : PyData} : Dp K H x d → Dp K H y e → SeqAt.shaped d = true → SeqAt.shaped e = true → EqB K H x y (PyData.eqv d e)
  | dict {a : Addr} {kvs : List (Key × V)} : H a = some (.dK kvs) → (kvs.map (·.1)).Nodup → (∀ p ∈ kvs, flatB p.2 = true) → EqB K H (.ref a) (.ref a) true
/-- what told, due come to: b -/
inductive IsB (K : PySem.W.Frag) (H : Hp) : Nat → V → V → Bool → Prop where
  | leaf {n : Nat} {x y : V} {s t : Kd} {b : Bool} : KdOf K H x s → KdOf K H y t → t.sq = false → decide (s = .bl) = decide (t = .bl) → EqB K H x y b → IsB K H n x y b
  | bool {n : Nat} {x y : V} {s t : Kd} : KdOf K H x s → KdOf K H y t → t.sq = false → decide (s = .bl) ≠ decide (t = .bl) → IsB K H n x y false
  | kind {n : Nat} {x y : V} {s t : Kd} : KdOf K H x s → KdOf K H y t → t.sq = true → s ≠ t → IsB K H n x y false
  | lenL {n : Nat} {a b : Addr} {xs ys : List V} : H a = some (.lst xs) → H b = some (.lst ys) → xs.length ≠ ys.length → IsB K H n (.ref a) (.ref b) false
  | lenT {n : Nat} {a b : Addr} {xs ys : List V} : H a = some (.tup xs) → H b = some (.tup ys) → xs.length ≠ ys.length → IsB K H n (.ref a) (.ref b) false
  | lst {n : Nat} {a b : Addr} {xs ys : List V} {bs : List Bool} : H a = some (.lst xs) → H b = some (.lst ys) → xs.length = ys.length → bs.length = xs.length → xs.length ≤ 16777216 → (∀ (i : Nat) (x y : V) (c : Bool), xs[i]? = some x → ys[i]? = some y → bs[i]? = some c → IsB K H n x y c) → IsB K H (n + 1) (.ref a) (.ref b) (bs.all id)
  | tup {n : Nat} {a b : Addr} {xs ys : List V} {bs : List Bool} : H a = some (.tup xs) → H b = some (.tup ys) → xs.length = ys.length → bs.length = xs.length → xs.length ≤ 16777216 → (∀ (i : Nat) (x y : V) (c : Bool), xs[i]? = some x → ys[i]? = some y → bs[i]? = some c → IsB K H n x y c) → IsB K H (n + 1) (.ref a) (.ref b) (bs.all id)
mutual
theorem Dp.same {K : PySem.W.Frag} {H H' : Hp} (s : Same H H') {v : V} {d : PyData} : Dp K H v d → Dp K H' v d
  | .non => .non
  | .bl b => .bl b
  | .int i => .int i
  | .str x => .str x
  | .lst h a => .lst (s.seq h) (DpAll.same s a)
  | .tup h a => .tup (RD.Same.tup s h) (DpAll.same s a)
theorem DpAll.same {K : PySem.W.Frag} {H H' : Hp} (s : Same H H') {vs : List V} {ds : List PyData} : DpAll K H vs ds → DpAll K H' vs ds
  | .nil => .nil
  | .cons h a => .cons (Dp.same s h) (DpAll.same s a)
end
theorem KdOf.same {K : PySem.W.Frag} {H H' : Hp} (s : Same H H') {v : V} {k : Kd} (h : KdOf K H v k) : KdOf K H' v k := by
  cases h with
  | non => exact .non
  | bl b => exact .bl b
  | int i => exact .int i
  | str x => exact .str x
  | dct h => exact .dct (s _ _ h)
  | lst h => exact .lst (s _ _ h)
  | tup h => exact .tup (s _ _ h)
theorem EqB.same {K : PySem.W.Frag} {H H' : Hp} (s : Same H H') {x y : V} {b : Bool} (h : EqB K H x y b) : EqB K H' x y b := by
  cases h with
  | scal e => exact .scal e
  | deep d e p q => exact .deep (Dp.same s d) (Dp.same s e) p q
  | dict h nd fl => exact .dict (s _ _ h) nd fl
theorem IsB.same {K : PySem.W.Frag} {H H' : Hp} (s : Same H H') {n : Nat} {x y : V} {b : Bool} (h : IsB K H n x y b) : IsB K H' n x y b := by
  induction h with
  | leaf a b c d e => exact .leaf (a.same s) (b.same s) c d (e.same s)
  | bool a b c d => exact .bool (a.same s) (b.same s) c d
  | kind a b c d => exact .kind (a.same s) (b.same s) c d
  | lenL a b c => exact .lenL (s _ _ a) (s _ _ b) c
  | lenT a b c => exact .lenT (s _ _ a) (s _ _ b) c
  | lst a b c d e _ ih => exact .lst (s _ _ a) (s _ _ b) c d e ih
  | tup a b c d e _ ih => exact .tup (s _ _ a) (s _ _ b) c d e ih
theorem all_rep (n : Nat) : (List.replicate n true).all id = true := by
  induction n with
  | zero => rfl
  | succ n ih => rw [List.replicate_succ, List.all_cons, ih]; rfl
/-- data is what it is -/
theorem IsB.refl {K : PySem.W.Frag} {x : Addr} {H : Hp} {n : Nat} {v : V} (h : Dq x H n v) : IsB K H n v v true := by
  induction h with
  | @leaf n v e =>
    have key : ∀ k : Kd, KdOf K H v k → k.sq = false → scal v v = true → IsB K H n v v true := fun k hk hs hc => by
      have z : EqB K H v v (decide (v = v)) := .scal hc
      rw [decide_eq_true rfl] at z
      exact .leaf hk hk hs rfl z
    cases v with
    | non => exact key _ .non rfl rfl
    | bl b => exact key _ (.bl b) rfl rfl
    | int i => exact key _ (.int i) rfl rfl
    | str z => exact key _ (.str z) rfl rfl
    | byt b => cases e
    | flt b => cases e
    | ref a => cases e
    | ty s => cases e
  | dct ne h nd fl => exact .leaf (.dct h) (.dct h) rfl rfl (.dict h nd fl)
  | @tup n a xs ne h hl _ ih =>
    have z := IsB.tup (K := K) (n := n) (bs := List.replicate xs.length true) h h rfl (by rw [List.length_replicate]) hl fun i x y c e1 e2 e3 => by
      rw [e1] at e2
      cases e2
      rw [List.getElem?_replicate] at e3
      split at e3
      · cases e3
        exact ih x (List.mem_of_getElem? e1)
      · cases e3
    rw [all_rep] at z
    exact z
  | @lst n a xs ne h hl _ ih =>
    have z := IsB.lst (K := K) (n := n) (bs := List.replicate xs.length true) h h rfl (by rw [List.length_replicate]) hl fun i x y c e1 e2 e3 => by
      rw [e1] at e2
      cases e2
      rw [List.getElem?_replicate] at e3
      split at e3
      · cases e3
        exact ih x (List.mem_of_getElem? e1)
      · cases e3
    rw [all_rep] at z
    exact z
/-- the operator == that these ask -/
def rEqB (K : PySem.W.Frag) : R2 := fun x y H Q => ∃ b, EqB K H x y b ∧ Q (.bl b) H
theorem op_eqB {X : Cx} (hu : X.A.units + 64 < cLine) : OpR X (compareOp .Eq) (rEqB X.K) := by
  intro pins s σ H x y v u Q I rx ry h
  obtain ⟨b, e, q⟩ := h
  cases e with
  | scal e => exact op_eq pins s σ H _ _ v u Q I rx ry ⟨e, q⟩
  | deep d e p r => exact op_eqD hu pins s σ H _ _ v u Q I rx ry ⟨_, _, d, e, p, r, q⟩
  | dict h nd fl => exact op_eq_dict (by omega) pins s σ H _ _ v u Q I rx ry ⟨_, _, _, rfl, rfl, h, h, nd, fl, q⟩
theorem eqB {K : PySem.W.Frag} {H : Hp} {Q : VK} {x y : V} {b : Bool} (e : EqB K H x y b) (h : Q (.bl b) H) : rEqB K x y H Q := ⟨b, e, h⟩
section
variable {K : PySem.W.Frag} {H : Hp} {Q : VK} {x : V} {k : Kd}
theorem isSeq {tp : Addr} (ht : H tp = some (.tup [.ty "tuple", .ty "list"])) (hk : KdOf K H x k) (h : Q (.bl k.sq) H) : rIsiT K [x, .ref tp] H Q :=
  ⟨x, tp, _, _, _, _, rfl, ht, .cons (.ty _) (.cons (.ty _) .nil), hk.tyx, kit_seq k, h⟩
theorem isTup (hk : KdOf K H x k) (h : Q (.bl (decide (k = .tup))) H) : rIsi K [x, .ty "tuple"] H Q := ⟨x, _, _, _, _, rfl, .ty _, hk.tyx, (kit_kd k).1, h⟩
theorem isLst (hk : KdOf K H x k) (h : Q (.bl (decide (k = .lst))) H) : rIsi K [x, .ty "list"] H Q := ⟨x, _, _, _, _, rfl, .ty _, hk.tyx, (kit_kd k).2.1, h⟩
theorem isBool (hk : KdOf K H x k) (h : Q (.bl (decide (k = .bl))) H) : rIsi K [x, .ty "bool"] H Q := ⟨x, _, _, _, _, rfl, .ty _, hk.tyx, (kit_kd k).2.2.1, h⟩
theorem isStr (hk : KdOf K H x k) (h : Q (.bl (decide (k = .str))) H) : rIsi K [x, .ty "str"] H Q := ⟨x, _, _, _, _, rfl, .ty _, hk.tyx, (kit_kd k).2.2.2, h⟩
theorem isInt (hk : KdOf K H x k) (h : Q (.bl (decide (k = .int ∨ k = .bl))) H) : rIsi K [x, .ty "int"] H Q := ⟨x, _, _, _, _, rfl, .ty _, hk.tyx, kit_int k, h⟩
end
section
variable {K : PySem.W.Frag} {a b : Addr} {xs ys : List V}
theorem w_zipT {n : Nat} (hn : n = min xs.length ys.length) : Walk (RZ.ItzT K a b) n (fun H => SqT K H a xs ∧ SqT K H b ys) (RD.YP (fun i => xs[i]?) (fun i => ys[i]?)) := by
  subst hn
  refine ⟨fun i _ hi q => ?_, fun _ q => ⟨xs, ys, q.1, q.2, by omega⟩, fun i H v H' _ q y => ?_⟩
  · have h1 : i < xs.length := by omega
    have h2 : i < ys.length := by omega
    exact ⟨xs, ys, xs[i], ys[i], q.1, q.2, by simp [h1], by simp [h2]⟩
  · obtain ⟨T, x, z, h1, h2, h3, h4, h5⟩ := y
    subst h3
    exact ⟨T, x, z, h1, h2, RD.same_new h2, upd_same, h4 xs q.1, h5 ys q.2⟩
theorem izipA {tx : TA} {σ : L2.St} {H : Hp} {R : It → Hp → Prop} (h : tx σ H fun vs H1 => ∃ a b xs ys, vs = [.ref a, .ref b] ∧ ((SqL K H1 a xs ∧ SqL K H1 b ys ∧ R (Itz K a b) H1) ∨ (SqT K H1 a xs ∧ SqT K H1 b ys ∧ R (RZ.ItzT K a b) H1))) : RZ.iZipA K tx σ H R := h
end
/-! ### many data at once -/
inductive DqA (x : Addr) (H : Hp) (n : Nat) : List V → Prop where
  | nil : DqA x H n []
  | cons {v : V} {vs : List V} : Dq x H n v → DqA x H n vs → DqA x H n (v :: vs)
theorem DqA.mem {x : Addr} {H : Hp} {n : Nat} {vs : List V} (h : DqA x H n vs) : ∀ y, y ∈ vs → Dq x H n y := by
  induction h with
  | nil => exact fun y hy => nomatch hy
  | cons a _ ih =>
    intro y hy
    rcases List.mem_cons.mp hy with e | e
    · rw [e]; exact a
    · exact ih y e
theorem DqA.app {x : Addr} {H : Hp} {n : Nat} {vs ws : List V} (h : DqA x H n vs) (g : DqA x H n ws) : DqA x H n (vs ++ ws) := by
  induction h with
  | nil => exact g
  | cons a _ ih => exact .cons a ih
theorem dq_kb {x : Addr} {H H' : Hp} {n : Nat} {v : V} (h : Dq x H n v) (k : RD.KB x H H') : Dq x H' n v := h.kb k
theorem dqTup {x : Addr} {H : Hp} {n : Nat} {a : Addr} {xs : List V} (h : H a = some (.tup xs)) (ne : a ≠ x) (g : DqA x H n xs) (e : Nat.ble xs.length 16777216 = true := by rfl) : Dq x H (n + 1) (.ref a) := .tup ne h (Nat.le_of_ble_eq_true e) g.mem
theorem dqLst {x : Addr} {H : Hp} {n : Nat} {a : Addr} {xs : List V} (h : H a = some (.lst xs)) (ne : a ≠ x) (g : DqA x H n xs) (e : Nat.ble xs.length 16777216 = true := by rfl) : Dq x H (n + 1) (.ref a) := .lst ne h (Nat.le_of_ble_eq_true e) g.mem
theorem dqNil {x : Addr} {H : Hp} {n : Nat} {a : Addr} {kvs : List (Key × V)} (h : H a = some (.dK kvs)) (ne : a ≠ x) (nd : (kvs.map (·.1)).Nodup) (fl : ∀ p ∈ kvs, flatB p.2 = true) : Dq x H n (.ref a) := .dct ne h nd fl
/-- a written dict of constants -/
theorem dispC {trs : List (TE × TE)} {σ : L2.St} {H : Hp} {Q : VK} (kvs : List (Key × V)) (hps : ∀ H (QP : List (V × V) → Hp → Prop), QP (kvs.map fun kv => (kV kv.1, kv.2)) H → tPairs trs σ H QP) (hk : kvs.length ≤ 15)
    (h : ∀ p H2, H p = none → Same H H2 → H2 p = some (.dK (mergeK [] kvs)) → Q (.ref p) H2) : tDisp trs σ H Q := fun p hp =>
  hps _ _ ⟨upd_same, kvs, rfl, hk, by rw [upd_upd]; exact h p _ hp (RD.same_new hp) upd_same⟩
theorem dnew {σ : L2.St} {H : Hp} {Q : VK} (h : ∀ p H2, H p = none → Same H H2 → H2 p = some (.dK []) → Q (.ref p) H2) : tDNewK σ H Q := fun p hp => h p _ hp (RD.same_new hp) upd_same
theorem disp1 {k : Str} {v : V} {σ : L2.St} {H : Hp} {Q : VK} (h : ∀ p H2, H p = none → Same H H2 → H2 p = some (.dK [(Sum.inr k, v)]) → Q (.ref p) H2) : tDisp [(tC (.str k), tC v)] σ H Q :=
  dispC [(Sum.inr k, v)] (fun _ _ q => q) (by show 1 ≤ 15; decide) h
end SPD

/-! the head's facts by names: defs, classes, own exceptions with super().__init__ -/
namespace HX
open PySem PySem.Spec PyProof.Rows L2 He NdefX
abbrev FnS : Type := Option (Str × Str × Arguments × FuncBody × Scope × Addr × Addr)
def fnS (K : PySem.W.Frag) (p : Str × Option Str) : FnS := match K.lookup (fAd K p) with
  | some ⟨_, _, .func fd, _⟩ => some (fd.name, fd.qualname, fd.params, fd.body, fd.scope, fd.globals, fd.builtins)
  | _ => none
structure DefS where
  at_ : Str × Option Str
  name : Str
  qual : Str
  st : Stmt
def DefS.val (d : DefS) : FnS := some (d.name, d.qual, defArgs d.st, .stmts (defBody d.st), defScope d.st, mainGlobals, builtinsNs)
/-- a plain def of no default -/
def plB (K : PySem.W.Frag) (p : Str × Option Str) (qual : Str) : Bool := PySem.W.keepIn K (.ref (fAd K p)) && (match K.lookup (fAd K p) with
  | some ⟨_, _, .func fd, _⟩ => PySem.W.codeIn K fd.code qual && (decide (fd.defaults = .none) && fd.closure.isEmpty)
  | _ => false)
/-- a def that holds its own class -/
def spB (K : PySem.W.Frag) (p : Str × Option Str) (qual file : Str) (C : Addr) : Bool := (match K.lookup (fAd K p) with
  | some ⟨_, _, .func fd, _⟩ => (match fd.closure with
    | [(y, cc)] => (match fd.code with
      | .ref cda => decide (y = ("__class__" : Str)) && (decide (fd.defaults = .none) && (PySem.W.codeIn K (.ref cda) qual && ((match K.lookup cda with
          | some ⟨_, _, .fields vs, _⟩ => (match (vs[2]? : Option Value) with
            | some (Value.str fl _) => decide (fl = file)
            | _ => false)
          | _ => false) && (match K.lookup cc with
          | some ⟨_, _, .cell (some (.ref D)), _⟩ => decide (D = C)
          | _ => false))))
      | _ => false)
    | _ => false)
  | _ => false)
theorem plB_ok {K : PySem.W.Frag} {d : DefS} (e : fnS K d.at_ = d.val) (c : plB K d.at_ d.qual = true) : ∃ fd, Fun K d.name d.qual d.st (fAd K d.at_) fd := by
  obtain ⟨kp, c2⟩ := ba c
  unfold fnS at e
  cases q : K.lookup (fAd K d.at_) with
  | none =>
    rw [q] at c2
    cases c2
  | some o =>
    obtain ⟨oc, od, dt, osl⟩ := o
    rw [q] at c2 e
    cases dt with
    | func fd =>
      obtain ⟨n1, n2, n3, n4, n5, n6, n7, n8, n9, n10, n11, n12, n13, n14, n15⟩ := fd
      have e2 : (some (n1, n2, n3, n4, n5, n6, n15) : FnS) = some (d.name, d.qual, defArgs d.st, .stmts (defBody d.st), defScope d.st, mainGlobals, builtinsNs) := e
      simp only [Option.some.injEq, Prod.mk.injEq] at e2
      obtain ⟨h1, h2, h3, h4, h5, h6, h7⟩ := e2
      subst h1 h2 h3 h4 h5 h6 h7
      have c3 : (PySem.W.codeIn K n13 d.qual && (decide (n8 = .none) && n7.isEmpty)) = true := c2
      obtain ⟨k1, k2⟩ := ba c3
      obtain ⟨k3, k4⟩ := ba k2
      have k3 := of_decide_eq_true k3
      subst k3
      have k4 : n7 = [] := List.isEmpty_iff.mp k4
      subst k4
      exact ⟨_, ⟨oc, od, n9, n10, n11, n12, n13, n14, osl, rfl, q, k1⟩, kp⟩
    | _ => cases c2
theorem spB_ok {K : PySem.W.Frag} {d : DefS} {file : Str} {C : Addr} (e : fnS K d.at_ = d.val) (c : spB K d.at_ d.qual file C = true) :
    ∃ fd oc od osl kV doc pm an cda cc ct ccl cdd vs ccs tf cl cld csl, fd = PySem.W.fnX d.name d.qual (defArgs d.st) (defBody d.st) (defScope d.st) [("__class__", cc)] .none kV doc pm an (.ref cda) ct ∧
    K.lookup (fAd K d.at_) = some ⟨oc, od, .func fd, osl⟩ ∧ PySem.W.codeIn K (.ref cda) d.qual = true ∧ K.lookup cda = some ⟨ccl, cdd, .fields vs, ccs⟩ ∧ vs[2]? = some (.str file tf) ∧
    K.lookup cc = some ⟨cl, cld, .cell (some (.ref C)), csl⟩ := by
  unfold fnS at e
  unfold spB at c
  cases q : K.lookup (fAd K d.at_) with
  | none =>
    rw [q] at c
    cases c
  | some o =>
    obtain ⟨oc, od, dt, osl⟩ := o
    rw [q] at c e
    cases dt with
    | func fd =>
      obtain ⟨n1, n2, n3, n4, n5, n6, n7, n8, n9, n10, n11, n12, n13, n14, n15⟩ := fd
      have e2 : (some (n1, n2, n3, n4, n5, n6, n15) : FnS) = some (d.name, d.qual, defArgs d.st, .stmts (defBody d.st), defScope d.st, mainGlobals, builtinsNs) := e
      simp only [Option.some.injEq, Prod.mk.injEq] at e2
      obtain ⟨h1, h2, h3, h4, h5, h6, h7⟩ := e2
      subst h1 h2 h3 h4 h5 h6 h7
      dsimp only at c
      cases n7 with
      | nil => cases c
      | cons hd tl =>
        obtain ⟨y, cc⟩ := hd
        cases tl with
        | cons _ _ => cases c
        | nil =>
          cases n13 with
          | ref cda =>
            obtain ⟨k1, c⟩ := ba c
            obtain ⟨k2, c⟩ := ba c
            obtain ⟨k3, c⟩ := ba c
            obtain ⟨k4, k5⟩ := ba c
            have k1 := of_decide_eq_true k1
            subst k1
            have k2 := of_decide_eq_true k2
            subst k2
            cases q1 : K.lookup cda with
            | none =>
              rw [q1] at k4
              cases k4
            | some o1 =>
              obtain ⟨ccl, cdd, dt1, ccs⟩ := o1
              rw [q1] at k4
              cases dt1 with
              | fields vs =>
                dsimp only at k4
                cases q2 : vs[2]? with
                | none =>
                  rw [q2] at k4
                  cases k4
                | some v =>
                  rw [q2] at k4
                  cases v with
                  | str fl tf =>
                    have k4 := of_decide_eq_true k4
                    subst k4
                    cases q3 : K.lookup cc with
                    | none =>
                      rw [q3] at k5
                      cases k5
                    | some o2 =>
                      obtain ⟨cl, cld, dt2, csl⟩ := o2
                      rw [q3] at k5
                      cases dt2 with
                      | cell ov =>
                        cases ov with
                        | none => cases k5
                        | some v =>
                          cases v with
                          | ref D =>
                            have k5 := of_decide_eq_true k5
                            subst k5
                            exact ⟨_, oc, od, osl, n9, n10, n11, n12, cda, cc, n14, ccl, cdd, vs, ccs, tf, cl, cld, csl, rfl, rfl, k3, q1, q2, q3⟩
                          | _ => cases k5
                      | _ => cases k5
                  | _ => cases k4
              | _ => cases k4
          | _ => cases c
    | _ => cases c
/-! own exception classes -/
def oexB (K : PySem.W.Frag) (C : Addr) : Bool := (match K.lookup C with
  | some ⟨.type c, _, .cls cd, sl⟩ => decide (c = "type") && ((match cd.mro with
      | .ref C' :: bm => decide (C' = C) && PySem.HandSPX.refsVE bm
      | _ => false) && ((match sl with
      | ⟨[_, _, _, _, some (.builtin n), _]⟩ => decide (n = "ValueError.__new__")
      | _ => false) && (cd.hasDict && !cd.hasDel)))
  | _ => false) && (eqO (PySem.W.findIn K (.ref C) "__setattr__") (some (some (.builtin "object.__setattr__"))) && (decide (PySem.W.subIn K (.ref C) (.type "BaseException") = some true) && (decide (PySem.W.typeIn K (.ref C) = some (.type "type")) && PySem.W.keepIn K (.ref C))))
theorem oexB_ok {K : PySem.W.Frag} {C : Addr} (h : oexB K C = true) : OexC K C := by
  obtain ⟨c, h⟩ := ba h
  obtain ⟨h1, h⟩ := ba h
  obtain ⟨h2, h⟩ := ba h
  obtain ⟨h3, h4⟩ := ba h
  refine ⟨?_, eqO_ok h1, of_decide_eq_true h2, of_decide_eq_true h3, h4⟩
  cases q : K.lookup C with
  | none =>
    rw [q] at c
    cases c
  | some o =>
    obtain ⟨oc, od, dt, sl⟩ := o
    rw [q] at c
    cases oc with
    | type t =>
      cases dt with
      | cls cd =>
        obtain ⟨e1, c⟩ := ba c
        obtain ⟨e2, c⟩ := ba c
        obtain ⟨e3, c⟩ := ba c
        obtain ⟨e4, e5⟩ := ba c
        have e1 := of_decide_eq_true e1
        subst e1
        obtain ⟨nm, bs, mro, ns, qn, hdct, sn, sub, ab, col, dl⟩ := cd
        dsimp only at e2 e3 e4 e5
        cases mro with
        | nil => cases e2
        | cons m bm =>
          cases m with
          | ref C' =>
            obtain ⟨e2, e6⟩ := ba e2
            have e2 := of_decide_eq_true e2
            subst e2
            have e4 : hdct = true := e4
            subst e4
            have e5 : dl = false := by
              cases dl with
              | true => cases e5
              | false => rfl
            subst e5
            split at e3
            · have e3 := of_decide_eq_true e3
              subst e3
              exact ⟨nm, qn, ns, bs, bm, sn, sub, ab, col, od, _, _, _, _, _, rfl, e6⟩
            · cases e3
          | _ => cases e2
      | _ => cases c
    | _ => cases dt <;> cases c
def excB (K : PySem.W.Frag) (D : Addr) : Bool := eqO (PySem.W.findIn K (.ref D) "__getattribute__") (some (some (.builtin "BaseException.__getattribute__"))) && (eqO (PySem.W.findIn K (.ref D) "__getattr__") (some none) && (decide (PySem.W.subIn K (.ref D) (.type "BaseException") = some true) && (PySem.W.hasDictIn K D &&
  (eqO (PySem.W.findIn K (.ref D) "__class__") (some (some (.builtin "object.__class__"))) && (eqO (PySem.W.specialIn K (.builtin "object.__class__") "__get__") (some (some (.builtin "getset_descriptor.__get__"))) && (decide (PySem.W.takesIn K (.builtin "object.__class__") = some true) && decide (PySem.W.mroIn K D (.type "object") = some true)))))))
theorem excB_ok {K : PySem.W.Frag} {D : Addr} (h : excB K D = true) : L2.ExcC K D := by
  obtain ⟨h1, h⟩ := ba h
  obtain ⟨h2, h⟩ := ba h
  obtain ⟨h3, h⟩ := ba h
  obtain ⟨h4, h⟩ := ba h
  obtain ⟨h5, h⟩ := ba h
  obtain ⟨h6, h⟩ := ba h
  obtain ⟨h7, h8⟩ := ba h
  exact ⟨eqO_ok h1, eqO_ok h2, of_decide_eq_true h3, h4, eqO_ok h5, eqO_ok h6, of_decide_eq_true h7, of_decide_eq_true h8⟩
/-- what super().__init__ asks -/
def sicB (K : PySem.W.Frag) (D : Addr) (fld : Str) : Bool := (PySem.W.clsIn K D).isSome && (decide (PySem.W.mroIn K D (.ref D) = some true) && (decide (PySem.W.subIn K (.ref D) (.type "ValueError") = some true) && (eqO (PySem.W.nsIn K cStatics "thirdparty.any") (some none) &&
  (eqO (PySem.W.ks_superIn K D D "__init__") (some (some (.builtin "ValueError.__init__"))) && eqO (PySem.W.findIn K (.ref D) fld) (some none)))))
/-- the text's part -/
structure SiT (P : Program) (st : Stmt) (qual fld prm : Str) : Prop where
  sc : NScope ["self", prm, "__class__"] ["self", prm] ["__class__"] (defScope st)
  sup : (defScope st).names.lookup ("super" : Str) = some .globalImplicit
  body : ∃ p0 p1 p2 p3 p4 p5 p6 p7 p8 p9, defBody st = [.Expr (.Call (.Attribute (.Call (.Name "super" p0) [] [] p1) "__init__" p2) [.Name prm p3] [] p4) p5, .Assign [.Attribute (.Name "self" p6) fld p7] (.Name prm p8) p9] ∧
    ∃ pl : Sem Bool, ∀ (L f cda cc : Addr), eval (.Call (.Attribute (.Call (.Name "super" p0) [] [] p1) "__init__" p2) [.Name prm p3] [] p4) (PySem.W.envX qual (defScope st) L f (.ref cda) [("__class__", cc)]) = (do
      let ov ← attributeBase (.Call (.Name "super" p0) [] [] p1) "__init__" (PySem.W.envX qual (defScope st) L f (.ref cda) [("__class__", cc)]) (eval (.Call (.Name "super" p0) [] [] p1) (PySem.W.envX qual (defScope st) L f (.ref cda) [("__class__", cc)]))
      standAt p2.atName
      let (f', first) ← holding [ov] (getMethod ov "__init__" pl)
      callWith p4 f' first (backTo p4 (starEach [.Name prm p3] (PySem.W.envX qual (defScope st) L f (.ref cda) [("__class__", cc)]))) [])
  head : ((defArgs st).posonlyargs ++ (defArgs st).args).head?.map (·.arg) = some "self"
  nd : (prm == ("__debug__" : Str)) = false
  nc : (prm == ("__classdict__" : Str)) = false
  top : (P.main.scope.names.lookup ("super" : Str)).isSome = false
theorem sic_ok {P : Program} {K : PySem.W.Frag} {mg : Str → Option Value} {st : Stmt} {x qual fld prm : Str} {D : Addr} (S : SiT P st qual fld prm) (h1 : oexB K D = true) (h2 : sicB K D fld = true) (h3 : spB K (x, some "__init__") qual P.main.file D = true)
    (e : fnS K (x, some "__init__") = (DefS.mk (x, some "__init__") "__init__" qual st).val) (hs : mg "super" = none) (hb : ∀ kV doc pm an cv ct cl (us : List Value), us.length = 2 → bindArgs (PySem.W.fnX "__init__" qual (defArgs st) (defBody st) (defScope st) cl .none kV doc pm an cv ct) ⟨us, []⟩ = pure ((["self", prm] : List Str).zip us)) :
    ∃ fd, SPX.SiC P K mg st qual fld prm D (fAd K (x, some "__init__")) fd ∧ Binds K fd ["self", prm] [] := by
  obtain ⟨k1, h⟩ := ba h2
  obtain ⟨k2, h⟩ := ba h
  obtain ⟨k3, h⟩ := ba h
  obtain ⟨k4, h⟩ := ba h
  obtain ⟨k5, k6⟩ := ba h
  obtain ⟨fd, oc, od, osl, kV, doc, pm, an, cda, cc, ct, ccl, cdd, vs, ccs, tf, cl, cld, csl, e1, e2, e3, e4, e5, e6⟩ := spB_ok (d := ⟨(x, some "__init__"), "__init__", qual, st⟩) e h3
  refine ⟨fd, ⟨oexB_ok h1, S.sc, S.sup, S.body, S.head, ?_, k1, of_decide_eq_true k2, of_decide_eq_true k3, S.top, eqO_ok k4, eqO_ok k5, hs, eqO_ok k6, S.nd, S.nc⟩, .all fun us hl => by rw [e1]; exact hb _ _ _ _ _ _ _ us hl⟩
  exact ⟨oc, od, osl, kV, doc, pm, an, cda, cc, ct, ccl, cdd, vs, ccs, P.main.file, tf, cl, cld, csl, e1, e2, e3, e4, e5, beq_self_eq_true _, e6⟩
/-! ### the Hook -/
abbrev AlX : Type := Bool × List FnS
def obsX (ck : List (PySem.W.Frag → Bool)) (fn : List DefS) (K : PySem.W.Frag) : AlX := (ck.all fun f => f K, fn.map fun d => fnS K d.at_)
def valX (fn : List DefS) : AlX := (true, fn.map DefS.val)
def SaysX (ck : List (PySem.W.Frag → Bool)) (fn : List DefS) (K : PySem.W.Frag) : Prop := obsX ck fn K = valX fn
def obsXG (n : Nat) (ck : List (PySem.W.Frag → Bool)) (fn : List DefS) (g : Addr → Option Obj) : AlX := obsX ck fn (frG g (cStatics :: asD g n))
def hookX (n : Nat) (ck : List (PySem.W.Frag → Bool)) (fn : List DefS) : PySem.W.Hook where
  α := AlX
  obs := fun s => obsXG n ck fn s.heap.get?
  val := fun _ => valX fn
  says := fun _ h => ∃ K : PySem.W.Frag, K.In h ∧ SaysX ck fn K
  of := fun _ _ e => ⟨_, frG_in, e⟩
  keeps := fun _ _ _ ⟨K, hK, c⟩ k => ⟨K, PySem.W.Frag.In.keeps hK k, c⟩
theorem obsXG_eq {n : Nat} {ck : List (PySem.W.Frag → Bool)} {fn : List DefS} {g : Addr → Option Obj} {s : Shared} (h : ∀ a, g a = s.heap.get? a) : obsXG n ck fn g = (hookX n ck fn).obs s := by
  have e : g = s.heap.get? := funext h
  rw [e] <;> rfl
section
variable {ck : List (PySem.W.Frag → Bool)} {fn : List DefS} {K : PySem.W.Frag}
theorem SaysX.fact (c : SaysX ck fn K) (i : Nat) {f : PySem.W.Frag → Bool} (h : ck[i]? = some f := by rfl) : f K = true := by
  have c1 : (ck.all fun f => f K) = true := congrArg (fun z : AlX => z.1) c
  exact List.all_eq_true.mp c1 f (List.mem_of_getElem? h)
theorem SaysX.fn_ (c : SaysX ck fn K) (i : Nat) {d : DefS} (h : fn[i]? = some d := by rfl) : fnS K d.at_ = d.val := by
  have e : fn.map (fun d => fnS K d.at_) = fn.map DefS.val := congrArg (fun z : AlX => z.2) c
  have e2 : (fn.map fun d => fnS K d.at_)[i]? = (fn.map DefS.val)[i]? := by rw [e]
  rw [List.getElem?_map, List.getElem?_map, h] at e2
  exact Option.some.inj e2
end
end HX


namespace K00
open PySem PySem.Spec PyProof.Rows L2
/-! ### the text -/
def topS (i : Nat) : Stmt := PySem.Challenge.pw_struckpieces_k00_errors_and_their_fields.main.body.getD i (.Pass ⟨0, 0, 0, 0⟩)
abbrev s_BadBook_init : Stmt := inClass (topS 2) 0
abbrev s_NoStriking_init : Stmt := inClass (topS 3) 0
abbrev s_TooMany_init : Stmt := inClass (topS 4) 0
abbrev s_BadMachine_init : Stmt := inClass (topS 5) 0
abbrev s_Gone_init : Stmt := inClass (topS 6) 0
abbrev s_BadText_init : Stmt := inClass (topS 7) 0
abbrev s_hand : Stmt := topS 33
abbrev N_hand : List Str := ["_law_script", "_law_cells", "_law_cell"]
theorem sc_hand : FnScope N_hand ["_law_script"] (defScope s_hand) := ⟨rfl, rfl, rfl, by decide +kernel, rfl, by decide +kernel, by decide +kernel⟩
abbrev s_draw : Stmt := topS 34
abbrev N_draw : List Str := ["_law_hand_here", "_law_many", "_law_cell", "_law_digit", "_law_number"]
theorem sc_draw : FnScope N_draw ["_law_hand_here", "_law_many"] (defScope s_draw) := ⟨rfl, rfl, rfl, by decide +kernel, rfl, by decide +kernel, by decide +kernel⟩
abbrev s_any : Stmt := topS 35
abbrev N_any : List Str := ["_law_hand_here", "_law_items"]
theorem sc_any : FnScope N_any ["_law_hand_here", "_law_items"] (defScope s_any) := ⟨rfl, rfl, rfl, by decide +kernel, rfl, by decide +kernel, by decide +kernel⟩
abbrev s_is : Stmt := topS 36
abbrev N_is : List Str := ["_law_told", "_law_due", "_law_one", "_law_two"]
theorem sc_is : FnScope N_is ["_law_told", "_law_due"] (defScope s_is) := ⟨rfl, rfl, rfl, by decide +kernel, rfl, by decide +kernel, by decide +kernel⟩
abbrev s_nested : Stmt := topS 37
abbrev N_nested : List Str := ["_law_hand_here", "_law_thing", "_law_turn"]
theorem sc_nested : FnScope N_nested ["_law_hand_here"] (defScope s_nested) := ⟨rfl, rfl, rfl, by decide +kernel, rfl, by decide +kernel, by decide +kernel⟩
abbrev s_odd : Stmt := topS 38
abbrev N_odd : List Str := ["_law_hand_here", "_law_menu"]
theorem sc_odd : FnScope N_odd ["_law_hand_here"] (defScope s_odd) := ⟨rfl, rfl, rfl, by decide +kernel, rfl, by decide +kernel, by decide +kernel⟩
abbrev s_classes : Stmt := topS 39
abbrev N_classes : List Str := ["_law_e", "_law_found", "_law_at", "_law_flag"]
theorem sc_classes : FnScope N_classes ["_law_e"] (defScope s_classes) := ⟨rfl, rfl, rfl, by decide +kernel, rfl, by decide +kernel, by decide +kernel⟩
abbrev s_errors : Stmt := topS 40
abbrev N_errors : List Str := ["_law_thing", "_law_made", "_law_kept"]
theorem sc_errors : FnScope N_errors ["_law_thing"] (defScope s_errors) := ⟨rfl, rfl, rfl, by decide +kernel, rfl, by decide +kernel, by decide +kernel⟩
abbrev s_law : Stmt := topS 41
abbrev N_law : List Str := ["_law_script", "_law_hand_here", "_law_thing", "_law_made", "_law_kept", "_law_at", "_law_error", "_law_one"]
theorem sc_law : FnScope N_law ["_law_script"] (defScope s_law) := ⟨rfl, rfl, rfl, by decide +kernel, rfl, by decide +kernel, by decide +kernel⟩
/-- what the top has left -/
structure Txt (P : Program) (K : PySem.W.Frag) (mg : Str → Option Value) where
  a_hand : Addr
  fd_hand : FuncData
  F_hand : Fun K "_law_hand" "_law_hand" s_hand a_hand fd_hand
  b_hand : Binds K fd_hand ["_law_script"] []
  g_hand : mg "_law_hand" = some (.ref a_hand)
  a_draw : Addr
  fd_draw : FuncData
  F_draw : Fun K "_law_draw" "_law_draw" s_draw a_draw fd_draw
  b_draw : Binds K fd_draw ["_law_hand_here", "_law_many"] []
  g_draw : mg "_law_draw" = some (.ref a_draw)
  a_any : Addr
  fd_any : FuncData
  F_any : Fun K "_law_any" "_law_any" s_any a_any fd_any
  b_any : Binds K fd_any ["_law_hand_here", "_law_items"] []
  g_any : mg "_law_any" = some (.ref a_any)
  a_is : Addr
  fd_is : FuncData
  F_is : Fun K "_law_is" "_law_is" s_is a_is fd_is
  b_is : Binds K fd_is ["_law_told", "_law_due"] []
  g_is : mg "_law_is" = some (.ref a_is)
  a_nested : Addr
  fd_nested : FuncData
  F_nested : Fun K "_law_nested" "_law_nested" s_nested a_nested fd_nested
  b_nested : Binds K fd_nested ["_law_hand_here"] []
  g_nested : mg "_law_nested" = some (.ref a_nested)
  a_odd : Addr
  fd_odd : FuncData
  F_odd : Fun K "_law_odd" "_law_odd" s_odd a_odd fd_odd
  b_odd : Binds K fd_odd ["_law_hand_here"] []
  g_odd : mg "_law_odd" = some (.ref a_odd)
  a_classes : Addr
  fd_classes : FuncData
  F_classes : Fun K "_law_classes" "_law_classes" s_classes a_classes fd_classes
  b_classes : Binds K fd_classes ["_law_e"] []
  g_classes : mg "_law_classes" = some (.ref a_classes)
  a_errors : Addr
  fd_errors : FuncData
  F_errors : Fun K "_law_errors" "_law_errors" s_errors a_errors fd_errors
  b_errors : Binds K fd_errors ["_law_thing"] []
  g_errors : mg "_law_errors" = some (.ref a_errors)
  a_law : Addr
  fd_law : FuncData
  F_law : Fun K "law" "law" s_law a_law fd_law
  b_law : Binds K fd_law ["_law_script"] []
  g_law : mg "law" = some (.ref a_law)
  C_LogError : Addr
  g_LogError : mg "LogError" = some (.ref C_LogError)
  xc_LogError : OexC K C_LogError
  ic_LogError : ExcC K C_LogError
  k_LogError : PySem.W.excIn K C_LogError [.type "ValueError", .type "Exception", .type "BaseException", .type "object"] "ValueError.__new__" = true
  kp_LogError : PySem.W.keepIn K (.ref C_LogError) = true
  C_BadBook : Addr
  g_BadBook : mg "BadBook" = some (.ref C_BadBook)
  xc_BadBook : OexC K C_BadBook
  ic_BadBook : ExcC K C_BadBook
  a_BadBook_init : Addr
  fd_BadBook_init : FuncData
  S_BadBook_init : SPX.SiC P K mg s_BadBook_init "BadBook.__init__" "part" "part" C_BadBook a_BadBook_init fd_BadBook_init
  b_BadBook_init : Binds K fd_BadBook_init ["self", "part"] []
  fi_BadBook : PySem.W.findIn K (.ref C_BadBook) "part" = some none
  ii_BadBook : PySem.W.findIn K (.ref C_BadBook) "__init__" = some (some (.ref a_BadBook_init))
  ti_BadBook : PySem.W.typeIn K (.ref a_BadBook_init) = some (.type "function")
  C_NoStriking : Addr
  g_NoStriking : mg "NoStriking" = some (.ref C_NoStriking)
  xc_NoStriking : OexC K C_NoStriking
  ic_NoStriking : ExcC K C_NoStriking
  a_NoStriking_init : Addr
  fd_NoStriking_init : FuncData
  S_NoStriking_init : SPX.SiC P K mg s_NoStriking_init "NoStriking.__init__" "at" "at" C_NoStriking a_NoStriking_init fd_NoStriking_init
  b_NoStriking_init : Binds K fd_NoStriking_init ["self", "at"] []
  fi_NoStriking : PySem.W.findIn K (.ref C_NoStriking) "at" = some none
  ii_NoStriking : PySem.W.findIn K (.ref C_NoStriking) "__init__" = some (some (.ref a_NoStriking_init))
  ti_NoStriking : PySem.W.typeIn K (.ref a_NoStriking_init) = some (.type "function")
  C_TooMany : Addr
  g_TooMany : mg "TooMany" = some (.ref C_TooMany)
  xc_TooMany : OexC K C_TooMany
  ic_TooMany : ExcC K C_TooMany
  a_TooMany_init : Addr
  fd_TooMany_init : FuncData
  S_TooMany_init : SPX.SiC P K mg s_TooMany_init "TooMany.__init__" "most" "most" C_TooMany a_TooMany_init fd_TooMany_init
  b_TooMany_init : Binds K fd_TooMany_init ["self", "most"] []
  fi_TooMany : PySem.W.findIn K (.ref C_TooMany) "most" = some none
  ii_TooMany : PySem.W.findIn K (.ref C_TooMany) "__init__" = some (some (.ref a_TooMany_init))
  ti_TooMany : PySem.W.typeIn K (.ref a_TooMany_init) = some (.type "function")
  C_BadMachine : Addr
  g_BadMachine : mg "BadMachine" = some (.ref C_BadMachine)
  xc_BadMachine : OexC K C_BadMachine
  ic_BadMachine : ExcC K C_BadMachine
  a_BadMachine_init : Addr
  fd_BadMachine_init : FuncData
  S_BadMachine_init : SPX.SiC P K mg s_BadMachine_init "BadMachine.__init__" "part" "part" C_BadMachine a_BadMachine_init fd_BadMachine_init
  b_BadMachine_init : Binds K fd_BadMachine_init ["self", "part"] []
  fi_BadMachine : PySem.W.findIn K (.ref C_BadMachine) "part" = some none
  ii_BadMachine : PySem.W.findIn K (.ref C_BadMachine) "__init__" = some (some (.ref a_BadMachine_init))
  ti_BadMachine : PySem.W.typeIn K (.ref a_BadMachine_init) = some (.type "function")
  C_Gone : Addr
  g_Gone : mg "Gone" = some (.ref C_Gone)
  xc_Gone : OexC K C_Gone
  ic_Gone : ExcC K C_Gone
  a_Gone_init : Addr
  fd_Gone_init : FuncData
  S_Gone_init : SPX.SiC P K mg s_Gone_init "Gone.__init__" "number" "number" C_Gone a_Gone_init fd_Gone_init
  b_Gone_init : Binds K fd_Gone_init ["self", "number"] []
  fi_Gone : PySem.W.findIn K (.ref C_Gone) "number" = some none
  ii_Gone : PySem.W.findIn K (.ref C_Gone) "__init__" = some (some (.ref a_Gone_init))
  ti_Gone : PySem.W.typeIn K (.ref a_Gone_init) = some (.type "function")
  C_BadText : Addr
  g_BadText : mg "BadText" = some (.ref C_BadText)
  xc_BadText : OexC K C_BadText
  ic_BadText : ExcC K C_BadText
  a_BadText_init : Addr
  fd_BadText_init : FuncData
  S_BadText_init : SPX.SiC P K mg s_BadText_init "BadText.__init__" "line" "line" C_BadText a_BadText_init fd_BadText_init
  b_BadText_init : Binds K fd_BadText_init ["self", "line"] []
  fi_BadText : PySem.W.findIn K (.ref C_BadText) "line" = some none
  ii_BadText : PySem.W.findIn K (.ref C_BadText) "__init__" = some (some (.ref a_BadText_init))
  ti_BadText : PySem.W.typeIn K (.ref a_BadText_init) = some (.type "function")
  C_NoLog : Addr
  g_NoLog : mg "NoLog" = some (.ref C_NoLog)
  xc_NoLog : OexC K C_NoLog
  ic_NoLog : ExcC K C_NoLog
  k_NoLog : PySem.W.excIn K C_NoLog [.type "ValueError", .type "Exception", .type "BaseException", .type "object"] "ValueError.__new__" = true
  kp_NoLog : PySem.W.keepIn K (.ref C_NoLog) = true
  C_NoStrike : Addr
  g_NoStrike : mg "NoStrike" = some (.ref C_NoStrike)
  xc_NoStrike : OexC K C_NoStrike
  ic_NoStrike : ExcC K C_NoStrike
  k_NoStrike : PySem.W.excIn K C_NoStrike [.type "ValueError", .type "Exception", .type "BaseException", .type "object"] "ValueError.__new__" = true
  kp_NoStrike : PySem.W.keepIn K (.ref C_NoStrike) = true
  C_NoPlace : Addr
  g_NoPlace : mg "NoPlace" = some (.ref C_NoPlace)
  xc_NoPlace : OexC K C_NoPlace
  ic_NoPlace : ExcC K C_NoPlace
  k_NoPlace : PySem.W.excIn K C_NoPlace [.type "ValueError", .type "Exception", .type "BaseException", .type "object"] "ValueError.__new__" = true
  kp_NoPlace : PySem.W.keepIn K (.ref C_NoPlace) = true
  C_NoPiece : Addr
  g_NoPiece : mg "NoPiece" = some (.ref C_NoPiece)
  xc_NoPiece : OexC K C_NoPiece
  ic_NoPiece : ExcC K C_NoPiece
  k_NoPiece : PySem.W.excIn K C_NoPiece [.type "ValueError", .type "Exception", .type "BaseException", .type "object"] "ValueError.__new__" = true
  kp_NoPiece : PySem.W.keepIn K (.ref C_NoPiece) = true
  C_NoNumber : Addr
  g_NoNumber : mg "NoNumber" = some (.ref C_NoNumber)
  xc_NoNumber : OexC K C_NoNumber
  ic_NoNumber : ExcC K C_NoNumber
  k_NoNumber : PySem.W.excIn K C_NoNumber [.type "ValueError", .type "Exception", .type "BaseException", .type "object"] "ValueError.__new__" = true
  kp_NoNumber : PySem.W.keepIn K (.ref C_NoNumber) = true
  C_NoPrices : Addr
  g_NoPrices : mg "NoPrices" = some (.ref C_NoPrices)
  xc_NoPrices : OexC K C_NoPrices
  ic_NoPrices : ExcC K C_NoPrices
  k_NoPrices : PySem.W.excIn K C_NoPrices [.type "ValueError", .type "Exception", .type "BaseException", .type "object"] "ValueError.__new__" = true
  kp_NoPrices : PySem.W.keepIn K (.ref C_NoPrices) = true
  C_NotEnough : Addr
  g_NotEnough : mg "NotEnough" = some (.ref C_NotEnough)
  xc_NotEnough : OexC K C_NotEnough
  ic_NotEnough : ExcC K C_NotEnough
  k_NotEnough : PySem.W.excIn K C_NotEnough [.type "ValueError", .type "Exception", .type "BaseException", .type "object"] "ValueError.__new__" = true
  kp_NotEnough : PySem.W.keepIn K (.ref C_NotEnough) = true
  C_Enough : Addr
  g_Enough : mg "Enough" = some (.ref C_Enough)
  xc_Enough : OexC K C_Enough
  ic_Enough : ExcC K C_Enough
  k_Enough : PySem.W.excIn K C_Enough [.type "ValueError", .type "Exception", .type "BaseException", .type "object"] "ValueError.__new__" = true
  kp_Enough : PySem.W.keepIn K (.ref C_Enough) = true
  C_NoWeights : Addr
  g_NoWeights : mg "NoWeights" = some (.ref C_NoWeights)
  xc_NoWeights : OexC K C_NoWeights
  ic_NoWeights : ExcC K C_NoWeights
  k_NoWeights : PySem.W.excIn K C_NoWeights [.type "ValueError", .type "Exception", .type "BaseException", .type "object"] "ValueError.__new__" = true
  kp_NoWeights : PySem.W.keepIn K (.ref C_NoWeights) = true
  C_NoLetter : Addr
  g_NoLetter : mg "NoLetter" = some (.ref C_NoLetter)
  xc_NoLetter : OexC K C_NoLetter
  ic_NoLetter : ExcC K C_NoLetter
  k_NoLetter : PySem.W.excIn K C_NoLetter [.type "ValueError", .type "Exception", .type "BaseException", .type "object"] "ValueError.__new__" = true
  kp_NoLetter : PySem.W.keepIn K (.ref C_NoLetter) = true
  C_NoFraction : Addr
  g_NoFraction : mg "NoFraction" = some (.ref C_NoFraction)
  xc_NoFraction : OexC K C_NoFraction
  ic_NoFraction : ExcC K C_NoFraction
  k_NoFraction : PySem.W.excIn K C_NoFraction [.type "ValueError", .type "Exception", .type "BaseException", .type "object"] "ValueError.__new__" = true
  kp_NoFraction : PySem.W.keepIn K (.ref C_NoFraction) = true
  C_NoText : Addr
  g_NoText : mg "NoText" = some (.ref C_NoText)
  xc_NoText : OexC K C_NoText
  ic_NoText : ExcC K C_NoText
  k_NoText : PySem.W.excIn K C_NoText [.type "ValueError", .type "Exception", .type "BaseException", .type "object"] "ValueError.__new__" = true
  kp_NoText : PySem.W.keepIn K (.ref C_NoText) = true
  C_NotAlike : Addr
  g_NotAlike : mg "NotAlike" = some (.ref C_NotAlike)
  xc_NotAlike : OexC K C_NotAlike
  ic_NotAlike : ExcC K C_NotAlike
  k_NotAlike : PySem.W.excIn K C_NotAlike [.type "ValueError", .type "Exception", .type "BaseException", .type "object"] "ValueError.__new__" = true
  kp_NotAlike : PySem.W.keepIn K (.ref C_NotAlike) = true
  C_NotOwn : Addr
  g_NotOwn : mg "NotOwn" = some (.ref C_NotOwn)
  xc_NotOwn : OexC K C_NotOwn
  ic_NotOwn : ExcC K C_NotOwn
  k_NotOwn : PySem.W.excIn K C_NotOwn [.type "ValueError", .type "Exception", .type "BaseException", .type "object"] "ValueError.__new__" = true
  kp_NotOwn : PySem.W.keepIn K (.ref C_NotOwn) = true
  C_NotClosed : Addr
  g_NotClosed : mg "NotClosed" = some (.ref C_NotClosed)
  xc_NotClosed : OexC K C_NotClosed
  ic_NotClosed : ExcC K C_NotClosed
  k_NotClosed : PySem.W.excIn K C_NotClosed [.type "ValueError", .type "Exception", .type "BaseException", .type "object"] "ValueError.__new__" = true
  kp_NotClosed : PySem.W.keepIn K (.ref C_NotClosed) = true
  C_NoTexts : Addr
  g_NoTexts : mg "NoTexts" = some (.ref C_NoTexts)
  xc_NoTexts : OexC K C_NoTexts
  ic_NoTexts : ExcC K C_NoTexts
  k_NoTexts : PySem.W.excIn K C_NoTexts [.type "ValueError", .type "Exception", .type "BaseException", .type "object"] "ValueError.__new__" = true
  kp_NoTexts : PySem.W.keepIn K (.ref C_NoTexts) = true
  C_NoIndex : Addr
  g_NoIndex : mg "NoIndex" = some (.ref C_NoIndex)
  xc_NoIndex : OexC K C_NoIndex
  ic_NoIndex : ExcC K C_NoIndex
  k_NoIndex : PySem.W.excIn K C_NoIndex [.type "ValueError", .type "Exception", .type "BaseException", .type "object"] "ValueError.__new__" = true
  kp_NoIndex : PySem.W.keepIn K (.ref C_NoIndex) = true
  C_NotLet : Addr
  g_NotLet : mg "NotLet" = some (.ref C_NotLet)
  xc_NotLet : OexC K C_NotLet
  ic_NotLet : ExcC K C_NotLet
  k_NotLet : PySem.W.excIn K C_NotLet [.type "ValueError", .type "Exception", .type "BaseException", .type "object"] "ValueError.__new__" = true
  kp_NotLet : PySem.W.keepIn K (.ref C_NotLet) = true
  C_NoFlag : Addr
  g_NoFlag : mg "NoFlag" = some (.ref C_NoFlag)
  xc_NoFlag : OexC K C_NoFlag
  ic_NoFlag : ExcC K C_NoFlag
  k_NoFlag : PySem.W.excIn K C_NoFlag [.type "ValueError", .type "Exception", .type "BaseException", .type "object"] "ValueError.__new__" = true
  kp_NoFlag : PySem.W.keepIn K (.ref C_NoFlag) = true
  C_NoEntry : Addr
  g_NoEntry : mg "NoEntry" = some (.ref C_NoEntry)
  xc_NoEntry : OexC K C_NoEntry
  ic_NoEntry : ExcC K C_NoEntry
  k_NoEntry : PySem.W.excIn K C_NoEntry [.type "ValueError", .type "Exception", .type "BaseException", .type "object"] "ValueError.__new__" = true
  kp_NoEntry : PySem.W.keepIn K (.ref C_NoEntry) = true
  C_NoReader : Addr
  g_NoReader : mg "NoReader" = some (.ref C_NoReader)
  xc_NoReader : OexC K C_NoReader
  ic_NoReader : ExcC K C_NoReader
  k_NoReader : PySem.W.excIn K C_NoReader [.type "ValueError", .type "Exception", .type "BaseException", .type "object"] "ValueError.__new__" = true
  kp_NoReader : PySem.W.keepIn K (.ref C_NoReader) = true
  C_ReaderThere : Addr
  g_ReaderThere : mg "ReaderThere" = some (.ref C_ReaderThere)
  xc_ReaderThere : OexC K C_ReaderThere
  ic_ReaderThere : ExcC K C_ReaderThere
  k_ReaderThere : PySem.W.excIn K C_ReaderThere [.type "ValueError", .type "Exception", .type "BaseException", .type "object"] "ValueError.__new__" = true
  kp_ReaderThere : PySem.W.keepIn K (.ref C_ReaderThere) = true
  C_NothingDone : Addr
  g_NothingDone : mg "NothingDone" = some (.ref C_NothingDone)
  xc_NothingDone : OexC K C_NothingDone
  ic_NothingDone : ExcC K C_NothingDone
  k_NothingDone : PySem.W.excIn K C_NothingDone [.type "ValueError", .type "Exception", .type "BaseException", .type "object"] "ValueError.__new__" = true
  kp_NothingDone : PySem.W.keepIn K (.ref C_NothingDone) = true
  C_NoValues : Addr
  g_NoValues : mg "NoValues" = some (.ref C_NoValues)
  xc_NoValues : OexC K C_NoValues
  ic_NoValues : ExcC K C_NoValues
  k_NoValues : PySem.W.excIn K C_NoValues [.type "ValueError", .type "Exception", .type "BaseException", .type "object"] "ValueError.__new__" = true
  kp_NoValues : PySem.W.keepIn K (.ref C_NoValues) = true
  m_ValueError : mg "ValueError" = none
  m_abs : mg "abs" = none
  m_all : mg "all" = none
  m_bool : mg "bool" = none
  m_enumerate : mg "enumerate" = none
  m_int : mg "int" = none
  m_isinstance : mg "isinstance" = none
  m_len : mg "len" = none
  m_list : mg "list" = none
  m_range : mg "range" = none
  m_super : mg "super" = none
  m_tuple : mg "tuple" = none
  m_zip : mg "zip" = none

local macro_rules | `(tactic| walk_at "kd") => `(tactic| first | assumption | exact SPD.KdOf.int _ | exact SPD.KdOf.str _ | exact SPD.KdOf.bl _ | exact SPD.KdOf.non | exact SPD.KdOf.same (by assumption) (by walk_at "kd") | exact SPD.KdOf.tup (by walk_at "hp") | exact SPD.KdOf.lst (by walk_at "hp") | fail "no")
local macro_rules | `(tactic| walk_at "ne") => `(tactic| first | assumption | exact Ne.symm (by assumption) | fail "no")
local macro_rules | `(tactic| walk_at "hp") => `(tactic| first | assumption | exact RD.at_same (by assumption) (by walk_at "hp") | exact RD.at_kb (by assumption) (by walk_at "ne") (by walk_at "hp") | fail "no")
local macro_rules | `(tactic| walk_at "sq") => `(tactic| first | assumption | exact Or.inl (Or.inl (by walk_at "hp")) | exact Same.seq (by assumption) (by walk_at "sq") | exact RD.KB.seq (by assumption) (by walk_at "ne") (by walk_at "sq") | fail "no")
local macro_rules | `(tactic| walk_at "st") => `(tactic| first | assumption | exact Or.inl (Or.inl (by walk_at "hp")) | exact RD.Same.tup (by assumption) (by walk_at "st") | exact RD.KB.tup (by assumption) (by walk_at "ne") (by walk_at "st") | fail "no")
local macro_rules | `(tactic| walk_at "rd") => `(tactic| first
  | with_reducible refine RD.c ?_
  | ((with_reducible refine' RD.var ?rdE ?rdK); (case rdE => exact rfl))
  | with_reducible refine RD.op ?_
  | with_reducible refine RD.un ?_
  | with_reducible refine RD.nil ?_
  | with_reducible refine RD.cons ?_
  | with_reducible refine RD.cb ?_
  | with_reducible refine RD.call ?_
  | with_reducible refine RD.test ?_
  | with_reducible refine RD.tb' ?_
  | with_reducible refine RD.bl ?_
  | with_reducible refine RD.and' ?_
  | with_reducible refine RD.or' ?_
  | with_reducible refine RD.not' ?_
  | with_reducible refine RD.andV ?_
  | with_reducible refine RD.orV ?_
  | with_reducible refine RD.notV ?_
  | with_reducible refine RD.ife ?_
  | with_reducible refine RD.sl ?_
  | with_reducible refine RD.part ?_
  | with_reducible refine RD.noPart ?_
  | with_reducible refine RD.partI ?_
  | with_reducible refine RD.rd0 ?_
  | with_reducible refine RD.rdU ?_
  | ((with_reducible refine' RD.rdEq ?rdE ?rdK); (case rdE => rfl))
  | ((with_reducible refine' RD.rdNe ?rdE ?rdK); (case rdE => rfl))
  | ((with_reducible refine' RD.ixL ?rdH ?rdE ?rdK); (case rdH => walk_at "sq"); (case rdE => first | rfl | assumption))
  | ((with_reducible refine' RD.rdI ?rdC ?rdK); (case rdC => first | assumption | (show (0 : Int) < _; first | decide | omega) | exact ⟨by decide, by decide⟩ | exact ⟨by assumption, by assumption⟩ | exact .inr ⟨by decide, by decide⟩ | exact .inl ⟨by decide, by decide⟩ | exact ⟨by decide, by decide, by decide⟩ | exact .inl ⟨by omega, by omega⟩))
  | ((with_reducible refine' RD.setL ?rdH ?rdE ?rdK); (case rdH => walk_at "hp"); (case rdE => rfl); intro $(Lean.mkIdent `H'):ident $(Lean.mkIdent `hk):ident $(Lean.mkIdent `hv):ident)
  | ((with_reducible refine' RD.irng1V ?rdA ?rdB ?rdK); (case rdA => first | decide | omega); (case rdB => first | decide | omega))
  | with_reducible refine RD.int1 ?_
  | with_reducible refine RD.abs1 ?_
  | ((with_reducible refine' RD.len ?rdH ?rdK); (case rdH => first | exact Or.inl (by walk_at "sq") | exact Or.inr (by walk_at "st")))
  | with_reducible refine RD.tup ?_
  | with_reducible refine RD.lst ?_
  | with_reducible refine RD.ite1 ?_
  | with_reducible refine RD.ite0 ?_
  | with_reducible refine RD.ite1n ?_
  | with_reducible refine RD.ite0n ?_
  | with_reducible refine RD.seq ?_
  | with_reducible refine RD.asg ?_
  | with_reducible refine RD.name ?_
  | with_reducible refine RD.ret ?_
  | with_reducible refine RD.drop ?_
  | with_reducible refine RD.next ?_
  | with_reducible refine RD.ifs ?_
  | with_reducible refine RD.par ?_
  | with_reducible refine RD.par2 ?_
  | with_reducible refine RD.sub ?_
  | with_reducible refine RD.gcons ?_
  | with_reducible refine RD.gnil ?_
  | with_reducible refine RD.bm ?_
  | ((with_reducible refine' RD.bmL ?rdH ?rdK); (case rdH => walk_at "sq"))
  | ((with_reducible refine' RD.newZ ?rdH ?rdK); (case rdH => exact RD.sz _); intro $(Lean.mkIdent `p'):ident $(Lean.mkIdent `H'):ident $(Lean.mkIdent `hp):ident $(Lean.mkIdent `hs):ident $(Lean.mkIdent `hv):ident; (try have $(Lean.mkIdent `hn):ident := hand_ne $(Lean.mkIdent `hp):ident (by walk_at "hk")))
  | with_reducible refine RD.fors ?_
  | with_reducible refine RD.lc ?_
  | with_reducible refine RD.yes ?_
  | with_reducible refine RD.ilist ?_
  | ((with_reducible refine' RD.ilistV ?rdH ?rdK); (case rdH => walk_at "sq"))
  | with_reducible refine RD.itup ?_
  | ((with_reducible refine' RD.itupV ?rdH ?rdK); (case rdH => walk_at "st"))
  | with_reducible refine RD.irng1 ?_
  | with_reducible refine RD.irng2 ?_
  | ((with_reducible refine' RD.irng2V ?rdA ?rdK); (case rdA => first | decide | omega))
  | with_reducible refine RD.ienum ?_
  | ((with_reducible refine' RD.ienumV ?rdH ?rdK); (case rdH => walk_at "sq"))
  | with_reducible refine RD.izip ?_
  | ((with_reducible refine' RD.izipV ?rdH ?rdE ?rdK); (case rdH => walk_at "sq"); (case rdE => walk_at "sq"))
  | with_reducible refine SPD.izipA ?_
  | with_reducible refine RD.istr ?_
  | with_reducible refine RD.istrV ?_
  | ((with_reducible refine' RD.slL ?rdH ?rdK); (case rdH => walk_at "sq"); intro $(Lean.mkIdent `p'):ident $(Lean.mkIdent `H'):ident $(Lean.mkIdent `hp):ident $(Lean.mkIdent `hs):ident $(Lean.mkIdent `hv):ident; (try have $(Lean.mkIdent `hn):ident := hand_ne $(Lean.mkIdent `hp):ident (by walk_at "hk")))
  | ((with_reducible refine' RD.cat ?rdH ?rdE ?rdZ ?rdK); (case rdH => walk_at "hp"); (case rdE => walk_at "hp"); (case rdZ => exact RD.sz _); intro $(Lean.mkIdent `p'):ident $(Lean.mkIdent `H'):ident $(Lean.mkIdent `hp):ident $(Lean.mkIdent `hs):ident $(Lean.mkIdent `hv):ident; (try have $(Lean.mkIdent `hn):ident := hand_ne $(Lean.mkIdent `hp):ident (by walk_at "hk")))
  | ((with_reducible refine' RD.gtup ?rdH ?rdE ?rdK); (case rdH => walk_at "st"); (case rdE => rfl))
  | ((with_reducible refine' RD.app ?rdH ?rdZ ?rdK); (case rdH => walk_at "hp"); (case rdZ => first | assumption | (apply RD.szl; omega)); intro $(Lean.mkIdent `H'):ident $(Lean.mkIdent `hk):ident $(Lean.mkIdent `hv):ident)
  | ((with_reducible refine' RD.all1 ?rdH ?rdK); (case rdH => walk_at "sq"))
  | ((with_reducible refine' RD.any1 ?rdH ?rdK); (case rdH => walk_at "sq"))
  | ((with_reducible refine' SPD.dnew ?rdK); intro $(Lean.mkIdent `p'):ident $(Lean.mkIdent `H'):ident $(Lean.mkIdent `hp):ident $(Lean.mkIdent `hs):ident $(Lean.mkIdent `hv):ident; (try have $(Lean.mkIdent `hn):ident := hand_ne $(Lean.mkIdent `hp):ident (by walk_at "hk")))
  | ((with_reducible refine' SPD.disp1 ?rdK); intro $(Lean.mkIdent `p'):ident $(Lean.mkIdent `H'):ident $(Lean.mkIdent `hp):ident $(Lean.mkIdent `hs):ident $(Lean.mkIdent `hv):ident; (try have $(Lean.mkIdent `hn):ident := hand_ne $(Lean.mkIdent `hp):ident (by walk_at "hk")))
  | ((with_reducible refine' SPD.isSeq ?rdH ?rdE ?rdK); (case rdH => walk_at "hp"); (case rdE => walk_at "kd"))
  | ((with_reducible refine' SPD.isTup ?rdE ?rdK); (case rdE => walk_at "kd"))
  | ((with_reducible refine' SPD.isLst ?rdE ?rdK); (case rdE => walk_at "kd"))
  | ((with_reducible refine' SPD.isBool ?rdE ?rdK); (case rdE => walk_at "kd"))
  | ((with_reducible refine' SPD.isStr ?rdE ?rdK); (case rdE => walk_at "kd"))
  | ((with_reducible refine' SPD.isInt ?rdE ?rdK); (case rdE => walk_at "kd"))
  | dsimp only)
local macro_rules | `(tactic| walk_at "rds") => `(tactic| repeat walk_at "rd")
local macro_rules | `(tactic| walk_at "sm") => `(tactic| first | assumption | exact Same.refl _ | exact RD.sm_tr (by assumption) (by walk_at "sm") | fail "no")
local macro_rules | `(tactic| walk_at "kb") => `(tactic| first | assumption | exact RD.KB.refl | exact RD.kb_tr (by assumption) (by walk_at "kb") | exact RD.kb_trs (by assumption) (by walk_at "kb") | fail "no")
local macro_rules | `(tactic| walk_at "fr") => `(tactic| first | assumption | exact RD.fr_of (by assumption) (by walk_at "sm") | fail "no")
local macro_rules | `(tactic| walk_at "hk") => `(tactic| first | assumption | exact hand_same (by assumption) (by walk_at "hk") | exact hand_kb (by assumption) (by walk_at "fr") (by walk_at "hk") | fail "no")
local macro_rules | `(tactic| walk_at "na") => `(tactic| first | assumption | exact hand_ne (by assumption) (by walk_at "hk") | fail "no")
local macro_rules | `(tactic| walk_at "dqa") => `(tactic| first | exact SPD.DqA.nil | exact SPD.DqA.cons (by walk_at "dq") (by walk_at "dqa") | exact SPD.DqA.app (by walk_at "dqa") (by walk_at "dqa") | fail "no")
local macro_rules | `(tactic| walk_at "dq") => `(tactic| first | assumption | exact SPD.Dq.leaf rfl | exact SPD.dq_kb (by assumption) (by walk_at "kb") | exact SPD.dqTup (by walk_at "hp") (by walk_at "na") (by walk_at "dqa") | exact SPD.dqLst (by walk_at "hp") (by walk_at "na") (by walk_at "dqa") | exact SPD.dqNil (by walk_at "hp") (by walk_at "na") (by first | decide | simp) (by first | decide | simp) | fail "no")

/-! ### the hand, the draws -/
def HandOk (H : Hp) (a : Addr) : Prop := ∃ (c : Addr) (cells : List Int) (i g s n : Int), H a = some (.lst [.ref c, .int i, .int g, .int s, .int n]) ∧ H c = some (.lst (cells.map V.int)) ∧ c ≠ a ∧ 0 ≤ i
theorem HandOk.same {H H' : Hp} {a : Addr} (h : HandOk H a) (s : Same H H') : HandOk H' a := by
  obtain ⟨c, cells, i, g, sd, n, ha, hc, hca, hi⟩ := h
  exact ⟨c, cells, i, g, sd, n, s _ _ ha, s _ _ hc, hca, hi⟩
theorem HandOk.kb {H H' : Hp} {a p : Addr} (h : HandOk H a) (k : RD.KB p H H') (n : H p = none) : HandOk H' a := h.same fun b o e => k b o (ne_of_none e n) e
theorem HandOk.ne {H : Hp} {a p : Addr} (n : H p = none) (h : HandOk H a) : p ≠ a := by
  obtain ⟨c, cells, i, g, sd, n', ha, _⟩ := h
  exact (ne_of_none ha n).symm
theorem hand_same {H H' : Hp} {a : Addr} (s : Same H H') (h : HandOk H a) : HandOk H' a := h.same s
theorem hand_kb {H H' : Hp} {a p : Addr} (k : RD.KB p H H') (n : H p = none) (h : HandOk H a) : HandOk H' a := h.kb k n
theorem hand_ne {H : Hp} {a p : Addr} (n : H p = none) (h : HandOk H a) : p ≠ a := HandOk.ne n h
def spHand (K : PySem.W.Frag) : Sp := fun vs H Q _ => ∃ (s : Addr) (ns : List Int), vs = [.ref s] ∧ SqL K H s (ns.map V.int) ∧ ns.length ≤ 63 ∧ ∀ a H', Same H H' → H a = none → HandOk H' a → Q (.ref a) H'
def spDraw : Sp := fun vs H Q _ => ∃ (a : Addr) (m : Int), vs = [.ref a, .int m] ∧ HandOk H a ∧ 0 < m ∧ m < 1073741824 ∧ ∀ (r : Int) H', 0 ≤ r → r < m → RD.KB a H H' → HandOk H' a → Q (.int r) H'
/-- what may be drawn from -/
inductive Items (K : PySem.W.Frag) (H : Hp) (a : Addr) : V → List V → Prop where
  | lst {p : Addr} {zs : List V} : p ≠ a → SqL K H p zs → Items K H a (.ref p) zs
  | tup {p : Addr} {zs : List V} : p ≠ a → SqT K H p zs → Items K H a (.ref p) zs
  | str {z : Str} : z.length ≤ sizeLine → Items K H a (.str z) (z.cps.toList.map fun c => .str ⟨#[c]⟩)
def spAny (K : PySem.W.Frag) : Sp := fun vs H Q _ => ∃ (a : Addr) (y : V) (zs : List V), vs = [.ref a, y] ∧ HandOk H a ∧ Items K H a y zs ∧ 0 < zs.length ∧ zs.length < 1073741824 ∧ ∀ v H', v ∈ zs → RD.KB a H H' → HandOk H' a → Q v H'
theorem spDraw.mk {a : Addr} {m : Int} {H : Hp} {Q : VK} {E : XK} (h : HandOk H a) (h0 : 0 < m) (h1 : m < 1073741824) (q : ∀ (r : Int) H', 0 ≤ r → r < m → RD.KB a H H' → HandOk H' a → Q (.int r) H') : spDraw ([.ref a, .int m] ++ []) H Q E := ⟨a, m, rfl, h, h0, h1, q⟩
theorem spAny.mk {K : PySem.W.Frag} {a : Addr} {y : V} {zs : List V} {H : Hp} {Q : VK} {E : XK} (h : HandOk H a) (hi : Items K H a y zs) (h0 : 0 < zs.length) (h1 : zs.length < 1073741824) (q : ∀ v H', v ∈ zs → RD.KB a H H' → HandOk H' a → Q v H') : spAny K ([.ref a, y] ++ []) H Q E := ⟨a, y, zs, rfl, h, hi, h0, h1, q⟩
section
variable {P : Program} {w : World} {K : PySem.W.Frag} {mg : Str → Option Value} {base : Heap}
theorem ok_hand (T : Txt P K mg) : FnOk P w K mg base CX0 1 T.a_hand T.fd_hand ["_law_script"] (spHand K) := by
  have nd := sc_hand.nd
  refine T.F_hand.ok sc_hand (fun vs H Q E h => ?_) (fun cdv A outer s H vs Q E hr h => ?_)
  · obtain ⟨a, ns, rfl, _⟩ := h
    rfl
  · obtain ⟨a, ns, rfl, hS, hlen, q⟩ := h
    refine ⟨_, (pss_cons (ps_setLc (i := 1) (own := [("_law_cell", 2)]) (g := (gName 2)) rfl nd rfl rfl (sw_true rfl rfl rfl (by decide +kernel)) (pi_list (pe_slice sl_list (pv 0) po_none (po_some pe_int))) (blkOk_by (own := [("_law_cell", 2)]) (N := N_hand) (sc := defScope s_hand) (by decide +kernel)) (fun _ _ _ _ _ => (pg_name (i := 2) nd rfl (Or.inl rfl))) (fun _ _ _ _ _ => pts_nil) (fun _ _ _ _ _ => (pe_callB call_abs (by rfl) T.m_abs (by decide +kernel) (pa_cons (pe_callTy call_int1 (by rfl) T.m_int (by decide +kernel) (pa_cons (pv 2) pa_nil)) pa_nil))))
  (pss_one (ps_ret (pe_lst (pa_cons (pv 1) (pa_cons pe_int (pa_cons pe_int (pa_cons (pe_op op_add pe_int (pe_callB call_len_seq (by rfl) T.m_len PySem.boot_len (pa_cons (pv 1) pa_nil))) (pa_cons pe_int pa_nil))))))))), ?_⟩
    walk_at "rds"
    have hcl : cutV (ns.map V.int) none (some 63) = ns.map V.int := by
      unfold cutV
      rw [HT.sIx_none, show HT.sIx (ns.map V.int).length (ns.map V.int).length (some 63) = min 63 (ns.map V.int).length from HT.sIx_nat _ _ 63, List.drop_zero, List.length_map]
      exact List.take_of_length_le (by rw [List.length_map]; omega)
    rw [hcl] at hv
    refine RD.lcF (walk_list (xs := ns.map V.int)) (by rw [List.length_map]; omega) (fun i => (ns[i]?).map fun n => .int (if n < 0 then -n else n)) (fun H' s => by walk_at "sq") (fun i x H' Z N hi hx s hZ hN => ?_) (fun D H' hD s hv2 => ?_)
    · rw [List.getElem?_map] at hx
      obtain ⟨n, hn, rfl⟩ := Option.map_eq_some_iff.mp hx
      walk_at "rds"
      refine ⟨rfl, ?_⟩
      walk_at "rds"
      exact hZ _ _ (by rw [hn]; rfl) (Same.refl _)
    · have e : (List.range (ns.map V.int).length).filterMap (fun i => (ns[i]?).map fun n => V.int (if n < 0 then -n else n)) = (ns.map fun n => if n < 0 then -n else n).map V.int := by
        rw [List.length_map, RD.range_get (fun n => V.int (if n < 0 then -n else n)) ns, List.map_map]
        rfl
      rw [e] at hv2
      walk_at "rds"
      refine q _ _ (by walk_at "sm") (by walk_at "fr") ⟨D, _, _, _, _, _, hv, hs _ _ hv2, (ne_of_none hv2 hp), by omega⟩
theorem ok_draw (T : Txt P K mg) : FnOk P w K mg base CX0 1 T.a_draw T.fd_draw ["_law_hand_here", "_law_many"] spDraw := by
  have nd := sc_draw.nd
  refine T.F_draw.ok sc_draw (fun vs H Q E h => ?_) (fun cdv A outer s H vs Q E hr h => ?_)
  · obtain ⟨a, m, rfl, _⟩ := h
    rfl
  · obtain ⟨a, m, rfl, ⟨c, cells, i, g, sd, n, ha, hc, hca, hi⟩, hm0, hm1, q⟩ := h
    refine ⟨_, (Evl.pss_cut (ps_if (PW.pt (pw_and (pt_cmpR op_eq (pe_ix ix_list (pv 0) pe_int (fun _ _ => rfl)) pe_int (nomark _)) (pw_and1 (pt_cmpR op_lt (pe_ix ix_list (pv 0) pe_int (fun _ _ => rfl)) (pe_callB call_len_seq (by rfl) T.m_len PySem.boot_len (pa_cons (pe_ix ix_list (pv 0) pe_int (fun _ _ => rfl)) pa_nil)) (nomark _)))))
    (pss_cons (ps_set (i := 2) nd rfl (by first | exact Or.inl rfl | exact Or.inr rfl) (pe_ix ix_list (pe_ix ix_list (pv 0) pe_int (fun _ _ => rfl)) (pe_ix ix_list (pv 0) pe_int (fun _ _ => rfl)) (fun _ _ => rfl)))
  (pss_cons (ps_asg (pe_op op_add (pe_ix ix_list (pv 0) pe_int (fun _ _ => rfl)) pe_int) (pg_sub (pv 0) pe_int set_list))
  (pss_cons (ps_asg (pe_op op_mod (pe_callTy call_int1 (by rfl) T.m_int (by decide +kernel) (pa_cons (pe_op op_add (pe_op op_add (pe_op op_mul (pe_ix ix_list (pv 0) pe_int (fun _ _ => rfl)) pe_int) (pv 2)) pe_int) pa_nil)) pe_int) (pg_sub (pv 0) pe_int set_list))
  (pss_one (ps_if (pt_cmpR op_ge (pv 2) (pe_op op_pow pe_int pe_int) (nomark _))
    (pss_one (ps_asg (pv 2) (pg_sub (pv 0) pe_int set_list)))
    pss_nil)))))
    pss_nil)
  (pss_cons (ps_if (pt_cmpR op_gt (pe_ix ix_list (pv 0) pe_int (fun _ _ => rfl)) pe_int (nomark _))
    (pss_cons (ps_set (i := 3) nd rfl (by first | exact Or.inl rfl | exact Or.inr rfl) (pe_op op_mod (pe_callTy call_int1 (by rfl) T.m_int (by decide +kernel) (pa_cons (pe_ix ix_list (pv 0) pe_int (fun _ _ => rfl)) pa_nil)) (pv 1)))
  (pss_cons (ps_asg (pe_op op_fdiv (pe_ix ix_list (pv 0) pe_int (fun _ _ => rfl)) (pv 1)) (pg_sub (pv 0) pe_int set_list))
  (pss_one (ps_ret (pv 3)))))
    pss_nil)
  (pss_cons (ps_asg (pe_op op_add (pe_ix ix_list (pv 0) pe_int (fun _ _ => rfl)) pe_int) (pg_sub (pv 0) pe_int set_list))
  (pss_cons (ps_set (i := 4) nd rfl (by first | exact Or.inl rfl | exact Or.inr rfl) (pe_op op_mod (pe_callTy call_int1 (by rfl) T.m_int (by decide +kernel) (pa_cons (pe_op op_mul (pe_callTy call_int1 (by rfl) T.m_int (by decide +kernel) (pa_cons (pe_op op_add (pe_ix ix_list (pv 0) pe_int (fun _ _ => rfl)) (pe_op op_mul pe_int (pe_ix ix_list (pv 0) pe_int (fun _ _ => rfl)))) pa_nil)) pe_int) pa_nil)) pe_int))
  (pss_cons (ps_set (i := 4) nd rfl (by first | exact Or.inl rfl | exact Or.inr rfl) (pe_op op_mod (pe_callTy call_int1 (by rfl) T.m_int (by decide +kernel) (pa_cons (pe_op op_mul (pv 4) (pe_op op_add (pe_op op_fdiv (pv 4) pe_int) pe_int)) pa_nil)) pe_int))
  (pss_cons (ps_set (i := 4) nd rfl (by first | exact Or.inl rfl | exact Or.inr rfl) (pe_op op_mod (pe_callTy call_int1 (by rfl) T.m_int (by decide +kernel) (pa_cons (pe_op op_mul (pv 4) (pe_op op_add (pe_op op_fdiv (pv 4) pe_int) pe_int)) pa_nil)) pe_int))
  (pss_one (ps_ret (pe_op op_mod (pe_callTy call_int1 (by rfl) T.m_int (by decide +kernel) (pa_cons (pe_op op_fdiv (pv 4) pe_int) pa_nil)) (pv 1)))))))))), ?_⟩
    refine ⟨fun σ' H' => ∃ x2 x3 x4 i' g' s' n', σ' = [some (.ref a), some (.int m), x2, x3, x4] ∧ RD.KB a H H' ∧ H' a = some (.lst [.ref c, .int i', .int g', .int s', .int n']) ∧ 0 ≤ i', ?_, fun σ1 H1 hm => ?_⟩
    · have k0 : RD.KB a H H := RD.KB.refl
      walk_at "rds"
      refine RD.ite_d (fun _ => ?_) (fun _ => ?_)
      · walk_at "rds"
        refine RD.ite_d (fun hl => ?_) (fun _ => ?_)
        · obtain ⟨cell, hat, _⟩ := RD.at_map hi hl
          walk_at "rds"
          refine RD.ite_d (fun _ => ?_) (fun _ => ?_)
          · walk_at "rds"
            exact ⟨_, _, _, _, _, _, _, rfl, by walk_at "kb", by walk_at "hp", by omega⟩
          · walk_at "rds"
            exact ⟨_, _, _, _, _, _, _, rfl, by walk_at "kb", by walk_at "hp", by omega⟩
        · walk_at "rds"
          exact ⟨_, _, _, _, _, _, _, rfl, by walk_at "kb", by walk_at "hp", by omega⟩
      · walk_at "rds"
        exact ⟨_, _, _, _, _, _, _, rfl, by walk_at "kb", by walk_at "hp", by omega⟩
    · obtain ⟨x2, x3, x4, i', g', s', n', rfl, k1, h1, hi1⟩ := hm
      walk_at "rds"
      refine RD.ite_d (fun _ => ?_) (fun _ => ?_)
      · walk_at "rds"
        exact q _ _ (Int.emod_nonneg _ (by omega)) (Int.emod_lt_of_pos _ hm0) (by walk_at "kb") ⟨c, cells, _, _, _, _, by walk_at "hp", (RD.KB.trans k1 (by assumption)) _ _ hca hc, hca, hi1⟩
      · walk_at "rds"
        exact q _ _ (Int.emod_nonneg _ (by omega)) (Int.emod_lt_of_pos _ hm0) (by walk_at "kb") ⟨c, cells, _, _, _, _, by walk_at "hp", (RD.KB.trans k1 (by assumption)) _ _ hca hc, hca, hi1⟩
theorem ok_any (T : Txt P K mg) : FnOk P w K mg base CX0 2 T.a_any T.fd_any ["_law_hand_here", "_law_items"] (spAny K) := by
  have nd := sc_any.nd
  have G_draw : FnOk P w K mg base CX0 1 T.a_draw T.fd_draw ["_law_hand_here", "_law_many"] spDraw := ok_draw T
  refine T.F_any.ok sc_any (fun vs H Q E h => ?_) (fun cdv A outer s H vs Q E hr h => ?_)
  · obtain ⟨a, y, zs, rfl, _⟩ := h
    rfl
  · obtain ⟨a, y, zs, rfl, hh, hi, h0, h1, q⟩ := h
    refine ⟨_, (pss_one (ps_ret (pe_ix ix_seq (pv 1) (pe_call G_draw hr (by rfl) T.g_draw T.F_draw.kp T.b_draw .nil pass0 (pa_cons (pv 0) (pa_cons (pe_callB call_len (by rfl) T.m_len PySem.boot_len (pa_cons (pv 1) pa_nil)) pa_nil))) (fun _ _ => rfl)))), ?_⟩
    walk_at "rds"
    refine ⟨y, zs.length, rfl, ?_, ?_⟩
    · cases hi with
      | lst n hx => exact .inl ⟨_, hx, rfl⟩
      | tup n hx => exact .inr ⟨_, hx, rfl⟩
      | str hz => exact ⟨hz, by rw [List.length_map]; rfl⟩
    · walk_at "rds"
      refine spDraw.mk hh (by omega) (by omega) fun r H' hr0 hr1 k hh' => ?_
      obtain ⟨v, hat, hv⟩ := RD.at_lt (xs := zs) hr0 hr1
      have hm := List.mem_of_getElem? hv
      cases hi with
      | lst n hx => exact .inl ⟨_, _, _, _, rfl, rfl, k.seq n hx, hat, q _ _ hm k hh'⟩
      | tup n hx => exact .inr (.inl ⟨_, _, _, _, rfl, rfl, k.tup n hx, hat, q _ _ hm k hh'⟩)
      | @str z hz =>
        rw [List.length_map] at hr1
        obtain ⟨cp, hat2, hc⟩ := RD.at_lt (xs := z.cps.toList) hr0 hr1
        refine .inr (.inr ⟨z, r, cp, rfl, rfl, hz, hat2, q _ _ ?_ k hh'⟩)
        exact List.mem_map.mpr ⟨cp, List.mem_of_getElem? hc, rfl⟩
end

/-! ### the law's own comparison -/
def spIs (K : PySem.W.Frag) (n : Nat) : Sp := fun vs H Q _ => ∃ (x y : V) (b : Bool), vs = [x, y] ∧ SPD.IsB K H n x y b ∧ ∀ H', Same H H' → Q (.bl b) H'
def spIsM (K : PySem.W.Frag) : Nat → Sp
  | 0 => fun _ _ _ _ => False
  | n + 1 => spIs K n
theorem spIs.mk {K : PySem.W.Frag} {n : Nat} {x y : V} {b : Bool} {H : Hp} {Q : VK} {E : XK} (h : SPD.IsB K H n x y b) (q : ∀ H', Same H H' → Q (.bl b) H') : spIs K n ([x, y] ++ []) H Q E := ⟨x, y, b, rfl, h, q⟩
section
variable {P : Program} {w : World} {K : PySem.W.Frag} {mg : Str → Option Value} {base : Heap}
theorem is_step (T : Txt P K mg) (n : Nat) (G_is : FnOk P w K mg base CX0 n T.a_is T.fd_is ["_law_told", "_law_due"] (spIsM K n)) : FnOk P w K mg base CX0 (n + 1) T.a_is T.fd_is ["_law_told", "_law_due"] (spIs K n) := by
  have nd := sc_is.nd
  refine T.F_is.ok sc_is (fun vs H Q E h => ?_) (fun cdv A outer s H vs Q E hr h => ?_)
  · obtain ⟨x, y, b, rfl, _⟩ := h
    rfl
  · obtain ⟨x, y, b, rfl, hb, q⟩ := h
    refine ⟨_, (pss_cons (ps_if (pt_val (pe_callB call_isiT (by rfl) T.m_isinstance (by decide +kernel) (pa_cons (pv 1) (pa_cons (pe_tup (pa_cons (pe_bltn (v := .ty "tuple") (by rfl) T.m_tuple (by decide +kernel) rfl) (pa_cons (pe_bltn (v := .ty "list") (by rfl) T.m_list (by decide +kernel) rfl) pa_nil))) pa_nil))))
    (pss_cons (ps_if (PW.pt (pw_or (pt_cmpR op_ne (pe_callB call_isi (by rfl) T.m_isinstance (by decide +kernel) (pa_cons (pv 0) (pa_cons (pe_bltn (v := .ty "tuple") (by rfl) T.m_tuple (by decide +kernel) rfl) pa_nil))) (pe_callB call_isi (by rfl) T.m_isinstance (by decide +kernel) (pa_cons (pv 1) (pa_cons (pe_bltn (v := .ty "tuple") (by rfl) T.m_tuple (by decide +kernel) rfl) pa_nil))) (nomark _)) (pw_or1 (pt_not (pt_val (pe_callB call_isiT (by rfl) T.m_isinstance (by decide +kernel) (pa_cons (pv 0) (pa_cons (pe_tup (pa_cons (pe_bltn (v := .ty "tuple") (by rfl) T.m_tuple (by decide +kernel) rfl) (pa_cons (pe_bltn (v := .ty "list") (by rfl) T.m_list (by decide +kernel) rfl) pa_nil))) pa_nil))))))))
    (pss_one (ps_ret pe_bl))
    pss_nil)
  (pss_one (ps_ret (pe_and (pe_cmpR op_eq (pe_callB call_len_seq (by rfl) T.m_len PySem.boot_len (pa_cons (pv 0) pa_nil)) (pe_callB call_len_seq (by rfl) T.m_len PySem.boot_len (pa_cons (pv 1) pa_nil)) (nomark _)) (pe_one (pe_callB (cr_all rfl) (by rfl) T.m_all (by decide +kernel) (pa_cons (pe_lc (own := [("_law_one", 2), ("_law_two", 3)]) (g := (gTup K 2 (gCons (gName 2) (gCons (gName 3) gNil)))) rfl nd (RZ.pi_zipA (by rfl) T.m_zip (pa_cons (pv 0) (pa_cons (pv 1) pa_nil))) (blkOk_by (own := [("_law_one", 2), ("_law_two", 3)]) (N := N_is) (sc := defScope s_is) (by decide +kernel)) (fun _ _ _ _ _ => (pg_tup rfl (pgs_cons (pg_name (i := 2) nd rfl (Or.inl rfl)) (pgs_cons (pg_name (i := 3) nd rfl (Or.inl rfl)) pgs_nil)))) (fun _ _ _ _ _ => pts_nil) (fun _ _ _ _ _ => (pe_call G_is hr (by rfl) T.g_is T.F_is.kp T.b_is .nil pass0 (pa_cons (pv 2) (pa_cons (pv 3) pa_nil))))) pa_nil)))))))
    pss_nil)
  (pss_one (ps_ret (pe_and (pe_cmpR op_eq (pe_callB call_isi (by rfl) T.m_isinstance (by decide +kernel) (pa_cons (pv 0) (pa_cons (pe_bltn (v := .ty "bool") (by rfl) T.m_bool (by decide +kernel) rfl) pa_nil))) (pe_callB call_isi (by rfl) T.m_isinstance (by decide +kernel) (pa_cons (pv 1) (pa_cons (pe_bltn (v := .ty "bool") (by rfl) T.m_bool (by decide +kernel) rfl) pa_nil))) (nomark _)) (pe_one (pe_cmpR (SPD.op_eqB hr.units) (pv 0) (pv 1) (nomark _))))))), ?_⟩
    have three : (∃ s t, SPD.KdOf K H x s ∧ SPD.KdOf K H y t ∧ t.sq = false ∧ ((decide (s = .bl) = decide (t = .bl) ∧ SPD.EqB K H x y b) ∨ (decide (s = .bl) ≠ decide (t = .bl) ∧ b = false))) ∨
        (∃ s t, SPD.KdOf K H x s ∧ SPD.KdOf K H y t ∧ t.sq = true ∧ s ≠ t ∧ b = false) ∨
        (∃ (k : SPD.Kd) (a c : Addr) (xs ys : List V), x = .ref a ∧ y = .ref c ∧ k.sq = true ∧ SPD.KdOf K H x k ∧ SPD.KdOf K H y k ∧ ((H a = some (.lst xs) ∧ H c = some (.lst ys)) ∨ (H a = some (.tup xs) ∧ H c = some (.tup ys))) ∧
          ((xs.length ≠ ys.length ∧ b = false) ∨ (xs.length = ys.length ∧ ∃ (m : Nat) (bs : List Bool), n = m + 1 ∧ b = bs.all id ∧ bs.length = xs.length ∧ xs.length ≤ 16777216 ∧ ∀ (i : Nat) (x y : V) (c : Bool), xs[i]? = some x → ys[i]? = some y → bs[i]? = some c → SPD.IsB K H m x y c))) := by
      cases hb with
      | leaf a b c d e => exact .inl ⟨_, _, a, b, c, .inl ⟨d, e⟩⟩
      | bool a b c d => exact .inl ⟨_, _, a, b, c, .inr ⟨d, rfl⟩⟩
      | kind a b c d => exact .inr (.inl ⟨_, _, a, b, c, d, rfl⟩)
      | lenL a b c => exact .inr (.inr ⟨_, _, _, _, _, rfl, rfl, rfl, .lst a, .lst b, .inl ⟨a, b⟩, .inl ⟨c, rfl⟩⟩)
      | lenT a b c => exact .inr (.inr ⟨_, _, _, _, _, rfl, rfl, rfl, .tup a, .tup b, .inr ⟨a, b⟩, .inl ⟨c, rfl⟩⟩)
      | lst a b c d e f => exact .inr (.inr ⟨_, _, _, _, _, rfl, rfl, rfl, .lst a, .lst b, .inl ⟨a, b⟩, .inr ⟨c, _, _, rfl, rfl, d, e, f⟩⟩)
      | tup a b c d e f => exact .inr (.inr ⟨_, _, _, _, _, rfl, rfl, rfl, .tup a, .tup b, .inr ⟨a, b⟩, .inr ⟨c, _, _, rfl, rfl, d, e, f⟩⟩)
    rcases three with ⟨s, t, hs, ht, hq, hcase⟩ | ⟨s, t, hs, ht, hq, hne, rfl⟩ | ⟨k, a, c, xs, ys, rfl, rfl, hq, hs, ht, hsq, hcase⟩
    · walk_at "rds"
      rw [hq]
      walk_at "rds"
      rcases hcase with ⟨hd, he⟩ | ⟨hd, rfl⟩
      · refine RD.ite_d (fun _ => ?_) (fun z => absurd (congrArg V.bl hd) z)
        walk_at "rds"
        refine SPD.eqB (he.same (by walk_at "sm")) (q _ (by walk_at "sm"))
      · refine RD.ite_d (fun z => absurd (V.bl.inj z) hd) (fun _ => ?_)
        exact q _ (by walk_at "sm")
    · walk_at "rds"
      rw [hq]
      walk_at "rds"
      refine RD.ite_nd (fun _ => ?_) (fun z => ?_)
      · walk_at "rds"
        exact q _ (by walk_at "sm")
      · have hss : s.sq = false := by
          have z := V.bl.inj z
          cases s <;> cases t <;> first | rfl | (exact absurd rfl hne) | (exact absurd hq (by decide)) | (exact absurd z (by decide))
        walk_at "rds"
        rw [hss]
        walk_at "rds"
        exact q _ (by walk_at "sm")
    · walk_at "rds"
      rw [hq]
      walk_at "rds"
      refine RD.ite_nd (fun z => absurd rfl z) (fun _ => ?_)
      walk_at "rds"
      rw [hq]
      walk_at "rds"
      rcases hsq with ⟨hxa, hyc⟩ | ⟨hxa, hyc⟩
      · walk_at "rds"
        refine RD.ite_d (fun e => ?_) (fun ne => ?_)
        · have e : xs.length = ys.length := by exact_mod_cast V.int.inj e
          rcases hcase with ⟨z, _⟩ | ⟨_, m, bs, rfl, rfl, hbl, hsz, hall⟩
          · exact absurd e z
          walk_at "rds"
          refine ⟨a, c, xs, ys, rfl, .inl ⟨by walk_at "sq", by walk_at "sq", ?_⟩⟩
          refine RD.lcW (RD.w_zip (xs := xs) (ys := ys) (n := xs.length) (by omega)) hsz fun D H2 hD hs2 hv2 => ⟨fun i acc H' => Same H H' ∧ (∀ o, H D = o → True) ∧ acc = (bs.take i).map V.bl, ⟨by walk_at "sm", fun _ _ => trivial, rfl⟩, fun i acc H' _ p => ⟨by have := p.1; walk_at "sq", by have := p.1; walk_at "sq"⟩, fun i x acc H3 H4 Z N hi p hDa hy hZ hN => ?_, fun acc H3 p hDa => ?_⟩
          · obtain ⟨T1, x1, y1, rfl, hT, hs4, hv4, hx1, hy1⟩ := hy
            have p1 := p.1
            obtain ⟨cb, hcb⟩ : ∃ cb, bs[i]? = some cb := ⟨_, List.getElem?_eq_getElem (by omega)⟩
            walk_at "rds"
            refine ⟨rfl, ?_⟩
            walk_at "rds"
            refine spIs.mk (E := E0) ((hall i x1 y1 cb hx1 hy1 hcb).same (by walk_at "sm")) fun H5 hs5 => ?_
            refine hZ _ _ (by walk_at "hp") fun H6 hk6 hv6 => ⟨?_, fun _ _ => trivial, ?_⟩
            · exact RD.same_mut hk6 (by walk_at "sm") (by walk_at "fr")
            · rw [p.2.2, List.take_add_one, hcb, List.map_append]
              rfl
          · have p1 := p.1
            rw [p.2.2, List.take_of_length_le (by omega)] at hDa
            walk_at "rds"
            exact q _ p1
        · rcases hcase with ⟨_, rfl⟩ | ⟨z, _⟩
          · exact q _ (by walk_at "sm")
          · exact absurd (congrArg (fun n : Nat => V.int (n : Int)) z) ne
      · walk_at "rds"
        refine RD.ite_d (fun e => ?_) (fun ne => ?_)
        · have e : xs.length = ys.length := by exact_mod_cast V.int.inj e
          rcases hcase with ⟨z, _⟩ | ⟨_, m, bs, rfl, rfl, hbl, hsz, hall⟩
          · exact absurd e z
          walk_at "rds"
          refine ⟨a, c, xs, ys, rfl, .inr ⟨by walk_at "st", by walk_at "st", ?_⟩⟩
          refine RD.lcW (SPD.w_zipT (xs := xs) (ys := ys) (n := xs.length) (by omega)) hsz fun D H2 hD hs2 hv2 => ⟨fun i acc H' => Same H H' ∧ (∀ o, H D = o → True) ∧ acc = (bs.take i).map V.bl, ⟨by walk_at "sm", fun _ _ => trivial, rfl⟩, fun i acc H' _ p => ⟨by have := p.1; walk_at "st", by have := p.1; walk_at "st"⟩, fun i x acc H3 H4 Z N hi p hDa hy hZ hN => ?_, fun acc H3 p hDa => ?_⟩
          · obtain ⟨T1, x1, y1, rfl, hT, hs4, hv4, hx1, hy1⟩ := hy
            have p1 := p.1
            obtain ⟨cb, hcb⟩ : ∃ cb, bs[i]? = some cb := ⟨_, List.getElem?_eq_getElem (by omega)⟩
            walk_at "rds"
            refine ⟨rfl, ?_⟩
            walk_at "rds"
            refine spIs.mk (E := E0) ((hall i x1 y1 cb hx1 hy1 hcb).same (by walk_at "sm")) fun H5 hs5 => ?_
            refine hZ _ _ (by walk_at "hp") fun H6 hk6 hv6 => ⟨?_, fun _ _ => trivial, ?_⟩
            · exact RD.same_mut hk6 (by walk_at "sm") (by walk_at "fr")
            · rw [p.2.2, List.take_add_one, hcb, List.map_append]
              rfl
          · have p1 := p.1
            rw [p.2.2, List.take_of_length_le (by omega)] at hDa
            walk_at "rds"
            exact q _ p1
        · rcases hcase with ⟨_, rfl⟩ | ⟨z, _⟩
          · exact q _ (by walk_at "sm")
          · exact absurd (congrArg (fun n : Nat => V.int (n : Int)) z) ne
theorem ok_is (T : Txt P K mg) : ∀ n, FnOk P w K mg base CX0 (n + 1) T.a_is T.fd_is ["_law_told", "_law_due"] (spIs K n)
  | 0 => is_step T 0 ⟨fun _ _ _ _ h => h.elim, fun _ _ _ _ _ _ _ _ _ _ _ _ _ h => h.elim⟩
  | n + 1 => is_step T (n + 1) (ok_is T n)
end


end K00

namespace K00
open PySem PySem.Spec PyProof.Rows L2
local macro_rules | `(tactic| walk_at "kd") => `(tactic| first | assumption | exact SPD.KdOf.int _ | exact SPD.KdOf.str _ | exact SPD.KdOf.bl _ | exact SPD.KdOf.non | exact SPD.KdOf.same (by assumption) (by walk_at "kd") | exact SPD.KdOf.tup (by walk_at "hp") | exact SPD.KdOf.lst (by walk_at "hp") | fail "no")
local macro_rules | `(tactic| walk_at "ne") => `(tactic| first | assumption | exact Ne.symm (by assumption) | fail "no")
local macro_rules | `(tactic| walk_at "hp") => `(tactic| first | assumption | exact RD.at_same (by assumption) (by walk_at "hp") | exact RD.at_kb (by assumption) (by walk_at "ne") (by walk_at "hp") | fail "no")
local macro_rules | `(tactic| walk_at "sq") => `(tactic| first | assumption | exact Or.inl (Or.inl (by walk_at "hp")) | exact Same.seq (by assumption) (by walk_at "sq") | exact RD.KB.seq (by assumption) (by walk_at "ne") (by walk_at "sq") | fail "no")
local macro_rules | `(tactic| walk_at "st") => `(tactic| first | assumption | exact Or.inl (Or.inl (by walk_at "hp")) | exact RD.Same.tup (by assumption) (by walk_at "st") | exact RD.KB.tup (by assumption) (by walk_at "ne") (by walk_at "st") | fail "no")
local macro_rules | `(tactic| walk_at "rd") => `(tactic| first
  | with_reducible refine RD.c ?_
  | ((with_reducible refine' RD.var ?rdE ?rdK); (case rdE => exact rfl))
  | with_reducible refine RD.op ?_
  | with_reducible refine RD.un ?_
  | with_reducible refine RD.nil ?_
  | with_reducible refine RD.cons ?_
  | with_reducible refine RD.cb ?_
  | with_reducible refine RD.call ?_
  | with_reducible refine RD.test ?_
  | with_reducible refine RD.tb' ?_
  | with_reducible refine RD.bl ?_
  | with_reducible refine RD.and' ?_
  | with_reducible refine RD.or' ?_
  | with_reducible refine RD.not' ?_
  | with_reducible refine RD.andV ?_
  | with_reducible refine RD.orV ?_
  | with_reducible refine RD.notV ?_
  | with_reducible refine RD.ife ?_
  | with_reducible refine RD.sl ?_
  | with_reducible refine RD.part ?_
  | with_reducible refine RD.noPart ?_
  | with_reducible refine RD.partI ?_
  | with_reducible refine RD.rd0 ?_
  | with_reducible refine RD.rdU ?_
  | ((with_reducible refine' RD.rdEq ?rdE ?rdK); (case rdE => rfl))
  | ((with_reducible refine' RD.rdNe ?rdE ?rdK); (case rdE => rfl))
  | ((with_reducible refine' RD.ixL ?rdH ?rdE ?rdK); (case rdH => walk_at "sq"); (case rdE => first | rfl | assumption))
  | ((with_reducible refine' RD.rdI ?rdC ?rdK); (case rdC => first | assumption | (show (0 : Int) < _; first | decide | omega) | exact ⟨by decide, by decide⟩ | exact ⟨by assumption, by assumption⟩ | exact .inr ⟨by decide, by decide⟩ | exact .inl ⟨by decide, by decide⟩ | exact ⟨by decide, by decide, by decide⟩ | exact .inl ⟨by omega, by omega⟩))
  | ((with_reducible refine' RD.setL ?rdH ?rdE ?rdK); (case rdH => walk_at "hp"); (case rdE => rfl); intro $(Lean.mkIdent `H'):ident $(Lean.mkIdent `hk):ident $(Lean.mkIdent `hv):ident)
  | ((with_reducible refine' RD.irng1V ?rdA ?rdB ?rdK); (case rdA => first | decide | omega); (case rdB => first | decide | omega))
  | with_reducible refine RD.int1 ?_
  | with_reducible refine RD.abs1 ?_
  | ((with_reducible refine' RD.len ?rdH ?rdK); (case rdH => first | exact Or.inl (by walk_at "sq") | exact Or.inr (by walk_at "st")))
  | with_reducible refine RD.tup ?_
  | with_reducible refine RD.lst ?_
  | with_reducible refine RD.ite1 ?_
  | with_reducible refine RD.ite0 ?_
  | with_reducible refine RD.ite1n ?_
  | with_reducible refine RD.ite0n ?_
  | with_reducible refine RD.seq ?_
  | with_reducible refine RD.asg ?_
  | with_reducible refine RD.name ?_
  | with_reducible refine RD.ret ?_
  | with_reducible refine RD.drop ?_
  | with_reducible refine RD.next ?_
  | with_reducible refine RD.ifs ?_
  | with_reducible refine RD.par ?_
  | with_reducible refine RD.par2 ?_
  | with_reducible refine RD.sub ?_
  | with_reducible refine RD.gcons ?_
  | with_reducible refine RD.gnil ?_
  | with_reducible refine RD.bm ?_
  | ((with_reducible refine' RD.bmL ?rdH ?rdK); (case rdH => walk_at "sq"))
  | ((with_reducible refine' RD.newZ ?rdH ?rdK); (case rdH => exact RD.sz _); intro $(Lean.mkIdent `p'):ident $(Lean.mkIdent `H'):ident $(Lean.mkIdent `hp):ident $(Lean.mkIdent `hs):ident $(Lean.mkIdent `hv):ident; (try have $(Lean.mkIdent `hn):ident := hand_ne $(Lean.mkIdent `hp):ident (by walk_at "hk")))
  | with_reducible refine RD.fors ?_
  | with_reducible refine RD.lc ?_
  | with_reducible refine RD.yes ?_
  | with_reducible refine RD.ilist ?_
  | ((with_reducible refine' RD.ilistV ?rdH ?rdK); (case rdH => walk_at "sq"))
  | with_reducible refine RD.itup ?_
  | ((with_reducible refine' RD.itupV ?rdH ?rdK); (case rdH => walk_at "st"))
  | with_reducible refine RD.irng1 ?_
  | with_reducible refine RD.irng2 ?_
  | ((with_reducible refine' RD.irng2V ?rdA ?rdK); (case rdA => first | decide | omega))
  | with_reducible refine RD.ienum ?_
  | ((with_reducible refine' RD.ienumV ?rdH ?rdK); (case rdH => walk_at "sq"))
  | with_reducible refine RD.izip ?_
  | ((with_reducible refine' RD.izipV ?rdH ?rdE ?rdK); (case rdH => walk_at "sq"); (case rdE => walk_at "sq"))
  | with_reducible refine SPD.izipA ?_
  | with_reducible refine RD.istr ?_
  | with_reducible refine RD.istrV ?_
  | ((with_reducible refine' RD.slL ?rdH ?rdK); (case rdH => walk_at "sq"); intro $(Lean.mkIdent `p'):ident $(Lean.mkIdent `H'):ident $(Lean.mkIdent `hp):ident $(Lean.mkIdent `hs):ident $(Lean.mkIdent `hv):ident; (try have $(Lean.mkIdent `hn):ident := hand_ne $(Lean.mkIdent `hp):ident (by walk_at "hk")))
  | ((with_reducible refine' RD.cat ?rdH ?rdE ?rdZ ?rdK); (case rdH => walk_at "hp"); (case rdE => walk_at "hp"); (case rdZ => exact RD.sz _); intro $(Lean.mkIdent `p'):ident $(Lean.mkIdent `H'):ident $(Lean.mkIdent `hp):ident $(Lean.mkIdent `hs):ident $(Lean.mkIdent `hv):ident; (try have $(Lean.mkIdent `hn):ident := hand_ne $(Lean.mkIdent `hp):ident (by walk_at "hk")))
  | ((with_reducible refine' RD.gtup ?rdH ?rdE ?rdK); (case rdH => walk_at "st"); (case rdE => rfl))
  | ((with_reducible refine' RD.app ?rdH ?rdZ ?rdK); (case rdH => walk_at "hp"); (case rdZ => first | assumption | (apply RD.szl; omega)); intro $(Lean.mkIdent `H'):ident $(Lean.mkIdent `hk):ident $(Lean.mkIdent `hv):ident)
  | ((with_reducible refine' RD.all1 ?rdH ?rdK); (case rdH => walk_at "sq"))
  | ((with_reducible refine' RD.any1 ?rdH ?rdK); (case rdH => walk_at "sq"))
  | ((with_reducible refine' SPD.dnew ?rdK); intro $(Lean.mkIdent `p'):ident $(Lean.mkIdent `H'):ident $(Lean.mkIdent `hp):ident $(Lean.mkIdent `hs):ident $(Lean.mkIdent `hv):ident; (try have $(Lean.mkIdent `hn):ident := hand_ne $(Lean.mkIdent `hp):ident (by walk_at "hk")))
  | ((with_reducible refine' SPD.disp1 ?rdK); intro $(Lean.mkIdent `p'):ident $(Lean.mkIdent `H'):ident $(Lean.mkIdent `hp):ident $(Lean.mkIdent `hs):ident $(Lean.mkIdent `hv):ident; (try have $(Lean.mkIdent `hn):ident := hand_ne $(Lean.mkIdent `hp):ident (by walk_at "hk")))
  | ((with_reducible refine' SPD.isSeq ?rdH ?rdE ?rdK); (case rdH => walk_at "hp"); (case rdE => walk_at "kd"))
  | ((with_reducible refine' SPD.isTup ?rdE ?rdK); (case rdE => walk_at "kd"))
  | ((with_reducible refine' SPD.isLst ?rdE ?rdK); (case rdE => walk_at "kd"))
  | ((with_reducible refine' SPD.isBool ?rdE ?rdK); (case rdE => walk_at "kd"))
  | ((with_reducible refine' SPD.isStr ?rdE ?rdK); (case rdE => walk_at "kd"))
  | ((with_reducible refine' SPD.isInt ?rdE ?rdK); (case rdE => walk_at "kd"))
  | dsimp only)
local macro_rules | `(tactic| walk_at "rds") => `(tactic| repeat walk_at "rd")
local macro_rules | `(tactic| walk_at "sm") => `(tactic| first | assumption | exact Same.refl _ | exact RD.sm_tr (by assumption) (by walk_at "sm") | fail "no")
local macro_rules | `(tactic| walk_at "kb") => `(tactic| first | assumption | exact RD.KB.refl | exact RD.kb_tr (by assumption) (by walk_at "kb") | exact RD.kb_trs (by assumption) (by walk_at "kb") | fail "no")
local macro_rules | `(tactic| walk_at "fr") => `(tactic| first | assumption | exact RD.fr_of (by assumption) (by walk_at "sm") | fail "no")
local macro_rules | `(tactic| walk_at "hk") => `(tactic| first | assumption | exact hand_same (by assumption) (by walk_at "hk") | exact hand_kb (by assumption) (by walk_at "fr") (by walk_at "hk") | fail "no")
local macro_rules | `(tactic| walk_at "na") => `(tactic| first | assumption | exact hand_ne (by assumption) (by walk_at "hk") | fail "no")
local macro_rules | `(tactic| walk_at "dqa") => `(tactic| first | exact SPD.DqA.nil | exact SPD.DqA.cons (by walk_at "dq") (by walk_at "dqa") | exact SPD.DqA.app (by walk_at "dqa") (by walk_at "dqa") | fail "no")
local macro_rules | `(tactic| walk_at "dq") => `(tactic| first | assumption | exact SPD.Dq.leaf rfl | exact SPD.dq_kb (by assumption) (by walk_at "kb") | exact SPD.dqTup (by walk_at "hp") (by walk_at "na") (by walk_at "dqa") | exact SPD.dqLst (by walk_at "hp") (by walk_at "na") (by walk_at "dqa") | exact SPD.dqNil (by walk_at "hp") (by walk_at "na") (by first | decide | simp) (by first | decide | simp) | fail "no")

/-! ### odd things -/
def spNested : Sp := fun vs H Q _ => ∃ a : Addr, vs = [.ref a] ∧ HandOk H a ∧ ∀ v H', RD.KB a H H' → HandOk H' a → SPD.Dq a H' 26 v → Q v H'
def spOdd : Sp := fun vs H Q _ => ∃ a : Addr, vs = [.ref a] ∧ HandOk H a ∧ ∀ v H', RD.KB a H H' → HandOk H' a → SPD.Dq a H' 26 v → Q v H'
theorem spAny.dq {K : PySem.W.Frag} {a p : Addr} {zs : List V} {n : Nat} {H : Hp} {Q : VK} {E : XK} (h : HandOk H a) (hp : H p = some (.lst zs)) (ne : p ≠ a) (hz : SPD.DqA a H n zs) (h0 : Nat.ble 1 zs.length = true) (h1 : Nat.ble zs.length 1000 = true)
    (q : ∀ v H', RD.KB a H H' → HandOk H' a → SPD.Dq a H' n v → Q v H') : spAny K ([.ref a, .ref p] ++ []) H Q E :=
  spAny.mk h (.lst ne (.inl (.inl hp))) (Nat.le_of_ble_eq_true h0) (Nat.lt_of_le_of_lt (Nat.le_of_ble_eq_true h1) (by decide)) fun v H' hm k hh => q v H' k hh ((hz.mem v hm).kb k)
section
variable {P : Program} {w : World} {K : PySem.W.Frag} {mg : Str → Option Value} {base : Heap}
theorem ok_nested (T : Txt P K mg) : FnOk P w K mg base CX0 3 T.a_nested T.fd_nested ["_law_hand_here"] spNested := by
  have nd := sc_nested.nd
  have G_any : FnOk P w K mg base CX0 2 T.a_any T.fd_any ["_law_hand_here", "_law_items"] (spAny K) := ok_any T
  refine T.F_nested.ok sc_nested (fun vs H Q E h => ?_) (fun cdv A outer s H vs Q E hr h => ?_)
  · obtain ⟨a, rfl, _⟩ := h
    rfl
  · obtain ⟨a, rfl, hh, q⟩ := h
    refine ⟨_, (pss_cons (ps_set (i := 1) nd rfl (by first | exact Or.inl rfl | exact Or.inr rfl) (pe_call G_any hr (by rfl) T.g_any T.F_any.kp T.b_any .nil pass0 (pa_cons (pv 0) (pa_cons (pe_lst (pa_cons (pe_tup pa_nil) (pa_cons pe_int (pa_cons pe_str (pa_cons pe_non pa_nil))))) pa_nil))))
  (pss_cons (ps_for PassesOwn.never rfl (pi_range1 (by rfl) T.m_range (pa_cons pe_int pa_nil)) (pg_name (i := 2) nd rfl (by first | exact Or.inl rfl | exact Or.inr rfl))
    (pss_one (ps_set (i := 1) nd rfl (by first | exact Or.inl rfl | exact Or.inr rfl) (pe_ifExp (pt_cmpR op_eq (pe_op op_mod (pe_callTy call_int1 (by rfl) T.m_int (by decide +kernel) (pa_cons (pv 2) pa_nil)) pe_int) pe_int (nomark _)) (pe_lst (pa_cons (pv 1) pa_nil)) (pe_tup (pa_cons (pv 1) pa_nil))))))
  (pss_one (ps_ret (pv 1))))), ?_⟩
    walk_at "rds"
    refine spAny.dq (E := E0) (n := 1) (by walk_at "hk") (by walk_at "hp") (by walk_at "na") (by walk_at "dqa") rfl rfl fun v H1 hk1 hh1 hd => ?_
    walk_at "rds"
    refine RD.forW (walk_range (lo := 0) (n := Int.toNat 24)) (fun i σ H' => ∃ v x2, σ = [some (.ref a), some v, x2] ∧ RD.KB a H H' ∧ HandOk H' a ∧ SPD.Dq a H' (i + 1) v) ⟨v, none, rfl, by walk_at "kb", hh1, hd⟩ (fun _ _ _ _ _ => trivial) (fun i x σ H2 H3 hi hp hy => ?_) (fun σ H2 hp => ?_)
    · obtain ⟨v2, x2, rfl, hk2, hh2, hd2⟩ := hp
      obtain ⟨rfl, rfl⟩ := hy
      walk_at "rds"
      refine RD.ite_d (fun _ => ?_) (fun _ => ?_)
      · walk_at "rds"
        exact ⟨_, _, rfl, by walk_at "kb", by walk_at "hk", SPD.dqLst (by walk_at "hp") (by walk_at "na") (.cons (by walk_at "dq") .nil)⟩
      · walk_at "rds"
        exact ⟨_, _, rfl, by walk_at "kb", by walk_at "hk", SPD.dqTup (by walk_at "hp") (by walk_at "na") (.cons (by walk_at "dq") .nil)⟩
    · obtain ⟨v2, x2, rfl, hk2, hh2, hd2⟩ := hp
      walk_at "rds"
      exact q _ _ hk2 hh2 (hd2.mono _ (by decide))
theorem ok_odd (T : Txt P K mg) : FnOk P w K mg base CX0 4 T.a_odd T.fd_odd ["_law_hand_here"] spOdd := by
  have nd := sc_odd.nd
  have G_any : FnOk P w K mg base CX0 3 T.a_any T.fd_any ["_law_hand_here", "_law_items"] (spAny K) := (ok_any T).mono (by decide)
  have G_nested : FnOk P w K mg base CX0 3 T.a_nested T.fd_nested ["_law_hand_here"] spNested := ok_nested T
  refine T.F_odd.ok sc_odd (fun vs H Q E h => ?_) (fun cdv A outer s H vs Q E hr h => ?_)
  · obtain ⟨a, rfl, _⟩ := h
    rfl
  · obtain ⟨a, rfl, hh, q⟩ := h
    refine ⟨_, (pss_cons (ps_set (i := 1) nd rfl (by first | exact Or.inl rfl | exact Or.inr rfl) (pe_lst (pa_cons pe_non (pa_cons pe_bl (pa_cons pe_bl (pa_cons (pe_un un_neg pe_int) (pa_cons pe_int (pa_cons pe_int (pa_cons pe_str (pa_cons pe_str (pa_cons pe_str (pa_cons pe_str (pa_cons pe_str (pa_cons pe_str (pa_cons (pe_tup pa_nil) (pa_cons (pe_tup (pa_cons pe_str pa_nil)) (pa_cons (pe_lst pa_nil) (pa_cons (pe_lst (pa_cons pe_str pa_nil)) (pa_cons pe_dnewK (pa_cons (pe_disp (pps_cons pe_str pe_int pps_nil) (by rfl) (by rfl) (fun z => by cases z) (by decide)) (pa_cons (pe_op op_pow pe_int pe_int) pa_nil)))))))))))))))))))))
  (pss_cons (ps_set (i := 1) nd rfl (by first | exact Or.inl rfl | exact Or.inr rfl) (pe_op op_cat (pv 1) (pe_lst (pa_cons (pe_un un_neg (pe_op op_pow pe_int pe_int)) (pa_cons (pe_tup (pa_cons pe_int (pa_cons pe_int pa_nil))) (pa_cons (pe_tup (pa_cons pe_bl (pa_cons pe_int pa_nil))) (pa_cons (pe_lst (pa_cons pe_int (pa_cons pe_int pa_nil))) (pa_cons (pe_tup (pa_cons pe_int pa_nil)) (pa_cons (pe_tup (pa_cons pe_int (pa_cons pe_str pa_nil))) (pa_cons pe_str (pa_cons pe_str (pa_cons pe_int pa_nil))))))))))))
  (pss_one (ps_ret (pe_call G_any hr (by rfl) T.g_any T.F_any.kp T.b_any .nil pass0 (pa_cons (pv 0) (pa_cons (pe_op op_cat (pv 1) (pe_lst (pa_cons (pe_call G_nested hr (by rfl) T.g_nested T.F_nested.kp T.b_nested .nil pass0 (pa_cons (pv 0) pa_nil)) pa_nil))) pa_nil))))))), ?_⟩
    walk_at "rds"
    refine ⟨a, rfl, by walk_at "hk", fun v1 H1 hk1 hh1 hd1 => ?_⟩
    walk_at "rds"
    refine spAny.dq (E := E0) (n := 26) (by walk_at "hk") (by walk_at "hp") (by walk_at "na") (by walk_at "dqa") rfl rfl fun v H2 hk2 hh2 hd => ?_
    exact q _ _ (by walk_at "kb") hh2 hd
end


end K00

namespace K00
open PySem PySem.Spec PyProof.Rows L2
local macro_rules | `(tactic| walk_at "kd") => `(tactic| first | assumption | exact SPD.KdOf.int _ | exact SPD.KdOf.str _ | exact SPD.KdOf.bl _ | exact SPD.KdOf.non | exact SPD.KdOf.same (by assumption) (by walk_at "kd") | exact SPD.KdOf.tup (by walk_at "hp") | exact SPD.KdOf.lst (by walk_at "hp") | fail "no")
local macro_rules | `(tactic| walk_at "ne") => `(tactic| first | assumption | exact Ne.symm (by assumption) | fail "no")
local macro_rules | `(tactic| walk_at "hp") => `(tactic| first | assumption | exact RD.at_same (by assumption) (by walk_at "hp") | exact RD.at_kb (by assumption) (by walk_at "ne") (by walk_at "hp") | fail "no")
local macro_rules | `(tactic| walk_at "sq") => `(tactic| first | assumption | exact Or.inl (Or.inl (by walk_at "hp")) | exact Same.seq (by assumption) (by walk_at "sq") | exact RD.KB.seq (by assumption) (by walk_at "ne") (by walk_at "sq") | fail "no")
local macro_rules | `(tactic| walk_at "st") => `(tactic| first | assumption | exact Or.inl (Or.inl (by walk_at "hp")) | exact RD.Same.tup (by assumption) (by walk_at "st") | exact RD.KB.tup (by assumption) (by walk_at "ne") (by walk_at "st") | fail "no")
local macro_rules | `(tactic| walk_at "rd") => `(tactic| first
  | with_reducible refine RD.c ?_
  | ((with_reducible refine' RD.var ?rdE ?rdK); (case rdE => exact rfl))
  | with_reducible refine RD.op ?_
  | with_reducible refine RD.un ?_
  | with_reducible refine RD.nil ?_
  | with_reducible refine RD.cons ?_
  | with_reducible refine RD.cb ?_
  | with_reducible refine RD.call ?_
  | with_reducible refine RD.test ?_
  | with_reducible refine RD.tb' ?_
  | with_reducible refine RD.bl ?_
  | with_reducible refine RD.and' ?_
  | with_reducible refine RD.or' ?_
  | with_reducible refine RD.not' ?_
  | with_reducible refine RD.andV ?_
  | with_reducible refine RD.orV ?_
  | with_reducible refine RD.notV ?_
  | with_reducible refine RD.ife ?_
  | with_reducible refine RD.sl ?_
  | with_reducible refine RD.part ?_
  | with_reducible refine RD.noPart ?_
  | with_reducible refine RD.partI ?_
  | with_reducible refine RD.rd0 ?_
  | with_reducible refine RD.rdU ?_
  | ((with_reducible refine' RD.rdEq ?rdE ?rdK); (case rdE => rfl))
  | ((with_reducible refine' RD.rdNe ?rdE ?rdK); (case rdE => rfl))
  | ((with_reducible refine' RD.ixL ?rdH ?rdE ?rdK); (case rdH => walk_at "sq"); (case rdE => first | rfl | assumption))
  | ((with_reducible refine' RD.rdI ?rdC ?rdK); (case rdC => first | assumption | (show (0 : Int) < _; first | decide | omega) | exact ⟨by decide, by decide⟩ | exact ⟨by assumption, by assumption⟩ | exact .inr ⟨by decide, by decide⟩ | exact .inl ⟨by decide, by decide⟩ | exact ⟨by decide, by decide, by decide⟩ | exact .inl ⟨by omega, by omega⟩))
  | ((with_reducible refine' RD.setL ?rdH ?rdE ?rdK); (case rdH => walk_at "hp"); (case rdE => rfl); intro $(Lean.mkIdent `H'):ident $(Lean.mkIdent `hk):ident $(Lean.mkIdent `hv):ident)
  | ((with_reducible refine' RD.irng1V ?rdA ?rdB ?rdK); (case rdA => first | decide | omega); (case rdB => first | decide | omega))
  | with_reducible refine RD.int1 ?_
  | with_reducible refine RD.abs1 ?_
  | ((with_reducible refine' RD.len ?rdH ?rdK); (case rdH => first | exact Or.inl (by walk_at "sq") | exact Or.inr (by walk_at "st")))
  | with_reducible refine RD.tup ?_
  | with_reducible refine RD.lst ?_
  | with_reducible refine RD.ite1 ?_
  | with_reducible refine RD.ite0 ?_
  | with_reducible refine RD.ite1n ?_
  | with_reducible refine RD.ite0n ?_
  | with_reducible refine RD.seq ?_
  | with_reducible refine RD.asg ?_
  | with_reducible refine RD.name ?_
  | with_reducible refine RD.ret ?_
  | with_reducible refine RD.drop ?_
  | with_reducible refine RD.next ?_
  | with_reducible refine RD.ifs ?_
  | with_reducible refine RD.par ?_
  | with_reducible refine RD.par2 ?_
  | with_reducible refine RD.sub ?_
  | with_reducible refine RD.gcons ?_
  | with_reducible refine RD.gnil ?_
  | with_reducible refine RD.bm ?_
  | ((with_reducible refine' RD.bmL ?rdH ?rdK); (case rdH => walk_at "sq"))
  | ((with_reducible refine' RD.newZ ?rdH ?rdK); (case rdH => exact RD.sz _); intro $(Lean.mkIdent `p'):ident $(Lean.mkIdent `H'):ident $(Lean.mkIdent `hp):ident $(Lean.mkIdent `hs):ident $(Lean.mkIdent `hv):ident; (try have $(Lean.mkIdent `hn):ident := hand_ne $(Lean.mkIdent `hp):ident (by walk_at "hk")))
  | with_reducible refine RD.fors ?_
  | with_reducible refine RD.lc ?_
  | with_reducible refine RD.yes ?_
  | with_reducible refine RD.ilist ?_
  | ((with_reducible refine' RD.ilistV ?rdH ?rdK); (case rdH => walk_at "sq"))
  | with_reducible refine RD.itup ?_
  | ((with_reducible refine' RD.itupV ?rdH ?rdK); (case rdH => walk_at "st"))
  | with_reducible refine RD.irng1 ?_
  | with_reducible refine RD.irng2 ?_
  | ((with_reducible refine' RD.irng2V ?rdA ?rdK); (case rdA => first | decide | omega))
  | with_reducible refine RD.ienum ?_
  | ((with_reducible refine' RD.ienumV ?rdH ?rdK); (case rdH => walk_at "sq"))
  | with_reducible refine RD.izip ?_
  | ((with_reducible refine' RD.izipV ?rdH ?rdE ?rdK); (case rdH => walk_at "sq"); (case rdE => walk_at "sq"))
  | with_reducible refine SPD.izipA ?_
  | with_reducible refine RD.istr ?_
  | with_reducible refine RD.istrV ?_
  | ((with_reducible refine' RD.slL ?rdH ?rdK); (case rdH => walk_at "sq"); intro $(Lean.mkIdent `p'):ident $(Lean.mkIdent `H'):ident $(Lean.mkIdent `hp):ident $(Lean.mkIdent `hs):ident $(Lean.mkIdent `hv):ident; (try have $(Lean.mkIdent `hn):ident := hand_ne $(Lean.mkIdent `hp):ident (by walk_at "hk")))
  | ((with_reducible refine' RD.cat ?rdH ?rdE ?rdZ ?rdK); (case rdH => walk_at "hp"); (case rdE => walk_at "hp"); (case rdZ => exact RD.sz _); intro $(Lean.mkIdent `p'):ident $(Lean.mkIdent `H'):ident $(Lean.mkIdent `hp):ident $(Lean.mkIdent `hs):ident $(Lean.mkIdent `hv):ident; (try have $(Lean.mkIdent `hn):ident := hand_ne $(Lean.mkIdent `hp):ident (by walk_at "hk")))
  | ((with_reducible refine' RD.gtup ?rdH ?rdE ?rdK); (case rdH => walk_at "st"); (case rdE => rfl))
  | ((with_reducible refine' RD.app ?rdH ?rdZ ?rdK); (case rdH => walk_at "hp"); (case rdZ => first | assumption | (apply RD.szl; omega)); intro $(Lean.mkIdent `H'):ident $(Lean.mkIdent `hk):ident $(Lean.mkIdent `hv):ident)
  | ((with_reducible refine' RD.all1 ?rdH ?rdK); (case rdH => walk_at "sq"))
  | ((with_reducible refine' RD.any1 ?rdH ?rdK); (case rdH => walk_at "sq"))
  | ((with_reducible refine' SPD.dnew ?rdK); intro $(Lean.mkIdent `p'):ident $(Lean.mkIdent `H'):ident $(Lean.mkIdent `hp):ident $(Lean.mkIdent `hs):ident $(Lean.mkIdent `hv):ident; (try have $(Lean.mkIdent `hn):ident := hand_ne $(Lean.mkIdent `hp):ident (by walk_at "hk")))
  | ((with_reducible refine' SPD.disp1 ?rdK); intro $(Lean.mkIdent `p'):ident $(Lean.mkIdent `H'):ident $(Lean.mkIdent `hp):ident $(Lean.mkIdent `hs):ident $(Lean.mkIdent `hv):ident; (try have $(Lean.mkIdent `hn):ident := hand_ne $(Lean.mkIdent `hp):ident (by walk_at "hk")))
  | ((with_reducible refine' SPD.isSeq ?rdH ?rdE ?rdK); (case rdH => walk_at "hp"); (case rdE => walk_at "kd"))
  | ((with_reducible refine' SPD.isTup ?rdE ?rdK); (case rdE => walk_at "kd"))
  | ((with_reducible refine' SPD.isLst ?rdE ?rdK); (case rdE => walk_at "kd"))
  | ((with_reducible refine' SPD.isBool ?rdE ?rdK); (case rdE => walk_at "kd"))
  | ((with_reducible refine' SPD.isStr ?rdE ?rdK); (case rdE => walk_at "kd"))
  | ((with_reducible refine' SPD.isInt ?rdE ?rdK); (case rdE => walk_at "kd"))
  | dsimp only)
local macro_rules | `(tactic| walk_at "rds") => `(tactic| repeat walk_at "rd")
local macro_rules | `(tactic| walk_at "sm") => `(tactic| first | assumption | exact Same.refl _ | exact RD.sm_tr (by assumption) (by walk_at "sm") | fail "no")
local macro_rules | `(tactic| walk_at "kb") => `(tactic| first | assumption | exact RD.KB.refl | exact RD.kb_tr (by assumption) (by walk_at "kb") | exact RD.kb_trs (by assumption) (by walk_at "kb") | fail "no")
local macro_rules | `(tactic| walk_at "fr") => `(tactic| first | assumption | exact RD.fr_of (by assumption) (by walk_at "sm") | fail "no")
local macro_rules | `(tactic| walk_at "hk") => `(tactic| first | assumption | exact hand_same (by assumption) (by walk_at "hk") | exact hand_kb (by assumption) (by walk_at "fr") (by walk_at "hk") | fail "no")
local macro_rules | `(tactic| walk_at "na") => `(tactic| first | assumption | exact hand_ne (by assumption) (by walk_at "hk") | fail "no")
local macro_rules | `(tactic| walk_at "dqa") => `(tactic| first | exact SPD.DqA.nil | exact SPD.DqA.cons (by walk_at "dq") (by walk_at "dqa") | exact SPD.DqA.app (by walk_at "dqa") (by walk_at "dqa") | fail "no")
local macro_rules | `(tactic| walk_at "dq") => `(tactic| first | assumption | exact SPD.Dq.leaf rfl | exact SPD.dq_kb (by assumption) (by walk_at "kb") | exact SPD.dqTup (by walk_at "hp") (by walk_at "na") (by walk_at "dqa") | exact SPD.dqLst (by walk_at "hp") (by walk_at "na") (by walk_at "dqa") | exact SPD.dqNil (by walk_at "hp") (by walk_at "na") (by first | decide | simp) (by first | decide | simp) | fail "no")

local macro_rules | `(tactic| walk_at "ex") => `(tactic| first | assumption | exact SPX.ExA.same (by assumption) (by walk_at "ex") | fail "no")
local macro_rules | `(tactic| walk_at "xf") => `(tactic| first | assumption | exact SPX.ExF.same (by assumption) (by walk_at "xf") | fail "no")
local macro_rules | `(tactic| walk_at "rx") => `(tactic| first
  | walk_at "rd"
  | with_reducible refine SPX.mkV ?_
  | with_reducible refine SPX.xo ?_
  | ((with_reducible refine' SPX.xoF ?rdH ?rdI ?rdN ?rdK); (case rdH => walk_at "xf"); (case rdI => assumption); (case rdN => assumption))
  | ((with_reducible refine' SPX.mkF ?rdK); intro $(Lean.mkIdent `p'):ident $(Lean.mkIdent `H'):ident $(Lean.mkIdent `hp):ident $(Lean.mkIdent `hs):ident $(Lean.mkIdent `hv):ident)
  | ((with_reducible refine' SPX.exo0R ?rdK); intro $(Lean.mkIdent `p'):ident $(Lean.mkIdent `H'):ident $(Lean.mkIdent `hp):ident $(Lean.mkIdent `hs):ident $(Lean.mkIdent `hv):ident))
local macro_rules | `(tactic| walk_at "rxs") => `(tactic| repeat walk_at "rx")
/-! ### the thirty exceptions -/
section
variable {P : Program} {w : World} {K : PySem.W.Frag} {mg : Str → Option Value} {base : Heap}
def exC (T : Txt P K mg) : List Addr := [T.C_BadBook, T.C_NoStriking, T.C_TooMany, T.C_BadMachine, T.C_Gone, T.C_BadText, T.C_NoLog, T.C_NoStrike, T.C_NoPlace, T.C_NoPiece, T.C_NoNumber, T.C_NoPrices, T.C_NotEnough, T.C_Enough, T.C_NoWeights, T.C_NoLetter, T.C_NoFraction, T.C_NoText, T.C_NotAlike, T.C_NotOwn, T.C_NotClosed, T.C_NoTexts, T.C_NoIndex, T.C_NotLet, T.C_NoFlag, T.C_NoEntry, T.C_NoReader, T.C_ReaderThere, T.C_NothingDone, T.C_NoValues]
structure Kit (T : Txt P K mg) : Prop where
  all : ((List.range 30).all fun i => (List.range 30).all fun j => PySem.W.kitOne K (.ref ((exC T).getD i 0)) (.ref ((exC T).getD j 0)) == some (i == j)) = true
  up : ((exC T).all fun D => PySem.W.kitOne K (.ref D) (.ref T.C_LogError) == some true && PySem.W.kitOne K (.ref D) (.type "ValueError") == some true) = true
  root : ((List.range 30).all fun i => PySem.W.kitOne K (.ref T.C_LogError) (.ref ((exC T).getD i 0)) == some false) = true
  rootV : PySem.W.kitOne K (.ref T.C_LogError) (.type "ValueError") = some true
theorem Kit.at {T : Txt P K mg} (X : Kit T) {i j : Nat} (hi : i < 30) (hj : j < 30) : PySem.W.kitOne K (.ref ((exC T).getD i 0)) (.ref ((exC T).getD j 0)) = some (i == j) := by
  have h := List.all_eq_true.mp (List.all_eq_true.mp X.all i (List.mem_range.mpr hi)) j (List.mem_range.mpr hj)
  exact eq_of_beq h
theorem Kit.at0 {T : Txt P K mg} (X : Kit T) {j : Nat} (hj : j < 30) : PySem.W.kitOne K (.ref T.C_LogError) (.ref ((exC T).getD j 0)) = some false := by
  have h := List.all_eq_true.mp X.root j (List.mem_range.mpr hj)
  exact eq_of_beq h
theorem Kit.log {T : Txt P K mg} (X : Kit T) {D : Addr} (h : D ∈ exC T) : PySem.W.kitOne K (.ref D) (.ref T.C_LogError) = some true ∧ PySem.W.kitOne K (.ref D) (.type "ValueError") = some true := by
  have h := List.all_eq_true.mp X.up D h
  rw [Bool.and_eq_true] at h
  exact ⟨eq_of_beq h.1, eq_of_beq h.2⟩
/-- which of the thirty -/
def spClasses (T : Txt P K mg) : Sp := fun vs H Q _ => ∃ (a D : Addr) (bs : Nat → Bool), vs = [.ref a] ∧ SPX.ExA K H a D ∧ (∀ j, j < 30 → PySem.W.kitOne K (.ref D) (.ref ((exC T).getD j 0)) = some (bs j)) ∧
  ∀ p H', H p = none → Same H H' → H' p = some (.lst (((List.range 30).filter bs).map fun i => .int (i : Nat))) → Q (.ref p) H'
theorem filt (bs : Nat → Bool) : ∀ n, (List.range n).filterMap (fun i => if bs i = true then some (V.int (i : Nat)) else none) = ((List.range n).filter bs).map fun i => .int (i : Nat)
  | 0 => rfl
  | n + 1 => by
    rw [List.range_succ, List.filterMap_append, List.filter_append, List.map_append, filt bs n]
    cases e : bs n <;> simp [e]
theorem rmap {f : Nat → V} {n i : Nat} {y : V} (h : ((List.range n).map f)[i]? = some y) : f i = y := by
  rw [List.getElem?_map] at h
  obtain ⟨m, hm, rfl⟩ := Option.map_eq_some_iff.mp h
  obtain ⟨hl, e⟩ := List.getElem?_eq_some_iff.mp hm
  rw [List.getElem_range] at e
  rw [e]
theorem rlen {f : Nat → V} {n m : Nat} (h : n ≤ m) : ((List.range n).map f).length ≤ m := by rw [List.length_map, List.length_range]; exact h
theorem ok_classes (T : Txt P K mg) : FnOk P w K mg base CX0 1 T.a_classes T.fd_classes ["_law_e"] (spClasses T) := by
  have nd := sc_classes.nd
  refine T.F_classes.ok sc_classes (fun vs H Q E h => ?_) (fun cdv A outer s H vs Q E hr h => ?_)
  · obtain ⟨a, D, bs, rfl, _⟩ := h
    rfl
  · obtain ⟨a, D, bs, rfl, he, hb, q⟩ := h
    refine ⟨_, (pss_cons (ps_set (i := 1) nd rfl (by first | exact Or.inl rfl | exact Or.inr rfl) (pe_lst (pa_cons (pe_callB SPX.call_isO (by rfl) T.m_isinstance (by decide +kernel) (pa_cons (pv 0) (pa_cons (pe_glob (v := .ref T.C_BadBook) (by rfl) T.g_BadBook rfl) pa_nil))) (pa_cons (pe_callB SPX.call_isO (by rfl) T.m_isinstance (by decide +kernel) (pa_cons (pv 0) (pa_cons (pe_glob (v := .ref T.C_NoStriking) (by rfl) T.g_NoStriking rfl) pa_nil))) (pa_cons (pe_callB SPX.call_isO (by rfl) T.m_isinstance (by decide +kernel) (pa_cons (pv 0) (pa_cons (pe_glob (v := .ref T.C_TooMany) (by rfl) T.g_TooMany rfl) pa_nil))) (pa_cons (pe_callB SPX.call_isO (by rfl) T.m_isinstance (by decide +kernel) (pa_cons (pv 0) (pa_cons (pe_glob (v := .ref T.C_BadMachine) (by rfl) T.g_BadMachine rfl) pa_nil))) pa_nil))))))
  (pss_cons (ps_set (i := 1) nd rfl (by first | exact Or.inl rfl | exact Or.inr rfl) (pe_op op_cat (pv 1) (pe_lst (pa_cons (pe_callB SPX.call_isO (by rfl) T.m_isinstance (by decide +kernel) (pa_cons (pv 0) (pa_cons (pe_glob (v := .ref T.C_Gone) (by rfl) T.g_Gone rfl) pa_nil))) (pa_cons (pe_callB SPX.call_isO (by rfl) T.m_isinstance (by decide +kernel) (pa_cons (pv 0) (pa_cons (pe_glob (v := .ref T.C_BadText) (by rfl) T.g_BadText rfl) pa_nil))) (pa_cons (pe_callB SPX.call_isO (by rfl) T.m_isinstance (by decide +kernel) (pa_cons (pv 0) (pa_cons (pe_glob (v := .ref T.C_NoLog) (by rfl) T.g_NoLog rfl) pa_nil))) (pa_cons (pe_callB SPX.call_isO (by rfl) T.m_isinstance (by decide +kernel) (pa_cons (pv 0) (pa_cons (pe_glob (v := .ref T.C_NoStrike) (by rfl) T.g_NoStrike rfl) pa_nil))) pa_nil)))))))
  (pss_cons (ps_set (i := 1) nd rfl (by first | exact Or.inl rfl | exact Or.inr rfl) (pe_op op_cat (pv 1) (pe_lst (pa_cons (pe_callB SPX.call_isO (by rfl) T.m_isinstance (by decide +kernel) (pa_cons (pv 0) (pa_cons (pe_glob (v := .ref T.C_NoPlace) (by rfl) T.g_NoPlace rfl) pa_nil))) (pa_cons (pe_callB SPX.call_isO (by rfl) T.m_isinstance (by decide +kernel) (pa_cons (pv 0) (pa_cons (pe_glob (v := .ref T.C_NoPiece) (by rfl) T.g_NoPiece rfl) pa_nil))) (pa_cons (pe_callB SPX.call_isO (by rfl) T.m_isinstance (by decide +kernel) (pa_cons (pv 0) (pa_cons (pe_glob (v := .ref T.C_NoNumber) (by rfl) T.g_NoNumber rfl) pa_nil))) (pa_cons (pe_callB SPX.call_isO (by rfl) T.m_isinstance (by decide +kernel) (pa_cons (pv 0) (pa_cons (pe_glob (v := .ref T.C_NoPrices) (by rfl) T.g_NoPrices rfl) pa_nil))) pa_nil)))))))
  (pss_cons (ps_set (i := 1) nd rfl (by first | exact Or.inl rfl | exact Or.inr rfl) (pe_op op_cat (pv 1) (pe_lst (pa_cons (pe_callB SPX.call_isO (by rfl) T.m_isinstance (by decide +kernel) (pa_cons (pv 0) (pa_cons (pe_glob (v := .ref T.C_NotEnough) (by rfl) T.g_NotEnough rfl) pa_nil))) (pa_cons (pe_callB SPX.call_isO (by rfl) T.m_isinstance (by decide +kernel) (pa_cons (pv 0) (pa_cons (pe_glob (v := .ref T.C_Enough) (by rfl) T.g_Enough rfl) pa_nil))) (pa_cons (pe_callB SPX.call_isO (by rfl) T.m_isinstance (by decide +kernel) (pa_cons (pv 0) (pa_cons (pe_glob (v := .ref T.C_NoWeights) (by rfl) T.g_NoWeights rfl) pa_nil))) pa_nil))))))
  (pss_cons (ps_set (i := 1) nd rfl (by first | exact Or.inl rfl | exact Or.inr rfl) (pe_op op_cat (pv 1) (pe_lst (pa_cons (pe_callB SPX.call_isO (by rfl) T.m_isinstance (by decide +kernel) (pa_cons (pv 0) (pa_cons (pe_glob (v := .ref T.C_NoLetter) (by rfl) T.g_NoLetter rfl) pa_nil))) (pa_cons (pe_callB SPX.call_isO (by rfl) T.m_isinstance (by decide +kernel) (pa_cons (pv 0) (pa_cons (pe_glob (v := .ref T.C_NoFraction) (by rfl) T.g_NoFraction rfl) pa_nil))) (pa_cons (pe_callB SPX.call_isO (by rfl) T.m_isinstance (by decide +kernel) (pa_cons (pv 0) (pa_cons (pe_glob (v := .ref T.C_NoText) (by rfl) T.g_NoText rfl) pa_nil))) pa_nil))))))
  (pss_cons (ps_set (i := 1) nd rfl (by first | exact Or.inl rfl | exact Or.inr rfl) (pe_op op_cat (pv 1) (pe_lst (pa_cons (pe_callB SPX.call_isO (by rfl) T.m_isinstance (by decide +kernel) (pa_cons (pv 0) (pa_cons (pe_glob (v := .ref T.C_NotAlike) (by rfl) T.g_NotAlike rfl) pa_nil))) (pa_cons (pe_callB SPX.call_isO (by rfl) T.m_isinstance (by decide +kernel) (pa_cons (pv 0) (pa_cons (pe_glob (v := .ref T.C_NotOwn) (by rfl) T.g_NotOwn rfl) pa_nil))) (pa_cons (pe_callB SPX.call_isO (by rfl) T.m_isinstance (by decide +kernel) (pa_cons (pv 0) (pa_cons (pe_glob (v := .ref T.C_NotClosed) (by rfl) T.g_NotClosed rfl) pa_nil))) pa_nil))))))
  (pss_cons (ps_set (i := 1) nd rfl (by first | exact Or.inl rfl | exact Or.inr rfl) (pe_op op_cat (pv 1) (pe_lst (pa_cons (pe_callB SPX.call_isO (by rfl) T.m_isinstance (by decide +kernel) (pa_cons (pv 0) (pa_cons (pe_glob (v := .ref T.C_NoTexts) (by rfl) T.g_NoTexts rfl) pa_nil))) (pa_cons (pe_callB SPX.call_isO (by rfl) T.m_isinstance (by decide +kernel) (pa_cons (pv 0) (pa_cons (pe_glob (v := .ref T.C_NoIndex) (by rfl) T.g_NoIndex rfl) pa_nil))) (pa_cons (pe_callB SPX.call_isO (by rfl) T.m_isinstance (by decide +kernel) (pa_cons (pv 0) (pa_cons (pe_glob (v := .ref T.C_NotLet) (by rfl) T.g_NotLet rfl) pa_nil))) (pa_cons (pe_callB SPX.call_isO (by rfl) T.m_isinstance (by decide +kernel) (pa_cons (pv 0) (pa_cons (pe_glob (v := .ref T.C_NoFlag) (by rfl) T.g_NoFlag rfl) pa_nil))) pa_nil)))))))
  (pss_cons (ps_set (i := 1) nd rfl (by first | exact Or.inl rfl | exact Or.inr rfl) (pe_op op_cat (pv 1) (pe_lst (pa_cons (pe_callB SPX.call_isO (by rfl) T.m_isinstance (by decide +kernel) (pa_cons (pv 0) (pa_cons (pe_glob (v := .ref T.C_NoEntry) (by rfl) T.g_NoEntry rfl) pa_nil))) (pa_cons (pe_callB SPX.call_isO (by rfl) T.m_isinstance (by decide +kernel) (pa_cons (pv 0) (pa_cons (pe_glob (v := .ref T.C_NoReader) (by rfl) T.g_NoReader rfl) pa_nil))) (pa_cons (pe_callB SPX.call_isO (by rfl) T.m_isinstance (by decide +kernel) (pa_cons (pv 0) (pa_cons (pe_glob (v := .ref T.C_ReaderThere) (by rfl) T.g_ReaderThere rfl) pa_nil))) pa_nil))))))
  (pss_cons (ps_set (i := 1) nd rfl (by first | exact Or.inl rfl | exact Or.inr rfl) (pe_op op_cat (pv 1) (pe_lst (pa_cons (pe_callB SPX.call_isO (by rfl) T.m_isinstance (by decide +kernel) (pa_cons (pv 0) (pa_cons (pe_glob (v := .ref T.C_NothingDone) (by rfl) T.g_NothingDone rfl) pa_nil))) (pa_cons (pe_callB SPX.call_isO (by rfl) T.m_isinstance (by decide +kernel) (pa_cons (pv 0) (pa_cons (pe_glob (v := .ref T.C_NoValues) (by rfl) T.g_NoValues rfl) pa_nil))) pa_nil)))))
  (pss_one (ps_ret (pe_lc (own := [("_law_at", 2), ("_law_flag", 3)]) (g := (gTup K 2 (gCons (gName 2) (gCons (gName 3) gNil)))) rfl nd (pi_enum (by rfl) T.m_enumerate (pa_cons (pv 1) pa_nil)) (blkOk_by (own := [("_law_at", 2), ("_law_flag", 3)]) (N := N_classes) (sc := defScope s_classes) (by decide +kernel)) (fun _ _ _ _ _ => (pg_tup rfl (pgs_cons (pg_name (i := 2) nd rfl (Or.inl rfl)) (pgs_cons (pg_name (i := 3) nd rfl (Or.inl rfl)) pgs_nil)))) (fun _ _ _ _ _ => (pts_one (pt_val (pv 3)))) (fun _ _ _ _ _ => (pv 2)))))))))))))), ?_⟩
    walk_at "rds"
    refine SPX.isO (by walk_at "ex") (.own _) (hb 0 (by decide)) ?_
    walk_at "rds"
    refine SPX.isO (by walk_at "ex") (.own _) (hb 1 (by decide)) ?_
    walk_at "rds"
    refine SPX.isO (by walk_at "ex") (.own _) (hb 2 (by decide)) ?_
    walk_at "rds"
    refine SPX.isO (by walk_at "ex") (.own _) (hb 3 (by decide)) ?_
    walk_at "rds"
    refine SPX.isO (by walk_at "ex") (.own _) (hb 4 (by decide)) ?_
    walk_at "rds"
    refine SPX.isO (by walk_at "ex") (.own _) (hb 5 (by decide)) ?_
    walk_at "rds"
    refine SPX.isO (by walk_at "ex") (.own _) (hb 6 (by decide)) ?_
    walk_at "rds"
    refine SPX.isO (by walk_at "ex") (.own _) (hb 7 (by decide)) ?_
    walk_at "rds"
    refine SPX.isO (by walk_at "ex") (.own _) (hb 8 (by decide)) ?_
    walk_at "rds"
    refine SPX.isO (by walk_at "ex") (.own _) (hb 9 (by decide)) ?_
    walk_at "rds"
    refine SPX.isO (by walk_at "ex") (.own _) (hb 10 (by decide)) ?_
    walk_at "rds"
    refine SPX.isO (by walk_at "ex") (.own _) (hb 11 (by decide)) ?_
    walk_at "rds"
    refine SPX.isO (by walk_at "ex") (.own _) (hb 12 (by decide)) ?_
    walk_at "rds"
    refine SPX.isO (by walk_at "ex") (.own _) (hb 13 (by decide)) ?_
    walk_at "rds"
    refine SPX.isO (by walk_at "ex") (.own _) (hb 14 (by decide)) ?_
    walk_at "rds"
    refine SPX.isO (by walk_at "ex") (.own _) (hb 15 (by decide)) ?_
    walk_at "rds"
    refine SPX.isO (by walk_at "ex") (.own _) (hb 16 (by decide)) ?_
    walk_at "rds"
    refine SPX.isO (by walk_at "ex") (.own _) (hb 17 (by decide)) ?_
    walk_at "rds"
    refine SPX.isO (by walk_at "ex") (.own _) (hb 18 (by decide)) ?_
    walk_at "rds"
    refine SPX.isO (by walk_at "ex") (.own _) (hb 19 (by decide)) ?_
    walk_at "rds"
    refine SPX.isO (by walk_at "ex") (.own _) (hb 20 (by decide)) ?_
    walk_at "rds"
    refine SPX.isO (by walk_at "ex") (.own _) (hb 21 (by decide)) ?_
    walk_at "rds"
    refine SPX.isO (by walk_at "ex") (.own _) (hb 22 (by decide)) ?_
    walk_at "rds"
    refine SPX.isO (by walk_at "ex") (.own _) (hb 23 (by decide)) ?_
    walk_at "rds"
    refine SPX.isO (by walk_at "ex") (.own _) (hb 24 (by decide)) ?_
    walk_at "rds"
    refine SPX.isO (by walk_at "ex") (.own _) (hb 25 (by decide)) ?_
    walk_at "rds"
    refine SPX.isO (by walk_at "ex") (.own _) (hb 26 (by decide)) ?_
    walk_at "rds"
    refine SPX.isO (by walk_at "ex") (.own _) (hb 27 (by decide)) ?_
    walk_at "rds"
    refine SPX.isO (by walk_at "ex") (.own _) (hb 28 (by decide)) ?_
    walk_at "rds"
    refine SPX.isO (by walk_at "ex") (.own _) (hb 29 (by decide)) ?_
    walk_at "rds"
    refine RD.lcP (RD.w_enum (xs := (List.range 30).map fun i => V.bl (bs i))) (rlen (by decide)) (fun i => if bs i = true then some (.int (i : Nat)) else none) (fun H' s => by walk_at "sq") (fun i D1 x y H' Z N hi hx hy s hD1 hZ hN => ?_) (fun D H' hD s hv2 => ?_)
    · obtain rfl : V.int (i : Nat) = x := Option.some.inj hx
      have e : V.bl (bs i) = y := rmap (f := fun i => V.bl (bs i)) (n := 30) hy
      clear hy hi hx
      subst e
      walk_at "rds"
      refine ⟨rfl, ?_⟩
      walk_at "rds"
      refine RD.ite_b (fun e => ?_) (fun e => ?_)
      · walk_at "rds"
        exact hZ _ _ (by rw [if_pos e]) (Same.refl _)
      · exact hN _ (by rw [if_neg (by rw [e]; decide)]) (Same.refl _)
    · rw [List.length_map, List.length_range, filt bs 30] at hv2
      walk_at "rds"
      exact q _ _ (by walk_at "fr") (by walk_at "sm") hv2
/-- refs to exceptions, each of its class -/
inductive ExL (K : PySem.W.Frag) (H : Hp) : List V → List Addr → Prop
  | nil : ExL K H [] []
  | cons {a D : Addr} {vs : List V} {Ds : List Addr} : SPX.ExA K H a D → ExL K H vs Ds → ExL K H (.ref a :: vs) (D :: Ds)
theorem ExL.at {K : PySem.W.Frag} {H : Hp} {vs : List V} {Ds : List Addr} (h : ExL K H vs Ds) : ∀ {i : Nat} {v : V}, vs[i]? = some v → ∃ a D, v = .ref a ∧ Ds[i]? = some D ∧ SPX.ExA K H a D := by
  induction h with
  | nil => intro i v e; cases i <;> cases e
  | cons h t ih =>
    intro i v e
    cases i with
    | zero => cases e; exact ⟨_, _, rfl, rfl, h⟩
    | succ i => exact ih e
theorem ExL.length {K : PySem.W.Frag} {H : Hp} {vs : List V} {Ds : List Addr} (h : ExL K H vs Ds) : vs.length = Ds.length := by
  induction h with
  | nil => rfl
  | cons h t ih => rw [List.length_cons, List.length_cons, ih]
theorem exA0 {K : PySem.W.Frag} {H : Hp} {a D : Addr} (h : H a = some (exo a D none)) (e : ExcC K D) : SPX.ExA K H a D := ⟨none, h, (fun _ z => nomatch z), e⟩
local macro_rules | `(tactic| walk_at "exl") => `(tactic| first | exact ExL.nil | exact ExL.cons (by first | exact SPX.ExF.exA (by walk_at "xf") (by assumption) | exact exA0 (by walk_at "hp") (by assumption)) (by walk_at "exl") | fail "no")
def spErrors (T : Txt P K mg) : Sp := fun vs H Q _ => ∃ v : V, vs = [v] ∧ ∀ p m k es H', Same H H' → H' p = some (.tup [.ref m, .ref k]) → H' m = some (.lst es) → ExL K H' es (exC T) → H' k = some (.lst [v, v, v, v, v, v]) → Q (.ref p) H'
theorem ok_errors (T : Txt P K mg) : FnOk P w K mg base CX0 3 T.a_errors T.fd_errors ["_law_thing"] (spErrors T) := by
  have nd := sc_errors.nd
  have G_BadBook_init : FnOk P w K mg base CX0 1 T.a_BadBook_init T.fd_BadBook_init _ (SPX.spSi T.C_BadBook _) := SPX.si_ok T.S_BadBook_init
  have G_NoStriking_init : FnOk P w K mg base CX0 1 T.a_NoStriking_init T.fd_NoStriking_init _ (SPX.spSi T.C_NoStriking _) := SPX.si_ok T.S_NoStriking_init
  have G_TooMany_init : FnOk P w K mg base CX0 1 T.a_TooMany_init T.fd_TooMany_init _ (SPX.spSi T.C_TooMany _) := SPX.si_ok T.S_TooMany_init
  have G_BadMachine_init : FnOk P w K mg base CX0 1 T.a_BadMachine_init T.fd_BadMachine_init _ (SPX.spSi T.C_BadMachine _) := SPX.si_ok T.S_BadMachine_init
  have G_Gone_init : FnOk P w K mg base CX0 1 T.a_Gone_init T.fd_Gone_init _ (SPX.spSi T.C_Gone _) := SPX.si_ok T.S_Gone_init
  have G_BadText_init : FnOk P w K mg base CX0 1 T.a_BadText_init T.fd_BadText_init _ (SPX.spSi T.C_BadText _) := SPX.si_ok T.S_BadText_init
  refine T.F_errors.ok sc_errors (fun vs H Q E h => ?_) (fun cdv A outer s H vs Q E hr h => ?_)
  · obtain ⟨v, rfl, _⟩ := h
    rfl
  · obtain ⟨v, rfl, q⟩ := h
    have i_BadBook := T.ic_BadBook
    have i_NoStriking := T.ic_NoStriking
    have i_TooMany := T.ic_TooMany
    have i_BadMachine := T.ic_BadMachine
    have i_Gone := T.ic_Gone
    have i_BadText := T.ic_BadText
    have i_NoLog := T.ic_NoLog
    have i_NoStrike := T.ic_NoStrike
    have i_NoPlace := T.ic_NoPlace
    have i_NoPiece := T.ic_NoPiece
    have i_NoNumber := T.ic_NoNumber
    have i_NoPrices := T.ic_NoPrices
    have i_NotEnough := T.ic_NotEnough
    have i_Enough := T.ic_Enough
    have i_NoWeights := T.ic_NoWeights
    have i_NoLetter := T.ic_NoLetter
    have i_NoFraction := T.ic_NoFraction
    have i_NoText := T.ic_NoText
    have i_NotAlike := T.ic_NotAlike
    have i_NotOwn := T.ic_NotOwn
    have i_NotClosed := T.ic_NotClosed
    have i_NoTexts := T.ic_NoTexts
    have i_NoIndex := T.ic_NoIndex
    have i_NotLet := T.ic_NotLet
    have i_NoFlag := T.ic_NoFlag
    have i_NoEntry := T.ic_NoEntry
    have i_NoReader := T.ic_NoReader
    have i_ReaderThere := T.ic_ReaderThere
    have i_NothingDone := T.ic_NothingDone
    have i_NoValues := T.ic_NoValues
    have f_BadBook := T.fi_BadBook
    have f_NoStriking := T.fi_NoStriking
    have f_TooMany := T.fi_TooMany
    have f_BadMachine := T.fi_BadMachine
    have f_Gone := T.fi_Gone
    have f_BadText := T.fi_BadText
    refine ⟨_, (pss_cons (ps_set (i := 1) nd rfl (by first | exact Or.inl rfl | exact Or.inr rfl) (pe_lst (pa_cons (SPX.pe_mkV T.xc_BadBook T.ii_BadBook T.ti_BadBook G_BadBook_init hr T.b_BadBook_init .nil pass0 (by rfl) T.g_BadBook (pa_cons (pv 0) pa_nil)) (pa_cons (SPX.pe_mkV T.xc_NoStriking T.ii_NoStriking T.ti_NoStriking G_NoStriking_init hr T.b_NoStriking_init .nil pass0 (by rfl) T.g_NoStriking (pa_cons (pv 0) pa_nil)) (pa_cons (SPX.pe_mkV T.xc_TooMany T.ii_TooMany T.ti_TooMany G_TooMany_init hr T.b_TooMany_init .nil pass0 (by rfl) T.g_TooMany (pa_cons (pv 0) pa_nil)) (pa_cons (SPX.pe_mkV T.xc_BadMachine T.ii_BadMachine T.ti_BadMachine G_BadMachine_init hr T.b_BadMachine_init .nil pass0 (by rfl) T.g_BadMachine (pa_cons (pv 0) pa_nil)) (pa_cons (SPX.pe_mkV T.xc_Gone T.ii_Gone T.ti_Gone G_Gone_init hr T.b_Gone_init .nil pass0 (by rfl) T.g_Gone (pa_cons (pv 0) pa_nil)) (pa_cons (SPX.pe_mkV T.xc_BadText T.ii_BadText T.ti_BadText G_BadText_init hr T.b_BadText_init .nil pass0 (by rfl) T.g_BadText (pa_cons (pv 0) pa_nil)) pa_nil))))))))
  (pss_cons (ps_set (i := 2) nd rfl (by first | exact Or.inl rfl | exact Or.inr rfl) (pe_lst (pa_cons (SPX.pe_xo (pe_ix ix_list (pv 1) pe_int (fun _ _ => rfl))) (pa_cons (SPX.pe_xo (pe_ix ix_list (pv 1) pe_int (fun _ _ => rfl))) (pa_cons (SPX.pe_xo (pe_ix ix_list (pv 1) pe_int (fun _ _ => rfl))) (pa_cons (SPX.pe_xo (pe_ix ix_list (pv 1) pe_int (fun _ _ => rfl))) (pa_cons (SPX.pe_xo (pe_ix ix_list (pv 1) pe_int (fun _ _ => rfl))) (pa_cons (SPX.pe_xo (pe_ix ix_list (pv 1) pe_int (fun _ _ => rfl))) pa_nil))))))))
  (pss_cons (ps_set (i := 1) nd rfl (by first | exact Or.inl rfl | exact Or.inr rfl) (pe_op op_cat (pv 1) (pe_lst (pa_cons (SPX.pe_exo0 T.k_NoLog T.g_NoLog T.kp_NoLog (by rfl)) (pa_cons (SPX.pe_exo0 T.k_NoStrike T.g_NoStrike T.kp_NoStrike (by rfl)) (pa_cons (SPX.pe_exo0 T.k_NoPlace T.g_NoPlace T.kp_NoPlace (by rfl)) (pa_cons (SPX.pe_exo0 T.k_NoPiece T.g_NoPiece T.kp_NoPiece (by rfl)) (pa_cons (SPX.pe_exo0 T.k_NoNumber T.g_NoNumber T.kp_NoNumber (by rfl)) (pa_cons (SPX.pe_exo0 T.k_NoPrices T.g_NoPrices T.kp_NoPrices (by rfl)) (pa_cons (SPX.pe_exo0 T.k_NotEnough T.g_NotEnough T.kp_NotEnough (by rfl)) (pa_cons (SPX.pe_exo0 T.k_Enough T.g_Enough T.kp_Enough (by rfl)) pa_nil)))))))))))
  (pss_cons (ps_set (i := 1) nd rfl (by first | exact Or.inl rfl | exact Or.inr rfl) (pe_op op_cat (pv 1) (pe_lst (pa_cons (SPX.pe_exo0 T.k_NoWeights T.g_NoWeights T.kp_NoWeights (by rfl)) (pa_cons (SPX.pe_exo0 T.k_NoLetter T.g_NoLetter T.kp_NoLetter (by rfl)) (pa_cons (SPX.pe_exo0 T.k_NoFraction T.g_NoFraction T.kp_NoFraction (by rfl)) (pa_cons (SPX.pe_exo0 T.k_NoText T.g_NoText T.kp_NoText (by rfl)) (pa_cons (SPX.pe_exo0 T.k_NotAlike T.g_NotAlike T.kp_NotAlike (by rfl)) (pa_cons (SPX.pe_exo0 T.k_NotOwn T.g_NotOwn T.kp_NotOwn (by rfl)) (pa_cons (SPX.pe_exo0 T.k_NotClosed T.g_NotClosed T.kp_NotClosed (by rfl)) (pa_cons (SPX.pe_exo0 T.k_NoTexts T.g_NoTexts T.kp_NoTexts (by rfl)) pa_nil)))))))))))
  (pss_cons (ps_set (i := 1) nd rfl (by first | exact Or.inl rfl | exact Or.inr rfl) (pe_op op_cat (pv 1) (pe_lst (pa_cons (SPX.pe_exo0 T.k_NoIndex T.g_NoIndex T.kp_NoIndex (by rfl)) (pa_cons (SPX.pe_exo0 T.k_NotLet T.g_NotLet T.kp_NotLet (by rfl)) (pa_cons (SPX.pe_exo0 T.k_NoFlag T.g_NoFlag T.kp_NoFlag (by rfl)) (pa_cons (SPX.pe_exo0 T.k_NoEntry T.g_NoEntry T.kp_NoEntry (by rfl)) (pa_cons (SPX.pe_exo0 T.k_NoReader T.g_NoReader T.kp_NoReader (by rfl)) (pa_cons (SPX.pe_exo0 T.k_ReaderThere T.g_ReaderThere T.kp_ReaderThere (by rfl)) (pa_cons (SPX.pe_exo0 T.k_NothingDone T.g_NothingDone T.kp_NothingDone (by rfl)) (pa_cons (SPX.pe_exo0 T.k_NoValues T.g_NoValues T.kp_NoValues (by rfl)) pa_nil)))))))))))
  (pss_one (ps_ret (pe_tup (pa_cons (pv 1) (pa_cons (pv 2) pa_nil)))))))))), ?_⟩
    walk_at "rxs"
    refine q _ _ _ _ _ (by walk_at "sm") (by walk_at "hp") (by walk_at "hp") ?_ (by walk_at "hp")
    walk_at "exl"
end

end K00

namespace K00
open PySem PySem.Spec PyProof.Rows L2
local macro_rules | `(tactic| walk_at "kd") => `(tactic| first | assumption | exact SPD.KdOf.int _ | exact SPD.KdOf.str _ | exact SPD.KdOf.bl _ | exact SPD.KdOf.non | exact SPD.KdOf.same (by assumption) (by walk_at "kd") | exact SPD.KdOf.tup (by walk_at "hp") | exact SPD.KdOf.lst (by walk_at "hp") | fail "no")
local macro_rules | `(tactic| walk_at "ne") => `(tactic| first | assumption | exact Ne.symm (by assumption) | fail "no")
local macro_rules | `(tactic| walk_at "hp") => `(tactic| first | assumption | exact RD.at_same (by assumption) (by walk_at "hp") | exact RD.at_kb (by assumption) (by walk_at "ne") (by walk_at "hp") | fail "no")
local macro_rules | `(tactic| walk_at "sq") => `(tactic| first | assumption | exact Or.inl (Or.inl (by walk_at "hp")) | exact Same.seq (by assumption) (by walk_at "sq") | exact RD.KB.seq (by assumption) (by walk_at "ne") (by walk_at "sq") | fail "no")
local macro_rules | `(tactic| walk_at "st") => `(tactic| first | assumption | exact Or.inl (Or.inl (by walk_at "hp")) | exact RD.Same.tup (by assumption) (by walk_at "st") | exact RD.KB.tup (by assumption) (by walk_at "ne") (by walk_at "st") | fail "no")
local macro_rules | `(tactic| walk_at "rd") => `(tactic| first
  | with_reducible refine RD.c ?_
  | ((with_reducible refine' RD.var ?rdE ?rdK); (case rdE => exact rfl))
  | with_reducible refine RD.op ?_
  | with_reducible refine RD.un ?_
  | with_reducible refine RD.nil ?_
  | with_reducible refine RD.cons ?_
  | with_reducible refine RD.cb ?_
  | with_reducible refine RD.call ?_
  | with_reducible refine RD.test ?_
  | with_reducible refine RD.tb' ?_
  | with_reducible refine RD.bl ?_
  | with_reducible refine RD.and' ?_
  | with_reducible refine RD.or' ?_
  | with_reducible refine RD.not' ?_
  | with_reducible refine RD.andV ?_
  | with_reducible refine RD.orV ?_
  | with_reducible refine RD.notV ?_
  | with_reducible refine RD.ife ?_
  | with_reducible refine RD.sl ?_
  | with_reducible refine RD.part ?_
  | with_reducible refine RD.noPart ?_
  | with_reducible refine RD.partI ?_
  | with_reducible refine RD.rd0 ?_
  | with_reducible refine RD.rdU ?_
  | ((with_reducible refine' RD.rdEq ?rdE ?rdK); (case rdE => rfl))
  | ((with_reducible refine' RD.rdNe ?rdE ?rdK); (case rdE => rfl))
  | ((with_reducible refine' RD.ixL ?rdH ?rdE ?rdK); (case rdH => walk_at "sq"); (case rdE => first | rfl | assumption))
  | ((with_reducible refine' RD.rdI ?rdC ?rdK); (case rdC => first | assumption | (show (0 : Int) < _; first | decide | omega) | exact ⟨by decide, by decide⟩ | exact ⟨by assumption, by assumption⟩ | exact .inr ⟨by decide, by decide⟩ | exact .inl ⟨by decide, by decide⟩ | exact ⟨by decide, by decide, by decide⟩ | exact .inl ⟨by omega, by omega⟩))
  | ((with_reducible refine' RD.setL ?rdH ?rdE ?rdK); (case rdH => walk_at "hp"); (case rdE => rfl); intro $(Lean.mkIdent `H'):ident $(Lean.mkIdent `hk):ident $(Lean.mkIdent `hv):ident)
  | ((with_reducible refine' RD.irng1V ?rdA ?rdB ?rdK); (case rdA => first | decide | omega); (case rdB => first | decide | omega))
  | with_reducible refine RD.int1 ?_
  | with_reducible refine RD.abs1 ?_
  | ((with_reducible refine' RD.len ?rdH ?rdK); (case rdH => first | exact Or.inl (by walk_at "sq") | exact Or.inr (by walk_at "st")))
  | with_reducible refine RD.tup ?_
  | with_reducible refine RD.lst ?_
  | with_reducible refine RD.ite1 ?_
  | with_reducible refine RD.ite0 ?_
  | with_reducible refine RD.ite1n ?_
  | with_reducible refine RD.ite0n ?_
  | with_reducible refine RD.seq ?_
  | with_reducible refine RD.asg ?_
  | with_reducible refine RD.name ?_
  | with_reducible refine RD.ret ?_
  | with_reducible refine RD.drop ?_
  | with_reducible refine RD.next ?_
  | with_reducible refine RD.ifs ?_
  | with_reducible refine RD.par ?_
  | with_reducible refine RD.par2 ?_
  | with_reducible refine RD.sub ?_
  | with_reducible refine RD.gcons ?_
  | with_reducible refine RD.gnil ?_
  | with_reducible refine RD.bm ?_
  | ((with_reducible refine' RD.bmL ?rdH ?rdK); (case rdH => walk_at "sq"))
  | ((with_reducible refine' RD.newZ ?rdH ?rdK); (case rdH => exact RD.sz _); intro $(Lean.mkIdent `p'):ident $(Lean.mkIdent `H'):ident $(Lean.mkIdent `hp):ident $(Lean.mkIdent `hs):ident $(Lean.mkIdent `hv):ident; (try have $(Lean.mkIdent `hn):ident := hand_ne $(Lean.mkIdent `hp):ident (by walk_at "hk")))
  | with_reducible refine RD.fors ?_
  | with_reducible refine RD.lc ?_
  | with_reducible refine RD.yes ?_
  | with_reducible refine RD.ilist ?_
  | ((with_reducible refine' RD.ilistV ?rdH ?rdK); (case rdH => walk_at "sq"))
  | with_reducible refine RD.itup ?_
  | ((with_reducible refine' RD.itupV ?rdH ?rdK); (case rdH => walk_at "st"))
  | with_reducible refine RD.irng1 ?_
  | with_reducible refine RD.irng2 ?_
  | ((with_reducible refine' RD.irng2V ?rdA ?rdK); (case rdA => first | decide | omega))
  | with_reducible refine RD.ienum ?_
  | ((with_reducible refine' RD.ienumV ?rdH ?rdK); (case rdH => walk_at "sq"))
  | with_reducible refine RD.izip ?_
  | ((with_reducible refine' RD.izipV ?rdH ?rdE ?rdK); (case rdH => walk_at "sq"); (case rdE => walk_at "sq"))
  | with_reducible refine SPD.izipA ?_
  | with_reducible refine RD.istr ?_
  | with_reducible refine RD.istrV ?_
  | ((with_reducible refine' RD.slL ?rdH ?rdK); (case rdH => walk_at "sq"); intro $(Lean.mkIdent `p'):ident $(Lean.mkIdent `H'):ident $(Lean.mkIdent `hp):ident $(Lean.mkIdent `hs):ident $(Lean.mkIdent `hv):ident; (try have $(Lean.mkIdent `hn):ident := hand_ne $(Lean.mkIdent `hp):ident (by walk_at "hk")))
  | ((with_reducible refine' RD.cat ?rdH ?rdE ?rdZ ?rdK); (case rdH => walk_at "hp"); (case rdE => walk_at "hp"); (case rdZ => exact RD.sz _); intro $(Lean.mkIdent `p'):ident $(Lean.mkIdent `H'):ident $(Lean.mkIdent `hp):ident $(Lean.mkIdent `hs):ident $(Lean.mkIdent `hv):ident; (try have $(Lean.mkIdent `hn):ident := hand_ne $(Lean.mkIdent `hp):ident (by walk_at "hk")))
  | ((with_reducible refine' RD.gtup ?rdH ?rdE ?rdK); (case rdH => walk_at "st"); (case rdE => rfl))
  | ((with_reducible refine' RD.app ?rdH ?rdZ ?rdK); (case rdH => walk_at "hp"); (case rdZ => first | assumption | (apply RD.szl; omega)); intro $(Lean.mkIdent `H'):ident $(Lean.mkIdent `hk):ident $(Lean.mkIdent `hv):ident)
  | ((with_reducible refine' RD.all1 ?rdH ?rdK); (case rdH => walk_at "sq"))
  | ((with_reducible refine' RD.any1 ?rdH ?rdK); (case rdH => walk_at "sq"))
  | ((with_reducible refine' SPD.dnew ?rdK); intro $(Lean.mkIdent `p'):ident $(Lean.mkIdent `H'):ident $(Lean.mkIdent `hp):ident $(Lean.mkIdent `hs):ident $(Lean.mkIdent `hv):ident; (try have $(Lean.mkIdent `hn):ident := hand_ne $(Lean.mkIdent `hp):ident (by walk_at "hk")))
  | ((with_reducible refine' SPD.disp1 ?rdK); intro $(Lean.mkIdent `p'):ident $(Lean.mkIdent `H'):ident $(Lean.mkIdent `hp):ident $(Lean.mkIdent `hs):ident $(Lean.mkIdent `hv):ident; (try have $(Lean.mkIdent `hn):ident := hand_ne $(Lean.mkIdent `hp):ident (by walk_at "hk")))
  | ((with_reducible refine' SPD.isSeq ?rdH ?rdE ?rdK); (case rdH => walk_at "hp"); (case rdE => walk_at "kd"))
  | ((with_reducible refine' SPD.isTup ?rdE ?rdK); (case rdE => walk_at "kd"))
  | ((with_reducible refine' SPD.isLst ?rdE ?rdK); (case rdE => walk_at "kd"))
  | ((with_reducible refine' SPD.isBool ?rdE ?rdK); (case rdE => walk_at "kd"))
  | ((with_reducible refine' SPD.isStr ?rdE ?rdK); (case rdE => walk_at "kd"))
  | ((with_reducible refine' SPD.isInt ?rdE ?rdK); (case rdE => walk_at "kd"))
  | dsimp only)
local macro_rules | `(tactic| walk_at "rds") => `(tactic| repeat walk_at "rd")
local macro_rules | `(tactic| walk_at "sm") => `(tactic| first | assumption | exact Same.refl _ | exact RD.sm_tr (by assumption) (by walk_at "sm") | fail "no")
local macro_rules | `(tactic| walk_at "kb") => `(tactic| first | assumption | exact RD.KB.refl | exact RD.kb_tr (by assumption) (by walk_at "kb") | exact RD.kb_trs (by assumption) (by walk_at "kb") | fail "no")
local macro_rules | `(tactic| walk_at "fr") => `(tactic| first | assumption | exact RD.fr_of (by assumption) (by walk_at "sm") | fail "no")
local macro_rules | `(tactic| walk_at "hk") => `(tactic| first | assumption | exact hand_same (by assumption) (by walk_at "hk") | exact hand_kb (by assumption) (by walk_at "fr") (by walk_at "hk") | fail "no")
local macro_rules | `(tactic| walk_at "na") => `(tactic| first | assumption | exact hand_ne (by assumption) (by walk_at "hk") | fail "no")
local macro_rules | `(tactic| walk_at "dqa") => `(tactic| first | exact SPD.DqA.nil | exact SPD.DqA.cons (by walk_at "dq") (by walk_at "dqa") | exact SPD.DqA.app (by walk_at "dqa") (by walk_at "dqa") | fail "no")
local macro_rules | `(tactic| walk_at "dq") => `(tactic| first | assumption | exact SPD.Dq.leaf rfl | exact SPD.dq_kb (by assumption) (by walk_at "kb") | exact SPD.dqTup (by walk_at "hp") (by walk_at "na") (by walk_at "dqa") | exact SPD.dqLst (by walk_at "hp") (by walk_at "na") (by walk_at "dqa") | exact SPD.dqNil (by walk_at "hp") (by walk_at "na") (by first | decide | simp) (by first | decide | simp) | fail "no")

local macro_rules | `(tactic| walk_at "ex") => `(tactic| first | assumption | exact SPX.ExA.same (by assumption) (by walk_at "ex") | fail "no")
local macro_rules | `(tactic| walk_at "rx") => `(tactic| first
  | walk_at "rd"
  | ((with_reducible refine' SPX.exo0R ?rdK); intro $(Lean.mkIdent `p'):ident $(Lean.mkIdent `H'):ident $(Lean.mkIdent `hp):ident $(Lean.mkIdent `hs):ident $(Lean.mkIdent `hv):ident))
local macro_rules | `(tactic| walk_at "rxs") => `(tactic| repeat walk_at "rx")
section
variable {P : Program} {w : World} {K : PySem.W.Frag} {mg : Str → Option Value} {base : Heap}
def spLaw (K : PySem.W.Frag) : Sp := fun vs H Q _ => ∃ (a : Addr) (ns : List Int), vs = [.ref a] ∧ SqL K H a (ns.map V.int) ∧ ns.length ≤ 63 ∧ ∀ H', Q (.bl true) H'
theorem one_at : ∀ i, i < 30 → (List.range 30).filter (fun j => i == j) = [i] := by decide
theorem none_at : (List.range 30).filter (fun _ => false) = [] := by decide
theorem Kit.cls {T : Txt P K mg} (X : Kit T) {i : Nat} {D : Addr} (hi : i < 30) (hD : (exC T)[i]? = some D) : ∀ j, j < 30 → PySem.W.kitOne K (.ref D) (.ref ((exC T).getD j 0)) = some (i == j) := by
  intro j hj
  have e : (exC T).getD i 0 = D := by rw [List.getD_eq_getElem?_getD, hD]; rfl
  rw [← e]
  exact X.at hi hj
theorem sixs {v x : V} {i : Nat} (h : [v, v, v, v, v, v][i]? = some x) : x = v := by
  have := List.mem_of_getElem? h
  simp at this
  exact this
theorem eq1 (i : Int) : PyData.eqv (.list [.int i]) (.list [.int i]) = true := by simp [PyData.eqv, PyData.eqvAll]
theorem ExL.same {K : PySem.W.Frag} {H H' : Hp} (s : Same H H') {vs : List V} {Ds : List Addr} (h : ExL K H vs Ds) : ExL K H' vs Ds := by
  induction h with
  | nil => exact .nil
  | cons h t ih => exact .cons (h.same s) ih
theorem ok_law (T : Txt P K mg) (X : Kit T) : FnOk P w K mg base CX0 28 T.a_law T.fd_law ["_law_script"] (spLaw K) := by
  have nd := sc_law.nd
  have G_hand : FnOk P w K mg base CX0 27 T.a_hand T.fd_hand ["_law_script"] (spHand K) := (ok_hand T).mono (by decide)
  have G_odd : FnOk P w K mg base CX0 27 T.a_odd T.fd_odd ["_law_hand_here"] spOdd := (ok_odd T).mono (by decide)
  have G_errors : FnOk P w K mg base CX0 27 T.a_errors T.fd_errors ["_law_thing"] (spErrors T) := (ok_errors T).mono (by decide)
  have G_classes : FnOk P w K mg base CX0 27 T.a_classes T.fd_classes ["_law_e"] (spClasses T) := (ok_classes T).mono (by decide)
  have G_is : FnOk P w K mg base CX0 27 T.a_is T.fd_is ["_law_told", "_law_due"] (spIs K 26) := ok_is T 26
  have iLog := T.ic_LogError
  refine T.F_law.ok sc_law (fun vs H Q E h => ?_) (fun cdv A outer s H vs Q E hr h => ?_)
  · obtain ⟨a, ns, rfl, _⟩ := h
    rfl
  · obtain ⟨a, ns, rfl, hS, hl, q⟩ := h
    refine ⟨_, (pss_cons (ps_set (i := 1) nd rfl (by first | exact Or.inl rfl | exact Or.inr rfl) (pe_call G_hand hr (by rfl) T.g_hand T.F_hand.kp T.b_hand .nil pass0 (pa_cons (pv 0) pa_nil)))
  (pss_cons (ps_set (i := 2) nd rfl (by first | exact Or.inl rfl | exact Or.inr rfl) (pe_call G_odd hr (by rfl) T.g_odd T.F_odd.kp T.b_odd .nil pass0 (pa_cons (pv 1) pa_nil)))
  (pss_cons (ps_asg (pe_call G_errors hr (by rfl) T.g_errors T.F_errors.kp T.b_errors .nil pass0 (pa_cons (pv 2) pa_nil)) (pg_tup rfl (pgs_cons (pg_name (i := 3) nd rfl (by first | exact Or.inl rfl | exact Or.inr rfl)) (pgs_cons (pg_name (i := 4) nd rfl (by first | exact Or.inl rfl | exact Or.inr rfl)) pgs_nil))))
  (pss_cons (ps_if (pt_not (pt_val (pe_callB (cr_all rfl) (by rfl) T.m_all (by decide +kernel) (pa_cons (pe_lc (own := [("_law_one", 7)]) (g := (gName 7)) rfl nd (pi_list (pv 4)) (blkOk_by (own := [("_law_one", 7)]) (N := N_law) (sc := defScope s_law) (by decide +kernel)) (fun _ _ _ _ _ => (pg_name (i := 7) nd rfl (Or.inl rfl))) (fun _ _ _ _ _ => pts_nil) (fun _ _ _ _ _ => (pe_call G_is hr (by rfl) T.g_is T.F_is.kp T.b_is .nil pass0 (pa_cons (pv 7) (pa_cons (pv 2) pa_nil))))) pa_nil))))
    (pss_one (ps_ret pe_bl))
    pss_nil)
  (pss_cons (ps_for PassesOwn.never rfl (pi_enum (by rfl) T.m_enumerate (pa_cons (pv 3) pa_nil)) (pg_tup rfl (pgs_cons (pg_name (i := 5) nd rfl (by first | exact Or.inl rfl | exact Or.inr rfl)) (pgs_cons (pg_name (i := 6) nd rfl (by first | exact Or.inl rfl | exact Or.inr rfl)) pgs_nil)))
    (pss_one (ps_if (PW.pt (pw_or (pt_cmpR (op_neD hr.units) (pe_call G_classes hr (by rfl) T.g_classes T.F_classes.kp T.b_classes .nil pass0 (pa_cons (pv 6) pa_nil)) (pe_lst (pa_cons (pv 5) pa_nil)) (nomark _)) (pw_or (pt_not (pt_val (pe_callB SPX.call_isO (by rfl) T.m_isinstance (by decide +kernel) (pa_cons (pv 6) (pa_cons (pe_glob (v := .ref T.C_LogError) (by rfl) T.g_LogError rfl) pa_nil))))) (pw_or1 (pt_not (pt_val (pe_callB SPX.call_isO (by rfl) T.m_isinstance (by decide +kernel) (pa_cons (pv 6) (pa_cons (pe_bltn (v := .ty "ValueError") (by rfl) T.m_ValueError (by decide +kernel) rfl) pa_nil)))))))))
    (pss_one (ps_ret pe_bl))
    pss_nil)))
  (pss_one (ps_ret (pe_and (pe_cmpR (op_eqD hr.units) (pe_call G_classes hr (by rfl) T.g_classes T.F_classes.kp T.b_classes .nil pass0 (pa_cons (SPX.pe_exo0 T.k_LogError T.g_LogError T.kp_LogError (by rfl)) pa_nil)) (pe_lst pa_nil) (nomark _)) (pe_one (pe_callB SPX.call_isO (by rfl) T.m_isinstance (by decide +kernel) (pa_cons (SPX.pe_exo0 T.k_LogError T.g_LogError T.kp_LogError (by rfl)) (pa_cons (pe_bltn (v := .ty "ValueError") (by rfl) T.m_ValueError (by decide +kernel) rfl) pa_nil)))))))))))), ?_⟩
    walk_at "rxs"
    refine ⟨a, ns, rfl, hS, hl, fun h H1 s1 hf hh => ?_⟩
    walk_at "rxs"
    refine ⟨h, rfl, hh, fun v H2 k2 hh2 hd => ?_⟩
    walk_at "rxs"
    refine ⟨v, rfl, fun p m k es H3 s3 hp3 hm3 hx3 hk3 => ?_⟩
    walk_at "rxs"
    have hd3 : SPD.IsB K H3 26 v v true := SPD.IsB.same s3 (SPD.IsB.refl hd)
    refine RD.lcF (walk_list (xs := [v, v, v, v, v, v])) (by show 6 ≤ 16777216; decide) (fun i => some (.bl true)) (fun H' s => by walk_at "sq") (fun i x H' Z N hi hx s hZ hN => ?_) (fun D H' hD s hv2 => ?_)
    · obtain rfl := sixs hx
      walk_at "rxs"
      refine ⟨rfl, ?_⟩
      walk_at "rxs"
      refine spIs.mk (E := E0) (hd3.same s) fun H5 hs5 => ?_
      exact hZ _ _ rfl hs5
    · have hv2 : H' D = some (.lst ((List.replicate 6 true).map V.bl)) := hv2
      walk_at "rxs"
      rw [show (List.replicate 6 true).all id = true from rfl]
      walk_at "rxs"
      have sq : SqL K H' m es := by walk_at "sq"
      have ex : ExL K H' es (exC T) := hx3.same s
      refine RD.forW (RD.w_enum (xs := es)) (fun i σ H4 => ∃ x5 x6 x7, σ = [some (.ref a), some (.ref h), some v, some (.ref m), some (.ref k), x5, x6, x7] ∧ Same H' H4) ⟨_, _, _, rfl, Same.refl _⟩ (fun i σ H4 _ ⟨x5, x6, x7, _, s4⟩ => Same.seq s4 sq) (fun i x σ H4 H5 hi hp hy => ?_) (fun σ H4 hp => ?_)
      · obtain ⟨x5, x6, x7, rfl, s4⟩ := hp
        obtain ⟨T1, x1, y1, rfl, hT, s5, hv5, hx1, hy1⟩ := hy
        obtain rfl : V.int (i : Nat) = x1 := Option.some.inj hx1
        obtain ⟨c, D, rfl, hD, hc⟩ := ex.at hy1
        have hi30 : i < 30 := by
          rw [ex.length] at hi
          exact hi
        have hmem : D ∈ exC T := List.mem_of_getElem? hD
        have hc5 : SPX.ExA K H5 c D := (hc.same s4).same s5
        clear hx1 hy1 hi
        walk_at "rxs"
        refine ⟨c, D, fun j => i == j, rfl, hc5, X.cls hi30 hD, fun p1 H6 hp1 s6 hv6 => ?_⟩
        rw [one_at i hi30] at hv6
        walk_at "rxs"
        refine RD.neD (.lst (.inl (.inl (hs _ _ hv6))) (.cons (.int _) .nil)) (.lst (.inl (.inl hv)) (.cons (.int _) .nil)) rfl rfl ?_
        rw [eq1]
        walk_at "rxs"
        refine SPX.isO (by walk_at "ex") (.own _) (X.log hmem).1 ?_
        walk_at "rxs"
        refine SPX.isO (by walk_at "ex") (.ty _) (X.log hmem).2 ?_
        walk_at "rxs"
        exact ⟨_, _, _, rfl, by walk_at "sm"⟩
      · obtain ⟨x5, x6, x7, rfl, s4⟩ := hp
        walk_at "rxs"
        refine ⟨_, T.C_LogError, fun _ => false, rfl, exA0 hv iLog, fun j hj => X.at0 hj, fun p1 H6 hp1 s6 hv6 => ?_⟩
        rw [none_at] at hv6
        walk_at "rxs"
        refine RD.eqD (.lst (.inl (.inl (hs _ _ hv6))) .nil) (.lst (.inl (.inl hv)) .nil) rfl rfl ?_
        rw [show PyData.eqv (.list []) (.list []) = true by simp [PyData.eqv, PyData.eqvAll]]
        walk_at "rxs"
        refine SPX.isO (exA0 hv iLog) (.ty _) X.rootV ?_
        walk_at "rxs"
        exact q _
end

end K00

namespace K00
open PySem PySem.Spec PyProof.Rows L2
abbrev Pg : Program := (PySem.Challenge.rw_struckpieces_k00_errors_and_their_fields).prog
abbrev Rw : PySem.W.OpenRow := PySem.W.OpenLaw.row PySem.Challenge.rw_struckpieces_k00_errors_and_their_fields
def exN (K : PySem.W.Frag) : List Addr := [He.ga K "BadBook", He.ga K "NoStriking", He.ga K "TooMany", He.ga K "BadMachine", He.ga K "Gone", He.ga K "BadText", He.ga K "NoLog", He.ga K "NoStrike", He.ga K "NoPlace", He.ga K "NoPiece", He.ga K "NoNumber", He.ga K "NoPrices", He.ga K "NotEnough", He.ga K "Enough", He.ga K "NoWeights", He.ga K "NoLetter", He.ga K "NoFraction", He.ga K "NoText", He.ga K "NotAlike", He.ga K "NotOwn", He.ga K "NotClosed", He.ga K "NoTexts", He.ga K "NoIndex", He.ga K "NotLet", He.ga K "NoFlag", He.ga K "NoEntry", He.ga K "NoReader", He.ga K "ReaderThere", He.ga K "NothingDone", He.ga K "NoValues"]
def dfn : List HX.DefS := [⟨("BadBook", some "__init__"), "__init__", "BadBook.__init__", s_BadBook_init⟩,
  ⟨("NoStriking", some "__init__"), "__init__", "NoStriking.__init__", s_NoStriking_init⟩,
  ⟨("TooMany", some "__init__"), "__init__", "TooMany.__init__", s_TooMany_init⟩,
  ⟨("BadMachine", some "__init__"), "__init__", "BadMachine.__init__", s_BadMachine_init⟩,
  ⟨("Gone", some "__init__"), "__init__", "Gone.__init__", s_Gone_init⟩,
  ⟨("BadText", some "__init__"), "__init__", "BadText.__init__", s_BadText_init⟩,
  ⟨("_law_hand", none), "_law_hand", "_law_hand", s_hand⟩,
  ⟨("_law_draw", none), "_law_draw", "_law_draw", s_draw⟩,
  ⟨("_law_any", none), "_law_any", "_law_any", s_any⟩,
  ⟨("_law_is", none), "_law_is", "_law_is", s_is⟩,
  ⟨("_law_nested", none), "_law_nested", "_law_nested", s_nested⟩,
  ⟨("_law_odd", none), "_law_odd", "_law_odd", s_odd⟩,
  ⟨("_law_classes", none), "_law_classes", "_law_classes", s_classes⟩,
  ⟨("_law_errors", none), "_law_errors", "_law_errors", s_errors⟩,
  ⟨("law", none), "law", "law", s_law⟩]
def dck : List (PySem.W.Frag → Bool) := [fun K => HX.plB K ("_law_hand", none) "_law_hand",
  fun K => (He.Fa.glo "_law_hand").ok K,
  fun K => HX.plB K ("_law_draw", none) "_law_draw",
  fun K => (He.Fa.glo "_law_draw").ok K,
  fun K => HX.plB K ("_law_any", none) "_law_any",
  fun K => (He.Fa.glo "_law_any").ok K,
  fun K => HX.plB K ("_law_is", none) "_law_is",
  fun K => (He.Fa.glo "_law_is").ok K,
  fun K => HX.plB K ("_law_nested", none) "_law_nested",
  fun K => (He.Fa.glo "_law_nested").ok K,
  fun K => HX.plB K ("_law_odd", none) "_law_odd",
  fun K => (He.Fa.glo "_law_odd").ok K,
  fun K => HX.plB K ("_law_classes", none) "_law_classes",
  fun K => (He.Fa.glo "_law_classes").ok K,
  fun K => HX.plB K ("_law_errors", none) "_law_errors",
  fun K => (He.Fa.glo "_law_errors").ok K,
  fun K => HX.plB K ("law", none) "law",
  fun K => (He.Fa.glo "law").ok K,
  fun K => (He.Fa.glo "LogError").ok K,
  fun K => HX.oexB K (He.ga K "LogError"),
  fun K => HX.excB K (He.ga K "LogError"),
  fun K => PySem.W.excIn K (He.ga K "LogError") He.veBase "ValueError.__new__",
  fun K => PySem.W.keepIn K (.ref (He.ga K "LogError")),
  fun K => (He.Fa.glo "BadBook").ok K,
  fun K => HX.oexB K (He.ga K "BadBook"),
  fun K => HX.excB K (He.ga K "BadBook"),
  fun K => HX.sicB K (He.ga K "BadBook") "part",
  fun K => HX.spB K ("BadBook", some "__init__") "BadBook.__init__" Pg.main.file (He.ga K "BadBook"),
  fun K => (He.Fa.free "super").ok K,
  fun K => He.eqO (PySem.W.findIn K (.ref (He.ga K "BadBook")) "part") (some none),
  fun K => He.eqO (PySem.W.findIn K (.ref (He.ga K "BadBook")) "__init__") (some (some (.ref (He.ma K (He.ga K "BadBook") "__init__")))),
  fun K => decide (PySem.W.typeIn K (.ref (He.ma K (He.ga K "BadBook") "__init__")) = some (.type "function")),
  fun K => (He.Fa.glo "NoStriking").ok K,
  fun K => HX.oexB K (He.ga K "NoStriking"),
  fun K => HX.excB K (He.ga K "NoStriking"),
  fun K => HX.sicB K (He.ga K "NoStriking") "at",
  fun K => HX.spB K ("NoStriking", some "__init__") "NoStriking.__init__" Pg.main.file (He.ga K "NoStriking"),
  fun K => He.eqO (PySem.W.findIn K (.ref (He.ga K "NoStriking")) "at") (some none),
  fun K => He.eqO (PySem.W.findIn K (.ref (He.ga K "NoStriking")) "__init__") (some (some (.ref (He.ma K (He.ga K "NoStriking") "__init__")))),
  fun K => decide (PySem.W.typeIn K (.ref (He.ma K (He.ga K "NoStriking") "__init__")) = some (.type "function")),
  fun K => (He.Fa.glo "TooMany").ok K,
  fun K => HX.oexB K (He.ga K "TooMany"),
  fun K => HX.excB K (He.ga K "TooMany"),
  fun K => HX.sicB K (He.ga K "TooMany") "most",
  fun K => HX.spB K ("TooMany", some "__init__") "TooMany.__init__" Pg.main.file (He.ga K "TooMany"),
  fun K => He.eqO (PySem.W.findIn K (.ref (He.ga K "TooMany")) "most") (some none),
  fun K => He.eqO (PySem.W.findIn K (.ref (He.ga K "TooMany")) "__init__") (some (some (.ref (He.ma K (He.ga K "TooMany") "__init__")))),
  fun K => decide (PySem.W.typeIn K (.ref (He.ma K (He.ga K "TooMany") "__init__")) = some (.type "function")),
  fun K => (He.Fa.glo "BadMachine").ok K,
  fun K => HX.oexB K (He.ga K "BadMachine"),
  fun K => HX.excB K (He.ga K "BadMachine"),
  fun K => HX.sicB K (He.ga K "BadMachine") "part",
  fun K => HX.spB K ("BadMachine", some "__init__") "BadMachine.__init__" Pg.main.file (He.ga K "BadMachine"),
  fun K => He.eqO (PySem.W.findIn K (.ref (He.ga K "BadMachine")) "part") (some none),
  fun K => He.eqO (PySem.W.findIn K (.ref (He.ga K "BadMachine")) "__init__") (some (some (.ref (He.ma K (He.ga K "BadMachine") "__init__")))),
  fun K => decide (PySem.W.typeIn K (.ref (He.ma K (He.ga K "BadMachine") "__init__")) = some (.type "function")),
  fun K => (He.Fa.glo "Gone").ok K,
  fun K => HX.oexB K (He.ga K "Gone"),
  fun K => HX.excB K (He.ga K "Gone"),
  fun K => HX.sicB K (He.ga K "Gone") "number",
  fun K => HX.spB K ("Gone", some "__init__") "Gone.__init__" Pg.main.file (He.ga K "Gone"),
  fun K => He.eqO (PySem.W.findIn K (.ref (He.ga K "Gone")) "number") (some none),
  fun K => He.eqO (PySem.W.findIn K (.ref (He.ga K "Gone")) "__init__") (some (some (.ref (He.ma K (He.ga K "Gone") "__init__")))),
  fun K => decide (PySem.W.typeIn K (.ref (He.ma K (He.ga K "Gone") "__init__")) = some (.type "function")),
  fun K => (He.Fa.glo "BadText").ok K,
  fun K => HX.oexB K (He.ga K "BadText"),
  fun K => HX.excB K (He.ga K "BadText"),
  fun K => HX.sicB K (He.ga K "BadText") "line",
  fun K => HX.spB K ("BadText", some "__init__") "BadText.__init__" Pg.main.file (He.ga K "BadText"),
  fun K => He.eqO (PySem.W.findIn K (.ref (He.ga K "BadText")) "line") (some none),
  fun K => He.eqO (PySem.W.findIn K (.ref (He.ga K "BadText")) "__init__") (some (some (.ref (He.ma K (He.ga K "BadText") "__init__")))),
  fun K => decide (PySem.W.typeIn K (.ref (He.ma K (He.ga K "BadText") "__init__")) = some (.type "function")),
  fun K => (He.Fa.glo "NoLog").ok K,
  fun K => HX.oexB K (He.ga K "NoLog"),
  fun K => HX.excB K (He.ga K "NoLog"),
  fun K => PySem.W.excIn K (He.ga K "NoLog") He.veBase "ValueError.__new__",
  fun K => PySem.W.keepIn K (.ref (He.ga K "NoLog")),
  fun K => (He.Fa.glo "NoStrike").ok K,
  fun K => HX.oexB K (He.ga K "NoStrike"),
  fun K => HX.excB K (He.ga K "NoStrike"),
  fun K => PySem.W.excIn K (He.ga K "NoStrike") He.veBase "ValueError.__new__",
  fun K => PySem.W.keepIn K (.ref (He.ga K "NoStrike")),
  fun K => (He.Fa.glo "NoPlace").ok K,
  fun K => HX.oexB K (He.ga K "NoPlace"),
  fun K => HX.excB K (He.ga K "NoPlace"),
  fun K => PySem.W.excIn K (He.ga K "NoPlace") He.veBase "ValueError.__new__",
  fun K => PySem.W.keepIn K (.ref (He.ga K "NoPlace")),
  fun K => (He.Fa.glo "NoPiece").ok K,
  fun K => HX.oexB K (He.ga K "NoPiece"),
  fun K => HX.excB K (He.ga K "NoPiece"),
  fun K => PySem.W.excIn K (He.ga K "NoPiece") He.veBase "ValueError.__new__",
  fun K => PySem.W.keepIn K (.ref (He.ga K "NoPiece")),
  fun K => (He.Fa.glo "NoNumber").ok K,
  fun K => HX.oexB K (He.ga K "NoNumber"),
  fun K => HX.excB K (He.ga K "NoNumber"),
  fun K => PySem.W.excIn K (He.ga K "NoNumber") He.veBase "ValueError.__new__",
  fun K => PySem.W.keepIn K (.ref (He.ga K "NoNumber")),
  fun K => (He.Fa.glo "NoPrices").ok K,
  fun K => HX.oexB K (He.ga K "NoPrices"),
  fun K => HX.excB K (He.ga K "NoPrices"),
  fun K => PySem.W.excIn K (He.ga K "NoPrices") He.veBase "ValueError.__new__",
  fun K => PySem.W.keepIn K (.ref (He.ga K "NoPrices")),
  fun K => (He.Fa.glo "NotEnough").ok K,
  fun K => HX.oexB K (He.ga K "NotEnough"),
  fun K => HX.excB K (He.ga K "NotEnough"),
  fun K => PySem.W.excIn K (He.ga K "NotEnough") He.veBase "ValueError.__new__",
  fun K => PySem.W.keepIn K (.ref (He.ga K "NotEnough")),
  fun K => (He.Fa.glo "Enough").ok K,
  fun K => HX.oexB K (He.ga K "Enough"),
  fun K => HX.excB K (He.ga K "Enough"),
  fun K => PySem.W.excIn K (He.ga K "Enough") He.veBase "ValueError.__new__",
  fun K => PySem.W.keepIn K (.ref (He.ga K "Enough")),
  fun K => (He.Fa.glo "NoWeights").ok K,
  fun K => HX.oexB K (He.ga K "NoWeights"),
  fun K => HX.excB K (He.ga K "NoWeights"),
  fun K => PySem.W.excIn K (He.ga K "NoWeights") He.veBase "ValueError.__new__",
  fun K => PySem.W.keepIn K (.ref (He.ga K "NoWeights")),
  fun K => (He.Fa.glo "NoLetter").ok K,
  fun K => HX.oexB K (He.ga K "NoLetter"),
  fun K => HX.excB K (He.ga K "NoLetter"),
  fun K => PySem.W.excIn K (He.ga K "NoLetter") He.veBase "ValueError.__new__",
  fun K => PySem.W.keepIn K (.ref (He.ga K "NoLetter")),
  fun K => (He.Fa.glo "NoFraction").ok K,
  fun K => HX.oexB K (He.ga K "NoFraction"),
  fun K => HX.excB K (He.ga K "NoFraction"),
  fun K => PySem.W.excIn K (He.ga K "NoFraction") He.veBase "ValueError.__new__",
  fun K => PySem.W.keepIn K (.ref (He.ga K "NoFraction")),
  fun K => (He.Fa.glo "NoText").ok K,
  fun K => HX.oexB K (He.ga K "NoText"),
  fun K => HX.excB K (He.ga K "NoText"),
  fun K => PySem.W.excIn K (He.ga K "NoText") He.veBase "ValueError.__new__",
  fun K => PySem.W.keepIn K (.ref (He.ga K "NoText")),
  fun K => (He.Fa.glo "NotAlike").ok K,
  fun K => HX.oexB K (He.ga K "NotAlike"),
  fun K => HX.excB K (He.ga K "NotAlike"),
  fun K => PySem.W.excIn K (He.ga K "NotAlike") He.veBase "ValueError.__new__",
  fun K => PySem.W.keepIn K (.ref (He.ga K "NotAlike")),
  fun K => (He.Fa.glo "NotOwn").ok K,
  fun K => HX.oexB K (He.ga K "NotOwn"),
  fun K => HX.excB K (He.ga K "NotOwn"),
  fun K => PySem.W.excIn K (He.ga K "NotOwn") He.veBase "ValueError.__new__",
  fun K => PySem.W.keepIn K (.ref (He.ga K "NotOwn")),
  fun K => (He.Fa.glo "NotClosed").ok K,
  fun K => HX.oexB K (He.ga K "NotClosed"),
  fun K => HX.excB K (He.ga K "NotClosed"),
  fun K => PySem.W.excIn K (He.ga K "NotClosed") He.veBase "ValueError.__new__",
  fun K => PySem.W.keepIn K (.ref (He.ga K "NotClosed")),
  fun K => (He.Fa.glo "NoTexts").ok K,
  fun K => HX.oexB K (He.ga K "NoTexts"),
  fun K => HX.excB K (He.ga K "NoTexts"),
  fun K => PySem.W.excIn K (He.ga K "NoTexts") He.veBase "ValueError.__new__",
  fun K => PySem.W.keepIn K (.ref (He.ga K "NoTexts")),
  fun K => (He.Fa.glo "NoIndex").ok K,
  fun K => HX.oexB K (He.ga K "NoIndex"),
  fun K => HX.excB K (He.ga K "NoIndex"),
  fun K => PySem.W.excIn K (He.ga K "NoIndex") He.veBase "ValueError.__new__",
  fun K => PySem.W.keepIn K (.ref (He.ga K "NoIndex")),
  fun K => (He.Fa.glo "NotLet").ok K,
  fun K => HX.oexB K (He.ga K "NotLet"),
  fun K => HX.excB K (He.ga K "NotLet"),
  fun K => PySem.W.excIn K (He.ga K "NotLet") He.veBase "ValueError.__new__",
  fun K => PySem.W.keepIn K (.ref (He.ga K "NotLet")),
  fun K => (He.Fa.glo "NoFlag").ok K,
  fun K => HX.oexB K (He.ga K "NoFlag"),
  fun K => HX.excB K (He.ga K "NoFlag"),
  fun K => PySem.W.excIn K (He.ga K "NoFlag") He.veBase "ValueError.__new__",
  fun K => PySem.W.keepIn K (.ref (He.ga K "NoFlag")),
  fun K => (He.Fa.glo "NoEntry").ok K,
  fun K => HX.oexB K (He.ga K "NoEntry"),
  fun K => HX.excB K (He.ga K "NoEntry"),
  fun K => PySem.W.excIn K (He.ga K "NoEntry") He.veBase "ValueError.__new__",
  fun K => PySem.W.keepIn K (.ref (He.ga K "NoEntry")),
  fun K => (He.Fa.glo "NoReader").ok K,
  fun K => HX.oexB K (He.ga K "NoReader"),
  fun K => HX.excB K (He.ga K "NoReader"),
  fun K => PySem.W.excIn K (He.ga K "NoReader") He.veBase "ValueError.__new__",
  fun K => PySem.W.keepIn K (.ref (He.ga K "NoReader")),
  fun K => (He.Fa.glo "ReaderThere").ok K,
  fun K => HX.oexB K (He.ga K "ReaderThere"),
  fun K => HX.excB K (He.ga K "ReaderThere"),
  fun K => PySem.W.excIn K (He.ga K "ReaderThere") He.veBase "ValueError.__new__",
  fun K => PySem.W.keepIn K (.ref (He.ga K "ReaderThere")),
  fun K => (He.Fa.glo "NothingDone").ok K,
  fun K => HX.oexB K (He.ga K "NothingDone"),
  fun K => HX.excB K (He.ga K "NothingDone"),
  fun K => PySem.W.excIn K (He.ga K "NothingDone") He.veBase "ValueError.__new__",
  fun K => PySem.W.keepIn K (.ref (He.ga K "NothingDone")),
  fun K => (He.Fa.glo "NoValues").ok K,
  fun K => HX.oexB K (He.ga K "NoValues"),
  fun K => HX.excB K (He.ga K "NoValues"),
  fun K => PySem.W.excIn K (He.ga K "NoValues") He.veBase "ValueError.__new__",
  fun K => PySem.W.keepIn K (.ref (He.ga K "NoValues")),
  fun K => (He.Fa.free "ValueError").ok K,
  fun K => (He.Fa.free "abs").ok K,
  fun K => (He.Fa.free "all").ok K,
  fun K => (He.Fa.free "bool").ok K,
  fun K => (He.Fa.free "enumerate").ok K,
  fun K => (He.Fa.free "int").ok K,
  fun K => (He.Fa.free "isinstance").ok K,
  fun K => (He.Fa.free "len").ok K,
  fun K => (He.Fa.free "list").ok K,
  fun K => (He.Fa.free "range").ok K,
  fun K => (He.Fa.free "tuple").ok K,
  fun K => (He.Fa.free "zip").ok K,
  fun K => (List.range 30).all fun i => (List.range 30).all fun j => PySem.W.kitOne K (.ref ((exN K).getD i 0)) (.ref ((exN K).getD j 0)) == some (i == j),
  fun K => (exN K).all fun D => PySem.W.kitOne K (.ref D) (.ref (He.ga K "LogError")) == some true && PySem.W.kitOne K (.ref D) (.type "ValueError") == some true,
  fun K => (List.range 30).all fun i => PySem.W.kitOne K (.ref (He.ga K "LogError")) (.ref ((exN K).getD i 0)) == some false,
  fun K => PySem.W.kitOne K (.ref (He.ga K "LogError")) (.type "ValueError") == some true]
abbrev hk : PySem.W.Hook := HX.hookX 5 dck dfn
def ob (s : PySem.W.SharedT) : HX.AlX := HX.obsXG 5 dck dfn (HandSHeadRun.getT s)
theorem ob_eq (s : PySem.W.SharedT) : ob s = hk.obs s.abs := HX.obsXG_eq (HandSHeadRun.getT_eq s)
def loose : List Str := (["_law_hand", "_law_draw", "_law_any", "_law_is", "_law_nested", "_law_odd", "_law_classes", "_law_errors", "LogError", "BadBook", "NoStriking", "TooMany", "BadMachine", "Gone", "BadText", "NoLog", "NoStrike", "NoPlace", "NoPiece", "NoNumber"] : List Str) ++ (["NoPrices", "NotEnough", "Enough", "NoWeights", "NoLetter", "NoFraction", "NoText", "NotAlike", "NotOwn", "NotClosed", "NoTexts", "NoIndex", "NotLet", "NoFlag", "NoEntry", "NoReader", "ReaderThere", "NothingDone", "NoValues"] : List Str)
theorem run (w : World) : HandSHeadRun.RunEq Rw (PySem.W.view Rw.prog [41]) hk ob 60000 loose w := by
  intro os
  kernel_rfl
theorem txt {K : PySem.W.Frag} {h : Heap} {mg : Str → Option Value} (X : K.In h) (G : h.Ns mainGlobals mg) (c : HX.SaysX dck dfn K) : ∃ T : Txt Pg K mg, T.a_law = He.ga K "law" ∧ (Kit T) := by
  obtain ⟨fd_hand, F_hand⟩ := HX.plB_ok (d := ⟨("_law_hand", none), "_law_hand", "_law_hand", s_hand⟩) (c.fn_ 6 rfl) (c.fact 0 rfl)
  obtain ⟨fd_draw, F_draw⟩ := HX.plB_ok (d := ⟨("_law_draw", none), "_law_draw", "_law_draw", s_draw⟩) (c.fn_ 7 rfl) (c.fact 2 rfl)
  obtain ⟨fd_any, F_any⟩ := HX.plB_ok (d := ⟨("_law_any", none), "_law_any", "_law_any", s_any⟩) (c.fn_ 8 rfl) (c.fact 4 rfl)
  obtain ⟨fd_is, F_is⟩ := HX.plB_ok (d := ⟨("_law_is", none), "_law_is", "_law_is", s_is⟩) (c.fn_ 9 rfl) (c.fact 6 rfl)
  obtain ⟨fd_nested, F_nested⟩ := HX.plB_ok (d := ⟨("_law_nested", none), "_law_nested", "_law_nested", s_nested⟩) (c.fn_ 10 rfl) (c.fact 8 rfl)
  obtain ⟨fd_odd, F_odd⟩ := HX.plB_ok (d := ⟨("_law_odd", none), "_law_odd", "_law_odd", s_odd⟩) (c.fn_ 11 rfl) (c.fact 10 rfl)
  obtain ⟨fd_classes, F_classes⟩ := HX.plB_ok (d := ⟨("_law_classes", none), "_law_classes", "_law_classes", s_classes⟩) (c.fn_ 12 rfl) (c.fact 12 rfl)
  obtain ⟨fd_errors, F_errors⟩ := HX.plB_ok (d := ⟨("_law_errors", none), "_law_errors", "_law_errors", s_errors⟩) (c.fn_ 13 rfl) (c.fact 14 rfl)
  obtain ⟨fd_law, F_law⟩ := HX.plB_ok (d := ⟨("law", none), "law", "law", s_law⟩) (c.fn_ 14 rfl) (c.fact 16 rfl)
  have ST_BadBook_init : HX.SiT Pg s_BadBook_init "BadBook.__init__" "part" "part" := ⟨NdefX.nscope_by (by decide +kernel), by decide +kernel, ⟨_, _, _, _, _, _, _, _, _, _, rfl, _, fun _ _ _ _ => rfl⟩, by decide +kernel, by decide +kernel, by decide +kernel, by decide +kernel⟩
  obtain ⟨fd_BadBook_init, Z_BadBook_init, B_BadBook_init⟩ := HX.sic_ok (x := "BadBook") (mg := mg) ST_BadBook_init (c.fact 24 rfl) (c.fact 26 rfl) (c.fact 27 rfl) (c.fn_ 0 rfl) (He.free_ok X G (x := "super") (c.fact 28 rfl)) (fun _ _ _ _ _ _ _ us hl => match us, hl with | [_, _], _ => rfl)
  have ST_NoStriking_init : HX.SiT Pg s_NoStriking_init "NoStriking.__init__" "at" "at" := ⟨NdefX.nscope_by (by decide +kernel), by decide +kernel, ⟨_, _, _, _, _, _, _, _, _, _, rfl, _, fun _ _ _ _ => rfl⟩, by decide +kernel, by decide +kernel, by decide +kernel, by decide +kernel⟩
  obtain ⟨fd_NoStriking_init, Z_NoStriking_init, B_NoStriking_init⟩ := HX.sic_ok (x := "NoStriking") (mg := mg) ST_NoStriking_init (c.fact 33 rfl) (c.fact 35 rfl) (c.fact 36 rfl) (c.fn_ 1 rfl) (He.free_ok X G (x := "super") (c.fact 28 rfl)) (fun _ _ _ _ _ _ _ us hl => match us, hl with | [_, _], _ => rfl)
  have ST_TooMany_init : HX.SiT Pg s_TooMany_init "TooMany.__init__" "most" "most" := ⟨NdefX.nscope_by (by decide +kernel), by decide +kernel, ⟨_, _, _, _, _, _, _, _, _, _, rfl, _, fun _ _ _ _ => rfl⟩, by decide +kernel, by decide +kernel, by decide +kernel, by decide +kernel⟩
  obtain ⟨fd_TooMany_init, Z_TooMany_init, B_TooMany_init⟩ := HX.sic_ok (x := "TooMany") (mg := mg) ST_TooMany_init (c.fact 41 rfl) (c.fact 43 rfl) (c.fact 44 rfl) (c.fn_ 2 rfl) (He.free_ok X G (x := "super") (c.fact 28 rfl)) (fun _ _ _ _ _ _ _ us hl => match us, hl with | [_, _], _ => rfl)
  have ST_BadMachine_init : HX.SiT Pg s_BadMachine_init "BadMachine.__init__" "part" "part" := ⟨NdefX.nscope_by (by decide +kernel), by decide +kernel, ⟨_, _, _, _, _, _, _, _, _, _, rfl, _, fun _ _ _ _ => rfl⟩, by decide +kernel, by decide +kernel, by decide +kernel, by decide +kernel⟩
  obtain ⟨fd_BadMachine_init, Z_BadMachine_init, B_BadMachine_init⟩ := HX.sic_ok (x := "BadMachine") (mg := mg) ST_BadMachine_init (c.fact 49 rfl) (c.fact 51 rfl) (c.fact 52 rfl) (c.fn_ 3 rfl) (He.free_ok X G (x := "super") (c.fact 28 rfl)) (fun _ _ _ _ _ _ _ us hl => match us, hl with | [_, _], _ => rfl)
  have ST_Gone_init : HX.SiT Pg s_Gone_init "Gone.__init__" "number" "number" := ⟨NdefX.nscope_by (by decide +kernel), by decide +kernel, ⟨_, _, _, _, _, _, _, _, _, _, rfl, _, fun _ _ _ _ => rfl⟩, by decide +kernel, by decide +kernel, by decide +kernel, by decide +kernel⟩
  obtain ⟨fd_Gone_init, Z_Gone_init, B_Gone_init⟩ := HX.sic_ok (x := "Gone") (mg := mg) ST_Gone_init (c.fact 57 rfl) (c.fact 59 rfl) (c.fact 60 rfl) (c.fn_ 4 rfl) (He.free_ok X G (x := "super") (c.fact 28 rfl)) (fun _ _ _ _ _ _ _ us hl => match us, hl with | [_, _], _ => rfl)
  have ST_BadText_init : HX.SiT Pg s_BadText_init "BadText.__init__" "line" "line" := ⟨NdefX.nscope_by (by decide +kernel), by decide +kernel, ⟨_, _, _, _, _, _, _, _, _, _, rfl, _, fun _ _ _ _ => rfl⟩, by decide +kernel, by decide +kernel, by decide +kernel, by decide +kernel⟩
  obtain ⟨fd_BadText_init, Z_BadText_init, B_BadText_init⟩ := HX.sic_ok (x := "BadText") (mg := mg) ST_BadText_init (c.fact 65 rfl) (c.fact 67 rfl) (c.fact 68 rfl) (c.fn_ 5 rfl) (He.free_ok X G (x := "super") (c.fact 28 rfl)) (fun _ _ _ _ _ _ _ us hl => match us, hl with | [_, _], _ => rfl)
  exact ⟨{ a_hand := _, fd_hand := fd_hand, F_hand := F_hand, b_hand := F_hand.binds (ps := ["_law_script"]) (fun _ _ _ _ _ _ us hl => match us, hl with | [_], _ => rfl), g_hand := He.glo_ok X G (x := "_law_hand") (c.fact 1 rfl), a_draw := _, fd_draw := fd_draw, F_draw := F_draw, b_draw := F_draw.binds (ps := ["_law_hand_here", "_law_many"]) (fun _ _ _ _ _ _ us hl => match us, hl with | [_, _], _ => rfl), g_draw := He.glo_ok X G (x := "_law_draw") (c.fact 3 rfl), a_any := _, fd_any := fd_any, F_any := F_any, b_any := F_any.binds (ps := ["_law_hand_here", "_law_items"]) (fun _ _ _ _ _ _ us hl => match us, hl with | [_, _], _ => rfl), g_any := He.glo_ok X G (x := "_law_any") (c.fact 5 rfl), a_is := _, fd_is := fd_is, F_is := F_is, b_is := F_is.binds (ps := ["_law_told", "_law_due"]) (fun _ _ _ _ _ _ us hl => match us, hl with | [_, _], _ => rfl), g_is := He.glo_ok X G (x := "_law_is") (c.fact 7 rfl), a_nested := _, fd_nested := fd_nested, F_nested := F_nested, b_nested := F_nested.binds (ps := ["_law_hand_here"]) (fun _ _ _ _ _ _ us hl => match us, hl with | [_], _ => rfl), g_nested := He.glo_ok X G (x := "_law_nested") (c.fact 9 rfl), a_odd := _, fd_odd := fd_odd, F_odd := F_odd, b_odd := F_odd.binds (ps := ["_law_hand_here"]) (fun _ _ _ _ _ _ us hl => match us, hl with | [_], _ => rfl), g_odd := He.glo_ok X G (x := "_law_odd") (c.fact 11 rfl), a_classes := _, fd_classes := fd_classes, F_classes := F_classes, b_classes := F_classes.binds (ps := ["_law_e"]) (fun _ _ _ _ _ _ us hl => match us, hl with | [_], _ => rfl), g_classes := He.glo_ok X G (x := "_law_classes") (c.fact 13 rfl), a_errors := _, fd_errors := fd_errors, F_errors := F_errors, b_errors := F_errors.binds (ps := ["_law_thing"]) (fun _ _ _ _ _ _ us hl => match us, hl with | [_], _ => rfl), g_errors := He.glo_ok X G (x := "_law_errors") (c.fact 15 rfl), a_law := _, fd_law := fd_law, F_law := F_law, b_law := F_law.binds (ps := ["_law_script"]) (fun _ _ _ _ _ _ us hl => match us, hl with | [_], _ => rfl), g_law := He.glo_ok X G (x := "law") (c.fact 17 rfl), C_LogError := He.ga K "LogError", g_LogError := He.glo_ok X G (x := "LogError") (c.fact 18 rfl), xc_LogError := HX.oexB_ok (c.fact 19 rfl), ic_LogError := HX.excB_ok (c.fact 20 rfl), k_LogError := (c.fact 21 rfl), kp_LogError := (c.fact 22 rfl), C_BadBook := He.ga K "BadBook", g_BadBook := He.glo_ok X G (x := "BadBook") (c.fact 23 rfl), xc_BadBook := HX.oexB_ok (c.fact 24 rfl), ic_BadBook := HX.excB_ok (c.fact 25 rfl), fi_BadBook := He.eqO_ok (c.fact 29 rfl), a_BadBook_init := _, fd_BadBook_init := fd_BadBook_init, S_BadBook_init := Z_BadBook_init, b_BadBook_init := B_BadBook_init, ii_BadBook := He.eqO_ok (c.fact 30 rfl), ti_BadBook := of_decide_eq_true (c.fact 31 rfl), C_NoStriking := He.ga K "NoStriking", g_NoStriking := He.glo_ok X G (x := "NoStriking") (c.fact 32 rfl), xc_NoStriking := HX.oexB_ok (c.fact 33 rfl), ic_NoStriking := HX.excB_ok (c.fact 34 rfl), fi_NoStriking := He.eqO_ok (c.fact 37 rfl), a_NoStriking_init := _, fd_NoStriking_init := fd_NoStriking_init, S_NoStriking_init := Z_NoStriking_init, b_NoStriking_init := B_NoStriking_init, ii_NoStriking := He.eqO_ok (c.fact 38 rfl), ti_NoStriking := of_decide_eq_true (c.fact 39 rfl), C_TooMany := He.ga K "TooMany", g_TooMany := He.glo_ok X G (x := "TooMany") (c.fact 40 rfl), xc_TooMany := HX.oexB_ok (c.fact 41 rfl), ic_TooMany := HX.excB_ok (c.fact 42 rfl), fi_TooMany := He.eqO_ok (c.fact 45 rfl), a_TooMany_init := _, fd_TooMany_init := fd_TooMany_init, S_TooMany_init := Z_TooMany_init, b_TooMany_init := B_TooMany_init, ii_TooMany := He.eqO_ok (c.fact 46 rfl), ti_TooMany := of_decide_eq_true (c.fact 47 rfl), C_BadMachine := He.ga K "BadMachine", g_BadMachine := He.glo_ok X G (x := "BadMachine") (c.fact 48 rfl), xc_BadMachine := HX.oexB_ok (c.fact 49 rfl), ic_BadMachine := HX.excB_ok (c.fact 50 rfl), fi_BadMachine := He.eqO_ok (c.fact 53 rfl), a_BadMachine_init := _, fd_BadMachine_init := fd_BadMachine_init, S_BadMachine_init := Z_BadMachine_init, b_BadMachine_init := B_BadMachine_init, ii_BadMachine := He.eqO_ok (c.fact 54 rfl), ti_BadMachine := of_decide_eq_true (c.fact 55 rfl), C_Gone := He.ga K "Gone", g_Gone := He.glo_ok X G (x := "Gone") (c.fact 56 rfl), xc_Gone := HX.oexB_ok (c.fact 57 rfl), ic_Gone := HX.excB_ok (c.fact 58 rfl), fi_Gone := He.eqO_ok (c.fact 61 rfl), a_Gone_init := _, fd_Gone_init := fd_Gone_init, S_Gone_init := Z_Gone_init, b_Gone_init := B_Gone_init, ii_Gone := He.eqO_ok (c.fact 62 rfl), ti_Gone := of_decide_eq_true (c.fact 63 rfl), C_BadText := He.ga K "BadText", g_BadText := He.glo_ok X G (x := "BadText") (c.fact 64 rfl), xc_BadText := HX.oexB_ok (c.fact 65 rfl), ic_BadText := HX.excB_ok (c.fact 66 rfl), fi_BadText := He.eqO_ok (c.fact 69 rfl), a_BadText_init := _, fd_BadText_init := fd_BadText_init, S_BadText_init := Z_BadText_init, b_BadText_init := B_BadText_init, ii_BadText := He.eqO_ok (c.fact 70 rfl), ti_BadText := of_decide_eq_true (c.fact 71 rfl), C_NoLog := He.ga K "NoLog", g_NoLog := He.glo_ok X G (x := "NoLog") (c.fact 72 rfl), xc_NoLog := HX.oexB_ok (c.fact 73 rfl), ic_NoLog := HX.excB_ok (c.fact 74 rfl), k_NoLog := (c.fact 75 rfl), kp_NoLog := (c.fact 76 rfl), C_NoStrike := He.ga K "NoStrike", g_NoStrike := He.glo_ok X G (x := "NoStrike") (c.fact 77 rfl), xc_NoStrike := HX.oexB_ok (c.fact 78 rfl), ic_NoStrike := HX.excB_ok (c.fact 79 rfl), k_NoStrike := (c.fact 80 rfl), kp_NoStrike := (c.fact 81 rfl), C_NoPlace := He.ga K "NoPlace", g_NoPlace := He.glo_ok X G (x := "NoPlace") (c.fact 82 rfl), xc_NoPlace := HX.oexB_ok (c.fact 83 rfl), ic_NoPlace := HX.excB_ok (c.fact 84 rfl), k_NoPlace := (c.fact 85 rfl), kp_NoPlace := (c.fact 86 rfl), C_NoPiece := He.ga K "NoPiece", g_NoPiece := He.glo_ok X G (x := "NoPiece") (c.fact 87 rfl), xc_NoPiece := HX.oexB_ok (c.fact 88 rfl), ic_NoPiece := HX.excB_ok (c.fact 89 rfl), k_NoPiece := (c.fact 90 rfl), kp_NoPiece := (c.fact 91 rfl), C_NoNumber := He.ga K "NoNumber", g_NoNumber := He.glo_ok X G (x := "NoNumber") (c.fact 92 rfl), xc_NoNumber := HX.oexB_ok (c.fact 93 rfl), ic_NoNumber := HX.excB_ok (c.fact 94 rfl), k_NoNumber := (c.fact 95 rfl), kp_NoNumber := (c.fact 96 rfl), C_NoPrices := He.ga K "NoPrices", g_NoPrices := He.glo_ok X G (x := "NoPrices") (c.fact 97 rfl), xc_NoPrices := HX.oexB_ok (c.fact 98 rfl), ic_NoPrices := HX.excB_ok (c.fact 99 rfl), k_NoPrices := (c.fact 100 rfl), kp_NoPrices := (c.fact 101 rfl), C_NotEnough := He.ga K "NotEnough", g_NotEnough := He.glo_ok X G (x := "NotEnough") (c.fact 102 rfl), xc_NotEnough := HX.oexB_ok (c.fact 103 rfl), ic_NotEnough := HX.excB_ok (c.fact 104 rfl), k_NotEnough := (c.fact 105 rfl), kp_NotEnough := (c.fact 106 rfl), C_Enough := He.ga K "Enough", g_Enough := He.glo_ok X G (x := "Enough") (c.fact 107 rfl), xc_Enough := HX.oexB_ok (c.fact 108 rfl), ic_Enough := HX.excB_ok (c.fact 109 rfl), k_Enough := (c.fact 110 rfl), kp_Enough := (c.fact 111 rfl), C_NoWeights := He.ga K "NoWeights", g_NoWeights := He.glo_ok X G (x := "NoWeights") (c.fact 112 rfl), xc_NoWeights := HX.oexB_ok (c.fact 113 rfl), ic_NoWeights := HX.excB_ok (c.fact 114 rfl), k_NoWeights := (c.fact 115 rfl), kp_NoWeights := (c.fact 116 rfl), C_NoLetter := He.ga K "NoLetter", g_NoLetter := He.glo_ok X G (x := "NoLetter") (c.fact 117 rfl), xc_NoLetter := HX.oexB_ok (c.fact 118 rfl), ic_NoLetter := HX.excB_ok (c.fact 119 rfl), k_NoLetter := (c.fact 120 rfl), kp_NoLetter := (c.fact 121 rfl), C_NoFraction := He.ga K "NoFraction", g_NoFraction := He.glo_ok X G (x := "NoFraction") (c.fact 122 rfl), xc_NoFraction := HX.oexB_ok (c.fact 123 rfl), ic_NoFraction := HX.excB_ok (c.fact 124 rfl), k_NoFraction := (c.fact 125 rfl), kp_NoFraction := (c.fact 126 rfl), C_NoText := He.ga K "NoText", g_NoText := He.glo_ok X G (x := "NoText") (c.fact 127 rfl), xc_NoText := HX.oexB_ok (c.fact 128 rfl), ic_NoText := HX.excB_ok (c.fact 129 rfl), k_NoText := (c.fact 130 rfl), kp_NoText := (c.fact 131 rfl), C_NotAlike := He.ga K "NotAlike", g_NotAlike := He.glo_ok X G (x := "NotAlike") (c.fact 132 rfl), xc_NotAlike := HX.oexB_ok (c.fact 133 rfl), ic_NotAlike := HX.excB_ok (c.fact 134 rfl), k_NotAlike := (c.fact 135 rfl), kp_NotAlike := (c.fact 136 rfl), C_NotOwn := He.ga K "NotOwn", g_NotOwn := He.glo_ok X G (x := "NotOwn") (c.fact 137 rfl), xc_NotOwn := HX.oexB_ok (c.fact 138 rfl), ic_NotOwn := HX.excB_ok (c.fact 139 rfl), k_NotOwn := (c.fact 140 rfl), kp_NotOwn := (c.fact 141 rfl), C_NotClosed := He.ga K "NotClosed", g_NotClosed := He.glo_ok X G (x := "NotClosed") (c.fact 142 rfl), xc_NotClosed := HX.oexB_ok (c.fact 143 rfl), ic_NotClosed := HX.excB_ok (c.fact 144 rfl), k_NotClosed := (c.fact 145 rfl), kp_NotClosed := (c.fact 146 rfl), C_NoTexts := He.ga K "NoTexts", g_NoTexts := He.glo_ok X G (x := "NoTexts") (c.fact 147 rfl), xc_NoTexts := HX.oexB_ok (c.fact 148 rfl), ic_NoTexts := HX.excB_ok (c.fact 149 rfl), k_NoTexts := (c.fact 150 rfl), kp_NoTexts := (c.fact 151 rfl), C_NoIndex := He.ga K "NoIndex", g_NoIndex := He.glo_ok X G (x := "NoIndex") (c.fact 152 rfl), xc_NoIndex := HX.oexB_ok (c.fact 153 rfl), ic_NoIndex := HX.excB_ok (c.fact 154 rfl), k_NoIndex := (c.fact 155 rfl), kp_NoIndex := (c.fact 156 rfl), C_NotLet := He.ga K "NotLet", g_NotLet := He.glo_ok X G (x := "NotLet") (c.fact 157 rfl), xc_NotLet := HX.oexB_ok (c.fact 158 rfl), ic_NotLet := HX.excB_ok (c.fact 159 rfl), k_NotLet := (c.fact 160 rfl), kp_NotLet := (c.fact 161 rfl), C_NoFlag := He.ga K "NoFlag", g_NoFlag := He.glo_ok X G (x := "NoFlag") (c.fact 162 rfl), xc_NoFlag := HX.oexB_ok (c.fact 163 rfl), ic_NoFlag := HX.excB_ok (c.fact 164 rfl), k_NoFlag := (c.fact 165 rfl), kp_NoFlag := (c.fact 166 rfl), C_NoEntry := He.ga K "NoEntry", g_NoEntry := He.glo_ok X G (x := "NoEntry") (c.fact 167 rfl), xc_NoEntry := HX.oexB_ok (c.fact 168 rfl), ic_NoEntry := HX.excB_ok (c.fact 169 rfl), k_NoEntry := (c.fact 170 rfl), kp_NoEntry := (c.fact 171 rfl), C_NoReader := He.ga K "NoReader", g_NoReader := He.glo_ok X G (x := "NoReader") (c.fact 172 rfl), xc_NoReader := HX.oexB_ok (c.fact 173 rfl), ic_NoReader := HX.excB_ok (c.fact 174 rfl), k_NoReader := (c.fact 175 rfl), kp_NoReader := (c.fact 176 rfl), C_ReaderThere := He.ga K "ReaderThere", g_ReaderThere := He.glo_ok X G (x := "ReaderThere") (c.fact 177 rfl), xc_ReaderThere := HX.oexB_ok (c.fact 178 rfl), ic_ReaderThere := HX.excB_ok (c.fact 179 rfl), k_ReaderThere := (c.fact 180 rfl), kp_ReaderThere := (c.fact 181 rfl), C_NothingDone := He.ga K "NothingDone", g_NothingDone := He.glo_ok X G (x := "NothingDone") (c.fact 182 rfl), xc_NothingDone := HX.oexB_ok (c.fact 183 rfl), ic_NothingDone := HX.excB_ok (c.fact 184 rfl), k_NothingDone := (c.fact 185 rfl), kp_NothingDone := (c.fact 186 rfl), C_NoValues := He.ga K "NoValues", g_NoValues := He.glo_ok X G (x := "NoValues") (c.fact 187 rfl), xc_NoValues := HX.oexB_ok (c.fact 188 rfl), ic_NoValues := HX.excB_ok (c.fact 189 rfl), k_NoValues := (c.fact 190 rfl), kp_NoValues := (c.fact 191 rfl), m_ValueError := He.free_ok X G (x := "ValueError") (c.fact 192 rfl), m_abs := He.free_ok X G (x := "abs") (c.fact 193 rfl), m_all := He.free_ok X G (x := "all") (c.fact 194 rfl), m_bool := He.free_ok X G (x := "bool") (c.fact 195 rfl), m_enumerate := He.free_ok X G (x := "enumerate") (c.fact 196 rfl), m_int := He.free_ok X G (x := "int") (c.fact 197 rfl), m_isinstance := He.free_ok X G (x := "isinstance") (c.fact 198 rfl), m_len := He.free_ok X G (x := "len") (c.fact 199 rfl), m_list := He.free_ok X G (x := "list") (c.fact 200 rfl), m_range := He.free_ok X G (x := "range") (c.fact 201 rfl), m_super := He.free_ok X G (x := "super") (c.fact 28 rfl), m_tuple := He.free_ok X G (x := "tuple") (c.fact 202 rfl), m_zip := He.free_ok X G (x := "zip") (c.fact 203 rfl) }, rfl, ⟨(c.fact 204 rfl), (c.fact 205 rfl), (c.fact 206 rfl), eq_of_beq (c.fact 207 rfl)⟩⟩


end K00
open PySem PySem.W PySem.Calls PyProof.Rows
theorem PySem.Challenge.cw_struckpieces_k00_errors_and_their_fields_holds : PySem.Challenge.rw_struckpieces_k00_errors_and_their_fields.Holds := by
  w_on; o_law
  refine HandSHeadRun.head_any (r := OpenLaw.row PySem.Challenge.rw_struckpieces_k00_errors_and_their_fields) (q := view (OpenLaw.row PySem.Challenge.rw_struckpieces_k00_errors_and_their_fields).prog [41]) (H := K00.hk) (ob := K00.ob) (M := 60000) (loose := K00.loose) (d := HandSHeadRun.topDef (OpenLaw.row PySem.Challenge.rw_struckpieces_k00_errors_and_their_fields).prog 41) (kwd := []) K00.ob_eq
    (by kernel_rfl) (fun s => by kernel_rfl) K00.run (by kernel_rfl) (by kernel_rfl) (by kernel_rfl) (by rfl) (by first | assumption | decide +kernel) (by decide +kernel) ⟨rfl, rfl, rfl, rfl, rfl, by decide +kernel⟩ ?hw ?hc
  case hw => w_witness2
  case hc =>
    refine L2.walk_ofE (l := PySem.Challenge.rw_struckpieces_k00_errors_and_their_fields) (n := 63) (k := 28) (x := "_law_script") (CX := L2.CX0) rfl (by decide) (by kernel_rfl) ⟨rfl, by decide, by decide⟩ ?F (fun _ _ _ _ z => z)
    intro w mg fa h Y G hmg0
    obtain ⟨K, KX, c⟩ := Y
    have hmg : mg ("law" : PySem.Str) = some (.ref fa) := by
      have e : (HandSHeadRun.topDef (OpenLaw.row PySem.Challenge.rw_struckpieces_k00_errors_and_their_fields).prog 41).name = ("law" : PySem.Str) := by kernel_rfl
      rw [← e]
      exact hmg0
    obtain ⟨T, ea, X⟩ := K00.txt KX G c
    have e := hmg.symm.trans T.g_law
    cases e
    exact ⟨K, T.fd_law, K00.spLaw K, KX, fun s u => by obtain ⟨_, _, _, _, _, _, _, _, _, e2, _⟩ := T.F_law.ex; rw [e2]; exact .of_eq rfl, fun H a ns hl _ hS => ⟨a, ns, rfl, hS, hl, fun _ => rfl⟩, fun base _ _ => K00.ok_law T X⟩
