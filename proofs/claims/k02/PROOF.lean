import PyProof.Rows.All
import Wide.All
import OpenK.AllK
import Wide.FinOn
import PySem.Challenge.RW_struckpieces_k02_whole_strikings_there_a
import HandS.ForMost
import HandS.ForExc
import HandS.IsInst
import HandS.TupAny
import HandS.TupMul
import HandS.StrMore
import HandS.Style
import HandS.OwnEq
import HandS.Walk
import HandS.Evl
import HandS.Dict
import HandS.More
import HandS.ExcInit
import HandS.ExcIs
import HandS.Nested
import KE.KExcSuper
import KE.KExcIs
import HandS.ExcValue
import HandS.ExcField
import HandS.Zip
import PyProof.Rows.SetFrom
import PyProof.Rows.SortStr
import PyProof.Rows.SortShellAny
import PyProof.StrWalks
import HandS.Set
import HandS.Strs
import HandS.SetTxt0
import PyProof.TupleIter
import PyProof.ListStr
import PyProof.Draws
import KE.GoesMore
import HandS.Iter
import KE.KRevSl
import PyProof.InstEq
import HandS.ExcOwn
import HandS.Deep
import KE.KStateDown
import HandS.Head0
import HandS.Head1
import HandS.Head2
import HandS.HeadEnd
import HandS.HeadHook1
import HandS.HeadHook2
set_option Elab.async false
set_option linter.all false
set_option maxRecDepth 100000
set_option maxHeartbeats 4000000
/-! readings, step by step -/
namespace RD
open PySem PySem.Spec PyProof.Rows L2

/-! ### heaps -/
/-- all but x is as it was -/
def KB (x : Addr) (H H' : Hp) : Prop := ∀ b o, b ≠ x → H b = some o → H' b = some o
theorem at_same {H H' : Hp} {a : Addr} {o : HO} (s : Same H H') (h : H a = some o) : H' a = some o := s a o h
theorem at_kb {x a : Addr} {H H' : Hp} {o : HO} (s : KB x H H') (n : a ≠ x) (h : H a = some o) : H' a = some o := s a o n h
theorem Same.kb {x : Addr} {H H' : Hp} (s : Same H H') : KB x H H' := fun b o _ h => s b o h
theorem KB.refl {x : Addr} {H : Hp} : KB x H H := fun _ _ _ h => h
theorem KB.trans {x : Addr} {H H1 H2 : Hp} (a : KB x H H1) (b : KB x H1 H2) : KB x H H2 := fun c o n h => b c o n (a c o n h)
theorem KB.seq {x : Addr} {K : PySem.W.Frag} {H H' : Hp} {a : Addr} {xs : List V} (e : KB x H H') (n : a ≠ x) (h : SqL K H a xs) : SqL K H' a xs := by
  rcases h with (h | ⟨o, h⟩) | h
  · exact .inl (.inl (e _ _ n h))
  · exact .inl (.inr ⟨o, e _ _ n h⟩)
  · exact .inr h
theorem KB.tup {x : Addr} {K : PySem.W.Frag} {H H' : Hp} {a : Addr} {xs : List V} (e : KB x H H') (n : a ≠ x) (h : SqT K H a xs) : SqT K H' a xs := by
  rcases h with (h | ⟨o, h⟩) | h
  · exact .inl (.inl (e _ _ n h))
  · exact .inl (.inr ⟨o, e _ _ n h⟩)
  · exact .inr h
theorem Same.tup {K : PySem.W.Frag} {H H' : Hp} {a : Addr} {xs : List V} (e : Same H H') (h : SqT K H a xs) : SqT K H' a xs := by
  rcases h with (h | ⟨o, h⟩) | h
  · exact .inl (.inl (e _ _ h))
  · exact .inl (.inr ⟨o, e _ _ h⟩)
  · exact .inr h
theorem fr_of {H H' : Hp} {p : Addr} (n : H' p = none) (s : Same H H') : H p = none := Same.free s n
theorem sm_tr {H H1 H' : Hp} (h2 : Same H1 H') (h1 : Same H H1) : Same H H' := h1.trans h2
theorem kb_tr {x : Addr} {H H1 H' : Hp} (h2 : KB x H1 H') (h1 : KB x H H1) : KB x H H' := h1.trans h2
theorem kb_trs {x : Addr} {H H1 H' : Hp} (h2 : Same H1 H') (h1 : KB x H H1) : KB x H H' := h1.trans (Same.kb h2)
theorem same_new {H : Hp} {p : Addr} {o : HO} (h : H p = none) : Same H (upd H p o) := fun b x e => by
  rw [upd_ne (ne_of_none e h)]
  exact e
theorem kb_upd {H : Hp} {p : Addr} {o : HO} : KB p H (upd H p o) := fun b x n e => by
  rw [upd_ne n]
  exact e
theorem same_mut {H H' : Hp} {p : Addr} (k : KB p H H') {H0 : Hp} (s : Same H0 H) (n : H0 p = none) : Same H0 H' := fun b o e => k b o (ne_of_none e n) (s b o e)
theorem free_back {H H' : Hp} {p : Addr} (s : Same H H') (n : H' p = none) : H p = none := Same.free s n
theorem ne_no {H : Hp} {a b : Addr} {o : HO} (h' : H b = none) (h : H a = some o) : a ≠ b := ne_of_none h h'
theorem ne_no' {H : Hp} {a b : Addr} {o : HO} (h' : H b = none) (h : H a = some o) : b ≠ a := (ne_of_none h h').symm
theorem sz (n : Nat) (h : Nat.ble n 16777216 = true := by rfl) : n ≤ sizeLine := by rw [sizeLine_eq]; exact Nat.le_of_ble_eq_true h
theorem szo {n : Nat} (h : n ≤ 16777216) : n ≤ sizeLine := by rw [sizeLine_eq]; exact h
theorem szl {n : Nat} (h : n < 16777216) : n < sizeLine := by rw [sizeLine_eq]; exact h

/-- a new object is laid -/
def NewO (H : Hp) (o : HO) (Q : VK) : Prop := ∀ p, H p = none → Q (.ref p) (upd H p o)
/-! ### expressions -/
section
variable {K : PySem.W.Frag} {σ : L2.St} {H : Hp} {Q : VK} {QB : Bool → Hp → Prop} {QL : List V → Hp → Prop} {QO : Option Int → Hp → Prop} {ta tb te : TE} {tx ty : TA} {t u : TT} {r : R2} {v x y : V} {i j : Int} {tl th : TO}
theorem op (h : ta σ H fun x H1 => tb σ H1 fun y H2 => r x y H2 Q) : tOp r ta tb σ H Q := h
theorem un {r : V → Hp → VK → Prop} (h : ta σ H fun x H1 => r x H1 Q) : tUn r ta σ H Q := h
theorem var {i : Nat} (e : σ[i]? = some (some v)) (h : Q v H) : tVar i σ H Q := ⟨v, e, h⟩
theorem c (h : Q v H) : tC v σ H Q := h
theorem nil (h : QL [] H) : tNil σ H QL := h
theorem cons (h : ta σ H fun x H1 => tx σ H1 fun xs H2 => QL (x :: xs) H2) : tCons ta tx σ H QL := h
theorem cb {r : List V → Hp → VK → Prop} (h : tx σ H fun vs H1 => r vs H1 Q) : tCB r tx σ H Q := h
theorem call {sp : Sp} {dvs : List V} {E : XK} (h : tx σ H fun vs H1 => sp (vs ++ dvs) H1 Q E) : tCall sp dvs E tx σ H Q := h
theorem test (h : te σ H fun x H' => ∃ k, x = .bl k ∧ QB k H') : tTest te σ H QB := h
theorem tb' (h : te σ H fun x H' => ∃ k, x = .bl k ∧ QB k H') : tB te σ H QB := h
theorem bl {b : Bool} {R : Bool → Prop} (h : R b) : ∃ k, V.bl b = .bl k ∧ R k := ⟨b, rfl, h⟩
theorem and' (h : t σ H fun c H1 => if c = true then u σ H1 QB else QB false H1) : tAnd t u σ H QB := h
theorem or' (h : t σ H fun c H1 => if c = true then QB true H1 else u σ H1 QB) : tOr t u σ H QB := h
theorem not' (h : t σ H fun c H1 => QB (!c) H1) : tNot t σ H QB := h
theorem andV (h : ta σ H fun x H1 => ∃ c, x = .bl c ∧ if c = true then tb σ H1 Q else Q (.bl false) H1) : tAndV ta tb σ H Q := h
theorem orV (h : ta σ H fun x H1 => ∃ c, x = .bl c ∧ if c = true then Q (.bl true) H1 else tb σ H1 Q) : tOrV ta tb σ H Q := h
theorem notV (h : ta σ H fun x H1 => ∃ c, x = .bl c ∧ Q (.bl (!c)) H1) : tNotV ta σ H Q := h
theorem bl2 {b : Bool} {A B : Prop} (h : if b = true then A else B) : ∃ c, V.bl b = .bl c ∧ if c = true then A else B := ⟨b, rfl, h⟩
theorem blA {b : Bool} {A : Hp → Prop} {B : Hp → Prop} (h : if b = true then A H else B H) : ∃ c, V.bl b = .bl c ∧ if c = true then A H else B H := ⟨b, rfl, h⟩
theorem blN {b : Bool} (h : Q (.bl (!b)) H) : ∃ c, V.bl b = .bl c ∧ Q (.bl (!c)) H := ⟨b, rfl, h⟩
theorem ife (h : t σ H fun c H1 => if c = true then ta σ H1 Q else tb σ H1 Q) : tIf t ta tb σ H Q := h
theorem sl {r : V → Option Int → Option Int → Hp → VK → Prop} (h : te σ H fun x H1 => tl σ H1 fun l H2 => th σ H2 fun u H3 => r x l u H3 Q) : tSl r te tl th σ H Q := h
theorem part (h : te σ H fun x H1 => ∃ i, x = .int i ∧ QO (some i) H1) : tPart te σ H QO := h
theorem noPart (h : QO none H) : tNoPart σ H QO := h
theorem partI {R : Int → Prop} (h : R i) : ∃ j, V.int i = .int j ∧ R j := ⟨i, rfl, h⟩
theorem rd0 {g : Int → Int → V} (h : Q (g i j) H) : rI0 g (.int i) (.int j) H Q := ⟨i, j, rfl, rfl, h⟩
theorem rdI {C : Int → Int → Prop} {g : Int → Int → V} (hc : C i j) (h : Q (g i j) H) : rI C g (.int i) (.int j) H Q := ⟨i, j, rfl, rfl, hc, h⟩
theorem rdU {g : Int → V} (h : Q (g i) H) : rU g (.int i) H Q := ⟨i, rfl, h⟩
theorem rdEq (hs : scal x y = true) (h : Q (.bl (decide (x = y))) H) : rEq x y H Q := ⟨hs, h⟩
theorem rdNe (hs : scal x y = true) (h : Q (.bl (!decide (x = y))) H) : rNe x y H Q := ⟨hs, h⟩
theorem ixL {p : Addr} {xs : List V} (hx : SqL K H p xs) (ha : atI xs i = some v) (h : Q v H) : rIxL K (.ref p) (.int i) H Q := ⟨p, xs, i, v, rfl, rfl, hx, ha, h⟩
theorem ixT {p : Addr} {xs : List V} (hx : SqT K H p xs) (ha : atI xs i = some v) (h : Q v H) : rIxT K (.ref p) (.int i) H Q := ⟨p, xs, i, v, rfl, rfl, hx, ha, h⟩
theorem ixS {z : Str} {c : Nat} (hl : z.length ≤ sizeLine) (ha : atI z.cps.toList i = some c) (h : Q (.str ⟨#[c]⟩) H) : rIxS (.str z) (.int i) H Q := ⟨z, i, c, rfl, rfl, hl, ha, h⟩
theorem tup (h : tx σ H fun xs H1 => xs.length ≤ sizeLine ∧ NewO H1 (.tup xs) Q) : tTup tx σ H Q := h
theorem lst (h : tx σ H fun xs H1 => xs.length ≤ sizeLine ∧ NewO H1 (.lst xs) Q) : tLst tx σ H Q := h
theorem slL {a : Addr} {xs : List V} {lo hi : Option Int} (hx : SqL K H a xs) (h : ∀ p H2, H p = none → Same H H2 → H2 p = some (.lst (cutV xs lo hi)) → Q (.ref p) H2) : rSlL K (.ref a) lo hi H Q := ⟨a, xs, rfl, hx, fun p hp => h p _ hp (same_new hp) upd_same⟩
/-- a new object: the heap from then on is any that holds it and all else -/
theorem new {o : HO} {R : Addr → Hp → Prop} (h : ∀ p H2, H p = none → Same H H2 → H2 p = some o → R p H2) : ∀ p, H p = none → R p (upd H p o) := fun p hp => h p _ hp (same_new hp) upd_same
theorem newZ {n : Nat} {o : HO} (z : n ≤ sizeLine) (h : ∀ p H2, H p = none → Same H H2 → H2 p = some o → Q (.ref p) H2) : n ≤ sizeLine ∧ NewO H o Q := ⟨z, fun p hp => h p _ hp (same_new hp) upd_same⟩
theorem newO {o : HO} (h : ∀ p H2, H p = none → Same H H2 → H2 p = some o → Q (.ref p) H2) : NewO H o Q := fun p hp => h p _ hp (same_new hp) upd_same
theorem mutn {a : Addr} {o : HO} {R : Hp → Prop} (h : ∀ H2, KB a H H2 → H2 a = some o → R H2) : R (upd H a o) := h _ kb_upd upd_same
theorem len {p : Addr} {ys : List V} {R : Addr → List V → Prop} (hx : SqL K H p ys ∨ SqT K H p ys) (h : R p ys) : (∃ q zs, [V.ref p] = [.ref q] ∧ (SqL K H q zs ∨ SqT K H q zs) ∧ R q zs) := ⟨p, ys, rfl, hx, h⟩
theorem lenS {z : Str} {R : Str → Prop} (hl : z.length ≤ sizeLine) (h : R z) : (∃ w : Str, [V.str z] = [.str w] ∧ w.length ≤ sizeLine ∧ R w) := ⟨z, rfl, hl, h⟩
theorem int1 {R : Int → Prop} {S : Bool → Prop} (h : R i) : (∃ k, [V.int i] = [.int k] ∧ R k) ∨ ∃ k, [V.int i] = [.bl k] ∧ S k := .inl ⟨i, rfl, h⟩
theorem int1b {b : Bool} {R : Int → Prop} {S : Bool → Prop} (h : S b) : (∃ k, [V.bl b] = [.int k] ∧ R k) ∨ ∃ k, [V.bl b] = [.bl k] ∧ S k := .inr ⟨b, rfl, h⟩
theorem abs1 {R : Int → Prop} (h : R i) : (∃ k, [V.int i] = [.int k] ∧ R k) := ⟨i, rfl, h⟩
theorem all1 {a : Addr} {bs : List Bool} (hx : SqL K H a (bs.map V.bl)) (h : Q (.bl (bs.all id)) H) : rAll K [.ref a] H Q := ⟨a, bs, rfl, hx, h⟩
theorem any1 {a : Addr} {bs : List Bool} (hx : SqL K H a (bs.map V.bl)) (h : Q (.bl (bs.any id)) H) : rAny K [.ref a] H Q := ⟨a, bs, rfl, hx, h⟩
theorem isi {x c : V} {t u : Value} {b : Bool} (hc : ClsV c u) (hx : TyX K H x t) (e : PySem.W.kitOne K t u = some b) (h : Q (.bl b) H) : rIsi K [x, c] H Q := ⟨x, c, t, u, b, rfl, hc, hx, e, h⟩
theorem isiT {x : V} {tp : Addr} {cs : List V} {t : Value} {us : List Value} {b : Bool} (ht : H tp = some (.tup cs)) (hc : Paired ClsV cs us) (hx : TyX K H x t) (e : PySem.W.kitAny K t us = some b) (h : Q (.bl b) H) : rIsiT K [x, .ref tp] H Q := ⟨x, tp, cs, t, us, b, rfl, ht, hc, hx, e, h⟩
theorem cat {l b : Addr} {xs zs : List V} (h1 : H l = some (.lst xs)) (h2 : H b = some (.lst zs)) (hz : xs.length + zs.length ≤ sizeLine) (h : ∀ p H2, H p = none → Same H H2 → H2 p = some (.lst (xs ++ zs)) → Q (.ref p) H2) : rCat (.ref l) (.ref b) H Q := ⟨l, b, xs, zs, rfl, rfl, h1, h2, hz, fun p hp => h p _ hp (same_new hp) upd_same⟩
theorem eqD {d e : PyData} (h1 : Dp K H x d) (h2 : Dp K H y e) (s1 : SeqAt.shaped d = true) (s2 : SeqAt.shaped e = true) (h : Q (.bl (PyData.eqv d e)) H) : rEqD K x y H Q := ⟨d, e, h1, h2, s1, s2, h⟩
theorem neD {d e : PyData} (h1 : Dp K H x d) (h2 : Dp K H y e) (s1 : SeqAt.shaped d = true) (s2 : SeqAt.shaped e = true) (h : Q (.bl (!PyData.eqv d e)) H) : rNeD K x y H Q := ⟨d, e, h1, h2, s1, s2, h⟩
theorem ite1 {A B : Prop} (h : A) : if true = true then A else B := iteT h
theorem ite0 {A B : Prop} (h : B) : if false = true then A else B := iteF h
theorem ite1n {A B : Prop} (h : B) : if (!true) = true then A else B := iteF h
theorem ite0n {A B : Prop} (h : A) : if (!false) = true then A else B := iteT h
theorem ite_b {b : Bool} {A B : Prop} (h1 : b = true → A) (h2 : b = false → B) : if b = true then A else B := by
  cases b with
  | true => exact iteT (h1 rfl)
  | false => exact iteF (h2 rfl)
theorem ite_d {p : Prop} [Decidable p] {A B : Prop} (h1 : p → A) (h2 : ¬ p → B) : if decide p = true then A else B := ite_b (fun e => h1 (of_decide_eq_true e)) (fun e => h2 (of_decide_eq_false e))
theorem ite_nd {p : Prop} [Decidable p] {A B : Prop} (h1 : ¬ p → A) (h2 : p → B) : if (!decide p) = true then A else B := ite_b (fun e => h1 (of_decide_eq_false (by simpa using e))) (fun e => h2 (of_decide_eq_true (by simpa using e)))
end

/-! ### statements -/
section
variable {K : PySem.W.Frag} {σ : L2.St} {H : Hp} {D : Ends} {te ta : TE} {ts t u : TS} {tt : TT} {g : TG} {tx : TA} {v : V} {i : Nat} {QS : L2.St → Hp → Prop}
theorem seq (h : t { D with nx := u D } σ H) : tSeq t u D σ H := h
theorem asg (h : te σ H fun x H1 => g x σ H1 D.nx) : tAsg te g D σ H := h
theorem name (h : QS (σ.set i (some v)) H) : gName i v σ H QS := h
theorem ret (h : te σ H D.rt) : tRet te D σ H := h
theorem drop (h : te σ H fun _ H1 => D.nx σ H1) : tDrop te D σ H := h
theorem next (h : D.nx σ H) : tNext D σ H := h
theorem ifs (h : tt σ H fun b H1 => if b = true then t D σ H1 else u D σ H1) : tIfS tt t u D σ H := h
theorem par {j : Nat} (h : tx σ H fun vs H1 => ∃ v w, vs = [v, w] ∧ D.nx ((σ.set i (some v)).set j (some w)) H1) : tPar i j tx D σ H := h
theorem par2 {x y : V} {R : V → V → Prop} (h : R x y) : ∃ v w, [x, y] = [v, w] ∧ R v w := ⟨x, y, rfl, h⟩
theorem sub {to ti : TE} {s : TSet} (h : to σ H fun o H1 => ti σ H1 fun i H2 => s o i v H2 fun H3 => QS σ H3) : gSub to ti s v σ H QS := h
theorem setL {p : Addr} {xs : List V} {k : Int} {j : Nat} {R : Hp → Prop} (hx : H p = some (.lst xs)) (hi : ixN xs.length k = some j) (h : ∀ H2, KB p H H2 → H2 p = some (.lst (xs.set j v)) → R H2) : rSetL (.ref p) (.int k) v H R := ⟨p, xs, k, j, rfl, rfl, hx, hi, mutn h⟩
theorem gtup {n : Nat} {tg : TGs} {a : Addr} {xs : List V} (hx : SqT K H a xs) (hn : xs.length = n) (h : tg xs σ H QS) : gTup K n tg (.ref a) σ H QS := ⟨a, xs, rfl, hx, hn, h⟩
theorem gcons {tg : TG} {tgs : TGs} {vs : List V} (h : tg v σ H fun σ' H' => tgs vs σ' H' QS) : gCons tg tgs (v :: vs) σ H QS := ⟨v, vs, rfl, h⟩
theorem gnil (h : QS σ H) : gNil [] σ H QS := ⟨rfl, h⟩
theorem bm {T : String} {r : V → List V → Hp → VK → Prop} {Q : VK} (h : ta σ H fun x H1 => tyV K T x H1 ∧ tx σ H1 fun xs H2 => r x xs H2 Q) : tBM K T r ta tx σ H Q := h
theorem bmL {p : Addr} {xs : List V} {R : Prop} (hx : SqL K H p xs) (h : R) : tyV K "list" (.ref p) H ∧ R := ⟨.inl ⟨rfl, _, hx⟩, h⟩
theorem app {l : Addr} {xs : List V} {y : V} {Q : VK} (hx : H l = some (.lst xs)) (hz : xs.length < sizeLine) (h : ∀ H2, KB l H H2 → H2 l = some (.lst (xs ++ [y])) → Q .non H2) : rAppend (.ref l) [y] H Q := ⟨l, xs, y, rfl, rfl, hx, hz, mutn h⟩
end
end RD
namespace RD
open PySem PySem.Spec PyProof.Rows L2
theorem at_lt {α : Type} {xs : List α} {i : Int} (h0 : 0 ≤ i) (h1 : i < (xs.length : Int)) : ∃ v, atI xs i = some v ∧ xs[i.toNat]? = some v := by
  have h : i.toNat < xs.length := by omega
  obtain ⟨v, hv⟩ : ∃ v, xs[i.toNat]? = some v := ⟨_, List.getElem?_eq_getElem h⟩
  have z : atI xs ((i.toNat : Nat) : Int) = some v := atI_nat hv
  rw [show ((i.toNat : Nat) : Int) = i by omega] at z
  exact ⟨v, z, hv⟩
theorem at_map {ns : List Int} {i : Int} (h0 : 0 ≤ i) (h1 : i < ((ns.map V.int).length : Int)) : ∃ n, atI (ns.map V.int) i = some (.int n) ∧ ns[i.toNat]? = some n := by
  obtain ⟨v, e1, e2⟩ := at_lt h0 h1
  rw [List.getElem?_map] at e2
  cases h : ns[i.toNat]? with
  | none => rw [h] at e2; cases e2
  | some n => rw [h] at e2; cases e2; exact ⟨n, e1, rfl⟩
/-! ### loops and comprehensions -/
def ForG (J : It) (g : TG) (tb : TS) (D : Ends) (σ : L2.St) (H1 : Hp) : Prop := ∃ W : Nat → Nat → L2.St → Hp → Prop, (∃ m, W 0 m σ H1) ∧ ∀ i m σ H, W i m σ H →
  (J.stop i H ∧ D.nx σ H) ∨ (J.go i H ∧ ∃ N : L2.St → Hp → Prop, (∀ σ' H', N σ' H' → ∃ m', m' < m ∧ W (i + 1) m' σ' H') ∧ ∀ x H', J.yld i H x H' → g x σ H' fun σ2 H2 => tb { D with nx := N, ct := N, bk := D.nx } σ2 H2)
def LcG (J : It) (g : TG) (tt : TT) (te : TE) (vs : List Nat) (σ : L2.St) (H1 : Hp) (Q : VK) : Prop := ∀ D, H1 D = none → ∃ W : Nat → Nat → Hp → Prop, (∃ m, W 0 m (upd H1 D (.lst []))) ∧ ∀ i m H, W i m H →
  (J.stop i H ∧ Q (.ref D) H) ∨ (J.go i H ∧ ∃ Nx : Hp → Prop, (∀ H', Nx H' → ∃ m', m' < m ∧ W (i + 1) m' H') ∧ ∀ x H', J.yld i H x H' → g x (wipe σ vs) H' fun σ2 H2 => wipe σ2 vs = wipe σ vs ∧ tt σ2 H2 fun b H3 =>
    if b = true then te σ2 H3 fun y H4 => ∃ acc, H4 D = some (.lst acc) ∧ acc.length < sizeLine ∧ Nx (upd H4 D (.lst (acc ++ [y]))) else Nx H3)
section
variable {K : PySem.W.Frag} {J : It} {n : Nat} {G : Hp → Prop} {Y : Nat → Hp → V → Hp → Prop} {g : TG} {tt : TT} {te : TE} {tb : TS} {D : Ends} {vs : List Nat} {σ : L2.St} {H1 H : Hp} {Q : VK} {wi : TI} {tx : TA} {R : It → Hp → Prop}
theorem fors (h : wi σ H fun J H1 => ForG J g tb D σ H1) : tFor wi g tb D σ H := h
theorem lc (h : wi σ H fun J H1 => LcG J g tt te vs σ H1 Q) : tLc wi g tt te vs σ H Q := h
theorem yes {QB : Bool → Hp → Prop} (h : QB true H) : tYes σ H QB := h
theorem ilist (h : te σ H fun x H1 => ∃ a, x = .ref a ∧ (∃ xs, SqL K H1 a xs) ∧ R (Itl K a) H1) : iList K te σ H R := h
theorem ilistV {a : Addr} {xs : List V} {S : Addr → Prop} (hx : SqL K H a xs) (h : S a) : ∃ b, V.ref a = .ref b ∧ (∃ xs, SqL K H b xs) ∧ S b := ⟨a, rfl, ⟨xs, hx⟩, h⟩
theorem itup (h : te σ H fun x H1 => ∃ a, x = .ref a ∧ (∃ xs, SqT K H1 a xs) ∧ R (Itt K a) H1) : iTup K te σ H R := h
theorem itupV {a : Addr} {xs : List V} {S : Addr → Prop} (hx : SqT K H a xs) (h : S a) : ∃ b, V.ref a = .ref b ∧ (∃ xs, SqT K H b xs) ∧ S b := ⟨a, rfl, ⟨xs, hx⟩, h⟩
theorem irng1 (h : tx σ H fun vs H1 => ∃ j : Int, vs = [.int j] ∧ -(2 ^ 62) ≤ j ∧ j < 2 ^ 62 ∧ R (Itr 0 j.toNat) H1) : iRng1 tx σ H R := h
theorem irng1V {j : Int} {S : Int → Prop} (h1 : -(2 ^ 62) ≤ j) (h2 : j < 2 ^ 62) (h : S j) : ∃ k : Int, [V.int j] = [.int k] ∧ -(2 ^ 62) ≤ k ∧ k < 2 ^ 62 ∧ S k := ⟨j, rfl, h1, h2, h⟩
theorem irng2 (h : tx σ H fun vs H1 => ∃ i j : Int, vs = [.int i, .int j] ∧ (-(2 ^ 62) ≤ i ∧ i < 2 ^ 62 ∧ -(2 ^ 62) ≤ j ∧ j < 2 ^ 62) ∧ R (Itr i (j - i).toNat) H1) : iRng2 tx σ H R := h
theorem irng2V {i j : Int} {S : Int → Int → Prop} (h1 : -(2 ^ 62) ≤ i ∧ i < 2 ^ 62 ∧ -(2 ^ 62) ≤ j ∧ j < 2 ^ 62) (h : S i j) : ∃ a b : Int, [V.int i, V.int j] = [.int a, .int b] ∧ (-(2 ^ 62) ≤ a ∧ a < 2 ^ 62 ∧ -(2 ^ 62) ≤ b ∧ b < 2 ^ 62) ∧ S a b := ⟨i, j, rfl, h1, h⟩
theorem ienum (h : tx σ H fun vs H1 => ∃ a xs, vs = [.ref a] ∧ SqL K H1 a xs ∧ R (Ite K a) H1) : iEnum K tx σ H R := h
theorem ienumV {a : Addr} {xs : List V} {S : Addr → Prop} (hx : SqL K H a xs) (h : S a) : ∃ b ys, [V.ref a] = [.ref b] ∧ SqL K H b ys ∧ S b := ⟨a, xs, rfl, hx, h⟩
theorem izip (h : tx σ H fun vs H1 => ∃ a b xs ys, vs = [.ref a, .ref b] ∧ SqL K H1 a xs ∧ SqL K H1 b ys ∧ R (Itz K a b) H1) : iZip K tx σ H R := h
theorem izipV {a b : Addr} {xs ys : List V} {S : Addr → Addr → Prop} (hx : SqL K H a xs) (hy : SqL K H b ys) (h : S a b) : ∃ c d xs ys, [V.ref a, V.ref b] = [.ref c, .ref d] ∧ SqL K H c xs ∧ SqL K H d ys ∧ S c d := ⟨a, b, xs, ys, rfl, hx, hy, h⟩
theorem istr (h : te σ H fun v H1 => ∃ x, v = .str x ∧ R (Its x) H1) : iStr te σ H R := h
theorem istrV {z : Str} {S : Str → Prop} (h : S z) : ∃ x, V.str z = .str x ∧ S x := ⟨z, rfl, h⟩
theorem forW (w : Walk J n G Y) (Pv : Nat → L2.St → Hp → Prop) (h0 : Pv 0 σ H) (hG : ∀ i σ H, i ≤ n → Pv i σ H → G H)
    (hs : ∀ i x σ H H', i < n → Pv i σ H → Y i H x H' → g x σ H' fun σ2 H2 => tb { D with nx := Pv (i + 1), ct := Pv (i + 1), bk := D.nx } σ2 H2) (hd : ∀ σ H, Pv n σ H → D.nx σ H) : ForG J g tb D σ H := for_it w Pv h0 hG hs hd
theorem lcW (w : Walk J n G Y) (hn : n ≤ 16777216)
    (h : ∀ D H2, H1 D = none → Same H1 H2 → H2 D = some (.lst []) → ∃ Pv : Nat → List V → Hp → Prop, Pv 0 [] H2 ∧ (∀ i acc H, i ≤ n → Pv i acc H → G H) ∧
      (∀ i x acc H H' (Z : VK) (N : Hp → Prop), i < n → Pv i acc H → H D = some (.lst acc) → Y i H x H' →
        (∀ y H4, H4 D = some (.lst acc) → (∀ H5, KB D H4 H5 → H5 D = some (.lst (acc ++ [y])) → Pv (i + 1) (acc ++ [y]) H5) → Z y H4) → (∀ H4, H4 D = some (.lst acc) → Pv (i + 1) acc H4 → N H4) →
        g x (wipe σ vs) H' fun σ2 H2 => wipe σ2 vs = wipe σ vs ∧ tt σ2 H2 fun b H3 => if b = true then te σ2 H3 Z else N H3) ∧
      (∀ acc H, Pv n acc H → H D = some (.lst acc) → Q (.ref D) H)) : LcG J g tt te vs σ H1 Q := by
  intro D hD
  obtain ⟨Pv, p0, pG, ps, pd⟩ := h D (upd H1 D (.lst [])) hD (same_new hD) upd_same
  refine lc_it w (fun i H => ∃ acc, acc.length ≤ i ∧ H D = some (.lst acc) ∧ Pv i acc H) ⟨[], Nat.le_refl _, upd_same, p0⟩ (fun i H hi ⟨acc, _, _, p⟩ => pG i acc H hi p) (fun i x H H' hi ⟨acc, hl, hD', p⟩ hy => ?_) (fun H ⟨acc, _, hD', p⟩ => pd acc H p hD')
  refine ps i x acc H H' _ _ hi p hD' hy (fun y H4 h4 h5 => ⟨acc, h4, by rw [sizeLine_eq]; omega, acc ++ [y], by rw [List.length_append]; simp; omega, upd_same, h5 _ kb_upd upd_same⟩) (fun H4 h4 h5 => ⟨acc, by omega, h4, h5⟩)
/-- pairs laid anew, the heap told by what it holds -/
def YP (xs ys : Nat → Option V) : Nat → Hp → V → Hp → Prop := fun i H v H' => ∃ T x y, v = .ref T ∧ H T = none ∧ Same H H' ∧ H' T = some (.tup [x, y]) ∧ xs i = some x ∧ ys i = some y
theorem yp {xs ys : Nat → Option V} {i : Nat} {H : Hp} {v : V} {H' : Hp} (h : YPair xs ys i H v H') : YP xs ys i H v H' := by
  obtain ⟨T, x, y, rfl, hT, rfl, h1, h2⟩ := h
  exact ⟨T, x, y, rfl, hT, same_new hT, upd_same, h1, h2⟩
theorem w_enum {a : Addr} {xs : List V} : Walk (Ite K a) xs.length (fun H => SqL K H a xs) (YP (fun i => some (.int (i : Nat))) (fun i => xs[i]?)) := walk_enum.mono (fun _ h => h) fun _ _ _ _ _ _ y => yp y
theorem w_zip {a b : Addr} {xs ys : List V} {n : Nat} (hn : n = min xs.length ys.length) : Walk (Itz K a b) n (fun H => SqL K H a xs ∧ SqL K H b ys) (YP (fun i => xs[i]?) (fun i => ys[i]?)) := (walk_zip hn).mono (fun _ h => h) fun _ _ _ _ _ _ y => yp y
/-- a comprehension that only makes: every item comes to what fs says (none: left out) -/
theorem lcF {fs0 : List V} (w : Walk J n G (YAt fs0)) (hn : n ≤ 16777216) (os : Nat → Option V) (hG : ∀ H', Same H1 H' → G H')
    (hs : ∀ i x H' (Z : VK) (N : Hp → Prop), i < n → fs0[i]? = some x → Same H1 H' → (∀ y H4, os i = some y → Same H' H4 → Z y H4) → (∀ H4, os i = none → Same H' H4 → N H4) →
        g x (wipe σ vs) H' fun σ2 H2 => wipe σ2 vs = wipe σ vs ∧ tt σ2 H2 fun b H3 => if b = true then te σ2 H3 Z else N H3)
    (hd : ∀ D H', H1 D = none → Same H1 H' → H' D = some (.lst ((List.range n).filterMap os)) → Q (.ref D) H') : LcG J g tt te vs σ H1 Q := by
  refine lcW w hn fun D H2 hD hs2 hv => ⟨fun i acc H => Same H1 H ∧ acc = (List.range i).filterMap os, ⟨hs2, rfl⟩, fun i acc H _ p => hG H p.1, fun i x acc H H' Z N hi p hDa hy hZ hN => ?_, fun acc H p hDa => hd D H hD p.1 (by rw [hDa, p.2])⟩
  obtain ⟨rfl, hx⟩ := hy
  refine hs i x H' Z N hi hx p.1 (fun y H4 e s4 => hZ y H4 (s4 _ _ hDa) fun H5 k5 h5 => ⟨?_, ?_⟩) (fun H4 e s4 => hN H4 (s4 _ _ hDa) ⟨p.1.trans s4, ?_⟩)
  · exact same_mut k5 (p.1.trans s4) hD
  · rw [List.range_succ, List.filterMap_append, ← p.2]
    simp [e]
  · rw [List.range_succ, List.filterMap_append, ← p.2]
    simp [e]
/-- the same over pairs laid anew -/
theorem lcP {fx fy : Nat → Option V} (w : Walk J n G (YP fx fy)) (hn : n ≤ 16777216) (os : Nat → Option V) (hG : ∀ H', Same H1 H' → G H')
    (hs : ∀ i T x y H' (Z : VK) (N : Hp → Prop), i < n → fx i = some x → fy i = some y → Same H1 H' → H' T = some (.tup [x, y]) → (∀ y H4, os i = some y → Same H' H4 → Z y H4) → (∀ H4, os i = none → Same H' H4 → N H4) →
        g (.ref T) (wipe σ vs) H' fun σ2 H2 => wipe σ2 vs = wipe σ vs ∧ tt σ2 H2 fun b H3 => if b = true then te σ2 H3 Z else N H3)
    (hd : ∀ D H', H1 D = none → Same H1 H' → H' D = some (.lst ((List.range n).filterMap os)) → Q (.ref D) H') : LcG J g tt te vs σ H1 Q := by
  refine lcW w hn fun D H2 hD hs2 hv => ⟨fun i acc H => Same H1 H ∧ acc = (List.range i).filterMap os, ⟨hs2, rfl⟩, fun i acc H _ p => hG H p.1, fun i x acc H H' Z N hi p hDa hy hZ hN => ?_, fun acc H p hDa => hd D H hD p.1 (by rw [hDa, p.2])⟩
  obtain ⟨T, x1, y1, rfl, hT, s3, h3, hx, hy⟩ := hy
  refine hs i T x1 y1 H' Z N hi hx hy (p.1.trans s3) h3 (fun y H4 e s4 => hZ y H4 (s4 _ _ (s3 _ _ hDa)) fun H5 k5 h5 => ⟨?_, ?_⟩) (fun H4 e s4 => hN H4 (s4 _ _ (s3 _ _ hDa)) ⟨(p.1.trans s3).trans s4, ?_⟩)
  · exact same_mut k5 ((p.1.trans s3).trans s4) hD
  · rw [List.range_succ, List.filterMap_append, ← p.2]
    simp [e]
  · rw [List.range_succ, List.filterMap_append, ← p.2]
    simp [e]
end
theorem range_get {α β : Type} (f : α → β) : ∀ l : List α, (List.range l.length).filterMap (fun i => (l[i]?).map f) = l.map f
  | [] => rfl
  | a :: l => by
    have ih := range_get f l
    rw [List.length_cons, List.range_succ_eq_map, List.filterMap_cons]
    simp only [List.getElem?_cons_zero, Option.map_some, List.filterMap_map, List.map_cons]
    rw [← ih]
    rfl
end RD

/-! an own exception whose __init__ is super().__init__(x); self.f = x -/
namespace SPX
open PySem PySem.Spec PyProof.Rows L2 NdefX PySem.W

section
variable {prog : Program} {w : World} {A : Around} {E : Value → Shared → Prop} {h : Heap} {g : Array GenState} {d : Drawn} {t : Nat} {os : OsState}
variable {nm q : Str} {C N : Addr} {bs bm : List Value} {hdct : Bool} {sn : List Str} {sub : List Value} {ab : Bool} {col : Option Bool} {dd : Option Addr} {k0 k1 k2 k3 k5 : Option Value}
/-- the bound ValueError.__init__ called -/
theorem call_mw {u e t0 : Addr} {rest : List Value} {Q : Value → Shared → Prop}
    (hC : h.get? C = some (excClassObj nm q C N bs bm hdct sn sub ab col dd k0 k1 k2 k3 k5 "ValueError.__new__")) (he : h.get? e = some (HandSPX.excO C t0)) (hu : h.get? u = some (kxs_mw "ValueError.__init__" e)) (hrest : rest.length ≤ sizeLine)
    (hq : ∀ h' t1, (∀ b o, b ≠ e → h.get? b = some o → h'.get? b = some o) → h'.get? e = some (HandSPX.excO C t1) → Q .none ⟨h', g, d, t, os⟩) :
    wpAny (model prog w) A (call (.ref u) rest) Q E ⟨h, g, d, t, os⟩ := by
  refine wpAny_call (codeAny_of_tree ?_)
  show wpAny _ A.in1 (callAny (.ref u) ⟨rest, []⟩) _ _ _
  simp only [callAny]
  refine wpAny_bind (wpAny_load hu ?_)
  simp only [kxs_mw, show (Value.type "method-wrapper" == Value.type "method" || Value.type "method-wrapper" == Value.type "builtin_function_or_method" || Value.type "method-wrapper" == Value.type "method-wrapper") = true by decide, if_true]
  refine W.KFB.if_so (by decide) ?_
  refine wpAny_bind (check_bound_init F.excBase_ValueError.toExcCallFacts hC he rfl ?_)
  refine wpAny_bind (wpAny_pure (wpAny_pure ?_))
  refine ⟨plainId_quiet F.excBase_ValueError.init.plain _, codeAny_builtin F.excBase_ValueError.initEntry ?_⟩
  rw [Around.under_plainId F.excBase_ValueError.init.plain _]
  wp_walk
  refine hq _ h.objs.size (fun b o hb ho => ?_) ?_
  · rw [Heap.get?_update_other _ _ (Ne.symm hb)]
    exact Heap.get?_push_of_some _ ho
  · rw [Heap.get?_update_self _ (Heap.get?_push_of_some _ he) rfl]
    rfl
end

/-- what is known of such a class and its __init__ -/
structure SiC (P : Program) (K : PySem.W.Frag) (mg : Str → Option Value) (st : Stmt) (qual fld prm : Str) (D f : Addr) (fd : FuncData) : Prop where
  oex : OexC K D
  sc : NScope ["self", prm, "__class__"] ["self", prm] ["__class__"] (defScope st)
  sup : (defScope st).names.lookup ("super" : Str) = some .globalImplicit
  body : ∃ p0 p1 p2 p3 p4 p5 p6 p7 p8 p9, defBody st = [.Expr (.Call (.Attribute (.Call (.Name "super" p0) [] [] p1) "__init__" p2) [.Name prm p3] [] p4) p5, .Assign [.Attribute (.Name "self" p6) fld p7] (.Name prm p8) p9] ∧
    ∃ pl : Sem Bool, ∀ (L f cda cc : Addr), eval (.Call (.Attribute (.Call (.Name "super" p0) [] [] p1) "__init__" p2) [.Name prm p3] [] p4) (PySem.W.envX qual (defScope st) L f (.ref cda) [("__class__", cc)]) = (do
      let ov ← attributeBase (.Call (.Name "super" p0) [] [] p1) "__init__" (PySem.W.envX qual (defScope st) L f (.ref cda) [("__class__", cc)]) (eval (.Call (.Name "super" p0) [] [] p1) (PySem.W.envX qual (defScope st) L f (.ref cda) [("__class__", cc)]))
      standAt p2.atName
      let (f', first) ← holding [ov] (getMethod ov "__init__" pl)
      callWith p4 f' first (backTo p4 (starEach [.Name prm p3] (PySem.W.envX qual (defScope st) L f (.ref cda) [("__class__", cc)]))) [])
  head : ((defArgs st).posonlyargs ++ (defArgs st).args).head?.map (·.arg) = some "self"
  fdI : ∃ oc od osl kV doc pm an cda cc ct ccl cdd vs ccs file tf cl cld csl, fd = PySem.W.fnX "__init__" qual (defArgs st) (defBody st) (defScope st) [("__class__", cc)] .none kV doc pm an (.ref cda) ct ∧
    K.lookup f = some ⟨oc, od, .func fd, osl⟩ ∧ PySem.W.codeIn K (.ref cda) qual = true ∧ K.lookup cda = some ⟨ccl, cdd, .fields vs, ccs⟩ ∧ vs[2]? = some (.str file tf) ∧ ((P.main.file : Str) == file) = true ∧
    K.lookup cc = some ⟨cl, cld, .cell (some (.ref D)), csl⟩
  cls : (PySem.W.clsIn K D).isSome = true
  sub : PySem.W.mroIn K D (.ref D) = some true
  subV : PySem.W.subIn K (.ref D) (.type "ValueError") = some true
  top : (P.main.scope.names.lookup ("super" : Str)).isSome = false
  opq : PySem.W.nsIn K cStatics "thirdparty.any" = some none
  sin : PySem.W.ks_superIn K D D "__init__" = some (some (.builtin "ValueError.__init__"))
  nos : mg "super" = none
  hno : PySem.W.findIn K (.ref D) fld = some none
  nd : (prm == ("__debug__" : Str)) = false
  nc : (prm == ("__classdict__" : Str)) = false

def spSi (D : Addr) (fld : Str) : Sp := fun vs H Q _ => ∃ (a : Addr) (v : V), vs = [.ref a, v] ∧ H a = some (exo a D none) ∧ ∀ d, H d = none → d ≠ a → Q .non (upd (upd H d (exd d [(fld, v)])) a (exo a D (some d)))

section
variable {P : Program} {w : World} {K : PySem.W.Frag} {mg : Str → Option Value} {base : Heap} {CX : CXT}
theorem si_ok {st : Stmt} {qual fld prm : Str} {D f : Addr} {fd : FuncData} {k : Nat} (T : SiC P K mg st qual fld prm D f fd) : FnOk P w K mg base CX (k + 1) f fd ["self", prm] (spSi D fld) := by
  refine ⟨fun vs H Q E h => by obtain ⟨a, v, rfl, _⟩ := h; rfl, fun A outer s H args us vs Q E hr e0 hb r hsp => ?_⟩
  obtain ⟨a, v, rfl, ha, q⟩ := hsp
  obtain ⟨p0, p1, p2, p3, p4, p5, p6, p7, p8, p9, hbody, pl, hev⟩ := T.body
  obtain ⟨oc, od, osl, kV, doc, pm, an, cda, cc, ct, ccl, cdd, cvs, ccs, file, tf, cl, cld, csl, rfl, lk, hcd, hcode, hvs, hfile, hcell⟩ := T.fdI
  have KX : K.In s.heap := e0.mod.kin.keeps fun b o e => (e0.bs b o e).1
  have lim : s.heap.NoLimit := e0.mod.nolimit.keeps fun b o e => (e0.bs b o e).1
  have hlen : (["self", prm] : List Str).length = us.length := by rw [← r.length]; rfl
  have S := T.sc
  refine ks_codeAny_call_defAt (fd := PySem.W.fnX "__init__" qual (defArgs st) (defBody st) (defScope st) [("__class__", cc)] .none kV doc pm an (.ref cda) ct) (body := defBody st) (binds := (["self", prm] : List Str).zip us) hr.depth (KX _ _ lk) rfl lim (PySem.W.codeRec_of KX hcd) rfl hb S.nocell (fun ⟨n, _⟩ hy => S.par n (List.of_mem_zip hy).1) (fun h₁ hns kp => ?_) S.co S.gen S.kind
  let F : NF := ⟨"__init__", qual, defArgs st, defBody st, defScope st, [("__class__", cc)], cda⟩
  show _root_.PySem.wpAt (model P w) (A.deeper (envF F f s.heap.objs.size)) (.func (defBody st) (envF F f s.heap.objs.size)) (execs (defBody st) (envF F f s.heap.objs.size)) _ _ _
  have hbc := e0.bs cc _ (e0.mod.kin _ _ hcell)
  have C : CellsAt F.cl ["__class__"] [some (.ref D)] s.heap H := by
    have look : ∀ y c, F.cl.lookup y = some c → c = cc := fun y c e => by
      have e' : List.lookup y [(("__class__" : Str), cc)] = some c := e
      simp only [List.lookup] at e'
      split at e' <;> simp at e' <;> exact e'.symm
    refine ⟨rfl, fun y c e => ?_, fun x y c e1 e2 => ?_, fun i y e => ?_⟩
    · rw [look y c e]
      exact ⟨hbc.2, _, _, hbc.1, rfl⟩
    · have key : ∀ z, List.lookup z [(("__class__" : Str), cc)] = some c → z = ("__class__" : Str) := fun z e' => by
        simp only [List.lookup] at e'
        split at e'
        · rename_i hz
          exact beq_iff_eq.mp hz
        · cases e'
      rw [key x e1, key y e2]
    · cases i with
      | zero =>
        simp at e
        subst e
        refine ⟨cc, by show List.lookup ("__class__" : Str) [(("__class__" : Str), cc)] = some cc; simp [List.lookup], fun v' hv' => ?_⟩
        simp at hv'
        subst hv'
        exact ⟨.ref D, rfl, _, hbc.1, rfl⟩
      | succ i => simp at e
  have I : Inv (ncx CX P w K mg base ["self", prm, "__class__"] F f A outer s H E) [] (startF ["self", prm, "__class__"] [.ref a, v] [some (.ref D)]) H { s with heap := h₁, toks := s.toks + ((["self", prm] : List Str).zip us).length } :=
    inv_startN S hr.hd e0 rfl r C hns kp
  generalize hs1 : ({ s with heap := h₁, toks := s.toks + ((["self", prm] : List Str).zip us).length } : Shared) = s1 at I ⊢
  have kloc : ∀ x ∈ (["self", prm] : List Str), (defScope st).names.lookup x = some .local := S.par
  have vis0 : Vis (ncx CX P w K mg base ["self", prm, "__class__"] F f A outer s H E).env.scope "self" := .inl (kloc "self" (by simp))
  have vis1 : Vis (ncx CX P w K mg base ["self", prm, "__class__"] F f A outer s H E).env.scope prm := .inl (kloc prm (by simp))
  have hσ : startF ["self", prm, "__class__"] [.ref a, v] [some (.ref D)] = [some (.ref a), some v, some (.ref D)] := rfl
  rw [hσ] at I
  have h0 : (ncx CX P w K mg base ["self", prm, "__class__"] F f A outer s H E).N[0]? = some ("self" : Str) := rfl
  have h1 : (ncx CX P w K mg base ["self", prm, "__class__"] F f A outer s H E).N[1]? = some prm := rfl
  obtain ⟨ar, har, hself⟩ : ∃ ar, ((defArgs st).posonlyargs ++ (defArgs st).args).head? = some ar ∧ ar.arg = ("self" : Str) := by
    have z := T.head
    cases e : ((defArgs st).posonlyargs ++ (defArgs st).args).head? with
    | none => rw [e] at z; cases z
    | some ar => rw [e] at z; exact ⟨ar, rfl, Option.some.inj z⟩
  obtain ⟨cdD, hclsD⟩ := Option.isSome_iff_exists.mp T.cls
  obtain ⟨nm, qn, Nn, bs, bm, sn, sub, ab, col, dd, k0, k1, k2, k3, k5, hC0, hbm⟩ := T.oex.cls
  have hkc : (envF F f s.heap.objs.size).kindOf "__class__" = some .free := S.frk "__class__" (by simp)
  have hcl1 : (envF F f s.heap.objs.size).cells.lookup ("__class__" : Str) = some cc := by show List.lookup ("__class__" : Str) [(("__class__" : Str), cc)] = some cc; simp [List.lookup]
  have I0 := I
  clear hs1
  obtain ⟨hh, g, dr, tk, os1⟩ := s1
  obtain ⟨oD, hD1, hD2⟩ : ∃ oD, hh.get? D = some oD ∧ oD.data = .cls cdD := by
    unfold PySem.W.clsIn at hclsD
    split at hclsD
    · rename_i c d cd' sl ho
      cases hclsD
      exact ⟨_, I.kIn _ _ ho, rfl⟩
    · cases hclsD
  rw [show execs (defBody st) (envF F f s.heap.objs.size) = execs [.Expr (.Call (.Attribute (.Call (.Name "super" p0) [] [] p1) "__init__" p2) [.Name prm p3] [] p4) p5, .Assign [.Attribute (.Name "self" p6) fld p7] (.Name prm p8) p9] (envF F f s.heap.objs.size) from by rw [hbody]]
  have hint : interactive (envF F f s.heap.objs.size) = false := by
    unfold interactive
    rw [show (envF F f s.heap.objs.size).scope.kind = .function from S.kind]
    rfl
  refine ks_wpAt_execs_cons (ks_wpAt_Expr_any (ks_wpAt_MethodCall (pl := pl) ?_ (hev _ _ _ _)) (hi := hint))
  refine ks_wpAt_super_base (fd := PySem.W.fnX "__init__" qual (defArgs st) (defBody st) (defScope st) [("__class__", cc)] .none kV doc pm an (.ref cda) ct) (ar := ar) T.sup hkc (by decide) rfl (I.kIn _ _ lk) rfl har rfl (I.kIn _ _ hcode) rfl hvs hfile T.top ?_
  obtain ⟨mb, hb1, hb2⟩ := I.mod.blt
  refine ks_loadName_global S.kind T.sup (Calls.loadGlobal_builtin (I.mod.glob.keeps I.bk) T.nos (hb1.keeps I.bk) ((hb2 "super" (by decide)).trans (by decide +kernel)) ⟨rfl, ?_⟩)
  refine wpAny_loadName_free S.kind hkc hcl1 ⟨_, I.kIn _ _ hcell, rfl⟩ ?_
  obtain ⟨m, hn, hl⟩ := I.loc
  obtain ⟨u0, ru0, lk0⟩ := hl 0 "self" (.ref a) h0 rfl vis0
  obtain rfl : u0 = Value.ref a := ru0
  have hm0 : m "self" = some (.ref a) := by
    rcases lk0 with ⟨_, e⟩ | ⟨kk, _⟩
    · exact e
    · have kk : (defScope st).names.lookup ("self" : Str) = some .cell ∨ (defScope st).names.lookup ("self" : Str) = some .free := kk
      rw [kloc "self" (by simp)] at kk
      rcases kk with kk | kk <;> cases kk
  rw [hself]
  refine wpAny_loadName_local S.kind (kloc "self" (by simp)) hn hm0 ?_
  refine ks_wpAny_isType_cls hD1 hD2 ⟨rfl, ?_⟩
  obtain ⟨t1, hx⟩ := exo_at I.hok ha
  refine ks_wpAny_call_super hD1 hD2 hx rfl (fun c e => nomatch e) (PySem.W.looks_mroIn I.kIn T.sub) (fun h' e k => ?_)
  have I2 : Inv (ncx CX P w K mg base ["self", prm, "__class__"] F f A outer s H E) [] [some (.ref a), some v, some (.ref D)] H ⟨h', g, dr, tk, os1⟩ := I.kept (h' := h') (t' := tk) k
  have hx2 : h'.get? a = some ({ cls := .ref D, dict := none, data := .fields #[.ref t1, .none, .none, .none, .bool false, .none] } : Obj) := k _ _ hx
  have IA : PySem.W.InstAt h' a ({ cls := .ref D, dict := none, data := .fields #[.ref t1, .none, .none, .none, .bool false, .none] } : Obj) D none := ⟨hx2, rfl, rfl, trivial⟩
  have hsin := T.sin
  unfold PySem.W.ks_superIn at hsin
  rw [hclsD] at hsin
  refine kxs_getMethod kxs_ValueError e (looks_opaque I2.kIn T.opq) (l₀ := cdD.mro) (fun A Q E s k q => wpAny_bind ((PySem.W.looks_clsIn I2.kIn hclsD) A _ E s k (wpAny_pure q))) rfl I2.kIn hsin (IA.type.andThen (PySem.W.looks_subIn I2.kIn T.subV)) (PySem.W.ks_ne I2.kIn IA hclsD) (by decide) ?_
  have kp3 : ∀ b u, h'.get? b = some u → (h'.push (kxs_mw "ValueError.__init__" a)).get? b = some u := fun b u z => Heap.get?_push_of_some _ z
  have I3 : Inv (ncx CX P w K mg base ["self", prm, "__class__"] F f A outer s H E) [] [some (.ref a), some v, some (.ref D)] H ⟨h'.push (kxs_mw "ValueError.__init__" a), g, dr, tk + 1, os1⟩ := I2.kept (h' := h'.push (kxs_mw "ValueError.__init__" a)) (t' := tk + 1) kp3
  have hu3 : (h'.push (kxs_mw "ValueError.__init__" a)).get? h'.objs.size = some (kxs_mw "ValueError.__init__" a) := Heap.get?_push_at rfl rfl
  have I3p : Inv (ncx CX P w K mg base ["self", prm, "__class__"] F f A outer s H E) [(h'.objs.size, kxs_mw "ValueError.__init__" a)] [some (.ref a), some v, some (.ref D)] H ⟨h'.push (kxs_mw "ValueError.__init__" a), g, dr, tk + 1, os1⟩ :=
    I3.pins_of fun p hp => by
      obtain rfl := List.mem_singleton.mp hp
      exact ⟨hu3, I2.hok.fresh (Nat.le_refl _), Nat.ne_of_gt I2.lt, I2.nofs (Nat.le_refl _), fun v z => nomatch z⟩
  show wpAny _ _ (callWith p4 (.ref h'.objs.size) [] (backTo p4 (starEach [.Name prm p3] (envF F f s.heap.objs.size))) []) _ _ _
  rw [show starEach [Expr.Name prm p3] (envF F f s.heap.objs.size) = (false, eval (.Name prm p3) (envF F f s.heap.objs.size)) :: starEach [] (envF F f s.heap.objs.size) from rfl]
  refine PySem.W.kxs_callWith (i := "ValueError.__init__") (x := a) rfl ?_
  refine Calls.evalArgs_plain ?_
  refine thn ((pa_cons (X := ncx CX P w K mg base ["self", prm, "__class__"] F f A outer s H E) (pe_var h1 vis1 T.nd T.nc) pa_nil).run p4 _ _ _ _ (fun vs H2 => vs = [v] ∧ H2 = H) I3p ⟨v, rfl, rfl, rfl⟩) fun us2 s2 hh2 => ?_
  obtain ⟨vs2, H2, I4, r4, rfl, rfl⟩ := hh2
  obtain ⟨hu4, _⟩ := I4.pin (h'.objs.size, kxs_mw "ValueError.__init__" a) (List.mem_append_right _ (List.mem_singleton.mpr rfl))
  refine ⟨hu4, ?_⟩
  obtain ⟨t4, hx4⟩ := exo_at I4.hok ha
  obtain ⟨hh4, g4, dr4, tk4, os4⟩ := s2
  have hl4 : us2.length ≤ sizeLine := by
    rw [← r4.length, sizeLine_eq]
    show 1 ≤ _
    omega
  refine call_mw (I4.kIn _ _ hC0) hx4 hu4 hl4 fun h5 t5 k5 hx5 => ?_
  have J := I4.write (t' := tk4) (x := a) (e := a) (o := exo a D none) (by rw [ha]; exact True.intro) (.inl rfl) k5 ⟨_, hx5⟩ (exo_ok hx5)
  have eu : upd H2 a (exo a D none) = H2 := by
    funext b
    by_cases hb : b = a
    · rw [hb, upd_same, ha]
    · rw [upd_ne hb]
  rw [eu] at J
  have J0 := J.pins_of (pins' := []) fun p hp => absurd hp (by simp)
  show _root_.PySem.wpAt _ _ _ (execs [.Assign [.Attribute (.Name "self" p6) fld p7] (.Name prm p8) p9] (envF F f s.heap.objs.size)) _ _ _
  refine _root_.PySem.wpAt_of_wpAny ?_
  refine wpAny_mono ((pss_one (ps_ost (X := ncx CX P w K mg base ["self", prm, "__class__"] F f A outer s H2 E) (f := fld) (pe_var h0 vis0) (pe_var h1 vis1 T.nd T.nc))).run [] _ _ _ { nx := fun _ H' => Q .non H', rt := Q } J0 ⟨v, rfl, .ref a, rfl, a, D, rfl, T.oex, T.hno, .inl ⟨ha, fun dx n ne => q dx n ne⟩⟩) (fun fl s' hs => ?_) fun e s' hs => hs
  cases fl with
  | ret u =>
    obtain ⟨v', σ', H', J', rv, q'⟩ := hs
    exact ⟨v', H', J'.os, J'.bare, J'.base, J'.hok, rv, q'⟩
  | next =>
    obtain ⟨σ', H', J', q'⟩ := hs
    exact ⟨V.non, H', J'.os, J'.bare, J'.base, J'.hok, rfl, q'⟩
  | brk =>
    obtain ⟨_, _, _, q'⟩ := hs
    exact False.elim q'
  | cont =>
    obtain ⟨_, _, _, q'⟩ := hs
    exact False.elim q'
end

/-! ### exceptions held as values -/
/-- isinstance(e, c), e an exception that the heap tracks -/
def rIsO (K : PySem.W.Frag) : List V → Hp → VK → Prop := fun xs H Q => ∃ (a D : Addr) (d : Option Addr) (c : V) (cv : Value) (b : Bool), xs = [.ref a, c] ∧ H a = some (exo a D d) ∧ (∀ dx, d = some dx → ∃ fs, H dx = some (exd dx fs)) ∧ ExcC K D ∧ ClsV c cv ∧ PySem.W.kitOne K (.ref D) cv = some b ∧ Q (.bl b) H
theorem call_isO {X : Cx} : CallR X (.builtin "isinstance") (rIsO X.K) := by
  intro pins s σ H xs us Q I r h
  obtain ⟨a, D, d, c, cv, b, rfl, ha, hd, C, hcv, e, q⟩ := h
  cases r with
  | cons rx rr =>
    cases rr with
    | cons rt rr =>
      cases rr
      cases rx
      have ec := hcv.eq rt
      subst ec
      obtain ⟨t1, ho⟩ := exo_at I.hok ha
      have hcl : (PySem.W.clsIn X.K D).isSome = true := by
        obtain ⟨cd, hc, _⟩ := PySem.W.any_some C.hd
        rw [hc]
        rfl
      cases d with
      | none =>
        have J : PySem.W.InstAt s.heap a ({ cls := .ref D, dict := none, data := .fields #[.ref t1, .none, .none, .none, .bool false, .none] } : Obj) D none := ⟨ho, rfl, rfl, trivial⟩
        exact PySem.W.kia_one (PySem.W.kitx_exc hcl C.hg C.hk C.hs C.ha C.hn C.ht C.hm) I.kIn J e (fun z => nomatch z) fun tk => ⟨.bl b, H, I.tok tk, rfl, q⟩
      | some dx =>
        obtain ⟨fs, hdx⟩ := hd dx rfl
        obtain ⟨mA, hns, rel⟩ := exd_at I.hok hdx
        obtain ⟨oD, _, _, hoD, _⟩ := hns
        have J : PySem.W.InstAt s.heap a ({ cls := .ref D, dict := some dx, data := .fields #[.ref t1, .none, .none, .none, .bool false, .none] } : Obj) D (some oD) := ⟨ho, rfl, rfl, hoD⟩
        exact PySem.W.kia_one (PySem.W.kitx_exc hcl C.hg C.hk C.hs C.ha C.hn C.ht C.hm) I.kIn J e (fun z => nomatch z) fun tk => ⟨.bl b, H, I.tok tk, rfl, q⟩
/-- X(), an own exception class without own __init__ -/
def tExo0 (C : Addr) : TE := fun _ H Q => ∀ a, H a = none → Q (.ref a) (upd H a (exo a C none))
section
variable {X : Cx} {CX : CXT} {C f : Addr} {x n : Str} {e : Expr} {es : List Expr} {te : TE} {ta : TA} {p pos : Pos} {sp : Sp} {dvs : List V} {ds : List Value} {k : Nat} {fd : FuncData} {ps : List Str}
theorem pe_exo0 (q : PySem.W.excIn X.K C [.type "ValueError", .type "Exception", .type "BaseException", .type "object"] "ValueError.__new__" = true) (gC : X.mg x = some (.ref C)) (kC : PySem.W.keepIn X.K (.ref C) = true) (hg : Gl X x) (hdb : (x == ("__debug__" : Str)) = false := by decide) :
    PE X (.Call (.Name x p) [] [] pos) (tExo0 C) := by
  refine ⟨fun pins s σ H Q I h => ?_⟩
  refine wpAny_Call_Name_kw (ld_glob I hg gC ?_ hdb)
  refine PySem.W.callWith_K0 I.kIn kC ?_
  obtain ⟨bm, N, nm, qn, bs, hdct, sn, sub, ab, col, dd, k0, k1, k2, k3, k5, mN, hC, hN, hni, T⟩ := exc_obj I.kIn q
  show wpAny _ _ (call (.ref C) []) _ _ _
  refine wpAny_call_exc_subT F.excBase_ValueError T hC hN hni (fun h' a hm => ?_) (by show 0 ≤ sizeLine; exact Nat.zero_le _)
  have hn : H a = none := I.hok.gone hm.new
  obtain ⟨t, ht, _, _⟩ := hm.there
  exact ⟨.ref a, upd H a (exo a C none), I.laidN hm.keeps hm.new hn (exo_ok ht), rfl, h a hn⟩
/-- X(e, ..), its own __init__ keeping sp, as a value -/
def tMkV (C : Addr) (sp : Sp) (dvs : List V) (ta : TA) : TE := fun σ H Q => ta σ H fun vs H1 => vs.length ≤ 1000 ∧ ∀ a, H1 a = none → sp (.ref a :: (vs ++ dvs)) (upd H1 a (exo a C none)) (fun v H2 => v = .non ∧ Q (.ref a) H2) (fun _ _ _ => False)
theorem pe_mkV (T : OexC X.K C) (iC : PySem.W.findIn X.K (.ref C) "__init__" = some (some (.ref f))) (tI : PySem.W.typeIn X.K (.ref f) = some (.type "function"))
    (F1 : FnOk X.prog X.w X.K X.mg X.base CX k f fd ps sp) (hr : Room (k + 1) X.A) (hb : Binds X.K fd ps ds) (hd : Vals dvs ds) (hx : Passes CX X (fun _ _ _ => False)) (hg : Gl X x) (hm : X.mg x = some (.ref C)) (ha : PA X (e :: es) ta)
    (hdb : (x == ("__debug__" : Str)) = false := by decide) (he : starEach (e :: es) X.env = (false, eval e X.env) :: starEach es X.env := by rfl) (hpl : (backTo pos (starEach es X.env)).any (·.1) = false := by rfl) :
    PE X (.Call (.Name x p) (e :: es) [] pos) (tMkV C sp dvs ta) := by
  refine ⟨fun pins s σ H Q I h => ?_⟩
  obtain ⟨nm, q, N, bs, bm, sn, sub, ab, col, dd, k0, k1, k2, k3, k5, hC, hbm⟩ := T.cls
  refine wpAny_Call_Name_kw (ld_glob I hg hm ?_ hdb)
  refine PySem.W.callWith_K (h₀ := X.base) I.ok.mod.kin T.kC (thn (ha.run pos pins s σ H _ I h) fun us s1 ⟨vs, H1, I1, r1, hz, q1⟩ => ⟨I1.kIn, ?_⟩) he hpl
  show wpAny _ _ (call (.ref C) us) _ _ _
  obtain ⟨hp, g, dr, tk, os⟩ := s1
  have hsz : hp.objs.size ≤ hp.objs.size + 1 := Nat.le_succ _
  have hn : H1 (hp.objs.size + 1) = none := I1.hok.fresh hsz
  have hq := q1 (hp.objs.size + 1) hn
  have kk : ∀ b o, hp.get? b = some o → ((hp.push (PySem.W.kdv_tup us)).push (PySem.HandSPX.excO C hp.objs.size)).get? b = some o := fun b o e => Heap.get?_push_of_some _ (Heap.get?_push_of_some _ e)
  have hget : ((hp.push (PySem.W.kdv_tup us)).push (PySem.HandSPX.excO C hp.objs.size)).get? (hp.objs.size + 1) = some (PySem.HandSPX.excO C hp.objs.size) := by heap_get
  have I2 : Inv X pins σ (upd H1 (hp.objs.size + 1) (exo (hp.objs.size + 1) C none)) ⟨(hp.push (PySem.W.kdv_tup us)).push (PySem.HandSPX.excO C hp.objs.size), g, dr, tk, os⟩ :=
    I1.laid (t' := tk) (a := hp.objs.size + 1) (o := exo (hp.objs.size + 1) C none) (h' := (hp.push (PySem.W.kdv_tup us)).push (PySem.HandSPX.excO C hp.objs.size)) kk hsz (exo_ok hget)
  have r2 : Vals (V.ref (hp.objs.size + 1) :: (vs ++ dvs)) (Value.ref (hp.objs.size + 1) :: (us ++ ds)) := .cons rfl (r1.append hd)
  have hl : (Value.ref (hp.objs.size + 1) :: us ++ ds).length = ps.length := by
    have e := r2.length
    rw [F1.len _ _ _ _ hq] at e
    exact e.symm
  have hus : us.length ≤ sizeLine := by
    rw [← Paired.length r1, sizeLine_eq]
    omega
  refine wpAny_call (PySem.HandSPX.call_own F.excBase_ValueError (fun Y => PySem.HandSPX.refsVE_contains Y bm hbm) (I1.kIn _ _ hC) (PySem.W.looks_findIn I1.kIn iC) (fun self => PySem.W.bind_fn I1.kIn self tI) hus
    (codeAny_mono (F1.run _ X.stack _ _ ⟨Value.ref (hp.objs.size + 1) :: us, []⟩ (Value.ref (hp.objs.size + 1) :: (us ++ ds)) _ _ (fun _ _ _ => False) (hr.make C us []) (I2.env0.make C us []) (hb _ (Value.ref (hp.objs.size + 1) :: us) I2.kIn hl) r2 hq) fun r s' hq' => ?_))
  cases r with
  | error er => exact hx pins σ _ _ er s' I2 hq'
  | ok fl =>
    cases fl with
    | ret u =>
      obtain ⟨v, H', I3, rv, ev, q3⟩ := I2.after hq'
      subst ev
      exact ⟨rv, ⟨V.ref (hp.objs.size + 1), H', I3, rfl, q3⟩⟩
    | next => exact False.elim hq'
    | brk => exact False.elim hq'
    | cont => exact False.elim hq'
/-- e.n, e such an exception with its dict -/
def tXo (K : PySem.W.Frag) (n : Str) (te : TE) : TE := fun σ H Q => te σ H fun x H1 => ∃ (a C dx : Addr) (fs : List (Str × V)) (v : V), x = .ref a ∧ H1 a = some (exo a C (some dx)) ∧ H1 dx = some (exd dx fs) ∧ ExcC K C ∧ PySem.W.findIn K (.ref C) n = some none ∧ fs.lookup n = some v ∧ Q v H1
theorem pe_xo (he : PE X e te) (hb : attributeBase e n X.env (eval e X.env) = eval e X.env := by rfl) : PE X (.Attribute e n pos) (tXo X.K n te) := by
  refine ⟨fun pins s σ H Q I h => ?_⟩
  refine attr_of hb (thn (he.run pins s σ H _ I h) fun u s1 hh => ?_)
  obtain ⟨x, H1, I1, rx, a, C, dx, fs, v, ex, ha, hdx, T, hno, l, q⟩ := hh
  subst ex
  obtain rfl : u = Value.ref a := rx
  obtain ⟨t1, ho⟩ := exo_at I1.hok ha
  obtain ⟨mA, hns, hr⟩ := exd_at I1.hok hdx
  obtain ⟨od, hod, hl⟩ := lookIn_ns hns
  obtain ⟨u, hu, ru⟩ := RelO.some_of (v := v) (o := mA n) (by rw [← l]; exact hr n)
  have J : PySem.W.InstAt s1.heap a ({ cls := .ref C, dict := some dx, data := .fields #[.ref t1, .none, .none, .none, .bool false, .none] } : Obj) C (some od) := ⟨ho, rfl, rfl, hod⟩
  exact HandSPX.exc_get I1.kIn J T.hg T.hk T.hs (PySem.W.findObj_own T.hd hno rfl (by rw [hl, hu])) (handed_of ru) ⟨v, H1, I1.tok _, ru, q⟩
end
/-! reading lemmas -/
/-- an exception of class D lies at a -/
def ExA (K : PySem.W.Frag) (H : Hp) (a D : Addr) : Prop := ∃ d, H a = some (exo a D d) ∧ (∀ dx, d = some dx → ∃ fs, H dx = some (exd dx fs)) ∧ ExcC K D
/-- one with a single field -/
def ExF (H : Hp) (a D : Addr) (fld : Str) (v : V) : Prop := ∃ d, H a = some (exo a D (some d)) ∧ H d = some (exd d [(fld, v)])
theorem ExA.same {K : PySem.W.Frag} {H H' : Hp} {a D : Addr} (s : Same H H') (h : ExA K H a D) : ExA K H' a D := by
  obtain ⟨d, h1, h2, h3⟩ := h
  exact ⟨d, s _ _ h1, fun dx e => (h2 dx e).imp fun fs h => s _ _ h, h3⟩
theorem ExF.same {H H' : Hp} {a D : Addr} {fld : Str} {v : V} (s : Same H H') (h : ExF H a D fld v) : ExF H' a D fld v := by
  obtain ⟨d, h1, h2⟩ := h
  exact ⟨d, s _ _ h1, s _ _ h2⟩
theorem ExF.exA {K : PySem.W.Frag} {H : Hp} {a D : Addr} {fld : Str} {v : V} (h : ExF H a D fld v) (e : ExcC K D) : ExA K H a D := by
  obtain ⟨d, h1, h2⟩ := h
  exact ⟨some d, h1, fun dx e => ⟨_, by cases e; exact h2⟩, e⟩
theorem isO {K : PySem.W.Frag} {H : Hp} {a D : Addr} {c : V} {cv : Value} {b : Bool} {Q : VK} (h : ExA K H a D) (hc : ClsV c cv) (e : PySem.W.kitOne K (.ref D) cv = some b) (q : Q (.bl b) H) : rIsO K [.ref a, c] H Q := by
  obtain ⟨d, h1, h2, h3⟩ := h
  exact ⟨a, D, d, c, cv, b, rfl, h1, h2, h3, hc, e, q⟩
theorem same_up {H : Hp} {p : Addr} {o : HO} (h : H p = none) : Same H (upd H p o) := fun b x e => by
  unfold upd
  rw [if_neg (fun z => by subst z; rw [h] at e; cases e)]
  exact e
theorem exo0R {C : Addr} {σ : L2.St} {H : Hp} {Q : VK} (h : ∀ p H2, H p = none → Same H H2 → H2 p = some (exo p C none) → Q (.ref p) H2) : tExo0 C σ H Q := fun p hp => h p _ hp (same_up hp) upd_same
theorem mkV {C : Addr} {sp : Sp} {dvs : List V} {ta : TA} {σ : L2.St} {H : Hp} {Q : VK} (h : ta σ H fun vs H1 => vs.length ≤ 1000 ∧ ∀ a, H1 a = none → sp (.ref a :: (vs ++ dvs)) (upd H1 a (exo a C none)) (fun v H2 => v = .non ∧ Q (.ref a) H2) (fun _ _ _ => False)) : tMkV C sp dvs ta σ H Q := h
theorem mkF {C : Addr} {fld : Str} {v : V} {H1 : Hp} {R : Addr → Hp → Prop} {E : XK} (q : ∀ p H2, H1 p = none → Same H1 H2 → ExF H2 p C fld v → R p H2) :
    [v].length ≤ 1000 ∧ ∀ a, H1 a = none → spSi C fld (.ref a :: ([v] ++ [])) (upd H1 a (exo a C none)) (fun u H2 => u = .non ∧ R a H2) E := by
  refine ⟨(by show 1 ≤ 1000; decide), fun a ha => ⟨a, v, rfl, upd_same, fun d hd n => ⟨rfl, q a _ ha (fun b o e => ?_) ⟨d, upd_same, ?_⟩⟩⟩⟩
  · have n1 : b ≠ a := fun z => by subst z; rw [ha] at e; cases e
    have e1 : upd H1 a (exo a C none) b = some o := by
      unfold upd
      rw [if_neg n1]
      exact e
    have n2 : b ≠ d := fun z => by subst z; rw [hd] at e1; cases e1
    unfold upd at *
    rw [if_neg n1, if_neg n2]
    exact e1
  · unfold upd
    rw [if_neg n, if_pos rfl]
theorem xo {n : Str} {te : TE} {K : PySem.W.Frag} {σ : L2.St} {H : Hp} {Q : VK} (h : te σ H fun x H1 => ∃ (a C dx : Addr) (fs : List (Str × V)) (v : V), x = .ref a ∧ H1 a = some (exo a C (some dx)) ∧ H1 dx = some (exd dx fs) ∧ ExcC K C ∧ PySem.W.findIn K (.ref C) n = some none ∧ fs.lookup n = some v ∧ Q v H1) : tXo K n te σ H Q := h
theorem xoF {n : Str} {K : PySem.W.Frag} {H : Hp} {a C : Addr} {v : V} {R : V → Prop} (h : ExF H a C n v) (e : ExcC K C) (hn : PySem.W.findIn K (.ref C) n = some none) (q : R v) :
    ∃ (b C dx : Addr) (fs : List (Str × V)) (w : V), V.ref a = .ref b ∧ H b = some (exo b C (some dx)) ∧ H dx = some (exd dx fs) ∧ ExcC K C ∧ PySem.W.findIn K (.ref C) n = some none ∧ fs.lookup n = some w ∧ R w := by
  obtain ⟨d, h1, h2⟩ := h
  exact ⟨a, C, d, _, v, rfl, h1, h2, e, hn, by simp [List.lookup], q⟩
end SPX

/-! nested data; what the laws' own comparison asks -/
namespace SPD
open PySem PySem.Spec PyProof.Rows L2

/-! ### kinds -/
inductive Kd where
  | non | bl | int | str | dct | lst | tup
  deriving DecidableEq
def Kd.ty : Kd → String
  | .non => "NoneType" | .bl => "bool" | .int => "int" | .str => "str" | .dct => "dict" | .lst => "list" | .tup => "tuple"
def Kd.sq : Kd → Bool
  | .lst => true | .tup => true | _ => false
inductive KdOf (K : PySem.W.Frag) (H : Hp) : V → Kd → Prop where
  | non : KdOf K H .non .non
  | bl (b : Bool) : KdOf K H (.bl b) .bl
  | int (i : Int) : KdOf K H (.int i) .int
  | str (x : Str) : KdOf K H (.str x) .str
  | dct {a : Addr} {kvs : List (Key × V)} (h : H a = some (.dK kvs)) : KdOf K H (.ref a) .dct
  | lst {a : Addr} {xs : List V} (h : H a = some (.lst xs)) : KdOf K H (.ref a) .lst
  | tup {a : Addr} {xs : List V} (h : H a = some (.tup xs)) : KdOf K H (.ref a) .tup
theorem KdOf.tyx {K : PySem.W.Frag} {H : Hp} {v : V} {k : Kd} (h : KdOf K H v k) : TyX K H v (.type k.ty) := by
  cases h with
  | non => exact .base .non
  | bl b => exact .base (.bl b)
  | int i => exact .base (.int i)
  | str x => exact .base (.str x)
  | dct h => exact .base (.dK h)
  | lst h => exact .base (.lst h)
  | tup h => exact .base (.tup h)
theorem kit_kd {K : PySem.W.Frag} (k : Kd) : PySem.W.kitOne K (.type k.ty) (.type "tuple") = some (decide (k = .tup)) ∧ PySem.W.kitOne K (.type k.ty) (.type "list") = some (decide (k = .lst)) ∧ PySem.W.kitOne K (.type k.ty) (.type "bool") = some (decide (k = .bl)) ∧ PySem.W.kitOne K (.type k.ty) (.type "str") = some (decide (k = .str)) := by
  cases k <;> exact ⟨kit_ty (by decide +kernel), kit_ty (by decide +kernel), kit_ty (by decide +kernel), kit_ty (by decide +kernel)⟩
theorem kit_int {K : PySem.W.Frag} (k : Kd) : PySem.W.kitOne K (.type k.ty) (.type "int") = some (decide (k = .int ∨ k = .bl)) := by
  cases k <;> exact kit_ty (by decide +kernel)
theorem kit_two {K : PySem.W.Frag} {t c d : Value} {a b : Bool} (h1 : PySem.W.kitOne K t c = some a) (h2 : PySem.W.kitOne K t d = some b) : PySem.W.kitAny K t [c, d] = some (a || b) := by
  refine kitAny_cons h1 (fun e => kitAny_cons h2 (fun e2 => ?_) fun e2 => ?_) fun e => ?_
  · rw [kitAny_nil, e, e2]
    rfl
  · rw [e, e2]
    rfl
  · rw [e]
    rfl
theorem kit_seq {K : PySem.W.Frag} (k : Kd) : PySem.W.kitAny K (.type k.ty) [.type "tuple", .type "list"] = some k.sq := by
  obtain ⟨h1, h2, _⟩ := kit_kd (K := K) k
  rw [kit_two h1 h2]
  cases k <;> rfl

/-! ### data: what is within stands apart from x -/
def leaf : V → Bool
  | .non => true | .bl _ => true | .int _ => true | .str z => Nat.ble z.cps.size 100000 | _ => false
inductive Dq (x : Addr) (H : Hp) : Nat → V → Prop where
  | leaf {n : Nat} {v : V} : leaf v = true → Dq x H n v
  | dct {n : Nat} {a : Addr} {kvs : List (Key × V)} : a ≠ x → H a = some (.dK kvs) → (kvs.map (·.1)).Nodup → (∀ p ∈ kvs, flatB p.2 = true) → Dq x H n (.ref a)
  | tup {n : Nat} {a : Addr} {xs : List V} : a ≠ x → H a = some (.tup xs) → xs.length ≤ 16777216 → (∀ y, y ∈ xs → Dq x H n y) → Dq x H (n + 1) (.ref a)
  | lst {n : Nat} {a : Addr} {xs : List V} : a ≠ x → H a = some (.lst xs) → xs.length ≤ 16777216 → (∀ y, y ∈ xs → Dq x H n y) → Dq x H (n + 1) (.ref a)
theorem Dq.kb {x : Addr} {H H' : Hp} (k : RD.KB x H H') {n : Nat} {v : V} (h : Dq x H n v) : Dq x H' n v := by
  induction h with
  | leaf e => exact .leaf e
  | dct ne h nd fl => exact .dct ne (k _ _ ne h) nd fl
  | tup ne h hl _ ih => exact .tup ne (k _ _ ne h) hl ih
  | lst ne h hl _ ih => exact .lst ne (k _ _ ne h) hl ih
theorem Dq.same {x : Addr} {H H' : Hp} (k : Same H H') {n : Nat} {v : V} (h : Dq x H n v) : Dq x H' n v := h.kb (RD.Same.kb k)
theorem Dq.mono {x : Addr} {H : Hp} {n : Nat} {v : V} (h : Dq x H n v) : ∀ m, n ≤ m → Dq x H m v := by
  induction h with
  | leaf e => exact fun m _ => .leaf e
  | dct ne h nd fl => exact fun m _ => .dct ne h nd fl
  | tup ne h hl _ ih =>
    intro m hm
    obtain ⟨k, rfl⟩ : ∃ k, m = k + 1 := ⟨m - 1, by omega⟩
    exact .tup ne h hl fun y hy => ih y hy k (by omega)
  | lst ne h hl _ ih =>
    intro m hm
    obtain ⟨k, rfl⟩ : ∃ k, m = k + 1 := ⟨m - 1, by omega⟩
    exact .lst ne h hl fun y hy => ih y hy k (by omega)
theorem Dq.kd {K : PySem.W.Frag} {x : Addr} {H : Hp} {n : Nat} {v : V} (h : Dq x H n v) : ∃ k, KdOf K H v k := by
  cases h with
  | leaf e =>
    cases v with
    | non => exact ⟨_, .non⟩
    | bl b => exact ⟨_, .bl b⟩
    | int i => exact ⟨_, .int i⟩
    | str z => exact ⟨_, .str z⟩
    | byt b => cases e
    | flt b => cases e
    | ref a => cases e
    | ty s => cases e
  | dct ne h nd fl => exact ⟨_, .dct h⟩
  | tup ne h _ => exact ⟨_, .tup h⟩
  | lst ne h _ => exact ⟨_, .lst h⟩

/-! ### == of what is no list, no tuple; the laws' own comparison -/
inductive EqB (K : PySem.W.Frag) (H : Hp) : V → V → Bool → Prop where
  | scal {x y : V} : scal x y = true → EqB K H x y (decide (x = y))
  | deep {x y : V} {d e : PyData} : Dp K H x d → Dp K H y e → SeqAt.shaped d = true → SeqAt.shaped e = true → EqB K H x y (PyData.eqv d e)
  | dict {a : Addr} {kvs : List (Key × V)} : H a = some (.dK kvs) → (kvs.map (·.1)).Nodup → (∀ p ∈ kvs, flatB p.2 = true) → EqB K H (.ref a) (.ref a) true
/-- what told, due come to: b -/
inductive IsB (K : PySem.W.Frag) (H : Hp) : Nat → V → V → Bool → Prop where
  | leaf {n : Nat} {x y : V} {s t : Kd} {b : Bool} : KdOf K H x s → KdOf K H y t → t.sq = false → decide (s = .bl) = decide (t = .bl) → EqB K H x y b → IsB K H n x y b
  | bool {n : Nat} {x y : V} {s t : Kd} : KdOf K H x s → KdOf K H y t → t.sq = false → decide (s = .bl) ≠ decide (t = .bl) → IsB K H n x y false
  | kind {n : Nat} {x y : V} {s t : Kd} : KdOf K H x s → KdOf K H y t → t.sq = true → s ≠ t → IsB K H n x y false
  | lenL {n : Nat} {a b : Addr} {xs ys : List V} : H a = some (.lst xs) → H b = some (.lst ys) → xs.length ≠ ys.length → IsB K H n (.ref a) (.ref b) false
  | lenT {n : Nat} {a b : Addr} {xs ys : List V} : H a = some (.tup xs) → H b = some (.tup ys) → xs.length ≠ ys.length → IsB K H n (.ref a) (.ref b) false
  | lst {n : Nat} {a b : Addr} {xs ys : List V} {bs : List Bool} : H a = some (.lst xs) → H b = some (.lst ys) → xs.length = ys.length → bs.length = xs.length → xs.length ≤ 16777216 → (∀ (i : Nat) (x y : V) (c : Bool), xs[i]? = some x → ys[i]? = some y → bs[i]? = some c → IsB K H n x y c) → IsB K H (n + 1) (.ref a) (.ref b) (bs.all id)
  | tup {n : Nat} {a b : Addr} {xs ys : List V} {bs : List Bool} : H a = some (.tup xs) → H b = some (.tup ys) → xs.length = ys.length → bs.length = xs.length → xs.length ≤ 16777216 → (∀ (i : Nat) (x y : V) (c : Bool), xs[i]? = some x → ys[i]? = some y → bs[i]? = some c → IsB K H n x y c) → IsB K H (n + 1) (.ref a) (.ref b) (bs.all id)
mutual
theorem Dp.same {K : PySem.W.Frag} {H H' : Hp} (s : Same H H') {v : V} {d : PyData} : Dp K H v d → Dp K H' v d
  | .non => .non
  | .bl b => .bl b
  | .int i => .int i
  | .str x => .str x
  | .lst h a => .lst (s.seq h) (DpAll.same s a)
  | .tup h a => .tup (RD.Same.tup s h) (DpAll.same s a)
theorem DpAll.same {K : PySem.W.Frag} {H H' : Hp} (s : Same H H') {vs : List V} {ds : List PyData} : DpAll K H vs ds → DpAll K H' vs ds
  | .nil => .nil
  | .cons h a => .cons (Dp.same s h) (DpAll.same s a)
end
theorem KdOf.same {K : PySem.W.Frag} {H H' : Hp} (s : Same H H') {v : V} {k : Kd} (h : KdOf K H v k) : KdOf K H' v k := by
  cases h with
  | non => exact .non
  | bl b => exact .bl b
  | int i => exact .int i
  | str x => exact .str x
  | dct h => exact .dct (s _ _ h)
  | lst h => exact .lst (s _ _ h)
  | tup h => exact .tup (s _ _ h)
theorem EqB.same {K : PySem.W.Frag} {H H' : Hp} (s : Same H H') {x y : V} {b : Bool} (h : EqB K H x y b) : EqB K H' x y b := by
  cases h with
  | scal e => exact .scal e
  | deep d e p q => exact .deep (Dp.same s d) (Dp.same s e) p q
  | dict h nd fl => exact .dict (s _ _ h) nd fl
theorem IsB.same {K : PySem.W.Frag} {H H' : Hp} (s : Same H H') {n : Nat} {x y : V} {b : Bool} (h : IsB K H n x y b) : IsB K H' n x y b := by
  induction h with
  | leaf a b c d e => exact .leaf (a.same s) (b.same s) c d (e.same s)
  | bool a b c d => exact .bool (a.same s) (b.same s) c d
  | kind a b c d => exact .kind (a.same s) (b.same s) c d
  | lenL a b c => exact .lenL (s _ _ a) (s _ _ b) c
  | lenT a b c => exact .lenT (s _ _ a) (s _ _ b) c
  | lst a b c d e _ ih => exact .lst (s _ _ a) (s _ _ b) c d e ih
  | tup a b c d e _ ih => exact .tup (s _ _ a) (s _ _ b) c d e ih
theorem all_rep (n : Nat) : (List.replicate n true).all id = true := by
  induction n with
  | zero => rfl
  | succ n ih => rw [List.replicate_succ, List.all_cons, ih]; rfl
/-- data is what it is -/
theorem IsB.refl {K : PySem.W.Frag} {x : Addr} {H : Hp} {n : Nat} {v : V} (h : Dq x H n v) : IsB K H n v v true := by
  induction h with
  | @leaf n v e =>
    have key : ∀ k : Kd, KdOf K H v k → k.sq = false → scal v v = true → IsB K H n v v true := fun k hk hs hc => by
      have z : EqB K H v v (decide (v = v)) := .scal hc
      rw [decide_eq_true rfl] at z
      exact .leaf hk hk hs rfl z
    cases v with
    | non => exact key _ .non rfl rfl
    | bl b => exact key _ (.bl b) rfl rfl
    | int i => exact key _ (.int i) rfl rfl
    | str z => exact key _ (.str z) rfl rfl
    | byt b => cases e
    | flt b => cases e
    | ref a => cases e
    | ty s => cases e
  | dct ne h nd fl => exact .leaf (.dct h) (.dct h) rfl rfl (.dict h nd fl)
  | @tup n a xs ne h hl _ ih =>
    have z := IsB.tup (K := K) (n := n) (bs := List.replicate xs.length true) h h rfl (by rw [List.length_replicate]) hl fun i x y c e1 e2 e3 => by
      rw [e1] at e2
      cases e2
      rw [List.getElem?_replicate] at e3
      split at e3
      · cases e3
        exact ih x (List.mem_of_getElem? e1)
      · cases e3
    rw [all_rep] at z
    exact z
  | @lst n a xs ne h hl _ ih =>
    have z := IsB.lst (K := K) (n := n) (bs := List.replicate xs.length true) h h rfl (by rw [List.length_replicate]) hl fun i x y c e1 e2 e3 => by
      rw [e1] at e2
      cases e2
      rw [List.getElem?_replicate] at e3
      split at e3
      · cases e3
        exact ih x (List.mem_of_getElem? e1)
      · cases e3
    rw [all_rep] at z
    exact z
/-- the operator == that these ask -/
def rEqB (K : PySem.W.Frag) : R2 := fun x y H Q => ∃ b, EqB K H x y b ∧ Q (.bl b) H
theorem op_eqB {X : Cx} (hu : X.A.units + 64 < cLine) : OpR X (compareOp .Eq) (rEqB X.K) := by
  intro pins s σ H x y v u Q I rx ry h
  obtain ⟨b, e, q⟩ := h
  cases e with
  | scal e => exact op_eq pins s σ H _ _ v u Q I rx ry ⟨e, q⟩
  | deep d e p r => exact op_eqD hu pins s σ H _ _ v u Q I rx ry ⟨_, _, d, e, p, r, q⟩
  | dict h nd fl => exact op_eq_dict (by omega) pins s σ H _ _ v u Q I rx ry ⟨_, _, _, rfl, rfl, h, h, nd, fl, q⟩
theorem eqB {K : PySem.W.Frag} {H : Hp} {Q : VK} {x y : V} {b : Bool} (e : EqB K H x y b) (h : Q (.bl b) H) : rEqB K x y H Q := ⟨b, e, h⟩
section
variable {K : PySem.W.Frag} {H : Hp} {Q : VK} {x : V} {k : Kd}
theorem isSeq {tp : Addr} (ht : H tp = some (.tup [.ty "tuple", .ty "list"])) (hk : KdOf K H x k) (h : Q (.bl k.sq) H) : rIsiT K [x, .ref tp] H Q :=
  ⟨x, tp, _, _, _, _, rfl, ht, .cons (.ty _) (.cons (.ty _) .nil), hk.tyx, kit_seq k, h⟩
theorem isTup (hk : KdOf K H x k) (h : Q (.bl (decide (k = .tup))) H) : rIsi K [x, .ty "tuple"] H Q := ⟨x, _, _, _, _, rfl, .ty _, hk.tyx, (kit_kd k).1, h⟩
theorem isLst (hk : KdOf K H x k) (h : Q (.bl (decide (k = .lst))) H) : rIsi K [x, .ty "list"] H Q := ⟨x, _, _, _, _, rfl, .ty _, hk.tyx, (kit_kd k).2.1, h⟩
theorem isBool (hk : KdOf K H x k) (h : Q (.bl (decide (k = .bl))) H) : rIsi K [x, .ty "bool"] H Q := ⟨x, _, _, _, _, rfl, .ty _, hk.tyx, (kit_kd k).2.2.1, h⟩
theorem isStr (hk : KdOf K H x k) (h : Q (.bl (decide (k = .str))) H) : rIsi K [x, .ty "str"] H Q := ⟨x, _, _, _, _, rfl, .ty _, hk.tyx, (kit_kd k).2.2.2, h⟩
theorem isInt (hk : KdOf K H x k) (h : Q (.bl (decide (k = .int ∨ k = .bl))) H) : rIsi K [x, .ty "int"] H Q := ⟨x, _, _, _, _, rfl, .ty _, hk.tyx, kit_int k, h⟩
end
section
variable {K : PySem.W.Frag} {a b : Addr} {xs ys : List V}
theorem w_zipT {n : Nat} (hn : n = min xs.length ys.length) : Walk (RZ.ItzT K a b) n (fun H => SqT K H a xs ∧ SqT K H b ys) (RD.YP (fun i => xs[i]?) (fun i => ys[i]?)) := by
  subst hn
  refine ⟨fun i _ hi q => ?_, fun _ q => ⟨xs, ys, q.1, q.2, by omega⟩, fun i H v H' _ q y => ?_⟩
  · have h1 : i < xs.length := by omega
    have h2 : i < ys.length := by omega
    exact ⟨xs, ys, xs[i], ys[i], q.1, q.2, by simp [h1], by simp [h2]⟩
  · obtain ⟨T, x, z, h1, h2, h3, h4, h5⟩ := y
    subst h3
    exact ⟨T, x, z, h1, h2, RD.same_new h2, upd_same, h4 xs q.1, h5 ys q.2⟩
theorem izipA {tx : TA} {σ : L2.St} {H : Hp} {R : It → Hp → Prop} (h : tx σ H fun vs H1 => ∃ a b xs ys, vs = [.ref a, .ref b] ∧ ((SqL K H1 a xs ∧ SqL K H1 b ys ∧ R (Itz K a b) H1) ∨ (SqT K H1 a xs ∧ SqT K H1 b ys ∧ R (RZ.ItzT K a b) H1))) : RZ.iZipA K tx σ H R := h
end
/-! ### many data at once -/
inductive DqA (x : Addr) (H : Hp) (n : Nat) : List V → Prop where
  | nil : DqA x H n []
  | cons {v : V} {vs : List V} : Dq x H n v → DqA x H n vs → DqA x H n (v :: vs)
theorem DqA.mem {x : Addr} {H : Hp} {n : Nat} {vs : List V} (h : DqA x H n vs) : ∀ y, y ∈ vs → Dq x H n y := by
  induction h with
  | nil => exact fun y hy => nomatch hy
  | cons a _ ih =>
    intro y hy
    rcases List.mem_cons.mp hy with e | e
    · rw [e]; exact a
    · exact ih y e
theorem DqA.app {x : Addr} {H : Hp} {n : Nat} {vs ws : List V} (h : DqA x H n vs) (g : DqA x H n ws) : DqA x H n (vs ++ ws) := by
  induction h with
  | nil => exact g
  | cons a _ ih => exact .cons a ih
theorem dq_kb {x : Addr} {H H' : Hp} {n : Nat} {v : V} (h : Dq x H n v) (k : RD.KB x H H') : Dq x H' n v := h.kb k
theorem dqTup {x : Addr} {H : Hp} {n : Nat} {a : Addr} {xs : List V} (h : H a = some (.tup xs)) (ne : a ≠ x) (g : DqA x H n xs) (e : Nat.ble xs.length 16777216 = true := by rfl) : Dq x H (n + 1) (.ref a) := .tup ne h (Nat.le_of_ble_eq_true e) g.mem
theorem dqLst {x : Addr} {H : Hp} {n : Nat} {a : Addr} {xs : List V} (h : H a = some (.lst xs)) (ne : a ≠ x) (g : DqA x H n xs) (e : Nat.ble xs.length 16777216 = true := by rfl) : Dq x H (n + 1) (.ref a) := .lst ne h (Nat.le_of_ble_eq_true e) g.mem
theorem dqNil {x : Addr} {H : Hp} {n : Nat} {a : Addr} {kvs : List (Key × V)} (h : H a = some (.dK kvs)) (ne : a ≠ x) (nd : (kvs.map (·.1)).Nodup) (fl : ∀ p ∈ kvs, flatB p.2 = true) : Dq x H n (.ref a) := .dct ne h nd fl
/-- a written dict of constants -/
theorem dispC {trs : List (TE × TE)} {σ : L2.St} {H : Hp} {Q : VK} (kvs : List (Key × V)) (hps : ∀ H (QP : List (V × V) → Hp → Prop), QP (kvs.map fun kv => (kV kv.1, kv.2)) H → tPairs trs σ H QP) (hk : kvs.length ≤ 15)
    (h : ∀ p H2, H p = none → Same H H2 → H2 p = some (.dK (mergeK [] kvs)) → Q (.ref p) H2) : tDisp trs σ H Q := fun p hp =>
  hps _ _ ⟨upd_same, kvs, rfl, hk, by rw [upd_upd]; exact h p _ hp (RD.same_new hp) upd_same⟩
theorem dnew {σ : L2.St} {H : Hp} {Q : VK} (h : ∀ p H2, H p = none → Same H H2 → H2 p = some (.dK []) → Q (.ref p) H2) : tDNewK σ H Q := fun p hp => h p _ hp (RD.same_new hp) upd_same
theorem disp1 {k : Str} {v : V} {σ : L2.St} {H : Hp} {Q : VK} (h : ∀ p H2, H p = none → Same H H2 → H2 p = some (.dK [(Sum.inr k, v)]) → Q (.ref p) H2) : tDisp [(tC (.str k), tC v)] σ H Q :=
  dispC [(Sum.inr k, v)] (fun _ _ q => q) (by show 1 ≤ 15; decide) h
end SPD

/-! sorted(set(text)) -/
namespace SST
open PySem PySem.Spec PyProof.Rows PySem.Froz L2
theorem addTx_shape (h : Int) (v : Value) (D : SD) (r : Ris D.2.2.place.toList) : Ris (addTx h v D).2.2.place.toList ∧ (addTx h v D).2.2.led = D.2.2.led := by
  obtain ⟨es, ep, t⟩ := D
  have r1 := layNew_ris t es h v r
  have l1 := layNew_led t es h v
  show Ris (tailTx ep (layNew t es h v).1 (if (layNew t es h v).2.1.plain = true then { (layNew t es h v).2.1 with plain := false } else (layNew t es h v).2.1) (layNew t es h v).2.2.1).2.2.place.toList ∧
    (tailTx ep (layNew t es h v).1 (if (layNew t es h v).2.1.plain = true then { (layNew t es h v).2.1 with plain := false } else (layNew t es h v).2.1) (layNew t es h v).2.2.1).2.2.led = t.led
  generalize layNew t es h v = Z at r1 l1 ⊢
  obtain ⟨e1, t1, b1, b2⟩ := Z
  dsimp only at r1 l1 ⊢
  have key : ∀ t2 : SetTable, Ris t2.place.toList → t2.led = t.led → Ris (tailTx ep e1 t2 b1).2.2.place.toList ∧ (tailTx ep e1 t2 b1).2.2.led = t.led := fun t2 g1 g2 => by
    unfold tailTx
    split
    · exact ⟨relayAll_ris _ _ _, (relayAll_led _ _ _).trans g2⟩
    · exact ⟨g1, g2⟩
  split
  · exact key _ r1 l1
  · exact key _ r1 l1
/-- the set of texts at a: its members l -/
def SetT (P : Program) (w : World) (h : Heap) (a : Addr) (l : List Str) : Prop := ∃ D, h.get? a = some (sObj "set" D) ∧ TxOk P w D l ∧ l.Nodup ∧ Ris D.2.2.place.toList ∧ (w.params.followText "set-order" = true ∨ D.2.2.led = true)
section
variable {P : Program} {w : World} {A : Around} {E : Value → Shared → Prop} {s : Shared} {a : Addr}
theorem SetT.at {h h' : Heap} {l : List Str} (R : SetT P w h a l) (k : ∀ o, h.get? a = some o → h'.get? a = some o) : SetT P w h' a l := by
  obtain ⟨D, ho, r⟩ := R
  exact ⟨D, k _ ho, r⟩
/-- one more met -/
def met (k : Str) (l : List Str) : List Str := if k ∈ l then l else k :: l
theorem add_any {l : List Str} {k : Str} {u : Tok} {Q : Bool → Shared → Prop} (R : SetT P w s.heap a l) (hb : l.length + 1 < scanBound)
    (h : ∀ h' b, (∀ c o, c ≠ a → s.heap.get? c = some o → h'.get? c = some o) → SetT P w h' a (met k l) → Q b { s with heap := h' }) : wpAny (model P w) A (setAddHashed a (.str k u) (hashStr w k)) Q E s := by
  obtain ⟨D, ho, F, nd, r, hl⟩ := R
  by_cases hk : k ∈ l
  · have hmet : met k l = l := if_pos hk
    rw [hmet] at h
    have h0 := h s.heap false (fun _ _ _ e => e) ⟨D, ho, F, nd, r, hl⟩
    obtain ⟨es, ep, t⟩ := D
    have hd : (sObj "set" (es, ep, t)).data = .set es ep t := rfl
    have hel : ElemsOf (strKind P w) es.toList := F.el
    have hf : t.fits es.size = true := F.fit
    have hz : es.size = l.length := F.sz
    obtain ⟨e, he, hek⟩ := (F.mem k).mp hk
    unfold setAddHashed setAddHashedIn
    refine wpAny_holding (wpAny_bind (wpAny_setState_of ho hd hf ?_))
    dsimp only
    rw [byScan_of (x := Value.str k u) rfl (by omega) hel]
    simp only [↓reduceIte]
    unfold setAddByScan
    refine wpAny_bind (wpAny_bind (wpAny_rule (wpAny_bind (wpAny_setScan_of (knd := strKind P w) (k := k) (is_str k u) ho hd hf hel ?_))))
    cases hfi : es.toList.findIdx? (fun e => (strKind P w).is k e.2) with
    | none =>
      have z := List.findIdx?_eq_none_iff.mp hfi e he
      rw [hek] at z
      cases z
    | some j =>
      dsimp only
      exact wpAny_pure (wpAny_pure h0)
  · have hmet : met k l = k :: l := if_neg hk
    rw [hmet] at h
    have sh := addTx_shape (hashStr w k) (.str k u) D r
    refine add_x ho F hk hb (h _ true (fun c o hc e => PySem.Heap.get?_update_of_ne _ (Ne.symm hc) e) ⟨_, get_upd _ ho rfl, add_ok u F, List.nodup_cons.mpr ⟨hk, nd⟩, sh.1, ?_⟩)
    rw [sh.2]
    exact hl
def mets (val : Nat → Str) : Nat → List Str
  | 0 => []
  | i + 1 => met (val i) (mets val i)
theorem mets_len (val : Nat → Str) : ∀ i, (mets val i).length ≤ i
  | 0 => Nat.le_refl _
  | i + 1 => by
    have z := mets_len val i
    show (met (val i) (mets val i)).length ≤ i + 1
    unfold met
    split
    · omega
    · rw [List.length_cons]; omega
theorem mets_mem (val : Nat → Str) (k : Str) : ∀ i, k ∈ mets val i ↔ ∃ j, j < i ∧ val j = k
  | 0 => ⟨fun h => (List.not_mem_nil h).elim, fun ⟨j, h, _⟩ => absurd h (Nat.not_lt_zero _)⟩
  | i + 1 => by
    have ih := mets_mem val k i
    have e : k ∈ met (val i) (mets val i) ↔ k ∈ mets val i ∨ k = val i := by
      unfold met
      split
      · rename_i h
        exact ⟨.inl, fun z => z.elim id fun e => e ▸ h⟩
      · rw [List.mem_cons]
        exact Or.comm
    show k ∈ met (val i) (mets val i) ↔ _
    rw [e, ih]
    constructor
    · rintro (⟨j, h1, h2⟩ | rfl)
      · exact ⟨j, by omega, h2⟩
      · exact ⟨i, by omega, rfl⟩
    · rintro ⟨j, h1, h2⟩
      rcases Nat.lt_succ_iff_lt_or_eq.mp h1 with h | h
      · exact .inl ⟨j, h, h2⟩
      · subst h
        exact .inr h2.symm
theorem fill {R : Result → Shared → Prop} {it : Addr} {fp wr : List Addr} {G : Array GenState → Array GenState → Prop} {n : Nat} {Pv : Nat → Value → Prop} {St : Nat → Shared → Prop} (W : WalksS P w A.in1 it fp wr G n Pv St) (hf : a ∉ fp) (val : Nat → Str)
    (hv : ∀ i v, Pv i v → ∃ t, v = .str (val i) t) (hn : n + 1 < scanBound) : ∀ (m i : Nat) (s : Shared), n - i = m → i ≤ n → St i s → SetT P w s.heap a (mets val i) →
      (∀ s', Moved (a :: wr) G s s' → SetT P w s'.heap a (mets val n) → R (.ok (.ret .none)) s') → codeAny (model P w) A (.builtin "set.update.loop" ⟨[.ref a, .ref it], []⟩) R s := by
  have aw : a ∉ wr := fun z => hf (W.sub _ z)
  have up : ∀ b ∈ wr, b ∈ a :: wr := fun b z => List.mem_cons_of_mem _ z
  intro m
  induction m with
  | zero =>
    intro i s hm hi hs hS hR
    obtain rfl : i = n := by omega
    refine codeAny_builtin PyProof.Rows.F.entry_set_update_loop ?_
    rw [Around.under_plainId PyProof.Rows.F.plain_set_update_loop _]
    show wpAny _ A.in1 (pyNext (.ref it) >>= _) _ _ s
    refine wpAny_bind (W.done s _ _ hs fun s' mv => wpAny_pure (hR s' (mv.mono up) (hS.at fun o e => mv.heap a o aw e)))
  | succ m ih =>
    intro i s hm hi hs hS hR
    have lt : i < n := by omega
    refine codeAny_builtin PyProof.Rows.F.entry_set_update_loop ?_
    rw [Around.under_plainId PyProof.Rows.F.plain_set_update_loop _]
    show wpAny _ A.in1 (pyNext (.ref it) >>= _) _ _ s
    refine wpAny_bind (W.item i s _ _ lt hs fun v s1 hP hs1 mv => ?_)
    obtain ⟨t, rfl⟩ := hv i v hP
    have hS1 : SetT P w s1.heap a (mets val i) := hS.at fun o e => mv.heap a o aw e
    have room : (mets val i).length + 1 < scanBound := by
      have := mets_len val i
      omega
    show wpAny _ A.in1 (holding [Value.str (val i) t] (setAdd a (.str (val i) t)) >>= _) _ _ s1
    refine wpAny_bind (wpAny_holding ?_)
    unfold setAdd
    refine wpAny_holding (wpAny_bind ((strKind P w).pyHash (k := val i) (is_str _ _) ?_))
    refine add_any (s := { s1 with toks := s1.toks + 1 }) hS1 room fun h' b kp hS2 => ?_
    refine wpAny_pure ⟨plainId_quiet PyProof.Rows.F.plain_set_update_loop _, ih (i + 1) _ (by omega) lt (W.frame _ s1 _ _ hs1 (Nat.le_succ _) fun c hc o e => ?_) hS2 fun s2 mv2 hS3 => hR s2 (Moved.trans W.gtrans ((mv.mono up).then_heap (Nat.le_succ _) fun c o hc e => ?_) mv2) hS3⟩
    · exact kp c o (fun z => hf (z ▸ hc)) e
    · exact kp c o (fun z => hc (by rw [z]; exact List.mem_cons_self)) e
/-- the set made of one argument, its table's kind told -/
theorem new_led (x : Value) {Q : Value → Shared → Prop}
    (h : Q (.ref s.heap.objs.size) { s with heap := s.heap.push { cls := .type "set", dict := none, data := .set #[] 0 (.fresh 0 0 (!w.params.followText "set-order")) } }) :
    codeAny (model P w) A (.call (.builtin "set.__new__") ⟨[.type "set", x], []⟩) (wants Q E) s := by
  refine codeAny_of_tree ?_
  show wpAny _ A.in1 (do checkBuiltinCall "set.__new__" ⟨[.type "set", x], []⟩; again (.builtin "set.__new__" ⟨[.type "set", x], []⟩)) _ _ s
  refine wpAny_bind (wpAny_of_eq (PySem.F.newCall_set_1 x) (wpAny_pure ⟨plainId_quiet PySem.F.plain_set_new _, codeAny_builtin PySem.F.entry_set_new ?_⟩))
  rw [Around.under_plainId PySem.F.plain_set_new _]
  unfold Builtin.«set.__new__» Builtin.Frozenset.newClass
  have hsub := sub_set_self
  obtain ⟨hp, g, d, tk, os⟩ := s
  dsimp only
  wp_walk
  refine wpAny_askSetting (wpAny_pure ?_)
  dsimp only
  simp only [newObj]
  exact wpAny_bind (wpAny_alloc (wpAny_pure (wpAny_pure h)))
theorem fresh_ok {h : Heap} : SetT P w (h.push { cls := .type "set", dict := none, data := .set #[] 0 (.fresh 0 0 (!w.params.followText "set-order")) }) h.objs.size [] := by
  refine ⟨(#[], 0, .fresh 0 0 (!w.params.followText "set-order")), Heap.get?_push_size _ rfl, TxOk.nil rfl, List.nodup_nil, List.Pairwise.nil, ?_⟩
  show _ ∨ (!w.params.followText "set-order") = true
  cases w.params.followText "set-order"
  · exact .inr rfl
  · exact .inl rfl
/-- what a text's signs come to, in a set -/
def signs (x : Str) : Nat → Str := fun i => ⟨#[x.cps.getD i 0]⟩
theorem sub_str_set : isSubtype (.type "str") (.type "set") = pure false := by rw [isSubtype_type]; kernel_rfl
theorem sub_str_froz : isSubtype (.type "str") (.type "frozenset") = pure false := by rw [isSubtype_type]; kernel_rfl
theorem set_str {x : Str} {u : Tok} {Q : Value → Shared → Prop} (hh : A.handled = none) (hn : x.cps.size + 1 < scanBound)
    (h : ∀ (h' : Heap) (tk : Nat), (∀ b o, s.heap.get? b = some o → h'.get? b = some o) → s.heap.objs.size < h'.objs.size → SetT P w h' s.heap.objs.size (mets (signs x) x.cps.size) → Q (.ref s.heap.objs.size) { s with heap := h', toks := tk }) :
    wpAny (model P w) A (call (.type "set") [.str x u]) Q E s := by
  obtain ⟨c, tl, hmro⟩ := PySem.F.called_set.mro
  have hmade := PySem.F.called_set.made
  have hsub := PySem.F.called_set.sub
  refine wpAny_call (codeAny_of_tree ?_)
  show wpAny _ _ (callAny (.type "set") _) _ _ _
  refine wpAny_pure ⟨Code.quiet_builtin _ (by decide +kernel), codeAny_builtin PySem.F.entry_type_call ?_⟩
  rw [Around.under_plain (weight_type_call_type "set" [.str x u] []) rfl]
  have h1 := PySem.F.called_set.notType
  have h2 := PySem.F.called_set.canCreate
  have hct := PySem.F.typeCall_set_1 (.str x u)
  repeat (any_goals (first | assumption | wp_step))
  refine codeAny_mono (new_led (.str x u) (E := E) (Q := fun obj s₁ => obj = .ref s.heap.objs.size ∧ s₁ = { s with heap := s.heap.push { cls := .type "set", dict := none, data := .set #[] 0 (.fresh 0 0 (!w.params.followText "set-order")) } }) ⟨rfl, rfl⟩) fun r s1 hr => ?_
  cases r with
  | error e => exact hr
  | ok fl =>
    cases fl with
    | ret obj =>
      obtain ⟨rfl, rfl⟩ := hr
      have F0 : SetT P w (s.heap.push { cls := .type "set", dict := none, data := .set #[] 0 (.fresh 0 0 (!w.params.followText "set-order")) }) s.heap.objs.size [] := fresh_ok
      have hS : (s.heap.push { cls := .type "set", dict := none, data := .set #[] 0 (.fresh 0 0 (!w.params.followText "set-order")) }).get? s.heap.objs.size = some { cls := .type "set", dict := none, data := .set #[] 0 (.fresh 0 0 (!w.params.followText "set-order")) } := Heap.get?_push_size _ rfl
      have old : ∀ b o, s.heap.get? b = some o → (s.heap.push { cls := .type "set", dict := none, data := .set #[] 0 (.fresh 0 0 (!w.params.followText "set-order")) }).get? b = some o := fun b o e => Heap.get?_push_of_some _ e
      have hsz : (s.heap.push { cls := .type "set", dict := none, data := .set #[] 0 (.fresh 0 0 (!w.params.followText "set-order")) }).objs.size = s.heap.objs.size + 1 := Heap.size_push ..
      generalize s.heap.push { cls := .type "set", dict := none, data := .set #[] 0 (.fresh 0 0 (!w.params.followText "set-order")) } = hp at F0 hS old hsz ⊢
      have hT : Shared.TypeIs { s with heap := hp } (.ref s.heap.objs.size) "set" := ⟨_, hS, rfl⟩
      have hli := PySem.F.called_set.init.lookup
      have hbi := PySem.F.called_set.init.bind (.ref s.heap.objs.size)
      repeat (any_goals (first | assumption | wp_step))
      refine codeAny_mono (codeAny_call_builtin (R := wants (fun r s₂ => r = .none ∧ ∃ h' tk, s₂ = { s with heap := h', toks := tk } ∧ (∀ b o, s.heap.get? b = some o → h'.get? b = some o) ∧ s.heap.objs.size < h'.objs.size ∧ SetT P w h' s.heap.objs.size (mets (signs x) x.cps.size)) E)
        PySem.F.called_set.init.plain PySem.F.entry_set_init (check_set_init_1 hT ?_)) fun r2 s2 hr2 => ?_
      · unfold Builtin.«set.__init__» noKeywords Builtin.Frozenset.updateFrom
        have q1 := sub_str_set
        have q2 := sub_str_froz
        have q3 : (Value.type "str" == Value.type "dict") = false := by decide
        generalize hPI : pyIter = PI
        wp_walk
        subst hPI
        refine wpAny_pyIter_str fun o St hW hst => ?_
        refine wpAny_bind (wpAny_runValue ?_)
        have na : s.heap.objs.size ∉ [hp.objs.size] := by
          rw [hsz, List.mem_singleton]
          exact Nat.ne_of_lt (Nat.lt_succ_self _)
        have hh3 : A.in1.in1.in1.handled = none := by simp [hh]
        refine fill (hW _ hh3).toS na (signs x) (fun i v hv => ?_) hn (x.cps.size - 0) 0 _ rfl (Nat.zero_le _) hst (F0.at fun o e => Heap.get?_push_of_some _ e) fun s3 mv hS3 => ?_
        · obtain ⟨c, t, hc, rfl⟩ := hv
          refine ⟨t, ?_⟩
          unfold signs
          rw [Array.getD_eq_getD_getElem?, hc]
          rfl
        · have keep : ∀ b o, s.heap.get? b = some o → s3.heap.get? b = some o := fun b o e => by
            have lt := Heap.lt_size e
            refine mv.heap b o (fun z => ?_) (Heap.get?_push_of_some _ (old b o e))
            rcases List.mem_cons.mp z with z | z
            · exact absurd z (Nat.ne_of_lt lt)
            · have z := List.mem_singleton.mp z
              rw [hsz] at z
              exact absurd z (Nat.ne_of_lt (Nat.lt_succ_of_lt lt))
          have grow : s.heap.objs.size < s3.heap.objs.size := by
            obtain ⟨D, hD, _⟩ := hS3
            exact Heap.lt_size hD
          obtain ⟨h3, g3, d3, tk3, os3⟩ := s3
          obtain rfl : g3 = s.gens := mv.gens
          obtain rfl : d3 = s.drawn := mv.drawn
          obtain rfl : os3 = s.os := mv.os
          exact wpAny_pure (wpAny_pure ⟨rfl, h3, tk3, rfl, keep, grow, hS3⟩)
      · cases r2 with
        | error e => exact hr2
        | ok fl2 =>
          cases fl2 with
          | ret r =>
            obtain ⟨rfl, h', tk, rfl, k1, k2, k3⟩ := hr2
            repeat (any_goals (first | assumption | wp_step))
            exact h _ _ k1 k2 k3
          | _ => exact hr2.elim
    | _ => exact hr.elim
/-! what is unlike and of the same number -/
theorem perm_of {α : Type} [DecidableEq α] : ∀ (l ks : List α), l.Nodup → (∀ x, x ∈ l → x ∈ ks) → ks.length = l.length → ks.Perm l
  | [], ks, _, _, e => by
    rw [List.eq_nil_of_length_eq_zero e]
  | x :: r, ks, nd, sub, e => by
    have hx : x ∈ ks := sub x List.mem_cons_self
    obtain ⟨nx, nr⟩ := List.nodup_cons.mp nd
    have p := List.perm_cons_erase hx
    have ih := perm_of r (ks.erase x) nr (fun y hy => (List.mem_erase_of_ne (fun z => nx (by rw [← z]; exact hy))).mpr (sub y (List.mem_cons_of_mem _ hy))) (by
      rw [List.length_erase_of_mem hx, e, List.length_cons]
      rfl)
    exact p.trans (ih.cons x)
def nameOf (e : Int × Value) : Str := match e.2 with | .str k _ => k | _ => Str.empty
theorem keys_perm {D : SD} {l : List Str} (F : TxOk P w D l) (nd : l.Nodup) : (∀ e ∈ D.1.toList, ∃ t, e.2 = .str (nameOf e) t) ∧ (D.1.toList.map nameOf).Perm l := by
  have g : ∀ e ∈ D.1.toList, ∃ t, e.2 = .str (nameOf e) t := fun e he => by
    obtain ⟨⟨k, hk, _⟩, _⟩ := F.el e he
    obtain ⟨t, ht⟩ := Value.isStrOf_shape hk
    exact ⟨t, by unfold nameOf; rw [ht]⟩
  refine ⟨g, perm_of _ _ nd (fun x hx => ?_) (by rw [List.length_map, Array.length_toList]; exact F.sz)⟩
  obtain ⟨e, he, hk⟩ := (F.mem x).mp hx
  obtain ⟨t, ht⟩ := Value.isStrOf_shape hk
  exact List.mem_map.mpr ⟨e, he, by unfold nameOf; rw [ht]⟩
theorem strs_of : ∀ (l : List (Int × Value)), (∀ e ∈ l, ∃ t, e.2 = .str (nameOf e) t) → StrsAre (l.map (·.2)) (l.map nameOf)
  | [], _ => .nil
  | e :: l, h => by
    obtain ⟨t, ht⟩ := h e List.mem_cons_self
    rw [List.map_cons, List.map_cons, ht]
    exact .cons _ t (strs_of l fun e he => h e (List.mem_cons_of_mem _ he))
theorem strs_perm {vs us : List Value} {xs : List Str} (p : vs.Perm us) (h : StrsAre us xs) : ∃ ys, StrsAre vs ys ∧ ys.Perm xs := by
  induction p generalizing xs with
  | nil => exact ⟨xs, h, List.Perm.refl _⟩
  | cons x _ ih =>
    cases h with
    | cons y t h =>
      obtain ⟨ys, h1, h2⟩ := ih h
      exact ⟨_, .cons y t h1, h2.cons y⟩
  | swap x y l =>
    cases h with
    | cons a t h =>
      cases h with
      | cons b u h => exact ⟨_, .cons b u (.cons a t h), List.Perm.swap _ _ _⟩
  | trans p q ih1 ih2 =>
    obtain ⟨ys, h1, h2⟩ := ih2 h
    obtain ⟨zs, h3, h4⟩ := ih1 h1
    exact ⟨zs, h3, h4.trans h2⟩
theorem sorted_setT {l : List Str} {Q : Value → Shared → Prop} (R : SetT P w s.heap a l) (hh : A.handled = none) (hb : l.length < scanBound)
    (hQ : ∀ s' p (out : Array Value) (c : Nat) (ys : List Str), (∀ b o, s.heap.get? b = some o → s'.heap.get? b = some o) → s'.gens = s.gens → s'.os = s.os → s.heap.objs.size ≤ p →
      s'.heap.get? p = some (seqObj "list" out c) → StrsAre out.toList ys → ys.Perm l → sortedS ys = true → Q (.ref p) s') :
    wpAny (model P w) A (call (.builtin "sorted") [.ref a]) Q E s := by
  obtain ⟨⟨es, ep, t⟩, ho, F, nd, r, hl⟩ := R
  have hz : es.size = l.length := F.sz
  obtain ⟨g, kp⟩ := keys_perm F nd
  refine Calls.call_function_entry kind_sorted plain_sorted entry_sorted (args_sorted1 _) ?_
  unfold Builtin.«sorted»
  refine wpAny_bind (m := checkCount "sorted" 1 1 _) (wpAny_pure ?_)
  refine wpAny_bind (collect_set (A := A.in1) hh ⟨_, ho, rfl, rfl⟩ F.fit (by show es.size < scanBound; omega) r hl fun s1 vs k1 z1 g1 o1 pm => ?_)
  obtain ⟨xs, hS, px⟩ := strs_perm pm (strs_of es.toList g)
  have hL : vs.length ≤ sizeLine := by
    rw [pm.length_eq, List.length_map, Array.length_toList, hz, sizeLine_eq]
    unfold scanBound at hb
    omega
  refine wpAny_bind (wpAny_newList ?_ hL)
  have hob : (s1.heap.push (seqObj "list" vs.toArray 0)).get? s1.heap.objs.size = some (seqObj "list" vs.toArray 0) := Heap.get?_push_size _ rfl
  refine wpAny_bind (wpAny_holding (wpAny_call_entry slot_list_sort ⟨_, hob, rfl⟩ entry_list_sort (list_sort_treeKAny strKind_oneLt hob hS.keysOf (fun v₁ v₂ rest e => keyKind_strs (by rw [← e]; exact hS)) hL fun st hp hs => ⟨_, rfl, ?_⟩) (args_list_sort _)))
  obtain ⟨ys, y1, y2, y3⟩ := sorted_out_str hS hp hs
  obtain ⟨c, hc⟩ := sortedHeap_at (vs := vs) (out := (arrOf st).map (·.2)) hob
  refine wpAny_pure ⟨_, rfl, hQ _ s1.heap.objs.size _ c ys (fun b u e => ?_) g1 o1 z1 hc y1 (y2.trans (px.trans kp)) y3⟩
  have q := k1 b u e
  have lt := Heap.lt_size q
  show (sortedHeap (s1.heap.push (seqObj "list" vs.toArray 0)) s1.heap.objs.size vs _).get? b = some u
  rw [sortedHeap_old (Nat.ne_of_lt lt) (by rw [size_push']; exact Nat.lt_succ_of_lt lt)]
  exact Heap.get?_push_of_some _ q
end
/-! ### the rule -/
/-- the signs of x, in their order, each once -/
def Own (x : Str) (ys : List Str) : Prop := ys.Perm (mets (signs x) x.cps.size) ∧ sortedS ys = true
/-- sorted(set(e)), e a text -/
def tSS (te : TE) : TE := fun σ H Q => te σ H fun v H1 => ∃ x : Str, v = .str x ∧ x.cps.size ≤ 4000 ∧ ∀ (ys : List Str) (p : Addr), Own x ys → H1 p = none → Q (.ref p) (upd H1 p (.lst (ys.map V.str)))
section
variable {X : Cx}
theorem pe_ss {e : Expr} {te : TE} {p p2 q pos : Pos} (hg : Gl X "sorted") (hm : X.mg "sorted" = none) (hg2 : Gl X "set") (hm2 : X.mg "set" = none) (he : PE X e te) (hc : X.calm = true := by rfl)
    (ne : starEach [e] X.env = (false, eval e X.env) :: starEach [] X.env := by rfl) : PE X (.Call (.Name "sorted" p) [.Call (.Name "set" p2) [e] [] q] [] pos) (tSS te) := by
  refine ⟨fun pins s σ H Q I h => ?_⟩
  refine Call_ (ld_blt I hg hm Boot.sorted ?_)
  refine PyProof.Rows.callWith_builtin1 (PyProof.Rows.args_cons ?_ rfl) rfl rfl
  refine Call_ (ld_blt I hg2 hm2 PyProof.Rows.boot_set ?_)
  refine PyProof.Rows.callWith_type1 (PyProof.Rows.args_cons (thn (he.run pins s σ H _ I h) fun v s1 hh => PyProof.Rows.args_nil ?_) ne) ne rfl
  obtain ⟨v, H1, I1, rv, x, rfl, hz, q1⟩ := hh
  obtain ⟨u, rfl⟩ := rv
  refine set_str (P := X.prog) (w := X.w) (I1.ok.hd hc) (by unfold scanBound; omega) fun h' tk k1 z1 R => PyProof.Rows.args_nil ?_
  have I2 : Inv X pins σ H1 { s1 with heap := h', toks := tk } := I1.kept k1
  have R2 : SetT X.prog X.w ({ s1 with heap := h', toks := tk } : Shared).heap s1.heap.objs.size (mets (signs x) x.cps.size) := R
  generalize ({ s1 with heap := h', toks := tk } : Shared) = s2 at I2 R2 ⊢
  refine sorted_setT R2 (I2.ok.hd hc) (by have := mets_len (signs x) x.cps.size; unfold scanBound; omega) fun s3 a out c ys k3 g3 o3 hp hget y1 y2 y3 => ?_
  have hlen : (ys.map V.str).length ≤ sizeLine := by
    have := mets_len (signs x) x.cps.size
    rw [List.length_map, y2.length_eq, sizeLine_eq]
    omega
  have hn : H1 a = none := I2.hok.fresh hp
  have J : Inv X pins σ (upd H1 a (.lst (ys.map V.str))) { s2 with heap := s3.heap, gens := s3.gens, drawn := s3.drawn, toks := s3.toks } :=
    I2.call (ch := []) (Un.laid k3 hp hn) (I2.hok.laid k3 hp ⟨hlen, out.toList, c, vals_of_strs y1, hget⟩) (by rw [g3]; exact I2.bare) (fun _ z => nomatch z)
  have e : s3 = { s2 with heap := s3.heap, gens := s3.gens, drawn := s3.drawn, toks := s3.toks } := by
    cases s3
    cases s2
    cases o3
    rfl
  rw [e]
  exact ⟨.ref a, _, J, rfl, q1 ys a ⟨y2, y3⟩ hn⟩
end
/-! ### one such list alone -/
theorem rise_pair : ∀ (p : Str) (l : List Str), risingS p l = true → (∀ x, x ∈ l → ltCps x.cps.toList p.cps.toList = false) ∧ sortedS l = true := by
  intro p l
  induction l generalizing p with
  | nil => exact fun _ => ⟨fun x hx => (List.not_mem_nil hx).elim, rfl⟩
  | cons y r ih =>
    intro h
    have h' : (!ltCps y.cps.toList p.cps.toList && risingS y r) = true := h
    obtain ⟨h1, h2⟩ := Bool.and_eq_true_iff.mp h'
    have h1 : ltCps y.cps.toList p.cps.toList = false := by simpa using h1
    obtain ⟨h3, h4⟩ := ih y h2
    refine ⟨fun x hx => ?_, h2⟩
    rcases List.mem_cons.mp hx with e | e
    · rw [e]; exact h1
    · have h5 := h3 x e
      rw [ltCps_eq, decide_eq_false_iff_not] at h1 h5 ⊢
      exact fun z => (List.le_trans (List.not_lt.mp h1) (List.not_lt.mp h5)) |> fun q => List.not_lt.mpr q z
theorem own_one : ∀ {ys zs : List Str}, sortedS ys = true → sortedS zs = true → ys.Perm zs → ys = zs := by
  intro ys
  induction ys with
  | nil => exact fun _ _ p => (List.nil_perm.mp p).symm ▸ rfl
  | cons y r ih =>
    intro zs h1 h2 p
    cases zs with
    | nil => exact absurd p.length_eq (by simp)
    | cons z t =>
      obtain ⟨a1, a2⟩ := rise_pair y r h1
      obtain ⟨b1, b2⟩ := rise_pair z t h2
      have e : y = z := by
        have hy : y ∈ z :: t := p.mem_iff.mp List.mem_cons_self
        have hz : z ∈ y :: r := p.mem_iff.mpr List.mem_cons_self
        rcases List.mem_cons.mp hy with e | hy
        · exact e
        rcases List.mem_cons.mp hz with e | hz
        · exact e.symm
        have c1 := b1 y hy
        have c2 := a1 z hz
        rw [ltCps_eq, decide_eq_false_iff_not] at c1 c2
        have c := List.le_antisymm (List.not_lt.mp c1) (List.not_lt.mp c2)
        cases y
        cases z
        exact congrArg Str.mk (Array.toList_inj.mp c.symm)
      subst e
      rw [ih a2 b2 (List.perm_cons _ |>.mp p)]
theorem Own.one {x : Str} {ys zs : List Str} (h : Own x ys) (g : Own x zs) : ys = zs := own_one h.2 g.2 (h.1.trans g.1.symm)
end SST

/-! rules that the laws' texts ask besides -/
namespace NR
open PySem PySem.Spec PyProof.Rows L2
/-! ### enumerate(tuple) -/
theorem meets_enumT (l : Addr) (items : Array Value) (n : Nat) (dct : Option Addr) (sl : Array (Option Value)) :
    Meets (Builtin.«enumerate.__new__» ⟨[.type "enumerate", .ref l], []⟩) (fun _ R s => s.heap.get? l = some { cls := .type "tuple", dict := dct, data := .seq items n, slots := sl } ∧
      R (.ok (.ret (.ref (s.heap.push { cls := .type "tuple_iterator", data := .fields #[.ref l, .int 0 0] }).objs.size)))
        { s with heap := (s.heap.push { cls := .type "tuple_iterator", data := .fields #[.ref l, .int 0 0] }).push { cls := .type "enumerate", data := .fields #[.none, .bool false, .ref s.heap.objs.size, rawInt 0, .none, .none] } }) :=
  .of_wp fun prog w A R s h => by
    obtain ⟨hp, g, d, tk, os⟩ := s
    obtain ⟨hl, h⟩ := h
    have hsub := sub_enumerate
    have hT : Heap.IsTuple (Shared.heap ⟨hp, g, d, tk, os⟩) l items := ⟨_, hl, rfl, n, rfl⟩
    wp_walk using AutoSeq1.wpAny_loadPart' hl
    refine wpAny_stack_any fun st => wpAny_pure ?_
    split
    · rename_i c _ _ _ _ _
      cases (c == Value.type "enumerate")
      · wp_walk using AutoSeq1.wpAny_loadPart' hl, wpAny_pyIter_tuple hT
        exact ⟨_, rfl, h⟩
      · wp_walk using AutoSeq1.wpAny_loadPart' hl, wpAny_pyIter_tuple hT
        exact ⟨_, rfl, h⟩
    · wp_walk using AutoSeq1.wpAny_loadPart' hl, wpAny_pyIter_tuple hT
      exact ⟨_, rfl, h⟩
theorem call_enumT {prog : Program} {w : World} {A : Around} {E : Value → Shared → Prop} {s : Shared} {l : Addr} {items : Array Value} {Q : Value → Shared → Prop} (hL : s.heap.IsTuple l items)
    (h : ∀ h', IsEnum h' (s.heap.objs.size + 1) s.heap.objs.size 0 .none → h'.IsTupleIter s.heap.objs.size l 0 → (∀ b o, s.heap.get? b = some o → h'.get? b = some o) → Q (.ref (s.heap.objs.size + 1)) { s with heap := h' }) :
    wpAny (model prog w) A (call (.type "enumerate") [.ref l]) Q E s := by
  obtain ⟨⟨c, dct, dt, sl⟩, hl, hc, n, hd⟩ := hL
  obtain rfl : c = .type "tuple" := hc
  obtain rfl : dt = .seq items n := hd
  refine callType_new F.called_enumerate (by decide) (F.typeCall_enumerate_1 _) (F.newCall_enumerate_1 _) (fun obj => F.args_object_init_2 obj _) F.entry_enumerate_new (meets_enumT l items n dct sl) ⟨hl, ?_⟩
  have hz : (s.heap.push { cls := .type "tuple_iterator", data := .fields #[.ref l, .int 0 0] }).objs.size = s.heap.objs.size + 1 := Heap.size_push ..
  show _ ∧ _
  rw [hz]
  have he : IsEnum ((s.heap.push { cls := .type "tuple_iterator", data := .fields #[.ref l, .int 0 0] }).push { cls := .type "enumerate", data := .fields #[.none, .bool false, .ref s.heap.objs.size, rawInt 0, .none, .none] }) (s.heap.objs.size + 1) s.heap.objs.size 0 .none := by
    have q := Heap.get?_push_size (s.heap.push { cls := .type "tuple_iterator", data := .fields #[.ref l, .int 0 0] }) (o := { cls := .type "enumerate", data := .fields #[.none, .bool false, .ref s.heap.objs.size, rawInt 0, .none, .none] }) rfl
    rw [hz] at q
    exact q
  exact ⟨⟨_, he, rfl⟩, h _ he ⟨_, Heap.get?_push_of_some _ (Heap.get?_push_size _ rfl), rfl, rfl⟩ fun b o x => Heap.get?_push_of_some _ (Heap.get?_push_of_some _ x)⟩
/-- the tuple at a, each item in a new pair -/
def IteT (K : PySem.W.Frag) (a : Addr) : It :=
  ⟨fun i H => ∃ (xs : List V) (x : V), SqT K H a xs ∧ xs[i]? = some x, fun i H v H' => ∃ T x, v = .ref T ∧ H T = none ∧ H' = upd H T (.tup [.int (i : Nat), x]) ∧ ∀ xs, SqT K H a xs → xs[i]? = some x, fun i H => ∃ xs : List V, SqT K H a xs ∧ xs.length = i⟩
theorem turn_enumT {P : Program} {w : World} {K : PySem.W.Frag} {elts : List Expr} {kk : Nat} {tpos : Pos} (a e it : Addr) :
    Turn P w K (.Tuple elts kk tpos) (IteT K a) [e, it] e (fun i h => (∃ old, IsEnum h e it ((i : Nat) : Int) old) ∧ h.IsTupleIter it a i ∧ e ≠ it) where
  mem := by simp
  obj := fun i h st b hb => by
    obtain ⟨⟨old, he⟩, ⟨o, ho, hc, hd⟩, _⟩ := st
    rcases (show b = e ∨ b = it by simpa using hb) with z | z
    · rw [z]
      exact ⟨_, he, fun v q => nomatch q⟩
    · rw [z]
      exact ⟨o, ho, fun v q => by rw [hd] at q; cases q⟩
  keep := fun i h h' st k => ⟨st.1.imp fun old he => k e (by simp) _ he, st.2.1.at fun o q => k it (by simp) o q, st.2.2⟩
  item := by
    intro X hP hw hK hc i pins s σ H E I hf st hg
    subst hP hw hK
    obtain ⟨⟨old, he⟩, hit, hne⟩ := st
    obtain ⟨xs, x, hq, hx⟩ := hg
    obtain ⟨its, rv, p, hz⟩ := I.tuple hq
    obtain ⟨u, hu, ru⟩ := rv.get hx
    have hel : e < s.heap.objs.size := Heap.lt_size he
    have hil : it < s.heap.objs.size := by obtain ⟨_, q, _⟩ := hit; exact Heap.lt_size q
    have pt : s.heap.IsTuple a its.toArray := p
    have ane : a ≠ it := fun z => by
      obtain ⟨o1, e1, c1, _⟩ := pt
      obtain ⟨o2, e2, c2, _⟩ := hit
      rw [z, e2] at e1
      cases e1
      rw [c1] at c2
      injection c2 with q
      exact absurd q (by decide)
    have ae : a ≠ e := fun z => by
      obtain ⟨o1, e1, c1, _⟩ := pt
      have e2 : s.heap.get? e = _ := he
      rw [z, e2] at e1
      cases e1
      injection (show Value.type "enumerate" = Value.type "tuple" from c1) with q
      exact absurd q (by decide)
    have hi : i < its.toArray.size := by
      rw [List.size_toArray, ← rv.length]
      exact (List.getElem?_eq_some_iff.mp hx).1
    refine wpAny_pyNext_enum_itemD (Draws.tuple (A := X.A.in1) (I.ok.hd hc) it a ane its.toArray) he ⟨hit, pt⟩ hi hne (by simp [hne, Ne.symm ae]) fun y h' tk hy ho st' hT hsz hk => ?_
    have ey : y = u := by
      have q1 : its.toArray[i]? = some u := by simpa using hu
      rw [q1] at hy
      exact (Option.some.inj hy).symm
    subst ey
    refine ⟨_, rfl, wpAny_letOwnedTupleGo_enum (s := { s with heap := h', toks := tk + 1 }) ho fun h'' he' sb => ?_⟩
    have hT2 : h''.get? s.heap.objs.size = some { cls := .type "tuple", data := .seq #[.int i tk, y] } := (sb.2 _ (Nat.ne_of_gt hel)).trans hT
    have new : ObjOk X.prog X.w (upd H s.heap.objs.size (.tup [.int (i : Nat), x])) h'' s.heap.objs.size (.tup [.int (i : Nat), x]) :=
      ⟨by show 2 ≤ sizeLine; decide, [.int i tk, y], .cons ⟨_, rfl⟩ (.cons ru .nil), ⟨_, hT2, rfl, _, rfl⟩⟩
    have I1 : Inv X pins σ (upd H s.heap.objs.size (.tup [.int (i : Nat), x])) { s with heap := h'', toks := tk + 1 } :=
      I.turnedNew (ch := [e, it]) (fun b ob hb q => (sb.2 b (fun z => hb (by simp [z]))).trans (hk b ob (fun z => hb (by simp [z])) (fun z => hb (by simp [z])) q)) hf (Nat.le_refl _) new
    refine ⟨.ref s.heap.objs.size, _, I1, rfl, ⟨_, x, rfl, I.hok.fresh (Nat.le_refl _), rfl, fun ys hy => by rw [I.tuple_inj hy hq]; exact hx⟩, ⟨⟨y, ?_⟩, st'.1.at fun o q => (sb.2 it (Ne.symm hne)).trans q, hne⟩, fun b hb => ?_⟩
    · rw [show ((i + 1 : Nat) : Int) = (i : Int) + 1 by omega]
      exact he'
    · have hb' : b < s.heap.objs.size := by
        rcases (show b = e ∨ b = it by simpa using hb) with z | z
        · exact z ▸ hel
        · exact z ▸ hil
      rw [upd_ne (Nat.ne_of_lt hb')]
      exact (hf b hb).1
  done := by
    intro X hP hw hK hc i pins s σ H E I hf st hg
    subst hP hw hK
    obtain ⟨⟨old, he⟩, hit, hne⟩ := st
    obtain ⟨xs, hq, hx⟩ := hg
    obtain ⟨its, rv, p, hz⟩ := I.tuple hq
    obtain ⟨f0, f1, f2, f3, f4, f5⟩ := hf it (by simp)
    have hl := rv.length
    have pt : s.heap.IsTuple a its.toArray := p
    have ane : a ≠ it := fun z => by
      obtain ⟨o1, e1, c1, _⟩ := pt
      obtain ⟨o2, e2, c2, _⟩ := hit
      rw [z, e2] at e1
      cases e1
      rw [c1] at c2
      injection c2 with q
      exact absurd q (by decide)
    subst hx
    refine wpAny_pyNext_enum_endD (Draws.tuple (A := X.A.in1) (I.ok.hd hc) it a ane its.toArray) he ⟨?_, pt⟩ fun h' eb => ⟨rfl, I.turned (t' := s.toks) (fun b o hb q => eb b o hb q) f0 f1 f3 f4 f5⟩
    rw [List.size_toArray, ← hl]
    exact hit
  self := fun A i s Q E st h => let ⟨⟨_, he⟩, _⟩ := st; wpAny_pyIter_enum he h
def iEnumT (K : PySem.W.Frag) (ta : TA) : TI := fun σ H R => ta σ H fun vs H1 => ∃ a xs, vs = [.ref a] ∧ SqT K H1 a xs ∧ R (IteT K a) H1
theorem pi_enumT {X : Cx} {e : Expr} {ta : TA} {p pos tpos : Pos} {elts : List Expr} {kk : Nat} (hg : Gl X "enumerate") (hm : X.mg "enumerate" = none) (ha : PA X [e] ta) (hs : starEach [e] X.env = [(false, eval e X.env)] := by rfl) :
    PI X (.Tuple elts kk tpos) (.Call (.Name "enumerate" p) [e] [] pos) (iEnumT X.K ta) := by
  refine ⟨fun pins s σ H R I h => ?_⟩
  refine Call_ (ld_blt I hg hm boot_enumerate (PyProof.Rows.callWith_type1 (thn (ha.run pos pins s σ H _ I h) fun us s1 ⟨vs, H1, I1, r1, q1⟩ => ?_) hs rfl))
  obtain ⟨a, xs, rfl, hq, q⟩ := q1
  cases r1 with
  | cons r rr =>
    cases rr
    cases r
    obtain ⟨its, rv, pt, hz⟩ := I1.tuple hq
    refine call_enumT (show s1.heap.IsTuple a its.toArray from pt) fun h' he hit hk => wpAny_pyIter_enum he ?_
    have I2 : Inv X pins σ H1 { s1 with heap := h' } := I1.kept (t' := s1.toks) hk
    refine ⟨s1.heap.objs.size + 1, [s1.heap.objs.size + 1, s1.heap.objs.size], _, _, H1, rfl, I2, turn_enumT a (s1.heap.objs.size + 1) s1.heap.objs.size, ⟨⟨.none, he⟩, hit, Nat.succ_ne_self _⟩, fun b hb => ?_, q⟩
    have hle : s1.heap.objs.size ≤ b := by
      rcases (show b = s1.heap.objs.size + 1 ∨ b = s1.heap.objs.size by simpa using hb) with z | z
      · rw [z]
        exact Nat.le_add_right _ _
      · rw [z]
        exact Nat.le_refl _
    exact I1.fpOk hle (I1.hok.fresh hle)
theorem w_enumT {K : PySem.W.Frag} {a : Addr} {xs : List V} : Walk (IteT K a) xs.length (fun H => SqT K H a xs) (RD.YP (fun i => some (.int (i : Nat))) (fun i => xs[i]?)) := by
  refine ⟨fun i _ hi q => ⟨xs, xs[i], q, by simp [hi]⟩, fun _ q => ⟨xs, q, rfl⟩, fun i H v H' _ q y => ?_⟩
  obtain ⟨T, x, h1, h2, h3, h4⟩ := y
  subst h3
  exact ⟨T, .int (i : Nat), x, h1, h2, RD.same_new h2, upd_same, rfl, h4 xs q⟩
section
variable {K : PySem.W.Frag} {tx : TA} {σ : L2.St} {H : Hp} {R : It → Hp → Prop}
theorem ienumT (h : tx σ H fun vs H1 => ∃ a xs, vs = [.ref a] ∧ SqT K H1 a xs ∧ R (IteT K a) H1) : iEnumT K tx σ H R := h
theorem ienumTV {a : Addr} {xs : List V} {S : Addr → Prop} (hx : SqT K H a xs) (h : S a) : ∃ b ys, [V.ref a] = [.ref b] ∧ SqT K H b ys ∧ S b := ⟨a, xs, rfl, hx, h⟩
end
/-! ### tuple[::-1] -/
section
variable {prog : Program} {w : World} {A : Around} {E : Value → Shared → Prop} {s : Shared}
theorem applied_rev {sl : Addr} {vl vu vs : Value} {n : Nat} {Q : Int × Int × Nat → Shared → Prop} (hs : s.heap.IsSliceOf sl vl vu vs) (pl : IsPart vl none) (pu : IsPart vu none) (ps : IsPart vs (some (-1)))
    (h : Q ((n : Int) - 1, -1, n) s) : wpAny (model prog w) A (Builtin.Slice.sliceApplied (.ref sl) (pure (n : Int))) Q E s := by
  obtain ⟨o, ho, hc, hd⟩ := id hs
  unfold Builtin.Slice.sliceApplied Builtin.Slice.sliceFields
  refine wpAny_bind (wpAny_bind (wpAny_field ho hd (x := vl) rfl (wpAny_bind (wpAny_field ho hd (x := vu) rfl (wpAny_bind (wpAny_field ho hd (x := vs) rfl (wpAny_pure ?_)))))))
  refine wpAny_bind (HT.slicePart_ ps ?_)
  show wpAny _ _ (if ((-1 : Int) == 0) = true then _ else _) _ _ s
  rw [if_neg (by decide)]
  refine wpAny_bind (HT.slicePart_ pl (wpAny_bind (HT.slicePart_ pu (wpAny_bind (wpAny_pure ?_)))))
  show wpAny _ _ (match Builtin.Slice.sliceAdjust none none (-1) (n : Int) with | (lo, hi) => pure (lo, (-1 : Int), Builtin.Slice.slicePlaces lo hi (-1))) _ _ s
  have e1 : Builtin.Slice.sliceAdjust none none (-1) (n : Int) = ((n : Int) - 1, -1) := rfl
  rw [e1]
  show wpAny _ _ (pure ((n : Int) - 1, (-1 : Int), Builtin.Slice.slicePlaces ((n : Int) - 1) (-1) (-1))) _ _ s
  have e2 : Builtin.Slice.slicePlaces ((n : Int) - 1) (-1) (-1) = n := by
    unfold Builtin.Slice.slicePlaces
    rw [if_neg (by decide)]
    have e : (- -1 : Int) = 1 := by decide
    rw [e, Int.ediv_one]
    split <;> omega
  rw [e2]
  exact wpAny_pure h
theorem pick_rev (xs : Array Value) : ((List.range xs.size).filterMap fun (m : Nat) => xs[(((xs.size : Int) - 1) + (m : Int) * -1).toNat]?).toArray = xs.toList.reverse.toArray := by
  have e : (fun (m : Nat) => xs[(((xs.size : Int) - 1) + (m : Int) * -1).toNat]?) = (fun j => xs[j]?) ∘ fun m => xs.size - 1 - m := by
    funext m
    show xs[(((xs.size : Int) - 1) + (m : Int) * -1).toNat]? = xs[xs.size - 1 - m]?
    rw [show (((xs.size : Int) - 1) + (m : Int) * -1).toNat = xs.size - 1 - m by omega]
  rw [e, ← List.filterMap_map, PySem.W.krv_range, List.filterMap_reverse, PySem.W.krv_all]
theorem item_rev {t sl : Addr} {items : Array Value} {vl vu vs : Value} {Q : Value → Shared → Prop} (ht : IsTup s.heap t items) (hs : s.heap.IsSliceOf sl vl vu vs) (pl : IsPart vl none) (pu : IsPart vu none) (ps : IsPart vs (some (-1)))
    (h : Q (.ref s.heap.objs.size) { s with heap := s.heap.push { cls := .type "tuple", data := .seq items.toList.reverse.toArray } }) (hz : items.size ≤ sizeLine) : wpAny (model prog w) A (getItem (.ref t) (.ref sl)) Q E s := by
  have big : sizeOk (.seq items.toList.reverse.toArray) := by
    show items.toList.reverse.toArray.size ≤ sizeLine
    rw [List.size_toArray, List.length_reverse, Array.length_toList]
    exact hz
  obtain ⟨o, ho, hc, hd⟩ := id hs
  have hT : s.TypeIs (.ref sl) "slice" := ⟨o, ho, hc⟩
  unfold getItem
  try with_reducible refine wpAny_holding ?_
  first | refine wpAny_bind (wpAny_pure ?_) | skip
  refine wpAny_bind (wpAny_sequenceKey ht.typeIs (by decide) ?_)
  refine wpAny_bind (wpAny_callSpecial?_slot (name := Str.ofString "__getitem__") ht.typeIs PyProof.Rows.slot_tuple_getitem (wpAny_call_entry PyProof.Rows.slot_tuple_getitem ht.typeIs entry_tuple_getitem ?_ (args_tuple_getitem _ _)))
  show wpAny _ _ (Builtin.Tuple.tupleItemsOf (.ref t) >>= _) _ _ s
  refine wpAny_bind (tupleItemsOf_ ht ?_)
  refine wpAny_bind (wpAny_typeOf hT ?_)
  rw [if_pos (by decide)]
  refine wpAny_bind (applied_rev hs pl pu ps ?_)
  have no : ¬ ((((items.size : Int) - 1) == 0 && (-1 : Int) == 1 && items.size == items.size) = true) := by
    rw [show ((-1 : Int) == 1) = false by decide, Bool.and_false, Bool.false_and]
    decide
  show wpAny _ _ (if ((((items.size : Int) - 1) == 0 && (-1 : Int) == 1 && items.size == items.size) = true) then _ else _) _ _ s
  rw [if_neg no, pick_rev]
  first
    | exact wpAny_bind (m := Builtin.Tuple.tupleExact _) (wpAny_newObj_type (wpAny_pure ⟨_, rfl, wpAny_pure h⟩) big)
    | exact wpAny_bind (m := Builtin.Tuple.tupleExact _) (wpAny_newObj_type (wpAny_bind (wpAny_pure (wpAny_pure ⟨_, rfl, wpAny_pure h⟩))) big)
    | exact wpAny_bind (wpAny_bind (m := Builtin.Tuple.tupleExact _) (wpAny_newObj_type (wpAny_pure (wpAny_pure ⟨_, rfl, wpAny_pure h⟩)) big))
    | exact wpAny_bind (wpAny_bind (m := Builtin.Tuple.tupleExact _) (wpAny_newObj_type (wpAny_pure ⟨_, rfl, wpAny_pure h⟩) big))
end
def tRevT (K : PySem.W.Frag) (te : TE) : TE := fun σ H Q => te σ H fun x H1 => ∃ a xs, x = .ref a ∧ SqT K H1 a xs ∧ ∀ p, H1 p = none → Q (.ref p) (upd H1 p (.tup xs.reverse))
theorem pe_revT {X : Cx} {e : Expr} {te : TE} {k : Nat} {p1 p2 p3 pos : Pos} (he : PE X e te) : PE X (.Subscript e (.Slice none none (some (.UnaryOp .USub (.Constant (.int 1) k p1) p2)) p3) pos) (tRevT X.K te) := by
  refine ⟨fun pins s σ H Q I h => ?_⟩
  refine Subscript_ (thn (he.run pins s σ H _ I h) fun v s1 ⟨x, H1, I1, r1, q1⟩ => ?_)
  obtain ⟨a, xs, rfl, hx, q⟩ := q1
  cases r1
  have st : PO X (some (.UnaryOp .USub (.Constant (.int 1) k p1) p2)) (tPart (tUn (rU fun i => .int (-i)) (tC (.int 1)))) := po_some (pe_un un_neg pe_int)
  refine wpAny_Slice (thn (po_none.run pins s1 σ H1 (fun o H2 => o = none ∧ H2 = H1) I1 ⟨rfl, rfl⟩) fun vl s2 ⟨l, H2, I2, pl, el, e2⟩ => ?_)
  subst el e2
  refine thn (po_none.run pins s2 σ H2 (fun o H3 => o = none ∧ H3 = H2) I2 ⟨rfl, rfl⟩) fun vu s3 ⟨u, H3, I3, pu, eu, e3⟩ => ?_
  subst eu e3
  refine thn (st.run pins s3 σ H3 (fun o H4 => o = some (-1) ∧ H4 = H3) I3 ⟨1, rfl, -1, rfl, rfl, rfl⟩) fun vs s4 ⟨o, H4, I4, ps, eo, e4⟩ => ?_
  subst eo e4
  have I5 : Inv X pins σ H4 { s4 with heap := s4.heap.push { cls := .type "slice", data := .fields #[vl, vu, vs] } } := I4.kept (t' := s4.toks) fun b ob q => Heap.get?_push_of_some _ q
  obtain ⟨its, r, ht, hz⟩ := I5.tuple hx
  have hlen := r.length
  show wpAny (model X.prog X.w) X.A (subscriptTail e (.Slice none none (some (.UnaryOp .USub (.Constant (.int 1) k p1) p2)) p3) (.ref a) (.ref s4.heap.objs.size)) (EP X pins σ Q) X.xe { s4 with heap := s4.heap.push { cls := .type "slice", data := .fields #[vl, vu, vs] } }
  refine tail_any (ops := [.ref a, .ref s4.heap.objs.size]) ht.typeIs (PyProof.Rows.slot_tuple_getitem.lookup) ?_ (by with_unfolding_all rfl)
  refine item_rev ht (Heap.IsSliceOf.new _ vl vu vs) pl pu ps ?_ (by rw [List.size_toArray]; omega)
  refine ⟨.ref _, _, I5.laid (t' := s4.toks) (o := .tup xs.reverse) (fun b ob q => Heap.get?_push_of_some _ q) (Nat.le_refl _) ?_, rfl, q _ (I5.hok.fresh (Nat.le_refl _))⟩
  exact ⟨by rw [List.length_reverse]; exact hz, _, r.reverse, IsTup.new _ _⟩
/-! ### list(text) -/
theorem vals_get : ∀ (vs : List V) (us : List Value), vs.length = us.length → (∀ (i : Nat) (v : V) (u : Value), vs[i]? = some v → us[i]? = some u → RelV v u) → Vals vs us
  | [], [], _, _ => .nil
  | [], _ :: _, e, _ => by cases e
  | _ :: _, [], e, _ => by cases e
  | v :: vs, u :: us, e, h => .cons (h 0 v u rfl rfl) (vals_get vs us (Nat.succ.inj e) fun i a b h1 h2 => h (i + 1) a b h1 h2)
theorem items_strs {x : Str} {acc : Array Value} {n : Nat} (h : ItemsOf (SignAt x) acc n) (hn : n = x.cps.size) : Vals (x.cps.toList.map fun c => V.str ⟨#[c]⟩) acc.toList := by
  obtain ⟨h1, h2⟩ := h
  refine vals_get _ _ (by rw [List.length_map, Array.length_toList, Array.length_toList, h1, hn]) fun i v u hv hu => ?_
  rw [Array.getElem?_toList] at hu
  obtain ⟨c, t, hc, rfl⟩ := h2 i u hu
  rw [List.getElem?_map, Array.getElem?_toList, hc] at hv
  obtain rfl := Option.some.inj hv
  exact ⟨t, rfl⟩
theorem call_listS {X : Cx} (hc : X.calm = true) : CallR X (.type "list") (fun xs H Q => ∃ x : Str, xs = [.str x] ∧ x.cps.size ≤ sizeLine ∧ ∀ l, H l = none → Q (.ref l) (upd H l (.lst (x.cps.toList.map fun c => V.str ⟨#[c]⟩)))) := by
  intro pins s σ H xs us Q I r h
  obtain ⟨x, rfl, hz, q⟩ := h
  obtain ⟨u, rfl, t, rfl⟩ := vals1 r
  refine call_list_str (I.ok.hd hc) x t (fun h' tk acc c kp e hi => ?_) hz
  exact ⟨.ref s.heap.objs.size, _, I.laid (t' := tk) kp (Nat.le_refl _) (show ObjOk X.prog X.w _ h' _ (.lst _) from ⟨by rw [List.length_map, Array.length_toList]; exact hz, acc.toList, c, items_strs hi rfl, e⟩), rfl, q _ (I.hok.fresh (Nat.le_refl _))⟩
/-! ### == and != by an own __eq__ -/
section
variable {prog : Program} {w : World} {A : Around} {E : Value → Shared → Prop} {s : Shared} {K : PySem.W.Frag} {x C L f : Addr} {ox : Obj} {od : Option Obj} {b tb : Value}
theorem call_ne {Q : Value → Shared → Prop} (hu : A.units + 8 < cLine) (KX : K.In s.heap) (I : PySem.W.InstAt s.heap x ox C od) (hob : PySem.W.subIn K (.ref C) (.type "object") = some true)
    (hs : PySem.W.findIn K (.ref C) "__eq__" = some (some (.ref f))) (hf : PySem.W.isFn K (.ref f) = true)
    (h : wpAny (model prog w) A.in1 (call (.ref f) [.ref x, b]) (fun v s' => ∃ r, v = .bool r ∧ Q (.bool (!r)) s') E s) : wpAny (model prog w) A (call (.builtin "object.__ne__") [.ref x, b]) Q E s := by
  refine wpAny_call (codeAny_call_builtin PySem.F.cmp_object.ne.plain PySem.F.cmpEntry_ne ?_)
  simp only [checkBuiltinCall, PySem.F.cmpKind_ne, PySem.F.cmpSplit_ne]
  have ha := PySem.F.cmpArgs_ne (.ref x) b
  have LI : PySem.W.Looks (model prog w) s.heap (isInstance (.ref x) (.type "object")) true := I.type.andThen (PySem.W.looks_subIn KX hob)
  refine wpAny_bind (LI.here ?_)
  have body : wpAny (model prog w) A.in1 (Builtin.«object.__ne__» ⟨[.ref x, b], []⟩) (fun fin s' => match fin with
      | .done fl => wants Q E (.ok fl) s'
      | .again c => c.quiet = true ∧ codeAny (model prog w) A c (wants Q E) s') E s := by
    unfold Builtin.«object.__ne__»
    refine wpAny_bind (m := slotArgs "__ne__" 1 ⟨[.ref x, b], []⟩) (wpAny_of_eq (a := (.ref x, [b])) rfl ?_)
    dsimp only
    refine wpAny_bind (wpAny_cRoomFor (by show A.units + 1 < cLine; omega) ?_)
    refine wpAny_bind (PySem.W.ifBound_K KX I hs hf (wpAny_mono h (fun v s' z => ?_) fun _ _ e => e))
    obtain ⟨r, rfl, q⟩ := z
    dsimp only
    unfold truthy
    dsimp only
    exact wpAny_bind (wpAny_pure (wpAny_pure q))
  cases hsig : Manifest.signature? "object.__ne__" with
  | none => exact wpAny_pure body
  | some sig =>
    simp only [argsOk, hsig] at ha
    have h2 : Bind.checkArgs "object.__ne__" sig ⟨[.ref x, b], []⟩ = pure () := ha
    show wpAny _ A.in1 (Bind.checkArgs "object.__ne__" sig ⟨[.ref x, b], []⟩) _ _ _
    rw [h2]
    exact wpAny_pure body
theorem ne_own {Q : Value → Shared → Prop} (hu : A.units + 8 < cLine) (KX : K.In s.heap) (I : PySem.W.InstAt s.heap x ox C od) (hb : PySem.W.Looks (model prog w) s.heap (typeOf b) tb) (hn : PySem.W.notFirst K C tb = true)
    (hne : PySem.W.findIn K (.ref C) "__ne__" = some (some (.builtin "object.__ne__"))) (hob : PySem.W.subIn K (.ref C) (.type "object") = some true)
    (hs : PySem.W.findIn K (.ref C) "__eq__" = some (some (.ref f))) (hf : PySem.W.isFn K (.ref f) = true)
    (h : wpAny (model prog w) A.in1 (call (.ref f) [.ref x, b]) (fun v s' => ∃ r, v = .bool r ∧ Q (.bool (!r)) s') E s) : wpAny (model prog w) A (richCompare .NotEq (.ref x) b) Q E s := by
  have told : wpAny (model prog w) A (tryCompare (.ref x) (cmpInfo .NotEq).2.1 b) (fun r s' => ∃ v, r = some v ∧ Q v s') E s := by
    unfold tryCompare
    refine wpAny_bind ?_
    show wpAny _ A (callSpecialIfBound? (.ref x) "__ne__" [b]) _ _ s
    simp only [callSpecialIfBound?, bindSpecialIfBound?]
    refine wpAny_holding (wpAny_bind (wpAny_bind (wpAny_bind (I.type.here ((PySem.W.looks_findIn KX hne).here ?_)))))
    have fin : wpAny (model prog w) A (call (.builtin "object.__ne__") ([.ref x] ++ [b]) >>= fun v => pure (some v)) (fun r s' => wpAny (model prog w) A (match r with
        | some .notImplemented | none => pure none
        | some v => pure (some v)) (fun r s' => ∃ v, r = some v ∧ Q v s') E s') E s :=
      wpAny_bind (call_ne hu KX I hob hs hf (wpAny_mono h (fun v s' z => by
        obtain ⟨r, e, q⟩ := z
        exact ⟨r, e, wpAny_pure (wpAny_pure ⟨_, rfl, q⟩)⟩) fun _ _ e => e))
    simp only [PySem.F.cmp_object.ne.bind]
    refine wpAny_bind (wpAny_askSetting (wpAny_ite ?_))
    split
    · exact wpAny_bind (wpAny_pure (wpAny_pure fin))
    · exact wpAny_tryCatch (wpAny_bind (wpAny_pure (wpAny_pure fin)))
  unfold richCompare
  simp only [oneThing_ref]
  refine wpAny_holding (wpAny_bind (wpAny_cRoomFor (by omega) ?_))
  refine wpAny_bind (I.type.here (wpAny_bind (hb.here ?_)))
  split
  · rename_i q
    have e : PySem.W.subIn K tb (.ref C) = some false := by
      rcases Bool.or_eq_true_iff.mp hn with e | e
      · rw [beq_iff_eq.mp e] at q
        simp at q
      · exact beq_iff_eq.mp e
    refine wpAny_bind ((PySem.W.looks_subIn KX e).here ?_)
    simp only [Bool.false_eq_true, if_false]
    refine wpAny_bind (wpAny_mono told (fun r s' z => ?_) fun _ _ e => e)
    obtain ⟨v, rfl, hq⟩ := z
    exact wpAny_pure hq
  · refine wpAny_bind (wpAny_pure ?_)
    simp only [Bool.false_eq_true, if_false]
    refine wpAny_bind (wpAny_mono told (fun r s' z => ?_) fun _ _ e => e)
    obtain ⟨v, rfl, hq⟩ := z
    exact wpAny_pure hq
end
/-- what the class must say -/
structure EqC (K : PySem.W.Frag) (C f : Addr) : Prop where
  eq : PySem.W.findIn K (.ref C) "__eq__" = some (some (.ref f))
  fn : PySem.W.isFn K (.ref f) = true
  ne : PySem.W.findIn K (.ref C) "__ne__" = some (some (.builtin "object.__ne__"))
  ob : PySem.W.subIn K (.ref C) (.type "object") = some true
def rOwn (K : PySem.W.Frag) (C : Addr) (sp : Sp) (E : XK) (neg : Bool) : R2 := fun x y H Q => ∃ (a d : Addr) (fs : List (Str × V)) (t : Value), x = .ref a ∧ H a = some (.ins C d fs) ∧ TyX K H y t ∧ PySem.W.notFirst K C t = true ∧
  sp [.ref a, y] H (fun v H' => ∃ b, v = .bl b ∧ Q (.bl (if neg = true then !b else b)) H') E
section
variable {X : Cx} {CX : CXT} {n : Nat} {C f : Addr} {fd : FuncData} {ps : List Str} {sp : Sp} {E : XK}
theorem run_own {pins : List (Addr × Obj)} {σ : L2.St} {H : Hp} {s : Shared} {Q : VK} {A : Around} {a : Addr} {y : V} {u : Value} (F : FnOk X.prog X.w X.K X.mg X.base CX n f fd ps sp) (hr : Room n A) (hf : A.frames = X.A.frames) (hb : Binds X.K fd ps []) (hx : Passes CX X E)
    (I : Inv X pins σ H s) (ry : RelV y u) (h : sp [.ref a, y] H (fun v H' => ∃ b, v = .bl b ∧ Q (.bl b) H') E) :
    wpAny (model X.prog X.w) A (call (.ref f) [.ref a, u]) (fun v s' => ∃ r, v = .bool r ∧ EP X pins σ Q (.bool r) s') X.xe s := by
  have e0 : Env0 X.prog X.w X.K X.mg X.base A X.stack s H := by
    have e := I.env0
    exact ⟨by rw [hf]; exact e.frames, e.mod, e.bs, e.bsz, e.funs, e.frf, e.hok, e.bare⟩
  have hl := F.len _ _ _ _ h
  have r2 : Vals [V.ref a, y] [Value.ref a, u] := .cons rfl (.cons ry .nil)
  refine wpAny_call (codeAny_mono (F.run A X.stack s H ⟨[.ref a, u], []⟩ [.ref a, u] [.ref a, y] _ E hr e0 (by
    have z := hb s [.ref a, u] I.kIn (by simpa using hl)
    simpa using z) r2 h) fun r s' hq => ?_)
  cases r with
  | error e => exact hx pins σ H s e s' I hq
  | ok fl =>
    cases fl with
    | ret z =>
      obtain ⟨v, H', I', rz, hh⟩ := I.after hq
      obtain ⟨b, ev, q⟩ := hh
      subst ev
      obtain rfl : z = .bool b := rz
      exact ⟨b, rfl, .bl b, H', I', rfl, q⟩
    | next => exact False.elim hq
    | brk => exact False.elim hq
    | cont => exact False.elim hq
theorem op_own (T : EqC X.K C f) (F : FnOk X.prog X.w X.K X.mg X.base CX n f fd ps sp) (hr : Room n X.A) (hb : Binds X.K fd ps []) (hx : Passes CX X E) : OpR X (compareOp .Eq) (rOwn X.K C sp E false) := by
  intro pins s σ H x y v u Q I rx ry h
  obtain ⟨a, d, fs, t, rfl, ha, ty, nf, q⟩ := h
  cases rx
  obtain ⟨mA, J, _⟩ := ins_get I.hok ha
  obtain ⟨od, J, _⟩ := J.look
  obtain ⟨P, kx, hP, _⟩ := kit_of I ry ty
  obtain ⟨m, hF⟩ := I.fr
  simp only [Bool.false_eq_true, if_false] at q
  refine PySem.W.cmp_K (op := .Eq) hr.units0 hF I.ok.mod.kin J (kx.ty _ _ I.kIn hP) nf T.eq T.fn (wpAny_mono (run_own (A := X.A) F hr rfl hb hx I ry q) (fun v s' z => ?_) fun _ _ e => e)
  obtain ⟨r, rfl, q⟩ := z
  exact q
theorem op_ownNe (T : EqC X.K C f) (F : FnOk X.prog X.w X.K X.mg X.base CX n f fd ps sp) (hr : Room (n + 1) X.A) (hb : Binds X.K fd ps []) (hx : Passes CX X E) : OpR X (compareOp .NotEq) (rOwn X.K C sp E true) := by
  intro pins s σ H x y v u Q I rx ry h
  obtain ⟨a, d, fs, t, rfl, ha, ty, nf, q⟩ := h
  cases rx
  obtain ⟨mA, J, _⟩ := ins_get I.hok ha
  obtain ⟨od, J, _⟩ := J.look
  obtain ⟨P, kx, hP, _⟩ := kit_of I ry ty
  refine ne_own (by have := hr.un; omega) I.kIn J (kx.ty _ _ I.kIn hP) nf T.ne T.ob T.eq T.fn (wpAny_mono (run_own (A := X.A.in1) (Q := fun v H' => ∃ b, v = .bl b ∧ Q (.bl (!b)) H') F hr.in1 rfl hb hx I ry ?_) (fun v s' z => ?_) fun _ _ e => e)
  · have e : (fun v H' => ∃ b, v = V.bl b ∧ Q (.bl (if true = true then !b else b)) H') = fun v H' => ∃ b, v = V.bl b ∧ ∃ c, V.bl b = .bl c ∧ Q (.bl (!c)) H' := by
      funext v H'
      refine propext ⟨fun ⟨b, e, q⟩ => ⟨b, e, b, rfl, q⟩, fun ⟨b, e, c, e2, q⟩ => ⟨b, e, by cases e2; exact q⟩⟩
    rw [e] at q
    exact q
  · obtain ⟨r, rfl, v, H', I', rv, b, ev, q⟩ := z
    subst ev
    have e : r = b := by
      have z : Value.bool r = .bool b := rv
      cases z
      rfl
    subst e
    exact ⟨r, rfl, .bl (!r), H', I', rfl, q⟩
end
/-! ### C(..) in a try -/
def tMakeS (C : Addr) (sp : Sp) (dvs : List V) (E : L2.St → XK) (t : TA) : TE := fun σ H Q => t σ H fun vs H1 => ∀ x dx, H1 x = none → H1 dx = none → dx ≠ x →
  sp (.ref x :: (vs ++ dvs)) (upd (upd H1 dx (.own x)) x (.ins C dx [])) (fun v H2 => v = .non ∧ Q (.ref x) H2) (E σ)
section
variable {X : Cx} {CX : CXT} {k : Nat} {C f : Addr} {fd : FuncData} {ps : List Str} {sp : Sp} {E : L2.St → XK} {x : Str} {p pos : Pos} {e : Expr} {es : List Expr} {t : TA} {dvs : List V} {ds : List Value}
theorem run_makeS {pins : List (Addr × Obj)} {σ : L2.St} {H : Hp} {s : Shared} {Q : VK} {us : List Value} {vs : List V} (M : Mk X.K C f) (F : FnOk X.prog X.w X.K X.mg X.base CX k f fd ps sp) (hr : Room (k + 1) X.A) (hb : Binds X.K fd ps ds) (hd : Vals dvs ds)
    (hx : PassesAt CX X σ (E σ)) (I : Inv X pins σ H s) (r : Vals vs us)
    (h : ∀ x dx, H x = none → H dx = none → dx ≠ x → sp (.ref x :: (vs ++ dvs)) (upd (upd H dx (.own x)) x (.ins C dx [])) (fun v H2 => v = .non ∧ Q (.ref x) H2) (E σ)) :
    wpAny (model X.prog X.w) X.A (call (.ref C) us) (EP X pins σ Q) X.xe s := by
  have hq := h (s.heap.objs.size + 1) s.heap.objs.size (I.hok.fresh (Nat.le_succ _)) (I.hok.fresh (Nat.le_refl _)) (Nat.ne_of_lt (Nat.lt_succ_self _))
  have I2 := Inv.made (C := C) I
  have r2 : Vals (V.ref (s.heap.objs.size + 1) :: (vs ++ dvs)) (Value.ref (s.heap.objs.size + 1) :: (us ++ ds)) := .cons rfl (r.append hd)
  have hl : (Value.ref (s.heap.objs.size + 1) :: us ++ ds).length = ps.length := by
    have e := r2.length
    rw [F.len _ _ _ _ hq] at e
    exact e.symm
  refine wpAny_call (make_map (f := f) I.kIn M.makes M.init (beq_iff_eq.mp M.fn) (codeAny_mono (F.run _ X.stack _ _ ⟨Value.ref (s.heap.objs.size + 1) :: us, []⟩ (Value.ref (s.heap.objs.size + 1) :: (us ++ ds)) _ _ (E σ) (hr.make C us [])
    (I2.env0.make C us []) (hb _ (Value.ref (s.heap.objs.size + 1) :: us) I2.kIn hl) r2 hq) fun r s' hq' => ?_))
  cases r with
  | error e => exact hx pins _ _ e s' I2 hq'
  | ok fl =>
    cases fl with
    | ret u =>
      obtain ⟨v, H', I3, rv, ev, q3⟩ := I2.after hq'
      subst ev
      exact ⟨rv, ⟨V.ref (s.heap.objs.size + 1), H', I3, rfl, q3⟩⟩
    | next => exact False.elim hq'
    | brk => exact False.elim hq'
    | cont => exact False.elim hq'
theorem pe_makeS (M : Mk X.K C f) (F : FnOk X.prog X.w X.K X.mg X.base CX k f fd ps sp) (hr : Room (k + 1) X.A) (hg : Gl X x) (hm : X.mg x = some (.ref C)) (hb : Binds X.K fd ps ds) (hd : Vals dvs ds) (hx : ∀ σ, PassesAt CX X σ (E σ))
    (ha : PA X (e :: es) t) (hdb : (x == ("__debug__" : Str)) = false := by decide) (he : starEach (e :: es) X.env = (false, eval e X.env) :: starEach es X.env := by rfl) (hpl : (backTo pos (starEach es X.env)).any (·.1) = false := by rfl) :
    PE X (.Call (.Name x p) (e :: es) [] pos) (tMakeS C sp dvs E t) := by
  refine ⟨fun pins s σ H Q I h => ?_⟩
  refine wpAny_Call_Name_kw (ld_glob I hg hm ?_ hdb)
  refine PySem.W.callWith_K (h₀ := X.base) I.ok.mod.kin M.kp (thn (ha.run pos pins s σ H _ I h) fun us s1 ⟨vs, H1, I1, r, q⟩ => ⟨I1.kIn, ?_⟩) he hpl
  exact run_makeS M F hr hb hd (hx σ) I1 r q
end
/-- of a callee that raises, where it does not -/
theorem passN {X : Cx} : Passes (L2.CX X.prog X.w) X (fun _ _ _ => False) := fun _ _ _ _ _ _ _ h => by
  obtain ⟨_, _, _, _, _, _, _, _, _, _, _, _, z⟩ := h
  exact z.elim
/-- X() raised, an own exception class without own __init__ -/
theorem pmk_own0 {X : Cx} {C : Addr} {x : Str} {p pos : Pos} (q : PySem.W.excIn X.K C [.type "ValueError", .type "Exception", .type "BaseException", .type "object"] "ValueError.__new__" = true) (gC : X.mg x = some (.ref C)) (kC : PySem.W.keepIn X.K (.ref C) = true)
    (b : PySem.W.subIn X.K (.ref C) (.type "BaseException") = some true) (t : PySem.W.typeIn X.K (.ref C) = some (.type "type")) (hg : Gl X x) (hdb : (x == ("__debug__" : Str)) = false := by decide) : PMk X (.Call (.Name x p) [] [] pos) (fun _ H Q => Q (.ref C) none H) := by
  intro pins s σ H Q I h
  refine wpAny_Call_Name_kw (ld_glob I hg gC ?_ hdb)
  refine PySem.W.callWith_K0 I.kIn kC ?_
  show wpAny _ _ (call (.ref C) []) _ _ _
  obtain ⟨bm, N, nm, qn, bs, hdct, sn, sub, ab, col, dd, k0, k1, k2, k3, k5, mN, hC, hN, hni, T⟩ := exc_obj I.kIn q
  refine wpAny_call_exc_subT F.excBase_ValueError T hC hN hni (fun h' e hm => ?_) (by show 0 ≤ sizeLine; exact Nat.zero_le _)
  exact mk_of I hm (raises_own b t) h (I.hok.gone hm.new)
end NR

/-! more readings -/
namespace RB
open PySem PySem.Spec PyProof.Rows L2
section
variable {K : PySem.W.Frag} {σ : L2.St} {H : Hp} {Q : VK} {ta tb tc te to : TE} {t tx : TA} {r r' : R2}
theorem chain (h : ta σ H fun x H1 => tb σ H1 fun y H2 => r x y H2 fun z H3 => ∃ k, z = .bl k ∧ (if k = true then tc σ H3 fun w' H4 => r' y w' H4 Q else Q (.bl false) H3)) : tChain r r' ta tb tc σ H Q := h
theorem inT {p : Addr} {xs : List V} {x : V} (hq : SqL K H p xs ∨ SqT K H p xs) (fx : flatV x = true) (fs : xs.all flatV = true) (q : Q (.bl (inV x xs)) H) : rIn K false x (.ref p) H Q := ⟨p, xs, rfl, hq, fx, fs, q⟩
theorem ninT {p : Addr} {xs : List V} {x : V} (hq : SqL K H p xs ∨ SqT K H p xs) (fx : flatV x = true) (fs : xs.all flatV = true) (q : Q (.bl (!inV x xs)) H) : rIn K true x (.ref p) H Q := ⟨p, xs, rfl, hq, fx, fs, q⟩
theorem inS {c : Nat} {z : Str} {R : Nat → Str → Prop} (q : R c z) : ∃ (d : Nat) (y : Str), V.str ⟨#[c]⟩ = .str ⟨#[d]⟩ ∧ V.str z = .str y ∧ R d y := ⟨c, z, rfl, rfl, q⟩
theorem lenL {p : Addr} {xs : List V} {R : Nat → Prop} (hx : SqL K H p xs) (q : R xs.length) : ∃ y n, [V.ref p] = [y] ∧ LenV K y H n ∧ R n := ⟨_, _, rfl, .inl ⟨xs, hx, rfl⟩, q⟩
theorem lenT {p : Addr} {xs : List V} {R : Nat → Prop} (hx : SqT K H p xs) (q : R xs.length) : ∃ y n, [V.ref p] = [y] ∧ LenV K y H n ∧ R n := ⟨_, _, rfl, .inr ⟨xs, hx, rfl⟩, q⟩
theorem lenS {z : Str} {R : Nat → Prop} (hz : z.length ≤ sizeLine) (q : R z.length) : ∃ y n, [V.str z] = [y] ∧ LenV K y H n ∧ R n := ⟨_, _, rfl, ⟨hz, rfl⟩, q⟩
theorem m1 {r : V → List V → Hp → VK → Prop} (h : to σ H fun x H1 => (∃ a, x = .str a) ∧ te σ H1 fun y H2 => r x [y] H2 Q) : tM1 r to te σ H Q := h
theorem strE {z : Str} {R : Prop} (q : R) : (∃ a, V.str z = .str a) ∧ R := ⟨⟨z, rfl⟩, q⟩
theorem joinV {z : Str} {p : Addr} {ys : List Str} {R : Str → List Str → Prop} (hq : SqL K H p (ys.map V.str) ∨ SqT K H p (ys.map V.str)) (hz : (ys.map (·.length)).sum + ys.length * z.length ≤ 16777216) (q : R z ys) :
    ∃ a q', ∃ ws : List Str, V.str z = .str a ∧ [V.ref p] = [.ref q'] ∧ (SqL K H q' (ws.map V.str) ∨ SqT K H q' (ws.map V.str)) ∧ (ws.map (·.length)).sum + ws.length * a.length ≤ 16777216 ∧ R a ws := ⟨z, p, ys, rfl, rfl, hq, hz, q⟩
theorem cut_all {xs : List V} {lo hi : Option Int} (h : HT.sIx xs.length 0 lo = 0 ∧ HT.sIx xs.length xs.length hi = xs.length) : cutV xs lo hi = xs := by
  unfold cutV
  rw [h.1, h.2, List.drop_zero]
  exact List.take_of_length_le (by omega)
theorem slT {a : Addr} {xs : List V} {lo hi : Option Int} (hx : H a = some (.tup xs)) (h : ∀ p H', Same H H' → H' p = some (.tup (cutV xs lo hi)) → (p = a ∨ H p = none) → Q (.ref p) H') : rSlA K (.ref a) lo hi H Q := by
  refine ⟨a, xs, rfl, .inl (.inl hx), fun hw => ?_, fun _ p hp => h p _ (RD.same_new hp) upd_same (.inr hp)⟩
  exact h a H (Same.refl _) (by rw [cut_all hw]; exact hx) (.inl rfl)
theorem catT {a b : Addr} {xs ys : List V} (ha : H a = some (.tup xs)) (hb : H b = some (.tup ys)) (hz : xs.length + ys.length ≤ sizeLine)
    (h : ∀ p H', Same H H' → H' p = some (.tup (xs ++ ys)) → (p = a ∨ p = b ∨ H p = none) → Q (.ref p) H') : rCatA K (.ref a) (.ref b) H Q := by
  refine ⟨a, b, xs, ys, rfl, rfl, .inl (.inl ha), .inl (.inl hb), hz, fun e => ?_, fun _ e => ?_, fun _ _ p hp => h p _ (RD.same_new hp) upd_same (.inr (.inr hp))⟩
  · exact h b H (Same.refl _) (by rw [e, List.nil_append]; exact hb) (.inr (.inl rfl))
  · exact h a H (Same.refl _) (by rw [e, List.append_nil]; exact ha) (.inl rfl)
def RevX (K : PySem.W.Frag) (x : V) (H1 : Hp) (Q : VK) : Prop := ∃ a xs, x = .ref a ∧ SqT K H1 a xs ∧ ∀ p, H1 p = none → Q (.ref p) (upd H1 p (.tup xs.reverse))
theorem rev (h : te σ H fun x H1 => RevX K x H1 Q) : NR.tRevT K te σ H Q := h
theorem revV {a : Addr} {xs : List V} (hx : SqT K H a xs) (h : ∀ p H', H p = none → Same H H' → H' p = some (.tup xs.reverse) → Q (.ref p) H') : RevX K (.ref a) H Q := ⟨a, xs, rfl, hx, fun p hp => h p _ hp (RD.same_new hp) upd_same⟩
def rListS : List V → Hp → VK → Prop := fun xs H Q => ∃ x : Str, xs = [.str x] ∧ x.cps.size ≤ sizeLine ∧ ∀ l, H l = none → Q (.ref l) (upd H l (.lst (x.cps.toList.map fun c => V.str ⟨#[c]⟩)))
theorem call_listS {X : Cx} (hc : X.calm = true) : CallR X (.type "list") rListS := NR.call_listS hc
theorem listS {z : Str} (hz : z.cps.size ≤ sizeLine) (h : ∀ p H', H p = none → Same H H' → H' p = some (.lst (z.cps.toList.map fun c => V.str ⟨#[c]⟩)) → Q (.ref p) H') : rListS [.str z] H Q := ⟨z, rfl, hz, fun p hp => h p _ hp (RD.same_new hp) upd_same⟩
def rListO (K : PySem.W.Frag) : List V → Hp → VK → Prop := fun xs H Q => ∃ p ys, xs = [.ref p] ∧ (SqL K H p ys ∨ SqT K H p ys) ∧ ∀ l, H l = none → Q (.ref l) (upd H l (.lst ys))
theorem call_listO {X : Cx} : CallR X (.type "list") (rListO X.K) := call_list_of
theorem listO {a : Addr} {xs : List V} (hx : SqL K H a xs ∨ SqT K H a xs) (h : ∀ p H', H p = none → Same H H' → H' p = some (.lst xs) → Q (.ref p) H') : rListO K [.ref a] H Q := ⟨a, xs, rfl, hx, fun p hp => h p _ hp (RD.same_new hp) upd_same⟩
def rTupO (K : PySem.W.Frag) : List V → Hp → VK → Prop := fun xs H Q => ∃ p ys, xs = [.ref p] ∧ ((SqL K H p ys ∧ ∀ l, H l = none → Q (.ref l) (upd H l (.tup ys))) ∨ (SqT K H p ys ∧ Q (.ref p) H))
theorem call_tupO {X : Cx} : CallR X (.type "tuple") (rTupO X.K) := call_tuple_of
theorem tupL {a : Addr} {xs : List V} (hx : SqL K H a xs) (h : ∀ p H', H p = none → Same H H' → H' p = some (.tup xs) → Q (.ref p) H') : rTupO K [.ref a] H Q := ⟨a, xs, rfl, .inl ⟨hx, fun p hp => h p _ hp (RD.same_new hp) upd_same⟩⟩
theorem fld {f : Str} (h : ta σ H fun x H1 => ∃ a C dx fs v, x = .ref a ∧ H1 a = some (.ins C dx fs) ∧ Cls K C ∧ NoAttr K C f ∧ fs.lookup f = some v ∧ Q v H1) : tFld K ta f σ H Q := h
theorem fldV {a C dx : Addr} {fs : List (Str × V)} {v : V} {f : Str} {R : V → Prop} (ha : H a = some (.ins C dx fs)) (c : Cls K C) (n : NoAttr K C f) (l : fs.lookup f = some v) (q : R v) :
    ∃ b D dy gs w, V.ref a = .ref b ∧ H b = some (.ins D dy gs) ∧ Cls K D ∧ NoAttr K D f ∧ gs.lookup f = some w ∧ R w := ⟨a, C, dx, fs, v, rfl, ha, c, n, l, q⟩
def SSX (v : V) (H1 : Hp) (Q : VK) : Prop := ∃ x : Str, v = .str x ∧ x.cps.size ≤ 4000 ∧ ∀ (ys : List Str) (p : Addr), SST.Own x ys → H1 p = none → Q (.ref p) (upd H1 p (.lst (ys.map V.str)))
theorem ss (h : te σ H fun v H1 => SSX v H1 Q) : SST.tSS te σ H Q := h
theorem ssV {z : Str} (hz : z.cps.size ≤ 4000) (h : ∀ ys p H', SST.Own z ys → H p = none → Same H H' → H' p = some (.lst (ys.map V.str)) → Q (.ref p) H') : SSX (.str z) H Q := ⟨z, rfl, hz, fun ys p ho hp => h ys p _ ho hp (RD.same_new hp) upd_same⟩
theorem w_str {z : Str} : Walk (Its z) z.cps.size (fun _ => True) (YAt (z.cps.toList.map fun c => V.str ⟨#[c]⟩)) := walk_str.mono (fun _ h => h) fun i H x H' _ _ y => by
  obtain ⟨rfl, c, hc, rfl⟩ := y
  refine ⟨rfl, ?_⟩
  rw [List.getElem?_map, Array.getElem?_toList, hc]
  rfl
end
section
variable {K : PySem.W.Frag} {σ : L2.St} {H : Hp} {ta tv : TE} {t : TA} {D : Ends} {Q : VK}
theorem setF {f : Str} (h : tv σ H fun y H1 => ta σ H1 fun x H2 => ∃ a C dx fs, x = .ref a ∧ H2 a = some (.ins C dx fs) ∧ Cls K C ∧ NoAttr K C f ∧ fs.length < 1000 ∧ D.nx σ (upd H2 a (.ins C dx (putF f y fs)))) : sFld K ta tv f D σ H := h
theorem setFV {a C dx : Addr} {fs : List (Str × V)} {y : V} {f : Str} {R : Hp → Prop} (ha : H a = some (.ins C dx fs)) (c : Cls K C) (n : NoAttr K C f) (l : fs.length < 1000) (q : ∀ H', RD.KB a H H' → H' a = some (.ins C dx (putF f y fs)) → R H') :
    ∃ b D dy gs, V.ref a = .ref b ∧ H b = some (.ins D dy gs) ∧ Cls K D ∧ NoAttr K D f ∧ gs.length < 1000 ∧ R (upd H b (.ins D dy (putF f y gs))) := ⟨a, C, dx, fs, rfl, ha, c, n, l, q _ RD.kb_upd upd_same⟩
def MakeX (C : Addr) (sp : Sp) (vs : List V) (E : XK) (H1 : Hp) (Q : VK) : Prop := ∀ x dx, H1 x = none → H1 dx = none → dx ≠ x → sp (.ref x :: vs) (upd (upd H1 dx (.own x)) x (.ins C dx [])) (fun v H2 => v = .non ∧ Q (.ref x) H2) E
theorem make {C : Addr} {sp : Sp} {dvs : List V} {E : XK} (h : t σ H fun vs H1 => MakeX C sp (vs ++ dvs) E H1 Q) : tMake C sp dvs E t σ H Q := h
theorem makeS {C : Addr} {sp : Sp} {dvs : List V} {E : L2.St → XK} (h : t σ H fun vs H1 => MakeX C sp (vs ++ dvs) (E σ) H1 Q) : NR.tMakeS C sp dvs E t σ H Q := h
/-- the new instance -/
theorem made {C : Addr} {H1 : Hp} {sp : Sp} {vs : List V} {E : XK} (h : ∀ x H2 dx, H1 x = none → Same H1 H2 → H2 x = some (.ins C dx []) → sp (.ref x :: vs) H2 (fun v H2 => v = .non ∧ Q (.ref x) H2) E) : MakeX C sp vs E H1 Q := fun x dx hx hd n =>
  h x _ dx hx (fun b o e => by
    have n1 : b ≠ x := fun z => by subst z; rw [hx] at e; cases e
    have n2 : b ≠ dx := fun z => by subst z; rw [hd] at e; cases e
    unfold upd
    rw [if_neg n1, if_neg n2]
    exact e) upd_same
end
/-- X(e) raised: the error's own dict d, all else as it was -/
theorem mkO {C : Addr} {fld : Str} {ta : TA} {σ : L2.St} {H : Hp} {Q : XK} (h : ta σ H fun vs H1 => vs.length ≤ 1000 ∧ ∀ a, H1 a = none → SPX.spSi C fld (.ref a :: (vs ++ [])) (upd H1 a (exo a C none))
    (fun v H2 => v = .non ∧ ∃ (d : Addr) (fs : List (Str × V)), H2 a = some (exo a C (some d)) ∧ H2 d = some (exd d fs) ∧ H1 d = none ∧ Q (.ref C) (some d) (upd (del H2 a) d (.xd fs))) (fun _ _ _ => False)) : tMkO C (SPX.spSi C fld) [] ta σ H Q := h
theorem mkOV {C : Addr} {fld : Str} {v : V} {H1 : Hp} {Q : XK} (h : ∀ d H', H1 d = none → Same H1 H' → H' d = some (.xd [(fld, v)]) → Q (.ref C) (some d) H') :
    [v].length ≤ 1000 ∧ ∀ a, H1 a = none → SPX.spSi C fld (.ref a :: ([v] ++ [])) (upd H1 a (exo a C none))
      (fun u H2 => u = .non ∧ ∃ (d : Addr) (fs : List (Str × V)), H2 a = some (exo a C (some d)) ∧ H2 d = some (exd d fs) ∧ H1 d = none ∧ Q (.ref C) (some d) (upd (del H2 a) d (.xd fs))) (fun _ _ _ => False) := by
  refine ⟨(by show 1 ≤ 1000; decide), fun a ha => ⟨a, v, rfl, upd_same, fun d hd n => ⟨rfl, d, [(fld, v)], upd_same, ?_, ?_, ?_⟩⟩⟩
  · rw [upd_ne n, upd_same]
  · rw [upd_ne n] at hd
    exact hd
  · have hd1 : H1 d = none := by
      rw [upd_ne n] at hd
      exact hd
    refine h d _ hd1 (fun b o e => ?_) upd_same
    have n1 : b ≠ a := fun z => by subst z; rw [ha] at e; cases e
    have n2 : b ≠ d := fun z => by subst z; rw [hd1] at e; cases e
    rw [upd_ne n2, del_ne n1, upd_ne n1, upd_ne n2, upd_ne n1]
    exact e
section
variable {σ : L2.St} {H : Hp} {Q : VK}
theorem xf {a C : Addr} {cls : Value} {d : Option Addr} {f : Str} {te : TE} (h : te σ H fun x H1 => x = .ref a ∧ cls = .ref C ∧ ∃ (dd : Addr) (fs : List (Str × V)) (v : V), d = some dd ∧ H1 dd = some (.xd fs) ∧ fs.lookup f = some v ∧ Q v H1) : tXf a cls d C f te σ H Q := h
theorem xfV {a C dd : Addr} {fs : List (Str × V)} {v : V} {f : Str} {R : V → Prop} (hd : H dd = some (.xd fs)) (l : fs.lookup f = some v) (q : R v) :
    V.ref a = .ref a ∧ Value.ref C = .ref C ∧ ∃ (dy : Addr) (gs : List (Str × V)) (u : V), some dd = some dy ∧ H dy = some (.xd gs) ∧ gs.lookup f = some u ∧ R u := ⟨rfl, rfl, dd, fs, v, rfl, hd, l, q⟩
end
theorem pe_fldK {X : Cx} {K : PySem.W.Frag} (hK : X.K = K) {e : Expr} {ta : TE} {f : Str} {pos : Pos} (he : PE X e ta) (hb : attributeBase e f X.env (eval e X.env) = eval e X.env) : PE X (.Attribute e f pos) (tFld K ta f) := by
  subst hK
  exact pe_fld he hb
theorem par3 {i j l : Nat} {tx : TA} {D : Ends} {σ : L2.St} {H : Hp} (h : tx σ H fun vs H1 => ∃ u v w, vs = [u, v, w] ∧ D.nx (((σ.set i (some u)).set j (some v)).set l (some w)) H1) : tPar3 i j l tx D σ H := h
theorem par3V {x y z : V} {R : V → V → V → Prop} (h : R x y z) : ∃ u v w, [x, y, z] = [u, v, w] ∧ R u v w := ⟨x, y, z, rfl, h⟩
theorem slS {z : Str} {lo hi : Option Int} {H : Hp} {Q : VK} (hz : z.length ≤ sizeLine) (q : Q (.str (cutS z lo hi)) H) : rSlS (.str z) lo hi H Q := ⟨z, rfl, hz, q⟩
/-! ### sizes, data of such lists -/
def LN (m : Nat) (xs : List V) : Prop := xs.length ≤ m
theorem LN.cut {m : Nat} {xs : List V} {lo hi : Option Int} (h : LN m xs) : LN m (cutV xs lo hi) := Nat.le_trans (cutV_length xs lo hi) h
theorem LN.app {m k : Nat} {xs ys : List V} (h : LN m xs) (g : LN k ys) : LN (m + k) (xs ++ ys) := by
  show (xs ++ ys).length ≤ m + k
  rw [List.length_append]
  exact Nat.add_le_add h g
theorem LN.rev {m : Nat} {xs : List V} (h : LN m xs) : LN m xs.reverse := by
  show xs.reverse.length ≤ m
  rw [List.length_reverse]
  exact h
theorem LN.lit {m : Nat} {xs : List V} (h : xs.length = m) : LN m xs := Nat.le_of_eq h
theorem LN.rep {m k : Nat} {xs : List V} (h : LN m xs) : LN (k * m) (List.replicate k xs).flatten := by
  show (List.replicate k xs).flatten.length ≤ k * m
  rw [List.length_flatten, List.map_replicate, List.sum_replicate_nat]
  exact Nat.mul_le_mul_left k h
theorem LN.sum {m k : Nat} {xs ys : List V} (h : LN m xs) (g : LN k ys) (e : Nat.ble (m + k) 16777216 = true) : xs.length + ys.length ≤ sizeLine := by
  rw [sizeLine_eq]
  exact Nat.le_trans (Nat.add_le_add h g) (Nat.le_of_ble_eq_true e)
open SPD in
theorem dqa_mem {x : Addr} {H : Hp} {n : Nat} : ∀ {ys : List V}, (∀ y, y ∈ ys → Dq x H n y) → DqA x H n ys
  | [], _ => .nil
  | y :: r, h => .cons (h y List.mem_cons_self) (dqa_mem fun z hz => h z (List.mem_cons_of_mem _ hz))
open SPD in
theorem dqa_cut {x : Addr} {H : Hp} {n : Nat} {xs : List V} {lo hi : Option Int} (h : DqA x H n xs) : DqA x H n (cutV xs lo hi) := dqa_mem fun y hy => h.mem y (by
  unfold cutV at hy
  exact List.mem_of_mem_drop (List.mem_of_mem_take hy))
open SPD in
theorem dqa_rev {x : Addr} {H : Hp} {n : Nat} {xs : List V} (h : DqA x H n xs) : DqA x H n xs.reverse := dqa_mem fun y hy => h.mem y (List.mem_reverse.mp hy)
open SPD in
theorem dqa_rep {x : Addr} {H : Hp} {n k : Nat} {xs : List V} (h : DqA x H n xs) : DqA x H n (List.replicate k xs).flatten := dqa_mem fun y hy => h.mem y (by
  obtain ⟨l, hl, hy⟩ := List.mem_flatten.mp hy
  rw [(List.mem_replicate.mp hl).2] at hy
  exact hy)
open SPD in
theorem dqa_strs {x : Addr} {H : Hp} {n : Nat} {zs : List Str} (h : ∀ z, z ∈ zs → z.cps.size ≤ 100000) : DqA x H n (zs.map V.str) := dqa_mem fun y hy => by
  obtain ⟨z, hz, rfl⟩ := List.mem_map.mp hy
  exact .leaf (Nat.ble_eq_true_of_le (h z hz))
open SPD in
theorem dqa_mono {x : Addr} {H : Hp} {n m : Nat} {xs : List V} (h : DqA x H n xs) (hm : n ≤ m) : DqA x H m xs := dqa_mem fun y hy => (h.mem y hy).mono m hm
open SPD in
theorem dqTupN {x : Addr} {H : Hp} {n m : Nat} {a : Addr} {xs : List V} (h : H a = some (.tup xs)) (ne : a ≠ x) (g : DqA x H n xs) (l : LN m xs) (e : Nat.ble m 16777216 = true) : Dq x H (n + 1) (.ref a) := .tup ne h (Nat.le_trans l (Nat.le_of_ble_eq_true e)) g.mem
open SPD in
theorem dqLstN {x : Addr} {H : Hp} {n m : Nat} {a : Addr} {xs : List V} (h : H a = some (.lst xs)) (ne : a ≠ x) (g : DqA x H n xs) (l : LN m xs) (e : Nat.ble m 16777216 = true) : Dq x H (n + 1) (.ref a) := .lst ne h (Nat.le_trans l (Nat.le_of_ble_eq_true e)) g.mem
theorem repL {l : Addr} {k : Int} {xs : List V} {H : Hp} {Q : VK} (hx : H l = some (.lst xs)) (hk : (-(2 ^ 63) ≤ k ∧ k < 2 ^ 63) ∧ xs.length * k.toNat ≤ sizeLine) (h : ∀ p H', H p = none → Same H H' → H' p = some (.lst (List.replicate k.toNat xs).flatten) → Q (.ref p) H') : rRep (.ref l) (.int k) H Q :=
  ⟨l, k, xs, rfl, rfl, hx, hk.1.1, hk.1.2, hk.2, fun p hp => h p _ hp (RD.same_new hp) upd_same⟩
theorem repT {K : PySem.W.Frag} {l : Addr} {k : Int} {xs : List V} {H : Hp} {Q : VK} (hx : SqT K H l xs) (hk : xs ≠ [] ∧ (2 ≤ k ∧ k ≤ 1000) ∧ xs.length ≤ 1000) (h : ∀ p H', H p = none → Same H H' → H' p = some (.tup (List.replicate k.toNat xs).flatten) → Q (.ref p) H') : rRepT K (.ref l) (.int k) H Q :=
  ⟨l, k, xs, rfl, rfl, hx, hk.1, hk.2.1.1, hk.2.1.2, hk.2.2, fun p hp => h p _ hp (RD.same_new hp) upd_same⟩
def rMulS : R2 := fun x y H Q => ∃ z n, x = .str z ∧ y = .int n ∧ MulOk z n ∧ Q (.str (Txt.mul z n)) H
theorem op_mulS {X : Cx} : OpR X (binaryOp .Mult) rMulS := by
  intro pins s σ H x y v u Q I rx ry h
  obtain ⟨z, n, rfl, rfl, hz, q⟩ := h
  obtain ⟨t, rfl⟩ := rx
  obtain ⟨t2, rfl⟩ := ry
  exact SB.mul hz fun t' k => ⟨.str (Txt.mul z n), H, I.tok _, ⟨_, rfl⟩, q⟩
theorem mulS {z : Str} {n : Int} {H : Hp} {Q : VK} (h : MulOk z n) (q : Q (.str (Txt.mul z n)) H) : rMulS (.str z) (.int n) H Q := ⟨z, n, rfl, rfl, h, q⟩
theorem addS {i j : Str} {R : Str → Str → Prop} (h : i.length + j.length ≤ sizeLine) (q : R i j) : ∃ a b, V.str i = .str a ∧ V.str j = .str b ∧ a.length + b.length ≤ sizeLine ∧ R a b := ⟨i, j, rfl, rfl, h, q⟩
section
variable {K : PySem.W.Frag} {σ : L2.St} {H : Hp} {Q : VK}
theorem bmS {z : Str} {R : Prop} (q : R) : tyV K "str" (.str z) H ∧ R := ⟨rfl, q⟩
theorem sw3 {x y : Str} {i : Int} {R : Str → Str → Int → Prop} (q : R x y i) : ∃ (a b : Str) (j : Int), V.str x = .str a ∧ [V.str y, V.int i] = [.str b, .int j] ∧ R a b j := ⟨x, y, i, rfl, rfl, q⟩
theorem ext {l b : Addr} {xs zs : List V} (h1 : H l = some (.lst xs)) (h2 : H b = some (.lst zs)) (hz : xs.length + zs.length ≤ sizeLine) (h : ∀ H2, RD.KB l H H2 → H2 l = some (.lst (xs ++ zs)) → Q .non H2) : rExtend (.ref l) [.ref b] H Q := ⟨l, b, xs, zs, rfl, rfl, h1, h2, hz, RD.mutn h⟩
theorem notInD {x y : V} {d : PyData} {ds : List PyData} (h1 : Dp K H x d) (h2 : Dp K H y (.list ds)) (s1 : SeqAt.shaped d = true) (s2 : SeqAt.shaped (.list ds) = true) (q : Q (.bl (!ds.any fun z => PyData.eqv z d)) H) : rNotInD K x y H Q := ⟨d, ds, h1, h2, s1, s2, q⟩
end
theorem pe_bmK {X : Cx} {K : PySem.W.Frag} (hK : X.K = K) {T : String} {name : Str} {id : String} {r : V → List V → Hp → VK → Prop} {o e : Expr} {es : List Expr} {to : TE} {t : TA} {apos cpos : Pos} (pa : PlainAttrs T) (slot : Slot T name id) (hty : typeOf (.builtin id) = pure (.type "method_descriptor")) (hm : MtR X id r) (ho : PE X o to) (ha : PA X (e :: es) t)
    (hbase : attributeBase o name X.env (eval o X.env) = eval o X.env := by rfl)
    (hfew : ((backTo cpos (starEach (e :: es) X.env)).all (fun x => !x.1) && (backToKw cpos (keywordEach [] X.env)).all (fun x => x.1.isSome)
      && decide ((e :: es).length + ([] : List Keyword).length + (if ([] : List Keyword).isEmpty then 0 else 1) < 30)) = true := by rfl)
    (hline : (apos.endLine == cpos.line) = true := by rfl) (hs : starEach (e :: es) X.env = (false, eval e X.env) :: starEach es X.env := by rfl) (hplain : (backTo cpos (starEach es X.env)).any (·.1) = false := by rfl) :
    PE X (.Call (.Attribute o name apos) (e :: es) [] cpos) (tBM K T r to t) := by
  subst hK
  exact pe_bm pa slot hty hm ho ha hbase hfew hline hs hplain
theorem room65 {k : Nat} {A : Around} (r : Room k A) : A.units + 65 < cLine := by
  have := r.un
  omega
theorem callS {sp : Sp} {E : L2.St → XK} {t : TA} {σ : L2.St} {H : Hp} {Q : VK} (h : t σ H fun vs H1 => sp vs H1 Q (E σ)) : tCallS sp E t σ H Q := h
end RB

/-! the head's facts by names: defs, classes, own exceptions with super().__init__ -/
namespace HX
open PySem PySem.Spec PyProof.Rows L2 He NdefX
abbrev FnS : Type := Option (Str × Str × Arguments × FuncBody × Scope × Addr × Addr)
def fnS (K : PySem.W.Frag) (p : Str × Option Str) : FnS := match K.lookup (fAd K p) with
  | some ⟨_, _, .func fd, _⟩ => some (fd.name, fd.qualname, fd.params, fd.body, fd.scope, fd.globals, fd.builtins)
  | _ => none
structure DefS where
  at_ : Str × Option Str
  name : Str
  qual : Str
  st : Stmt
def DefS.val (d : DefS) : FnS := some (d.name, d.qual, defArgs d.st, .stmts (defBody d.st), defScope d.st, mainGlobals, builtinsNs)
/-- a plain def of no default -/
def plB (K : PySem.W.Frag) (p : Str × Option Str) (qual : Str) : Bool := PySem.W.keepIn K (.ref (fAd K p)) && (match K.lookup (fAd K p) with
  | some ⟨_, _, .func fd, _⟩ => PySem.W.codeIn K fd.code qual && (decide (fd.defaults = .none) && fd.closure.isEmpty)
  | _ => false)
/-- a def that holds its own class -/
def spB (K : PySem.W.Frag) (p : Str × Option Str) (qual file : Str) (C : Addr) : Bool := (match K.lookup (fAd K p) with
  | some ⟨_, _, .func fd, _⟩ => (match fd.closure with
    | [(y, cc)] => (match fd.code with
      | .ref cda => decide (y = ("__class__" : Str)) && (decide (fd.defaults = .none) && (PySem.W.codeIn K (.ref cda) qual && ((match K.lookup cda with
          | some ⟨_, _, .fields vs, _⟩ => (match (vs[2]? : Option Value) with
            | some (Value.str fl _) => decide (fl = file)
            | _ => false)
          | _ => false) && (match K.lookup cc with
          | some ⟨_, _, .cell (some (.ref D)), _⟩ => decide (D = C)
          | _ => false))))
      | _ => false)
    | _ => false)
  | _ => false)
theorem plB_ok {K : PySem.W.Frag} {d : DefS} (e : fnS K d.at_ = d.val) (c : plB K d.at_ d.qual = true) : ∃ fd, Fun K d.name d.qual d.st (fAd K d.at_) fd := by
  obtain ⟨kp, c2⟩ := ba c
  unfold fnS at e
  cases q : K.lookup (fAd K d.at_) with
  | none =>
    rw [q] at c2
    cases c2
  | some o =>
    obtain ⟨oc, od, dt, osl⟩ := o
    rw [q] at c2 e
    cases dt with
    | func fd =>
      obtain ⟨n1, n2, n3, n4, n5, n6, n7, n8, n9, n10, n11, n12, n13, n14, n15⟩ := fd
      have e2 : (some (n1, n2, n3, n4, n5, n6, n15) : FnS) = some (d.name, d.qual, defArgs d.st, .stmts (defBody d.st), defScope d.st, mainGlobals, builtinsNs) := e
      simp only [Option.some.injEq, Prod.mk.injEq] at e2
      obtain ⟨h1, h2, h3, h4, h5, h6, h7⟩ := e2
      subst h1 h2 h3 h4 h5 h6 h7
      have c3 : (PySem.W.codeIn K n13 d.qual && (decide (n8 = .none) && n7.isEmpty)) = true := c2
      obtain ⟨k1, k2⟩ := ba c3
      obtain ⟨k3, k4⟩ := ba k2
      have k3 := of_decide_eq_true k3
      subst k3
      have k4 : n7 = [] := List.isEmpty_iff.mp k4
      subst k4
      exact ⟨_, ⟨oc, od, n9, n10, n11, n12, n13, n14, osl, rfl, q, k1⟩, kp⟩
    | _ => cases c2
theorem spB_ok {K : PySem.W.Frag} {d : DefS} {file : Str} {C : Addr} (e : fnS K d.at_ = d.val) (c : spB K d.at_ d.qual file C = true) :
    ∃ fd oc od osl kV doc pm an cda cc ct ccl cdd vs ccs tf cl cld csl, fd = PySem.W.fnX d.name d.qual (defArgs d.st) (defBody d.st) (defScope d.st) [("__class__", cc)] .none kV doc pm an (.ref cda) ct ∧
    K.lookup (fAd K d.at_) = some ⟨oc, od, .func fd, osl⟩ ∧ PySem.W.codeIn K (.ref cda) d.qual = true ∧ K.lookup cda = some ⟨ccl, cdd, .fields vs, ccs⟩ ∧ vs[2]? = some (.str file tf) ∧
    K.lookup cc = some ⟨cl, cld, .cell (some (.ref C)), csl⟩ := by
  unfold fnS at e
  unfold spB at c
  cases q : K.lookup (fAd K d.at_) with
  | none =>
    rw [q] at c
    cases c
  | some o =>
    obtain ⟨oc, od, dt, osl⟩ := o
    rw [q] at c e
    cases dt with
    | func fd =>
      obtain ⟨n1, n2, n3, n4, n5, n6, n7, n8, n9, n10, n11, n12, n13, n14, n15⟩ := fd
      have e2 : (some (n1, n2, n3, n4, n5, n6, n15) : FnS) = some (d.name, d.qual, defArgs d.st, .stmts (defBody d.st), defScope d.st, mainGlobals, builtinsNs) := e
      simp only [Option.some.injEq, Prod.mk.injEq] at e2
      obtain ⟨h1, h2, h3, h4, h5, h6, h7⟩ := e2
      subst h1 h2 h3 h4 h5 h6 h7
      dsimp only at c
      cases n7 with
      | nil => cases c
      | cons hd tl =>
        obtain ⟨y, cc⟩ := hd
        cases tl with
        | cons _ _ => cases c
        | nil =>
          cases n13 with
          | ref cda =>
            obtain ⟨k1, c⟩ := ba c
            obtain ⟨k2, c⟩ := ba c
            obtain ⟨k3, c⟩ := ba c
            obtain ⟨k4, k5⟩ := ba c
            have k1 := of_decide_eq_true k1
            subst k1
            have k2 := of_decide_eq_true k2
            subst k2
            cases q1 : K.lookup cda with
            | none =>
              rw [q1] at k4
              cases k4
            | some o1 =>
              obtain ⟨ccl, cdd, dt1, ccs⟩ := o1
              rw [q1] at k4
              cases dt1 with
              | fields vs =>
                dsimp only at k4
                cases q2 : vs[2]? with
                | none =>
                  rw [q2] at k4
                  cases k4
                | some v =>
                  rw [q2] at k4
                  cases v with
                  | str fl tf =>
                    have k4 := of_decide_eq_true k4
                    subst k4
                    cases q3 : K.lookup cc with
                    | none =>
                      rw [q3] at k5
                      cases k5
                    | some o2 =>
                      obtain ⟨cl, cld, dt2, csl⟩ := o2
                      rw [q3] at k5
                      cases dt2 with
                      | cell ov =>
                        cases ov with
                        | none => cases k5
                        | some v =>
                          cases v with
                          | ref D =>
                            have k5 := of_decide_eq_true k5
                            subst k5
                            exact ⟨_, oc, od, osl, n9, n10, n11, n12, cda, cc, n14, ccl, cdd, vs, ccs, tf, cl, cld, csl, rfl, rfl, k3, q1, q2, q3⟩
                          | _ => cases k5
                      | _ => cases k5
                  | _ => cases k4
              | _ => cases k4
          | _ => cases c
    | _ => cases c
/-! own exception classes -/
def oexB (K : PySem.W.Frag) (C : Addr) : Bool := (match K.lookup C with
  | some ⟨.type c, _, .cls cd, sl⟩ => decide (c = "type") && ((match cd.mro with
      | .ref C' :: bm => decide (C' = C) && PySem.HandSPX.refsVE bm
      | _ => false) && ((match sl with
      | ⟨[_, _, _, _, some (.builtin n), _]⟩ => decide (n = "ValueError.__new__")
      | _ => false) && (cd.hasDict && !cd.hasDel)))
  | _ => false) && (eqO (PySem.W.findIn K (.ref C) "__setattr__") (some (some (.builtin "object.__setattr__"))) && (decide (PySem.W.subIn K (.ref C) (.type "BaseException") = some true) && (decide (PySem.W.typeIn K (.ref C) = some (.type "type")) && PySem.W.keepIn K (.ref C))))
theorem oexB_ok {K : PySem.W.Frag} {C : Addr} (h : oexB K C = true) : OexC K C := by
  obtain ⟨c, h⟩ := ba h
  obtain ⟨h1, h⟩ := ba h
  obtain ⟨h2, h⟩ := ba h
  obtain ⟨h3, h4⟩ := ba h
  refine ⟨?_, eqO_ok h1, of_decide_eq_true h2, of_decide_eq_true h3, h4⟩
  cases q : K.lookup C with
  | none =>
    rw [q] at c
    cases c
  | some o =>
    obtain ⟨oc, od, dt, sl⟩ := o
    rw [q] at c
    cases oc with
    | type t =>
      cases dt with
      | cls cd =>
        obtain ⟨e1, c⟩ := ba c
        obtain ⟨e2, c⟩ := ba c
        obtain ⟨e3, c⟩ := ba c
        obtain ⟨e4, e5⟩ := ba c
        have e1 := of_decide_eq_true e1
        subst e1
        obtain ⟨nm, bs, mro, ns, qn, hdct, sn, sub, ab, col, dl⟩ := cd
        dsimp only at e2 e3 e4 e5
        cases mro with
        | nil => cases e2
        | cons m bm =>
          cases m with
          | ref C' =>
            obtain ⟨e2, e6⟩ := ba e2
            have e2 := of_decide_eq_true e2
            subst e2
            have e4 : hdct = true := e4
            subst e4
            have e5 : dl = false := by
              cases dl with
              | true => cases e5
              | false => rfl
            subst e5
            split at e3
            · have e3 := of_decide_eq_true e3
              subst e3
              exact ⟨nm, qn, ns, bs, bm, sn, sub, ab, col, od, _, _, _, _, _, rfl, e6⟩
            · cases e3
          | _ => cases e2
      | _ => cases c
    | _ => cases dt <;> cases c
def excB (K : PySem.W.Frag) (D : Addr) : Bool := eqO (PySem.W.findIn K (.ref D) "__getattribute__") (some (some (.builtin "BaseException.__getattribute__"))) && (eqO (PySem.W.findIn K (.ref D) "__getattr__") (some none) && (decide (PySem.W.subIn K (.ref D) (.type "BaseException") = some true) && (PySem.W.hasDictIn K D &&
  (eqO (PySem.W.findIn K (.ref D) "__class__") (some (some (.builtin "object.__class__"))) && (eqO (PySem.W.specialIn K (.builtin "object.__class__") "__get__") (some (some (.builtin "getset_descriptor.__get__"))) && (decide (PySem.W.takesIn K (.builtin "object.__class__") = some true) && decide (PySem.W.mroIn K D (.type "object") = some true)))))))
theorem excB_ok {K : PySem.W.Frag} {D : Addr} (h : excB K D = true) : L2.ExcC K D := by
  obtain ⟨h1, h⟩ := ba h
  obtain ⟨h2, h⟩ := ba h
  obtain ⟨h3, h⟩ := ba h
  obtain ⟨h4, h⟩ := ba h
  obtain ⟨h5, h⟩ := ba h
  obtain ⟨h6, h⟩ := ba h
  obtain ⟨h7, h8⟩ := ba h
  exact ⟨eqO_ok h1, eqO_ok h2, of_decide_eq_true h3, h4, eqO_ok h5, eqO_ok h6, of_decide_eq_true h7, of_decide_eq_true h8⟩
/-- what super().__init__ asks -/
def sicB (K : PySem.W.Frag) (D : Addr) (fld : Str) : Bool := (PySem.W.clsIn K D).isSome && (decide (PySem.W.mroIn K D (.ref D) = some true) && (decide (PySem.W.subIn K (.ref D) (.type "ValueError") = some true) && (eqO (PySem.W.nsIn K cStatics "thirdparty.any") (some none) &&
  (eqO (PySem.W.ks_superIn K D D "__init__") (some (some (.builtin "ValueError.__init__"))) && eqO (PySem.W.findIn K (.ref D) fld) (some none)))))
/-- the text's part -/
structure SiT (P : Program) (st : Stmt) (qual fld prm : Str) : Prop where
  sc : NScope ["self", prm, "__class__"] ["self", prm] ["__class__"] (defScope st)
  sup : (defScope st).names.lookup ("super" : Str) = some .globalImplicit
  body : ∃ p0 p1 p2 p3 p4 p5 p6 p7 p8 p9, defBody st = [.Expr (.Call (.Attribute (.Call (.Name "super" p0) [] [] p1) "__init__" p2) [.Name prm p3] [] p4) p5, .Assign [.Attribute (.Name "self" p6) fld p7] (.Name prm p8) p9] ∧
    ∃ pl : Sem Bool, ∀ (L f cda cc : Addr), eval (.Call (.Attribute (.Call (.Name "super" p0) [] [] p1) "__init__" p2) [.Name prm p3] [] p4) (PySem.W.envX qual (defScope st) L f (.ref cda) [("__class__", cc)]) = (do
      let ov ← attributeBase (.Call (.Name "super" p0) [] [] p1) "__init__" (PySem.W.envX qual (defScope st) L f (.ref cda) [("__class__", cc)]) (eval (.Call (.Name "super" p0) [] [] p1) (PySem.W.envX qual (defScope st) L f (.ref cda) [("__class__", cc)]))
      standAt p2.atName
      let (f', first) ← holding [ov] (getMethod ov "__init__" pl)
      callWith p4 f' first (backTo p4 (starEach [.Name prm p3] (PySem.W.envX qual (defScope st) L f (.ref cda) [("__class__", cc)]))) [])
  head : ((defArgs st).posonlyargs ++ (defArgs st).args).head?.map (·.arg) = some "self"
  nd : (prm == ("__debug__" : Str)) = false
  nc : (prm == ("__classdict__" : Str)) = false
  top : (P.main.scope.names.lookup ("super" : Str)).isSome = false
theorem sic_ok {P : Program} {K : PySem.W.Frag} {mg : Str → Option Value} {st : Stmt} {x qual fld prm : Str} {D : Addr} (S : SiT P st qual fld prm) (h1 : oexB K D = true) (h2 : sicB K D fld = true) (h3 : spB K (x, some "__init__") qual P.main.file D = true)
    (e : fnS K (x, some "__init__") = (DefS.mk (x, some "__init__") "__init__" qual st).val) (hs : mg "super" = none) (hb : ∀ kV doc pm an cv ct cl (us : List Value), us.length = 2 → bindArgs (PySem.W.fnX "__init__" qual (defArgs st) (defBody st) (defScope st) cl .none kV doc pm an cv ct) ⟨us, []⟩ = pure ((["self", prm] : List Str).zip us)) :
    ∃ fd, SPX.SiC P K mg st qual fld prm D (fAd K (x, some "__init__")) fd ∧ Binds K fd ["self", prm] [] := by
  obtain ⟨k1, h⟩ := ba h2
  obtain ⟨k2, h⟩ := ba h
  obtain ⟨k3, h⟩ := ba h
  obtain ⟨k4, h⟩ := ba h
  obtain ⟨k5, k6⟩ := ba h
  obtain ⟨fd, oc, od, osl, kV, doc, pm, an, cda, cc, ct, ccl, cdd, vs, ccs, tf, cl, cld, csl, e1, e2, e3, e4, e5, e6⟩ := spB_ok (d := ⟨(x, some "__init__"), "__init__", qual, st⟩) e h3
  refine ⟨fd, ⟨oexB_ok h1, S.sc, S.sup, S.body, S.head, ?_, k1, of_decide_eq_true k2, of_decide_eq_true k3, S.top, eqO_ok k4, eqO_ok k5, hs, eqO_ok k6, S.nd, S.nc⟩, .all fun us hl => by rw [e1]; exact hb _ _ _ _ _ _ _ us hl⟩
  exact ⟨oc, od, osl, kV, doc, pm, an, cda, cc, ct, ccl, cdd, vs, ccs, P.main.file, tf, cl, cld, csl, e1, e2, e3, e4, e5, beq_self_eq_true _, e6⟩
/-! ### the Hook -/
abbrev AlX : Type := Bool × List FnS
def obsX (ck : List (PySem.W.Frag → Bool)) (fn : List DefS) (K : PySem.W.Frag) : AlX := (ck.all fun f => f K, fn.map fun d => fnS K d.at_)
def valX (fn : List DefS) : AlX := (true, fn.map DefS.val)
def SaysX (ck : List (PySem.W.Frag → Bool)) (fn : List DefS) (K : PySem.W.Frag) : Prop := obsX ck fn K = valX fn
def obsXG (n : Nat) (ck : List (PySem.W.Frag → Bool)) (fn : List DefS) (g : Addr → Option Obj) : AlX := obsX ck fn (frG g (cStatics :: asD g n))
def hookX (n : Nat) (ck : List (PySem.W.Frag → Bool)) (fn : List DefS) : PySem.W.Hook where
  α := AlX
  obs := fun s => obsXG n ck fn s.heap.get?
  val := fun _ => valX fn
  says := fun _ h => ∃ K : PySem.W.Frag, K.In h ∧ SaysX ck fn K
  of := fun _ _ e => ⟨_, frG_in, e⟩
  keeps := fun _ _ _ ⟨K, hK, c⟩ k => ⟨K, PySem.W.Frag.In.keeps hK k, c⟩
theorem obsXG_eq {n : Nat} {ck : List (PySem.W.Frag → Bool)} {fn : List DefS} {g : Addr → Option Obj} {s : Shared} (h : ∀ a, g a = s.heap.get? a) : obsXG n ck fn g = (hookX n ck fn).obs s := by
  have e : g = s.heap.get? := funext h
  rw [e] <;> rfl
section
variable {ck : List (PySem.W.Frag → Bool)} {fn : List DefS} {K : PySem.W.Frag}
theorem SaysX.fact (c : SaysX ck fn K) (i : Nat) {f : PySem.W.Frag → Bool} (h : ck[i]? = some f := by rfl) : f K = true := by
  have c1 : (ck.all fun f => f K) = true := congrArg (fun z : AlX => z.1) c
  exact List.all_eq_true.mp c1 f (List.mem_of_getElem? h)
theorem SaysX.fn_ (c : SaysX ck fn K) (i : Nat) {d : DefS} (h : fn[i]? = some d := by rfl) : fnS K d.at_ = d.val := by
  have e : fn.map (fun d => fnS K d.at_) = fn.map DefS.val := congrArg (fun z : AlX => z.2) c
  have e2 : (fn.map fun d => fnS K d.at_)[i]? = (fn.map DefS.val)[i]? := by rw [e]
  rw [List.getElem?_map, List.getElem?_map, h] at e2
  exact Option.some.inj e2
end
end HX

namespace K02
open PySem PySem.Spec PyProof.Rows L2
/-! ### the text -/
def topS (i : Nat) : Stmt := PySem.Challenge.pw_struckpieces_k02_whole_strikings_there_a.main.body.getD i (.Pass ⟨0, 0, 0, 0⟩)
abbrev s_BadBook_init : Stmt := inClass (topS 2) 0
abbrev s_NoStriking_init : Stmt := inClass (topS 3) 0
abbrev s_q_is_log : Stmt := topS 12
abbrev N_q_is_log : List Str := ["thing", "sign"]
theorem sc_q_is_log : FnScope N_q_is_log ["thing"] (defScope s_q_is_log) := ⟨rfl, rfl, rfl, by decide +kernel, rfl, by decide +kernel, by decide +kernel⟩
abbrev s_is_piece : Stmt := topS 13
abbrev N_is_piece : List Str := ["thing"]
theorem sc_is_piece : FnScope N_is_piece ["thing"] (defScope s_is_piece) := ⟨rfl, rfl, rfl, by decide +kernel, rfl, by decide +kernel, by decide +kernel⟩
abbrev s_Book_init : Stmt := inClass (topS 14) 0
abbrev N_Book_init : List Str := ["self", "pieces", "number", "piece"]
theorem sc_Book_init : FnScope N_Book_init ["self", "pieces"] (defScope s_Book_init) := ⟨rfl, rfl, rfl, by decide +kernel, rfl, by decide +kernel, by decide +kernel⟩
abbrev s_Book_eq : Stmt := inClass (topS 14) 1
abbrev N_Book_eq : List Str := ["self", "other"]
theorem sc_Book_eq : FnScope N_Book_eq ["self", "other"] (defScope s_Book_eq) := ⟨rfl, rfl, rfl, by decide +kernel, rfl, by decide +kernel, by decide +kernel⟩
abbrev s_check_log : Stmt := topS 15
abbrev N_check_log : List Str := ["thing"]
theorem sc_check_log : FnScope N_check_log ["thing"] (defScope s_check_log) := ⟨rfl, rfl, rfl, by decide +kernel, rfl, by decide +kernel, by decide +kernel⟩
abbrev s_is_integer : Stmt := topS 17
abbrev N_is_integer : List Str := ["thing"]
theorem sc_is_integer : FnScope N_is_integer ["thing"] (defScope s_is_integer) := ⟨rfl, rfl, rfl, by decide +kernel, rfl, by decide +kernel, by decide +kernel⟩
abbrev s_is_within : Stmt := topS 18
abbrev N_is_within : List Str := ["thing", "least", "most"]
theorem sc_is_within : FnScope N_is_within ["thing", "least", "most"] (defScope s_is_within) := ⟨rfl, rfl, rfl, by decide +kernel, rfl, by decide +kernel, by decide +kernel⟩
abbrev s_is_tuple_of : Stmt := topS 19
abbrev N_is_tuple_of : List Str := ["thing", "size"]
theorem sc_is_tuple_of : FnScope N_is_tuple_of ["thing", "size"] (defScope s_is_tuple_of) := ⟨rfl, rfl, rfl, by decide +kernel, rfl, by decide +kernel, by decide +kernel⟩
abbrev s_q_strikes : Stmt := topS 21
abbrev N_q_strikes : List Str := ["book", "log"]
theorem sc_q_strikes : FnScope N_q_strikes ["book", "log"] (defScope s_q_strikes) := ⟨rfl, rfl, rfl, by decide +kernel, rfl, by decide +kernel, by decide +kernel⟩
abbrev s_raw_strikes : Stmt := topS 22
abbrev N_raw_strikes : List Str := ["book", "log", "found", "place", "number", "piece"]
theorem sc_raw_strikes : FnScope N_raw_strikes ["book", "log"] (defScope s_raw_strikes) := ⟨rfl, rfl, rfl, by decide +kernel, rfl, by decide +kernel, by decide +kernel⟩
abbrev s_is_strike : Stmt := topS 23
abbrev N_is_strike : List Str := ["book", "log", "thing"]
theorem sc_is_strike : FnScope N_is_strike ["book", "log", "thing"] (defScope s_is_strike) := ⟨rfl, rfl, rfl, by decide +kernel, rfl, by decide +kernel, by decide +kernel⟩
abbrev s_raw_struck : Stmt := topS 24
abbrev N_raw_struck : List Str := ["book", "log", "strike"]
theorem sc_raw_struck : FnScope N_raw_struck ["book", "log", "strike"] (defScope s_raw_struck) := ⟨rfl, rfl, rfl, by decide +kernel, rfl, by decide +kernel, by decide +kernel⟩
abbrev s_q_struck : Stmt := topS 25
abbrev N_q_struck : List Str := ["book", "log", "strike"]
theorem sc_q_struck : FnScope N_q_struck ["book", "log", "strike"] (defScope s_q_struck) := ⟨rfl, rfl, rfl, by decide +kernel, rfl, by decide +kernel, by decide +kernel⟩
abbrev s_q_first_wrong : Stmt := topS 26
abbrev N_q_first_wrong : List Str := ["book", "log", "thing", "number", "strike"]
theorem sc_q_first_wrong : FnScope N_q_first_wrong ["book", "log", "thing"] (defScope s_q_first_wrong) := ⟨rfl, rfl, rfl, by decide +kernel, rfl, by decide +kernel, by decide +kernel⟩
abbrev s_left_by : Stmt := topS 27
abbrev N_left_by : List Str := ["book", "log", "striking", "at", "left"]
theorem sc_left_by : FnScope N_left_by ["book", "log", "striking"] (defScope s_left_by) := ⟨rfl, rfl, rfl, by decide +kernel, rfl, by decide +kernel, by decide +kernel⟩
abbrev s_is_striking : Stmt := topS 28
abbrev N_is_striking : List Str := ["book", "log", "thing"]
theorem sc_is_striking : FnScope N_is_striking ["book", "log", "thing"] (defScope s_is_striking) := ⟨rfl, rfl, rfl, by decide +kernel, rfl, by decide +kernel, by decide +kernel⟩
abbrev s_put_in : Stmt := topS 29
abbrev N_put_in : List Str := ["book", "log", "place", "number"]
theorem sc_put_in : FnScope N_put_in ["book", "log", "place", "number"] (defScope s_put_in) := ⟨rfl, rfl, rfl, by decide +kernel, rfl, by decide +kernel, by decide +kernel⟩
abbrev s_hand : Stmt := topS 31
abbrev N_hand : List Str := ["_law_script", "_law_cells", "_law_cell"]
theorem sc_hand : FnScope N_hand ["_law_script"] (defScope s_hand) := ⟨rfl, rfl, rfl, by decide +kernel, rfl, by decide +kernel, by decide +kernel⟩
abbrev s_draw : Stmt := topS 32
abbrev N_draw : List Str := ["_law_hand_here", "_law_many", "_law_cell", "_law_digit", "_law_number"]
theorem sc_draw : FnScope N_draw ["_law_hand_here", "_law_many"] (defScope s_draw) := ⟨rfl, rfl, rfl, by decide +kernel, rfl, by decide +kernel, by decide +kernel⟩
abbrev s_any : Stmt := topS 33
abbrev N_any : List Str := ["_law_hand_here", "_law_items"]
theorem sc_any : FnScope N_any ["_law_hand_here", "_law_items"] (defScope s_any) := ⟨rfl, rfl, rfl, by decide +kernel, rfl, by decide +kernel, by decide +kernel⟩
abbrev s_is : Stmt := topS 34
abbrev N_is : List Str := ["_law_told", "_law_due", "_law_one", "_law_two"]
theorem sc_is : FnScope N_is ["_law_told", "_law_due"] (defScope s_is) := ⟨rfl, rfl, rfl, by decide +kernel, rfl, by decide +kernel, by decide +kernel⟩
abbrev s_nested : Stmt := topS 35
abbrev N_nested : List Str := ["_law_hand_here", "_law_thing", "_law_turn"]
theorem sc_nested : FnScope N_nested ["_law_hand_here"] (defScope s_nested) := ⟨rfl, rfl, rfl, by decide +kernel, rfl, by decide +kernel, by decide +kernel⟩
abbrev s_int : Stmt := topS 36
abbrev N_int : List Str := ["_law_thing", "_law_low", "_law_high"]
theorem sc_int : FnScope N_int ["_law_thing", "_law_low", "_law_high"] (defScope s_int) := ⟨rfl, rfl, rfl, by decide +kernel, rfl, by decide +kernel, by decide +kernel⟩
abbrev s_odd : Stmt := topS 37
abbrev N_odd : List Str := ["_law_hand_here", "_law_menu"]
theorem sc_odd : FnScope N_odd ["_law_hand_here"] (defScope s_odd) := ⟨rfl, rfl, rfl, by decide +kernel, rfl, by decide +kernel, by decide +kernel⟩
abbrev s_pieces : Stmt := topS 38
abbrev N_pieces : List Str := ["_law_hand_here", "_law_own", "_law_many", "_law_size", "_law_found", "_law_turn", "_law_piece", "_law_at"]
theorem sc_pieces : FnScope N_pieces ["_law_hand_here"] (defScope s_pieces) := ⟨rfl, rfl, rfl, by decide +kernel, rfl, by decide +kernel, by decide +kernel⟩
abbrev s_strikes : Stmt := topS 39
abbrev N_strikes : List Str := ["_law_pieces_here", "_law_log_here", "_law_found", "_law_place", "_law_number", "_law_piece"]
theorem sc_strikes : FnScope N_strikes ["_law_pieces_here", "_law_log_here"] (defScope s_strikes) := ⟨rfl, rfl, rfl, by decide +kernel, rfl, by decide +kernel, by decide +kernel⟩
abbrev s_struck : Stmt := topS 40
abbrev N_struck : List Str := ["_law_pieces_here", "_law_log_here", "_law_strike"]
theorem sc_struck : FnScope N_struck ["_law_pieces_here", "_law_log_here", "_law_strike"] (defScope s_struck) := ⟨rfl, rfl, rfl, by decide +kernel, rfl, by decide +kernel, by decide +kernel⟩
abbrev s_first_wrong : Stmt := topS 41
abbrev N_first_wrong : List Str := ["_law_pieces_here", "_law_log_here", "_law_thing", "_law_at", "_law_strike", "_law_one"]
theorem sc_first_wrong : FnScope N_first_wrong ["_law_pieces_here", "_law_log_here", "_law_thing"] (defScope s_first_wrong) := ⟨rfl, rfl, rfl, by decide +kernel, rfl, by decide +kernel, by decide +kernel⟩
abbrev s_some_striking : Stmt := topS 42
abbrev N_some_striking : List Str := ["_law_hand_here", "_law_pieces_here", "_law_log_here", "_law_most", "_law_found", "_law_turn", "_law_some", "_law_strike"]
theorem sc_some_striking : FnScope N_some_striking ["_law_hand_here", "_law_pieces_here", "_law_log_here", "_law_most"] (defScope s_some_striking) := ⟨rfl, rfl, rfl, by decide +kernel, rfl, by decide +kernel, by decide +kernel⟩
abbrev s_idle_log : Stmt := topS 43
abbrev N_idle_log : List Str := ["_law_hand_here", "_law_pieces_here", "_law_most", "_law_log_here", "_law_turn", "_law_piece", "_law_place"]
theorem sc_idle_log : FnScope N_idle_log ["_law_hand_here", "_law_pieces_here", "_law_most"] (defScope s_idle_log) := ⟨rfl, rfl, rfl, by decide +kernel, rfl, by decide +kernel, by decide +kernel⟩
abbrev s_log : Stmt := topS 44
abbrev N_log : List Str := ["_law_hand_here", "_law_pieces_here", "_law_most", "_law_own", "_law_kind", "_law_log_here", "_law_place", "_law_at"]
theorem sc_log : FnScope N_log ["_law_hand_here", "_law_pieces_here", "_law_most"] (defScope s_log) := ⟨rfl, rfl, rfl, by decide +kernel, rfl, by decide +kernel, by decide +kernel⟩
abbrev s_bent_striking : Stmt := topS 45
abbrev N_bent_striking : List Str := ["_law_hand_here", "_law_pieces_here", "_law_log_here", "_law_striking", "_law_at", "_law_some", "_law_strike", "_law_menu"]
theorem sc_bent_striking : FnScope N_bent_striking ["_law_hand_here", "_law_pieces_here", "_law_log_here", "_law_striking"] (defScope s_bent_striking) := ⟨rfl, rfl, rfl, by decide +kernel, rfl, by decide +kernel, by decide +kernel⟩
abbrev s_striking_told : Stmt := topS 46
abbrev N_striking_told : List Str := ["_law_book", "_law_log_here", "_law_thing", "_law_told", "e"]
theorem sc_striking_told : FnScope N_striking_told ["_law_book", "_law_log_here", "_law_thing"] (defScope s_striking_told) := ⟨rfl, rfl, rfl, by decide +kernel, rfl, by decide +kernel, by decide +kernel⟩
abbrev s_law : Stmt := topS 47
abbrev N_law : List Str := ["_law_script", "_law_hand_here", "_law_turn", "_law_pieces_here", "_law_book", "_law_log_here", "_law_some", "_law_told", "_law_strike", "_law_striking", "_law_again", "_law_thing", "_law_at", "_law_left", "_law_place", "_law_number", "_law_more"]
theorem sc_law : FnScope N_law ["_law_script"] (defScope s_law) := ⟨rfl, rfl, rfl, by decide +kernel, rfl, by decide +kernel, by decide +kernel⟩
/-- what the top has left -/
structure Txt (P : Program) (K : PySem.W.Frag) (mg : Str → Option Value) where
  a_q_is_log : Addr
  fd_q_is_log : FuncData
  F_q_is_log : Fun K "is_log" "is_log" s_q_is_log a_q_is_log fd_q_is_log
  b_q_is_log : Binds K fd_q_is_log ["thing"] []
  g_q_is_log : mg "is_log" = some (.ref a_q_is_log)
  a_is_piece : Addr
  fd_is_piece : FuncData
  F_is_piece : Fun K "is_piece" "is_piece" s_is_piece a_is_piece fd_is_piece
  b_is_piece : Binds K fd_is_piece ["thing"] []
  g_is_piece : mg "is_piece" = some (.ref a_is_piece)
  a_Book_init : Addr
  fd_Book_init : FuncData
  F_Book_init : Fun K "__init__" "Book.__init__" s_Book_init a_Book_init fd_Book_init
  b_Book_init : Binds K fd_Book_init ["self", "pieces"] []
  a_Book_eq : Addr
  fd_Book_eq : FuncData
  F_Book_eq : Fun K "__eq__" "Book.__eq__" s_Book_eq a_Book_eq fd_Book_eq
  b_Book_eq : Binds K fd_Book_eq ["self", "other"] []
  a_check_log : Addr
  fd_check_log : FuncData
  F_check_log : Fun K "check_log" "check_log" s_check_log a_check_log fd_check_log
  b_check_log : Binds K fd_check_log ["thing"] []
  g_check_log : mg "check_log" = some (.ref a_check_log)
  a_is_integer : Addr
  fd_is_integer : FuncData
  F_is_integer : Fun K "is_integer" "is_integer" s_is_integer a_is_integer fd_is_integer
  b_is_integer : Binds K fd_is_integer ["thing"] []
  g_is_integer : mg "is_integer" = some (.ref a_is_integer)
  a_is_within : Addr
  fd_is_within : FuncData
  F_is_within : Fun K "is_within" "is_within" s_is_within a_is_within fd_is_within
  b_is_within : Binds K fd_is_within ["thing", "least", "most"] []
  g_is_within : mg "is_within" = some (.ref a_is_within)
  a_is_tuple_of : Addr
  fd_is_tuple_of : FuncData
  F_is_tuple_of : Fun K "is_tuple_of" "is_tuple_of" s_is_tuple_of a_is_tuple_of fd_is_tuple_of
  b_is_tuple_of : Binds K fd_is_tuple_of ["thing", "size"] []
  g_is_tuple_of : mg "is_tuple_of" = some (.ref a_is_tuple_of)
  a_q_strikes : Addr
  fd_q_strikes : FuncData
  F_q_strikes : Fun K "strikes" "strikes" s_q_strikes a_q_strikes fd_q_strikes
  b_q_strikes : Binds K fd_q_strikes ["book", "log"] []
  g_q_strikes : mg "strikes" = some (.ref a_q_strikes)
  a_raw_strikes : Addr
  fd_raw_strikes : FuncData
  F_raw_strikes : Fun K "raw_strikes" "raw_strikes" s_raw_strikes a_raw_strikes fd_raw_strikes
  b_raw_strikes : Binds K fd_raw_strikes ["book", "log"] []
  g_raw_strikes : mg "raw_strikes" = some (.ref a_raw_strikes)
  a_is_strike : Addr
  fd_is_strike : FuncData
  F_is_strike : Fun K "is_strike" "is_strike" s_is_strike a_is_strike fd_is_strike
  b_is_strike : Binds K fd_is_strike ["book", "log", "thing"] []
  g_is_strike : mg "is_strike" = some (.ref a_is_strike)
  a_raw_struck : Addr
  fd_raw_struck : FuncData
  F_raw_struck : Fun K "raw_struck" "raw_struck" s_raw_struck a_raw_struck fd_raw_struck
  b_raw_struck : Binds K fd_raw_struck ["book", "log", "strike"] []
  g_raw_struck : mg "raw_struck" = some (.ref a_raw_struck)
  a_q_struck : Addr
  fd_q_struck : FuncData
  F_q_struck : Fun K "struck" "struck" s_q_struck a_q_struck fd_q_struck
  b_q_struck : Binds K fd_q_struck ["book", "log", "strike"] []
  g_q_struck : mg "struck" = some (.ref a_q_struck)
  a_q_first_wrong : Addr
  fd_q_first_wrong : FuncData
  F_q_first_wrong : Fun K "first_wrong" "first_wrong" s_q_first_wrong a_q_first_wrong fd_q_first_wrong
  b_q_first_wrong : Binds K fd_q_first_wrong ["book", "log", "thing"] []
  g_q_first_wrong : mg "first_wrong" = some (.ref a_q_first_wrong)
  a_left_by : Addr
  fd_left_by : FuncData
  F_left_by : Fun K "left_by" "left_by" s_left_by a_left_by fd_left_by
  b_left_by : Binds K fd_left_by ["book", "log", "striking"] []
  g_left_by : mg "left_by" = some (.ref a_left_by)
  a_is_striking : Addr
  fd_is_striking : FuncData
  F_is_striking : Fun K "is_striking" "is_striking" s_is_striking a_is_striking fd_is_striking
  b_is_striking : Binds K fd_is_striking ["book", "log", "thing"] []
  g_is_striking : mg "is_striking" = some (.ref a_is_striking)
  a_put_in : Addr
  fd_put_in : FuncData
  F_put_in : Fun K "put_in" "put_in" s_put_in a_put_in fd_put_in
  b_put_in : Binds K fd_put_in ["book", "log", "place", "number"] []
  g_put_in : mg "put_in" = some (.ref a_put_in)
  a_hand : Addr
  fd_hand : FuncData
  F_hand : Fun K "_law_hand" "_law_hand" s_hand a_hand fd_hand
  b_hand : Binds K fd_hand ["_law_script"] []
  g_hand : mg "_law_hand" = some (.ref a_hand)
  a_draw : Addr
  fd_draw : FuncData
  F_draw : Fun K "_law_draw" "_law_draw" s_draw a_draw fd_draw
  b_draw : Binds K fd_draw ["_law_hand_here", "_law_many"] []
  g_draw : mg "_law_draw" = some (.ref a_draw)
  a_any : Addr
  fd_any : FuncData
  F_any : Fun K "_law_any" "_law_any" s_any a_any fd_any
  b_any : Binds K fd_any ["_law_hand_here", "_law_items"] []
  g_any : mg "_law_any" = some (.ref a_any)
  a_is : Addr
  fd_is : FuncData
  F_is : Fun K "_law_is" "_law_is" s_is a_is fd_is
  b_is : Binds K fd_is ["_law_told", "_law_due"] []
  g_is : mg "_law_is" = some (.ref a_is)
  a_nested : Addr
  fd_nested : FuncData
  F_nested : Fun K "_law_nested" "_law_nested" s_nested a_nested fd_nested
  b_nested : Binds K fd_nested ["_law_hand_here"] []
  g_nested : mg "_law_nested" = some (.ref a_nested)
  a_int : Addr
  fd_int : FuncData
  F_int : Fun K "_law_int" "_law_int" s_int a_int fd_int
  b_int : Binds K fd_int ["_law_thing", "_law_low", "_law_high"] []
  g_int : mg "_law_int" = some (.ref a_int)
  a_odd : Addr
  fd_odd : FuncData
  F_odd : Fun K "_law_odd" "_law_odd" s_odd a_odd fd_odd
  b_odd : Binds K fd_odd ["_law_hand_here"] []
  g_odd : mg "_law_odd" = some (.ref a_odd)
  a_pieces : Addr
  fd_pieces : FuncData
  F_pieces : Fun K "_law_pieces" "_law_pieces" s_pieces a_pieces fd_pieces
  b_pieces : Binds K fd_pieces ["_law_hand_here"] []
  g_pieces : mg "_law_pieces" = some (.ref a_pieces)
  a_strikes : Addr
  fd_strikes : FuncData
  F_strikes : Fun K "_law_strikes" "_law_strikes" s_strikes a_strikes fd_strikes
  b_strikes : Binds K fd_strikes ["_law_pieces_here", "_law_log_here"] []
  g_strikes : mg "_law_strikes" = some (.ref a_strikes)
  a_struck : Addr
  fd_struck : FuncData
  F_struck : Fun K "_law_struck" "_law_struck" s_struck a_struck fd_struck
  b_struck : Binds K fd_struck ["_law_pieces_here", "_law_log_here", "_law_strike"] []
  g_struck : mg "_law_struck" = some (.ref a_struck)
  a_first_wrong : Addr
  fd_first_wrong : FuncData
  F_first_wrong : Fun K "_law_first_wrong" "_law_first_wrong" s_first_wrong a_first_wrong fd_first_wrong
  b_first_wrong : Binds K fd_first_wrong ["_law_pieces_here", "_law_log_here", "_law_thing"] []
  g_first_wrong : mg "_law_first_wrong" = some (.ref a_first_wrong)
  a_some_striking : Addr
  fd_some_striking : FuncData
  F_some_striking : Fun K "_law_some_striking" "_law_some_striking" s_some_striking a_some_striking fd_some_striking
  b_some_striking : Binds K fd_some_striking ["_law_hand_here", "_law_pieces_here", "_law_log_here", "_law_most"] []
  g_some_striking : mg "_law_some_striking" = some (.ref a_some_striking)
  a_idle_log : Addr
  fd_idle_log : FuncData
  F_idle_log : Fun K "_law_idle_log" "_law_idle_log" s_idle_log a_idle_log fd_idle_log
  b_idle_log : Binds K fd_idle_log ["_law_hand_here", "_law_pieces_here", "_law_most"] []
  g_idle_log : mg "_law_idle_log" = some (.ref a_idle_log)
  a_log : Addr
  fd_log : FuncData
  F_log : Fun K "_law_log" "_law_log" s_log a_log fd_log
  b_log : Binds K fd_log ["_law_hand_here", "_law_pieces_here", "_law_most"] []
  g_log : mg "_law_log" = some (.ref a_log)
  a_bent_striking : Addr
  fd_bent_striking : FuncData
  F_bent_striking : Fun K "_law_bent_striking" "_law_bent_striking" s_bent_striking a_bent_striking fd_bent_striking
  b_bent_striking : Binds K fd_bent_striking ["_law_hand_here", "_law_pieces_here", "_law_log_here", "_law_striking"] []
  g_bent_striking : mg "_law_bent_striking" = some (.ref a_bent_striking)
  a_striking_told : Addr
  fd_striking_told : FuncData
  F_striking_told : Fun K "_law_striking_told" "_law_striking_told" s_striking_told a_striking_told fd_striking_told
  b_striking_told : Binds K fd_striking_told ["_law_book", "_law_log_here", "_law_thing"] []
  g_striking_told : mg "_law_striking_told" = some (.ref a_striking_told)
  a_law : Addr
  fd_law : FuncData
  F_law : Fun K "law" "law" s_law a_law fd_law
  b_law : Binds K fd_law ["_law_script"] []
  g_law : mg "law" = some (.ref a_law)
  C_LogError : Addr
  g_LogError : mg "LogError" = some (.ref C_LogError)
  xc_LogError : OexC K C_LogError
  ic_LogError : ExcC K C_LogError
  bx_LogError : PySem.W.subIn K (.ref C_LogError) (.type "BaseException") = some true
  tx_LogError : PySem.W.typeIn K (.ref C_LogError) = some (.type "type")
  k_LogError : PySem.W.excIn K C_LogError [.type "ValueError", .type "Exception", .type "BaseException", .type "object"] "ValueError.__new__" = true
  kp_LogError : PySem.W.keepIn K (.ref C_LogError) = true
  C_BadBook : Addr
  g_BadBook : mg "BadBook" = some (.ref C_BadBook)
  xc_BadBook : OexC K C_BadBook
  ic_BadBook : ExcC K C_BadBook
  bx_BadBook : PySem.W.subIn K (.ref C_BadBook) (.type "BaseException") = some true
  tx_BadBook : PySem.W.typeIn K (.ref C_BadBook) = some (.type "type")
  a_BadBook_init : Addr
  fd_BadBook_init : FuncData
  S_BadBook_init : SPX.SiC P K mg s_BadBook_init "BadBook.__init__" "part" "part" C_BadBook a_BadBook_init fd_BadBook_init
  b_BadBook_init : Binds K fd_BadBook_init ["self", "part"] []
  fi_BadBook : PySem.W.findIn K (.ref C_BadBook) "part" = some none
  ii_BadBook : PySem.W.findIn K (.ref C_BadBook) "__init__" = some (some (.ref a_BadBook_init))
  ti_BadBook : PySem.W.typeIn K (.ref a_BadBook_init) = some (.type "function")
  C_NoStriking : Addr
  g_NoStriking : mg "NoStriking" = some (.ref C_NoStriking)
  xc_NoStriking : OexC K C_NoStriking
  ic_NoStriking : ExcC K C_NoStriking
  bx_NoStriking : PySem.W.subIn K (.ref C_NoStriking) (.type "BaseException") = some true
  tx_NoStriking : PySem.W.typeIn K (.ref C_NoStriking) = some (.type "type")
  a_NoStriking_init : Addr
  fd_NoStriking_init : FuncData
  S_NoStriking_init : SPX.SiC P K mg s_NoStriking_init "NoStriking.__init__" "at" "at" C_NoStriking a_NoStriking_init fd_NoStriking_init
  b_NoStriking_init : Binds K fd_NoStriking_init ["self", "at"] []
  fi_NoStriking : PySem.W.findIn K (.ref C_NoStriking) "at" = some none
  ii_NoStriking : PySem.W.findIn K (.ref C_NoStriking) "__init__" = some (some (.ref a_NoStriking_init))
  ti_NoStriking : PySem.W.typeIn K (.ref a_NoStriking_init) = some (.type "function")
  C_NoLog : Addr
  g_NoLog : mg "NoLog" = some (.ref C_NoLog)
  xc_NoLog : OexC K C_NoLog
  ic_NoLog : ExcC K C_NoLog
  bx_NoLog : PySem.W.subIn K (.ref C_NoLog) (.type "BaseException") = some true
  tx_NoLog : PySem.W.typeIn K (.ref C_NoLog) = some (.type "type")
  k_NoLog : PySem.W.excIn K C_NoLog [.type "ValueError", .type "Exception", .type "BaseException", .type "object"] "ValueError.__new__" = true
  kp_NoLog : PySem.W.keepIn K (.ref C_NoLog) = true
  C_NoStrike : Addr
  g_NoStrike : mg "NoStrike" = some (.ref C_NoStrike)
  xc_NoStrike : OexC K C_NoStrike
  ic_NoStrike : ExcC K C_NoStrike
  bx_NoStrike : PySem.W.subIn K (.ref C_NoStrike) (.type "BaseException") = some true
  tx_NoStrike : PySem.W.typeIn K (.ref C_NoStrike) = some (.type "type")
  k_NoStrike : PySem.W.excIn K C_NoStrike [.type "ValueError", .type "Exception", .type "BaseException", .type "object"] "ValueError.__new__" = true
  kp_NoStrike : PySem.W.keepIn K (.ref C_NoStrike) = true
  C_NoPlace : Addr
  g_NoPlace : mg "NoPlace" = some (.ref C_NoPlace)
  xc_NoPlace : OexC K C_NoPlace
  ic_NoPlace : ExcC K C_NoPlace
  bx_NoPlace : PySem.W.subIn K (.ref C_NoPlace) (.type "BaseException") = some true
  tx_NoPlace : PySem.W.typeIn K (.ref C_NoPlace) = some (.type "type")
  k_NoPlace : PySem.W.excIn K C_NoPlace [.type "ValueError", .type "Exception", .type "BaseException", .type "object"] "ValueError.__new__" = true
  kp_NoPlace : PySem.W.keepIn K (.ref C_NoPlace) = true
  C_NoPiece : Addr
  g_NoPiece : mg "NoPiece" = some (.ref C_NoPiece)
  xc_NoPiece : OexC K C_NoPiece
  ic_NoPiece : ExcC K C_NoPiece
  bx_NoPiece : PySem.W.subIn K (.ref C_NoPiece) (.type "BaseException") = some true
  tx_NoPiece : PySem.W.typeIn K (.ref C_NoPiece) = some (.type "type")
  k_NoPiece : PySem.W.excIn K C_NoPiece [.type "ValueError", .type "Exception", .type "BaseException", .type "object"] "ValueError.__new__" = true
  kp_NoPiece : PySem.W.keepIn K (.ref C_NoPiece) = true
  C_Book : Addr
  g_Book : mg "Book" = some (.ref C_Book)
  cl_Book : Cls K C_Book
  M_Book : Mk K C_Book a_Book_init
  eqc_Book : NR.EqC K C_Book a_Book_eq
  nf_Book : (["tuple", "int", "str", "list", "bool", "NoneType", "dict"].all fun t => PySem.W.notFirst K C_Book (.type t)) = true
  ty_Book : PySem.W.findIn K (.ref C_Book) "__class__" = some (some (.builtin "object.__class__")) ∧ PySem.W.specialIn K (.builtin "object.__class__") "__get__" = some (some (.builtin "getset_descriptor.__get__")) ∧ PySem.W.takesIn K (.builtin "object.__class__") = some true ∧ PySem.W.mroIn K C_Book (.type "object") = some true
  kc_Book : (["tuple", "int", "str", "list", "bool", "NoneType", "dict"].all fun t => PySem.W.kitOne K (.type t) (.ref C_Book) == some false) = true
  no_Book_pieces : NoAttr K C_Book "pieces"
  em_LogError_NoStriking : PySem.W.exmOne K (.ref C_LogError) (.ref C_NoStriking) = some false
  em_BadBook_NoStriking : PySem.W.exmOne K (.ref C_BadBook) (.ref C_NoStriking) = some false
  em_NoStriking_NoStriking : PySem.W.exmOne K (.ref C_NoStriking) (.ref C_NoStriking) = some true
  em_NoLog_NoStriking : PySem.W.exmOne K (.ref C_NoLog) (.ref C_NoStriking) = some false
  em_NoStrike_NoStriking : PySem.W.exmOne K (.ref C_NoStrike) (.ref C_NoStriking) = some false
  em_NoPlace_NoStriking : PySem.W.exmOne K (.ref C_NoPlace) (.ref C_NoStriking) = some false
  em_NoPiece_NoStriking : PySem.W.exmOne K (.ref C_NoPiece) (.ref C_NoStriking) = some false
  g_LETTERS : ∃ t, mg "LETTERS" = some (.str "abcdefgh" t)
  g_MOST_PIECES : ∃ t, mg "MOST_PIECES" = some (.int 12 t)
  g_MOST_LONG : ∃ t, mg "MOST_LONG" = some (.int 8 t)
  m_abs : mg "abs" = none
  m_all : mg "all" = none
  m_bool : mg "bool" = none
  m_enumerate : mg "enumerate" = none
  m_int : mg "int" = none
  m_isinstance : mg "isinstance" = none
  m_len : mg "len" = none
  m_list : mg "list" = none
  m_range : mg "range" = none
  m_set : mg "set" = none
  m_sorted : mg "sorted" = none
  m_str : mg "str" = none
  m_super : mg "super" = none
  m_tuple : mg "tuple" = none
  m_zip : mg "zip" = none

local macro_rules | `(tactic| walk_at "kd") => `(tactic| first | assumption | exact SPD.KdOf.int _ | exact SPD.KdOf.str _ | exact SPD.KdOf.bl _ | exact SPD.KdOf.non | exact SPD.KdOf.same (by assumption) (by walk_at "kd") | exact SPD.KdOf.tup (by walk_at "hp") | exact SPD.KdOf.lst (by walk_at "hp") | fail "no")
local macro_rules | `(tactic| walk_at "ne") => `(tactic| first | assumption | exact Ne.symm (by assumption) | fail "no")
local macro_rules | `(tactic| walk_at "hp") => `(tactic| first | assumption | exact RD.at_same (by assumption) (by walk_at "hp") | exact RD.at_kb (by assumption) (by walk_at "ne") (by walk_at "hp") | fail "no")
local macro_rules | `(tactic| walk_at "sq") => `(tactic| first | assumption | exact Or.inl (Or.inl (by walk_at "hp")) | exact Same.seq (by assumption) (by walk_at "sq") | exact RD.KB.seq (by assumption) (by walk_at "ne") (by walk_at "sq") | fail "no")
local macro_rules | `(tactic| walk_at "st") => `(tactic| first | assumption | exact Or.inl (Or.inl (by walk_at "hp")) | exact RD.Same.tup (by assumption) (by walk_at "st") | exact RD.KB.tup (by assumption) (by walk_at "ne") (by walk_at "st") | fail "no")
local macro_rules | `(tactic| walk_at "rd") => `(tactic| first
  | with_reducible refine RD.c ?_
  | ((with_reducible refine' RD.var ?rdE ?rdK); (case rdE => exact rfl))
  | with_reducible refine RD.op ?_
  | with_reducible refine RD.un ?_
  | with_reducible refine RD.nil ?_
  | with_reducible refine RD.cons ?_
  | with_reducible refine RD.cb ?_
  | with_reducible refine RD.call ?_
  | with_reducible refine RD.test ?_
  | with_reducible refine RD.tb' ?_
  | with_reducible refine RD.bl ?_
  | with_reducible refine RD.and' ?_
  | with_reducible refine RD.or' ?_
  | with_reducible refine RD.not' ?_
  | with_reducible refine RD.andV ?_
  | with_reducible refine RD.orV ?_
  | with_reducible refine RD.notV ?_
  | with_reducible refine RD.ife ?_
  | with_reducible refine RD.sl ?_
  | with_reducible refine RD.part ?_
  | with_reducible refine RD.noPart ?_
  | with_reducible refine RD.partI ?_
  | with_reducible refine RD.rd0 ?_
  | with_reducible refine RD.rdU ?_
  | ((with_reducible refine' RD.rdEq ?rdE ?rdK); (case rdE => rfl))
  | ((with_reducible refine' RD.rdNe ?rdE ?rdK); (case rdE => rfl))
  | ((with_reducible refine' RD.ixL ?rdH ?rdE ?rdK); (case rdH => walk_at "sq"); (case rdE => first | rfl | assumption))
  | ((with_reducible refine' RD.rdI ?rdC ?rdK); (case rdC => first | assumption | (show (0 : Int) < _; first | decide | omega) | exact ⟨by decide, by decide⟩ | exact ⟨by assumption, by assumption⟩ | exact .inr ⟨by decide, by decide⟩ | exact .inl ⟨by decide, by decide⟩ | exact ⟨by decide, by decide, by decide⟩ | exact .inl ⟨by omega, by omega⟩))
  | ((with_reducible refine' RD.setL ?rdH ?rdE ?rdK); (case rdH => walk_at "hp"); (case rdE => rfl); intro $(Lean.mkIdent `H'):ident $(Lean.mkIdent `hk):ident $(Lean.mkIdent `hv):ident)
  | ((with_reducible refine' RD.irng1V ?rdA ?rdB ?rdK); (case rdA => first | decide | omega); (case rdB => first | decide | omega))
  | with_reducible refine RD.int1 ?_
  | with_reducible refine RD.abs1 ?_
  | ((with_reducible refine' RD.len ?rdH ?rdK); (case rdH => first | exact Or.inl (by walk_at "sq") | exact Or.inr (by walk_at "st")))
  | with_reducible refine RD.tup ?_
  | with_reducible refine RD.lst ?_
  | with_reducible refine RD.ite1 ?_
  | with_reducible refine RD.ite0 ?_
  | with_reducible refine RD.ite1n ?_
  | with_reducible refine RD.ite0n ?_
  | with_reducible refine RD.seq ?_
  | with_reducible refine RD.asg ?_
  | with_reducible refine RD.name ?_
  | with_reducible refine RD.ret ?_
  | with_reducible refine RD.drop ?_
  | with_reducible refine RD.next ?_
  | with_reducible refine RD.ifs ?_
  | with_reducible refine RD.par ?_
  | with_reducible refine RD.par2 ?_
  | with_reducible refine RD.sub ?_
  | with_reducible refine RD.gcons ?_
  | with_reducible refine RD.gnil ?_
  | with_reducible refine RD.bm ?_
  | ((with_reducible refine' RD.bmL ?rdH ?rdK); (case rdH => walk_at "sq"))
  | ((with_reducible refine' RD.newZ ?rdH ?rdK); (case rdH => exact RD.sz _); intro $(Lean.mkIdent `p'):ident $(Lean.mkIdent `H'):ident $(Lean.mkIdent `hp):ident $(Lean.mkIdent `hs):ident $(Lean.mkIdent `hv):ident; (try have $(Lean.mkIdent `hn):ident := hand_ne $(Lean.mkIdent `hp):ident (by walk_at "hk")))
  | with_reducible refine RD.fors ?_
  | with_reducible refine RD.lc ?_
  | with_reducible refine RD.yes ?_
  | with_reducible refine RD.ilist ?_
  | ((with_reducible refine' RD.ilistV ?rdH ?rdK); (case rdH => walk_at "sq"))
  | with_reducible refine RD.itup ?_
  | ((with_reducible refine' RD.itupV ?rdH ?rdK); (case rdH => walk_at "st"))
  | with_reducible refine RD.irng1 ?_
  | with_reducible refine RD.irng2 ?_
  | ((with_reducible refine' RD.irng2V ?rdA ?rdK); (case rdA => first | decide | omega))
  | with_reducible refine RD.ienum ?_
  | ((with_reducible refine' RD.ienumV ?rdH ?rdK); (case rdH => walk_at "sq"))
  | with_reducible refine RD.izip ?_
  | ((with_reducible refine' RD.izipV ?rdH ?rdE ?rdK); (case rdH => walk_at "sq"); (case rdE => walk_at "sq"))
  | with_reducible refine SPD.izipA ?_
  | with_reducible refine RD.istr ?_
  | with_reducible refine RD.istrV ?_
  | ((with_reducible refine' RD.slL ?rdH ?rdK); (case rdH => walk_at "sq"); intro $(Lean.mkIdent `p'):ident $(Lean.mkIdent `H'):ident $(Lean.mkIdent `hp):ident $(Lean.mkIdent `hs):ident $(Lean.mkIdent `hv):ident; (try have $(Lean.mkIdent `hn):ident := hand_ne $(Lean.mkIdent `hp):ident (by walk_at "hk")))
  | ((with_reducible refine' RD.cat ?rdH ?rdE ?rdZ ?rdK); (case rdH => walk_at "hp"); (case rdE => walk_at "hp"); (case rdZ => exact RD.sz _); intro $(Lean.mkIdent `p'):ident $(Lean.mkIdent `H'):ident $(Lean.mkIdent `hp):ident $(Lean.mkIdent `hs):ident $(Lean.mkIdent `hv):ident; (try have $(Lean.mkIdent `hn):ident := hand_ne $(Lean.mkIdent `hp):ident (by walk_at "hk")))
  | ((with_reducible refine' RD.gtup ?rdH ?rdE ?rdK); (case rdH => walk_at "st"); (case rdE => rfl))
  | ((with_reducible refine' RD.app ?rdH ?rdZ ?rdK); (case rdH => walk_at "hp"); (case rdZ => first | assumption | (apply RD.szl; omega)); intro $(Lean.mkIdent `H'):ident $(Lean.mkIdent `hk):ident $(Lean.mkIdent `hv):ident)
  | ((with_reducible refine' RD.all1 ?rdH ?rdK); (case rdH => walk_at "sq"))
  | ((with_reducible refine' RD.any1 ?rdH ?rdK); (case rdH => walk_at "sq"))
  | ((with_reducible refine' SPD.dnew ?rdK); intro $(Lean.mkIdent `p'):ident $(Lean.mkIdent `H'):ident $(Lean.mkIdent `hp):ident $(Lean.mkIdent `hs):ident $(Lean.mkIdent `hv):ident; (try have $(Lean.mkIdent `hn):ident := hand_ne $(Lean.mkIdent `hp):ident (by walk_at "hk")))
  | ((with_reducible refine' SPD.disp1 ?rdK); intro $(Lean.mkIdent `p'):ident $(Lean.mkIdent `H'):ident $(Lean.mkIdent `hp):ident $(Lean.mkIdent `hs):ident $(Lean.mkIdent `hv):ident; (try have $(Lean.mkIdent `hn):ident := hand_ne $(Lean.mkIdent `hp):ident (by walk_at "hk")))
  | ((with_reducible refine' SPD.isSeq ?rdH ?rdE ?rdK); (case rdH => walk_at "hp"); (case rdE => walk_at "kd"))
  | ((with_reducible refine' SPD.isTup ?rdE ?rdK); (case rdE => walk_at "kd"))
  | ((with_reducible refine' SPD.isLst ?rdE ?rdK); (case rdE => walk_at "kd"))
  | ((with_reducible refine' SPD.isBool ?rdE ?rdK); (case rdE => walk_at "kd"))
  | ((with_reducible refine' SPD.isStr ?rdE ?rdK); (case rdE => walk_at "kd"))
  | ((with_reducible refine' SPD.isInt ?rdE ?rdK); (case rdE => walk_at "kd"))
  | dsimp only)
local macro_rules | `(tactic| walk_at "rds") => `(tactic| repeat walk_at "rd")
local macro_rules | `(tactic| walk_at "sm") => `(tactic| first | assumption | exact Same.refl _ | exact RD.sm_tr (by assumption) (by walk_at "sm") | fail "no")
local macro_rules | `(tactic| walk_at "kb") => `(tactic| first | assumption | exact RD.KB.refl | exact RD.kb_tr (by assumption) (by walk_at "kb") | exact RD.kb_trs (by assumption) (by walk_at "kb") | fail "no")
local macro_rules | `(tactic| walk_at "fr") => `(tactic| first | assumption | exact RD.fr_of (by assumption) (by walk_at "sm") | fail "no")
local macro_rules | `(tactic| walk_at "hk") => `(tactic| first | assumption | exact hand_same (by assumption) (by walk_at "hk") | exact hand_kb (by assumption) (by walk_at "fr") (by walk_at "hk") | fail "no")
local macro_rules | `(tactic| walk_at "na") => `(tactic| first | assumption | exact hand_ne (by assumption) (by walk_at "hk") | fail "no")
local macro_rules | `(tactic| walk_at "dqa") => `(tactic| first | exact SPD.DqA.nil | exact SPD.DqA.cons (by walk_at "dq") (by walk_at "dqa") | exact SPD.DqA.app (by walk_at "dqa") (by walk_at "dqa") | fail "no")
local macro_rules | `(tactic| walk_at "dq") => `(tactic| first | assumption | exact SPD.Dq.leaf rfl | exact SPD.dq_kb (by assumption) (by walk_at "kb") | exact SPD.dqTup (by walk_at "hp") (by walk_at "na") (by walk_at "dqa") | exact SPD.dqLst (by walk_at "hp") (by walk_at "na") (by walk_at "dqa") | exact SPD.dqNil (by walk_at "hp") (by walk_at "na") (by first | decide | simp) (by first | decide | simp) | fail "no")

/-! ### the hand, the draws -/
def HandOk (H : Hp) (a c : Addr) : Prop := ∃ (cells : List Int) (i g s n : Int), H a = some (.lst [.ref c, .int i, .int g, .int s, .int n]) ∧ H c = some (.lst (cells.map V.int)) ∧ c ≠ a ∧ 0 ≤ i
theorem HandOk.same {H H' : Hp} {a c : Addr} (h : HandOk H a c) (s : Same H H') : HandOk H' a c := by
  obtain ⟨cells, i, g, sd, n, ha, hc, hca, hi⟩ := h
  exact ⟨cells, i, g, sd, n, s _ _ ha, s _ _ hc, hca, hi⟩
theorem HandOk.kb {H H' : Hp} {a c p : Addr} (h : HandOk H a c) (k : RD.KB p H H') (n : H p = none) : HandOk H' a c := h.same fun b o e => k b o (ne_of_none e n) e
theorem HandOk.ne {H : Hp} {a c p : Addr} (n : H p = none) (h : HandOk H a c) : p ≠ a := by
  obtain ⟨cells, i, g, sd, n', ha, _⟩ := h
  exact (ne_of_none ha n).symm
theorem HandOk.ne2 {H : Hp} {a c p : Addr} (n : H p = none) (h : HandOk H a c) : p ≠ c := by
  obtain ⟨cells, i, g, sd, n', _, hc, _⟩ := h
  exact (ne_of_none hc n).symm
theorem HandOk.mut {H H' : Hp} {a c D : Addr} (k : RD.KB D H H') (n1 : D ≠ a) (n2 : D ≠ c) (h : HandOk H a c) : HandOk H' a c := by
  obtain ⟨cells, i, g, sd, n, ha, hc, hca, hi⟩ := h
  exact ⟨cells, i, g, sd, n, k _ _ n1.symm ha, k _ _ n2.symm hc, hca, hi⟩
theorem hand_same {H H' : Hp} {a c : Addr} (s : Same H H') (h : HandOk H a c) : HandOk H' a c := h.same s
theorem hand_kb {H H' : Hp} {a c p : Addr} (k : RD.KB p H H') (n : H p = none) (h : HandOk H a c) : HandOk H' a c := h.kb k n
theorem hand_ne {H : Hp} {a c p : Addr} (n : H p = none) (h : HandOk H a c) : p ≠ a := HandOk.ne n h
def spHand (K : PySem.W.Frag) : Sp := fun vs H Q _ => ∃ (s : Addr) (ns : List Int), vs = [.ref s] ∧ SqL K H s (ns.map V.int) ∧ ns.length ≤ 63 ∧ ∀ a c H', Same H H' → H a = none → HandOk H' a c → Q (.ref a) H'
def spDraw : Sp := fun vs H Q _ => ∃ (a c : Addr) (m : Int), vs = [.ref a, .int m] ∧ HandOk H a c ∧ 0 < m ∧ m < 1073741824 ∧ ∀ (r : Int) H', 0 ≤ r → r < m → RD.KB a H H' → HandOk H' a c → Q (.int r) H'
/-- what may be drawn from -/
inductive Items (K : PySem.W.Frag) (H : Hp) (a : Addr) : V → List V → Prop where
  | lst {p : Addr} {zs : List V} : p ≠ a → SqL K H p zs → Items K H a (.ref p) zs
  | tup {p : Addr} {zs : List V} : p ≠ a → SqT K H p zs → Items K H a (.ref p) zs
  | str {z : Str} : z.length ≤ sizeLine → Items K H a (.str z) (z.cps.toList.map fun c => .str ⟨#[c]⟩)
def spAny (K : PySem.W.Frag) : Sp := fun vs H Q _ => ∃ (a c : Addr) (y : V) (zs : List V), vs = [.ref a, y] ∧ HandOk H a c ∧ Items K H a y zs ∧ 0 < zs.length ∧ zs.length < 1073741824 ∧ ∀ v H', v ∈ zs → RD.KB a H H' → HandOk H' a c → Q v H'
theorem spDraw.mk {a c : Addr} {m : Int} {H : Hp} {Q : VK} {E : XK} (h : HandOk H a c) (h0 : 0 < m) (h1 : m < 1073741824) (q : ∀ (r : Int) H', 0 ≤ r → r < m → RD.KB a H H' → HandOk H' a c → Q (.int r) H') : spDraw ([.ref a, .int m] ++ []) H Q E := ⟨a, c, m, rfl, h, h0, h1, q⟩
theorem spAny.mk {K : PySem.W.Frag} {a c : Addr} {y : V} {zs : List V} {H : Hp} {Q : VK} {E : XK} (h : HandOk H a c) (hi : Items K H a y zs) (h0 : 0 < zs.length) (h1 : zs.length < 1073741824) (q : ∀ v H', v ∈ zs → RD.KB a H H' → HandOk H' a c → Q v H') : spAny K ([.ref a, y] ++ []) H Q E := ⟨a, c, y, zs, rfl, h, hi, h0, h1, q⟩
section
variable {P : Program} {w : World} {K : PySem.W.Frag} {mg : Str → Option Value} {base : Heap}
theorem ok_hand (T : Txt P K mg) : FnOk P w K mg base CX0 1 T.a_hand T.fd_hand ["_law_script"] (spHand K) := by
  have nd := sc_hand.nd
  refine T.F_hand.ok sc_hand (fun vs H Q E h => ?_) (fun cdv A outer s H vs Q E hr h => ?_)
  · obtain ⟨a, ns, rfl, _⟩ := h
    rfl
  · obtain ⟨a, ns, rfl, hS, hlen, q⟩ := h
    refine ⟨_, (pss_cons (ps_setLc (i := 1) (own := [("_law_cell", 2)]) (g := (gName 2)) rfl nd rfl rfl (sw_true rfl rfl rfl (by decide +kernel)) (pi_list (pe_slice sl_list (pv 0) po_none (po_some pe_int))) (blkOk_by (own := [("_law_cell", 2)]) (N := N_hand) (sc := defScope s_hand) (by decide +kernel)) (fun _ _ _ _ _ => (pg_name (i := 2) nd rfl (Or.inl rfl))) (fun _ _ _ _ _ => pts_nil) (fun _ _ _ _ _ => (pe_callB call_abs (by rfl) T.m_abs (by decide +kernel) (pa_cons (pe_callTy call_int1 (by rfl) T.m_int (by decide +kernel) (pa_cons (pv 2) pa_nil)) pa_nil))))
  (pss_one (ps_ret (pe_lst (pa_cons (pv 1) (pa_cons pe_int (pa_cons pe_int (pa_cons (pe_op op_add pe_int (pe_callB call_len_seq (by rfl) T.m_len PySem.boot_len (pa_cons (pv 1) pa_nil))) (pa_cons pe_int pa_nil))))))))), ?_⟩
    walk_at "rds"
    have hcl : cutV (ns.map V.int) none (some 63) = ns.map V.int := by
      unfold cutV
      rw [HT.sIx_none, show HT.sIx (ns.map V.int).length (ns.map V.int).length (some 63) = min 63 (ns.map V.int).length from HT.sIx_nat _ _ 63, List.drop_zero, List.length_map]
      exact List.take_of_length_le (by rw [List.length_map]; omega)
    rw [hcl] at hv
    refine RD.lcF (walk_list (xs := ns.map V.int)) (by rw [List.length_map]; omega) (fun i => (ns[i]?).map fun n => .int (if n < 0 then -n else n)) (fun H' s => by walk_at "sq") (fun i x H' Z N hi hx s hZ hN => ?_) (fun D H' hD s hv2 => ?_)
    · rw [List.getElem?_map] at hx
      obtain ⟨n, hn, rfl⟩ := Option.map_eq_some_iff.mp hx
      walk_at "rds"
      refine ⟨rfl, ?_⟩
      walk_at "rds"
      exact hZ _ _ (by rw [hn]; rfl) (Same.refl _)
    · have e : (List.range (ns.map V.int).length).filterMap (fun i => (ns[i]?).map fun n => V.int (if n < 0 then -n else n)) = (ns.map fun n => if n < 0 then -n else n).map V.int := by
        rw [List.length_map, RD.range_get (fun n => V.int (if n < 0 then -n else n)) ns, List.map_map]
        rfl
      rw [e] at hv2
      walk_at "rds"
      refine q _ _ _ (by walk_at "sm") (by walk_at "fr") ⟨_, _, _, _, _, hv, hs _ _ hv2, (ne_of_none hv2 hp), by omega⟩
theorem ok_draw (T : Txt P K mg) : FnOk P w K mg base CX0 1 T.a_draw T.fd_draw ["_law_hand_here", "_law_many"] spDraw := by
  have nd := sc_draw.nd
  refine T.F_draw.ok sc_draw (fun vs H Q E h => ?_) (fun cdv A outer s H vs Q E hr h => ?_)
  · obtain ⟨a, c, m, rfl, _⟩ := h
    rfl
  · obtain ⟨a, c, m, rfl, ⟨cells, i, g, sd, n, ha, hc, hca, hi⟩, hm0, hm1, q⟩ := h
    refine ⟨_, (Evl.pss_cut (ps_if (PW.pt (pw_and (pt_cmpR op_eq (pe_ix ix_list (pv 0) pe_int (fun _ _ => rfl)) pe_int (nomark _)) (pw_and1 (pt_cmpR op_lt (pe_ix ix_list (pv 0) pe_int (fun _ _ => rfl)) (pe_callB call_len_seq (by rfl) T.m_len PySem.boot_len (pa_cons (pe_ix ix_list (pv 0) pe_int (fun _ _ => rfl)) pa_nil)) (nomark _)))))
    (pss_cons (ps_set (i := 2) nd rfl (by first | exact Or.inl rfl | exact Or.inr rfl) (pe_ix ix_list (pe_ix ix_list (pv 0) pe_int (fun _ _ => rfl)) (pe_ix ix_list (pv 0) pe_int (fun _ _ => rfl)) (fun _ _ => rfl)))
  (pss_cons (ps_asg (pe_op op_add (pe_ix ix_list (pv 0) pe_int (fun _ _ => rfl)) pe_int) (pg_sub (pv 0) pe_int set_list))
  (pss_cons (ps_asg (pe_op op_mod (pe_callTy call_int1 (by rfl) T.m_int (by decide +kernel) (pa_cons (pe_op op_add (pe_op op_add (pe_op op_mul (pe_ix ix_list (pv 0) pe_int (fun _ _ => rfl)) pe_int) (pv 2)) pe_int) pa_nil)) pe_int) (pg_sub (pv 0) pe_int set_list))
  (pss_one (ps_if (pt_cmpR op_ge (pv 2) (pe_op op_pow pe_int pe_int) (nomark _))
    (pss_one (ps_asg (pv 2) (pg_sub (pv 0) pe_int set_list)))
    pss_nil)))))
    pss_nil)
  (pss_cons (ps_if (pt_cmpR op_gt (pe_ix ix_list (pv 0) pe_int (fun _ _ => rfl)) pe_int (nomark _))
    (pss_cons (ps_set (i := 3) nd rfl (by first | exact Or.inl rfl | exact Or.inr rfl) (pe_op op_mod (pe_callTy call_int1 (by rfl) T.m_int (by decide +kernel) (pa_cons (pe_ix ix_list (pv 0) pe_int (fun _ _ => rfl)) pa_nil)) (pv 1)))
  (pss_cons (ps_asg (pe_op op_fdiv (pe_ix ix_list (pv 0) pe_int (fun _ _ => rfl)) (pv 1)) (pg_sub (pv 0) pe_int set_list))
  (pss_one (ps_ret (pv 3)))))
    pss_nil)
  (pss_cons (ps_asg (pe_op op_add (pe_ix ix_list (pv 0) pe_int (fun _ _ => rfl)) pe_int) (pg_sub (pv 0) pe_int set_list))
  (pss_cons (ps_set (i := 4) nd rfl (by first | exact Or.inl rfl | exact Or.inr rfl) (pe_op op_mod (pe_callTy call_int1 (by rfl) T.m_int (by decide +kernel) (pa_cons (pe_op op_mul (pe_callTy call_int1 (by rfl) T.m_int (by decide +kernel) (pa_cons (pe_op op_add (pe_ix ix_list (pv 0) pe_int (fun _ _ => rfl)) (pe_op op_mul pe_int (pe_ix ix_list (pv 0) pe_int (fun _ _ => rfl)))) pa_nil)) pe_int) pa_nil)) pe_int))
  (pss_cons (ps_set (i := 4) nd rfl (by first | exact Or.inl rfl | exact Or.inr rfl) (pe_op op_mod (pe_callTy call_int1 (by rfl) T.m_int (by decide +kernel) (pa_cons (pe_op op_mul (pv 4) (pe_op op_add (pe_op op_fdiv (pv 4) pe_int) pe_int)) pa_nil)) pe_int))
  (pss_cons (ps_set (i := 4) nd rfl (by first | exact Or.inl rfl | exact Or.inr rfl) (pe_op op_mod (pe_callTy call_int1 (by rfl) T.m_int (by decide +kernel) (pa_cons (pe_op op_mul (pv 4) (pe_op op_add (pe_op op_fdiv (pv 4) pe_int) pe_int)) pa_nil)) pe_int))
  (pss_one (ps_ret (pe_op op_mod (pe_callTy call_int1 (by rfl) T.m_int (by decide +kernel) (pa_cons (pe_op op_fdiv (pv 4) pe_int) pa_nil)) (pv 1)))))))))), ?_⟩
    refine ⟨fun σ' H' => ∃ x2 x3 x4 i' g' s' n', σ' = [some (.ref a), some (.int m), x2, x3, x4] ∧ RD.KB a H H' ∧ H' a = some (.lst [.ref c, .int i', .int g', .int s', .int n']) ∧ 0 ≤ i', ?_, fun σ1 H1 hm => ?_⟩
    · have k0 : RD.KB a H H := RD.KB.refl
      walk_at "rds"
      refine RD.ite_d (fun _ => ?_) (fun _ => ?_)
      · walk_at "rds"
        refine RD.ite_d (fun hl => ?_) (fun _ => ?_)
        · obtain ⟨cell, hat, _⟩ := RD.at_map hi hl
          walk_at "rds"
          refine RD.ite_d (fun _ => ?_) (fun _ => ?_)
          · walk_at "rds"
            exact ⟨_, _, _, _, _, _, _, rfl, by walk_at "kb", by walk_at "hp", by omega⟩
          · walk_at "rds"
            exact ⟨_, _, _, _, _, _, _, rfl, by walk_at "kb", by walk_at "hp", by omega⟩
        · walk_at "rds"
          exact ⟨_, _, _, _, _, _, _, rfl, by walk_at "kb", by walk_at "hp", by omega⟩
      · walk_at "rds"
        exact ⟨_, _, _, _, _, _, _, rfl, by walk_at "kb", by walk_at "hp", by omega⟩
    · obtain ⟨x2, x3, x4, i', g', s', n', rfl, k1, h1, hi1⟩ := hm
      walk_at "rds"
      refine RD.ite_d (fun _ => ?_) (fun _ => ?_)
      · walk_at "rds"
        exact q _ _ (Int.emod_nonneg _ (by omega)) (Int.emod_lt_of_pos _ hm0) (by walk_at "kb") ⟨cells, _, _, _, _, by walk_at "hp", (RD.KB.trans k1 (by assumption)) _ _ hca hc, hca, hi1⟩
      · walk_at "rds"
        exact q _ _ (Int.emod_nonneg _ (by omega)) (Int.emod_lt_of_pos _ hm0) (by walk_at "kb") ⟨cells, _, _, _, _, by walk_at "hp", (RD.KB.trans k1 (by assumption)) _ _ hca hc, hca, hi1⟩
theorem ok_any (T : Txt P K mg) : FnOk P w K mg base CX0 2 T.a_any T.fd_any ["_law_hand_here", "_law_items"] (spAny K) := by
  have nd := sc_any.nd
  have G_draw : FnOk P w K mg base CX0 1 T.a_draw T.fd_draw ["_law_hand_here", "_law_many"] spDraw := ok_draw T
  refine T.F_any.ok sc_any (fun vs H Q E h => ?_) (fun cdv A outer s H vs Q E hr h => ?_)
  · obtain ⟨a, c, y, zs, rfl, _⟩ := h
    rfl
  · obtain ⟨a, c0, y, zs, rfl, hh, hi, h0, h1, q⟩ := h
    refine ⟨_, (pss_one (ps_ret (pe_ix ix_seq (pv 1) (pe_call G_draw hr (by rfl) T.g_draw T.F_draw.kp T.b_draw .nil pass0 (pa_cons (pv 0) (pa_cons (pe_callB call_len (by rfl) T.m_len PySem.boot_len (pa_cons (pv 1) pa_nil)) pa_nil))) (fun _ _ => rfl)))), ?_⟩
    walk_at "rds"
    refine ⟨y, zs.length, rfl, ?_, ?_⟩
    · cases hi with
      | lst n hx => exact .inl ⟨_, hx, rfl⟩
      | tup n hx => exact .inr ⟨_, hx, rfl⟩
      | str hz => exact ⟨hz, by rw [List.length_map]; rfl⟩
    · walk_at "rds"
      refine spDraw.mk hh (by omega) (by omega) fun r H' hr0 hr1 k hh' => ?_
      obtain ⟨v, hat, hv⟩ := RD.at_lt (xs := zs) hr0 hr1
      have hm := List.mem_of_getElem? hv
      cases hi with
      | lst n hx => exact .inl ⟨_, _, _, _, rfl, rfl, k.seq n hx, hat, q _ _ hm k hh'⟩
      | tup n hx => exact .inr (.inl ⟨_, _, _, _, rfl, rfl, k.tup n hx, hat, q _ _ hm k hh'⟩)
      | @str z hz =>
        rw [List.length_map] at hr1
        obtain ⟨cp, hat2, hc⟩ := RD.at_lt (xs := z.cps.toList) hr0 hr1
        refine .inr (.inr ⟨z, r, cp, rfl, rfl, hz, hat2, q _ _ ?_ k hh'⟩)
        exact List.mem_map.mpr ⟨cp, List.mem_of_getElem? hc, rfl⟩
end

/-! ### the law's own comparison -/
def spIs (K : PySem.W.Frag) (n : Nat) : Sp := fun vs H Q _ => ∃ (x y : V) (b : Bool), vs = [x, y] ∧ SPD.IsB K H n x y b ∧ ∀ H', Same H H' → Q (.bl b) H'
def spIsM (K : PySem.W.Frag) : Nat → Sp
  | 0 => fun _ _ _ _ => False
  | n + 1 => spIs K n
theorem spIs.mk {K : PySem.W.Frag} {n : Nat} {x y : V} {b : Bool} {H : Hp} {Q : VK} {E : XK} (h : SPD.IsB K H n x y b) (q : ∀ H', Same H H' → Q (.bl b) H') : spIs K n ([x, y] ++ []) H Q E := ⟨x, y, b, rfl, h, q⟩
section
variable {P : Program} {w : World} {K : PySem.W.Frag} {mg : Str → Option Value} {base : Heap}
theorem is_step (T : Txt P K mg) (n : Nat) (G_is : FnOk P w K mg base CX0 n T.a_is T.fd_is ["_law_told", "_law_due"] (spIsM K n)) : FnOk P w K mg base CX0 (n + 1) T.a_is T.fd_is ["_law_told", "_law_due"] (spIs K n) := by
  have nd := sc_is.nd
  refine T.F_is.ok sc_is (fun vs H Q E h => ?_) (fun cdv A outer s H vs Q E hr h => ?_)
  · obtain ⟨x, y, b, rfl, _⟩ := h
    rfl
  · obtain ⟨x, y, b, rfl, hb, q⟩ := h
    refine ⟨_, (pss_cons (ps_if (pt_val (pe_callB call_isiT (by rfl) T.m_isinstance (by decide +kernel) (pa_cons (pv 1) (pa_cons (pe_tup (pa_cons (pe_bltn (v := .ty "tuple") (by rfl) T.m_tuple (by decide +kernel) rfl) (pa_cons (pe_bltn (v := .ty "list") (by rfl) T.m_list (by decide +kernel) rfl) pa_nil))) pa_nil))))
    (pss_cons (ps_if (PW.pt (pw_or (pt_cmpR op_ne (pe_callB call_isi (by rfl) T.m_isinstance (by decide +kernel) (pa_cons (pv 0) (pa_cons (pe_bltn (v := .ty "tuple") (by rfl) T.m_tuple (by decide +kernel) rfl) pa_nil))) (pe_callB call_isi (by rfl) T.m_isinstance (by decide +kernel) (pa_cons (pv 1) (pa_cons (pe_bltn (v := .ty "tuple") (by rfl) T.m_tuple (by decide +kernel) rfl) pa_nil))) (nomark _)) (pw_or1 (pt_not (pt_val (pe_callB call_isiT (by rfl) T.m_isinstance (by decide +kernel) (pa_cons (pv 0) (pa_cons (pe_tup (pa_cons (pe_bltn (v := .ty "tuple") (by rfl) T.m_tuple (by decide +kernel) rfl) (pa_cons (pe_bltn (v := .ty "list") (by rfl) T.m_list (by decide +kernel) rfl) pa_nil))) pa_nil))))))))
    (pss_one (ps_ret pe_bl))
    pss_nil)
  (pss_one (ps_ret (pe_and (pe_cmpR op_eq (pe_callB call_len_seq (by rfl) T.m_len PySem.boot_len (pa_cons (pv 0) pa_nil)) (pe_callB call_len_seq (by rfl) T.m_len PySem.boot_len (pa_cons (pv 1) pa_nil)) (nomark _)) (pe_one (pe_callB (cr_all rfl) (by rfl) T.m_all (by decide +kernel) (pa_cons (pe_lc (own := [("_law_one", 2), ("_law_two", 3)]) (g := (gTup K 2 (gCons (gName 2) (gCons (gName 3) gNil)))) rfl nd (RZ.pi_zipA (by rfl) T.m_zip (pa_cons (pv 0) (pa_cons (pv 1) pa_nil))) (blkOk_by (own := [("_law_one", 2), ("_law_two", 3)]) (N := N_is) (sc := defScope s_is) (by decide +kernel)) (fun _ _ _ _ _ => (pg_tup rfl (pgs_cons (pg_name (i := 2) nd rfl (Or.inl rfl)) (pgs_cons (pg_name (i := 3) nd rfl (Or.inl rfl)) pgs_nil)))) (fun _ _ _ _ _ => pts_nil) (fun _ _ _ _ _ => (pe_call G_is hr (by rfl) T.g_is T.F_is.kp T.b_is .nil pass0 (pa_cons (pv 2) (pa_cons (pv 3) pa_nil))))) pa_nil)))))))
    pss_nil)
  (pss_one (ps_ret (pe_and (pe_cmpR op_eq (pe_callB call_isi (by rfl) T.m_isinstance (by decide +kernel) (pa_cons (pv 0) (pa_cons (pe_bltn (v := .ty "bool") (by rfl) T.m_bool (by decide +kernel) rfl) pa_nil))) (pe_callB call_isi (by rfl) T.m_isinstance (by decide +kernel) (pa_cons (pv 1) (pa_cons (pe_bltn (v := .ty "bool") (by rfl) T.m_bool (by decide +kernel) rfl) pa_nil))) (nomark _)) (pe_one (pe_cmpR (SPD.op_eqB hr.units) (pv 0) (pv 1) (nomark _))))))), ?_⟩
    have three : (∃ s t, SPD.KdOf K H x s ∧ SPD.KdOf K H y t ∧ t.sq = false ∧ ((decide (s = .bl) = decide (t = .bl) ∧ SPD.EqB K H x y b) ∨ (decide (s = .bl) ≠ decide (t = .bl) ∧ b = false))) ∨
        (∃ s t, SPD.KdOf K H x s ∧ SPD.KdOf K H y t ∧ t.sq = true ∧ s ≠ t ∧ b = false) ∨
        (∃ (k : SPD.Kd) (a c : Addr) (xs ys : List V), x = .ref a ∧ y = .ref c ∧ k.sq = true ∧ SPD.KdOf K H x k ∧ SPD.KdOf K H y k ∧ ((H a = some (.lst xs) ∧ H c = some (.lst ys)) ∨ (H a = some (.tup xs) ∧ H c = some (.tup ys))) ∧
          ((xs.length ≠ ys.length ∧ b = false) ∨ (xs.length = ys.length ∧ ∃ (m : Nat) (bs : List Bool), n = m + 1 ∧ b = bs.all id ∧ bs.length = xs.length ∧ xs.length ≤ 16777216 ∧ ∀ (i : Nat) (x y : V) (c : Bool), xs[i]? = some x → ys[i]? = some y → bs[i]? = some c → SPD.IsB K H m x y c))) := by
      cases hb with
      | leaf a b c d e => exact .inl ⟨_, _, a, b, c, .inl ⟨d, e⟩⟩
      | bool a b c d => exact .inl ⟨_, _, a, b, c, .inr ⟨d, rfl⟩⟩
      | kind a b c d => exact .inr (.inl ⟨_, _, a, b, c, d, rfl⟩)
      | lenL a b c => exact .inr (.inr ⟨_, _, _, _, _, rfl, rfl, rfl, .lst a, .lst b, .inl ⟨a, b⟩, .inl ⟨c, rfl⟩⟩)
      | lenT a b c => exact .inr (.inr ⟨_, _, _, _, _, rfl, rfl, rfl, .tup a, .tup b, .inr ⟨a, b⟩, .inl ⟨c, rfl⟩⟩)
      | lst a b c d e f => exact .inr (.inr ⟨_, _, _, _, _, rfl, rfl, rfl, .lst a, .lst b, .inl ⟨a, b⟩, .inr ⟨c, _, _, rfl, rfl, d, e, f⟩⟩)
      | tup a b c d e f => exact .inr (.inr ⟨_, _, _, _, _, rfl, rfl, rfl, .tup a, .tup b, .inr ⟨a, b⟩, .inr ⟨c, _, _, rfl, rfl, d, e, f⟩⟩)
    rcases three with ⟨s, t, hs, ht, hq, hcase⟩ | ⟨s, t, hs, ht, hq, hne, rfl⟩ | ⟨k, a, c, xs, ys, rfl, rfl, hq, hs, ht, hsq, hcase⟩
    · walk_at "rds"
      rw [hq]
      walk_at "rds"
      rcases hcase with ⟨hd, he⟩ | ⟨hd, rfl⟩
      · refine RD.ite_d (fun _ => ?_) (fun z => absurd (congrArg V.bl hd) z)
        walk_at "rds"
        refine SPD.eqB (he.same (by walk_at "sm")) (q _ (by walk_at "sm"))
      · refine RD.ite_d (fun z => absurd (V.bl.inj z) hd) (fun _ => ?_)
        exact q _ (by walk_at "sm")
    · walk_at "rds"
      rw [hq]
      walk_at "rds"
      refine RD.ite_nd (fun _ => ?_) (fun z => ?_)
      · walk_at "rds"
        exact q _ (by walk_at "sm")
      · have hss : s.sq = false := by
          have z := V.bl.inj z
          cases s <;> cases t <;> first | rfl | (exact absurd rfl hne) | (exact absurd hq (by decide)) | (exact absurd z (by decide))
        walk_at "rds"
        rw [hss]
        walk_at "rds"
        exact q _ (by walk_at "sm")
    · walk_at "rds"
      rw [hq]
      walk_at "rds"
      refine RD.ite_nd (fun z => absurd rfl z) (fun _ => ?_)
      walk_at "rds"
      rw [hq]
      walk_at "rds"
      rcases hsq with ⟨hxa, hyc⟩ | ⟨hxa, hyc⟩
      · walk_at "rds"
        refine RD.ite_d (fun e => ?_) (fun ne => ?_)
        · have e : xs.length = ys.length := by exact_mod_cast V.int.inj e
          rcases hcase with ⟨z, _⟩ | ⟨_, m, bs, rfl, rfl, hbl, hsz, hall⟩
          · exact absurd e z
          walk_at "rds"
          refine ⟨a, c, xs, ys, rfl, .inl ⟨by walk_at "sq", by walk_at "sq", ?_⟩⟩
          refine RD.lcW (RD.w_zip (xs := xs) (ys := ys) (n := xs.length) (by omega)) hsz fun D H2 hD hs2 hv2 => ⟨fun i acc H' => Same H H' ∧ (∀ o, H D = o → True) ∧ acc = (bs.take i).map V.bl, ⟨by walk_at "sm", fun _ _ => trivial, rfl⟩, fun i acc H' _ p => ⟨by have := p.1; walk_at "sq", by have := p.1; walk_at "sq"⟩, fun i x acc H3 H4 Z N hi p hDa hy hZ hN => ?_, fun acc H3 p hDa => ?_⟩
          · obtain ⟨T1, x1, y1, rfl, hT, hs4, hv4, hx1, hy1⟩ := hy
            have p1 := p.1
            obtain ⟨cb, hcb⟩ : ∃ cb, bs[i]? = some cb := ⟨_, List.getElem?_eq_getElem (by omega)⟩
            walk_at "rds"
            refine ⟨rfl, ?_⟩
            walk_at "rds"
            refine spIs.mk (E := E0) ((hall i x1 y1 cb hx1 hy1 hcb).same (by walk_at "sm")) fun H5 hs5 => ?_
            refine hZ _ _ (by walk_at "hp") fun H6 hk6 hv6 => ⟨?_, fun _ _ => trivial, ?_⟩
            · exact RD.same_mut hk6 (by walk_at "sm") (by walk_at "fr")
            · rw [p.2.2, List.take_add_one, hcb, List.map_append]
              rfl
          · have p1 := p.1
            rw [p.2.2, List.take_of_length_le (by omega)] at hDa
            walk_at "rds"
            exact q _ p1
        · rcases hcase with ⟨_, rfl⟩ | ⟨z, _⟩
          · exact q _ (by walk_at "sm")
          · exact absurd (congrArg (fun n : Nat => V.int (n : Int)) z) ne
      · walk_at "rds"
        refine RD.ite_d (fun e => ?_) (fun ne => ?_)
        · have e : xs.length = ys.length := by exact_mod_cast V.int.inj e
          rcases hcase with ⟨z, _⟩ | ⟨_, m, bs, rfl, rfl, hbl, hsz, hall⟩
          · exact absurd e z
          walk_at "rds"
          refine ⟨a, c, xs, ys, rfl, .inr ⟨by walk_at "st", by walk_at "st", ?_⟩⟩
          refine RD.lcW (SPD.w_zipT (xs := xs) (ys := ys) (n := xs.length) (by omega)) hsz fun D H2 hD hs2 hv2 => ⟨fun i acc H' => Same H H' ∧ (∀ o, H D = o → True) ∧ acc = (bs.take i).map V.bl, ⟨by walk_at "sm", fun _ _ => trivial, rfl⟩, fun i acc H' _ p => ⟨by have := p.1; walk_at "st", by have := p.1; walk_at "st"⟩, fun i x acc H3 H4 Z N hi p hDa hy hZ hN => ?_, fun acc H3 p hDa => ?_⟩
          · obtain ⟨T1, x1, y1, rfl, hT, hs4, hv4, hx1, hy1⟩ := hy
            have p1 := p.1
            obtain ⟨cb, hcb⟩ : ∃ cb, bs[i]? = some cb := ⟨_, List.getElem?_eq_getElem (by omega)⟩
            walk_at "rds"
            refine ⟨rfl, ?_⟩
            walk_at "rds"
            refine spIs.mk (E := E0) ((hall i x1 y1 cb hx1 hy1 hcb).same (by walk_at "sm")) fun H5 hs5 => ?_
            refine hZ _ _ (by walk_at "hp") fun H6 hk6 hv6 => ⟨?_, fun _ _ => trivial, ?_⟩
            · exact RD.same_mut hk6 (by walk_at "sm") (by walk_at "fr")
            · rw [p.2.2, List.take_add_one, hcb, List.map_append]
              rfl
          · have p1 := p.1
            rw [p.2.2, List.take_of_length_le (by omega)] at hDa
            walk_at "rds"
            exact q _ p1
        · rcases hcase with ⟨_, rfl⟩ | ⟨z, _⟩
          · exact q _ (by walk_at "sm")
          · exact absurd (congrArg (fun n : Nat => V.int (n : Int)) z) ne
theorem ok_is (T : Txt P K mg) : ∀ n, FnOk P w K mg base CX0 (n + 1) T.a_is T.fd_is ["_law_told", "_law_due"] (spIs K n)
  | 0 => is_step T 0 ⟨fun _ _ _ _ h => h.elim, fun _ _ _ _ _ _ _ _ _ _ _ _ _ h => h.elim⟩
  | n + 1 => is_step T (n + 1) (ok_is T n)
end


end K02

namespace K02
open PySem PySem.Spec PyProof.Rows L2
local macro_rules | `(tactic| walk_at "kd") => `(tactic| first | assumption | exact SPD.KdOf.int _ | exact SPD.KdOf.str _ | exact SPD.KdOf.bl _ | exact SPD.KdOf.non | exact SPD.KdOf.same (by assumption) (by walk_at "kd") | exact SPD.KdOf.tup (by walk_at "hp") | exact SPD.KdOf.lst (by walk_at "hp") | fail "no")
local macro_rules | `(tactic| walk_at "ne") => `(tactic| first | assumption | exact Ne.symm (by assumption) | fail "no")
local macro_rules | `(tactic| walk_at "hp") => `(tactic| first | assumption | exact RD.at_same (by assumption) (by walk_at "hp") | exact RD.at_kb (by assumption) (by walk_at "ne") (by walk_at "hp") | fail "no")
local macro_rules | `(tactic| walk_at "sq") => `(tactic| first | assumption | exact Or.inl (Or.inl (by walk_at "hp")) | exact Same.seq (by assumption) (by walk_at "sq") | exact RD.KB.seq (by assumption) (by walk_at "ne") (by walk_at "sq") | fail "no")
local macro_rules | `(tactic| walk_at "st") => `(tactic| first | assumption | exact Or.inl (Or.inl (by walk_at "hp")) | exact RD.Same.tup (by assumption) (by walk_at "st") | exact RD.KB.tup (by assumption) (by walk_at "ne") (by walk_at "st") | fail "no")
local macro_rules | `(tactic| walk_at "rd") => `(tactic| first
  | with_reducible refine RD.c ?_
  | ((with_reducible refine' RD.var ?rdE ?rdK); (case rdE => exact rfl))
  | with_reducible refine RD.op ?_
  | with_reducible refine RD.un ?_
  | with_reducible refine RD.nil ?_
  | with_reducible refine RD.cons ?_
  | with_reducible refine RD.cb ?_
  | with_reducible refine RD.call ?_
  | with_reducible refine RD.test ?_
  | with_reducible refine RD.tb' ?_
  | with_reducible refine RD.bl ?_
  | with_reducible refine RD.and' ?_
  | with_reducible refine RD.or' ?_
  | with_reducible refine RD.not' ?_
  | with_reducible refine RD.andV ?_
  | with_reducible refine RD.orV ?_
  | with_reducible refine RD.notV ?_
  | with_reducible refine RD.ife ?_
  | with_reducible refine RD.sl ?_
  | with_reducible refine RD.part ?_
  | with_reducible refine RD.noPart ?_
  | with_reducible refine RD.partI ?_
  | with_reducible refine RD.rd0 ?_
  | with_reducible refine RD.rdU ?_
  | ((with_reducible refine' RD.rdEq ?rdE ?rdK); (case rdE => rfl))
  | ((with_reducible refine' RD.rdNe ?rdE ?rdK); (case rdE => rfl))
  | ((with_reducible refine' RD.ixL ?rdH ?rdE ?rdK); (case rdH => walk_at "sq"); (case rdE => first | rfl | assumption))
  | ((with_reducible refine' RD.rdI ?rdC ?rdK); (case rdC => first | assumption | (show (0 : Int) < _; first | decide | omega) | exact ⟨by decide, by decide⟩ | exact ⟨by assumption, by assumption⟩ | exact .inr ⟨by decide, by decide⟩ | exact .inl ⟨by decide, by decide⟩ | exact ⟨by decide, by decide, by decide⟩ | exact .inl ⟨by omega, by omega⟩))
  | ((with_reducible refine' RD.setL ?rdH ?rdE ?rdK); (case rdH => walk_at "hp"); (case rdE => rfl); intro $(Lean.mkIdent `H'):ident $(Lean.mkIdent `hk):ident $(Lean.mkIdent `hv):ident)
  | ((with_reducible refine' RD.irng1V ?rdA ?rdB ?rdK); (case rdA => first | decide | omega); (case rdB => first | decide | omega))
  | with_reducible refine RD.int1 ?_
  | with_reducible refine RD.abs1 ?_
  | ((with_reducible refine' RD.len ?rdH ?rdK); (case rdH => first | exact Or.inl (by walk_at "sq") | exact Or.inr (by walk_at "st")))
  | with_reducible refine RD.tup ?_
  | with_reducible refine RD.lst ?_
  | with_reducible refine RD.ite1 ?_
  | with_reducible refine RD.ite0 ?_
  | with_reducible refine RD.ite1n ?_
  | with_reducible refine RD.ite0n ?_
  | with_reducible refine RD.seq ?_
  | with_reducible refine RD.asg ?_
  | with_reducible refine RD.name ?_
  | with_reducible refine RD.ret ?_
  | with_reducible refine RD.drop ?_
  | with_reducible refine RD.next ?_
  | with_reducible refine RD.ifs ?_
  | with_reducible refine RD.par ?_
  | with_reducible refine RD.par2 ?_
  | with_reducible refine RD.sub ?_
  | with_reducible refine RD.gcons ?_
  | with_reducible refine RD.gnil ?_
  | with_reducible refine RD.bm ?_
  | ((with_reducible refine' RD.bmL ?rdH ?rdK); (case rdH => walk_at "sq"))
  | ((with_reducible refine' RD.newZ ?rdH ?rdK); (case rdH => exact RD.sz _); intro $(Lean.mkIdent `p'):ident $(Lean.mkIdent `H'):ident $(Lean.mkIdent `hp):ident $(Lean.mkIdent `hs):ident $(Lean.mkIdent `hv):ident; (try have $(Lean.mkIdent `hn):ident := hand_ne $(Lean.mkIdent `hp):ident (by walk_at "hk")))
  | with_reducible refine RD.fors ?_
  | with_reducible refine RD.lc ?_
  | with_reducible refine RD.yes ?_
  | with_reducible refine RD.ilist ?_
  | ((with_reducible refine' RD.ilistV ?rdH ?rdK); (case rdH => walk_at "sq"))
  | with_reducible refine RD.itup ?_
  | ((with_reducible refine' RD.itupV ?rdH ?rdK); (case rdH => walk_at "st"))
  | with_reducible refine RD.irng1 ?_
  | with_reducible refine RD.irng2 ?_
  | ((with_reducible refine' RD.irng2V ?rdA ?rdK); (case rdA => first | decide | omega))
  | with_reducible refine RD.ienum ?_
  | ((with_reducible refine' RD.ienumV ?rdH ?rdK); (case rdH => walk_at "sq"))
  | with_reducible refine RD.izip ?_
  | ((with_reducible refine' RD.izipV ?rdH ?rdE ?rdK); (case rdH => walk_at "sq"); (case rdE => walk_at "sq"))
  | with_reducible refine SPD.izipA ?_
  | with_reducible refine RD.istr ?_
  | with_reducible refine RD.istrV ?_
  | ((with_reducible refine' RD.slL ?rdH ?rdK); (case rdH => walk_at "sq"); intro $(Lean.mkIdent `p'):ident $(Lean.mkIdent `H'):ident $(Lean.mkIdent `hp):ident $(Lean.mkIdent `hs):ident $(Lean.mkIdent `hv):ident; (try have $(Lean.mkIdent `hn):ident := hand_ne $(Lean.mkIdent `hp):ident (by walk_at "hk")))
  | ((with_reducible refine' RD.cat ?rdH ?rdE ?rdZ ?rdK); (case rdH => walk_at "hp"); (case rdE => walk_at "hp"); (case rdZ => exact RD.sz _); intro $(Lean.mkIdent `p'):ident $(Lean.mkIdent `H'):ident $(Lean.mkIdent `hp):ident $(Lean.mkIdent `hs):ident $(Lean.mkIdent `hv):ident; (try have $(Lean.mkIdent `hn):ident := hand_ne $(Lean.mkIdent `hp):ident (by walk_at "hk")))
  | ((with_reducible refine' RD.gtup ?rdH ?rdE ?rdK); (case rdH => walk_at "st"); (case rdE => rfl))
  | ((with_reducible refine' RD.app ?rdH ?rdZ ?rdK); (case rdH => walk_at "hp"); (case rdZ => first | assumption | (apply RD.szl; omega)); intro $(Lean.mkIdent `H'):ident $(Lean.mkIdent `hk):ident $(Lean.mkIdent `hv):ident)
  | ((with_reducible refine' RD.all1 ?rdH ?rdK); (case rdH => walk_at "sq"))
  | ((with_reducible refine' RD.any1 ?rdH ?rdK); (case rdH => walk_at "sq"))
  | ((with_reducible refine' SPD.dnew ?rdK); intro $(Lean.mkIdent `p'):ident $(Lean.mkIdent `H'):ident $(Lean.mkIdent `hp):ident $(Lean.mkIdent `hs):ident $(Lean.mkIdent `hv):ident; (try have $(Lean.mkIdent `hn):ident := hand_ne $(Lean.mkIdent `hp):ident (by walk_at "hk")))
  | ((with_reducible refine' SPD.disp1 ?rdK); intro $(Lean.mkIdent `p'):ident $(Lean.mkIdent `H'):ident $(Lean.mkIdent `hp):ident $(Lean.mkIdent `hs):ident $(Lean.mkIdent `hv):ident; (try have $(Lean.mkIdent `hn):ident := hand_ne $(Lean.mkIdent `hp):ident (by walk_at "hk")))
  | ((with_reducible refine' SPD.isSeq ?rdH ?rdE ?rdK); (case rdH => walk_at "hp"); (case rdE => walk_at "kd"))
  | ((with_reducible refine' SPD.isTup ?rdE ?rdK); (case rdE => walk_at "kd"))
  | ((with_reducible refine' SPD.isLst ?rdE ?rdK); (case rdE => walk_at "kd"))
  | ((with_reducible refine' SPD.isBool ?rdE ?rdK); (case rdE => walk_at "kd"))
  | ((with_reducible refine' SPD.isStr ?rdE ?rdK); (case rdE => walk_at "kd"))
  | ((with_reducible refine' SPD.isInt ?rdE ?rdK); (case rdE => walk_at "kd"))
  | dsimp only)
local macro_rules | `(tactic| walk_at "rds") => `(tactic| repeat walk_at "rd")
local macro_rules | `(tactic| walk_at "sm") => `(tactic| first | assumption | exact Same.refl _ | exact RD.sm_tr (by assumption) (by walk_at "sm") | fail "no")
local macro_rules | `(tactic| walk_at "kb") => `(tactic| first | assumption | exact RD.KB.refl | exact RD.kb_tr (by assumption) (by walk_at "kb") | exact RD.kb_trs (by assumption) (by walk_at "kb") | fail "no")
local macro_rules | `(tactic| walk_at "fr") => `(tactic| first | assumption | exact RD.fr_of (by assumption) (by walk_at "sm") | fail "no")
local macro_rules | `(tactic| walk_at "hk") => `(tactic| first | assumption | exact hand_same (by assumption) (by walk_at "hk") | exact hand_kb (by assumption) (by walk_at "fr") (by walk_at "hk") | fail "no")
local macro_rules | `(tactic| walk_at "na") => `(tactic| first | assumption | exact hand_ne (by assumption) (by walk_at "hk") | fail "no")
local macro_rules | `(tactic| walk_at "dqa") => `(tactic| first | exact SPD.DqA.nil | exact SPD.DqA.cons (by walk_at "dq") (by walk_at "dqa") | exact SPD.DqA.app (by walk_at "dqa") (by walk_at "dqa") | fail "no")
local macro_rules | `(tactic| walk_at "dq") => `(tactic| first | assumption | exact SPD.Dq.leaf rfl | exact SPD.dq_kb (by assumption) (by walk_at "kb") | exact SPD.dqTup (by walk_at "hp") (by walk_at "na") (by walk_at "dqa") | exact SPD.dqLst (by walk_at "hp") (by walk_at "na") (by walk_at "dqa") | exact SPD.dqNil (by walk_at "hp") (by walk_at "na") (by first | decide | simp) (by first | decide | simp) | fail "no")

local macro_rules | `(tactic| walk_at "rd") => `(tactic| first
  | with_reducible refine RB.chain ?_
  | with_reducible refine RB.m1 ?_
  | with_reducible refine RB.strE ?_
  | with_reducible refine RB.fld ?_
  | with_reducible refine RB.setF ?_
  | with_reducible refine RB.ss ?_
  | with_reducible refine RB.rev ?_
  | with_reducible refine RB.make ?_
  | with_reducible refine RB.makeS ?_
  | with_reducible refine RB.mkO ?_
  | with_reducible refine NR.ienumT ?_
  | with_reducible refine RB.inS ?_
  | with_reducible refine RB.bmS ?_
  | with_reducible refine RB.callS ?_
  | with_reducible refine RB.sw3 ?_
  | with_reducible refine RB.par3 ?_
  | with_reducible refine RB.par3V ?_
  | ((with_reducible refine' RB.slS ?rdH ?rdK); (case rdH => walk_at "sz"))
  | with_reducible refine RB.xf ?_
  | ((with_reducible refine' RB.xfV ?rdH ?rdE ?rdK); (case rdH => walk_at "hp"); (case rdE => rfl))
  | ((with_reducible refine' NR.ienumTV ?rdH ?rdK); (case rdH => walk_at "st"))
  | ((with_reducible refine' RB.lenL ?rdH ?rdK); (case rdH => walk_at "sq"))
  | ((with_reducible refine' RB.lenT ?rdH ?rdK); (case rdH => walk_at "st"))
  | ((with_reducible refine' RB.lenS ?rdH ?rdK); (case rdH => walk_at "sz"))
  | ((with_reducible refine' RD.lenS ?rdH ?rdK); (case rdH => walk_at "sz"))
  | ((with_reducible refine' RB.slT ?rdH ?rdK); (case rdH => walk_at "hp"); intro $(Lean.mkIdent `p'):ident $(Lean.mkIdent `H'):ident $(Lean.mkIdent `hs):ident $(Lean.mkIdent `hv):ident $(Lean.mkIdent `hp):ident; (try have $(Lean.mkIdent `hn):ident := two_ne $(Lean.mkIdent `hp):ident (by walk_at "na") (by walk_at "hk")))
  | ((with_reducible refine' RB.revV ?rdH ?rdK); (case rdH => walk_at "st"); intro $(Lean.mkIdent `p'):ident $(Lean.mkIdent `H'):ident $(Lean.mkIdent `hp):ident $(Lean.mkIdent `hs):ident $(Lean.mkIdent `hv):ident; (try have $(Lean.mkIdent `hn):ident := hand_ne $(Lean.mkIdent `hp):ident (by walk_at "hk")))
  | ((with_reducible refine' RB.listS ?rdH ?rdK); (case rdH => walk_at "sz"); intro $(Lean.mkIdent `p'):ident $(Lean.mkIdent `H'):ident $(Lean.mkIdent `hp):ident $(Lean.mkIdent `hs):ident $(Lean.mkIdent `hv):ident; (try have $(Lean.mkIdent `hn):ident := hand_ne $(Lean.mkIdent `hp):ident (by walk_at "hk")))
  | ((with_reducible refine' RB.listO ?rdH ?rdK); (case rdH => first | exact Or.inl (by walk_at "sq") | exact Or.inr (by walk_at "st")); intro $(Lean.mkIdent `p'):ident $(Lean.mkIdent `H'):ident $(Lean.mkIdent `hp):ident $(Lean.mkIdent `hs):ident $(Lean.mkIdent `hv):ident; (try have $(Lean.mkIdent `hn):ident := hand_ne $(Lean.mkIdent `hp):ident (by walk_at "hk")))
  | ((with_reducible refine' RB.tupL ?rdH ?rdK); (case rdH => walk_at "sq"); intro $(Lean.mkIdent `p'):ident $(Lean.mkIdent `H'):ident $(Lean.mkIdent `hp):ident $(Lean.mkIdent `hs):ident $(Lean.mkIdent `hv):ident; (try have $(Lean.mkIdent `hn):ident := hand_ne $(Lean.mkIdent `hp):ident (by walk_at "hk")))
  | ((with_reducible refine' RB.catT ?rdH ?rdE ?rdZ ?rdK); (case rdH => walk_at "hp"); (case rdE => walk_at "hp"); (case rdZ => exact RB.LN.sum (by walk_at "ln") (by walk_at "ln") rfl); intro $(Lean.mkIdent `p'):ident $(Lean.mkIdent `H'):ident $(Lean.mkIdent `hs):ident $(Lean.mkIdent `hv):ident $(Lean.mkIdent `hp):ident; (try have $(Lean.mkIdent `hn):ident := three_ne $(Lean.mkIdent `hp):ident (by walk_at "na") (by walk_at "na") (by walk_at "hk")))
  | fail "no")
local macro_rules | `(tactic| walk_at "ln") => `(tactic| first | with_reducible assumption | exact RB.LN.cut (by walk_at "ln") | exact RB.LN.app (by walk_at "ln") (by walk_at "ln") | exact RB.LN.rev (by walk_at "ln") | exact RB.LN.rep (by walk_at "ln") | exact RB.LN.lit rfl | fail "no")
local macro_rules | `(tactic| walk_at "sz") => `(tactic| first | assumption | exact RD.sz _ | fail "no")

theorem two_ne {H : Hp} {a b c p : Addr} (h : p = b ∨ H p = none) (hb : b ≠ a) (hh : HandOk H a c) : p ≠ a := by
  rcases h with rfl | h
  · exact hb
  · exact hand_ne h hh
theorem three_ne {H : Hp} {a b1 b2 c p : Addr} (h : p = b1 ∨ p = b2 ∨ H p = none) (h1 : b1 ≠ a) (h2 : b2 ≠ a) (hh : HandOk H a c) : p ≠ a := by
  rcases h with rfl | rfl | h
  · exact h1
  · exact h2
  · exact hand_ne h hh

/-! ### odd things -/
def spNested : Sp := fun vs H Q _ => ∃ a c : Addr, vs = [.ref a] ∧ HandOk H a c ∧ ∀ v H', RD.KB a H H' → HandOk H' a c → SPD.Dq a H' 26 v → Q v H'
def spOdd : Sp := fun vs H Q _ => ∃ a c : Addr, vs = [.ref a] ∧ HandOk H a c ∧ ∀ v H', RD.KB a H H' → HandOk H' a c → SPD.Dq a H' 26 v → Q v H'
theorem spAny.dq {K : PySem.W.Frag} {a c p : Addr} {zs : List V} {n : Nat} {H : Hp} {Q : VK} {E : XK} (h : HandOk H a c) (hp : H p = some (.lst zs)) (ne : p ≠ a) (hz : SPD.DqA a H n zs) (h0 : Nat.ble 1 zs.length = true) (h1 : Nat.ble zs.length 1000 = true)
    (q : ∀ v H', RD.KB a H H' → HandOk H' a c → SPD.Dq a H' n v → Q v H') : spAny K ([.ref a, .ref p] ++ []) H Q E :=
  spAny.mk h (.lst ne (.inl (.inl hp))) (Nat.le_of_ble_eq_true h0) (Nat.lt_of_le_of_lt (Nat.le_of_ble_eq_true h1) (by decide)) fun v H' hm k hh => q v H' k hh ((hz.mem v hm).kb k)
section
variable {P : Program} {w : World} {K : PySem.W.Frag} {mg : Str → Option Value} {base : Heap}
theorem ok_nested (T : Txt P K mg) : FnOk P w K mg base CX0 3 T.a_nested T.fd_nested ["_law_hand_here"] spNested := by
  have nd := sc_nested.nd
  have G_any : FnOk P w K mg base CX0 2 T.a_any T.fd_any ["_law_hand_here", "_law_items"] (spAny K) := ok_any T
  refine T.F_nested.ok sc_nested (fun vs H Q E h => ?_) (fun cdv A outer s H vs Q E hr h => ?_)
  · obtain ⟨a, c, rfl, _⟩ := h
    rfl
  · obtain ⟨a, c, rfl, hh, q⟩ := h
    refine ⟨_, (pss_cons (ps_set (i := 1) nd rfl (by first | exact Or.inl rfl | exact Or.inr rfl) (pe_call G_any hr (by rfl) T.g_any T.F_any.kp T.b_any .nil pass0 (pa_cons (pv 0) (pa_cons (pe_lst (pa_cons (pe_tup pa_nil) (pa_cons pe_int (pa_cons pe_str (pa_cons pe_non pa_nil))))) pa_nil))))
  (pss_cons (ps_for PassesOwn.never rfl (pi_range1 (by rfl) T.m_range (pa_cons pe_int pa_nil)) (pg_name (i := 2) nd rfl (by first | exact Or.inl rfl | exact Or.inr rfl))
    (pss_one (ps_set (i := 1) nd rfl (by first | exact Or.inl rfl | exact Or.inr rfl) (pe_ifExp (pt_cmpR op_eq (pe_op op_mod (pe_callTy call_int1 (by rfl) T.m_int (by decide +kernel) (pa_cons (pv 2) pa_nil)) pe_int) pe_int (nomark _)) (pe_lst (pa_cons (pv 1) pa_nil)) (pe_tup (pa_cons (pv 1) pa_nil))))))
  (pss_one (ps_ret (pv 1))))), ?_⟩
    walk_at "rds"
    refine spAny.dq (E := E0) (n := 1) (by walk_at "hk") (by walk_at "hp") (by walk_at "na") (by walk_at "dqa") rfl rfl fun v H1 hk1 hh1 hd => ?_
    walk_at "rds"
    refine RD.forW (walk_range (lo := 0) (n := Int.toNat 24)) (fun i σ H' => ∃ v x2, σ = [some (.ref a), some v, x2] ∧ RD.KB a H H' ∧ HandOk H' a c ∧ SPD.Dq a H' (i + 1) v) ⟨v, none, rfl, by walk_at "kb", hh1, hd⟩ (fun _ _ _ _ _ => trivial) (fun i x σ H2 H3 hi hp hy => ?_) (fun σ H2 hp => ?_)
    · obtain ⟨v2, x2, rfl, hk2, hh2, hd2⟩ := hp
      obtain ⟨rfl, rfl⟩ := hy
      walk_at "rds"
      refine RD.ite_d (fun _ => ?_) (fun _ => ?_)
      · walk_at "rds"
        exact ⟨_, _, rfl, by walk_at "kb", by walk_at "hk", SPD.dqLst (by walk_at "hp") (by walk_at "na") (.cons (by walk_at "dq") .nil)⟩
      · walk_at "rds"
        exact ⟨_, _, rfl, by walk_at "kb", by walk_at "hk", SPD.dqTup (by walk_at "hp") (by walk_at "na") (.cons (by walk_at "dq") .nil)⟩
    · obtain ⟨v2, x2, rfl, hk2, hh2, hd2⟩ := hp
      walk_at "rds"
      exact q _ _ hk2 hh2 (hd2.mono _ (by decide))
theorem ok_odd (T : Txt P K mg) : FnOk P w K mg base CX0 4 T.a_odd T.fd_odd ["_law_hand_here"] spOdd := by
  have nd := sc_odd.nd
  have G_any : FnOk P w K mg base CX0 3 T.a_any T.fd_any ["_law_hand_here", "_law_items"] (spAny K) := (ok_any T).mono (by decide)
  have G_nested : FnOk P w K mg base CX0 3 T.a_nested T.fd_nested ["_law_hand_here"] spNested := ok_nested T
  refine T.F_odd.ok sc_odd (fun vs H Q E h => ?_) (fun cdv A outer s H vs Q E hr h => ?_)
  · obtain ⟨a, c, rfl, _⟩ := h
    rfl
  · obtain ⟨a, c, rfl, hh, q⟩ := h
    refine ⟨_, (pss_cons (ps_set (i := 1) nd rfl (by first | exact Or.inl rfl | exact Or.inr rfl) (pe_lst (pa_cons pe_non (pa_cons pe_bl (pa_cons pe_bl (pa_cons (pe_un un_neg pe_int) (pa_cons pe_int (pa_cons pe_int (pa_cons pe_str (pa_cons pe_str (pa_cons pe_str (pa_cons pe_str (pa_cons pe_str (pa_cons pe_str (pa_cons (pe_tup pa_nil) (pa_cons (pe_tup (pa_cons pe_str pa_nil)) (pa_cons (pe_lst pa_nil) (pa_cons (pe_lst (pa_cons pe_str pa_nil)) (pa_cons pe_dnewK (pa_cons (pe_disp (pps_cons pe_str pe_int pps_nil) (by rfl) (by rfl) (fun z => by cases z) (by decide)) (pa_cons (pe_op op_pow pe_int pe_int) pa_nil)))))))))))))))))))))
  (pss_cons (ps_set (i := 1) nd rfl (by first | exact Or.inl rfl | exact Or.inr rfl) (pe_op op_cat (pv 1) (pe_lst (pa_cons (pe_un un_neg (pe_op op_pow pe_int pe_int)) (pa_cons (pe_tup (pa_cons pe_int (pa_cons pe_int pa_nil))) (pa_cons (pe_tup (pa_cons pe_bl (pa_cons pe_int pa_nil))) (pa_cons (pe_lst (pa_cons pe_int (pa_cons pe_int pa_nil))) (pa_cons (pe_tup (pa_cons pe_int pa_nil)) (pa_cons (pe_tup (pa_cons pe_int (pa_cons pe_str pa_nil))) (pa_cons pe_str (pa_cons pe_str (pa_cons pe_int pa_nil))))))))))))
  (pss_one (ps_ret (pe_call G_any hr (by rfl) T.g_any T.F_any.kp T.b_any .nil pass0 (pa_cons (pv 0) (pa_cons (pe_op op_cat (pv 1) (pe_lst (pa_cons (pe_call G_nested hr (by rfl) T.g_nested T.F_nested.kp T.b_nested .nil pass0 (pa_cons (pv 0) pa_nil)) pa_nil))) pa_nil))))))), ?_⟩
    walk_at "rds"
    refine ⟨a, c, rfl, by walk_at "hk", fun v1 H1 hk1 hh1 hd1 => ?_⟩
    walk_at "rds"
    refine spAny.dq (E := E0) (n := 26) (by walk_at "hk") (by walk_at "hp") (by walk_at "na") (by walk_at "dqa") rfl rfl fun v H2 hk2 hh2 hd => ?_
    exact q _ _ (by walk_at "kb") hh2 hd
end

/-! ### pieces, books -/
def lets : List Nat := ("abcdefgh" : Str).cps.toList
def logB (z : Str) : Bool := z.cps.toList.all fun c => decide (c ∈ lets)
def pieceB (z : Str) : Bool := logB z && (decide (1 ≤ z.cps.size) && decide (z.cps.size ≤ 8))
def logV : V → Bool
  | .str z => logB z
  | _ => false
def pieceV : V → Bool
  | .str z => pieceB z
  | _ => false
/-- the first place that is no piece, or one again -/
def dueL (acc : List Str) : List V → V
  | [] => .non
  | .str z :: r => if (pieceB z && !(acc.contains z)) = true then dueL (acc ++ [z]) r else .int (acc.length : Nat)
  | _ :: _ => .int (acc.length : Nat)
inductive DueR (K : PySem.W.Frag) (H : Hp) : V → V → Prop where
  | kind {v : V} {k : SPD.Kd} : SPD.KdOf K H v k → k ≠ .tup → DueR K H v (.str "pieces")
  | len {t : Addr} {xs : List V} : H t = some (.tup xs) → ¬ (1 ≤ xs.length ∧ xs.length ≤ 12) → DueR K H (.ref t) (.str "pieces")
  | due {t : Addr} {xs : List V} : H t = some (.tup xs) → 1 ≤ xs.length → xs.length ≤ 12 → DueR K H (.ref t) (dueL [] xs)
theorem DueR.same {K : PySem.W.Frag} {H H' : Hp} {v r : V} (s : Same H H') (h : DueR K H v r) : DueR K H' v r := by
  cases h with
  | kind a b => exact .kind (a.same s) b
  | len a b => exact .len (s _ _ a) b
  | due a b c => exact .due (s _ _ a) b c
def spLog : Sp := fun vs H Q _ => ∃ (x : Addr) (n : Nat) (v : V), vs = [v] ∧ SPD.Dq x H n v ∧ ∀ H', Same H H' → Q (.bl (logV v)) H'
def spPiece : Sp := fun vs H Q _ => ∃ (x : Addr) (n : Nat) (v : V), vs = [v] ∧ SPD.Dq x H n v ∧ ∀ H', Same H H' → Q (.bl (pieceV v)) H'
theorem str_small {x : Addr} {H : Hp} {n : Nat} {z : Str} (h : SPD.Dq x H n (.str z)) : z.cps.size ≤ 100000 := by
  cases h with
  | leaf e => exact Nat.le_of_ble_eq_true e
theorem small_len {z : Str} (h : z.cps.size ≤ 100000) : z.length ≤ sizeLine := by
  rw [sizeLine_eq]
  show z.cps.size ≤ 16777216
  omega
theorem log_list {z : Str} : (List.range z.cps.size).filterMap (fun i => (z.cps.toList[i]?).map fun c => V.bl (decide (c ∈ lets))) = (z.cps.toList.map fun c => decide (c ∈ lets)).map V.bl := by
  have e : z.cps.size = z.cps.toList.length := (Array.length_toList).symm
  rw [e, RD.range_get (fun c => V.bl (decide (c ∈ lets))) z.cps.toList, List.map_map]
  rfl
theorem log_all {z : Str} : (z.cps.toList.map fun c => decide (c ∈ lets)).all id = logB z := by
  rw [List.all_map]
  rfl
section
variable {P : Program} {w : World} {K : PySem.W.Frag} {mg : Str → Option Value} {base : Heap}
theorem ok_q_is_log (T : Txt P K mg) : FnOk P w K mg base CX0 1 T.a_q_is_log T.fd_q_is_log ["thing"] spLog := by
  have nd := sc_q_is_log.nd
  refine T.F_q_is_log.ok sc_q_is_log (fun vs H Q E h => ?_) (fun cdv A outer s H vs Q E hr h => ?_)
  · obtain ⟨x, n, v, rfl, _⟩ := h
    rfl
  · obtain ⟨x, n, v, rfl, hd, q⟩ := h
    obtain ⟨t_LETTERS, g_LETTERS⟩ := T.g_LETTERS
    refine ⟨_, (pss_one (ps_ret (pe_and (pe_callB call_isi (by rfl) T.m_isinstance (by decide +kernel) (pa_cons (pv 0) (pa_cons (pe_bltn (v := .ty "str") (by rfl) T.m_str (by decide +kernel) rfl) pa_nil))) (pe_one (pe_callB (cr_all rfl) (by rfl) T.m_all (by decide +kernel) (pa_cons (pe_lc (own := [("sign", 1)]) (g := (gName 1)) rfl nd (pi_str (pv 0)) (blkOk_by (own := [("sign", 1)]) (N := N_q_is_log) (sc := defScope s_q_is_log) (by decide +kernel)) (fun _ _ _ _ _ => (pg_name (i := 1) nd rfl (Or.inl rfl))) (fun _ _ _ _ _ => pts_nil) (fun _ _ _ _ _ => (pe_cmpR op_in_sign (pv 1) (pe_glob (v := .str "abcdefgh") (by rfl) g_LETTERS ⟨_, rfl⟩) (by first | rfl | exact nomark _)))) pa_nil)))))), ?_⟩
    obtain ⟨k, hk⟩ := hd.kd (K := K)
    walk_at "rds"
    refine RD.ite_d (fun e => ?_) (fun ne => ?_)
    · subst e
      cases hk with
      | str z =>
        have hz := str_small hd
        walk_at "rds"
        refine RD.lcF RB.w_str (by omega) (fun i => (z.cps.toList[i]?).map fun c => V.bl (decide (c ∈ lets))) (fun _ _ => trivial) (fun i x H' Z N hi hx s hZ hN => ?_) (fun D H' hD s hv => ?_)
        · rw [List.getElem?_map] at hx
          obtain ⟨c, hc, rfl⟩ := Option.map_eq_some_iff.mp hx
          walk_at "rds"
          refine ⟨rfl, ?_⟩
          walk_at "rds"
          exact hZ _ _ (by rw [hc]; rfl) (Same.refl _)
        · rw [log_list] at hv
          walk_at "rds"
          rw [log_all]
          exact q _ s
    · have e : logV v = false := by
        cases hk <;> first | rfl | exact absurd rfl ne
      rw [← e]
      exact q _ (Same.refl _)
end

theorem piece_of {z : Str} (h : logB z = true) (h1 : 1 ≤ (z.length : Int)) : pieceB z = decide ((z.length : Int) ≤ 8) := by
  have e : z.length = z.cps.size := rfl
  rw [e] at h1 ⊢
  unfold pieceB
  rw [h, decide_eq_true (show 1 ≤ z.cps.size by omega), Bool.true_and, Bool.true_and]
  exact decide_eq_decide.mpr (by omega)
theorem piece_short {z : Str} (h1 : ¬ 1 ≤ (z.length : Int)) : pieceB z = false := by
  have e : z.length = z.cps.size := rfl
  rw [e] at h1
  unfold pieceB
  rw [decide_eq_false (show ¬ 1 ≤ z.cps.size by omega), Bool.false_and, Bool.and_false]
theorem due_bad {acc : List Str} {y : V} {r : List V} (h : pieceV y = false) : dueL acc (y :: r) = .int (acc.length : Nat) := by
  cases y with
  | str z =>
    have h : pieceB z = false := h
    show (if (pieceB z && !(acc.contains z)) = true then _ else _) = _
    rw [h]
    rfl
  | _ => rfl
theorem due_twice {acc : List Str} {z : Str} {r : List V} (h : acc.contains z = true) : dueL acc (.str z :: r) = .int (acc.length : Nat) := by
  show (if (pieceB z && !(acc.contains z)) = true then _ else _) = _
  rw [h]
  simp
theorem due_good {acc : List Str} {z : Str} {r : List V} (h1 : pieceB z = true) (h : acc.contains z = false) : dueL acc (.str z :: r) = dueL (acc ++ [z]) r := by
  show (if (pieceB z && !(acc.contains z)) = true then _ else _) = _
  rw [h, h1]
  rfl
theorem inV_strs {z : Str} : ∀ acc : List Str, inV (.str z) (acc.map V.str) = acc.contains z
  | [] => rfl
  | a :: r => by
    have ih := inV_strs (z := z) r
    show (eqV (.str a) (.str z) || inV (.str z) (r.map V.str)) = _
    rw [ih, List.contains_cons]
    show ((a == z) || r.contains z) = ((z == a) || r.contains z)
    rw [show (a == z) = (z == a) from BEq.comm]
theorem flat_acc : ∀ acc : List Str, (acc.map V.str).all flatV = true
  | [] => rfl
  | _ :: r => flat_acc r
theorem cut_acc {acc : List Str} {rest : List V} {i : Nat} (hi : acc.length = i) (y : V) : cutV (acc.map V.str ++ y :: rest) none (some (i : Nat)) = acc.map V.str := by
  subst hi
  have hl : (acc.map V.str).length = acc.length := List.length_map ..
  unfold cutV
  rw [HT.sIx_none, show HT.sIx (acc.map V.str ++ y :: rest).length (acc.map V.str ++ y :: rest).length (some ((acc.length : Nat) : Int)) = min acc.length (acc.map V.str ++ y :: rest).length from HT.sIx_nat _ _ acc.length, List.drop_zero, Nat.sub_zero,
    Nat.min_eq_left (by rw [List.length_append, hl]; omega), ← hl]
  exact List.take_left ..
theorem rest_head {acc : List Str} {rest xs : List V} {i : Nat} {y : V} (e : xs = acc.map V.str ++ rest) (hi : acc.length = i) (hy : xs[i]? = some y) : ∃ r, rest = y :: r := by
  subst e hi
  rw [List.getElem?_append_right (by rw [List.length_map]; exact Nat.le_refl _), List.length_map, Nat.sub_self] at hy
  cases rest with
  | nil => cases hy
  | cons a r => exact ⟨r, by rw [Option.some.inj hy]⟩
def spBook (K : PySem.W.Frag) (C B : Addr) : Sp := fun vs H Q E => ∃ (x b dx : Addr) (n : Nat) (v : V), vs = [.ref b, v] ∧ H b = some (.ins C dx []) ∧ SPD.Dq x H n v ∧
  (∀ H', DueR K H v .non → RD.KB b H H' → H' b = some (.ins C dx [("pieces", v)]) → Q .non H') ∧
  (∀ r d H', DueR K H v r → r ≠ .non → H d = none → Same H H' → H' d = some (.xd [("part", r)]) → E (.ref B) (some d) H')
section
variable {P : Program} {w : World} {K : PySem.W.Frag} {mg : Str → Option Value} {base : Heap}
theorem ok_is_piece (T : Txt P K mg) : FnOk P w K mg base CX0 2 T.a_is_piece T.fd_is_piece ["thing"] spPiece := by
  have nd := sc_is_piece.nd
  have G_q_is_log : FnOk P w K mg base CX0 1 T.a_q_is_log T.fd_q_is_log ["thing"] spLog := ok_q_is_log T
  refine T.F_is_piece.ok sc_is_piece (fun vs H Q E h => ?_) (fun cdv A outer s H vs Q E hr h => ?_)
  · obtain ⟨x, n, v, rfl, _⟩ := h
    rfl
  · obtain ⟨x, n, v, rfl, hd, q⟩ := h
    obtain ⟨t_MOST_LONG, g_MOST_LONG⟩ := T.g_MOST_LONG
    refine ⟨_, (pss_one (ps_ret (pe_and (pe_call G_q_is_log hr (by rfl) T.g_q_is_log T.F_q_is_log.kp T.b_q_is_log .nil pass0 (pa_cons (pv 0) pa_nil)) (pe_one (pe_chain op_le op_le pe_int (pe_callB call_len_str (by rfl) T.m_len PySem.boot_len (pa_cons (pv 0) pa_nil)) (pe_glob (v := .int 8) (by rfl) g_MOST_LONG ⟨_, rfl⟩)))))), ?_⟩
    walk_at "rds"
    refine ⟨x, n, v, rfl, hd, fun H1 s1 => ?_⟩
    walk_at "rds"
    refine RD.ite_b (fun e => ?_) (fun e => ?_)
    · cases v with
      | str z =>
        have e : logB z = true := e
        have hz := small_len (str_small hd)
        walk_at "rds"
        refine RD.ite_d (fun h1 => ?_) (fun h1 => ?_)
        · walk_at "rds"
          rw [← piece_of e h1]
          exact q _ s1
        · have e2 : pieceV (.str z) = false := piece_short h1
          rw [e2] at q
          exact q _ s1
      | _ => cases e
    · have e2 : pieceV v = false := by
        cases v with
        | str z =>
          have e : logB z = false := e
          show pieceB z = false
          unfold pieceB
          rw [e]
          rfl
        | _ => rfl
      rw [e2] at q
      exact q _ s1
theorem ok_Book_init (T : Txt P K mg) : FnOk P w K mg base (L2.CX P w) 4 T.a_Book_init T.fd_Book_init ["self", "pieces"] (spBook K T.C_Book T.C_BadBook) := by
  have nd := sc_Book_init.nd
  have G_is_piece : FnOk P w K mg base CX0 2 T.a_is_piece T.fd_is_piece ["thing"] spPiece := ok_is_piece T
  have G_is_piece := G_is_piece.mono (show 2 ≤ 3 by decide)
  have G_BadBook_init : FnOk P w K mg base CX0 2 T.a_BadBook_init T.fd_BadBook_init _ (SPX.spSi T.C_BadBook _) := SPX.si_ok T.S_BadBook_init
  refine T.F_Book_init.okX sc_Book_init (fun vs H Q E h => ?_) (fun cdv A outer s H vs Q E hr h => ?_)
  · obtain ⟨x, b, dx, n, v, rfl, _⟩ := h
    rfl
  · obtain ⟨x, b, dx, n, v, rfl, hb, hd, q, qe⟩ := h
    obtain ⟨t_MOST_PIECES, g_MOST_PIECES⟩ := T.g_MOST_PIECES
    refine ⟨_, (pss_cons (ps_if (PW.pt (pw_or (pt_not (pt_val (pe_callB call_isi (by rfl) T.m_isinstance (by decide +kernel) (pa_cons (pv 1) (pa_cons (pe_bltn (v := .ty "tuple") (by rfl) T.m_tuple (by decide +kernel) rfl) pa_nil))))) (pw_or1 (pt_not (pt_chain op_le op_le pe_int (pe_callB call_len (by rfl) T.m_len PySem.boot_len (pa_cons (pv 1) pa_nil)) (pe_glob (v := .int 12) (by rfl) g_MOST_PIECES ⟨_, rfl⟩))))))
    (pss_one (ps_raise rfl (takes_of rfl rfl rfl rfl) (pmk_oex T.xc_BadBook T.ii_BadBook T.ti_BadBook G_BadBook_init hr T.b_BadBook_init .nil pass0 (by rfl) T.g_BadBook (pa_cons pe_str pa_nil))))
    pss_nil)
  (pss_cons (ps_for (passes_of rfl) rfl (NR.pi_enumT (by rfl) T.m_enumerate (pa_cons (pv 1) pa_nil)) (pg_tup rfl (pgs_cons (pg_name (i := 2) nd rfl (by first | exact Or.inl rfl | exact Or.inr rfl)) (pgs_cons (pg_name (i := 3) nd rfl (by first | exact Or.inl rfl | exact Or.inr rfl)) pgs_nil)))
    (pss_one (ps_if (PW.pt (pw_or (pt_not (pt_val (pe_call G_is_piece hr (by rfl) T.g_is_piece T.F_is_piece.kp T.b_is_piece .nil pass0 (pa_cons (pv 3) pa_nil)))) (pw_or1 (pt_cmpR op_in_seq (pv 3) (pe_slice sl_tupA (pv 1) po_none (po_some (pv 2))) (by first | rfl | exact nomark _)))))
    (pss_one (ps_raise rfl (takes_of rfl rfl rfl rfl) (pmk_oex T.xc_BadBook T.ii_BadBook T.ti_BadBook G_BadBook_init hr T.b_BadBook_init .nil pass0 (by rfl) T.g_BadBook (pa_cons (pv 2) pa_nil))))
    pss_nil)))
  (pss_one (ps_fld (pv 0) (pv 1) rfl)))), ?_⟩
    obtain ⟨k, hk⟩ := hd.kd (K := K)
    walk_at "rds"
    refine RD.ite_nd (fun ne => ?_) (fun e => ?_)
    · walk_at "rds"
      exact RB.mkOV fun d H' hd1 s1 hx => qe _ _ _ (.kind hk ne) (fun z => nomatch z) hd1 s1 hx
    · subst e
      cases hk with
      | @tup t xs ht =>
        have bad : ¬ (1 ≤ xs.length ∧ xs.length ≤ 12) → ∀ d H', H d = none → Same H H' → H' d = some (.xd [("part", .str "pieces")]) → E (.ref T.C_BadBook) (some d) H' := fun z d H' h1 h2 h3 => qe _ _ _ (.len ht z) (fun z => nomatch z) h1 h2 h3
        walk_at "rds"
        refine RD.ite_d (fun h1 => ?_) (fun h1 => ?_)
        · walk_at "rds"
          refine RD.ite_nd (fun h2 => ?_) (fun h2 => ?_)
          · walk_at "rds"
            exact RB.mkOV fun d H' hd1 s1 hx => bad (by omega) _ _ hd1 s1 hx
          · walk_at "rds"
            have hall : ∀ y, y ∈ xs → ∃ m, SPD.Dq x H m y := by
              cases hd with
              | leaf e => cases e
              | dct ne h0 _ _ =>
                rw [h0] at ht
                cases ht
              | tup ne h0 hl hall =>
                rw [h0] at ht
                cases ht
                exact fun y hy => ⟨_, hall y hy⟩
              | lst ne h0 hl hall =>
                rw [h0] at ht
                cases ht
            have told : ∀ r, dueL [] xs = r → DueR K H (.ref t) r := fun r e => e ▸ .due ht (by omega) (by omega)
            refine RD.forW (NR.w_enumT (xs := xs)) (fun i σ H' => ∃ acc rest x2 x3, σ = [some (.ref b), some (.ref t), x2, x3] ∧ xs = acc.map V.str ++ rest ∧ acc.length = i ∧ dueL [] xs = dueL acc rest ∧ Same H H')
              ⟨[], xs, _, _, rfl, rfl, rfl, rfl, Same.refl _⟩ (fun i σ H' _ ⟨acc, rest, x2, x3, _, _, _, _, s⟩ => by walk_at "st") (fun i y σ H2 H3 hi hp hy => ?_) (fun σ H2 hp => ?_)
            · obtain ⟨acc, rest, x2, x3, rfl, he, hl, hde, s2⟩ := hp
              obtain ⟨T1, x1, y1, rfl, hT, s3, hv3, hx1, hy1⟩ := hy
              obtain rfl : V.int (i : Nat) = x1 := Option.some.inj hx1
              have hy1 : xs[i]? = some y1 := hy1
              obtain ⟨r, rfl⟩ := rest_head he hl hy1
              obtain ⟨m, hdy⟩ := hall y1 (List.mem_of_getElem? hy1)
              have s23 := s2.trans s3
              have ht3 := s23 _ _ ht
              have hit : i < 9223372036854775807 := by omega
              clear hx1 hy1
              walk_at "rds"
              refine ⟨x, m, y1, rfl, hdy.same s23, fun H4 s4 => ?_⟩
              have s34 := s23.trans s4
              walk_at "rds"
              refine RD.ite_b (fun e => ?_) (fun e => ?_)
              · have e : pieceV y1 = false := by simpa using e
                walk_at "rds"
                exact RB.mkOV fun d H' hd1 s1 hx => qe (.int (i : Nat)) d H' (told _ (by rw [hde, due_bad e, hl])) (fun z => nomatch z) (s34.free hd1) (s34.trans s1) hx
              · have e : pieceV y1 = true := by simpa using e
                cases y1 with
                | str z =>
                  have e : pieceB z = true := e
                  walk_at "rds"
                  rw [he, cut_acc hl] at hv
                  refine RB.inT (.inr (by walk_at "st")) rfl (flat_acc acc) ?_
                  rw [inV_strs]
                  have s35 := s34.trans hs
                  walk_at "rds"
                  refine RD.ite_b (fun ec => ?_) (fun ec => ?_)
                  · walk_at "rds"
                    exact RB.mkOV fun d H' hd1 s1 hx => qe (.int (i : Nat)) d H' (told _ (by rw [hde, due_twice ec, hl])) (fun z => nomatch z) (s35.free hd1) (s35.trans s1) hx
                  · walk_at "rds"
                    exact ⟨acc ++ [z], r, _, _, rfl, by rw [he, List.map_append, List.append_assoc]; rfl, by rw [List.length_append, hl]; rfl, by rw [hde, due_good e ec], s35⟩
                | _ => cases e
            · obtain ⟨acc, rest, x2, x3, rfl, he, hl, hde, s2⟩ := hp
              have hr0 : rest = [] := by
                have z := congrArg List.length he
                rw [List.length_append, List.length_map] at z
                exact List.eq_nil_of_length_eq_zero (by omega)
              subst hr0
              have hb2 := s2 _ _ hb
              walk_at "rds"
              refine RB.setFV hb2 T.cl_Book T.no_Book_pieces (by decide) fun H' k' h' => ?_
              walk_at "rds"
              exact q _ (told _ hde) (fun c o n e => k' c o n (s2 c o e)) h'
        · walk_at "rds"
          exact RB.mkOV fun d H' hd1 s1 hx => bad (by omega) _ _ hd1 s1 hx
      | _ => exact absurd rfl (by assumption)
end

theorem joinL_nil : ∀ l : List (List Nat), TL.joinL [] l = l.flatten
  | [] => rfl
  | [p] => by simp [TL.joinL]
  | p :: q :: r => by
    have ih := joinL_nil (q :: r)
    show p ++ ([] ++ TL.joinL [] (q :: r)) = _
    rw [ih]
    simp
theorem join_cps (zs : List Str) : (Txt.join ("" : Str) zs).cps.toList = (zs.map fun z => z.cps.toList).flatten := by
  rw [TL.join_eq]
  have e := TL.tl_join ("" : Str) zs
  have e2 : TL.tl ("" : Str) = [] := rfl
  rw [e2, joinL_nil] at e
  exact e
theorem sum_le (k : Nat) : ∀ l : List Str, (∀ y, y ∈ l → y.length ≤ k) → (l.map (·.length)).sum ≤ k * l.length
  | [], _ => Nat.zero_le _
  | y :: r, h => by
    have ih := sum_le k r fun z hz => h z (List.mem_cons_of_mem _ hz)
    have h0 := h y List.mem_cons_self
    rw [List.map_cons, List.sum_cons, List.length_cons, Nat.mul_succ]
    omega
theorem join_size (zs : List Str) : (Txt.join ("" : Str) zs).cps.size = (zs.map (·.length)).sum := by
  rw [← Array.length_toList, join_cps, List.length_flatten, List.map_map]
  rfl
/-- pieces of a book -/
structure Good (zs : List Str) : Prop where
  some : 1 ≤ zs.length
  few : zs.length ≤ 12
  piece : ∀ z, z ∈ zs → pieceB z = true
  once : zs.Nodup
theorem piece_size {z : Str} (h : pieceB z = true) : 1 ≤ z.cps.size ∧ z.cps.size ≤ 8 := by
  unfold pieceB at h
  rw [Bool.and_eq_true, Bool.and_eq_true] at h
  exact ⟨of_decide_eq_true h.2.1, of_decide_eq_true h.2.2⟩
theorem Good.sum {zs : List Str} (g : Good zs) : (zs.map (·.length)).sum ≤ 96 := by
  have h := sum_le 8 zs fun y hy => (piece_size (g.piece y hy)).2
  have := g.few
  omega
theorem due_non : ∀ (xs : List V) (acc : List Str), dueL acc xs = .non → acc.Nodup → ∃ zs, xs = zs.map V.str ∧ (∀ z, z ∈ zs → pieceB z = true) ∧ (acc ++ zs).Nodup
  | [], acc, _, nd => ⟨[], rfl, fun _ h => (List.not_mem_nil h).elim, by rw [List.append_nil]; exact nd⟩
  | x :: r, acc, h, nd => by
    cases hx : pieceV x with
    | false =>
      rw [due_bad hx] at h
      cases h
    | true =>
      cases x with
      | str z =>
        have hx : pieceB z = true := hx
        cases hc : acc.contains z with
        | true =>
          rw [due_twice hc] at h
          cases h
        | false =>
          rw [due_good hx hc] at h
          have hz : z ∉ acc := fun m => by
            rw [List.contains_iff_mem.mpr m] at hc
            cases hc
          obtain ⟨zs, e, h1, h2⟩ := due_non r (acc ++ [z]) h (List.nodup_append.mpr ⟨nd, by simp, fun a ha b hb e => by
            rw [List.mem_singleton] at hb
            exact hz (by rw [← hb, ← e]; exact ha)⟩)
          refine ⟨z :: zs, by rw [e]; rfl, fun y hy => ?_, ?_⟩
          · rcases List.mem_cons.mp hy with e | hy
            · rw [e]; exact hx
            · exact h1 y hy
          · rw [List.append_assoc] at h2
            exact h2
      | _ => cases hx
theorem due_good_all : ∀ (zs acc : List Str), (∀ z, z ∈ zs → pieceB z = true) → (acc ++ zs).Nodup → dueL acc (zs.map V.str) = .non
  | [], _, _, _ => rfl
  | z :: r, acc, h, nd => by
    have hz : acc.contains z = false := by
      cases c : acc.contains z with
      | false => rfl
      | true => exact absurd rfl ((List.nodup_append.mp nd).2.2 z (List.contains_iff_mem.mp c) z List.mem_cons_self)
    show dueL acc (.str z :: r.map V.str) = .non
    rw [due_good (h z List.mem_cons_self) hz]
    exact due_good_all r (acc ++ [z]) (fun y hy => h y (List.mem_cons_of_mem _ hy)) (by rw [List.append_assoc]; exact nd)
theorem DueR.of {K : PySem.W.Frag} {H : Hp} {t : Addr} {zs : List Str} (ht : H t = some (.tup (zs.map V.str))) (g : Good zs) : DueR K H (.ref t) .non := by
  have h := DueR.due (K := K) ht (by rw [List.length_map]; exact g.some) (by rw [List.length_map]; exact g.few)
  rw [due_good_all zs [] g.piece (by rw [List.nil_append]; exact g.once)] at h
  exact h
theorem DueR.one {K : PySem.W.Frag} {H : Hp} {v r1 r2 : V} (h1 : DueR K H v r1) (h2 : DueR K H v r2) : r1 = r2 := by
  have tupK : ∀ {t : Addr} {xs : List V} {k : SPD.Kd}, H t = some (.tup xs) → SPD.KdOf K H (.ref t) k → k = .tup := fun ht hk => by
    cases hk with
    | dct h => rw [h] at ht; cases ht
    | lst h => rw [h] at ht; cases ht
    | tup h => rfl
  cases h1 with
  | kind a b =>
    cases h2 with
    | kind _ _ => rfl
    | len c _ => exact absurd (tupK c a) b
    | due c _ _ => exact absurd (tupK c a) b
  | len a b =>
    cases h2 with
    | kind _ _ => rfl
    | len _ _ => rfl
    | due c d e =>
      rw [c] at a
      cases a
      exact absurd ⟨d, e⟩ b
  | due a b c =>
    cases h2 with
    | kind d e => exact absurd (tupK a d) e
    | len d e =>
      rw [d] at a
      cases a
      exact absurd ⟨b, c⟩ e
    | due d e f =>
      rw [d] at a
      cases a
      rfl
/-- what is due is no list, no tuple -/
theorem due_kinds : ∀ (xs : List V) (acc : List Str), dueL acc xs = .non ∨ ∃ i : Nat, dueL acc xs = .int i
  | [], _ => .inl rfl
  | x :: r, acc => by
    cases x with
    | str z =>
      show (if (pieceB z && !(acc.contains z)) = true then dueL (acc ++ [z]) r else .int (acc.length : Nat)) = .non ∨ ∃ i : Nat, (if (pieceB z && !(acc.contains z)) = true then dueL (acc ++ [z]) r else .int (acc.length : Nat)) = .int i
      split
      · exact due_kinds r _
      · exact .inr ⟨_, rfl⟩
    | _ => exact .inr ⟨_, rfl⟩
theorem DueR.kinds {K : PySem.W.Frag} {H : Hp} {v r : V} (h : DueR K H v r) : r = .non ∨ r = .str "pieces" ∨ ∃ i : Nat, r = .int i := by
  cases h with
  | kind a b => exact .inr (.inl rfl)
  | len a b => exact .inr (.inl rfl)
  | due a b c => exact (due_kinds _ _).imp id .inr
/-- of None is due: the pieces -/
theorem DueR.good {K : PySem.W.Frag} {H : Hp} {v : V} (h : DueR K H v .non) : ∃ (t : Addr) (zs : List Str), v = .ref t ∧ H t = some (.tup (zs.map V.str)) ∧ Good zs := by
  generalize e : V.non = r at h
  cases h with
  | kind a b => cases e
  | len a b => cases e
  | due a b c =>
    obtain ⟨zs, rfl, h1, h2⟩ := due_non _ [] e.symm List.nodup_nil
    rw [List.length_map] at b c
    exact ⟨_, zs, rfl, a, b, c, h1, h2⟩
def spDue (K : PySem.W.Frag) : Sp := fun vs H Q _ => ∃ (x : Addr) (n : Nat) (v : V), vs = [v] ∧ SPD.Dq x H n v ∧ ∀ r H', DueR K H v r → Same H H' → Q r H'
/-- the signs of the pieces, each once, as one text -/
def spOwn : Sp := fun vs H Q _ => ∃ (t : Addr) (zs : List Str), vs = [.ref t] ∧ H t = some (.tup (zs.map V.str)) ∧ (zs.map (·.length)).sum ≤ 4000 ∧ ∀ ys H', SST.Own (Txt.join ("" : Str) zs) ys → Same H H' → Q (.str (Txt.join ("" : Str) ys)) H'
def BookAt (H : Hp) (C b t : Addr) : Prop := ∃ dx, H b = some (.ins C dx [("pieces", .ref t)])
theorem BookAt.same {H H' : Hp} {C b t : Addr} (s : Same H H') (h : BookAt H C b t) : BookAt H' C b t := h.imp fun _ h => s _ _ h
theorem own_small {x : Str} {ys : List Str} (h : SST.Own x ys) (hx : x.cps.size ≤ 4000) : (ys.map (·.length)).sum ≤ 4000 := by
  have h1 : ys.length ≤ 4000 := by
    rw [h.1.length_eq]
    exact Nat.le_trans (SST.mets_len _ _) hx
  have h2 := sum_le 1 ys fun y hy => by
    obtain ⟨j, _, rfl⟩ := (SST.mets_mem _ _ _).mp (h.1.mem_iff.mp hy)
    exact Nat.le_refl _
  omega
theorem same_of_kb {H H1 H2 : Hp} {b : Addr} (s : Same H H1) (hb : H b = none) (k : RD.KB b H1 H2) : Same H H2 := fun c o e => k c o (fun z => by subst z; rw [hb] at e; cases e) (s c o e)


end K02

namespace K02
open PySem PySem.Spec PyProof.Rows L2
local macro_rules | `(tactic| walk_at "kd") => `(tactic| first | assumption | exact SPD.KdOf.int _ | exact SPD.KdOf.str _ | exact SPD.KdOf.bl _ | exact SPD.KdOf.non | exact SPD.KdOf.same (by assumption) (by walk_at "kd") | exact SPD.KdOf.tup (by walk_at "hp") | exact SPD.KdOf.lst (by walk_at "hp") | fail "no")
local macro_rules | `(tactic| walk_at "ne") => `(tactic| first | assumption | exact Ne.symm (by assumption) | fail "no")
local macro_rules | `(tactic| walk_at "hp") => `(tactic| first | assumption | exact RD.at_same (by assumption) (by walk_at "hp") | exact RD.at_kb (by assumption) (by walk_at "ne") (by walk_at "hp") | fail "no")
local macro_rules | `(tactic| walk_at "sq") => `(tactic| first | assumption | exact Or.inl (Or.inl (by walk_at "hp")) | exact Same.seq (by assumption) (by walk_at "sq") | exact RD.KB.seq (by assumption) (by walk_at "ne") (by walk_at "sq") | fail "no")
local macro_rules | `(tactic| walk_at "st") => `(tactic| first | assumption | exact Or.inl (Or.inl (by walk_at "hp")) | exact RD.Same.tup (by assumption) (by walk_at "st") | exact RD.KB.tup (by assumption) (by walk_at "ne") (by walk_at "st") | fail "no")
local macro_rules | `(tactic| walk_at "rd") => `(tactic| first
  | with_reducible refine RD.c ?_
  | ((with_reducible refine' RD.var ?rdE ?rdK); (case rdE => exact rfl))
  | with_reducible refine RD.op ?_
  | with_reducible refine RD.un ?_
  | with_reducible refine RD.nil ?_
  | with_reducible refine RD.cons ?_
  | with_reducible refine RD.cb ?_
  | with_reducible refine RD.call ?_
  | with_reducible refine RD.test ?_
  | with_reducible refine RD.tb' ?_
  | with_reducible refine RD.bl ?_
  | with_reducible refine RD.and' ?_
  | with_reducible refine RD.or' ?_
  | with_reducible refine RD.not' ?_
  | with_reducible refine RD.andV ?_
  | with_reducible refine RD.orV ?_
  | with_reducible refine RD.notV ?_
  | with_reducible refine RD.ife ?_
  | with_reducible refine RD.sl ?_
  | with_reducible refine RD.part ?_
  | with_reducible refine RD.noPart ?_
  | with_reducible refine RD.partI ?_
  | with_reducible refine RD.rd0 ?_
  | with_reducible refine RD.rdU ?_
  | ((with_reducible refine' RD.rdEq ?rdE ?rdK); (case rdE => rfl))
  | ((with_reducible refine' RD.rdNe ?rdE ?rdK); (case rdE => rfl))
  | ((with_reducible refine' RD.ixL ?rdH ?rdE ?rdK); (case rdH => walk_at "sq"); (case rdE => first | rfl | assumption))
  | ((with_reducible refine' RD.rdI ?rdC ?rdK); (case rdC => first | assumption | (show (0 : Int) < _; first | decide | omega) | exact ⟨by decide, by decide⟩ | exact ⟨by assumption, by assumption⟩ | exact .inr ⟨by decide, by decide⟩ | exact .inl ⟨by decide, by decide⟩ | exact ⟨by decide, by decide, by decide⟩ | exact .inl ⟨by omega, by omega⟩))
  | ((with_reducible refine' RD.setL ?rdH ?rdE ?rdK); (case rdH => walk_at "hp"); (case rdE => rfl); intro $(Lean.mkIdent `H'):ident $(Lean.mkIdent `hk):ident $(Lean.mkIdent `hv):ident)
  | ((with_reducible refine' RD.irng1V ?rdA ?rdB ?rdK); (case rdA => first | decide | omega); (case rdB => first | decide | omega))
  | with_reducible refine RD.int1 ?_
  | with_reducible refine RD.abs1 ?_
  | ((with_reducible refine' RD.len ?rdH ?rdK); (case rdH => first | exact Or.inl (by walk_at "sq") | exact Or.inr (by walk_at "st")))
  | with_reducible refine RD.tup ?_
  | with_reducible refine RD.lst ?_
  | with_reducible refine RD.ite1 ?_
  | with_reducible refine RD.ite0 ?_
  | with_reducible refine RD.ite1n ?_
  | with_reducible refine RD.ite0n ?_
  | with_reducible refine RD.seq ?_
  | with_reducible refine RD.asg ?_
  | with_reducible refine RD.name ?_
  | with_reducible refine RD.ret ?_
  | with_reducible refine RD.drop ?_
  | with_reducible refine RD.next ?_
  | with_reducible refine RD.ifs ?_
  | with_reducible refine RD.par ?_
  | with_reducible refine RD.par2 ?_
  | with_reducible refine RD.sub ?_
  | with_reducible refine RD.gcons ?_
  | with_reducible refine RD.gnil ?_
  | with_reducible refine RD.bm ?_
  | ((with_reducible refine' RD.bmL ?rdH ?rdK); (case rdH => walk_at "sq"))
  | ((with_reducible refine' RD.newZ ?rdH ?rdK); (case rdH => exact RD.sz _); intro $(Lean.mkIdent `p'):ident $(Lean.mkIdent `H'):ident $(Lean.mkIdent `hp):ident $(Lean.mkIdent `hs):ident $(Lean.mkIdent `hv):ident; (try have $(Lean.mkIdent `hn):ident := hand_ne $(Lean.mkIdent `hp):ident (by walk_at "hk")))
  | with_reducible refine RD.fors ?_
  | with_reducible refine RD.lc ?_
  | with_reducible refine RD.yes ?_
  | with_reducible refine RD.ilist ?_
  | ((with_reducible refine' RD.ilistV ?rdH ?rdK); (case rdH => walk_at "sq"))
  | with_reducible refine RD.itup ?_
  | ((with_reducible refine' RD.itupV ?rdH ?rdK); (case rdH => walk_at "st"))
  | with_reducible refine RD.irng1 ?_
  | with_reducible refine RD.irng2 ?_
  | ((with_reducible refine' RD.irng2V ?rdA ?rdK); (case rdA => first | decide | omega))
  | with_reducible refine RD.ienum ?_
  | ((with_reducible refine' RD.ienumV ?rdH ?rdK); (case rdH => walk_at "sq"))
  | with_reducible refine RD.izip ?_
  | ((with_reducible refine' RD.izipV ?rdH ?rdE ?rdK); (case rdH => walk_at "sq"); (case rdE => walk_at "sq"))
  | with_reducible refine SPD.izipA ?_
  | with_reducible refine RD.istr ?_
  | with_reducible refine RD.istrV ?_
  | ((with_reducible refine' RD.slL ?rdH ?rdK); (case rdH => walk_at "sq"); intro $(Lean.mkIdent `p'):ident $(Lean.mkIdent `H'):ident $(Lean.mkIdent `hp):ident $(Lean.mkIdent `hs):ident $(Lean.mkIdent `hv):ident; (try have $(Lean.mkIdent `hn):ident := hand_ne $(Lean.mkIdent `hp):ident (by walk_at "hk")))
  | ((with_reducible refine' RD.cat ?rdH ?rdE ?rdZ ?rdK); (case rdH => walk_at "hp"); (case rdE => walk_at "hp"); (case rdZ => exact RD.sz _); intro $(Lean.mkIdent `p'):ident $(Lean.mkIdent `H'):ident $(Lean.mkIdent `hp):ident $(Lean.mkIdent `hs):ident $(Lean.mkIdent `hv):ident; (try have $(Lean.mkIdent `hn):ident := hand_ne $(Lean.mkIdent `hp):ident (by walk_at "hk")))
  | ((with_reducible refine' RD.gtup ?rdH ?rdE ?rdK); (case rdH => walk_at "st"); (case rdE => rfl))
  | ((with_reducible refine' RD.app ?rdH ?rdZ ?rdK); (case rdH => walk_at "hp"); (case rdZ => first | assumption | (apply RD.szl; omega)); intro $(Lean.mkIdent `H'):ident $(Lean.mkIdent `hk):ident $(Lean.mkIdent `hv):ident)
  | ((with_reducible refine' RD.all1 ?rdH ?rdK); (case rdH => walk_at "sq"))
  | ((with_reducible refine' RD.any1 ?rdH ?rdK); (case rdH => walk_at "sq"))
  | ((with_reducible refine' SPD.dnew ?rdK); intro $(Lean.mkIdent `p'):ident $(Lean.mkIdent `H'):ident $(Lean.mkIdent `hp):ident $(Lean.mkIdent `hs):ident $(Lean.mkIdent `hv):ident; (try have $(Lean.mkIdent `hn):ident := hand_ne $(Lean.mkIdent `hp):ident (by walk_at "hk")))
  | ((with_reducible refine' SPD.disp1 ?rdK); intro $(Lean.mkIdent `p'):ident $(Lean.mkIdent `H'):ident $(Lean.mkIdent `hp):ident $(Lean.mkIdent `hs):ident $(Lean.mkIdent `hv):ident; (try have $(Lean.mkIdent `hn):ident := hand_ne $(Lean.mkIdent `hp):ident (by walk_at "hk")))
  | ((with_reducible refine' SPD.isSeq ?rdH ?rdE ?rdK); (case rdH => walk_at "hp"); (case rdE => walk_at "kd"))
  | ((with_reducible refine' SPD.isTup ?rdE ?rdK); (case rdE => walk_at "kd"))
  | ((with_reducible refine' SPD.isLst ?rdE ?rdK); (case rdE => walk_at "kd"))
  | ((with_reducible refine' SPD.isBool ?rdE ?rdK); (case rdE => walk_at "kd"))
  | ((with_reducible refine' SPD.isStr ?rdE ?rdK); (case rdE => walk_at "kd"))
  | ((with_reducible refine' SPD.isInt ?rdE ?rdK); (case rdE => walk_at "kd"))
  | dsimp only)
local macro_rules | `(tactic| walk_at "rds") => `(tactic| repeat walk_at "rd")
local macro_rules | `(tactic| walk_at "sm") => `(tactic| first | assumption | exact Same.refl _ | exact RD.sm_tr (by assumption) (by walk_at "sm") | fail "no")
local macro_rules | `(tactic| walk_at "kb") => `(tactic| first | assumption | exact RD.KB.refl | exact RD.kb_tr (by assumption) (by walk_at "kb") | exact RD.kb_trs (by assumption) (by walk_at "kb") | fail "no")
local macro_rules | `(tactic| walk_at "fr") => `(tactic| first | assumption | exact RD.fr_of (by assumption) (by walk_at "sm") | fail "no")
local macro_rules | `(tactic| walk_at "hk") => `(tactic| first | assumption | exact hand_same (by assumption) (by walk_at "hk") | exact hand_kb (by assumption) (by walk_at "fr") (by walk_at "hk") | fail "no")
local macro_rules | `(tactic| walk_at "na") => `(tactic| first | assumption | exact hand_ne (by assumption) (by walk_at "hk") | fail "no")
local macro_rules | `(tactic| walk_at "dqa") => `(tactic| first | exact SPD.DqA.nil | exact SPD.DqA.cons (by walk_at "dq") (by walk_at "dqa") | exact SPD.DqA.app (by walk_at "dqa") (by walk_at "dqa") | fail "no")
local macro_rules | `(tactic| walk_at "dq") => `(tactic| first | assumption | exact SPD.Dq.leaf rfl | exact SPD.dq_kb (by assumption) (by walk_at "kb") | exact SPD.dqTup (by walk_at "hp") (by walk_at "na") (by walk_at "dqa") | exact SPD.dqLst (by walk_at "hp") (by walk_at "na") (by walk_at "dqa") | exact SPD.dqNil (by walk_at "hp") (by walk_at "na") (by first | decide | simp) (by first | decide | simp) | fail "no")

local macro_rules | `(tactic| walk_at "rd") => `(tactic| first
  | with_reducible refine RB.chain ?_
  | with_reducible refine RB.m1 ?_
  | with_reducible refine RB.strE ?_
  | with_reducible refine RB.fld ?_
  | with_reducible refine RB.setF ?_
  | with_reducible refine RB.ss ?_
  | with_reducible refine RB.rev ?_
  | with_reducible refine RB.make ?_
  | with_reducible refine RB.makeS ?_
  | with_reducible refine RB.mkO ?_
  | with_reducible refine NR.ienumT ?_
  | with_reducible refine RB.inS ?_
  | with_reducible refine RB.bmS ?_
  | with_reducible refine RB.callS ?_
  | with_reducible refine RB.sw3 ?_
  | with_reducible refine RB.par3 ?_
  | with_reducible refine RB.par3V ?_
  | ((with_reducible refine' RB.slS ?rdH ?rdK); (case rdH => walk_at "sz"))
  | with_reducible refine RB.xf ?_
  | ((with_reducible refine' RB.xfV ?rdH ?rdE ?rdK); (case rdH => walk_at "hp"); (case rdE => rfl))
  | ((with_reducible refine' NR.ienumTV ?rdH ?rdK); (case rdH => walk_at "st"))
  | ((with_reducible refine' RB.lenL ?rdH ?rdK); (case rdH => walk_at "sq"))
  | ((with_reducible refine' RB.lenT ?rdH ?rdK); (case rdH => walk_at "st"))
  | ((with_reducible refine' RB.lenS ?rdH ?rdK); (case rdH => walk_at "sz"))
  | ((with_reducible refine' RD.lenS ?rdH ?rdK); (case rdH => walk_at "sz"))
  | ((with_reducible refine' RB.slT ?rdH ?rdK); (case rdH => walk_at "hp"); intro $(Lean.mkIdent `p'):ident $(Lean.mkIdent `H'):ident $(Lean.mkIdent `hs):ident $(Lean.mkIdent `hv):ident $(Lean.mkIdent `hp):ident; (try have $(Lean.mkIdent `hn):ident := two_ne $(Lean.mkIdent `hp):ident (by walk_at "na") (by walk_at "hk")))
  | ((with_reducible refine' RB.revV ?rdH ?rdK); (case rdH => walk_at "st"); intro $(Lean.mkIdent `p'):ident $(Lean.mkIdent `H'):ident $(Lean.mkIdent `hp):ident $(Lean.mkIdent `hs):ident $(Lean.mkIdent `hv):ident; (try have $(Lean.mkIdent `hn):ident := hand_ne $(Lean.mkIdent `hp):ident (by walk_at "hk")))
  | ((with_reducible refine' RB.listS ?rdH ?rdK); (case rdH => walk_at "sz"); intro $(Lean.mkIdent `p'):ident $(Lean.mkIdent `H'):ident $(Lean.mkIdent `hp):ident $(Lean.mkIdent `hs):ident $(Lean.mkIdent `hv):ident; (try have $(Lean.mkIdent `hn):ident := hand_ne $(Lean.mkIdent `hp):ident (by walk_at "hk")))
  | ((with_reducible refine' RB.listO ?rdH ?rdK); (case rdH => first | exact Or.inl (by walk_at "sq") | exact Or.inr (by walk_at "st")); intro $(Lean.mkIdent `p'):ident $(Lean.mkIdent `H'):ident $(Lean.mkIdent `hp):ident $(Lean.mkIdent `hs):ident $(Lean.mkIdent `hv):ident; (try have $(Lean.mkIdent `hn):ident := hand_ne $(Lean.mkIdent `hp):ident (by walk_at "hk")))
  | ((with_reducible refine' RB.tupL ?rdH ?rdK); (case rdH => walk_at "sq"); intro $(Lean.mkIdent `p'):ident $(Lean.mkIdent `H'):ident $(Lean.mkIdent `hp):ident $(Lean.mkIdent `hs):ident $(Lean.mkIdent `hv):ident; (try have $(Lean.mkIdent `hn):ident := hand_ne $(Lean.mkIdent `hp):ident (by walk_at "hk")))
  | ((with_reducible refine' RB.catT ?rdH ?rdE ?rdZ ?rdK); (case rdH => walk_at "hp"); (case rdE => walk_at "hp"); (case rdZ => exact RB.LN.sum (by walk_at "ln") (by walk_at "ln") rfl); intro $(Lean.mkIdent `p'):ident $(Lean.mkIdent `H'):ident $(Lean.mkIdent `hs):ident $(Lean.mkIdent `hv):ident $(Lean.mkIdent `hp):ident; (try have $(Lean.mkIdent `hn):ident := three_ne $(Lean.mkIdent `hp):ident (by walk_at "na") (by walk_at "na") (by walk_at "hk")))
  | fail "no")
local macro_rules | `(tactic| walk_at "ln") => `(tactic| first | with_reducible assumption | exact RB.LN.cut (by walk_at "ln") | exact RB.LN.app (by walk_at "ln") (by walk_at "ln") | exact RB.LN.rev (by walk_at "ln") | exact RB.LN.rep (by walk_at "ln") | exact RB.LN.lit rfl | fail "no")
local macro_rules | `(tactic| walk_at "sz") => `(tactic| first | assumption | exact RD.sz _ | fail "no")

/-! ### drawn pieces -/
theorem spAny.lst {K : PySem.W.Frag} {a c p : Addr} {zs : List V} {H : Hp} {Q : VK} {E : XK} (h : HandOk H a c) (hp : H p = some (.lst zs)) (ne : p ≠ a) (h0 : Nat.ble 1 zs.length = true) (h1 : Nat.ble zs.length 1000 = true)
    (q : ∀ v H', v ∈ zs → RD.KB a H H' → HandOk H' a c → Q v H') : spAny K ([.ref a, .ref p] ++ []) H Q E :=
  spAny.mk h (.lst ne (.inl (.inl hp))) (Nat.le_of_ble_eq_true h0) (Nat.lt_of_le_of_lt (Nat.le_of_ble_eq_true h1) (by decide)) q
theorem spAny.sign {K : PySem.W.Frag} {a c0 : Addr} {z : Str} {H : Hp} {Q : VK} {E : XK} (h : HandOk H a c0) (hz : pieceB z = true)
    (q : ∀ c H', c ∈ lets → RD.KB a H H' → HandOk H' a c0 → Q (.str ⟨#[c]⟩) H') : spAny K ([.ref a, .str z] ++ []) H Q E := by
  obtain ⟨s1, s2⟩ := piece_size hz
  have hl : (z.cps.toList.map fun c => V.str ⟨#[c]⟩).length = z.cps.size := by rw [List.length_map, Array.length_toList]
  refine spAny.mk h (.str (small_len (by omega))) (by rw [hl]; omega) (by rw [hl]; omega) fun v H' hv k hh => ?_
  obtain ⟨c, hc, rfl⟩ := List.mem_map.mp hv
  refine q c H' ?_ k hh
  unfold pieceB logB at hz
  rw [Bool.and_eq_true] at hz
  exact of_decide_eq_true (List.all_eq_true.mp hz.1 c hc)
/-- a text of one letter -/
def sgn (s : Str) : Bool := decide (s.cps.size = 1) && logB s
theorem sgn_one {c : Nat} (h : c ∈ lets) : sgn ⟨#[c]⟩ = true := by
  show (decide (1 = 1) && ([c].all fun c => decide (c ∈ lets))) = true
  simp [h]
theorem join_piece {ss : List Str} (h : ∀ s, s ∈ ss → sgn s = true) (h1 : 1 ≤ ss.length) (h8 : ss.length ≤ 8) : pieceB (Txt.join ("" : Str) ss) = true := by
  have hs : ∀ l : List Str, (∀ s, s ∈ l → sgn s = true) → (l.map (·.length)).sum = l.length := by
    intro l
    induction l with
    | nil => exact fun _ => rfl
    | cons y r ih =>
      intro h
      have e := h y List.mem_cons_self
      unfold sgn at e
      rw [Bool.and_eq_true] at e
      have e1 : y.length = 1 := of_decide_eq_true e.1
      rw [List.map_cons, List.sum_cons, ih fun s hs => h s (List.mem_cons_of_mem _ hs), e1, List.length_cons, Nat.add_comm]
  have hz : (Txt.join ("" : Str) ss).cps.size = ss.length := by rw [join_size, hs ss h]
  unfold pieceB
  rw [Bool.and_eq_true, Bool.and_eq_true, hz]
  refine ⟨?_, decide_eq_true h1, decide_eq_true h8⟩
  unfold logB
  rw [join_cps, List.all_eq_true]
  intro c hc
  obtain ⟨l, hl, hcl⟩ := List.mem_flatten.mp hc
  obtain ⟨s, hs, rfl⟩ := List.mem_map.mp hl
  have e := h s hs
  unfold sgn logB at e
  rw [Bool.and_eq_true] at e
  exact List.all_eq_true.mp e.2 c hcl
theorem cut_piece {z : Str} (h : pieceB z = true) : pieceB (cutS z none (some 2)) = true := by
  obtain ⟨h1, h8⟩ := piece_size h
  have e : (cutS z none (some 2)).cps.toList = z.cps.toList.take (min 2 z.length) := by
    unfold cutS
    rw [HT.sIx_none, show HT.sIx z.length z.length (some 2) = min 2 z.length from HT.sIx_nat _ _ 2, List.drop_zero, Nat.sub_zero]
  have hl : z.cps.toList.length = z.cps.size := Array.length_toList
  have hz : z.length = z.cps.size := rfl
  have sz : (cutS z none (some 2)).cps.size = min 2 z.cps.size := by
    rw [← Array.length_toList, e, List.length_take, hl, hz]
    omega
  unfold pieceB at h ⊢
  rw [Bool.and_eq_true] at h
  rw [Bool.and_eq_true, Bool.and_eq_true, sz]
  refine ⟨?_, decide_eq_true (by omega), decide_eq_true (by omega)⟩
  have hl := h.1
  unfold logB at hl ⊢
  rw [e, List.all_eq_true]
  exact fun c hc => List.all_eq_true.mp hl c (List.mem_of_mem_take hc)
def spPieces : Sp := fun vs H Q _ => ∃ a c : Addr, vs = [.ref a] ∧ HandOk H a c ∧ ∀ (t : Addr) (zs : List Str) H', RD.KB a H H' → HandOk H' a c → H' t = some (.tup (zs.map V.str)) → t ≠ a → Good zs → Q (.ref t) H'
theorem own_menu {v : V} (h : v ∈ [V.str "ab", .str "abc", .str "ab", .str "ba", .str "hc", .str "a", .str "bdf", .str "ab"]) : ∃ z, v = .str z ∧ pieceB z = true := by
  have all : ∀ v, v ∈ [V.str "ab", .str "abc", .str "ab", .str "ba", .str "hc", .str "a", .str "bdf", .str "ab"] → pieceV v = true := by decide +kernel
  have e := all v h
  cases v with
  | str z => exact ⟨z, rfl, e⟩
  | _ => cases e
theorem size_menu {v : V} (h : v ∈ [V.int 3, .int 2, .int 4, .int 3]) : ∃ m : Int, v = .int m ∧ 1 ≤ m ∧ m ≤ 8 := by
  simp only [List.mem_cons, List.not_mem_nil, or_false] at h
  rcases h with rfl | rfl | rfl | rfl <;> exact ⟨_, rfl, by decide, by decide⟩
section
variable {P : Program} {w : World} {K : PySem.W.Frag} {mg : Str → Option Value} {base : Heap}
theorem ok_pieces (T : Txt P K mg) : FnOk P w K mg base CX0 3 T.a_pieces T.fd_pieces ["_law_hand_here"] spPieces := by
  have nd := sc_pieces.nd
  have G_any : FnOk P w K mg base CX0 2 T.a_any T.fd_any ["_law_hand_here", "_law_items"] (spAny K) := ok_any T
  have G_draw : FnOk P w K mg base CX0 2 T.a_draw T.fd_draw ["_law_hand_here", "_law_many"] spDraw := (ok_draw T).mono (by decide)
  refine T.F_pieces.ok sc_pieces (fun vs H Q E h => ?_) (fun cdv A outer s H vs Q E hr h => ?_)
  · obtain ⟨a, c0, rfl, _⟩ := h
    rfl
  · obtain ⟨a, c0, rfl, hh, q⟩ := h
    refine ⟨_, (pss_cons (ps_set (i := 1) nd rfl (by first | exact Or.inl rfl | exact Or.inr rfl) (pe_call G_any hr (by rfl) T.g_any T.F_any.kp T.b_any .nil pass0 (pa_cons (pv 0) (pa_cons (pe_lst (pa_cons pe_str (pa_cons pe_str (pa_cons pe_str (pa_cons pe_str (pa_cons pe_str (pa_cons pe_str (pa_cons pe_str (pa_cons pe_str pa_nil))))))))) pa_nil))))
  (pss_cons (ps_par3 (i := 2) (j := 3) (l := 4) rfl nd rfl rfl rfl (by decide) (by decide) (by decide) rfl rfl rfl (pa_cons (pe_op op_add pe_int (pe_call G_draw hr (by rfl) T.g_draw T.F_draw.kp T.b_draw .nil pass0 (pa_cons (pv 0) (pa_cons pe_int pa_nil)))) (pa_cons (pe_call G_any hr (by rfl) T.g_any T.F_any.kp T.b_any .nil pass0 (pa_cons (pv 0) (pa_cons (pe_lst (pa_cons pe_int (pa_cons pe_int (pa_cons pe_int (pa_cons pe_int pa_nil))))) pa_nil))) (pa_cons (pe_lst pa_nil) pa_nil))) (by rfl))
  (Evl.pss_cut (ps_if (pt_cmpR op_eq (pe_call G_draw hr (by rfl) T.g_draw T.F_draw.kp T.b_draw .nil pass0 (pa_cons (pv 0) (pa_cons pe_int pa_nil))) pe_int (nomark _))
    (pss_one (ps_asg (pe_tup (pa_cons pe_int (pa_cons pe_int pa_nil))) (pg_tup rfl (pgs_cons (pg_name (i := 2) nd rfl (by first | exact Or.inl rfl | exact Or.inr rfl)) (pgs_cons (pg_name (i := 3) nd rfl (by first | exact Or.inl rfl | exact Or.inr rfl)) pgs_nil)))))
    pss_nil)
  (pss_cons (ps_for PassesOwn.never rfl (pi_range1 (by rfl) T.m_range (pa_cons (pe_op op_mul pe_int (pv 2)) pa_nil)) (pg_name (i := 5) nd rfl (by first | exact Or.inl rfl | exact Or.inr rfl))
    (pss_cons (ps_set (i := 6) nd rfl (by first | exact Or.inl rfl | exact Or.inr rfl) (pe_join pe_str (pe_lc (own := [("_law_at", 7)]) (g := (gName 7)) rfl nd (pi_range1 (by rfl) T.m_range (pa_cons (pe_op op_add pe_int (pe_call G_draw hr (by rfl) T.g_draw T.F_draw.kp T.b_draw .nil pass0 (pa_cons (pv 0) (pa_cons (pv 3) pa_nil)))) pa_nil)) (blkOk_by (own := [("_law_at", 7)]) (N := N_pieces) (sc := defScope s_pieces) (by decide +kernel)) (fun _ _ _ _ _ => (pg_name (i := 7) nd rfl (Or.inl rfl))) (fun _ _ _ _ _ => pts_nil) (fun _ _ _ _ _ => (pe_call G_any hr (by rfl) T.g_any T.F_any.kp T.b_any .nil pass0 (pa_cons (pv 0) (pa_cons (pv 1) pa_nil)))))))
  (pss_one (ps_if (PW.pt (pw_and (pt_cmpR op_notIn_seq (pv 6) (pv 4) (by first | rfl | exact nomark _)) (pw_and (pt_cmpR op_lt (pe_callB call_len_seq (by rfl) T.m_len PySem.boot_len (pa_cons (pv 4) pa_nil)) (pv 2) (nomark _)) (pw_and1 (PW.pt (pw_or (pt_cmpR op_gt (pe_callB call_len_str (by rfl) T.m_len PySem.boot_len (pa_cons (pv 6) pa_nil)) pe_int (nomark _)) (pw_or1 (pt_cmpR op_eq (pe_call G_draw hr (by rfl) T.g_draw T.F_draw.kp T.b_draw .nil pass0 (pa_cons (pv 0) (pa_cons pe_int pa_nil))) pe_int (nomark _)))))))))
    (pss_one (ps_expr (pe_bm PySem.F.plainAttrs_list PySem.F.slot_list_append PySem.F.type_list_append mt_append (pv 4) (pa_cons (pv 6) pa_nil))))
    pss_nil))))
  (pss_one (ps_ret (pe_ifExp (pt_cmpR op_gt (pe_callB call_len_seq (by rfl) T.m_len PySem.boot_len (pa_cons (pv 4) pa_nil)) pe_int (nomark _)) (pe_callTy RB.call_tupO (by rfl) T.m_tuple (by decide +kernel) (pa_cons (pv 4) pa_nil)) (pe_tup (pa_cons (pe_slice sl_str (pv 1) po_none (po_some pe_int)) pa_nil))))))))), ?_⟩
    walk_at "rds"
    refine spAny.lst (E := E0) (by walk_at "hk") (by walk_at "hp") (by walk_at "na") rfl rfl fun v H1 hv1 k1 hh1 => ?_
    obtain ⟨z0, rfl, hz0⟩ := own_menu hv1
    walk_at "rds"
    refine spDraw.mk (E := E0) hh1 (by decide) (by decide) fun r H2 hr0 hr1 k2 hh2 => ?_
    walk_at "rds"
    refine spAny.lst (E := E0) (by walk_at "hk") (by walk_at "hp") (by walk_at "na") rfl rfl fun v H3 hv3 k3 hh3 => ?_
    obtain ⟨m0, rfl, hm1, hm8⟩ := size_menu hv3
    walk_at "rds"
    have k03 : RD.KB a H H' := by walk_at "kb"
    have hf0 : H' p' = some (.lst (([] : List Str).map V.str)) := hv
    have nf : p' ≠ a := hn
    have nfc : p' ≠ c0 := HandOk.ne2 hp (by walk_at "hk")
    have hHf : ∀ b o, b ≠ a → H b = some o → b ≠ p' := by
      have kk : RD.KB a H _ := k03
      intro b o n e z
      subst z
      have k00 : RD.KB a H H3 := by walk_at "kb"
      have z1 := k00 b o n e
      rw [hp] at z1
      cases z1
    generalize p' = f at hf0 nf nfc hHf
    refine ⟨fun σ' H2 => ∃ (m1 s1 : Int) (x5 x6 x7 : Option V), σ' = [some (.ref a), some (.str z0), some (.int m1), some (.int s1), some (.ref f), x5, x6, x7] ∧ 1 ≤ m1 ∧ m1 ≤ 12 ∧ 1 ≤ s1 ∧ s1 ≤ 8 ∧ RD.KB a H H2 ∧ HandOk H2 a c0 ∧ H2 f = some (.lst (([] : List Str).map V.str)), ?_, fun σ1 H5 hm => ?_⟩
    · walk_at "rds"
      refine spDraw.mk (E := E0) (by walk_at "hk") (by decide) (by decide) fun r2 H4 hr20 hr21 k4 hh4 => ?_
      have k04 : RD.KB a H H4 := by walk_at "kb"
      have hf4 := k4 _ _ nf hf0
      walk_at "rds"
      refine RD.ite_d (fun _ => ?_) (fun _ => ?_)
      · walk_at "rds"
        exact ⟨12, 8, _, _, _, rfl, by decide, by decide, by decide, by decide, by walk_at "kb", by walk_at "hk", by walk_at "hp"⟩
      · walk_at "rds"
        exact ⟨_, _, _, _, _, rfl, by omega, by omega, by omega, by omega, by walk_at "kb", by walk_at "hk", by walk_at "hp"⟩
    obtain ⟨m1, s1, x5, x6, x7, rfl, m11, m12, s11, s18, k5, hh5, hf5⟩ := hm
    clear hv hs hp hn k03 hf0
    walk_at "rds"
    refine RD.forW (walk_range (lo := 0) (n := Int.toNat (4 * m1))) (fun i σ H' => ∃ (acc : List Str) (x5 x6 x7 : Option V), σ = [some (.ref a), some (.str z0), some (.int m1), some (.int s1), some (.ref f), x5, x6, x7] ∧ RD.KB a H H' ∧ HandOk H' a c0 ∧ H' f = some (.lst (acc.map V.str)) ∧ (∀ z, z ∈ acc → pieceB z = true) ∧ acc.Nodup ∧ (acc.length : Int) ≤ m1)
      ⟨[], _, _, _, rfl, k5, hh5, hf5, fun z hz => (List.not_mem_nil hz).elim, List.nodup_nil, by show (0 : Int) ≤ m1; omega⟩ (fun _ _ _ _ _ => trivial) (fun i x σ H6 H7 hi hp hy => ?_) (fun σ H6 hp => ?_)
    · obtain ⟨acc, x5, x6, x7, rfl, k6, hh6, hf6, hall, hnd, hlen⟩ := hp
      obtain ⟨rfl, rfl⟩ := hy
      clear k5 hh5 hf5
      walk_at "rds"
      refine spDraw.mk (E := E0) (by walk_at "hk") (by omega) (by omega) fun r H8 hr0 hr1 k8 hh8 => ?_
      have hf8 := k8 _ _ nf hf6
      have k08 : RD.KB a H H8 := by walk_at "kb"
      clear hf6 k6 hh6 k8
      walk_at "rds"
      refine RD.lcW (walk_range (lo := 0) (n := Int.toNat (1 + r))) (by omega) fun D H9 hD s9 hv9 => ⟨fun i bs H' => ∃ ss : List Str, bs = ss.map V.str ∧ ss.length = i ∧ (∀ s, s ∈ ss → sgn s = true) ∧ RD.KB a H H' ∧ HandOk H' a c0 ∧ H' f = some (.lst (acc.map V.str)),
        ⟨[], rfl, rfl, fun z hz => (List.not_mem_nil hz).elim, by walk_at "kb", by walk_at "hk", by walk_at "hp"⟩, fun _ _ _ _ _ => trivial, fun i x bs H10 H11 Z N hi hp hDa hy hZ hN => ?_, fun bs H10 hp hDa => ?_⟩
      · obtain ⟨ss, rfl, hsl, hsa, k10, hh10, hf10⟩ := hp
        obtain ⟨rfl, rfl⟩ := hy
        have nD : D ≠ a := hand_ne hD hh8
        have nfD : f ≠ D := ne_of_none hf8 hD
        walk_at "rds"
        refine ⟨rfl, ?_⟩
        walk_at "rds"
        refine spAny.sign (E := E0) hh10 hz0 fun c H12 hc k12 hh12 => ?_
        refine hZ _ _ (k12 _ _ nD hDa) fun H13 k13 hv13 => ⟨ss ++ [⟨#[c]⟩], by rw [List.map_append]; rfl, by rw [List.length_append, hsl]; rfl, fun s hs => ?_, ?_, ?_, ?_⟩
        · rcases List.mem_append.mp hs with h | h
          · exact hsa s h
          · rw [List.mem_singleton.mp h]
            exact sgn_one hc
        · exact fun b o n e => k13 b o (fun z => by
            subst z
            have z1 := k08 b o n e
            rw [hD] at z1
            cases z1) (k12 b o n (k10 b o n e))
        · exact hh12.mut k13 nD (HandOk.ne2 hD hh8)
        · exact k13 _ _ nfD (k12 _ _ nf hf10)
      · obtain ⟨ss, rfl, hsl, hsa, k10, hh10, hf10⟩ := hp
        walk_at "rds"
        have hl1 : 1 ≤ ss.length := by omega
        have hl8 : ss.length ≤ 8 := by omega
        have hpc : pieceB (Txt.join ("" : Str) ss) = true := join_piece hsa hl1 hl8
        refine RB.joinV (.inl (by walk_at "sq")) (by have := (piece_size hpc).2; rw [join_size] at this; show _ + _ * 0 ≤ _; omega) ?_
        generalize Txt.join ("" : Str) ss = z at hpc
        have hz := small_len (show z.cps.size ≤ 100000 from Nat.le_trans (piece_size hpc).2 (by decide))
        have hlm : (acc.map V.str).length = acc.length := List.length_map ..
        have hsz : (acc.map V.str).length < sizeLine := RD.szl (by omega)
        have keep : ∀ {H1 H2 : Hp}, RD.KB a H H1 → RD.KB f H1 H2 → RD.KB a H H2 := fun k1 k2 b o n e => k2 b o (hHf b o n e) (k1 b o n e)
        clear hDa hh8 k08 hf8 hsa hsl
        walk_at "rds"
        refine RB.ninT (.inl (by walk_at "sq")) rfl (flat_acc acc) ?_
        rw [inV_strs]
        walk_at "rds"
        refine RD.ite_b (fun e => ?_) (fun e => ?_)
        · have e : acc.contains z = false := by simpa using e
          have hzn : z ∉ acc := fun m => by
            rw [List.contains_iff_mem.mpr m] at e
            cases e
          have fin : ∀ y, y ∈ acc ++ [z] → pieceB y = true := fun y hy => by
            rcases List.mem_append.mp hy with h | h
            · exact hall y h
            · rw [List.mem_singleton.mp h]
              exact hpc
          have once : (acc ++ [z]).Nodup := List.nodup_append.mpr ⟨hnd, by simp, fun x hx y hy e => by
            rw [List.mem_singleton] at hy
            exact hzn (by rw [← hy, ← e]; exact hx)⟩
          walk_at "rds"
          refine RD.ite_d (fun h2 => ?_) (fun _ => ?_)
          · have long : ((acc ++ [z]).length : Int) ≤ m1 := by
              rw [List.length_append, List.length_singleton]
              omega
            walk_at "rds"
            refine RD.ite_d (fun _ => ?_) (fun _ => ?_)
            · walk_at "rds"
              exact ⟨acc ++ [z], _, _, _, rfl, keep k10 hk, HandOk.mut hk nf nfc hh10, by rw [hv, List.map_append]; rfl, fin, once, long⟩
            · walk_at "rds"
              refine spDraw.mk (E := E0) (by walk_at "hk") (by decide) (by decide) fun r3 H14 _ _ k14 hh14 => ?_
              have hf14 := k14 _ _ nf hf10
              have k014 : RD.KB a H H14 := RD.KB.trans k10 k14
              walk_at "rds"
              refine RD.ite_d (fun _ => ?_) (fun _ => ?_)
              · walk_at "rds"
                exact ⟨acc ++ [z], _, _, _, rfl, keep k014 hk, HandOk.mut hk nf nfc hh14, by rw [hv, List.map_append]; rfl, fin, once, long⟩
              · walk_at "rds"
                exact ⟨acc, _, _, _, rfl, k014, hh14, hf14, hall, hnd, hlen⟩
          · walk_at "rds"
            exact ⟨acc, _, _, _, rfl, k10, hh10, hf10, hall, hnd, hlen⟩
        · walk_at "rds"
          exact ⟨acc, _, _, _, rfl, k10, hh10, hf10, hall, hnd, hlen⟩
    · obtain ⟨acc, x5, x6, x7, rfl, k6, hh6, hf6, hall, hnd, hlen⟩ := hp
      have hlm : (acc.map V.str).length = acc.length := List.length_map ..
      have hz := small_len (show z0.cps.size ≤ 100000 from Nat.le_trans (piece_size hz0).2 (by decide))
      walk_at "rds"
      refine RD.ite_d (fun h0 => ?_) (fun h0 => ?_)
      · walk_at "rds"
        exact q _ acc _ (by walk_at "kb") (by walk_at "hk") hv hn ⟨by omega, by omega, hall, hnd⟩
      · walk_at "rds"
        exact q _ [cutS z0 none (some 2)] _ (by walk_at "kb") (by walk_at "hk") hv hn ⟨by show 1 ≤ 1; decide, by show 1 ≤ 12; decide, fun y hy => by rw [List.mem_singleton.mp hy]; exact cut_piece hz0, by simp⟩
end

/-! ### strikes as pairs -/
theorem str_ext {a b : Str} (h : a.cps.toList = b.cps.toList) : a = b := by
  cases a
  cases b
  exact congrArg Str.mk (Array.ext' h)
theorem app_list (a b : Str) : (a ++ b).cps.toList = a.cps.toList ++ b.cps.toList := Array.toList_append
theorem app_size (a b : Str) : (a ++ b).cps.size = a.cps.size + b.cps.size := by
  rw [← Array.length_toList, app_list, List.length_append, Array.length_toList, Array.length_toList]
theorem log_app (a b : Str) : logB (a ++ b) = (logB a && logB b) := by
  unfold logB
  rw [app_list, List.all_append]
theorem cut_list (z : Str) (lo hi : Option Int) : (cutS z lo hi).cps.toList = (z.cps.toList.drop (HT.sIx z.length 0 lo)).take (HT.sIx z.length z.length hi - HT.sIx z.length 0 lo) := rfl
theorem cut_size (z : Str) (lo hi : Option Int) : (cutS z lo hi).cps.size ≤ z.cps.size := by
  rw [← Array.length_toList, cut_list, List.length_take, List.length_drop, Array.length_toList]
  omega
theorem log_cut {z : Str} (lo hi : Option Int) (h : logB z = true) : logB (cutS z lo hi) = true := by
  unfold logB at *
  rw [cut_list, List.all_eq_true]
  exact fun c hc => List.all_eq_true.mp h c (List.mem_of_mem_drop (List.mem_of_mem_take hc))
theorem cut_to {z : Str} {p : Nat} (hp : p ≤ z.cps.size) : (cutS z none (some (p : Int))).cps.toList = z.cps.toList.take p := by
  have e : z.length = z.cps.size := rfl
  rw [cut_list, HT.sIx_none, HT.sIx_nat, List.drop_zero, Nat.sub_zero, e, Nat.min_eq_left hp]
theorem cut_from (z : Str) (p : Nat) : (cutS z (some (p : Int)) none).cps.toList = z.cps.toList.drop p := by
  have e : z.length = z.cps.size := rfl
  have l : z.cps.toList.length = z.cps.size := Array.length_toList
  rw [cut_list, HT.sIx_none, HT.sIx_nat, e]
  by_cases h : p ≤ z.cps.size
  · rw [Nat.min_eq_left h]
    exact List.take_of_length_le (by rw [List.length_drop, l]; omega)
  · rw [Nat.min_eq_right (by omega), List.drop_eq_nil_of_le (by omega), List.drop_eq_nil_of_le (by omega), List.take_nil]
theorem from_nat (n p : Nat) : PySem.fromIndex n (p : Int) = p := by
  unfold PySem.fromIndex
  rw [if_neg (by omega)]
  omega
theorem sw_iff (z y : Str) (p : Nat) : Txt.startswith3 z y (p : Int) = decide (p + y.cps.size ≤ z.cps.size ∧ (z.cps.toList.drop p).take y.cps.size = y.cps.toList) := by
  have e : ∀ x : Str, x.length = x.cps.size := fun _ => rfl
  unfold Txt.startswith3
  rw [from_nat, e, e]
  unfold Builtin.Str.subAt
  rw [e]
  have e2 : (z.cps.extract p (p + y.cps.size) == y.cps) = decide ((z.cps.toList.drop p).take y.cps.size = y.cps.toList) := by
    have e3 : (z.cps.extract p (p + y.cps.size)).toList = (z.cps.toList.drop p).take y.cps.size := by
      rw [Array.toList_extract, List.extract_eq_drop_take]
      congr 1
      omega
    rw [← e3, Bool.eq_iff_iff, beq_iff_eq, decide_eq_true_iff]
    exact ⟨fun h => by rw [h], fun h => Array.ext' h⟩
  rw [e2, ← Bool.decide_and]
theorem cut_hit {z y : Str} {p : Nat} (hp : p ≤ z.cps.size) : decide (V.str (cutS z (some (p : Int)) (some ((p : Int) + ((y.length : Nat) : Int)))) = V.str y) = Txt.startswith3 z y (p : Int) := by
  have e : ∀ x : Str, x.length = x.cps.size := fun _ => rfl
  have l : z.cps.toList.length = z.cps.size := Array.length_toList
  have ly : y.cps.toList.length = y.cps.size := Array.length_toList
  rw [sw_iff, show (p : Int) + ((y.length : Nat) : Int) = ((p + y.cps.size : Nat) : Int) by rw [e]; omega]
  refine decide_eq_decide.mpr ⟨fun h => ?_, fun h => ?_⟩
  · have h : (cutS z (some (p : Int)) (some ((p + y.cps.size : Nat) : Int))).cps.toList = y.cps.toList := congrArg (fun s : Str => s.cps.toList) (V.str.inj h)
    rw [cut_list, HT.sIx_nat, HT.sIx_nat, e] at h
    have hl := congrArg List.length h
    rw [List.length_take, List.length_drop, l, ly] at hl
    by_cases hc : p + y.cps.size ≤ z.cps.size
    · refine ⟨hc, ?_⟩
      rw [Nat.min_eq_left hc, Nat.min_eq_left (by omega)] at h
      rw [show p + y.cps.size - p = y.cps.size by omega] at h
      exact h
    · exfalso
      rw [Nat.min_eq_left hp] at hl
      omega
  · refine congrArg V.str (str_ext ?_)
    rw [cut_list, HT.sIx_nat, HT.sIx_nat, e, Nat.min_eq_left h.1, Nat.min_eq_left (by omega), show p + y.cps.size - p = y.cps.size by omega]
    exact h.2
def hitB (zs : List Str) (z : Str) (p k : Nat) : Bool := match zs[k]? with
  | some y => Txt.startswith3 z y (p : Int)
  | none => false
def partP (zs : List Str) (z : Str) (p i : Nat) : List (Nat × Nat) := (List.range i).filterMap fun k => if hitB zs z p k = true then some (p, k) else none
def uptoP (zs : List Str) (z : Str) (i : Nat) : List (Nat × Nat) := (List.range i).flatMap fun p => partP zs z p zs.length
def strikesL (zs : List Str) (z : Str) : List (Nat × Nat) := uptoP zs z z.cps.size
theorem part_succ (zs : List Str) (z : Str) (p i : Nat) : partP zs z p (i + 1) = partP zs z p i ++ (if hitB zs z p i = true then [(p, i)] else []) := by
  unfold partP
  rw [List.range_succ, List.filterMap_append]
  congr 1
  simp only [List.filterMap_cons, List.filterMap_nil]
  split <;> rename_i h <;> split at h <;> simp_all
theorem upto_succ (zs : List Str) (z : Str) (i : Nat) : uptoP zs z (i + 1) = uptoP zs z i ++ partP zs z i zs.length := by
  unfold uptoP
  rw [List.range_succ, List.flatMap_append]
  simp
theorem part_len (zs : List Str) (z : Str) (p : Nat) : ∀ i, (partP zs z p i).length ≤ i := fun i => by
  unfold partP
  exact Nat.le_trans (List.length_filterMap_le ..) (by rw [List.length_range]; exact Nat.le_refl _)
theorem upto_len (zs : List Str) (z : Str) : ∀ i, (uptoP zs z i).length ≤ i * zs.length
  | 0 => by simp [uptoP]
  | i + 1 => by
    have ih := upto_len zs z i
    have h := part_len zs z i zs.length
    rw [upto_succ, List.length_append, Nat.succ_mul]
    omega
theorem mem_strikes {zs : List Str} {z : Str} {p k : Nat} : (p, k) ∈ strikesL zs z ↔ p < z.cps.size ∧ k < zs.length ∧ hitB zs z p k = true := by
  unfold strikesL uptoP partP
  rw [List.mem_flatMap]
  constructor
  · rintro ⟨a, ha, h⟩
    rw [List.mem_filterMap] at h
    obtain ⟨b, hb, h⟩ := h
    split at h
    · rename_i hc
      cases h
      exact ⟨List.mem_range.mp ha, List.mem_range.mp hb, hc⟩
    · cases h
  · rintro ⟨h1, h2, h3⟩
    exact ⟨p, List.mem_range.mpr h1, List.mem_filterMap.mpr ⟨k, List.mem_range.mpr h2, by rw [if_pos h3]⟩⟩
def pcs (zs : List Str) (k : Nat) : Str := zs.getD k Str.empty
def struckS (zs : List Str) (z : Str) (p k : Nat) : Str := cutS z none (some (p : Int)) ++ cutS z (some ((p : Int) + ((pcs zs k).length : Nat))) none
theorem struck_list {zs : List Str} {z : Str} {p k : Nat} (hp : p ≤ z.cps.size) : (struckS zs z p k).cps.toList = z.cps.toList.take p ++ z.cps.toList.drop (p + (pcs zs k).cps.size) := by
  unfold struckS
  have e : ∀ x : Str, x.length = x.cps.size := fun _ => rfl
  rw [app_list, cut_to hp, e, show (p : Int) + (((pcs zs k).cps.size : Nat) : Int) = ((p + (pcs zs k).cps.size : Nat) : Int) by omega, cut_from]
theorem struck_size {zs : List Str} {z : Str} {p k : Nat} (hp : p ≤ z.cps.size) : (struckS zs z p k).cps.size ≤ z.cps.size := by
  have l : z.cps.toList.length = z.cps.size := Array.length_toList
  rw [← Array.length_toList, struck_list hp, List.length_append, List.length_take, List.length_drop, l]
  omega
theorem log_struck {zs : List Str} {z : Str} {p k : Nat} (h : logB z = true) : logB (struckS zs z p k) = true := by
  unfold struckS
  rw [log_app, log_cut _ _ h, log_cut _ _ h]
  rfl
/-- a text with y put in -/
def putS (z y : Str) (p : Nat) : Str := cutS z none (some (p : Int)) ++ y ++ cutS z (some (p : Int)) none
theorem put_list {z y : Str} {p : Nat} (hp : p ≤ z.cps.size) : (putS z y p).cps.toList = z.cps.toList.take p ++ y.cps.toList ++ z.cps.toList.drop p := by
  unfold putS
  rw [app_list, app_list, cut_to hp, cut_from]
theorem put_size {z y : Str} {p : Nat} (hp : p ≤ z.cps.size) : (putS z y p).cps.size = z.cps.size + y.cps.size := by
  have l : z.cps.toList.length = z.cps.size := Array.length_toList
  rw [← Array.length_toList, put_list hp, List.length_append, List.length_append, List.length_take, List.length_drop, l, Array.length_toList]
  omega
theorem log_put {z y : Str} {p : Nat} (h : logB z = true) (g : logB y = true) : logB (putS z y p) = true := by
  unfold putS
  rw [log_app, log_app, log_cut _ _ h, log_cut _ _ h, g]
  rfl
theorem put_hit {zs : List Str} {z y : Str} {p k : Nat} (hp : p ≤ z.cps.size) (hk : zs[k]? = some y) (hy : 1 ≤ y.cps.size) : (p, k) ∈ strikesL zs (putS z y p) := by
  have l : z.cps.toList.length = z.cps.size := Array.length_toList
  have ly : y.cps.toList.length = y.cps.size := Array.length_toList
  refine mem_strikes.mpr ⟨by rw [put_size hp]; omega, (List.getElem?_eq_some_iff.mp hk).1, ?_⟩
  unfold hitB
  rw [hk]
  show Txt.startswith3 (putS z y p) y (p : Int) = true
  rw [sw_iff, put_size hp, put_list hp, List.append_assoc, decide_eq_true_iff]
  refine ⟨by omega, ?_⟩
  rw [List.drop_left' (by rw [List.length_take, l]; omega), List.take_left' ly]
theorem put_back {zs : List Str} {z y : Str} {p k : Nat} (hp : p ≤ z.cps.size) (hk : zs[k]? = some y) : struckS zs (putS z y p) p k = z := by
  have l : z.cps.toList.length = z.cps.size := Array.length_toList
  have ly : y.cps.toList.length = y.cps.size := Array.length_toList
  have e : pcs zs k = y := by
    unfold pcs
    rw [List.getD_eq_getElem?_getD, hk]
    rfl
  have lt : (z.cps.toList.take p).length = p := by rw [List.length_take, l]; omega
  refine str_ext ?_
  rw [struck_list (by rw [put_size hp]; omega), put_list hp, e, List.append_assoc, List.take_left' lt, ← List.append_assoc, List.drop_left' (by rw [List.length_append, lt, ly]), List.take_append_drop]
/-! ### lists of pairs in the heap -/
inductive PL (H : Hp) : List V → List (Nat × Nat) → Prop where
  | nil : PL H [] []
  | cons {a : Addr} {p k : Nat} {vs : List V} {ps : List (Nat × Nat)} : H a = some (.tup [.int (p : Nat), .int (k : Nat)]) → PL H vs ps → PL H (.ref a :: vs) ((p, k) :: ps)
theorem PL.app {H : Hp} {vs ws : List V} {ps qs : List (Nat × Nat)} (h : PL H vs ps) (g : PL H ws qs) : PL H (vs ++ ws) (ps ++ qs) := by
  induction h with
  | nil => exact g
  | cons a _ ih => exact .cons a ih
theorem PL.of {H H' : Hp} {vs : List V} {ps : List (Nat × Nat)} (k : ∀ a xs, H a = some (.tup xs) → H' a = some (.tup xs)) (h : PL H vs ps) : PL H' vs ps := by
  induction h with
  | nil => exact .nil
  | cons a _ ih => exact .cons (k _ _ a) ih
theorem PL.same {H H' : Hp} {vs : List V} {ps : List (Nat × Nat)} (s : Same H H') (h : PL H vs ps) : PL H' vs ps := h.of fun a xs e => s _ _ e
theorem PL.kb {H H' : Hp} {f : Addr} {xs vs : List V} {ps : List (Nat × Nat)} (s : RD.KB f H H') (hf : H f = some (.lst xs)) (h : PL H vs ps) : PL H' vs ps := h.of fun a xs e => s _ _ (fun z => by subst z; rw [hf] at e; cases e) e
theorem PL.len {H : Hp} {vs : List V} {ps : List (Nat × Nat)} (h : PL H vs ps) : vs.length = ps.length := by
  induction h with
  | nil => rfl
  | cons _ _ ih => rw [List.length_cons, List.length_cons, ih]
theorem PL.mem {H : Hp} {vs : List V} {ps : List (Nat × Nat)} (h : PL H vs ps) : ∀ v, v ∈ vs → ∃ a p k, v = .ref a ∧ H a = some (.tup [.int (p : Nat), .int (k : Nat)]) ∧ (p, k) ∈ ps := by
  induction h with
  | nil => exact fun v hv => nomatch hv
  | cons a _ ih =>
    intro v hv
    rcases List.mem_cons.mp hv with e | hv
    · exact ⟨_, _, _, e, a, List.mem_cons_self⟩
    · obtain ⟨b, p, k, h1, h2, h3⟩ := ih v hv
      exact ⟨b, p, k, h1, h2, List.mem_cons_of_mem _ h3⟩
def pairD (q : Nat × Nat) : PyData := .tuple [.int (q.1 : Nat), .int (q.2 : Nat)]
theorem PL.dp {K : PySem.W.Frag} {H : Hp} {vs : List V} {ps : List (Nat × Nat)} (h : PL H vs ps) : DpAll K H vs (ps.map pairD) := by
  induction h with
  | nil => exact .nil
  | cons a _ ih => exact .cons (.tup (.inl (.inl a)) (.cons (.int _) (.cons (.int _) .nil))) ih
theorem lay_pairs : ∀ ps : List (Nat × Nat), PyData.canLayAll0 (ps.map pairD) = true ∧ PyData.depthAll (ps.map pairD) ≤ 1
  | [] => ⟨rfl, Nat.zero_le _⟩
  | q :: r => by
    obtain ⟨h1, h2⟩ := lay_pairs r
    refine ⟨?_, ?_⟩
    · rw [List.map_cons, PyData.canLayAll0, h1]
      rfl
    · rw [List.map_cons, PyData.depthAll]
      exact Nat.max_le.mpr ⟨Nat.le_refl _, h2⟩
theorem shaped_pairs (ps : List (Nat × Nat)) : SeqAt.shaped (.list (ps.map pairD)) = true := by
  obtain ⟨h1, h2⟩ := lay_pairs ps
  unfold SeqAt.shaped
  rw [PyData.canLay0, h1, PyData.depth, Bool.true_and, decide_eq_true_iff]
  omega
theorem eqv_ints (a b c d : Int) : PyData.eqv (.tuple [.int a, .int b]) (.tuple [.int c, .int d]) = (decide (a = c) && decide (b = d)) := by
  rw [Bool.eq_iff_iff]
  simp [PyData.eqv, PyData.eqvAll]
theorem any_pairs (i j : Int) : ∀ ps : List (Nat × Nat), ((ps.map pairD).any fun z => PyData.eqv z (.tuple [.int i, .int j])) = decide (0 ≤ i ∧ 0 ≤ j ∧ (i.toNat, j.toNat) ∈ ps)
  | [] => by simp
  | (p, k) :: r => by
    have ih := any_pairs i j r
    rw [List.map_cons, List.any_cons, ih]
    show (PyData.eqv (.tuple [.int (p : Nat), .int (k : Nat)]) (.tuple [.int i, .int j]) || _) = _
    rw [eqv_ints, Bool.eq_iff_iff]
    simp only [Bool.or_eq_true, Bool.and_eq_true, decide_eq_true_eq, List.mem_cons, Prod.mk.injEq]
    constructor
    · rintro (⟨h1, h2⟩ | ⟨h1, h2, h3⟩)
      · exact ⟨by omega, by omega, .inl ⟨by omega, by omega⟩⟩
      · exact ⟨h1, h2, .inr h3⟩
    · rintro ⟨h1, h2, h3 | h3⟩
      · exact .inl ⟨by omega, by omega⟩
      · exact .inr ⟨h1, h2, h3⟩
theorem is_pair {K : PySem.W.Frag} {H : Hp} {n : Nat} {a b : Addr} {p k : Nat} (ha : H a = some (.tup [.int (p : Nat), .int (k : Nat)])) (hb : H b = some (.tup [.int (p : Nat), .int (k : Nat)])) : SPD.IsB K H (n + 1) (.ref a) (.ref b) true := by
  have z := SPD.IsB.tup (K := K) (n := n) (bs := [true, true]) ha hb rfl rfl (by show 2 ≤ 16777216; decide) fun i x y c e1 e2 e3 => by
    rw [e1] at e2
    cases e2
    have sc : ∀ j : Int, SPD.IsB K H n (.int j) (.int j) true := fun j => by
      have z : SPD.EqB K H (.int j) (.int j) (decide (V.int j = V.int j)) := .scal rfl
      rw [decide_eq_true rfl] at z
      exact .leaf (.int j) (.int j) rfl rfl z
    match i, e1, e3 with
    | 0, e1, e3 => cases e1; cases e3; exact sc _
    | 1, e1, e3 => cases e1; cases e3; exact sc _
    | i + 2, e1, _ => cases e1
  exact z
theorem is_pairs {K : PySem.W.Frag} {H : Hp} {n : Nat} {f g : Addr} {vs ws : List V} {ps : List (Nat × Nat)} (hf : H f = some (.lst vs)) (hg : H g = some (.lst ws)) (h1 : PL H vs ps) (h2 : PL H ws ps) (hl : ps.length ≤ 16777216) : SPD.IsB K H (n + 2) (.ref f) (.ref g) true := by
  have key : ∀ {vs ws : List V} {ps : List (Nat × Nat)}, PL H vs ps → PL H ws ps → ∀ (i : Nat) (x y : V), vs[i]? = some x → ws[i]? = some y → SPD.IsB K H (n + 1) x y true := by
    intro vs ws ps h1
    induction h1 generalizing ws with
    | nil => exact fun _ i x y e1 _ => by cases e1
    | cons a _ ih =>
      intro h2 i x y e1 e2
      cases h2 with
      | cons b h2 =>
        cases i with
        | zero => cases e1; cases e2; exact is_pair a b
        | succ i => exact ih h2 i x y e1 e2
  have z := SPD.IsB.lst (K := K) (n := n + 1) (bs := List.replicate vs.length true) hf hg (by rw [h1.len, h2.len]) (by rw [List.length_replicate]) (by rw [h1.len]; exact hl) fun i x y c e1 e2 e3 => by
    rw [List.getElem?_replicate] at e3
    split at e3
    · cases e3
      exact key h1 h2 i x y e1 e2
    · cases e3
  rw [SPD.all_rep] at z
  exact z
/-- a list of these pairs -/
def Prs (H : Hp) (f : Addr) (ps : List (Nat × Nat)) : Prop := ∃ vs, H f = some (.lst vs) ∧ PL H vs ps
theorem Prs.same {H H' : Hp} {f : Addr} {ps : List (Nat × Nat)} (s : Same H H') (h : Prs H f ps) : Prs H' f ps := by
  obtain ⟨vs, h1, h2⟩ := h
  exact ⟨vs, s _ _ h1, h2.same s⟩

/-! ### checks -/
def intV : V → Bool
  | .int _ => true
  | _ => false
def withV (v : V) (lo hi : Int) : Bool := match v with
  | .int i => decide (lo ≤ i) && decide (i ≤ hi)
  | _ => false
def tupV (H : Hp) (v : V) (m : Nat) : Bool := match v with
  | .ref a => match H a with
    | some (.tup xs) => decide (xs.length = m)
    | _ => false
  | _ => false
theorem with_int {v : V} {lo hi : Int} (h : withV v lo hi = true) : ∃ i, v = .int i ∧ lo ≤ i ∧ i ≤ hi := by
  cases v with
  | int i =>
    unfold withV at h
    rw [Bool.and_eq_true] at h
    exact ⟨i, rfl, of_decide_eq_true h.1, of_decide_eq_true h.2⟩
  | _ => cases h
theorem with_in {i lo hi : Int} (h1 : lo ≤ i) (h2 : i ≤ hi) : withV (.int i) lo hi = true := by
  show (decide (lo ≤ i) && decide (i ≤ hi)) = true
  rw [decide_eq_true h1, decide_eq_true h2]
  rfl
theorem tup_of {H : Hp} {v : V} {m : Nat} (h : tupV H v m = true) : ∃ a xs, v = .ref a ∧ H a = some (.tup xs) ∧ xs.length = m := by
  cases v with
  | ref a =>
    unfold tupV at h
    cases e : H a with
    | none => simp [e] at h
    | some o =>
      cases o with
      | tup xs => simp [e] at h; exact ⟨a, xs, rfl, e, h⟩
      | _ => simp [e] at h
  | _ => cases h
theorem tup_at {H : Hp} {a : Addr} {xs : List V} {m : Nat} (h : H a = some (.tup xs)) : tupV H (.ref a) m = decide (xs.length = m) := by
  unfold tupV
  simp only [h]
theorem tup_kd {K : PySem.W.Frag} {H : Hp} {v : V} {m : Nat} {k : SPD.Kd} (h : SPD.KdOf K H v k) (n : k ≠ .tup) : tupV H v m = false := by
  cases h with
  | tup h => exact absurd rfl n
  | dct h => unfold tupV; simp only [h]
  | lst h => unfold tupV; simp only [h]
  | _ => rfl
def spInteger : Sp := fun vs H Q _ => ∃ (x : Addr) (n : Nat) (v : V), vs = [v] ∧ SPD.Dq x H n v ∧ ∀ H', Same H H' → Q (.bl (intV v)) H'
def spWithin : Sp := fun vs H Q _ => ∃ (x : Addr) (n : Nat) (v : V) (lo hi : Int), vs = [v, .int lo, .int hi] ∧ SPD.Dq x H n v ∧ ∀ H', Same H H' → Q (.bl (withV v lo hi)) H'
def spTupOf : Sp := fun vs H Q _ => ∃ (x : Addr) (n : Nat) (v : V) (m : Nat), vs = [v, .int (m : Nat)] ∧ SPD.Dq x H n v ∧ ∀ H', Same H H' → Q (.bl (tupV H v m)) H'
def spCheckLog : Sp := fun vs H Q _ => ∃ z : Str, vs = [.str z] ∧ z.cps.size ≤ 100000 ∧ logB z = true ∧ ∀ H', Same H H' → Q .non H'
section
variable {P : Program} {w : World} {K : PySem.W.Frag} {mg : Str → Option Value} {base : Heap}
theorem ok_is_integer (T : Txt P K mg) : FnOk P w K mg base CX0 1 T.a_is_integer T.fd_is_integer ["thing"] spInteger := by
  have nd := sc_is_integer.nd
  refine T.F_is_integer.ok sc_is_integer (fun vs H Q E h => ?_) (fun cdv A outer s H vs Q E hr h => ?_)
  · obtain ⟨x, n, v, rfl, _⟩ := h
    rfl
  · obtain ⟨x, n, v, rfl, hd, q⟩ := h
    refine ⟨_, (pss_one (ps_ret (pe_and (pe_callB call_isi (by rfl) T.m_isinstance (by decide +kernel) (pa_cons (pv 0) (pa_cons (pe_bltn (v := .ty "int") (by rfl) T.m_int (by decide +kernel) rfl) pa_nil))) (pe_one (pe_not (pe_callB call_isi (by rfl) T.m_isinstance (by decide +kernel) (pa_cons (pv 0) (pa_cons (pe_bltn (v := .ty "bool") (by rfl) T.m_bool (by decide +kernel) rfl) pa_nil)))))))), ?_⟩
    obtain ⟨k, hk⟩ := hd.kd (K := K)
    walk_at "rds"
    refine RD.ite_d (fun e => ?_) (fun ne => ?_)
    · walk_at "rds"
      have e2 : intV v = !decide (k = SPD.Kd.bl) := by
        cases hk <;> first | rfl | (exfalso; revert e; decide)
      rw [← e2]
      exact q _ (Same.refl _)
    · have e2 : intV v = false := by
        cases hk <;> first | rfl | (exfalso; exact ne (by decide))
      rw [e2] at q
      exact q _ (Same.refl _)
theorem ok_is_within (T : Txt P K mg) : FnOk P w K mg base CX0 2 T.a_is_within T.fd_is_within ["thing", "least", "most"] spWithin := by
  have nd := sc_is_within.nd
  have G_is_integer : FnOk P w K mg base CX0 1 T.a_is_integer T.fd_is_integer ["thing"] spInteger := ok_is_integer T
  refine T.F_is_within.ok sc_is_within (fun vs H Q E h => ?_) (fun cdv A outer s H vs Q E hr h => ?_)
  · obtain ⟨x, n, v, lo, hi, rfl, _⟩ := h
    rfl
  · obtain ⟨x, n, v, lo, hi, rfl, hd, q⟩ := h
    refine ⟨_, (pss_one (ps_ret (pe_and (pe_call G_is_integer hr (by rfl) T.g_is_integer T.F_is_integer.kp T.b_is_integer .nil pass0 (pa_cons (pv 0) pa_nil)) (pe_one (pe_chain op_le op_le (pv 1) (pv 0) (pv 2)))))), ?_⟩
    walk_at "rds"
    refine ⟨x, n, v, rfl, hd, fun H1 s1 => ?_⟩
    walk_at "rds"
    refine RD.ite_b (fun e => ?_) (fun e => ?_)
    · cases v with
      | int i =>
        walk_at "rds"
        refine RD.ite_d (fun h1 => ?_) (fun h1 => ?_)
        · walk_at "rds"
          have e2 : withV (.int i) lo hi = decide (i ≤ hi) := by
            show (decide (lo ≤ i) && decide (i ≤ hi)) = _
            rw [decide_eq_true h1, Bool.true_and]
          rw [← e2]
          exact q _ s1
        · have e2 : withV (.int i) lo hi = false := by
            show (decide (lo ≤ i) && decide (i ≤ hi)) = _
            rw [decide_eq_false h1, Bool.false_and]
          rw [e2] at q
          exact q _ s1
      | _ => cases e
    · have e2 : withV v lo hi = false := by
        cases v with
        | int i => cases e
        | _ => rfl
      rw [e2] at q
      exact q _ s1
theorem ok_is_tuple_of (T : Txt P K mg) : FnOk P w K mg base CX0 1 T.a_is_tuple_of T.fd_is_tuple_of ["thing", "size"] spTupOf := by
  have nd := sc_is_tuple_of.nd
  refine T.F_is_tuple_of.ok sc_is_tuple_of (fun vs H Q E h => ?_) (fun cdv A outer s H vs Q E hr h => ?_)
  · obtain ⟨x, n, v, m, rfl, _⟩ := h
    rfl
  · obtain ⟨x, n, v, m, rfl, hd, q⟩ := h
    refine ⟨_, (pss_one (ps_ret (pe_and (pe_callB call_isi (by rfl) T.m_isinstance (by decide +kernel) (pa_cons (pv 0) (pa_cons (pe_bltn (v := .ty "tuple") (by rfl) T.m_tuple (by decide +kernel) rfl) pa_nil))) (pe_one (pe_cmpR op_eq (pe_callB call_len_seq (by rfl) T.m_len PySem.boot_len (pa_cons (pv 0) pa_nil)) (pv 1) (nomark _)))))), ?_⟩
    obtain ⟨k, hk⟩ := hd.kd (K := K)
    walk_at "rds"
    refine RD.ite_d (fun e => ?_) (fun ne => ?_)
    · subst e
      cases hk with
      | @tup t xs ht =>
        walk_at "rds"
        have e2 : tupV H (.ref t) m = decide (V.int (xs.length : Nat) = V.int (m : Nat)) := by
          rw [tup_at ht]
          exact decide_eq_decide.mpr ⟨fun h => by rw [h], fun h => by have := V.int.inj h; omega⟩
        rw [← e2]
        exact q _ (Same.refl _)
    · rw [tup_kd hk ne] at q
      exact q _ (Same.refl _)
theorem ok_check_log (T : Txt P K mg) : FnOk P w K mg base (L2.CX P w) 2 T.a_check_log T.fd_check_log ["thing"] spCheckLog := by
  have nd := sc_check_log.nd
  have G_q_is_log : FnOk P w K mg base CX0 1 T.a_q_is_log T.fd_q_is_log ["thing"] spLog := ok_q_is_log T
  refine T.F_check_log.okX sc_check_log (fun vs H Q E h => ?_) (fun cdv A outer s H vs Q E hr h => ?_)
  · obtain ⟨z, rfl, _⟩ := h
    rfl
  · obtain ⟨z, rfl, hz, hl, q⟩ := h
    refine ⟨_, (pss_one (ps_if (pt_not (pt_val (pe_call G_q_is_log hr (by rfl) T.g_q_is_log T.F_q_is_log.kp T.b_q_is_log .nil pass0 (pa_cons (pv 0) pa_nil))))
    (pss_one (ps_raise rfl (takes_of rfl rfl rfl rfl) (NR.pmk_own0 T.k_NoLog T.g_NoLog T.kp_NoLog T.bx_NoLog T.tx_NoLog (by rfl))))
    pss_nil)), ?_⟩
    walk_at "rds"
    refine ⟨0, 0, .str z, rfl, .leaf (Nat.ble_eq_true_of_le hz), fun H1 s1 => ?_⟩
    rw [show logV (.str z) = true from hl]
    walk_at "rds"
    exact q _ s1
end
/-! ### all strikes -/
def spStrikes (C : Addr) : Sp := fun vs H Q _ => ∃ (b t : Addr) (zs : List Str) (z : Str), vs = [.ref b, .str z] ∧ BookAt H C b t ∧ H t = some (.tup (zs.map V.str)) ∧ Good zs ∧ z.cps.size ≤ 100000 ∧ ∀ f H', H f = none → Same H H' → Prs H' f (strikesL zs z) → Q (.ref f) H'
def spStrikesC (C : Addr) : Sp := fun vs H Q _ => ∃ (b t : Addr) (zs : List Str) (z : Str), vs = [.ref b, .str z] ∧ BookAt H C b t ∧ H t = some (.tup (zs.map V.str)) ∧ Good zs ∧ z.cps.size ≤ 100000 ∧ logB z = true ∧ ∀ f H', H f = none → Same H H' → Prs H' f (strikesL zs z) → Q (.ref f) H'
def spStrikesL : Sp := fun vs H Q _ => ∃ (t : Addr) (zs : List Str) (z : Str), vs = [.ref t, .str z] ∧ H t = some (.tup (zs.map V.str)) ∧ Good zs ∧ z.cps.size ≤ 100000 ∧ ∀ f H', H f = none → Same H H' → Prs H' f (strikesL zs z) → Q (.ref f) H'
theorem get_strs {zs : List Str} {j : Nat} {y : V} (h : (zs.map V.str)[j]? = some y) : ∃ z, y = .str z ∧ zs[j]? = some z := by
  rw [List.getElem?_map] at h
  obtain ⟨z, hz, rfl⟩ := Option.map_eq_some_iff.mp h
  exact ⟨z, rfl, hz⟩
theorem hit_at {zs : List Str} {z y : Str} {p k : Nat} (h : zs[k]? = some y) : hitB zs z p k = Txt.startswith3 z y (p : Int) := by
  unfold hitB
  rw [h]
theorem many_ok {zs : List Str} {z : Str} (g : Good zs) (hz : z.cps.size ≤ 100000) {i : Nat} (hi : i ≤ z.cps.size) : (uptoP zs z i).length ≤ 1200000 := by
  have h := upto_len zs z i
  have h2 := Nat.mul_le_mul (Nat.le_trans hi hz) g.few
  exact Nat.le_trans h (by omega)
section
variable {P : Program} {w : World} {K : PySem.W.Frag} {mg : Str → Option Value} {base : Heap}
theorem ok_raw_strikes (T : Txt P K mg) : FnOk P w K mg base CX0 1 T.a_raw_strikes T.fd_raw_strikes ["book", "log"] (spStrikes T.C_Book) := by
  have nd := sc_raw_strikes.nd
  refine T.F_raw_strikes.ok sc_raw_strikes (fun vs H Q E h => ?_) (fun cdv A outer s H vs Q E hr h => ?_)
  · obtain ⟨b, t, zs, z, rfl, _⟩ := h
    rfl
  · obtain ⟨b, t, zs, z, rfl, ⟨dx, hb⟩, ht, g, hz, q⟩ := h
    refine ⟨_, (pss_cons (ps_set (i := 2) nd rfl (by first | exact Or.inl rfl | exact Or.inr rfl) (pe_lst pa_nil))
  (pss_cons (ps_for PassesOwn.never rfl (pi_range1 (by rfl) T.m_range (pa_cons (pe_callB call_len_str (by rfl) T.m_len PySem.boot_len (pa_cons (pv 1) pa_nil)) pa_nil)) (pg_name (i := 3) nd rfl (by first | exact Or.inl rfl | exact Or.inr rfl))
    (pss_one (ps_expr (pe_bm PySem.F.plainAttrs_list PySem.F.slot_list_extend PySem.F.type_list_extend mt_extend (pv 2) (pa_cons (pe_lc (own := [("number", 4), ("piece", 5)]) (g := (gTup K 2 (gCons (gName 4) (gCons (gName 5) gNil)))) rfl nd (NR.pi_enumT (by rfl) T.m_enumerate (pa_cons (pe_fld (pv 0) rfl) pa_nil)) (blkOk_by (own := [("number", 4), ("piece", 5)]) (N := N_raw_strikes) (sc := defScope s_raw_strikes) (by decide +kernel)) (fun _ _ _ _ _ => (pg_tup rfl (pgs_cons (pg_name (i := 4) nd rfl (Or.inl rfl)) (pgs_cons (pg_name (i := 5) nd rfl (Or.inl rfl)) pgs_nil)))) (fun _ _ _ _ _ => (pts_one (pt_val (RB.pe_bmK (K := K) rfl PySem.F.plainAttrs_str PySem.F.slot_str_startswith PySem.F.type_str_startswith mt_startswith3 (pv 1) (pa_cons (pv 5) (pa_cons (pv 3) pa_nil)))))) (fun _ _ _ _ _ => (pe_tup (pa_cons (pv 3) (pa_cons (pv 4) pa_nil))))) pa_nil)))))
  (pss_one (ps_ret (pv 2))))), ?_⟩
    have hzl : z.length ≤ 100000 := hz
    have hzs : z.length ≤ sizeLine := small_len hz
    have hlm : (zs.map V.str).length = zs.length := List.length_map ..
    have g12 := g.few
    walk_at "rds"
    have hf : H p' = none := hp
    have sf : Same H H' := hs
    have hvf : H' p' = some (.lst []) := hv
    clear hv hs hp
    generalize p' = f at hf hvf
    refine RD.forW (walk_range (lo := 0) (n := Int.toNat (z.length : Int))) (fun i σ H2 => ∃ (x3 x4 x5 : Option V) (vs : List V), σ = [some (.ref b), some (.str z), some (.ref f), x3, x4, x5] ∧ Same H H2 ∧ H2 f = some (.lst vs) ∧ PL H2 vs (uptoP zs z i)) ⟨_, _, _, [], rfl, sf, hvf, .nil⟩ (fun _ _ _ _ _ => trivial) (fun i x σ H2 H3 hi hp hy => ?_) (fun σ H2 hp => ?_)
    · obtain ⟨x3, x4, x5, vs, rfl, s2, hf2, hpl⟩ := hp
      obtain ⟨rfl, rfl⟩ := hy
      have hi1 : i < z.cps.size := by
        have e : z.length = z.cps.size := rfl
        omega
      have hm1 := many_ok g hz (Nat.le_of_lt hi1)
      have hl1 := hpl.len
      rw [show (fun i : Nat => V.int (0 + (i : Int))) i = V.int (i : Int) from congrArg V.int (Int.zero_add _)]
      have hb2 := s2 _ _ hb
      have ht2 := s2 _ _ ht
      clear hvf sf
      walk_at "rds"
      refine RB.fldV hb2 T.cl_Book T.no_Book_pieces rfl ?_
      walk_at "rds"
      refine RD.lcW (NR.w_enumT (xs := zs.map V.str)) (by rw [hlm]; omega) fun D H4 hD s4 hv4 => ⟨fun j acc H' => Same H3 H' ∧ PL H' acc (partP zs z i j), ⟨s4, .nil⟩, fun j acc H' _ p => (by have := p.1; walk_at "st"), fun j x acc H5 H6 Z N hj hp hDa hy hZ hN => ?_, fun acc H5 hp hDa => ?_⟩
      · obtain ⟨s5, hpa⟩ := hp
        obtain ⟨T1, x1, y1, rfl, hT, s6, hv6, hx1, hy1⟩ := hy
        obtain rfl : V.int (j : Nat) = x1 := Option.some.inj hx1
        obtain ⟨y, rfl, hyj⟩ := get_strs hy1
        have hD6 := s6 _ _ hDa
        walk_at "rds"
        refine ⟨rfl, ?_⟩
        walk_at "rds"
        rw [← hit_at (p := i) hyj]
        refine RD.ite_b (fun e => ?_) (fun e => ?_)
        · walk_at "rds"
          refine hZ _ _ (by walk_at "hp") fun H7 k7 h7 => ⟨RD.same_mut k7 (by walk_at "sm") hD, ?_⟩
          rw [part_succ, if_pos e]
          exact ((hpa.same (by walk_at "sm")).app (.cons hv .nil)).kb k7 (by walk_at "hp")
        · refine hN _ hD6 ⟨by walk_at "sm", ?_⟩
          rw [part_succ, if_neg (by rw [e]; decide), List.append_nil]
          exact hpa.same s6
      · obtain ⟨s5, hpa⟩ := hp
        rw [hlm] at hpa
        have hl2 := hpa.len
        have hm2 := part_len zs z i zs.length
        have hf5 := s5 _ _ hf2
        walk_at "rds"
        refine RB.ext hf5 hDa (RD.szo (by omega)) fun H7 k7 h7 => ?_
        walk_at "rds"
        refine ⟨_, _, _, _, rfl, RD.same_mut k7 (by walk_at "sm") hf, h7, ?_⟩
        rw [upto_succ]
        exact ((hpl.same s5).app hpa).kb k7 hf5
    · obtain ⟨x3, x4, x5, vs, rfl, s2, hf2, hpl⟩ := hp
      walk_at "rds"
      refine q _ _ hf s2 ⟨_, hf2, ?_⟩
      have e : Int.toNat (z.length : Int) = z.cps.size := by
        have e : z.length = z.cps.size := rfl
        omega
      rw [e] at hpl
      exact hpl
theorem ok_strikes (T : Txt P K mg) : FnOk P w K mg base CX0 1 T.a_strikes T.fd_strikes ["_law_pieces_here", "_law_log_here"] spStrikesL := by
  have nd := sc_strikes.nd
  refine T.F_strikes.ok sc_strikes (fun vs H Q E h => ?_) (fun cdv A outer s H vs Q E hr h => ?_)
  · obtain ⟨t, zs, z, rfl, _⟩ := h
    rfl
  · obtain ⟨t, zs, z, rfl, ht, g, hz, q⟩ := h
    refine ⟨_, (pss_cons (ps_set (i := 2) nd rfl (by first | exact Or.inl rfl | exact Or.inr rfl) (pe_lst pa_nil))
  (pss_cons (ps_for PassesOwn.never rfl (pi_range1 (by rfl) T.m_range (pa_cons (pe_callB call_len_str (by rfl) T.m_len PySem.boot_len (pa_cons (pv 1) pa_nil)) pa_nil)) (pg_name (i := 3) nd rfl (by first | exact Or.inl rfl | exact Or.inr rfl))
    (pss_one (ps_for PassesOwn.never rfl (NR.pi_enumT (by rfl) T.m_enumerate (pa_cons (pv 0) pa_nil)) (pg_tup rfl (pgs_cons (pg_name (i := 4) nd rfl (by first | exact Or.inl rfl | exact Or.inr rfl)) (pgs_cons (pg_name (i := 5) nd rfl (by first | exact Or.inl rfl | exact Or.inr rfl)) pgs_nil)))
    (pss_one (ps_if (pt_cmpR op_eq (pe_slice sl_str (pv 1) (po_some (pv 3)) (po_some (pe_op op_add (pv 3) (pe_callB call_len_str (by rfl) T.m_len PySem.boot_len (pa_cons (pv 5) pa_nil))))) (pv 5) (nomark _))
    (pss_one (ps_expr (pe_bm PySem.F.plainAttrs_list PySem.F.slot_list_append PySem.F.type_list_append mt_append (pv 2) (pa_cons (pe_tup (pa_cons (pv 3) (pa_cons (pv 4) pa_nil))) pa_nil))))
    pss_nil)))))
  (pss_one (ps_ret (pv 2))))), ?_⟩
    have hzl : z.length ≤ 100000 := hz
    have hzs : z.length ≤ sizeLine := small_len hz
    have hlm : (zs.map V.str).length = zs.length := List.length_map ..
    have g12 := g.few
    walk_at "rds"
    have hf : H p' = none := hp
    have sf : Same H H' := hs
    have hvf : H' p' = some (.lst []) := hv
    clear hv hs hp
    generalize p' = f at hf hvf
    refine RD.forW (walk_range (lo := 0) (n := Int.toNat (z.length : Int))) (fun i σ H2 => ∃ (x3 x4 x5 : Option V) (vs : List V), σ = [some (.ref t), some (.str z), some (.ref f), x3, x4, x5] ∧ Same H H2 ∧ H2 f = some (.lst vs) ∧ PL H2 vs (uptoP zs z i)) ⟨_, _, _, [], rfl, sf, hvf, .nil⟩ (fun _ _ _ _ _ => trivial) (fun i x σ H2 H3 hi hp hy => ?_) (fun σ H2 hp => ?_)
    · obtain ⟨x3, x4, x5, vs, rfl, s2, hf2, hpl⟩ := hp
      obtain ⟨rfl, rfl⟩ := hy
      have hi1 : i < z.cps.size := by
        have e : z.length = z.cps.size := rfl
        omega
      have hm1 := many_ok g hz (Nat.le_of_lt hi1)
      rw [show (fun i : Nat => V.int (0 + (i : Int))) i = V.int (i : Int) from congrArg V.int (Int.zero_add _)]
      have ht2 := s2 _ _ ht
      clear hvf sf
      walk_at "rds"
      refine RD.forW (NR.w_enumT (xs := zs.map V.str)) (fun j σ H4 => ∃ (x4 x5 : Option V) (vs : List V), σ = [some (.ref t), some (.str z), some (.ref f), some (.int (i : Int)), x4, x5] ∧ Same H H4 ∧ H4 f = some (.lst vs) ∧ PL H4 vs (uptoP zs z i ++ partP zs z i j)) ⟨_, _, vs, rfl, s2, hf2, by rw [show partP zs z i 0 = [] from rfl, List.append_nil]; exact hpl⟩ (fun j σ H4 _ ⟨_, _, _, _, s, _⟩ => by walk_at "st") (fun j x σ H4 H5 hj hp hy => ?_) (fun σ H4 hp => ?_)
      · obtain ⟨x4, x5, ws, rfl, s4, hf4, hpw⟩ := hp
        obtain ⟨T1, x1, y1, rfl, hT, s6, hv6, hx1, hy1⟩ := hy
        obtain rfl : V.int (j : Nat) = x1 := Option.some.inj hx1
        obtain ⟨y, rfl, hyj⟩ := get_strs hy1
        have hys : y.length ≤ sizeLine := small_len (Nat.le_trans (piece_size (g.piece y (List.mem_of_getElem? hyj))).2 (by decide))
        have hf6 := s6 _ _ hf4
        have hl1 := hpw.len
        rw [List.length_append] at hl1
        have hm2 := part_len zs z i j
        rw [hlm] at hj
        walk_at "rds"
        rw [cut_hit (Nat.le_of_lt hi1), ← hit_at (p := i) hyj]
        refine RD.ite_b (fun e => ?_) (fun e => ?_)
        · walk_at "rds"
          refine ⟨_, _, _, rfl, RD.same_mut hk (by walk_at "sm") hf, hv, ?_⟩
          rw [part_succ, if_pos e, ← List.append_assoc]
          exact ((hpw.same (by walk_at "sm")).app (.cons (by assumption) .nil)).kb hk (by walk_at "hp")
        · walk_at "rds"
          refine ⟨_, _, _, rfl, by walk_at "sm", hf6, ?_⟩
          rw [part_succ, if_neg (by rw [e]; decide), List.append_nil]
          exact hpw.same s6
      · obtain ⟨x4, x5, ws, rfl, s4, hf4, hpw⟩ := hp
        rw [hlm] at hpw
        walk_at "rds"
        exact ⟨_, _, _, _, rfl, s4, hf4, by rw [upto_succ]; exact hpw⟩
    · obtain ⟨x3, x4, x5, vs, rfl, s2, hf2, hpl⟩ := hp
      walk_at "rds"
      refine q _ _ hf s2 ⟨_, hf2, ?_⟩
      have e : Int.toNat (z.length : Int) = z.cps.size := by
        have e : z.length = z.cps.size := rfl
        omega
      rw [e] at hpl
      exact hpl
theorem ok_q_strikes (T : Txt P K mg) : FnOk P w K mg base (L2.CX P w) 3 T.a_q_strikes T.fd_q_strikes ["book", "log"] (spStrikesC T.C_Book) := by
  have nd := sc_q_strikes.nd
  have G_check_log : FnOk P w K mg base (L2.CX P w) 2 T.a_check_log T.fd_check_log ["thing"] spCheckLog := ok_check_log T
  have G_raw_strikes : FnOk P w K mg base CX0 2 T.a_raw_strikes T.fd_raw_strikes ["book", "log"] (spStrikes T.C_Book) := (ok_raw_strikes T).mono (by decide)
  refine T.F_q_strikes.okX sc_q_strikes (fun vs H Q E h => ?_) (fun cdv A outer s H vs Q E hr h => ?_)
  · obtain ⟨b, t, zs, z, rfl, _⟩ := h
    rfl
  · obtain ⟨b, t, zs, z, rfl, hb, ht, g, hz, hl, q⟩ := h
    refine ⟨_, (pss_cons (ps_expr (pe_call G_check_log hr (by rfl) T.g_check_log T.F_check_log.kp T.b_check_log .nil NR.passN (pa_cons (pv 1) pa_nil)))
  (pss_one (ps_ret (pe_call G_raw_strikes hr (by rfl) T.g_raw_strikes T.F_raw_strikes.kp T.b_raw_strikes .nil pass0 (pa_cons (pv 0) (pa_cons (pv 1) pa_nil)))))), ?_⟩
    walk_at "rds"
    refine ⟨z, rfl, hz, hl, fun H1 s1 => ?_⟩
    walk_at "rds"
    exact ⟨b, t, zs, z, rfl, hb.same s1, s1 _ _ ht, g, hz, fun f H2 hf s2 hp => q f H2 (s1.free hf) (s1.trans s2) hp⟩
end


end K02

namespace K02
open PySem PySem.Spec PyProof.Rows L2
local macro_rules | `(tactic| walk_at "kd") => `(tactic| first | assumption | exact SPD.KdOf.int _ | exact SPD.KdOf.str _ | exact SPD.KdOf.bl _ | exact SPD.KdOf.non | exact SPD.KdOf.same (by assumption) (by walk_at "kd") | exact SPD.KdOf.tup (by walk_at "hp") | exact SPD.KdOf.lst (by walk_at "hp") | fail "no")
local macro_rules | `(tactic| walk_at "ne") => `(tactic| first | assumption | exact Ne.symm (by assumption) | fail "no")
local macro_rules | `(tactic| walk_at "hp") => `(tactic| first | assumption | exact RD.at_same (by assumption) (by walk_at "hp") | exact RD.at_kb (by assumption) (by walk_at "ne") (by walk_at "hp") | fail "no")
local macro_rules | `(tactic| walk_at "sq") => `(tactic| first | assumption | exact Or.inl (Or.inl (by walk_at "hp")) | exact Same.seq (by assumption) (by walk_at "sq") | exact RD.KB.seq (by assumption) (by walk_at "ne") (by walk_at "sq") | fail "no")
local macro_rules | `(tactic| walk_at "st") => `(tactic| first | assumption | exact Or.inl (Or.inl (by walk_at "hp")) | exact RD.Same.tup (by assumption) (by walk_at "st") | exact RD.KB.tup (by assumption) (by walk_at "ne") (by walk_at "st") | fail "no")
local macro_rules | `(tactic| walk_at "rd") => `(tactic| first
  | with_reducible refine RD.c ?_
  | ((with_reducible refine' RD.var ?rdE ?rdK); (case rdE => exact rfl))
  | with_reducible refine RD.op ?_
  | with_reducible refine RD.un ?_
  | with_reducible refine RD.nil ?_
  | with_reducible refine RD.cons ?_
  | with_reducible refine RD.cb ?_
  | with_reducible refine RD.call ?_
  | with_reducible refine RD.test ?_
  | with_reducible refine RD.tb' ?_
  | with_reducible refine RD.bl ?_
  | with_reducible refine RD.and' ?_
  | with_reducible refine RD.or' ?_
  | with_reducible refine RD.not' ?_
  | with_reducible refine RD.andV ?_
  | with_reducible refine RD.orV ?_
  | with_reducible refine RD.notV ?_
  | with_reducible refine RD.ife ?_
  | with_reducible refine RD.sl ?_
  | with_reducible refine RD.part ?_
  | with_reducible refine RD.noPart ?_
  | with_reducible refine RD.partI ?_
  | with_reducible refine RD.rd0 ?_
  | with_reducible refine RD.rdU ?_
  | ((with_reducible refine' RD.rdEq ?rdE ?rdK); (case rdE => rfl))
  | ((with_reducible refine' RD.rdNe ?rdE ?rdK); (case rdE => rfl))
  | ((with_reducible refine' RD.ixL ?rdH ?rdE ?rdK); (case rdH => walk_at "sq"); (case rdE => first | rfl | assumption))
  | ((with_reducible refine' RD.rdI ?rdC ?rdK); (case rdC => first | assumption | (show (0 : Int) < _; first | decide | omega) | exact ⟨by decide, by decide⟩ | exact ⟨by assumption, by assumption⟩ | exact .inr ⟨by decide, by decide⟩ | exact .inl ⟨by decide, by decide⟩ | exact ⟨by decide, by decide, by decide⟩ | exact .inl ⟨by omega, by omega⟩))
  | ((with_reducible refine' RD.setL ?rdH ?rdE ?rdK); (case rdH => walk_at "hp"); (case rdE => rfl); intro $(Lean.mkIdent `H'):ident $(Lean.mkIdent `hk):ident $(Lean.mkIdent `hv):ident)
  | ((with_reducible refine' RD.irng1V ?rdA ?rdB ?rdK); (case rdA => first | decide | omega); (case rdB => first | decide | omega))
  | with_reducible refine RD.int1 ?_
  | with_reducible refine RD.abs1 ?_
  | ((with_reducible refine' RD.len ?rdH ?rdK); (case rdH => first | exact Or.inl (by walk_at "sq") | exact Or.inr (by walk_at "st")))
  | with_reducible refine RD.tup ?_
  | with_reducible refine RD.lst ?_
  | with_reducible refine RD.ite1 ?_
  | with_reducible refine RD.ite0 ?_
  | with_reducible refine RD.ite1n ?_
  | with_reducible refine RD.ite0n ?_
  | with_reducible refine RD.seq ?_
  | with_reducible refine RD.asg ?_
  | with_reducible refine RD.name ?_
  | with_reducible refine RD.ret ?_
  | with_reducible refine RD.drop ?_
  | with_reducible refine RD.next ?_
  | with_reducible refine RD.ifs ?_
  | with_reducible refine RD.par ?_
  | with_reducible refine RD.par2 ?_
  | with_reducible refine RD.sub ?_
  | with_reducible refine RD.gcons ?_
  | with_reducible refine RD.gnil ?_
  | with_reducible refine RD.bm ?_
  | ((with_reducible refine' RD.bmL ?rdH ?rdK); (case rdH => walk_at "sq"))
  | ((with_reducible refine' RD.newZ ?rdH ?rdK); (case rdH => exact RD.sz _); intro $(Lean.mkIdent `p'):ident $(Lean.mkIdent `H'):ident $(Lean.mkIdent `hp):ident $(Lean.mkIdent `hs):ident $(Lean.mkIdent `hv):ident; (try have $(Lean.mkIdent `hn):ident := hand_ne $(Lean.mkIdent `hp):ident (by walk_at "hk")))
  | with_reducible refine RD.fors ?_
  | with_reducible refine RD.lc ?_
  | with_reducible refine RD.yes ?_
  | with_reducible refine RD.ilist ?_
  | ((with_reducible refine' RD.ilistV ?rdH ?rdK); (case rdH => walk_at "sq"))
  | with_reducible refine RD.itup ?_
  | ((with_reducible refine' RD.itupV ?rdH ?rdK); (case rdH => walk_at "st"))
  | with_reducible refine RD.irng1 ?_
  | with_reducible refine RD.irng2 ?_
  | ((with_reducible refine' RD.irng2V ?rdA ?rdK); (case rdA => first | decide | omega))
  | with_reducible refine RD.ienum ?_
  | ((with_reducible refine' RD.ienumV ?rdH ?rdK); (case rdH => walk_at "sq"))
  | with_reducible refine RD.izip ?_
  | ((with_reducible refine' RD.izipV ?rdH ?rdE ?rdK); (case rdH => walk_at "sq"); (case rdE => walk_at "sq"))
  | with_reducible refine SPD.izipA ?_
  | with_reducible refine RD.istr ?_
  | with_reducible refine RD.istrV ?_
  | ((with_reducible refine' RD.slL ?rdH ?rdK); (case rdH => walk_at "sq"); intro $(Lean.mkIdent `p'):ident $(Lean.mkIdent `H'):ident $(Lean.mkIdent `hp):ident $(Lean.mkIdent `hs):ident $(Lean.mkIdent `hv):ident; (try have $(Lean.mkIdent `hn):ident := hand_ne $(Lean.mkIdent `hp):ident (by walk_at "hk")))
  | ((with_reducible refine' RD.cat ?rdH ?rdE ?rdZ ?rdK); (case rdH => walk_at "hp"); (case rdE => walk_at "hp"); (case rdZ => exact RD.sz _); intro $(Lean.mkIdent `p'):ident $(Lean.mkIdent `H'):ident $(Lean.mkIdent `hp):ident $(Lean.mkIdent `hs):ident $(Lean.mkIdent `hv):ident; (try have $(Lean.mkIdent `hn):ident := hand_ne $(Lean.mkIdent `hp):ident (by walk_at "hk")))
  | ((with_reducible refine' RD.gtup ?rdH ?rdE ?rdK); (case rdH => walk_at "st"); (case rdE => rfl))
  | ((with_reducible refine' RD.app ?rdH ?rdZ ?rdK); (case rdH => walk_at "hp"); (case rdZ => first | assumption | (apply RD.szl; omega)); intro $(Lean.mkIdent `H'):ident $(Lean.mkIdent `hk):ident $(Lean.mkIdent `hv):ident)
  | ((with_reducible refine' RD.all1 ?rdH ?rdK); (case rdH => walk_at "sq"))
  | ((with_reducible refine' RD.any1 ?rdH ?rdK); (case rdH => walk_at "sq"))
  | ((with_reducible refine' SPD.dnew ?rdK); intro $(Lean.mkIdent `p'):ident $(Lean.mkIdent `H'):ident $(Lean.mkIdent `hp):ident $(Lean.mkIdent `hs):ident $(Lean.mkIdent `hv):ident; (try have $(Lean.mkIdent `hn):ident := hand_ne $(Lean.mkIdent `hp):ident (by walk_at "hk")))
  | ((with_reducible refine' SPD.disp1 ?rdK); intro $(Lean.mkIdent `p'):ident $(Lean.mkIdent `H'):ident $(Lean.mkIdent `hp):ident $(Lean.mkIdent `hs):ident $(Lean.mkIdent `hv):ident; (try have $(Lean.mkIdent `hn):ident := hand_ne $(Lean.mkIdent `hp):ident (by walk_at "hk")))
  | ((with_reducible refine' SPD.isSeq ?rdH ?rdE ?rdK); (case rdH => walk_at "hp"); (case rdE => walk_at "kd"))
  | ((with_reducible refine' SPD.isTup ?rdE ?rdK); (case rdE => walk_at "kd"))
  | ((with_reducible refine' SPD.isLst ?rdE ?rdK); (case rdE => walk_at "kd"))
  | ((with_reducible refine' SPD.isBool ?rdE ?rdK); (case rdE => walk_at "kd"))
  | ((with_reducible refine' SPD.isStr ?rdE ?rdK); (case rdE => walk_at "kd"))
  | ((with_reducible refine' SPD.isInt ?rdE ?rdK); (case rdE => walk_at "kd"))
  | dsimp only)
local macro_rules | `(tactic| walk_at "rds") => `(tactic| repeat walk_at "rd")
local macro_rules | `(tactic| walk_at "sm") => `(tactic| first | assumption | exact Same.refl _ | exact RD.sm_tr (by assumption) (by walk_at "sm") | fail "no")
local macro_rules | `(tactic| walk_at "kb") => `(tactic| first | assumption | exact RD.KB.refl | exact RD.kb_tr (by assumption) (by walk_at "kb") | exact RD.kb_trs (by assumption) (by walk_at "kb") | fail "no")
local macro_rules | `(tactic| walk_at "fr") => `(tactic| first | assumption | exact RD.fr_of (by assumption) (by walk_at "sm") | fail "no")
local macro_rules | `(tactic| walk_at "hk") => `(tactic| first | assumption | exact hand_same (by assumption) (by walk_at "hk") | exact hand_kb (by assumption) (by walk_at "fr") (by walk_at "hk") | fail "no")
local macro_rules | `(tactic| walk_at "na") => `(tactic| first | assumption | exact hand_ne (by assumption) (by walk_at "hk") | fail "no")
local macro_rules | `(tactic| walk_at "dqa") => `(tactic| first | exact SPD.DqA.nil | exact SPD.DqA.cons (by walk_at "dq") (by walk_at "dqa") | exact SPD.DqA.app (by walk_at "dqa") (by walk_at "dqa") | fail "no")
local macro_rules | `(tactic| walk_at "dq") => `(tactic| first | assumption | exact SPD.Dq.leaf rfl | exact SPD.dq_kb (by assumption) (by walk_at "kb") | exact SPD.dqTup (by walk_at "hp") (by walk_at "na") (by walk_at "dqa") | exact SPD.dqLst (by walk_at "hp") (by walk_at "na") (by walk_at "dqa") | exact SPD.dqNil (by walk_at "hp") (by walk_at "na") (by first | decide | simp) (by first | decide | simp) | fail "no")

local macro_rules | `(tactic| walk_at "rd") => `(tactic| first
  | with_reducible refine RB.chain ?_
  | with_reducible refine RB.m1 ?_
  | with_reducible refine RB.strE ?_
  | with_reducible refine RB.fld ?_
  | with_reducible refine RB.setF ?_
  | with_reducible refine RB.ss ?_
  | with_reducible refine RB.rev ?_
  | with_reducible refine RB.make ?_
  | with_reducible refine RB.makeS ?_
  | with_reducible refine RB.mkO ?_
  | with_reducible refine NR.ienumT ?_
  | with_reducible refine RB.inS ?_
  | with_reducible refine RB.bmS ?_
  | with_reducible refine RB.callS ?_
  | with_reducible refine RB.sw3 ?_
  | with_reducible refine RB.par3 ?_
  | with_reducible refine RB.par3V ?_
  | ((with_reducible refine' RB.slS ?rdH ?rdK); (case rdH => walk_at "sz"))
  | with_reducible refine RB.xf ?_
  | ((with_reducible refine' RB.xfV ?rdH ?rdE ?rdK); (case rdH => walk_at "hp"); (case rdE => rfl))
  | ((with_reducible refine' NR.ienumTV ?rdH ?rdK); (case rdH => walk_at "st"))
  | ((with_reducible refine' RB.lenL ?rdH ?rdK); (case rdH => walk_at "sq"))
  | ((with_reducible refine' RB.lenT ?rdH ?rdK); (case rdH => walk_at "st"))
  | ((with_reducible refine' RB.lenS ?rdH ?rdK); (case rdH => walk_at "sz"))
  | ((with_reducible refine' RD.lenS ?rdH ?rdK); (case rdH => walk_at "sz"))
  | ((with_reducible refine' RB.slT ?rdH ?rdK); (case rdH => walk_at "hp"); intro $(Lean.mkIdent `p'):ident $(Lean.mkIdent `H'):ident $(Lean.mkIdent `hs):ident $(Lean.mkIdent `hv):ident $(Lean.mkIdent `hp):ident; (try have $(Lean.mkIdent `hn):ident := two_ne $(Lean.mkIdent `hp):ident (by walk_at "na") (by walk_at "hk")))
  | ((with_reducible refine' RB.revV ?rdH ?rdK); (case rdH => walk_at "st"); intro $(Lean.mkIdent `p'):ident $(Lean.mkIdent `H'):ident $(Lean.mkIdent `hp):ident $(Lean.mkIdent `hs):ident $(Lean.mkIdent `hv):ident; (try have $(Lean.mkIdent `hn):ident := hand_ne $(Lean.mkIdent `hp):ident (by walk_at "hk")))
  | ((with_reducible refine' RB.listS ?rdH ?rdK); (case rdH => walk_at "sz"); intro $(Lean.mkIdent `p'):ident $(Lean.mkIdent `H'):ident $(Lean.mkIdent `hp):ident $(Lean.mkIdent `hs):ident $(Lean.mkIdent `hv):ident; (try have $(Lean.mkIdent `hn):ident := hand_ne $(Lean.mkIdent `hp):ident (by walk_at "hk")))
  | ((with_reducible refine' RB.listO ?rdH ?rdK); (case rdH => first | exact Or.inl (by walk_at "sq") | exact Or.inr (by walk_at "st")); intro $(Lean.mkIdent `p'):ident $(Lean.mkIdent `H'):ident $(Lean.mkIdent `hp):ident $(Lean.mkIdent `hs):ident $(Lean.mkIdent `hv):ident; (try have $(Lean.mkIdent `hn):ident := hand_ne $(Lean.mkIdent `hp):ident (by walk_at "hk")))
  | ((with_reducible refine' RB.tupL ?rdH ?rdK); (case rdH => walk_at "sq"); intro $(Lean.mkIdent `p'):ident $(Lean.mkIdent `H'):ident $(Lean.mkIdent `hp):ident $(Lean.mkIdent `hs):ident $(Lean.mkIdent `hv):ident; (try have $(Lean.mkIdent `hn):ident := hand_ne $(Lean.mkIdent `hp):ident (by walk_at "hk")))
  | ((with_reducible refine' RB.catT ?rdH ?rdE ?rdZ ?rdK); (case rdH => walk_at "hp"); (case rdE => walk_at "hp"); (case rdZ => exact RB.LN.sum (by walk_at "ln") (by walk_at "ln") rfl); intro $(Lean.mkIdent `p'):ident $(Lean.mkIdent `H'):ident $(Lean.mkIdent `hs):ident $(Lean.mkIdent `hv):ident $(Lean.mkIdent `hp):ident; (try have $(Lean.mkIdent `hn):ident := three_ne $(Lean.mkIdent `hp):ident (by walk_at "na") (by walk_at "na") (by walk_at "hk")))
  | fail "no")
local macro_rules | `(tactic| walk_at "ln") => `(tactic| first | with_reducible assumption | exact RB.LN.cut (by walk_at "ln") | exact RB.LN.app (by walk_at "ln") (by walk_at "ln") | exact RB.LN.rev (by walk_at "ln") | exact RB.LN.rep (by walk_at "ln") | exact RB.LN.lit rfl | fail "no")
local macro_rules | `(tactic| walk_at "sz") => `(tactic| first | assumption | exact RD.sz _ | fail "no")

/-! ### a strike -/
/-- what pair of numbers a thing is, if it is a strike -/
def skO (H : Hp) (zs : List Str) (z : Str) (v : V) : Option (Nat × Nat) := match v with
  | .ref a => match H a with
    | some (.tup [.int p, .int k]) => if 0 ≤ p ∧ 0 ≤ k ∧ (p.toNat, k.toNat) ∈ strikesL zs z then some (p.toNat, k.toNat) else none
    | _ => none
  | _ => none
theorem sk_at {H : Hp} {zs : List Str} {z : Str} {a : Addr} {p k : Int} (h : H a = some (.tup [.int p, .int k])) : skO H zs z (.ref a) = if 0 ≤ p ∧ 0 ≤ k ∧ (p.toNat, k.toNat) ∈ strikesL zs z then some (p.toNat, k.toNat) else none := by
  unfold skO
  simp only [h]
theorem sk_nat {H : Hp} {zs : List Str} {z : Str} {a : Addr} {p k : Nat} (h : H a = some (.tup [.int (p : Nat), .int (k : Nat)])) (hm : (p, k) ∈ strikesL zs z) : skO H zs z (.ref a) = some (p, k) := by
  rw [sk_at h, if_pos ⟨by omega, by omega, hm⟩]
  rfl
theorem sk_some {H : Hp} {zs : List Str} {z : Str} {v : V} {p k : Nat} (h : skO H zs z v = some (p, k)) : ∃ a, v = .ref a ∧ H a = some (.tup [.int (p : Nat), .int (k : Nat)]) ∧ (p, k) ∈ strikesL zs z := by
  cases v with
  | ref a =>
    unfold skO at h
    simp only at h
    split at h
    · rename_i i j e
      split at h
      · rename_i c
        have h := Option.some.inj h
        have h1 := congrArg Prod.fst h
        have h2 := congrArg Prod.snd h
        simp only at h1 h2
        refine ⟨a, rfl, ?_, ?_⟩
        · rw [e, ← h1, ← h2, Int.toNat_of_nonneg c.1, Int.toNat_of_nonneg c.2.1]
        · rw [← h1, ← h2]
          exact c.2.2
      · cases h
    · cases h
  | _ => cases h
/-- no strike: no pair, or no whole numbers in it, or none of them all -/
theorem sk_none {H : Hp} {zs : List Str} {z : Str} {v : V} (h : ∀ a i j, v = .ref a → H a = some (.tup [.int i, .int j]) → 0 ≤ i → 0 ≤ j → (i.toNat, j.toNat) ∉ strikesL zs z) : skO H zs z v = none := by
  cases e : skO H zs z v with
  | none => rfl
  | some q =>
    obtain ⟨p, k⟩ := q
    obtain ⟨a, rfl, ha, hm⟩ := sk_some e
    exact absurd hm (h a p k rfl ha (by omega) (by omega))
theorem sk_same {x : Addr} {H H' : Hp} {n : Nat} {zs : List Str} {z : Str} {v : V} (h : SPD.Dq x H n v) (s : Same H H') : skO H' zs z v = skO H zs z v := by
  cases h with
  | leaf e => cases v <;> first | rfl | cases e
  | dct ne h0 _ _ => unfold skO; simp only [h0, s _ _ h0]
  | tup ne h0 _ _ => unfold skO; simp only [h0, s _ _ h0]
  | lst ne h0 _ _ => unfold skO; simp only [h0, s _ _ h0]
theorem dq_items {x : Addr} {H : Hp} {n : Nat} {t : Addr} {xs : List V} (hd : SPD.Dq x H n (.ref t)) (ht : H t = some (.tup xs)) : ∀ y, y ∈ xs → ∃ m, SPD.Dq x H m y := by
  cases hd with
  | leaf e => cases e
  | dct ne h0 _ _ =>
    rw [h0] at ht
    cases ht
  | tup ne h0 hl hall =>
    rw [h0] at ht
    cases ht
    exact fun y hy => ⟨_, hall y hy⟩
  | lst ne h0 hl hall =>
    rw [h0] at ht
    cases ht
theorem two_items {xs : List V} (h : xs.length = 2) : ∃ x y, xs = [x, y] := by
  match xs, h with
  | [x, y], _ => exact ⟨x, y, rfl⟩
theorem at_strs {zs : List Str} {j : Int} (h0 : 0 ≤ j) (h1 : j < zs.length) : ∃ y, atI (zs.map V.str) j = some (.str y) ∧ zs[j.toNat]? = some y := by
  obtain ⟨v, h, e⟩ := RD.at_lt (xs := zs.map V.str) h0 (by rw [List.length_map]; exact h1)
  obtain ⟨y, rfl, hy⟩ := get_strs e
  exact ⟨y, h, hy⟩
def spIsStrike (C : Addr) : Sp := fun vs H Q _ => ∃ (b t x : Addr) (n : Nat) (zs : List Str) (z : Str) (v : V), vs = [.ref b, .str z, v] ∧ BookAt H C b t ∧ H t = some (.tup (zs.map V.str)) ∧ Good zs ∧ z.cps.size ≤ 100000 ∧ SPD.Dq x H n v ∧ ∀ H', Same H H' → Q (.bl (skO H zs z v).isSome) H'
def spRawStruck (C : Addr) : Sp := fun vs H Q _ => ∃ (b t s : Addr) (p k : Nat) (zs : List Str) (z : Str), vs = [.ref b, .str z, .ref s] ∧ BookAt H C b t ∧ H t = some (.tup (zs.map V.str)) ∧ Good zs ∧ z.cps.size ≤ 100000 ∧ H s = some (.tup [.int (p : Nat), .int (k : Nat)]) ∧ (p, k) ∈ strikesL zs z ∧ ∀ H', Same H H' → Q (.str (struckS zs z p k)) H'
def spStruckC (C : Addr) : Sp := fun vs H Q _ => ∃ (b t s x : Addr) (n : Nat) (p k : Nat) (zs : List Str) (z : Str), vs = [.ref b, .str z, .ref s] ∧ BookAt H C b t ∧ H t = some (.tup (zs.map V.str)) ∧ Good zs ∧ z.cps.size ≤ 100000 ∧ logB z = true ∧ SPD.Dq x H n (.ref s) ∧ H s = some (.tup [.int (p : Nat), .int (k : Nat)]) ∧ (p, k) ∈ strikesL zs z ∧ ∀ H', Same H H' → Q (.str (struckS zs z p k)) H'
def spStruckL : Sp := fun vs H Q _ => ∃ (t s : Addr) (p k : Nat) (zs : List Str) (z : Str), vs = [.ref t, .str z, .ref s] ∧ H t = some (.tup (zs.map V.str)) ∧ Good zs ∧ z.cps.size ≤ 100000 ∧ H s = some (.tup [.int (p : Nat), .int (k : Nat)]) ∧ (p, k) ∈ strikesL zs z ∧ ∀ H', Same H H' → Q (.str (struckS zs z p k)) H'
theorem sum_cut {z : Str} {lo hi lo' hi' : Option Int} (hz : z.cps.size ≤ 100000) : (cutS z lo hi).length + (cutS z lo' hi').length ≤ sizeLine := by
  have h1 := cut_size z lo hi
  have h2 := cut_size z lo' hi'
  have e : ∀ x : Str, x.length = x.cps.size := fun _ => rfl
  rw [e, e]
  exact RD.szo (by omega)
section
variable {P : Program} {w : World} {K : PySem.W.Frag} {mg : Str → Option Value} {base : Heap}
theorem ok_is_strike (T : Txt P K mg) : FnOk P w K mg base CX0 3 T.a_is_strike T.fd_is_strike ["book", "log", "thing"] (spIsStrike T.C_Book) := by
  have nd := sc_is_strike.nd
  have G_is_within : FnOk P w K mg base CX0 2 T.a_is_within T.fd_is_within ["thing", "least", "most"] spWithin := ok_is_within T
  have G_is_tuple_of : FnOk P w K mg base CX0 2 T.a_is_tuple_of T.fd_is_tuple_of ["thing", "size"] spTupOf := (ok_is_tuple_of T).mono (by decide)
  refine T.F_is_strike.ok sc_is_strike (fun vs H Q E h => ?_) (fun cdv A outer s H vs Q E hr h => ?_)
  · obtain ⟨b, t, x, n, zs, z, v, rfl, _⟩ := h
    rfl
  · obtain ⟨b, t, x, n, zs, z, v, rfl, ⟨dx, hb⟩, ht, g, hz, hd, q⟩ := h
    refine ⟨_, (pss_cons (ps_if (PW.pt (pw_or (pt_not (pt_val (pe_call G_is_tuple_of hr (by rfl) T.g_is_tuple_of T.F_is_tuple_of.kp T.b_is_tuple_of .nil pass0 (pa_cons (pv 2) (pa_cons pe_int pa_nil))))) (pw_or1 (pt_not (pt_val (pe_call G_is_within hr (by rfl) T.g_is_within T.F_is_within.kp T.b_is_within .nil pass0 (pa_cons (pe_ix ix_tup (pv 2) pe_int (fun _ _ => rfl)) (pa_cons pe_int (pa_cons (pe_op op_sub (pe_callB call_len_str (by rfl) T.m_len PySem.boot_len (pa_cons (pv 1) pa_nil)) pe_int) pa_nil)))))))))
    (pss_one (ps_ret pe_bl))
    pss_nil)
  (pss_one (ps_ret (pe_and (pe_call G_is_within hr (by rfl) T.g_is_within T.F_is_within.kp T.b_is_within .nil pass0 (pa_cons (pe_ix ix_tup (pv 2) pe_int (fun _ _ => rfl)) (pa_cons pe_int (pa_cons (pe_op op_sub (pe_callB call_len_seq (by rfl) T.m_len PySem.boot_len (pa_cons (pe_fld (pv 0) rfl) pa_nil)) pe_int) pa_nil)))) (pe_one (pe_bm PySem.F.plainAttrs_str PySem.F.slot_str_startswith PySem.F.type_str_startswith mt_startswith3 (pv 1) (pa_cons (pe_ix ix_tup (pe_fld (pv 0) rfl) (pe_ix ix_tup (pv 2) pe_int (fun _ _ => rfl)) (fun _ _ => rfl)) (pa_cons (pe_ix ix_tup (pv 2) pe_int (fun _ _ => rfl)) pa_nil)))))))), ?_⟩
    have hzl : z.length = z.cps.size := rfl
    have hzs : z.length ≤ sizeLine := small_len hz
    have hlm : (zs.map V.str).length = zs.length := List.length_map ..
    walk_at "rds"
    refine ⟨x, n, v, 2, rfl, hd, fun H1 s1 => ?_⟩
    walk_at "rds"
    refine RD.ite_b (fun e => ?_) (fun e => ?_)
    · have e : tupV H v 2 = false := by simpa using e
      have e2 : skO H zs z v = none := sk_none fun a i j h1 h2 _ _ => by
        subst h1
        rw [tup_at h2] at e
        exact absurd (show true = false from e) (by decide)
      rw [e2] at q
      walk_at "rds"
      exact q _ s1
    · have e : tupV H v 2 = true := by simpa using e
      obtain ⟨s, xs, rfl, hs0, hl⟩ := tup_of e
      obtain ⟨u, v, rfl⟩ := two_items hl
      obtain ⟨m1, hu⟩ := dq_items hd hs0 u (by simp)
      obtain ⟨m2, hv0⟩ := dq_items hd hs0 v (by simp)
      have hs1 := s1 _ _ hs0
      have hb1 := s1 _ _ hb
      have ht1 := s1 _ _ ht
      walk_at "rds"
      refine RD.ixT (by walk_at "st") rfl ?_
      walk_at "rds"
      refine ⟨x, m1, u, 0, _, rfl, hu.same s1, fun H2 s2 => ?_⟩
      walk_at "rds"
      refine RD.ite_b (fun e => ?_) (fun e => ?_)
      · have e : withV u 0 ((z.length : Int) - 1) = false := by simpa using e
        have e2 : skO H zs z (.ref s) = none := sk_none fun a i j h1 h2 h3 h4 hm => by
          cases h1
          rw [hs0] at h2
          cases h2
          have := (mem_strikes.mp hm).1
          rw [with_in h3 (by omega)] at e
          cases e
        rw [e2] at q
        walk_at "rds"
        exact q _ (s1.trans s2)
      · have e : withV u 0 ((z.length : Int) - 1) = true := by simpa using e
        obtain ⟨i, rfl, hi0, hi1⟩ := with_int e
        have hs2 := s2 _ _ hs1
        have hb2 := s2 _ _ hb1
        have ht2 := s2 _ _ ht1
        walk_at "rds"
        refine RD.ixT (by walk_at "st") rfl ?_
        walk_at "rds"
        refine RB.fldV hb2 T.cl_Book T.no_Book_pieces rfl ?_
        walk_at "rds"
        refine ⟨x, m2, v, 0, _, rfl, hv0.same (s1.trans s2), fun H3 s3 => ?_⟩
        walk_at "rds"
        have s13 := (s1.trans s2).trans s3
        refine RD.ite_b (fun e => ?_) (fun e => ?_)
        · obtain ⟨j, rfl, hj0, hj1⟩ := with_int e
          have hs3 := s3 _ _ hs2
          have hb3 := s3 _ _ hb2
          have ht3 := s3 _ _ ht2
          obtain ⟨y, hya, hyj⟩ := at_strs (zs := zs) hj0 (by omega)
          walk_at "rds"
          refine RB.fldV hb3 T.cl_Book T.no_Book_pieces rfl ?_
          walk_at "rds"
          refine RD.ixT (by walk_at "st") rfl ?_
          refine RD.ixT (by walk_at "st") hya ?_
          walk_at "rds"
          refine RD.ixT (by walk_at "st") rfl ?_
          walk_at "rds"
          have e2 : (skO H zs z (.ref s)).isSome = Txt.startswith3 z y i := by
            have ei : i = ((i.toNat : Nat) : Int) := (Int.toNat_of_nonneg hi0).symm
            have eh : hitB zs z i.toNat j.toNat = Txt.startswith3 z y i := by
              rw [hit_at hyj, ← ei]
            rw [sk_at hs0, ← eh]
            cases c : hitB zs z i.toNat j.toNat with
            | true => rw [if_pos ⟨hi0, hj0, mem_strikes.mpr ⟨by omega, (List.getElem?_eq_some_iff.mp hyj).1, c⟩⟩]; rfl
            | false => rw [if_neg (fun h => by rw [(mem_strikes.mp h.2.2).2.2] at c; cases c)]; rfl
          rw [← e2]
          exact q _ s13
        · have e : withV v 0 (((zs.map V.str).length : Int) - 1) = false := e
          have e2 : skO H zs z (.ref s) = none := sk_none fun a i j h1 h2 h3 h4 hm => by
            cases h1
            rw [hs0] at h2
            cases h2
            have := (mem_strikes.mp hm).2.1
            rw [with_in h4 (by omega)] at e
            cases e
          rw [e2] at q
          exact q _ s13
theorem ok_raw_struck (T : Txt P K mg) : FnOk P w K mg base CX0 1 T.a_raw_struck T.fd_raw_struck ["book", "log", "strike"] (spRawStruck T.C_Book) := by
  have nd := sc_raw_struck.nd
  refine T.F_raw_struck.ok sc_raw_struck (fun vs H Q E h => ?_) (fun cdv A outer s H vs Q E hr h => ?_)
  · obtain ⟨b, t, s, p, k, zs, z, rfl, _⟩ := h
    rfl
  · obtain ⟨b, t, s, p, k, zs, z, rfl, ⟨dx, hb⟩, ht, g, hz, hs0, hm, q⟩ := h
    refine ⟨_, (pss_one (ps_ret (pe_op op_add_str (pe_slice sl_str (pv 1) po_none (po_some (pe_ix ix_tup (pv 2) pe_int (fun _ _ => rfl)))) (pe_slice sl_str (pv 1) (po_some (pe_op op_add (pe_ix ix_tup (pv 2) pe_int (fun _ _ => rfl)) (pe_callB call_len_str (by rfl) T.m_len PySem.boot_len (pa_cons (pe_ix ix_tup (pe_fld (pv 0) rfl) (pe_ix ix_tup (pv 2) pe_int (fun _ _ => rfl)) (fun _ _ => rfl)) pa_nil)))) po_none)))), ?_⟩
    have hzs : z.length ≤ sizeLine := small_len hz
    obtain ⟨hp1, hk1, _⟩ := mem_strikes.mp hm
    obtain ⟨y, hya, hyj⟩ := at_strs (zs := zs) (j := (k : Int)) (by omega) (by omega)
    have hys : y.length ≤ sizeLine := small_len (Nat.le_trans (piece_size (g.piece y (List.mem_of_getElem? hyj))).2 (by decide))
    have e2 : pcs zs k = y := by
      unfold pcs
      rw [List.getD_eq_getElem?_getD, show k = (k : Int).toNat from rfl, hyj]
      rfl
    walk_at "rds"
    refine RD.ixT (by walk_at "st") rfl ?_
    walk_at "rds"
    refine RD.ixT (by walk_at "st") rfl ?_
    walk_at "rds"
    refine RB.fldV hb T.cl_Book T.no_Book_pieces rfl ?_
    walk_at "rds"
    refine RD.ixT (by walk_at "st") rfl ?_
    refine RD.ixT (by walk_at "st") hya ?_
    walk_at "rds"
    refine RB.addS (sum_cut hz) ?_
    rw [← e2]
    exact q _ (Same.refl _)
theorem ok_struck (T : Txt P K mg) : FnOk P w K mg base CX0 1 T.a_struck T.fd_struck ["_law_pieces_here", "_law_log_here", "_law_strike"] spStruckL := by
  have nd := sc_struck.nd
  refine T.F_struck.ok sc_struck (fun vs H Q E h => ?_) (fun cdv A outer s H vs Q E hr h => ?_)
  · obtain ⟨t, s, p, k, zs, z, rfl, _⟩ := h
    rfl
  · obtain ⟨t, s, p, k, zs, z, rfl, ht, g, hz, hs0, hm, q⟩ := h
    refine ⟨_, (pss_one (ps_ret (pe_op op_add_str (pe_slice sl_str (pv 1) po_none (po_some (pe_ix ix_tup (pv 2) pe_int (fun _ _ => rfl)))) (pe_slice sl_str (pv 1) (po_some (pe_op op_add (pe_ix ix_tup (pv 2) pe_int (fun _ _ => rfl)) (pe_callB call_len_str (by rfl) T.m_len PySem.boot_len (pa_cons (pe_ix ix_tup (pv 0) (pe_ix ix_tup (pv 2) pe_int (fun _ _ => rfl)) (fun _ _ => rfl)) pa_nil)))) po_none)))), ?_⟩
    have hzs : z.length ≤ sizeLine := small_len hz
    obtain ⟨hp1, hk1, _⟩ := mem_strikes.mp hm
    obtain ⟨y, hya, hyj⟩ := at_strs (zs := zs) (j := (k : Int)) (by omega) (by omega)
    have hys : y.length ≤ sizeLine := small_len (Nat.le_trans (piece_size (g.piece y (List.mem_of_getElem? hyj))).2 (by decide))
    have e2 : pcs zs k = y := by
      unfold pcs
      rw [List.getD_eq_getElem?_getD, show k = (k : Int).toNat from rfl, hyj]
      rfl
    walk_at "rds"
    refine RD.ixT (by walk_at "st") rfl ?_
    walk_at "rds"
    refine RD.ixT (by walk_at "st") rfl ?_
    walk_at "rds"
    refine RD.ixT (by walk_at "st") rfl ?_
    refine RD.ixT (by walk_at "st") hya ?_
    walk_at "rds"
    refine RB.addS (sum_cut hz) ?_
    rw [← e2]
    exact q _ (Same.refl _)
theorem ok_q_struck (T : Txt P K mg) : FnOk P w K mg base (L2.CX P w) 4 T.a_q_struck T.fd_q_struck ["book", "log", "strike"] (spStruckC T.C_Book) := by
  have nd := sc_q_struck.nd
  have G_check_log : FnOk P w K mg base (L2.CX P w) 3 T.a_check_log T.fd_check_log ["thing"] spCheckLog := (ok_check_log T).mono (by decide)
  have G_is_strike : FnOk P w K mg base CX0 3 T.a_is_strike T.fd_is_strike ["book", "log", "thing"] (spIsStrike T.C_Book) := ok_is_strike T
  have G_raw_struck : FnOk P w K mg base CX0 3 T.a_raw_struck T.fd_raw_struck ["book", "log", "strike"] (spRawStruck T.C_Book) := (ok_raw_struck T).mono (by decide)
  refine T.F_q_struck.okX sc_q_struck (fun vs H Q E h => ?_) (fun cdv A outer s H vs Q E hr h => ?_)
  · obtain ⟨b, t, s, x, n, p, k, zs, z, rfl, _⟩ := h
    rfl
  · obtain ⟨b, t, s, x, n, p, k, zs, z, rfl, hb, ht, g, hz, hl, hd, hs0, hm, q⟩ := h
    refine ⟨_, (pss_cons (ps_expr (pe_call G_check_log hr (by rfl) T.g_check_log T.F_check_log.kp T.b_check_log .nil NR.passN (pa_cons (pv 1) pa_nil)))
  (pss_cons (ps_if (pt_not (pt_val (pe_call G_is_strike hr (by rfl) T.g_is_strike T.F_is_strike.kp T.b_is_strike .nil pass0 (pa_cons (pv 0) (pa_cons (pv 1) (pa_cons (pv 2) pa_nil))))))
    (pss_one (ps_raise rfl (takes_of rfl rfl rfl rfl) (NR.pmk_own0 T.k_NoStrike T.g_NoStrike T.kp_NoStrike T.bx_NoStrike T.tx_NoStrike (by rfl))))
    pss_nil)
  (pss_one (ps_ret (pe_call G_raw_struck hr (by rfl) T.g_raw_struck T.F_raw_struck.kp T.b_raw_struck .nil pass0 (pa_cons (pv 0) (pa_cons (pv 1) (pa_cons (pv 2) pa_nil)))))))), ?_⟩
    walk_at "rds"
    refine ⟨z, rfl, hz, hl, fun H1 s1 => ?_⟩
    walk_at "rds"
    refine ⟨b, t, x, n, zs, z, .ref s, rfl, hb.same s1, s1 _ _ ht, g, hz, hd.same s1, fun H2 s2 => ?_⟩
    rw [sk_nat (s1 _ _ hs0) hm]
    rw [show (some (p, k)).isSome = true from rfl]
    walk_at "rds"
    have s12 := s1.trans s2
    exact ⟨b, t, s, p, k, zs, z, rfl, hb.same s12, s12 _ _ ht, g, hz, s12 _ _ hs0, hm, fun H3 s3 => q _ (s12.trans s3)⟩
end


end K02

namespace K02
open PySem PySem.Spec PyProof.Rows L2
local macro_rules | `(tactic| walk_at "kd") => `(tactic| first | assumption | exact SPD.KdOf.int _ | exact SPD.KdOf.str _ | exact SPD.KdOf.bl _ | exact SPD.KdOf.non | exact SPD.KdOf.same (by assumption) (by walk_at "kd") | exact SPD.KdOf.tup (by walk_at "hp") | exact SPD.KdOf.lst (by walk_at "hp") | fail "no")
local macro_rules | `(tactic| walk_at "ne") => `(tactic| first | assumption | exact Ne.symm (by assumption) | fail "no")
local macro_rules | `(tactic| walk_at "hp") => `(tactic| first | assumption | exact RD.at_same (by assumption) (by walk_at "hp") | exact RD.at_kb (by assumption) (by walk_at "ne") (by walk_at "hp") | fail "no")
local macro_rules | `(tactic| walk_at "sq") => `(tactic| first | assumption | exact Or.inl (Or.inl (by walk_at "hp")) | exact Same.seq (by assumption) (by walk_at "sq") | exact RD.KB.seq (by assumption) (by walk_at "ne") (by walk_at "sq") | fail "no")
local macro_rules | `(tactic| walk_at "st") => `(tactic| first | assumption | exact Or.inl (Or.inl (by walk_at "hp")) | exact RD.Same.tup (by assumption) (by walk_at "st") | exact RD.KB.tup (by assumption) (by walk_at "ne") (by walk_at "st") | fail "no")
local macro_rules | `(tactic| walk_at "rd") => `(tactic| first
  | with_reducible refine RD.c ?_
  | ((with_reducible refine' RD.var ?rdE ?rdK); (case rdE => exact rfl))
  | with_reducible refine RD.op ?_
  | with_reducible refine RD.un ?_
  | with_reducible refine RD.nil ?_
  | with_reducible refine RD.cons ?_
  | with_reducible refine RD.cb ?_
  | with_reducible refine RD.call ?_
  | with_reducible refine RD.test ?_
  | with_reducible refine RD.tb' ?_
  | with_reducible refine RD.bl ?_
  | with_reducible refine RD.and' ?_
  | with_reducible refine RD.or' ?_
  | with_reducible refine RD.not' ?_
  | with_reducible refine RD.andV ?_
  | with_reducible refine RD.orV ?_
  | with_reducible refine RD.notV ?_
  | with_reducible refine RD.ife ?_
  | with_reducible refine RD.sl ?_
  | with_reducible refine RD.part ?_
  | with_reducible refine RD.noPart ?_
  | with_reducible refine RD.partI ?_
  | with_reducible refine RD.rd0 ?_
  | with_reducible refine RD.rdU ?_
  | ((with_reducible refine' RD.rdEq ?rdE ?rdK); (case rdE => rfl))
  | ((with_reducible refine' RD.rdNe ?rdE ?rdK); (case rdE => rfl))
  | ((with_reducible refine' RD.ixL ?rdH ?rdE ?rdK); (case rdH => walk_at "sq"); (case rdE => first | rfl | assumption))
  | ((with_reducible refine' RD.rdI ?rdC ?rdK); (case rdC => first | assumption | (show (0 : Int) < _; first | decide | omega) | exact ⟨by decide, by decide⟩ | exact ⟨by assumption, by assumption⟩ | exact .inr ⟨by decide, by decide⟩ | exact .inl ⟨by decide, by decide⟩ | exact ⟨by decide, by decide, by decide⟩ | exact .inl ⟨by omega, by omega⟩))
  | ((with_reducible refine' RD.setL ?rdH ?rdE ?rdK); (case rdH => walk_at "hp"); (case rdE => rfl); intro $(Lean.mkIdent `H'):ident $(Lean.mkIdent `hk):ident $(Lean.mkIdent `hv):ident)
  | ((with_reducible refine' RD.irng1V ?rdA ?rdB ?rdK); (case rdA => first | decide | omega); (case rdB => first | decide | omega))
  | with_reducible refine RD.int1 ?_
  | with_reducible refine RD.abs1 ?_
  | ((with_reducible refine' RD.len ?rdH ?rdK); (case rdH => first | exact Or.inl (by walk_at "sq") | exact Or.inr (by walk_at "st")))
  | with_reducible refine RD.tup ?_
  | with_reducible refine RD.lst ?_
  | with_reducible refine RD.ite1 ?_
  | with_reducible refine RD.ite0 ?_
  | with_reducible refine RD.ite1n ?_
  | with_reducible refine RD.ite0n ?_
  | with_reducible refine RD.seq ?_
  | with_reducible refine RD.asg ?_
  | with_reducible refine RD.name ?_
  | with_reducible refine RD.ret ?_
  | with_reducible refine RD.drop ?_
  | with_reducible refine RD.next ?_
  | with_reducible refine RD.ifs ?_
  | with_reducible refine RD.par ?_
  | with_reducible refine RD.par2 ?_
  | with_reducible refine RD.sub ?_
  | with_reducible refine RD.gcons ?_
  | with_reducible refine RD.gnil ?_
  | with_reducible refine RD.bm ?_
  | ((with_reducible refine' RD.bmL ?rdH ?rdK); (case rdH => walk_at "sq"))
  | ((with_reducible refine' RD.newZ ?rdH ?rdK); (case rdH => exact RD.sz _); intro $(Lean.mkIdent `p'):ident $(Lean.mkIdent `H'):ident $(Lean.mkIdent `hp):ident $(Lean.mkIdent `hs):ident $(Lean.mkIdent `hv):ident; (try have $(Lean.mkIdent `hn):ident := hand_ne $(Lean.mkIdent `hp):ident (by walk_at "hk")))
  | with_reducible refine RD.fors ?_
  | with_reducible refine RD.lc ?_
  | with_reducible refine RD.yes ?_
  | with_reducible refine RD.ilist ?_
  | ((with_reducible refine' RD.ilistV ?rdH ?rdK); (case rdH => walk_at "sq"))
  | with_reducible refine RD.itup ?_
  | ((with_reducible refine' RD.itupV ?rdH ?rdK); (case rdH => walk_at "st"))
  | with_reducible refine RD.irng1 ?_
  | with_reducible refine RD.irng2 ?_
  | ((with_reducible refine' RD.irng2V ?rdA ?rdK); (case rdA => first | decide | omega))
  | with_reducible refine RD.ienum ?_
  | ((with_reducible refine' RD.ienumV ?rdH ?rdK); (case rdH => walk_at "sq"))
  | with_reducible refine RD.izip ?_
  | ((with_reducible refine' RD.izipV ?rdH ?rdE ?rdK); (case rdH => walk_at "sq"); (case rdE => walk_at "sq"))
  | with_reducible refine SPD.izipA ?_
  | with_reducible refine RD.istr ?_
  | with_reducible refine RD.istrV ?_
  | ((with_reducible refine' RD.slL ?rdH ?rdK); (case rdH => walk_at "sq"); intro $(Lean.mkIdent `p'):ident $(Lean.mkIdent `H'):ident $(Lean.mkIdent `hp):ident $(Lean.mkIdent `hs):ident $(Lean.mkIdent `hv):ident; (try have $(Lean.mkIdent `hn):ident := hand_ne $(Lean.mkIdent `hp):ident (by walk_at "hk")))
  | ((with_reducible refine' RD.cat ?rdH ?rdE ?rdZ ?rdK); (case rdH => walk_at "hp"); (case rdE => walk_at "hp"); (case rdZ => exact RD.sz _); intro $(Lean.mkIdent `p'):ident $(Lean.mkIdent `H'):ident $(Lean.mkIdent `hp):ident $(Lean.mkIdent `hs):ident $(Lean.mkIdent `hv):ident; (try have $(Lean.mkIdent `hn):ident := hand_ne $(Lean.mkIdent `hp):ident (by walk_at "hk")))
  | ((with_reducible refine' RD.gtup ?rdH ?rdE ?rdK); (case rdH => walk_at "st"); (case rdE => rfl))
  | ((with_reducible refine' RD.app ?rdH ?rdZ ?rdK); (case rdH => walk_at "hp"); (case rdZ => first | assumption | (apply RD.szl; omega)); intro $(Lean.mkIdent `H'):ident $(Lean.mkIdent `hk):ident $(Lean.mkIdent `hv):ident)
  | ((with_reducible refine' RD.all1 ?rdH ?rdK); (case rdH => walk_at "sq"))
  | ((with_reducible refine' RD.any1 ?rdH ?rdK); (case rdH => walk_at "sq"))
  | ((with_reducible refine' SPD.dnew ?rdK); intro $(Lean.mkIdent `p'):ident $(Lean.mkIdent `H'):ident $(Lean.mkIdent `hp):ident $(Lean.mkIdent `hs):ident $(Lean.mkIdent `hv):ident; (try have $(Lean.mkIdent `hn):ident := hand_ne $(Lean.mkIdent `hp):ident (by walk_at "hk")))
  | ((with_reducible refine' SPD.disp1 ?rdK); intro $(Lean.mkIdent `p'):ident $(Lean.mkIdent `H'):ident $(Lean.mkIdent `hp):ident $(Lean.mkIdent `hs):ident $(Lean.mkIdent `hv):ident; (try have $(Lean.mkIdent `hn):ident := hand_ne $(Lean.mkIdent `hp):ident (by walk_at "hk")))
  | ((with_reducible refine' SPD.isSeq ?rdH ?rdE ?rdK); (case rdH => walk_at "hp"); (case rdE => walk_at "kd"))
  | ((with_reducible refine' SPD.isTup ?rdE ?rdK); (case rdE => walk_at "kd"))
  | ((with_reducible refine' SPD.isLst ?rdE ?rdK); (case rdE => walk_at "kd"))
  | ((with_reducible refine' SPD.isBool ?rdE ?rdK); (case rdE => walk_at "kd"))
  | ((with_reducible refine' SPD.isStr ?rdE ?rdK); (case rdE => walk_at "kd"))
  | ((with_reducible refine' SPD.isInt ?rdE ?rdK); (case rdE => walk_at "kd"))
  | dsimp only)
local macro_rules | `(tactic| walk_at "rds") => `(tactic| repeat walk_at "rd")
local macro_rules | `(tactic| walk_at "sm") => `(tactic| first | assumption | exact Same.refl _ | exact RD.sm_tr (by assumption) (by walk_at "sm") | fail "no")
local macro_rules | `(tactic| walk_at "kb") => `(tactic| first | assumption | exact RD.KB.refl | exact RD.kb_tr (by assumption) (by walk_at "kb") | exact RD.kb_trs (by assumption) (by walk_at "kb") | fail "no")
local macro_rules | `(tactic| walk_at "fr") => `(tactic| first | assumption | exact RD.fr_of (by assumption) (by walk_at "sm") | fail "no")
local macro_rules | `(tactic| walk_at "hk") => `(tactic| first | assumption | exact hand_same (by assumption) (by walk_at "hk") | exact hand_kb (by assumption) (by walk_at "fr") (by walk_at "hk") | fail "no")
local macro_rules | `(tactic| walk_at "na") => `(tactic| first | assumption | exact hand_ne (by assumption) (by walk_at "hk") | fail "no")
local macro_rules | `(tactic| walk_at "dqa") => `(tactic| first | exact SPD.DqA.nil | exact SPD.DqA.cons (by walk_at "dq") (by walk_at "dqa") | exact SPD.DqA.app (by walk_at "dqa") (by walk_at "dqa") | fail "no")
local macro_rules | `(tactic| walk_at "dq") => `(tactic| first | assumption | exact SPD.Dq.leaf rfl | exact SPD.dq_kb (by assumption) (by walk_at "kb") | exact SPD.dqTup (by walk_at "hp") (by walk_at "na") (by walk_at "dqa") | exact SPD.dqLst (by walk_at "hp") (by walk_at "na") (by walk_at "dqa") | exact SPD.dqNil (by walk_at "hp") (by walk_at "na") (by first | decide | simp) (by first | decide | simp) | fail "no")

local macro_rules | `(tactic| walk_at "rd") => `(tactic| first
  | with_reducible refine RB.chain ?_
  | with_reducible refine RB.m1 ?_
  | with_reducible refine RB.strE ?_
  | with_reducible refine RB.fld ?_
  | with_reducible refine RB.setF ?_
  | with_reducible refine RB.ss ?_
  | with_reducible refine RB.rev ?_
  | with_reducible refine RB.make ?_
  | with_reducible refine RB.makeS ?_
  | with_reducible refine RB.mkO ?_
  | with_reducible refine NR.ienumT ?_
  | with_reducible refine RB.inS ?_
  | with_reducible refine RB.bmS ?_
  | with_reducible refine RB.callS ?_
  | with_reducible refine RB.sw3 ?_
  | with_reducible refine RB.par3 ?_
  | with_reducible refine RB.par3V ?_
  | ((with_reducible refine' RB.slS ?rdH ?rdK); (case rdH => walk_at "sz"))
  | with_reducible refine RB.xf ?_
  | ((with_reducible refine' RB.xfV ?rdH ?rdE ?rdK); (case rdH => walk_at "hp"); (case rdE => rfl))
  | ((with_reducible refine' NR.ienumTV ?rdH ?rdK); (case rdH => walk_at "st"))
  | ((with_reducible refine' RB.lenL ?rdH ?rdK); (case rdH => walk_at "sq"))
  | ((with_reducible refine' RB.lenT ?rdH ?rdK); (case rdH => walk_at "st"))
  | ((with_reducible refine' RB.lenS ?rdH ?rdK); (case rdH => walk_at "sz"))
  | ((with_reducible refine' RD.lenS ?rdH ?rdK); (case rdH => walk_at "sz"))
  | ((with_reducible refine' RB.slT ?rdH ?rdK); (case rdH => walk_at "hp"); intro $(Lean.mkIdent `p'):ident $(Lean.mkIdent `H'):ident $(Lean.mkIdent `hs):ident $(Lean.mkIdent `hv):ident $(Lean.mkIdent `hp):ident; (try have $(Lean.mkIdent `hn):ident := two_ne $(Lean.mkIdent `hp):ident (by walk_at "na") (by walk_at "hk")))
  | ((with_reducible refine' RB.revV ?rdH ?rdK); (case rdH => walk_at "st"); intro $(Lean.mkIdent `p'):ident $(Lean.mkIdent `H'):ident $(Lean.mkIdent `hp):ident $(Lean.mkIdent `hs):ident $(Lean.mkIdent `hv):ident; (try have $(Lean.mkIdent `hn):ident := hand_ne $(Lean.mkIdent `hp):ident (by walk_at "hk")))
  | ((with_reducible refine' RB.listS ?rdH ?rdK); (case rdH => walk_at "sz"); intro $(Lean.mkIdent `p'):ident $(Lean.mkIdent `H'):ident $(Lean.mkIdent `hp):ident $(Lean.mkIdent `hs):ident $(Lean.mkIdent `hv):ident; (try have $(Lean.mkIdent `hn):ident := hand_ne $(Lean.mkIdent `hp):ident (by walk_at "hk")))
  | ((with_reducible refine' RB.listO ?rdH ?rdK); (case rdH => first | exact Or.inl (by walk_at "sq") | exact Or.inr (by walk_at "st")); intro $(Lean.mkIdent `p'):ident $(Lean.mkIdent `H'):ident $(Lean.mkIdent `hp):ident $(Lean.mkIdent `hs):ident $(Lean.mkIdent `hv):ident; (try have $(Lean.mkIdent `hn):ident := hand_ne $(Lean.mkIdent `hp):ident (by walk_at "hk")))
  | ((with_reducible refine' RB.tupL ?rdH ?rdK); (case rdH => walk_at "sq"); intro $(Lean.mkIdent `p'):ident $(Lean.mkIdent `H'):ident $(Lean.mkIdent `hp):ident $(Lean.mkIdent `hs):ident $(Lean.mkIdent `hv):ident; (try have $(Lean.mkIdent `hn):ident := hand_ne $(Lean.mkIdent `hp):ident (by walk_at "hk")))
  | ((with_reducible refine' RB.catT ?rdH ?rdE ?rdZ ?rdK); (case rdH => walk_at "hp"); (case rdE => walk_at "hp"); (case rdZ => exact RB.LN.sum (by walk_at "ln") (by walk_at "ln") rfl); intro $(Lean.mkIdent `p'):ident $(Lean.mkIdent `H'):ident $(Lean.mkIdent `hs):ident $(Lean.mkIdent `hv):ident $(Lean.mkIdent `hp):ident; (try have $(Lean.mkIdent `hn):ident := three_ne $(Lean.mkIdent `hp):ident (by walk_at "na") (by walk_at "na") (by walk_at "hk")))
  | fail "no")
local macro_rules | `(tactic| walk_at "ln") => `(tactic| first | with_reducible assumption | exact RB.LN.cut (by walk_at "ln") | exact RB.LN.app (by walk_at "ln") (by walk_at "ln") | exact RB.LN.rev (by walk_at "ln") | exact RB.LN.rep (by walk_at "ln") | exact RB.LN.lit rfl | fail "no")
local macro_rules | `(tactic| walk_at "sz") => `(tactic| first | assumption | exact RD.sz _ | fail "no")

/-! ### strikings -/
/-- (the number of the first that is no strike then, None if there is none; what is left then) -/
def fwL (H : Hp) (zs : List Str) : Str → Nat → List V → V × Str
  | z, _, [] => (.non, z)
  | z, i, v :: r => match skO H zs z v with
    | none => (.int (i : Nat), z)
    | some (p, k) => fwL H zs (struckS zs z p k) (i + 1) r
def fwV (H : Hp) (zs : List Str) (z : Str) (v : V) : V × Str := match v with
  | .ref a => match H a with
    | some (.tup xs) => fwL H zs z 0 xs
    | _ => (.int (-1), z)
  | _ => (.int (-1), z)
theorem fw_kd {K : PySem.W.Frag} {H : Hp} {zs : List Str} {z : Str} {v : V} {k : SPD.Kd} (h : SPD.KdOf K H v k) (n : k ≠ .tup) : fwV H zs z v = (.int (-1), z) := by
  cases h with
  | tup h => exact absurd rfl n
  | dct h => unfold fwV; simp only [h]
  | lst h => unfold fwV; simp only [h]
  | _ => rfl
theorem fw_at {H : Hp} {zs : List Str} {z : Str} {a : Addr} {xs : List V} (h : H a = some (.tup xs)) : fwV H zs z (.ref a) = fwL H zs z 0 xs := by
  unfold fwV
  simp only [h]
theorem fw_stop {H : Hp} {zs : List Str} {z : Str} {i : Nat} {v : V} {r : List V} (h : skO H zs z v = none) : fwL H zs z i (v :: r) = (.int (i : Nat), z) := by
  show (match skO H zs z v with | none => _ | some (p, k) => _) = _
  rw [h]
theorem fw_go {H : Hp} {zs : List Str} {z : Str} {i p k : Nat} {v : V} {r : List V} (h : skO H zs z v = some (p, k)) : fwL H zs z i (v :: r) = fwL H zs (struckS zs z p k) (i + 1) r := by
  show (match skO H zs z v with | none => _ | some (p, k) => _) = _
  rw [h]
theorem fw_kinds (H : Hp) (zs : List Str) : ∀ (xs : List V) (z : Str) (i : Nat), ((fwL H zs z i xs).1 = .non ∨ ∃ j : Int, (fwL H zs z i xs).1 = .int j) ∧ (fwL H zs z i xs).2.cps.size ≤ z.cps.size
  | [], z, i => ⟨.inl rfl, Nat.le_refl _⟩
  | v :: r, z, i => by
    cases h : skO H zs z v with
    | none => rw [fw_stop h]; exact ⟨.inr ⟨_, rfl⟩, Nat.le_refl _⟩
    | some q =>
      obtain ⟨p, k⟩ := q
      obtain ⟨a, _, _, hm⟩ := sk_some h
      have ih := fw_kinds H zs r (struckS zs z p k) (i + 1)
      have hs := struck_size (zs := zs) (k := k) (Nat.le_of_lt (mem_strikes.mp hm).1)
      rw [fw_go h]
      exact ⟨ih.1, Nat.le_trans ih.2 hs⟩
theorem fwV_kinds {H : Hp} {zs : List Str} {z : Str} {v : V} : ((fwV H zs z v).1 = .non ∨ ∃ j : Int, (fwV H zs z v).1 = .int j) ∧ (fwV H zs z v).2.cps.size ≤ z.cps.size := by
  unfold fwV
  split
  · split
    · exact fw_kinds _ _ _ _ _
    · exact ⟨.inr ⟨_, rfl⟩, Nat.le_refl _⟩
  · exact ⟨.inr ⟨_, rfl⟩, Nat.le_refl _⟩
theorem fwL_same {x : Addr} {H H' : Hp} {zs : List Str} (s : Same H H') : ∀ (xs : List V) (z : Str) (i : Nat), (∀ y, y ∈ xs → ∃ m, SPD.Dq x H m y) → fwL H' zs z i xs = fwL H zs z i xs
  | [], _, _, _ => rfl
  | v :: r, z, i, h => by
    obtain ⟨m, hd⟩ := h v List.mem_cons_self
    have e := sk_same (zs := zs) (z := z) hd s
    cases c : skO H zs z v with
    | none => rw [fw_stop c, fw_stop (by rw [e, c])]
    | some q =>
      obtain ⟨p, k⟩ := q
      rw [fw_go c, fw_go (by rw [e, c])]
      exact fwL_same s r _ _ fun y hy => h y (List.mem_cons_of_mem _ hy)
theorem fwV_same {x : Addr} {H H' : Hp} {n : Nat} {zs : List Str} {z : Str} {v : V} (hd : SPD.Dq x H n v) (s : Same H H') : fwV H' zs z v = fwV H zs z v := by
  cases hd with
  | leaf e => cases v <;> first | rfl | cases e
  | dct ne h0 _ _ => unfold fwV; simp only [h0, s _ _ h0]
  | tup ne h0 _ hall =>
    rw [fw_at h0, fw_at (s _ _ h0)]
    exact fwL_same s _ _ _ fun y hy => ⟨_, hall y hy⟩
  | lst ne h0 _ _ => unfold fwV; simp only [h0, s _ _ h0]
theorem rest_cons {α : Type} {xs pre rest : List α} {i : Nat} {y : α} (e : xs = pre ++ rest) (hi : pre.length = i) (hy : xs[i]? = some y) : ∃ r, rest = y :: r := by
  subst e hi
  rw [List.getElem?_append_right (Nat.le_refl _), Nat.sub_self] at hy
  cases rest with
  | nil => cases hy
  | cons a r => exact ⟨r, by rw [Option.some.inj hy]⟩
def spFw (C : Addr) : Sp := fun vs H Q _ => ∃ (b t x : Addr) (n : Nat) (zs : List Str) (z : Str) (v : V), vs = [.ref b, .str z, v] ∧ BookAt H C b t ∧ H t = some (.tup (zs.map V.str)) ∧ Good zs ∧ z.cps.size ≤ 100000 ∧ SPD.Dq x H n v ∧ ∀ r H', H r = none → Same H H' → H' r = some (.tup [(fwV H zs z v).1, .str (fwV H zs z v).2]) → Q (.ref r) H'
def spFwL : Sp := fun vs H Q _ => ∃ (t x : Addr) (n : Nat) (zs : List Str) (z : Str) (v : V), vs = [.ref t, .str z, v] ∧ H t = some (.tup (zs.map V.str)) ∧ Good zs ∧ z.cps.size ≤ 20000 ∧ SPD.Dq x H n v ∧ ∀ r H', H r = none → Same H H' → H' r = some (.tup [(fwV H zs z v).1, .str (fwV H zs z v).2]) → Q (.ref r) H'
def spLeft (C B : Addr) : Sp := fun vs H Q E => ∃ (b t x : Addr) (n : Nat) (zs : List Str) (z : Str) (v : V), vs = [.ref b, .str z, v] ∧ BookAt H C b t ∧ H t = some (.tup (zs.map V.str)) ∧ Good zs ∧ z.cps.size ≤ 100000 ∧ logB z = true ∧ SPD.Dq x H n v ∧
  ((fwV H zs z v).1 = .non → ∀ H', Same H H' → Q (.str (fwV H zs z v).2) H') ∧ ((fwV H zs z v).1 ≠ .non → ∀ d H', H d = none → Same H H' → H' d = some (.xd [("at", (fwV H zs z v).1)]) → E (.ref B) (some d) H')
def spIsStriking (C : Addr) : Sp := fun vs H Q _ => ∃ (b t x : Addr) (n : Nat) (zs : List Str) (z : Str) (v : V), vs = [.ref b, .str z, v] ∧ BookAt H C b t ∧ H t = some (.tup (zs.map V.str)) ∧ Good zs ∧ z.cps.size ≤ 100000 ∧ logB z = true ∧ SPD.Dq x H n v ∧ ∀ H', Same H H' → Q (.bl (decide ((fwV H zs z v).1 = .non))) H'
def spPutIn (C : Addr) : Sp := fun vs H Q _ => ∃ (b t : Addr) (zs : List Str) (z y : Str) (p k : Nat), vs = [.ref b, .str z, .int (p : Nat), .int (k : Nat)] ∧ BookAt H C b t ∧ H t = some (.tup (zs.map V.str)) ∧ z.cps.size ≤ 100000 ∧ logB z = true ∧ Good zs ∧ p ≤ z.cps.size ∧ zs[k]? = some y ∧ ∀ H', Same H H' → Q (.str (putS z y p)) H'
def spInt : Sp := fun vs H Q _ => ∃ (x : Addr) (n : Nat) (v : V) (lo hi : Int), vs = [v, .int lo, .int hi] ∧ SPD.Dq x H n v ∧ ∀ H', Same H H' → Q (.bl (withV v lo hi)) H'
section
variable {P : Program} {w : World} {K : PySem.W.Frag} {mg : Str → Option Value} {base : Heap}
theorem ok_q_first_wrong (T : Txt P K mg) : FnOk P w K mg base CX0 4 T.a_q_first_wrong T.fd_q_first_wrong ["book", "log", "thing"] (spFw T.C_Book) := by
  have nd := sc_q_first_wrong.nd
  have G_is_strike : FnOk P w K mg base CX0 3 T.a_is_strike T.fd_is_strike ["book", "log", "thing"] (spIsStrike T.C_Book) := ok_is_strike T
  have G_raw_struck : FnOk P w K mg base CX0 3 T.a_raw_struck T.fd_raw_struck ["book", "log", "strike"] (spRawStruck T.C_Book) := (ok_raw_struck T).mono (by decide)
  refine T.F_q_first_wrong.ok sc_q_first_wrong (fun vs H Q E h => ?_) (fun cdv A outer s H vs Q E hr h => ?_)
  · obtain ⟨b, t, x, n, zs, z, v, rfl, _⟩ := h
    rfl
  · obtain ⟨b, t, x, n, zs, z, v, rfl, hb, ht, g, hz, hd, q⟩ := h
    refine ⟨_, (pss_cons (ps_if (pt_not (pt_val (pe_callB call_isi (by rfl) T.m_isinstance (by decide +kernel) (pa_cons (pv 2) (pa_cons (pe_bltn (v := .ty "tuple") (by rfl) T.m_tuple (by decide +kernel) rfl) pa_nil)))))
    (pss_one (ps_ret (pe_tup (pa_cons (pe_un un_neg pe_int) (pa_cons (pv 1) pa_nil)))))
    pss_nil)
  (pss_cons (ps_for PassesOwn.never rfl (NR.pi_enumT (by rfl) T.m_enumerate (pa_cons (pv 2) pa_nil)) (pg_tup rfl (pgs_cons (pg_name (i := 3) nd rfl (by first | exact Or.inl rfl | exact Or.inr rfl)) (pgs_cons (pg_name (i := 4) nd rfl (by first | exact Or.inl rfl | exact Or.inr rfl)) pgs_nil)))
    (pss_cons (ps_if (pt_not (pt_val (pe_call G_is_strike hr (by rfl) T.g_is_strike T.F_is_strike.kp T.b_is_strike .nil pass0 (pa_cons (pv 0) (pa_cons (pv 1) (pa_cons (pv 4) pa_nil))))))
    (pss_one (ps_ret (pe_tup (pa_cons (pv 3) (pa_cons (pv 1) pa_nil)))))
    pss_nil)
  (pss_one (ps_set (i := 1) nd rfl (by first | exact Or.inl rfl | exact Or.inr rfl) (pe_call G_raw_struck hr (by rfl) T.g_raw_struck T.F_raw_struck.kp T.b_raw_struck .nil pass0 (pa_cons (pv 0) (pa_cons (pv 1) (pa_cons (pv 4) pa_nil))))))))
  (pss_one (ps_ret (pe_tup (pa_cons pe_non (pa_cons (pv 1) pa_nil))))))), ?_⟩
    obtain ⟨k, hk⟩ := hd.kd (K := K)
    walk_at "rds"
    refine RD.ite_nd (fun ne => ?_) (fun e => ?_)
    · rw [fw_kd hk ne] at q
      walk_at "rds"
      exact q _ _ hp hs hv
    · subst e
      cases hk with
      | @tup s xs hs0 =>
        have hall := dq_items hd hs0
        have hlx : xs.length ≤ 16777216 := by
          cases hd with
          | leaf e => cases e
          | dct ne h0 _ _ => rw [h0] at hs0; cases hs0
          | tup ne h0 hl _ => rw [h0] at hs0; cases hs0; exact hl
          | lst ne h0 _ _ => rw [h0] at hs0; cases hs0
        rw [fw_at hs0] at q
        walk_at "rds"
        refine RD.forW (NR.w_enumT (xs := xs)) (fun i σ H' => ∃ (pre rest : List V) (z' : Str) (x3 x4 : Option V), σ = [some (.ref b), some (.str z'), some (.ref s), x3, x4] ∧ xs = pre ++ rest ∧ pre.length = i ∧ fwL H zs z 0 xs = fwL H zs z' i rest ∧ z'.cps.size ≤ 100000 ∧ Same H H')
          ⟨[], xs, z, _, _, rfl, rfl, rfl, rfl, hz, Same.refl _⟩ (fun i σ H' _ ⟨_, _, _, _, _, _, _, _, _, _, s⟩ => by walk_at "st") (fun i y σ H2 H3 hi hp hy => ?_) (fun σ H2 hp => ?_)
        · obtain ⟨pre, rest, z', x3, x4, rfl, he, hl, hfw, hz', s2⟩ := hp
          obtain ⟨T1, x1, y1, rfl, hT, s3, hv3, hx1, hy1⟩ := hy
          obtain rfl : V.int (i : Nat) = x1 := Option.some.inj hx1
          have hy1 : xs[i]? = some y1 := hy1
          obtain ⟨r, rfl⟩ := rest_cons he hl hy1
          obtain ⟨m, hdy⟩ := hall y1 (List.mem_of_getElem? hy1)
          have s23 := s2.trans s3
          clear hx1 hy1
          walk_at "rds"
          refine ⟨b, t, x, m, zs, z', y1, rfl, hb.same s23, s23 _ _ ht, g, hz', hdy.same s23, fun H4 s4 => ?_⟩
          rw [sk_same hdy s23]
          have s34 := s23.trans s4
          cases c : skO H zs z' y1 with
          | none =>
            rw [show (none : Option (Nat × Nat)).isSome = false from rfl]
            rw [fw_stop c] at hfw
            rw [hfw] at q
            walk_at "rds"
            exact q _ _ (s34.free hp) (s34.trans hs) hv
          | some o =>
            obtain ⟨p, k⟩ := o
            rw [show (some (p, k)).isSome = true from rfl]
            rw [fw_go c] at hfw
            obtain ⟨a, rfl, ha, hm⟩ := sk_some c
            walk_at "rds"
            refine ⟨b, t, a, p, k, zs, z', rfl, hb.same s34, s34 _ _ ht, g, hz', s34 _ _ ha, hm, fun H5 s5 => ?_⟩
            walk_at "rds"
            exact ⟨pre ++ [.ref a], r, _, _, _, rfl, by rw [he, List.append_assoc]; rfl, by rw [List.length_append, hl]; rfl, hfw, Nat.le_trans (struck_size (Nat.le_of_lt (mem_strikes.mp hm).1)) hz', s34.trans s5⟩
        · obtain ⟨pre, rest, z', x3, x4, rfl, he, hl, hfw, hz', s2⟩ := hp
          have hr0 : rest = [] := by
            have z := congrArg List.length he
            rw [List.length_append] at z
            exact List.eq_nil_of_length_eq_zero (by omega)
          subst hr0
          rw [hfw] at q
          walk_at "rds"
          exact q _ _ (s2.free hp) (s2.trans hs) hv
      | _ => exact absurd rfl (by assumption)
theorem ok_left_by (T : Txt P K mg) : FnOk P w K mg base (L2.CX P w) 5 T.a_left_by T.fd_left_by ["book", "log", "striking"] (spLeft T.C_Book T.C_NoStriking) := by
  have nd := sc_left_by.nd
  have G_check_log : FnOk P w K mg base (L2.CX P w) 4 T.a_check_log T.fd_check_log ["thing"] spCheckLog := (ok_check_log T).mono (by decide)
  have G_q_first_wrong : FnOk P w K mg base CX0 4 T.a_q_first_wrong T.fd_q_first_wrong ["book", "log", "thing"] (spFw T.C_Book) := ok_q_first_wrong T
  have G_NoStriking_init : FnOk P w K mg base CX0 3 T.a_NoStriking_init T.fd_NoStriking_init _ (SPX.spSi T.C_NoStriking _) := SPX.si_ok T.S_NoStriking_init
  refine T.F_left_by.okX sc_left_by (fun vs H Q E h => ?_) (fun cdv A outer s H vs Q E hr h => ?_)
  · obtain ⟨b, t, x, n, zs, z, v, rfl, _⟩ := h
    rfl
  · obtain ⟨b, t, x, n, zs, z, v, rfl, hb, ht, g, hz, hl, hd, q, qe⟩ := h
    refine ⟨_, (pss_cons (ps_expr (pe_call G_check_log hr (by rfl) T.g_check_log T.F_check_log.kp T.b_check_log .nil NR.passN (pa_cons (pv 1) pa_nil)))
  (pss_cons (ps_asg (pe_call G_q_first_wrong hr (by rfl) T.g_q_first_wrong T.F_q_first_wrong.kp T.b_q_first_wrong .nil pass0 (pa_cons (pv 0) (pa_cons (pv 1) (pa_cons (pv 2) pa_nil)))) (pg_tup rfl (pgs_cons (pg_name (i := 3) nd rfl (by first | exact Or.inl rfl | exact Or.inr rfl)) (pgs_cons (pg_name (i := 4) nd rfl (by first | exact Or.inl rfl | exact Or.inr rfl)) pgs_nil))))
  (pss_cons (ps_if (pt_cmpR op_notN (pv 3) pe_non (nomark _))
    (pss_one (ps_raise rfl (takes_of rfl rfl rfl rfl) (pmk_oex T.xc_NoStriking T.ii_NoStriking T.ti_NoStriking G_NoStriking_init hr T.b_NoStriking_init .nil pass0 (by rfl) T.g_NoStriking (pa_cons (pv 3) pa_nil))))
    pss_nil)
  (pss_one (ps_ret (pv 4)))))), ?_⟩
    walk_at "rds"
    refine ⟨z, rfl, hz, hl, fun H1 s1 => ?_⟩
    walk_at "rds"
    refine ⟨b, t, x, n, zs, z, v, rfl, hb.same s1, s1 _ _ ht, g, hz, hd.same s1, fun r H2 hr0 s2 h2 => ?_⟩
    rw [fwV_same hd s1] at h2
    have s12 := s1.trans s2
    walk_at "rds"
    rcases (fwV_kinds (H := H) (zs := zs) (z := z) (v := v)).1 with e | ⟨j, e⟩
    · rw [e]
      walk_at "rds"
      refine ⟨rfl, false, rfl, ?_⟩
      walk_at "rds"
      exact q e _ s12
    · rw [e]
      walk_at "rds"
      refine ⟨rfl, true, rfl, ?_⟩
      walk_at "rds"
      exact RB.mkOV fun d H' hd1 s3 hx => qe (by rw [e]; exact fun z => nomatch z) d H' (s12.free hd1) (s12.trans s3) (by rw [e]; exact hx)
theorem ok_is_striking (T : Txt P K mg) : FnOk P w K mg base (L2.CX P w) 5 T.a_is_striking T.fd_is_striking ["book", "log", "thing"] (spIsStriking T.C_Book) := by
  have nd := sc_is_striking.nd
  have G_check_log : FnOk P w K mg base (L2.CX P w) 4 T.a_check_log T.fd_check_log ["thing"] spCheckLog := (ok_check_log T).mono (by decide)
  have G_q_first_wrong : FnOk P w K mg base CX0 4 T.a_q_first_wrong T.fd_q_first_wrong ["book", "log", "thing"] (spFw T.C_Book) := ok_q_first_wrong T
  refine T.F_is_striking.okX sc_is_striking (fun vs H Q E h => ?_) (fun cdv A outer s H vs Q E hr h => ?_)
  · obtain ⟨b, t, x, n, zs, z, v, rfl, _⟩ := h
    rfl
  · obtain ⟨b, t, x, n, zs, z, v, rfl, hb, ht, g, hz, hl, hd, q⟩ := h
    refine ⟨_, (pss_cons (ps_expr (pe_call G_check_log hr (by rfl) T.g_check_log T.F_check_log.kp T.b_check_log .nil NR.passN (pa_cons (pv 1) pa_nil)))
  (pss_one (ps_ret (pe_cmpR op_isN (pe_ix ix_tup (pe_call G_q_first_wrong hr (by rfl) T.g_q_first_wrong T.F_q_first_wrong.kp T.b_q_first_wrong .nil pass0 (pa_cons (pv 0) (pa_cons (pv 1) (pa_cons (pv 2) pa_nil)))) pe_int (fun _ _ => rfl)) pe_non (nomark _))))), ?_⟩
    walk_at "rds"
    refine ⟨z, rfl, hz, hl, fun H1 s1 => ?_⟩
    walk_at "rds"
    refine ⟨b, t, x, n, zs, z, v, rfl, hb.same s1, s1 _ _ ht, g, hz, hd.same s1, fun r H2 hr0 s2 h2 => ?_⟩
    rw [fwV_same hd s1] at h2
    have s12 := s1.trans s2
    walk_at "rds"
    refine RD.ixT (by walk_at "st") rfl ?_
    walk_at "rds"
    exact ⟨rfl, q _ s12⟩
theorem ok_put_in (T : Txt P K mg) : FnOk P w K mg base (L2.CX P w) 3 T.a_put_in T.fd_put_in ["book", "log", "place", "number"] (spPutIn T.C_Book) := by
  have nd := sc_put_in.nd
  have G_check_log : FnOk P w K mg base (L2.CX P w) 2 T.a_check_log T.fd_check_log ["thing"] spCheckLog := ok_check_log T
  have G_is_within : FnOk P w K mg base CX0 2 T.a_is_within T.fd_is_within ["thing", "least", "most"] spWithin := ok_is_within T
  refine T.F_put_in.okX sc_put_in (fun vs H Q E h => ?_) (fun cdv A outer s H vs Q E hr h => ?_)
  · obtain ⟨b, t, zs, z, y, p, k, rfl, _⟩ := h
    rfl
  · obtain ⟨b, t, zs, z, y, p, k, rfl, ⟨dx, hb⟩, ht, hz, hl, g, hp, hk, q⟩ := h
    refine ⟨_, (pss_cons (ps_expr (pe_call G_check_log hr (by rfl) T.g_check_log T.F_check_log.kp T.b_check_log .nil NR.passN (pa_cons (pv 1) pa_nil)))
  (pss_cons (ps_if (pt_not (pt_val (pe_call G_is_within hr (by rfl) T.g_is_within T.F_is_within.kp T.b_is_within .nil pass0 (pa_cons (pv 2) (pa_cons pe_int (pa_cons (pe_callB call_len_str (by rfl) T.m_len PySem.boot_len (pa_cons (pv 1) pa_nil)) pa_nil))))))
    (pss_one (ps_raise rfl (takes_of rfl rfl rfl rfl) (NR.pmk_own0 T.k_NoPlace T.g_NoPlace T.kp_NoPlace T.bx_NoPlace T.tx_NoPlace (by rfl))))
    pss_nil)
  (pss_cons (ps_if (pt_not (pt_val (pe_call G_is_within hr (by rfl) T.g_is_within T.F_is_within.kp T.b_is_within .nil pass0 (pa_cons (pv 3) (pa_cons pe_int (pa_cons (pe_op op_sub (pe_callB call_len_seq (by rfl) T.m_len PySem.boot_len (pa_cons (pe_fld (pv 0) rfl) pa_nil)) pe_int) pa_nil))))))
    (pss_one (ps_raise rfl (takes_of rfl rfl rfl rfl) (NR.pmk_own0 T.k_NoPiece T.g_NoPiece T.kp_NoPiece T.bx_NoPiece T.tx_NoPiece (by rfl))))
    pss_nil)
  (pss_one (ps_ret (pe_op op_add_str (pe_op op_add_str (pe_slice sl_str (pv 1) po_none (po_some (pv 2))) (pe_ix ix_tup (pe_fld (pv 0) rfl) (pv 3) (fun _ _ => rfl))) (pe_slice sl_str (pv 1) (po_some (pv 2)) po_none))))))), ?_⟩
    have hzl : z.length = z.cps.size := rfl
    have hzs : z.length ≤ sizeLine := small_len hz
    have hlm : (zs.map V.str).length = zs.length := List.length_map ..
    have hkl := (List.getElem?_eq_some_iff.mp hk).1
    walk_at "rds"
    refine ⟨z, rfl, hz, hl, fun H1 s1 => ?_⟩
    walk_at "rds"
    refine ⟨0, 0, .int p, 0, _, rfl, .leaf rfl, fun H2 s2 => ?_⟩
    rw [with_in (by omega) (by omega)]
    have s12 := s1.trans s2
    have hb2 := s12 _ _ hb
    have ht2 := s12 _ _ ht
    walk_at "rds"
    refine RB.fldV hb2 T.cl_Book T.no_Book_pieces rfl ?_
    walk_at "rds"
    refine ⟨0, 0, .int k, 0, _, rfl, .leaf rfl, fun H3 s3 => ?_⟩
    rw [with_in (by omega) (by omega)]
    have s13 := s12.trans s3
    have hb3 := s13 _ _ hb
    have ht3 := s13 _ _ ht
    walk_at "rds"
    refine RB.fldV hb3 T.cl_Book T.no_Book_pieces rfl ?_
    walk_at "rds"
    obtain ⟨y2, hya, hyj⟩ := at_strs (zs := zs) (j := (k : Int)) (by omega) (by omega)
    have ey : y2 = y := by
      rw [show ((k : Int)).toNat = k from rfl, hk] at hyj
      exact (Option.some.inj hyj).symm
    subst ey
    refine RD.ixT (by walk_at "st") hya ?_
    have hy8 := (piece_size (g.piece y2 (List.mem_of_getElem? hk))).2
    have c1 := cut_size z none (some (p : Int))
    have c2 := cut_size z (some (p : Int)) none
    have c3 := app_size (cutS z none (some (p : Int))) y2
    have el : ∀ x : Str, x.length = x.cps.size := fun _ => rfl
    refine RB.addS (RD.szo (by rw [el, el]; omega)) ?_
    walk_at "rds"
    refine RB.addS (RD.szo (by rw [el, el]; omega)) ?_
    exact q _ s13
theorem ok_int (T : Txt P K mg) : FnOk P w K mg base CX0 1 T.a_int T.fd_int ["_law_thing", "_law_low", "_law_high"] spInt := by
  have nd := sc_int.nd
  refine T.F_int.ok sc_int (fun vs H Q E h => ?_) (fun cdv A outer s H vs Q E hr h => ?_)
  · obtain ⟨x, n, v, lo, hi, rfl, _⟩ := h
    rfl
  · obtain ⟨x, n, v, lo, hi, rfl, hd, q⟩ := h
    refine ⟨_, (pss_one (ps_ret (pe_and (pe_callB call_isi (by rfl) T.m_isinstance (by decide +kernel) (pa_cons (pv 0) (pa_cons (pe_bltn (v := .ty "int") (by rfl) T.m_int (by decide +kernel) rfl) pa_nil))) (pe_and (pe_not (pe_callB call_isi (by rfl) T.m_isinstance (by decide +kernel) (pa_cons (pv 0) (pa_cons (pe_bltn (v := .ty "bool") (by rfl) T.m_bool (by decide +kernel) rfl) pa_nil)))) (pe_one (pe_chain op_le op_le (pv 1) (pv 0) (pv 2))))))), ?_⟩
    obtain ⟨k, hk⟩ := hd.kd (K := K)
    walk_at "rds"
    refine RD.ite_d (fun e => ?_) (fun ne => ?_)
    · walk_at "rds"
      refine RD.ite_nd (fun n2 => ?_) (fun e2 => ?_)
      · cases hk with
        | int i =>
          walk_at "rds"
          refine RD.ite_d (fun h1 => ?_) (fun h1 => ?_)
          · walk_at "rds"
            have e2 : withV (.int i) lo hi = decide (i ≤ hi) := by
              show (decide (lo ≤ i) && decide (i ≤ hi)) = _
              rw [decide_eq_true h1, Bool.true_and]
            rw [← e2]
            exact q _ (Same.refl _)
          · have e2 : withV (.int i) lo hi = false := by
              show (decide (lo ≤ i) && decide (i ≤ hi)) = _
              rw [decide_eq_false h1, Bool.false_and]
            rw [e2] at q
            exact q _ (Same.refl _)
        | bl b => exact absurd rfl n2
        | _ => exfalso; revert e; decide
      · have e2 : withV v lo hi = false := by
          cases hk <;> first | rfl | (exfalso; revert e2; decide)
        rw [e2] at q
        exact q _ (Same.refl _)
    · have e2 : withV v lo hi = false := by
        cases hk <;> first | rfl | (exfalso; exact ne (by decide))
      rw [e2] at q
      exact q _ (Same.refl _)
theorem ok_first_wrong (T : Txt P K mg) : FnOk P w K mg base CX0 2 T.a_first_wrong T.fd_first_wrong ["_law_pieces_here", "_law_log_here", "_law_thing"] spFwL := by
  have nd := sc_first_wrong.nd
  have G_int : FnOk P w K mg base CX0 1 T.a_int T.fd_int ["_law_thing", "_law_low", "_law_high"] spInt := ok_int T
  have G_strikes : FnOk P w K mg base CX0 1 T.a_strikes T.fd_strikes ["_law_pieces_here", "_law_log_here"] spStrikesL := ok_strikes T
  have G_struck : FnOk P w K mg base CX0 1 T.a_struck T.fd_struck ["_law_pieces_here", "_law_log_here", "_law_strike"] spStruckL := ok_struck T
  refine T.F_first_wrong.ok sc_first_wrong (fun vs H Q E h => ?_) (fun cdv A outer s H vs Q E hr h => ?_)
  · obtain ⟨t, x, n, zs, z, v, rfl, _⟩ := h
    rfl
  · obtain ⟨t, x, n, zs, z, v, rfl, ht, g, hz, hd, q⟩ := h
    refine ⟨_, (pss_cons (ps_if (pt_not (pt_val (pe_callB call_isi (by rfl) T.m_isinstance (by decide +kernel) (pa_cons (pv 2) (pa_cons (pe_bltn (v := .ty "tuple") (by rfl) T.m_tuple (by decide +kernel) rfl) pa_nil)))))
    (pss_one (ps_ret (pe_tup (pa_cons (pe_un un_neg pe_int) (pa_cons (pv 1) pa_nil)))))
    pss_nil)
  (pss_cons (ps_for PassesOwn.never rfl (NR.pi_enumT (by rfl) T.m_enumerate (pa_cons (pv 2) pa_nil)) (pg_tup rfl (pgs_cons (pg_name (i := 3) nd rfl (by first | exact Or.inl rfl | exact Or.inr rfl)) (pgs_cons (pg_name (i := 4) nd rfl (by first | exact Or.inl rfl | exact Or.inr rfl)) pgs_nil)))
    (pss_cons (ps_if (PW.pt (pw_or (pt_not (pt_val (pe_callB call_isi (by rfl) T.m_isinstance (by decide +kernel) (pa_cons (pv 4) (pa_cons (pe_bltn (v := .ty "tuple") (by rfl) T.m_tuple (by decide +kernel) rfl) pa_nil))))) (pw_or (pt_cmpR op_ne (pe_callB call_len_seq (by rfl) T.m_len PySem.boot_len (pa_cons (pv 4) pa_nil)) pe_int (nomark _)) (pw_or1 (pt_not (pt_val (pe_callB (cr_all rfl) (by rfl) T.m_all (by decide +kernel) (pa_cons (pe_lc (own := [("_law_one", 5)]) (g := (gName 5)) rfl nd (pi_tup (pv 4)) (blkOk_by (own := [("_law_one", 5)]) (N := N_first_wrong) (sc := defScope s_first_wrong) (by decide +kernel)) (fun _ _ _ _ _ => (pg_name (i := 5) nd rfl (Or.inl rfl))) (fun _ _ _ _ _ => pts_nil) (fun _ _ _ _ _ => (pe_call G_int hr (by rfl) T.g_int T.F_int.kp T.b_int .nil pass0 (pa_cons (pv 5) (pa_cons pe_int (pa_cons pe_int pa_nil)))))) pa_nil))))))))
    (pss_one (ps_ret (pe_tup (pa_cons (pv 3) (pa_cons (pv 1) pa_nil)))))
    pss_nil)
  (pss_cons (ps_if (pt_cmpR (op_notInD (RB.room65 hr)) (pv 4) (pe_call G_strikes hr (by rfl) T.g_strikes T.F_strikes.kp T.b_strikes .nil pass0 (pa_cons (pv 0) (pa_cons (pv 1) pa_nil))) (by first | rfl | exact nomark _))
    (pss_one (ps_ret (pe_tup (pa_cons (pv 3) (pa_cons (pv 1) pa_nil)))))
    pss_nil)
  (pss_one (ps_set (i := 1) nd rfl (by first | exact Or.inl rfl | exact Or.inr rfl) (pe_call G_struck hr (by rfl) T.g_struck T.F_struck.kp T.b_struck .nil pass0 (pa_cons (pv 0) (pa_cons (pv 1) (pa_cons (pv 4) pa_nil)))))))))
  (pss_one (ps_ret (pe_tup (pa_cons pe_non (pa_cons (pv 1) pa_nil))))))), ?_⟩
    obtain ⟨k, hk⟩ := hd.kd (K := K)
    walk_at "rds"
    refine RD.ite_nd (fun ne => ?_) (fun e => ?_)
    · rw [fw_kd hk ne] at q
      walk_at "rds"
      exact q _ _ hp hs hv
    · subst e
      cases hk with
      | @tup s xs hs0 =>
        have hall := dq_items hd hs0
        have hlx : xs.length ≤ 16777216 := by
          cases hd with
          | leaf e => cases e
          | dct ne h0 _ _ => rw [h0] at hs0; cases hs0
          | tup ne h0 hl _ => rw [h0] at hs0; cases hs0; exact hl
          | lst ne h0 _ _ => rw [h0] at hs0; cases hs0
        rw [fw_at hs0] at q
        walk_at "rds"
        refine RD.forW (NR.w_enumT (xs := xs)) (fun i σ H' => ∃ (pre rest : List V) (z' : Str) (x3 x4 x5 : Option V), σ = [some (.ref t), some (.str z'), some (.ref s), x3, x4, x5] ∧ xs = pre ++ rest ∧ pre.length = i ∧ fwL H zs z 0 xs = fwL H zs z' i rest ∧ z'.cps.size ≤ 20000 ∧ Same H H')
          ⟨[], xs, z, _, _, _, rfl, rfl, rfl, rfl, hz, Same.refl _⟩ (fun i σ H' _ ⟨_, _, _, _, _, _, _, _, _, _, _, s⟩ => by walk_at "st") (fun i y σ H2 H3 hi hp hy => ?_) (fun σ H2 hp => ?_)
        · obtain ⟨pre, rest, z', x3, x4, x5, rfl, he, hl, hfw, hz', s2⟩ := hp
          obtain ⟨T1, x1, y1, rfl, hT, s3, hv3, hx1, hy1⟩ := hy
          obtain rfl : V.int (i : Nat) = x1 := Option.some.inj hx1
          have hy1 : xs[i]? = some y1 := hy1
          obtain ⟨r, rfl⟩ := rest_cons he hl hy1
          obtain ⟨m, hdy⟩ := hall y1 (List.mem_of_getElem? hy1)
          have s23 := s2.trans s3
          have hz1 : z'.cps.size ≤ 100000 := Nat.le_trans hz' (by decide)
          have stop : skO H zs z' y1 = none → ∀ p' H', H3 p' = none → Same H3 H' → H' p' = some (.tup [.int (i : Nat), .str z']) → Q (.ref p') H' := fun c p' H' hp hs hv => by
            rw [fw_stop c] at hfw
            rw [hfw] at q
            exact q _ _ (s23.free hp) (s23.trans hs) hv
          clear hx1 hy1
          obtain ⟨k1, hk1⟩ := hdy.kd (K := K)
          have hk3 := hk1.same s23
          walk_at "rds"
          refine RD.ite_nd (fun ne => ?_) (fun e => ?_)
          · have c : skO H zs z' y1 = none := sk_none fun a i j h1 h2 _ _ => by
              subst h1
              cases hk1 with
              | tup h => exact absurd rfl ne
              | lst h => rw [h] at h2; cases h2
              | dct h => rw [h] at h2; cases h2
            walk_at "rds"
            exact stop c _ _ hp hs hv
          · subst e
            cases hk1 with
            | @tup a ys ha =>
              have ha3 := s23 _ _ ha
              walk_at "rds"
              refine RD.ite_nd (fun n2 => ?_) (fun e2 => ?_)
              · have c : skO H zs z' (.ref a) = none := sk_none fun a' i j h1 h2 _ _ => by
                  cases h1
                  rw [ha] at h2
                  cases h2
                  exact absurd rfl n2
                walk_at "rds"
                exact stop c _ _ hp hs hv
              · have hl2 : ys.length = 2 := by
                  have := V.int.inj e2
                  omega
                obtain ⟨u, v, rfl⟩ := two_items hl2
                obtain ⟨m1, hu⟩ := dq_items hdy ha u (by simp)
                obtain ⟨m2, hv0⟩ := dq_items hdy ha v (by simp)
                walk_at "rds"
                refine RD.lcF (walk_tup (xs := [u, v])) (Nat.le_of_ble_eq_true rfl) (fun i => ([u, v][i]?).map fun v => .bl (withV v 0 20000)) (fun H' s => by walk_at "st") (fun i y H6 Z N hi hy s6 hZ hN => ?_) (fun D H6 hD s6 hv6 => ?_)
                · walk_at "rds"
                  refine ⟨rfl, ?_⟩
                  walk_at "rds"
                  have hyd : ∃ m, SPD.Dq x H m y := by
                    rcases List.mem_cons.mp (List.mem_of_getElem? hy) with e | hm
                    · rw [e]; exact ⟨_, hu⟩
                    · rw [List.mem_singleton.mp hm]; exact ⟨_, hv0⟩
                  obtain ⟨m3, hyd⟩ := hyd
                  exact ⟨x, m3, y, 0, 20000, rfl, hyd.same (s23.trans s6), fun H7 s7 => hZ _ _ (by rw [hy]; rfl) s7⟩
                · have e6 : (List.range [u, v].length).filterMap (fun i => ([u, v][i]?).map fun v => V.bl (withV v 0 20000)) = [withV u 0 20000, withV v 0 20000].map V.bl := by rfl
                  rw [e6] at hv6
                  have s26 := s23.trans s6
                  walk_at "rds"
                  have ea : [withV u 0 20000, withV v 0 20000].all id = (withV u 0 20000 && withV v 0 20000) := by simp
                  rw [ea]
                  refine RD.ite_b (fun e => ?_) (fun e => ?_)
                  · have e : (withV u 0 20000 && withV v 0 20000) = false := (by revert e; cases (withV u 0 20000 && withV v 0 20000) <;> simp)
                    have c : skO H zs z' (.ref a) = none := sk_none fun a' i j h1 h2 h3 h4 hm => by
                      cases h1
                      rw [ha] at h2
                      cases h2
                      obtain ⟨k1, k2, _⟩ := mem_strikes.mp hm
                      have := g.few
                      rw [with_in h3 (by omega), with_in h4 (by omega)] at e
                      cases e
                    walk_at "rds"
                    exact stop c _ _ (s6.free hp) (s6.trans hs) hv
                  · have e : (withV u 0 20000 && withV v 0 20000) = true := by simpa using e
                    rw [Bool.and_eq_true] at e
                    obtain ⟨i1, rfl, hi0, _⟩ := with_int e.1
                    obtain ⟨j1, rfl, hj0, _⟩ := with_int e.2
                    walk_at "rds"
                    refine ⟨t, zs, z', rfl, s26 _ _ ht, g, hz1, fun f H7 hf s7 hpr => ?_⟩
                    have s37 := s6.trans s7
                    have s27 := s23.trans s37
                    obtain ⟨ws, hf7, hpl⟩ := hpr
                    walk_at "rds"
                    refine RB.notInD (d := .tuple [.int i1, .int j1]) (ds := (strikesL zs z').map pairD) (.tup (.inl (.inl (s27 _ _ ha))) (.cons (.int _) (.cons (.int _) .nil))) (.lst (.inl (.inl hf7)) hpl.dp) rfl (shaped_pairs _) ?_
                    rw [any_pairs]
                    walk_at "rds"
                    refine RD.ite_nd (fun c0 => ?_) (fun c0 => ?_)
                    · have c : skO H zs z' (.ref a) = none := by rw [sk_at ha, if_neg c0]
                      walk_at "rds"
                      exact stop c _ _ (s37.free hp) (s37.trans hs) hv
                    · have c : skO H zs z' (.ref a) = some (i1.toNat, j1.toNat) := by rw [sk_at ha, if_pos c0]
                      rw [fw_go c] at hfw
                      obtain ⟨a2, ea2, ha2, hm⟩ := sk_some c
                      cases ea2
                      walk_at "rds"
                      refine ⟨t, a, i1.toNat, j1.toNat, zs, z', rfl, s27 _ _ ht, g, hz1, s27 _ _ ha2, hm, fun H8 s8 => ?_⟩
                      walk_at "rds"
                      exact ⟨pre ++ [.ref a], r, _, _, _, _, rfl, by rw [he, List.append_assoc]; rfl, by rw [List.length_append, hl]; rfl, hfw, Nat.le_trans (struck_size (Nat.le_of_lt (mem_strikes.mp hm).1)) hz', s27.trans s8⟩
            | _ => exact absurd rfl (by assumption)
        · obtain ⟨pre, rest, z', x3, x4, x5, rfl, he, hl, hfw, hz', s2⟩ := hp
          have hr0 : rest = [] := by
            have z := congrArg List.length he
            rw [List.length_append] at z
            exact List.eq_nil_of_length_eq_zero (by omega)
          subst hr0
          rw [hfw] at q
          walk_at "rds"
          exact q _ _ (s2.free hp) (s2.trans hs) hv
      | _ => exact absurd rfl (by assumption)
end


end K02

namespace K02
open PySem PySem.Spec PyProof.Rows L2
local macro_rules | `(tactic| walk_at "kd") => `(tactic| first | assumption | exact SPD.KdOf.int _ | exact SPD.KdOf.str _ | exact SPD.KdOf.bl _ | exact SPD.KdOf.non | exact SPD.KdOf.same (by assumption) (by walk_at "kd") | exact SPD.KdOf.tup (by walk_at "hp") | exact SPD.KdOf.lst (by walk_at "hp") | fail "no")
local macro_rules | `(tactic| walk_at "ne") => `(tactic| first | assumption | exact Ne.symm (by assumption) | fail "no")
local macro_rules | `(tactic| walk_at "hp") => `(tactic| first | assumption | exact RD.at_same (by assumption) (by walk_at "hp") | exact RD.at_kb (by assumption) (by walk_at "ne") (by walk_at "hp") | fail "no")
local macro_rules | `(tactic| walk_at "sq") => `(tactic| first | assumption | exact Or.inl (Or.inl (by walk_at "hp")) | exact Same.seq (by assumption) (by walk_at "sq") | exact RD.KB.seq (by assumption) (by walk_at "ne") (by walk_at "sq") | fail "no")
local macro_rules | `(tactic| walk_at "st") => `(tactic| first | assumption | exact Or.inl (Or.inl (by walk_at "hp")) | exact RD.Same.tup (by assumption) (by walk_at "st") | exact RD.KB.tup (by assumption) (by walk_at "ne") (by walk_at "st") | fail "no")
local macro_rules | `(tactic| walk_at "rd") => `(tactic| first
  | with_reducible refine RD.c ?_
  | ((with_reducible refine' RD.var ?rdE ?rdK); (case rdE => exact rfl))
  | with_reducible refine RD.op ?_
  | with_reducible refine RD.un ?_
  | with_reducible refine RD.nil ?_
  | with_reducible refine RD.cons ?_
  | with_reducible refine RD.cb ?_
  | with_reducible refine RD.call ?_
  | with_reducible refine RD.test ?_
  | with_reducible refine RD.tb' ?_
  | with_reducible refine RD.bl ?_
  | with_reducible refine RD.and' ?_
  | with_reducible refine RD.or' ?_
  | with_reducible refine RD.not' ?_
  | with_reducible refine RD.andV ?_
  | with_reducible refine RD.orV ?_
  | with_reducible refine RD.notV ?_
  | with_reducible refine RD.ife ?_
  | with_reducible refine RD.sl ?_
  | with_reducible refine RD.part ?_
  | with_reducible refine RD.noPart ?_
  | with_reducible refine RD.partI ?_
  | with_reducible refine RD.rd0 ?_
  | with_reducible refine RD.rdU ?_
  | ((with_reducible refine' RD.rdEq ?rdE ?rdK); (case rdE => rfl))
  | ((with_reducible refine' RD.rdNe ?rdE ?rdK); (case rdE => rfl))
  | ((with_reducible refine' RD.ixL ?rdH ?rdE ?rdK); (case rdH => walk_at "sq"); (case rdE => first | rfl | assumption))
  | ((with_reducible refine' RD.rdI ?rdC ?rdK); (case rdC => first | assumption | (show (0 : Int) < _; first | decide | omega) | exact ⟨by decide, by decide⟩ | exact ⟨by assumption, by assumption⟩ | exact .inr ⟨by decide, by decide⟩ | exact .inl ⟨by decide, by decide⟩ | exact ⟨by decide, by decide, by decide⟩ | exact .inl ⟨by omega, by omega⟩))
  | ((with_reducible refine' RD.setL ?rdH ?rdE ?rdK); (case rdH => walk_at "hp"); (case rdE => rfl); intro $(Lean.mkIdent `H'):ident $(Lean.mkIdent `hk):ident $(Lean.mkIdent `hv):ident)
  | ((with_reducible refine' RD.irng1V ?rdA ?rdB ?rdK); (case rdA => first | decide | omega); (case rdB => first | decide | omega))
  | with_reducible refine RD.int1 ?_
  | with_reducible refine RD.abs1 ?_
  | ((with_reducible refine' RD.len ?rdH ?rdK); (case rdH => first | exact Or.inl (by walk_at "sq") | exact Or.inr (by walk_at "st")))
  | with_reducible refine RD.tup ?_
  | with_reducible refine RD.lst ?_
  | with_reducible refine RD.ite1 ?_
  | with_reducible refine RD.ite0 ?_
  | with_reducible refine RD.ite1n ?_
  | with_reducible refine RD.ite0n ?_
  | with_reducible refine RD.seq ?_
  | with_reducible refine RD.asg ?_
  | with_reducible refine RD.name ?_
  | with_reducible refine RD.ret ?_
  | with_reducible refine RD.drop ?_
  | with_reducible refine RD.next ?_
  | with_reducible refine RD.ifs ?_
  | with_reducible refine RD.par ?_
  | with_reducible refine RD.par2 ?_
  | with_reducible refine RD.sub ?_
  | with_reducible refine RD.gcons ?_
  | with_reducible refine RD.gnil ?_
  | with_reducible refine RD.bm ?_
  | ((with_reducible refine' RD.bmL ?rdH ?rdK); (case rdH => walk_at "sq"))
  | ((with_reducible refine' RD.newZ ?rdH ?rdK); (case rdH => exact RD.sz _); intro $(Lean.mkIdent `p'):ident $(Lean.mkIdent `H'):ident $(Lean.mkIdent `hp):ident $(Lean.mkIdent `hs):ident $(Lean.mkIdent `hv):ident; (try have $(Lean.mkIdent `hn):ident := hand_ne $(Lean.mkIdent `hp):ident (by walk_at "hk")))
  | with_reducible refine RD.fors ?_
  | with_reducible refine RD.lc ?_
  | with_reducible refine RD.yes ?_
  | with_reducible refine RD.ilist ?_
  | ((with_reducible refine' RD.ilistV ?rdH ?rdK); (case rdH => walk_at "sq"))
  | with_reducible refine RD.itup ?_
  | ((with_reducible refine' RD.itupV ?rdH ?rdK); (case rdH => walk_at "st"))
  | with_reducible refine RD.irng1 ?_
  | with_reducible refine RD.irng2 ?_
  | ((with_reducible refine' RD.irng2V ?rdA ?rdK); (case rdA => first | decide | omega))
  | with_reducible refine RD.ienum ?_
  | ((with_reducible refine' RD.ienumV ?rdH ?rdK); (case rdH => walk_at "sq"))
  | with_reducible refine RD.izip ?_
  | ((with_reducible refine' RD.izipV ?rdH ?rdE ?rdK); (case rdH => walk_at "sq"); (case rdE => walk_at "sq"))
  | with_reducible refine SPD.izipA ?_
  | with_reducible refine RD.istr ?_
  | with_reducible refine RD.istrV ?_
  | ((with_reducible refine' RD.slL ?rdH ?rdK); (case rdH => walk_at "sq"); intro $(Lean.mkIdent `p'):ident $(Lean.mkIdent `H'):ident $(Lean.mkIdent `hp):ident $(Lean.mkIdent `hs):ident $(Lean.mkIdent `hv):ident; (try have $(Lean.mkIdent `hn):ident := hand_ne $(Lean.mkIdent `hp):ident (by walk_at "hk")))
  | ((with_reducible refine' RD.cat ?rdH ?rdE ?rdZ ?rdK); (case rdH => walk_at "hp"); (case rdE => walk_at "hp"); (case rdZ => exact RD.sz _); intro $(Lean.mkIdent `p'):ident $(Lean.mkIdent `H'):ident $(Lean.mkIdent `hp):ident $(Lean.mkIdent `hs):ident $(Lean.mkIdent `hv):ident; (try have $(Lean.mkIdent `hn):ident := hand_ne $(Lean.mkIdent `hp):ident (by walk_at "hk")))
  | ((with_reducible refine' RD.gtup ?rdH ?rdE ?rdK); (case rdH => walk_at "st"); (case rdE => rfl))
  | ((with_reducible refine' RD.app ?rdH ?rdZ ?rdK); (case rdH => walk_at "hp"); (case rdZ => first | assumption | (apply RD.szl; omega)); intro $(Lean.mkIdent `H'):ident $(Lean.mkIdent `hk):ident $(Lean.mkIdent `hv):ident)
  | ((with_reducible refine' RD.all1 ?rdH ?rdK); (case rdH => walk_at "sq"))
  | ((with_reducible refine' RD.any1 ?rdH ?rdK); (case rdH => walk_at "sq"))
  | ((with_reducible refine' SPD.dnew ?rdK); intro $(Lean.mkIdent `p'):ident $(Lean.mkIdent `H'):ident $(Lean.mkIdent `hp):ident $(Lean.mkIdent `hs):ident $(Lean.mkIdent `hv):ident; (try have $(Lean.mkIdent `hn):ident := hand_ne $(Lean.mkIdent `hp):ident (by walk_at "hk")))
  | ((with_reducible refine' SPD.disp1 ?rdK); intro $(Lean.mkIdent `p'):ident $(Lean.mkIdent `H'):ident $(Lean.mkIdent `hp):ident $(Lean.mkIdent `hs):ident $(Lean.mkIdent `hv):ident; (try have $(Lean.mkIdent `hn):ident := hand_ne $(Lean.mkIdent `hp):ident (by walk_at "hk")))
  | ((with_reducible refine' SPD.isSeq ?rdH ?rdE ?rdK); (case rdH => walk_at "hp"); (case rdE => walk_at "kd"))
  | ((with_reducible refine' SPD.isTup ?rdE ?rdK); (case rdE => walk_at "kd"))
  | ((with_reducible refine' SPD.isLst ?rdE ?rdK); (case rdE => walk_at "kd"))
  | ((with_reducible refine' SPD.isBool ?rdE ?rdK); (case rdE => walk_at "kd"))
  | ((with_reducible refine' SPD.isStr ?rdE ?rdK); (case rdE => walk_at "kd"))
  | ((with_reducible refine' SPD.isInt ?rdE ?rdK); (case rdE => walk_at "kd"))
  | dsimp only)
local macro_rules | `(tactic| walk_at "rds") => `(tactic| repeat walk_at "rd")
local macro_rules | `(tactic| walk_at "sm") => `(tactic| first | assumption | exact Same.refl _ | exact RD.sm_tr (by assumption) (by walk_at "sm") | fail "no")
local macro_rules | `(tactic| walk_at "kb") => `(tactic| first | assumption | exact RD.KB.refl | exact RD.kb_tr (by assumption) (by walk_at "kb") | exact RD.kb_trs (by assumption) (by walk_at "kb") | fail "no")
local macro_rules | `(tactic| walk_at "fr") => `(tactic| first | assumption | exact RD.fr_of (by assumption) (by walk_at "sm") | fail "no")
local macro_rules | `(tactic| walk_at "hk") => `(tactic| first | assumption | exact hand_same (by assumption) (by walk_at "hk") | exact hand_kb (by assumption) (by walk_at "fr") (by walk_at "hk") | fail "no")
local macro_rules | `(tactic| walk_at "na") => `(tactic| first | assumption | exact hand_ne (by assumption) (by walk_at "hk") | fail "no")
local macro_rules | `(tactic| walk_at "dqa") => `(tactic| first | exact SPD.DqA.nil | exact SPD.DqA.cons (by walk_at "dq") (by walk_at "dqa") | exact SPD.DqA.app (by walk_at "dqa") (by walk_at "dqa") | fail "no")
local macro_rules | `(tactic| walk_at "dq") => `(tactic| first | assumption | exact SPD.Dq.leaf rfl | exact SPD.dq_kb (by assumption) (by walk_at "kb") | exact SPD.dqTup (by walk_at "hp") (by walk_at "na") (by walk_at "dqa") | exact SPD.dqLst (by walk_at "hp") (by walk_at "na") (by walk_at "dqa") | exact SPD.dqNil (by walk_at "hp") (by walk_at "na") (by first | decide | simp) (by first | decide | simp) | fail "no")

local macro_rules | `(tactic| walk_at "rd") => `(tactic| first
  | with_reducible refine RB.chain ?_
  | with_reducible refine RB.m1 ?_
  | with_reducible refine RB.strE ?_
  | with_reducible refine RB.fld ?_
  | with_reducible refine RB.setF ?_
  | with_reducible refine RB.ss ?_
  | with_reducible refine RB.rev ?_
  | with_reducible refine RB.make ?_
  | with_reducible refine RB.makeS ?_
  | with_reducible refine RB.mkO ?_
  | with_reducible refine NR.ienumT ?_
  | with_reducible refine RB.inS ?_
  | with_reducible refine RB.bmS ?_
  | with_reducible refine RB.callS ?_
  | with_reducible refine RB.sw3 ?_
  | with_reducible refine RB.par3 ?_
  | with_reducible refine RB.par3V ?_
  | ((with_reducible refine' RB.slS ?rdH ?rdK); (case rdH => walk_at "sz"))
  | with_reducible refine RB.xf ?_
  | ((with_reducible refine' RB.xfV ?rdH ?rdE ?rdK); (case rdH => walk_at "hp"); (case rdE => rfl))
  | ((with_reducible refine' NR.ienumTV ?rdH ?rdK); (case rdH => walk_at "st"))
  | ((with_reducible refine' RB.lenL ?rdH ?rdK); (case rdH => walk_at "sq"))
  | ((with_reducible refine' RB.lenT ?rdH ?rdK); (case rdH => walk_at "st"))
  | ((with_reducible refine' RB.lenS ?rdH ?rdK); (case rdH => walk_at "sz"))
  | ((with_reducible refine' RD.lenS ?rdH ?rdK); (case rdH => walk_at "sz"))
  | ((with_reducible refine' RB.slT ?rdH ?rdK); (case rdH => walk_at "hp"); intro $(Lean.mkIdent `p'):ident $(Lean.mkIdent `H'):ident $(Lean.mkIdent `hs):ident $(Lean.mkIdent `hv):ident $(Lean.mkIdent `hp):ident; (try have $(Lean.mkIdent `hn):ident := two_ne $(Lean.mkIdent `hp):ident (by walk_at "na") (by walk_at "hk")))
  | ((with_reducible refine' RB.revV ?rdH ?rdK); (case rdH => walk_at "st"); intro $(Lean.mkIdent `p'):ident $(Lean.mkIdent `H'):ident $(Lean.mkIdent `hp):ident $(Lean.mkIdent `hs):ident $(Lean.mkIdent `hv):ident; (try have $(Lean.mkIdent `hn):ident := hand_ne $(Lean.mkIdent `hp):ident (by walk_at "hk")))
  | ((with_reducible refine' RB.listS ?rdH ?rdK); (case rdH => walk_at "sz"); intro $(Lean.mkIdent `p'):ident $(Lean.mkIdent `H'):ident $(Lean.mkIdent `hp):ident $(Lean.mkIdent `hs):ident $(Lean.mkIdent `hv):ident; (try have $(Lean.mkIdent `hn):ident := hand_ne $(Lean.mkIdent `hp):ident (by walk_at "hk")))
  | ((with_reducible refine' RB.listO ?rdH ?rdK); (case rdH => first | exact Or.inl (by walk_at "sq") | exact Or.inr (by walk_at "st")); intro $(Lean.mkIdent `p'):ident $(Lean.mkIdent `H'):ident $(Lean.mkIdent `hp):ident $(Lean.mkIdent `hs):ident $(Lean.mkIdent `hv):ident; (try have $(Lean.mkIdent `hn):ident := hand_ne $(Lean.mkIdent `hp):ident (by walk_at "hk")))
  | ((with_reducible refine' RB.tupL ?rdH ?rdK); (case rdH => walk_at "sq"); intro $(Lean.mkIdent `p'):ident $(Lean.mkIdent `H'):ident $(Lean.mkIdent `hp):ident $(Lean.mkIdent `hs):ident $(Lean.mkIdent `hv):ident; (try have $(Lean.mkIdent `hn):ident := hand_ne $(Lean.mkIdent `hp):ident (by walk_at "hk")))
  | ((with_reducible refine' RB.catT ?rdH ?rdE ?rdZ ?rdK); (case rdH => walk_at "hp"); (case rdE => walk_at "hp"); (case rdZ => exact RB.LN.sum (by walk_at "ln") (by walk_at "ln") rfl); intro $(Lean.mkIdent `p'):ident $(Lean.mkIdent `H'):ident $(Lean.mkIdent `hs):ident $(Lean.mkIdent `hv):ident $(Lean.mkIdent `hp):ident; (try have $(Lean.mkIdent `hn):ident := three_ne $(Lean.mkIdent `hp):ident (by walk_at "na") (by walk_at "na") (by walk_at "hk")))
  | fail "no")
local macro_rules | `(tactic| walk_at "ln") => `(tactic| first | with_reducible assumption | exact RB.LN.cut (by walk_at "ln") | exact RB.LN.app (by walk_at "ln") (by walk_at "ln") | exact RB.LN.rev (by walk_at "ln") | exact RB.LN.rep (by walk_at "ln") | exact RB.LN.lit rfl | fail "no")
local macro_rules | `(tactic| walk_at "sz") => `(tactic| first | assumption | exact RD.sz _ | fail "no")

/-! ### for the laws -/
def spLaw (K : PySem.W.Frag) : Sp := fun vs H Q _ => ∃ (a : Addr) (ns : List Int), vs = [.ref a] ∧ SqL K H a (ns.map V.int) ∧ ns.length ≤ 63 ∧ ∀ H', Q (.bl true) H'
theorem own_le {x : Str} {ys : List Str} (h : SST.Own x ys) : (ys.map (·.length)).sum ≤ x.cps.size := by
  have h1 : ys.length ≤ x.cps.size := by
    rw [h.1.length_eq]
    exact SST.mets_len _ _
  have h2 := sum_le 1 ys fun y hy => by
    obtain ⟨j, _, rfl⟩ := (SST.mets_mem _ _ _).mp (h.1.mem_iff.mp hy)
    exact Nat.le_refl _
  omega
theorem dq_pieces {a t : Addr} {H : Hp} {zs : List Str} (g : Good zs) (ht : H t = some (.tup (zs.map V.str))) (nt : t ≠ a) : SPD.Dq a H 1 (.ref t) :=
  RB.dqTupN ht nt (RB.dqa_strs fun z hz => Nat.le_trans (piece_size (g.piece z hz)).2 (by decide)) (show RB.LN 12 _ from by
    show (zs.map V.str).length ≤ 12
    rw [List.length_map]
    exact g.few) rfl
theorem is_same {K : PySem.W.Frag} {a : Addr} {H : Hp} {m : Nat} {v : V} (n : Nat) (h : SPD.Dq a H m v) (hm : m ≤ n) : SPD.IsB K H n v v true := SPD.IsB.refl (h.mono n hm)

/-! ### drawn logs, drawn strikings -/
def spSomeStriking : Sp := fun vs H Q _ => ∃ (a c t : Addr) (zs : List Str) (z : Str) (m : Int), vs = [.ref a, .ref t, .str z, .int m] ∧ HandOk H a c ∧ H t = some (.tup (zs.map V.str)) ∧ t ≠ a ∧ Good zs ∧ z.cps.size ≤ 20000 ∧ 0 ≤ m ∧ m ≤ 12 ∧
  ∀ (u : Addr) (ws : List V) H', RD.KB a H H' → HandOk H' a c → H' u = some (.tup ws) → u ≠ a → RB.LN 12 ws → SPD.DqA a H' 1 ws → Q (.ref u) H'
def spIdleLog : Sp := fun vs H Q _ => ∃ (a c t : Addr) (zs : List Str) (m : Nat), vs = [.ref a, .ref t, .int (m : Nat)] ∧ HandOk H a c ∧ H t = some (.tup (zs.map V.str)) ∧ t ≠ a ∧ Good zs ∧ m ≤ 10000 ∧
  ∀ (z : Str) H', RD.KB a H H' → HandOk H' a c → logB z = true → z.cps.size ≤ m → Q (.str z) H'
def spLogD : Sp := fun vs H Q _ => ∃ (a c t : Addr) (zs : List Str) (m : Nat), vs = [.ref a, .ref t, .int (m : Nat)] ∧ HandOk H a c ∧ H t = some (.tup (zs.map V.str)) ∧ t ≠ a ∧ Good zs ∧ 1 ≤ m ∧ m ≤ 10000 ∧
  ∀ (z : Str) H', RD.KB a H H' → HandOk H' a c → logB z = true → z.cps.size ≤ m + 1 → Q (.str z) H'
def spBentStriking : Sp := fun vs H Q _ => ∃ (a c t u : Addr) (zs : List Str) (z : Str) (ws : List V), vs = [.ref a, .ref t, .str z, .ref u] ∧ HandOk H a c ∧ H t = some (.tup (zs.map V.str)) ∧ t ≠ a ∧ Good zs ∧ z.cps.size ≤ 20000 ∧ H u = some (.tup ws) ∧ u ≠ a ∧ RB.LN 12 ws ∧ SPD.DqA a H 1 ws ∧
  ∀ v H', RD.KB a H H' → HandOk H' a c → SPD.Dq a H' 30 v → Q v H'
def spStrikingTold (C : Addr) : Sp := fun vs H Q _ => ∃ (b t x : Addr) (n : Nat) (zs : List Str) (z : Str) (v : V), vs = [.ref b, .str z, v] ∧ BookAt H C b t ∧ H t = some (.tup (zs.map V.str)) ∧ Good zs ∧ z.cps.size ≤ 100000 ∧ logB z = true ∧ SPD.Dq x H n v ∧
  ((fwV H zs z v).1 = .non → ∀ u H', H u = none → Same H H' → H' u = some (.tup [.str "left", .str (fwV H zs z v).2]) → Q (.ref u) H') ∧ ((fwV H zs z v).1 ≠ .non → ∀ H', Same H H' → Q (fwV H zs z v).1 H')
theorem DqA.kbm {x : Addr} {H H' : Hp} {n : Nat} {vs : List V} (h : SPD.DqA x H n vs) (k : RD.KB x H H') : SPD.DqA x H' n vs := by
  induction h with
  | nil => exact .nil
  | cons a _ ih => exact .cons (a.kb k) ih
theorem mem_ln {zs : List Str} (g : Good zs) : (zs.map V.str).length = zs.length ∧ 1 ≤ zs.length ∧ zs.length ≤ 12 := ⟨List.length_map .., g.some, g.few⟩
theorem spAny.pieces {K : PySem.W.Frag} {a c t : Addr} {zs : List Str} {H : Hp} {Q : VK} {E : XK} (h : HandOk H a c) (ht : H t = some (.tup (zs.map V.str))) (nt : t ≠ a) (g : Good zs)
    (q : ∀ z H', z ∈ zs → pieceB z = true → RD.KB a H H' → HandOk H' a c → Q (.str z) H') : spAny K ([.ref a, .ref t] ++ []) H Q E := by
  obtain ⟨l1, l2, l3⟩ := mem_ln g
  refine spAny.mk h (.tup nt (.inl (.inl ht))) (by omega) (by omega) fun v H' hm k hh => ?_
  obtain ⟨z, hz, rfl⟩ := List.mem_map.mp hm
  exact q z H' hz (g.piece z hz) k hh
/-- texts of letters -/
theorem spAny.letter {K : PySem.W.Frag} {a c0 : Addr} {z : Str} {H : Hp} {Q : VK} {E : XK} (h : HandOk H a c0) (hz : logB z = true) (h1 : 1 ≤ z.cps.size) (h2 : z.cps.size ≤ 100000)
    (q : ∀ s H', sgn s = true → RD.KB a H H' → HandOk H' a c0 → Q (.str s) H') : spAny K ([.ref a, .str z] ++ []) H Q E := by
  have hl : (z.cps.toList.map fun c => V.str ⟨#[c]⟩).length = z.cps.size := by rw [List.length_map, Array.length_toList]
  refine spAny.mk h (.str (small_len h2)) (by rw [hl]; omega) (by rw [hl]; omega) fun v H' hv k hh => ?_
  obtain ⟨c, hc, rfl⟩ := List.mem_map.mp hv
  refine q ⟨#[c]⟩ H' (sgn_one ?_) k hh
  unfold logB at hz
  exact of_decide_eq_true (List.all_eq_true.mp hz c hc)
theorem sgn_log {s : Str} (h : sgn s = true) : logB s = true ∧ s.cps.size = 1 := by
  unfold sgn at h
  rw [Bool.and_eq_true] at h
  exact ⟨h.2, of_decide_eq_true h.1⟩
theorem log_join {ss : List Str} (h : ∀ s, s ∈ ss → logB s = true) : logB (Txt.join ("" : Str) ss) = true := by
  unfold logB
  rw [join_cps, List.all_eq_true]
  intro c hc
  obtain ⟨l, hl, hcl⟩ := List.mem_flatten.mp hc
  obtain ⟨s, hs, rfl⟩ := List.mem_map.mp hl
  have e := h s hs
  unfold logB at e
  exact List.all_eq_true.mp e c hcl
theorem signs_size : ∀ (ss : List Str), (∀ s, s ∈ ss → sgn s = true) → (ss.map (·.length)).sum = ss.length
  | [], _ => rfl
  | y :: r, h => by
    have ih := signs_size r fun s hs => h s (List.mem_cons_of_mem _ hs)
    have e1 : y.length = 1 := (sgn_log (h y List.mem_cons_self)).2
    rw [List.map_cons, List.sum_cons, ih, e1, List.length_cons, Nat.add_comm]
/-- the own letters: some, and letters -/
theorem own_log {zs ys : List Str} (g : Good zs) (ho : SST.Own (Txt.join ("" : Str) zs) ys) : logB (Txt.join ("" : Str) ys) = true ∧ 1 ≤ (Txt.join ("" : Str) ys).cps.size ∧ (Txt.join ("" : Str) ys).cps.size ≤ 100 := by
  have hj : logB (Txt.join ("" : Str) zs) = true := log_join fun z hz => by
    have := g.piece z hz
    unfold pieceB at this
    rw [Bool.and_eq_true] at this
    exact this.1
  have hs := g.sum
  have h0 : 1 ≤ (zs.map (·.length)).sum := by
    have h1 := g.some
    match zs, g, h1 with
    | z :: r, g, _ =>
      rw [List.map_cons, List.sum_cons]
      have := (piece_size (g.piece z List.mem_cons_self)).1
      have e : z.length = z.cps.size := rfl
      omega
  have hsz := join_size zs
  have sg : ∀ y, y ∈ ys → sgn y = true := fun y hy => by
    obtain ⟨j, hj1, rfl⟩ := (SST.mets_mem _ _ _).mp (ho.1.mem_iff.mp hy)
    refine sgn_one ?_
    unfold logB at hj
    refine of_decide_eq_true (List.all_eq_true.mp hj _ ?_)
    show (Txt.join ("" : Str) zs).cps.getD j 0 ∈ _
    rw [Array.getD_eq_getD_getElem?, Array.getElem?_eq_getElem hj1]
    exact Array.mem_toList_iff.mpr (Array.getElem_mem hj1)
  have hl := signs_size ys sg
  have h2 := own_le ho
  refine ⟨log_join fun y hy => (sgn_log (sg y hy)).1, ?_, by rw [join_size]; omega⟩
  rw [join_size, hl]
  have hm : SST.signs (Txt.join ("" : Str) zs) 0 ∈ ys := ho.1.mem_iff.mpr ((SST.mets_mem _ _ _).mpr ⟨0, by omega, rfl⟩)
  exact List.length_pos_of_mem hm
theorem log_lets : logB ("abcdefgh" : Str) = true := by decide +kernel
section
variable {P : Program} {w : World} {K : PySem.W.Frag} {mg : Str → Option Value} {base : Heap}
theorem ok_some_striking (T : Txt P K mg) : FnOk P w K mg base CX0 3 T.a_some_striking T.fd_some_striking ["_law_hand_here", "_law_pieces_here", "_law_log_here", "_law_most"] spSomeStriking := by
  have nd := sc_some_striking.nd
  have G_any : FnOk P w K mg base CX0 2 T.a_any T.fd_any ["_law_hand_here", "_law_items"] (spAny K) := ok_any T
  have G_strikes : FnOk P w K mg base CX0 2 T.a_strikes T.fd_strikes ["_law_pieces_here", "_law_log_here"] spStrikesL := (ok_strikes T).mono (by decide)
  have G_struck : FnOk P w K mg base CX0 2 T.a_struck T.fd_struck ["_law_pieces_here", "_law_log_here", "_law_strike"] spStruckL := (ok_struck T).mono (by decide)
  refine T.F_some_striking.ok sc_some_striking (fun vs H Q E h => ?_) (fun cdv A outer s H vs Q E hr h => ?_)
  · obtain ⟨a, c, t, zs, z, m, rfl, _⟩ := h
    rfl
  · obtain ⟨a, c, t, zs, z, m, rfl, hh, ht, nt, g, hz, hm0, hm1, q⟩ := h
    refine ⟨_, (pss_cons (ps_set (i := 4) nd rfl (by first | exact Or.inl rfl | exact Or.inr rfl) (pe_tup pa_nil))
  (pss_cons (ps_for PassesOwn.never rfl (pi_range1 (by rfl) T.m_range (pa_cons (pv 3) pa_nil)) (pg_name (i := 5) nd rfl (by first | exact Or.inl rfl | exact Or.inr rfl))
    (pss_cons (ps_set (i := 6) nd rfl (by first | exact Or.inl rfl | exact Or.inr rfl) (pe_call G_strikes hr (by rfl) T.g_strikes T.F_strikes.kp T.b_strikes .nil pass0 (pa_cons (pv 1) (pa_cons (pv 2) pa_nil))))
  (pss_one (ps_if (pt_cmpR op_gt (pe_callB call_len_seq (by rfl) T.m_len PySem.boot_len (pa_cons (pv 6) pa_nil)) pe_int (nomark _))
    (pss_cons (ps_set (i := 7) nd rfl (by first | exact Or.inl rfl | exact Or.inr rfl) (pe_call G_any hr (by rfl) T.g_any T.F_any.kp T.b_any .nil pass0 (pa_cons (pv 0) (pa_cons (pv 6) pa_nil))))
  (pss_one (ps_par (i := 4) (j := 2) rfl nd rfl rfl (by decide) rfl rfl (pa_cons (pe_op op_catA (pv 4) (pe_tup (pa_cons (pv 7) pa_nil))) (pa_cons (pe_call G_struck hr (by rfl) T.g_struck T.F_struck.kp T.b_struck .nil pass0 (pa_cons (pv 1) (pa_cons (pv 2) (pa_cons (pv 7) pa_nil)))) pa_nil)) (by rfl))))
    pss_nil))))
  (pss_one (ps_ret (pv 4))))), ?_⟩
    walk_at "rds"
    refine RD.forW (walk_range (lo := 0) (n := Int.toNat m)) (fun i σ H' => ∃ (z' : Str) (u : Addr) (ws : List V) (x5 x6 x7 : Option V), σ = [some (.ref a), some (.ref t), some (.str z'), some (.int m), some (.ref u), x5, x6, x7] ∧ z'.cps.size ≤ 20000 ∧ RD.KB a H H' ∧ HandOk H' a c ∧ H' u = some (.tup ws) ∧ u ≠ a ∧ ws.length ≤ i ∧ SPD.DqA a H' 1 ws)
      ⟨z, _, [], _, _, _, rfl, hz, by walk_at "kb", by walk_at "hk", hv, hn, Nat.le_refl _, .nil⟩ (fun _ _ _ _ _ => trivial) (fun i x σ H2 H3 hi hp hy => ?_) (fun σ H2 hp => ?_)
    · obtain ⟨z', u, ws, x5, x6, x7, rfl, hz', k2, hh2, hu, nu, hlw, hdw⟩ := hp
      obtain ⟨rfl, rfl⟩ := hy
      have ht2 := k2 _ _ nt ht
      clear hv hs hp hn
      walk_at "rds"
      refine ⟨t, zs, z', rfl, ht2, g, Nat.le_trans hz' (by decide), fun f H4 hf s4 hpr => ?_⟩
      obtain ⟨vs, hf4, hpl⟩ := hpr
      have nf : f ≠ a := hand_ne hf hh2
      have hpl1 := hpl.len
      have hmany := many_ok g (Nat.le_trans hz' (by decide)) (Nat.le_refl z'.cps.size)
      have hmany : (strikesL zs z').length ≤ 1200000 := hmany
      have hu4 := s4 _ _ hu
      have ht4 := s4 _ _ ht2
      have hd4 : SPD.DqA a H4 1 ws := DqA.kbm hdw (RD.Same.kb s4)
      walk_at "rds"
      refine RD.ite_d (fun h0 => ?_) (fun _ => ?_)
      · walk_at "rds"
        refine spAny.mk (E := E0) (by walk_at "hk") (.lst nf (.inl (.inl hf4))) (by omega) (by omega) fun v H5 hvm k5 hh5 => ?_
        obtain ⟨b, p, k, rfl, hb, hm⟩ := hpl.mem v hvm
        have nb : b ≠ a := fun e => by
          subst e
          obtain ⟨cells, i, g, sd, n, ha, _⟩ := (hh2.same s4)
          rw [ha] at hb
          cases hb
        have hb5 := k5 _ _ nb hb
        have hu5 := k5 _ _ nu hu4
        have ht5 := k5 _ _ nt ht4
        have hd5 : SPD.DqA a H5 1 ws := DqA.kbm hd4 k5
        have hlw2 : RB.LN 12 ws := by
          show ws.length ≤ 12
          omega
        walk_at "rds"
        refine ⟨t, b, p, k, zs, z', rfl, by walk_at "hp", g, Nat.le_trans hz' (by decide), by walk_at "hp", hm, fun H7 s7 => ?_⟩
        walk_at "rds"
        have hpz := (mem_strikes.mp hm).1
        have hvv : H7 p' = some (.tup (ws ++ [.ref b])) := by walk_at "hp"
        refine ⟨_, _, _, _, _, _, rfl, Nat.le_trans (struck_size (Nat.le_of_lt hpz)) hz', by walk_at "kb", by walk_at "hk", hvv, hn, by rw [List.length_append]; exact Nat.succ_le_succ hlw, ?_⟩
        exact (DqA.kbm hd5 (by walk_at "kb")).app (.cons (SPD.dqTup (n := 0) (by walk_at "hp") nb (.cons (.leaf rfl) (.cons (.leaf rfl) .nil))) .nil)
      · walk_at "rds"
        exact ⟨_, _, _, _, _, _, rfl, hz', by walk_at "kb", by walk_at "hk", hu4, nu, Nat.le_succ_of_le hlw, hd4⟩
    · obtain ⟨z', u, ws, x5, x6, x7, rfl, hz', k2, hh2, hu, nu, hlw, hdw⟩ := hp
      walk_at "rds"
      exact q _ _ _ k2 hh2 hu nu (by show ws.length ≤ 12; omega) hdw
theorem ok_idle_log (T : Txt P K mg) : FnOk P w K mg base CX0 3 T.a_idle_log T.fd_idle_log ["_law_hand_here", "_law_pieces_here", "_law_most"] spIdleLog := by
  have nd := sc_idle_log.nd
  have G_any : FnOk P w K mg base CX0 2 T.a_any T.fd_any ["_law_hand_here", "_law_items"] (spAny K) := ok_any T
  have G_draw : FnOk P w K mg base CX0 2 T.a_draw T.fd_draw ["_law_hand_here", "_law_many"] spDraw := (ok_draw T).mono (by decide)
  refine T.F_idle_log.ok sc_idle_log (fun vs H Q E h => ?_) (fun cdv A outer s H vs Q E hr h => ?_)
  · obtain ⟨a, c, t, zs, m, rfl, _⟩ := h
    rfl
  · obtain ⟨a, c, t, zs, m, rfl, hh, ht, nt, g, hm, q⟩ := h
    refine ⟨_, (pss_cons (ps_set (i := 3) nd rfl (by first | exact Or.inl rfl | exact Or.inr rfl) pe_str)
  (pss_cons (ps_for PassesOwn.never rfl (pi_range1 (by rfl) T.m_range (pa_cons (pv 2) pa_nil)) (pg_name (i := 4) nd rfl (by first | exact Or.inl rfl | exact Or.inr rfl))
    (pss_cons (ps_par (i := 5) (j := 6) rfl nd rfl rfl (by decide) rfl rfl (pa_cons (pe_call G_any hr (by rfl) T.g_any T.F_any.kp T.b_any .nil pass0 (pa_cons (pv 0) (pa_cons (pv 1) pa_nil))) (pa_cons (pe_call G_draw hr (by rfl) T.g_draw T.F_draw.kp T.b_draw .nil pass0 (pa_cons (pv 0) (pa_cons (pe_op op_add (pe_callB call_len_str (by rfl) T.m_len PySem.boot_len (pa_cons (pv 3) pa_nil)) pe_int) pa_nil))) pa_nil)) (by rfl))
  (pss_one (ps_if (PW.pt (pw_and (pt_cmpR op_le (pe_op op_add (pe_callB call_len_str (by rfl) T.m_len PySem.boot_len (pa_cons (pv 3) pa_nil)) (pe_callB call_len_str (by rfl) T.m_len PySem.boot_len (pa_cons (pv 5) pa_nil))) (pv 2) (nomark _)) (pw_and1 (pt_cmpR op_gt (pe_call G_draw hr (by rfl) T.g_draw T.F_draw.kp T.b_draw .nil pass0 (pa_cons (pv 0) (pa_cons pe_int pa_nil))) pe_int (nomark _)))))
    (pss_one (ps_set (i := 3) nd rfl (by first | exact Or.inl rfl | exact Or.inr rfl) (pe_op op_add_str (pe_op op_add_str (pe_slice sl_str (pv 3) po_none (po_some (pv 6))) (pv 5)) (pe_slice sl_str (pv 3) (po_some (pv 6)) po_none))))
    pss_nil))))
  (pss_one (ps_ret (pv 3))))), ?_⟩
    walk_at "rds"
    refine RD.forW (walk_range (lo := 0) (n := Int.toNat (m : Int))) (fun i σ H' => ∃ (z : Str) (x4 x5 x6 : Option V), σ = [some (.ref a), some (.ref t), some (.int (m : Int)), some (.str z), x4, x5, x6] ∧ logB z = true ∧ z.cps.size ≤ m ∧ RD.KB a H H' ∧ HandOk H' a c)
      ⟨("" : Str), _, _, _, rfl, rfl, Nat.zero_le _, RD.KB.refl, hh⟩ (fun _ _ _ _ _ => trivial) (fun i x σ H2 H3 hi hp hy => ?_) (fun σ H2 hp => ?_)
    · obtain ⟨z, x4, x5, x6, rfl, hl, hz, k2, hh2⟩ := hp
      obtain ⟨rfl, rfl⟩ := hy
      have ht2 := k2 _ _ nt ht
      have hzl : z.length = z.cps.size := rfl
      have hzs : z.length ≤ sizeLine := small_len (by omega)
      walk_at "rds"
      refine spAny.pieces (E := E0) hh2 ht2 nt g fun y H4 hy hpy k4 hh4 => ?_
      have hyl : y.length = y.cps.size := rfl
      have hy8 := (piece_size hpy).2
      have hys : y.length ≤ sizeLine := small_len (by omega)
      have hylog : logB y = true := by
        unfold pieceB at hpy
        rw [Bool.and_eq_true] at hpy
        exact hpy.1
      walk_at "rds"
      refine spDraw.mk (E := E0) hh4 (by omega) (by omega) fun r H5 hr0 hr1 k5 hh5 => ?_
      walk_at "rds"
      refine RD.ite_d (fun h1 => ?_) (fun _ => ?_)
      · walk_at "rds"
        refine spDraw.mk (E := E0) hh5 (by decide) (by decide) fun r2 H6 _ _ k6 hh6 => ?_
        walk_at "rds"
        refine RD.ite_d (fun h2 => ?_) (fun _ => ?_)
        · obtain ⟨p, rfl⟩ : ∃ p : Nat, r = (p : Int) := ⟨r.toNat, (Int.toNat_of_nonneg hr0).symm⟩
          have c1 := cut_size z none (some (p : Int))
          have c2 := cut_size z (some (p : Int)) none
          have c3 := app_size (cutS z none (some (p : Int))) y
          have el : ∀ x : Str, x.length = x.cps.size := fun _ => rfl
          walk_at "rds"
          refine RB.addS (RD.szo (by rw [el, el]; omega)) ?_
          walk_at "rds"
          refine RB.addS (RD.szo (by rw [el, el]; omega)) ?_
          walk_at "rds"
          exact ⟨putS z y p, _, _, _, rfl, log_put hl hylog, by rw [put_size (by omega)]; omega, by walk_at "kb", hh6⟩
        · walk_at "rds"
          exact ⟨_, _, _, _, rfl, hl, hz, by walk_at "kb", hh6⟩
      · walk_at "rds"
        exact ⟨_, _, _, _, rfl, hl, hz, by walk_at "kb", hh5⟩
    · obtain ⟨z, x4, x5, x6, rfl, hl, hz, k2, hh2⟩ := hp
      walk_at "rds"
      exact q _ _ k2 hh2 hl hz
end


end K02

namespace K02
open PySem PySem.Spec PyProof.Rows L2
local macro_rules | `(tactic| walk_at "kd") => `(tactic| first | assumption | exact SPD.KdOf.int _ | exact SPD.KdOf.str _ | exact SPD.KdOf.bl _ | exact SPD.KdOf.non | exact SPD.KdOf.same (by assumption) (by walk_at "kd") | exact SPD.KdOf.tup (by walk_at "hp") | exact SPD.KdOf.lst (by walk_at "hp") | fail "no")
local macro_rules | `(tactic| walk_at "ne") => `(tactic| first | assumption | exact Ne.symm (by assumption) | fail "no")
local macro_rules | `(tactic| walk_at "hp") => `(tactic| first | assumption | exact RD.at_same (by assumption) (by walk_at "hp") | exact RD.at_kb (by assumption) (by walk_at "ne") (by walk_at "hp") | fail "no")
local macro_rules | `(tactic| walk_at "sq") => `(tactic| first | assumption | exact Or.inl (Or.inl (by walk_at "hp")) | exact Same.seq (by assumption) (by walk_at "sq") | exact RD.KB.seq (by assumption) (by walk_at "ne") (by walk_at "sq") | fail "no")
local macro_rules | `(tactic| walk_at "st") => `(tactic| first | assumption | exact Or.inl (Or.inl (by walk_at "hp")) | exact RD.Same.tup (by assumption) (by walk_at "st") | exact RD.KB.tup (by assumption) (by walk_at "ne") (by walk_at "st") | fail "no")
local macro_rules | `(tactic| walk_at "rd") => `(tactic| first
  | with_reducible refine RD.c ?_
  | ((with_reducible refine' RD.var ?rdE ?rdK); (case rdE => exact rfl))
  | with_reducible refine RD.op ?_
  | with_reducible refine RD.un ?_
  | with_reducible refine RD.nil ?_
  | with_reducible refine RD.cons ?_
  | with_reducible refine RD.cb ?_
  | with_reducible refine RD.call ?_
  | with_reducible refine RD.test ?_
  | with_reducible refine RD.tb' ?_
  | with_reducible refine RD.bl ?_
  | with_reducible refine RD.and' ?_
  | with_reducible refine RD.or' ?_
  | with_reducible refine RD.not' ?_
  | with_reducible refine RD.andV ?_
  | with_reducible refine RD.orV ?_
  | with_reducible refine RD.notV ?_
  | with_reducible refine RD.ife ?_
  | with_reducible refine RD.sl ?_
  | with_reducible refine RD.part ?_
  | with_reducible refine RD.noPart ?_
  | with_reducible refine RD.partI ?_
  | with_reducible refine RD.rd0 ?_
  | with_reducible refine RD.rdU ?_
  | ((with_reducible refine' RD.rdEq ?rdE ?rdK); (case rdE => rfl))
  | ((with_reducible refine' RD.rdNe ?rdE ?rdK); (case rdE => rfl))
  | ((with_reducible refine' RD.ixL ?rdH ?rdE ?rdK); (case rdH => walk_at "sq"); (case rdE => first | rfl | assumption))
  | ((with_reducible refine' RD.rdI ?rdC ?rdK); (case rdC => first | assumption | (show (0 : Int) < _; first | decide | omega) | exact ⟨by decide, by decide⟩ | exact ⟨by assumption, by assumption⟩ | exact .inr ⟨by decide, by decide⟩ | exact .inl ⟨by decide, by decide⟩ | exact ⟨by decide, by decide, by decide⟩ | exact .inl ⟨by omega, by omega⟩))
  | ((with_reducible refine' RD.setL ?rdH ?rdE ?rdK); (case rdH => walk_at "hp"); (case rdE => rfl); intro $(Lean.mkIdent `H'):ident $(Lean.mkIdent `hk):ident $(Lean.mkIdent `hv):ident)
  | ((with_reducible refine' RD.irng1V ?rdA ?rdB ?rdK); (case rdA => first | decide | omega); (case rdB => first | decide | omega))
  | with_reducible refine RD.int1 ?_
  | with_reducible refine RD.abs1 ?_
  | ((with_reducible refine' RD.len ?rdH ?rdK); (case rdH => first | exact Or.inl (by walk_at "sq") | exact Or.inr (by walk_at "st")))
  | with_reducible refine RD.tup ?_
  | with_reducible refine RD.lst ?_
  | with_reducible refine RD.ite1 ?_
  | with_reducible refine RD.ite0 ?_
  | with_reducible refine RD.ite1n ?_
  | with_reducible refine RD.ite0n ?_
  | with_reducible refine RD.seq ?_
  | with_reducible refine RD.asg ?_
  | with_reducible refine RD.name ?_
  | with_reducible refine RD.ret ?_
  | with_reducible refine RD.drop ?_
  | with_reducible refine RD.next ?_
  | with_reducible refine RD.ifs ?_
  | with_reducible refine RD.par ?_
  | with_reducible refine RD.par2 ?_
  | with_reducible refine RD.sub ?_
  | with_reducible refine RD.gcons ?_
  | with_reducible refine RD.gnil ?_
  | with_reducible refine RD.bm ?_
  | ((with_reducible refine' RD.bmL ?rdH ?rdK); (case rdH => walk_at "sq"))
  | ((with_reducible refine' RD.newZ ?rdH ?rdK); (case rdH => exact RD.sz _); intro $(Lean.mkIdent `p'):ident $(Lean.mkIdent `H'):ident $(Lean.mkIdent `hp):ident $(Lean.mkIdent `hs):ident $(Lean.mkIdent `hv):ident; (try have $(Lean.mkIdent `hn):ident := hand_ne $(Lean.mkIdent `hp):ident (by walk_at "hk")))
  | with_reducible refine RD.fors ?_
  | with_reducible refine RD.lc ?_
  | with_reducible refine RD.yes ?_
  | with_reducible refine RD.ilist ?_
  | ((with_reducible refine' RD.ilistV ?rdH ?rdK); (case rdH => walk_at "sq"))
  | with_reducible refine RD.itup ?_
  | ((with_reducible refine' RD.itupV ?rdH ?rdK); (case rdH => walk_at "st"))
  | with_reducible refine RD.irng1 ?_
  | with_reducible refine RD.irng2 ?_
  | ((with_reducible refine' RD.irng2V ?rdA ?rdK); (case rdA => first | decide | omega))
  | with_reducible refine RD.ienum ?_
  | ((with_reducible refine' RD.ienumV ?rdH ?rdK); (case rdH => walk_at "sq"))
  | with_reducible refine RD.izip ?_
  | ((with_reducible refine' RD.izipV ?rdH ?rdE ?rdK); (case rdH => walk_at "sq"); (case rdE => walk_at "sq"))
  | with_reducible refine SPD.izipA ?_
  | with_reducible refine RD.istr ?_
  | with_reducible refine RD.istrV ?_
  | ((with_reducible refine' RD.slL ?rdH ?rdK); (case rdH => walk_at "sq"); intro $(Lean.mkIdent `p'):ident $(Lean.mkIdent `H'):ident $(Lean.mkIdent `hp):ident $(Lean.mkIdent `hs):ident $(Lean.mkIdent `hv):ident; (try have $(Lean.mkIdent `hn):ident := hand_ne $(Lean.mkIdent `hp):ident (by walk_at "hk")))
  | ((with_reducible refine' RD.cat ?rdH ?rdE ?rdZ ?rdK); (case rdH => walk_at "hp"); (case rdE => walk_at "hp"); (case rdZ => exact RD.sz _); intro $(Lean.mkIdent `p'):ident $(Lean.mkIdent `H'):ident $(Lean.mkIdent `hp):ident $(Lean.mkIdent `hs):ident $(Lean.mkIdent `hv):ident; (try have $(Lean.mkIdent `hn):ident := hand_ne $(Lean.mkIdent `hp):ident (by walk_at "hk")))
  | ((with_reducible refine' RD.gtup ?rdH ?rdE ?rdK); (case rdH => walk_at "st"); (case rdE => rfl))
  | ((with_reducible refine' RD.app ?rdH ?rdZ ?rdK); (case rdH => walk_at "hp"); (case rdZ => first | assumption | (apply RD.szl; omega)); intro $(Lean.mkIdent `H'):ident $(Lean.mkIdent `hk):ident $(Lean.mkIdent `hv):ident)
  | ((with_reducible refine' RD.all1 ?rdH ?rdK); (case rdH => walk_at "sq"))
  | ((with_reducible refine' RD.any1 ?rdH ?rdK); (case rdH => walk_at "sq"))
  | ((with_reducible refine' SPD.dnew ?rdK); intro $(Lean.mkIdent `p'):ident $(Lean.mkIdent `H'):ident $(Lean.mkIdent `hp):ident $(Lean.mkIdent `hs):ident $(Lean.mkIdent `hv):ident; (try have $(Lean.mkIdent `hn):ident := hand_ne $(Lean.mkIdent `hp):ident (by walk_at "hk")))
  | ((with_reducible refine' SPD.disp1 ?rdK); intro $(Lean.mkIdent `p'):ident $(Lean.mkIdent `H'):ident $(Lean.mkIdent `hp):ident $(Lean.mkIdent `hs):ident $(Lean.mkIdent `hv):ident; (try have $(Lean.mkIdent `hn):ident := hand_ne $(Lean.mkIdent `hp):ident (by walk_at "hk")))
  | ((with_reducible refine' SPD.isSeq ?rdH ?rdE ?rdK); (case rdH => walk_at "hp"); (case rdE => walk_at "kd"))
  | ((with_reducible refine' SPD.isTup ?rdE ?rdK); (case rdE => walk_at "kd"))
  | ((with_reducible refine' SPD.isLst ?rdE ?rdK); (case rdE => walk_at "kd"))
  | ((with_reducible refine' SPD.isBool ?rdE ?rdK); (case rdE => walk_at "kd"))
  | ((with_reducible refine' SPD.isStr ?rdE ?rdK); (case rdE => walk_at "kd"))
  | ((with_reducible refine' SPD.isInt ?rdE ?rdK); (case rdE => walk_at "kd"))
  | dsimp only)
local macro_rules | `(tactic| walk_at "rds") => `(tactic| repeat walk_at "rd")
local macro_rules | `(tactic| walk_at "sm") => `(tactic| first | assumption | exact Same.refl _ | exact RD.sm_tr (by assumption) (by walk_at "sm") | fail "no")
local macro_rules | `(tactic| walk_at "kb") => `(tactic| first | assumption | exact RD.KB.refl | exact RD.kb_tr (by assumption) (by walk_at "kb") | exact RD.kb_trs (by assumption) (by walk_at "kb") | fail "no")
local macro_rules | `(tactic| walk_at "fr") => `(tactic| first | assumption | exact RD.fr_of (by assumption) (by walk_at "sm") | fail "no")
local macro_rules | `(tactic| walk_at "hk") => `(tactic| first | assumption | exact hand_same (by assumption) (by walk_at "hk") | exact hand_kb (by assumption) (by walk_at "fr") (by walk_at "hk") | fail "no")
local macro_rules | `(tactic| walk_at "na") => `(tactic| first | assumption | exact hand_ne (by assumption) (by walk_at "hk") | fail "no")
local macro_rules | `(tactic| walk_at "dqa") => `(tactic| first | exact SPD.DqA.nil | exact SPD.DqA.cons (by walk_at "dq") (by walk_at "dqa") | exact SPD.DqA.app (by walk_at "dqa") (by walk_at "dqa") | fail "no")
local macro_rules | `(tactic| walk_at "dq") => `(tactic| first | assumption | exact SPD.Dq.leaf rfl | exact SPD.dq_kb (by assumption) (by walk_at "kb") | exact SPD.dqTup (by walk_at "hp") (by walk_at "na") (by walk_at "dqa") | exact SPD.dqLst (by walk_at "hp") (by walk_at "na") (by walk_at "dqa") | exact SPD.dqNil (by walk_at "hp") (by walk_at "na") (by first | decide | simp) (by first | decide | simp) | fail "no")

local macro_rules | `(tactic| walk_at "rd") => `(tactic| first
  | with_reducible refine RB.chain ?_
  | with_reducible refine RB.m1 ?_
  | with_reducible refine RB.strE ?_
  | with_reducible refine RB.fld ?_
  | with_reducible refine RB.setF ?_
  | with_reducible refine RB.ss ?_
  | with_reducible refine RB.rev ?_
  | with_reducible refine RB.make ?_
  | with_reducible refine RB.makeS ?_
  | with_reducible refine RB.mkO ?_
  | with_reducible refine NR.ienumT ?_
  | with_reducible refine RB.inS ?_
  | with_reducible refine RB.bmS ?_
  | with_reducible refine RB.callS ?_
  | with_reducible refine RB.sw3 ?_
  | with_reducible refine RB.par3 ?_
  | with_reducible refine RB.par3V ?_
  | ((with_reducible refine' RB.slS ?rdH ?rdK); (case rdH => walk_at "sz"))
  | with_reducible refine RB.xf ?_
  | ((with_reducible refine' RB.xfV ?rdH ?rdE ?rdK); (case rdH => walk_at "hp"); (case rdE => rfl))
  | ((with_reducible refine' NR.ienumTV ?rdH ?rdK); (case rdH => walk_at "st"))
  | ((with_reducible refine' RB.lenL ?rdH ?rdK); (case rdH => walk_at "sq"))
  | ((with_reducible refine' RB.lenT ?rdH ?rdK); (case rdH => walk_at "st"))
  | ((with_reducible refine' RB.lenS ?rdH ?rdK); (case rdH => walk_at "sz"))
  | ((with_reducible refine' RD.lenS ?rdH ?rdK); (case rdH => walk_at "sz"))
  | ((with_reducible refine' RB.slT ?rdH ?rdK); (case rdH => walk_at "hp"); intro $(Lean.mkIdent `p'):ident $(Lean.mkIdent `H'):ident $(Lean.mkIdent `hs):ident $(Lean.mkIdent `hv):ident $(Lean.mkIdent `hp):ident; (try have $(Lean.mkIdent `hn):ident := two_ne $(Lean.mkIdent `hp):ident (by walk_at "na") (by walk_at "hk")))
  | ((with_reducible refine' RB.revV ?rdH ?rdK); (case rdH => walk_at "st"); intro $(Lean.mkIdent `p'):ident $(Lean.mkIdent `H'):ident $(Lean.mkIdent `hp):ident $(Lean.mkIdent `hs):ident $(Lean.mkIdent `hv):ident; (try have $(Lean.mkIdent `hn):ident := hand_ne $(Lean.mkIdent `hp):ident (by walk_at "hk")))
  | ((with_reducible refine' RB.listS ?rdH ?rdK); (case rdH => walk_at "sz"); intro $(Lean.mkIdent `p'):ident $(Lean.mkIdent `H'):ident $(Lean.mkIdent `hp):ident $(Lean.mkIdent `hs):ident $(Lean.mkIdent `hv):ident; (try have $(Lean.mkIdent `hn):ident := hand_ne $(Lean.mkIdent `hp):ident (by walk_at "hk")))
  | ((with_reducible refine' RB.listO ?rdH ?rdK); (case rdH => first | exact Or.inl (by walk_at "sq") | exact Or.inr (by walk_at "st")); intro $(Lean.mkIdent `p'):ident $(Lean.mkIdent `H'):ident $(Lean.mkIdent `hp):ident $(Lean.mkIdent `hs):ident $(Lean.mkIdent `hv):ident; (try have $(Lean.mkIdent `hn):ident := hand_ne $(Lean.mkIdent `hp):ident (by walk_at "hk")))
  | ((with_reducible refine' RB.tupL ?rdH ?rdK); (case rdH => walk_at "sq"); intro $(Lean.mkIdent `p'):ident $(Lean.mkIdent `H'):ident $(Lean.mkIdent `hp):ident $(Lean.mkIdent `hs):ident $(Lean.mkIdent `hv):ident; (try have $(Lean.mkIdent `hn):ident := hand_ne $(Lean.mkIdent `hp):ident (by walk_at "hk")))
  | ((with_reducible refine' RB.catT ?rdH ?rdE ?rdZ ?rdK); (case rdH => walk_at "hp"); (case rdE => walk_at "hp"); (case rdZ => exact RB.LN.sum (by walk_at "ln") (by walk_at "ln") rfl); intro $(Lean.mkIdent `p'):ident $(Lean.mkIdent `H'):ident $(Lean.mkIdent `hs):ident $(Lean.mkIdent `hv):ident $(Lean.mkIdent `hp):ident; (try have $(Lean.mkIdent `hn):ident := three_ne $(Lean.mkIdent `hp):ident (by walk_at "na") (by walk_at "na") (by walk_at "hk")))
  | fail "no")
local macro_rules | `(tactic| walk_at "ln") => `(tactic| first | with_reducible assumption | exact RB.LN.cut (by walk_at "ln") | exact RB.LN.app (by walk_at "ln") (by walk_at "ln") | exact RB.LN.rev (by walk_at "ln") | exact RB.LN.rep (by walk_at "ln") | exact RB.LN.lit rfl | fail "no")
local macro_rules | `(tactic| walk_at "sz") => `(tactic| first | assumption | exact RD.sz _ | fail "no")

local macro_rules | `(tactic| walk_at "dqx") => `(tactic| first | exact $(Lean.mkIdent `hda):ident _ _ | exact SPD.DqA.cons (SPD.dq_kb (by assumption) (by walk_at "kb")) SPD.DqA.nil | (with_reducible refine RB.dqa_cut ?_; walk_at "dqx") | (with_reducible refine RB.dqa_rev ?_; walk_at "dqx") | (with_reducible refine SPD.DqA.app ?_ ?_ <;> walk_at "dqx") | fail "no")
local macro_rules | `(tactic| walk_at "dqz") => `(tactic| first | exact RB.dqTupN (by walk_at "hp") (by walk_at "na") (by walk_at "dqx") (by walk_at "ln") rfl | exact RB.dqLstN (by walk_at "hp") (by walk_at "na") (by walk_at "dqx") (by walk_at "ln") rfl | fail "no")

local macro_rules | `(tactic| walk_at "dqx") => `(tactic| first | exact $(Lean.mkIdent `hdb):ident _ (by walk_at "kb") | exact SPD.DqA.cons (SPD.dq_kb (by assumption) (by walk_at "kb")) SPD.DqA.nil | (with_reducible refine RB.dqa_cut ?_; walk_at "dqx") | (with_reducible refine RB.dqa_rev ?_; walk_at "dqx") | (with_reducible refine SPD.DqA.app ?_ ?_ <;> walk_at "dqx") | fail "no")

section
variable {P : Program} {w : World} {K : PySem.W.Frag} {mg : Str → Option Value} {base : Heap}
theorem cut_next {z : Str} {p : Nat} : (cutS z (some ((p : Int) + 1)) none).cps.size ≤ z.cps.size - (p + 1) := by
  have l : z.cps.toList.length = z.cps.size := Array.length_toList
  rw [show (p : Int) + 1 = ((p + 1 : Nat) : Int) by omega, ← Array.length_toList, cut_from, List.length_drop, l]
  exact Nat.le_refl _
theorem cut_first {z : Str} {p : Nat} (hp : p ≤ z.cps.size) : (cutS z none (some (p : Int))).cps.size = p := by
  have l : z.cps.toList.length = z.cps.size := Array.length_toList
  rw [← Array.length_toList, cut_to hp, List.length_take, l]
  omega
theorem ok_log (T : Txt P K mg) : FnOk P w K mg base CX0 4 T.a_log T.fd_log ["_law_hand_here", "_law_pieces_here", "_law_most"] spLogD := by
  have nd := sc_log.nd
  have G_any : FnOk P w K mg base CX0 3 T.a_any T.fd_any ["_law_hand_here", "_law_items"] (spAny K) := (ok_any T).mono (by decide)
  have G_draw : FnOk P w K mg base CX0 3 T.a_draw T.fd_draw ["_law_hand_here", "_law_many"] spDraw := (ok_draw T).mono (by decide)
  have G_idle_log : FnOk P w K mg base CX0 3 T.a_idle_log T.fd_idle_log ["_law_hand_here", "_law_pieces_here", "_law_most"] spIdleLog := ok_idle_log T
  refine T.F_log.ok sc_log (fun vs H Q E h => ?_) (fun cdv A outer s H vs Q E hr h => ?_)
  · obtain ⟨a, c, t, zs, m, rfl, _⟩ := h
    rfl
  · obtain ⟨a, c, t, zs, m, rfl, hh, ht, nt, g, hm1, hm, q⟩ := h
    refine ⟨_, (pss_cons (ps_asg (pe_tup (pa_cons (pe_join pe_str (SST.pe_ss (by rfl) T.m_sorted (by rfl) T.m_set (pe_join pe_str (pv 1)))) (pa_cons (pe_call G_draw hr (by rfl) T.g_draw T.F_draw.kp T.b_draw .nil pass0 (pa_cons (pv 0) (pa_cons pe_int pa_nil))) pa_nil))) (pg_tup rfl (pgs_cons (pg_name (i := 3) nd rfl (by first | exact Or.inl rfl | exact Or.inr rfl)) (pgs_cons (pg_name (i := 4) nd rfl (by first | exact Or.inl rfl | exact Or.inr rfl)) pgs_nil))))
  (pss_cons (ps_if (pt_cmpR op_eq (pv 4) pe_int (nomark _))
    (pss_one (ps_ret (pe_join pe_str (pe_lc (own := [("_law_at", 7)]) (g := (gName 7)) rfl nd (pi_range1 (by rfl) T.m_range (pa_cons (pe_call G_draw hr (by rfl) T.g_draw T.F_draw.kp T.b_draw .nil pass0 (pa_cons (pv 0) (pa_cons (pe_op op_add (pv 2) pe_int) pa_nil))) pa_nil)) (blkOk_by (own := [("_law_at", 7)]) (N := N_log) (sc := defScope s_log) (by decide +kernel)) (fun _ _ _ _ _ => (pg_name (i := 7) nd rfl (Or.inl rfl))) (fun _ _ _ _ _ => pts_nil) (fun _ _ _ _ _ => (pe_call G_any hr (by rfl) T.g_any T.F_any.kp T.b_any .nil pass0 (pa_cons (pv 0) (pa_cons (pv 3) pa_nil))))))))
    pss_nil)
  (pss_cons (ps_set (i := 5) nd rfl (by first | exact Or.inl rfl | exact Or.inr rfl) (pe_call G_idle_log hr (by rfl) T.g_idle_log T.F_idle_log.kp T.b_idle_log .nil pass0 (pa_cons (pv 0) (pa_cons (pv 1) (pa_cons (pe_op op_sub (pv 2) pe_int) pa_nil)))))
  (pss_cons (ps_set (i := 6) nd rfl (by first | exact Or.inl rfl | exact Or.inr rfl) (pe_call G_draw hr (by rfl) T.g_draw T.F_draw.kp T.b_draw .nil pass0 (pa_cons (pv 0) (pa_cons (pe_op op_add (pe_callB call_len_str (by rfl) T.m_len PySem.boot_len (pa_cons (pv 5) pa_nil)) pe_int) pa_nil))))
  (pss_cons (ps_if (pt_cmpR op_lt (pv 4) pe_int (nomark _))
    (pss_one (ps_ret (pe_op op_add_str (pe_op op_add_str (pe_slice sl_str (pv 5) po_none (po_some (pv 6))) (pe_call G_any hr (by rfl) T.g_any T.F_any.kp T.b_any .nil pass0 (pa_cons (pv 0) (pa_cons (pv 3) pa_nil)))) (pe_slice sl_str (pv 5) (po_some (pv 6)) po_none))))
    pss_nil)
  (pss_cons (ps_if (pt_cmpR op_eq (pv 4) pe_int (nomark _))
    (pss_one (ps_ret (pe_op op_add_str (pe_slice sl_str (pv 5) po_none (po_some (pv 6))) (pe_slice sl_str (pv 5) (po_some (pe_op op_add (pv 6) pe_int)) po_none))))
    pss_nil)
  (pss_cons (ps_if (pt_cmpR op_eq (pv 4) pe_int (nomark _))
    (pss_one (ps_ret (pe_op op_add_str (pe_op op_add_str (pe_slice sl_str (pv 5) po_none (po_some (pv 6))) (pe_call G_any hr (by rfl) T.g_any T.F_any.kp T.b_any .nil pass0 (pa_cons (pv 0) (pa_cons pe_str pa_nil)))) (pe_slice sl_str (pv 5) (po_some (pe_op op_add (pv 6) pe_int)) po_none))))
    pss_nil)
  (pss_one (ps_ret (pv 5)))))))))), ?_⟩
    have hsum := g.sum
    walk_at "rds"
    refine RB.joinV (.inr (by walk_at "st")) (by show _ + _ * 0 ≤ _; omega) ?_
    refine RB.ssV (by rw [join_size]; omega) fun ys p H1 ho hp s1 hv => ?_
    walk_at "rds"
    refine RB.joinV (.inl (by walk_at "sq")) (by have := own_small ho (by rw [join_size]; omega); show _ + _ * 0 ≤ _; omega) ?_
    obtain ⟨ol, o1, o2⟩ := own_log g ho
    generalize Txt.join ("" : Str) ys = own at ol o1 o2
    have ht1 := s1 _ _ ht
    have hh1 : HandOk H1 a c := hh.same s1
    clear ho hp hv
    walk_at "rds"
    refine spDraw.mk (E := E0) hh1 (by decide) (by decide) fun r H2 hr0 hr1 k2 hh2 => ?_
    have k02 : RD.KB a H H2 := by walk_at "kb"
    have ht2 := k2 _ _ nt ht1
    clear s1 k2 hh1 ht1
    walk_at "rds"
    have hh2 : HandOk H' a c := by walk_at "hk"
    have ht2 : H' t = some (.tup (zs.map V.str)) := by walk_at "hp"
    have k02 : RD.KB a H H' := by walk_at "kb"
    clear hv hs hp hn
    generalize H' = H2 at hh2 ht2 k02
    refine RD.ite_d (fun _ => ?_) (fun _ => ?_)
    · walk_at "rds"
      refine spDraw.mk (E := E0) hh2 (by omega) (by omega) fun n H3 hn0 hn1 k3 hh3 => ?_
      walk_at "rds"
      refine RD.lcW (walk_range (lo := 0) (n := Int.toNat n)) (by omega) fun D H4 hD s4 hv4 => ⟨fun i bs H' => ∃ ss : List Str, bs = ss.map V.str ∧ ss.length = i ∧ (∀ s, s ∈ ss → sgn s = true) ∧ RD.KB a H H' ∧ HandOk H' a c,
        ⟨[], rfl, rfl, fun z hz => (List.not_mem_nil hz).elim, by walk_at "kb", by walk_at "hk"⟩, fun _ _ _ _ _ => trivial, fun i x bs H5 H6 Z N hi hp hDa hy hZ hN => ?_, fun bs H5 hp hDa => ?_⟩
      · obtain ⟨ss, rfl, hsl, hsa, k5, hh5⟩ := hp
        obtain ⟨rfl, rfl⟩ := hy
        have nD : D ≠ a := hand_ne hD hh3
        have k03 : RD.KB a H H3 := by walk_at "kb"
        walk_at "rds"
        refine ⟨rfl, ?_⟩
        walk_at "rds"
        refine spAny.letter (E := E0) hh5 ol o1 (by omega) fun s H7 hs k7 hh7 => ?_
        refine hZ _ _ (k7 _ _ nD hDa) fun H8 k8 hv8 => ⟨ss ++ [s], by rw [List.map_append]; rfl, by rw [List.length_append, hsl]; rfl, fun y hy => ?_, ?_, ?_⟩
        · rcases List.mem_append.mp hy with h | h
          · exact hsa y h
          · rw [List.mem_singleton.mp h]
            exact hs
        · exact fun b o n e => k8 b o (fun z => by
            subst z
            have z1 := k03 b o n e
            rw [hD] at z1
            cases z1) (k7 b o n (k5 b o n e))
        · exact hh7.mut k8 nD (HandOk.ne2 hD hh3)
      · obtain ⟨ss, rfl, hsl, hsa, k5, hh5⟩ := hp
        have hsz := signs_size ss hsa
        have hjs := join_size ss
        walk_at "rds"
        refine RB.joinV (.inl (by walk_at "sq")) (by show _ + _ * 0 ≤ _; omega) ?_
        exact q _ _ k5 hh5 (log_join fun s hs => (sgn_log (hsa s hs)).1) (by omega)
    · walk_at "rds"
      rw [show ((m : Int) - 1) = ((m - 1 : Nat) : Int) by omega]
      refine ⟨a, c, t, zs, m - 1, rfl, hh2, ht2, nt, g, by omega, fun z H3 k3 hh3 hl hz => ?_⟩
      have hzl : z.length = z.cps.size := rfl
      have hzs : z.length ≤ sizeLine := small_len (by omega)
      walk_at "rds"
      refine spDraw.mk (E := E0) hh3 (by omega) (by omega) fun n H4 hn0 hn1 k4 hh4 => ?_
      obtain ⟨p, rfl⟩ : ∃ p : Nat, n = (p : Int) := ⟨n.toNat, (Int.toNat_of_nonneg hn0).symm⟩
      have c1 := cut_size z none (some (p : Int))
      have c2 := cut_size z (some (p : Int)) none
      have c3 := cut_next (z := z) (p := p)
      have c4 := cut_first (z := z) (p := p) (by omega)
      have el : ∀ x : Str, x.length = x.cps.size := fun _ => rfl
      have k04 : RD.KB a H H4 := by walk_at "kb"
      have ap : ∀ x y : Str, (x ++ y).cps.size = x.cps.size + y.cps.size := app_size
      walk_at "rds"
      refine RD.ite_d (fun _ => ?_) (fun _ => ?_)
      · walk_at "rds"
        refine spAny.letter (E := E0) hh4 ol o1 (by omega) fun s H5 hs k5 hh5 => ?_
        obtain ⟨s1, s2⟩ := sgn_log hs
        refine RB.addS (RD.szo (by rw [el, el]; omega)) ?_
        walk_at "rds"
        refine RB.addS (RD.szo (by rw [el, el, ap]; omega)) ?_
        exact q _ _ (by walk_at "kb") hh5 (log_put hl s1) (by show (putS z s p).cps.size ≤ m + 1; rw [put_size (by omega)]; omega)
      · walk_at "rds"
        refine RD.ite_d (fun _ => ?_) (fun _ => ?_)
        · walk_at "rds"
          refine RB.addS (RD.szo (by rw [el, el]; omega)) ?_
          exact q _ _ k04 hh4 (by rw [log_app, log_cut _ _ hl, log_cut _ _ hl]; rfl) (by rw [ap]; omega)
        · walk_at "rds"
          refine RD.ite_d (fun _ => ?_) (fun _ => ?_)
          · walk_at "rds"
            refine spAny.letter (E := E0) hh4 log_lets (by decide) (by decide) fun s H5 hs k5 hh5 => ?_
            obtain ⟨s1, s2⟩ := sgn_log hs
            refine RB.addS (RD.szo (by rw [el, el]; omega)) ?_
            walk_at "rds"
            refine RB.addS (RD.szo (by rw [el, el, ap]; omega)) ?_
            exact q _ _ (by walk_at "kb") hh5 (by rw [log_app, log_app, log_cut _ _ hl, log_cut _ _ hl, s1]; rfl) (by rw [ap, ap]; omega)
          · walk_at "rds"
            exact q _ _ k04 hh4 hl (by omega)
theorem ok_striking_told (T : Txt P K mg) : FnOk P w K mg base CX0 7 T.a_striking_told T.fd_striking_told ["_law_book", "_law_log_here", "_law_thing"] (spStrikingTold T.C_Book) := by
  have nd := sc_striking_told.nd
  have G_left_by : FnOk P w K mg base (L2.CX P w) 6 T.a_left_by T.fd_left_by ["book", "log", "striking"] (spLeft T.C_Book T.C_NoStriking) := (ok_left_by T).mono (by decide)
  refine T.F_striking_told.ok sc_striking_told (fun vs H Q E h => ?_) (fun cdv A outer s H vs Q E hr h => ?_)
  · obtain ⟨b, t, x, n, zs, z, v, rfl, _⟩ := h
    rfl
  · obtain ⟨b, t, x, n, zs, z, v, rfl, hb, ht, g, hz, hl, hd, q, qe⟩ := h
    refine ⟨_, (pss_cons (ps_set (i := 3) nd rfl (by first | exact Or.inl rfl | exact Or.inr rfl) pe_str)
  (pss_cons (ps_try_as (i := 4) rfl rfl nd rfl rfl ⟨by rfl, by decide, .inl T.g_NoStriking⟩ takes0 (fun W pn xe tk ph => (pss_one (ps_set (i := 3) nd rfl (by first | exact Or.inl rfl | exact Or.inr rfl) (pe_tup (pa_cons pe_str (pa_cons (pe_callS G_left_by hr (by rfl) T.g_left_by T.F_left_by.kp T.b_left_by (fun σ => passAt tk σ) (pa_cons (pv 0) (pa_cons (pv 1) (pa_cons (pv 2) pa_nil)))) pa_nil)))))) (fun a oe cls d pn hz hf => (pss_one (ps_set (i := 3) nd rfl (by first | exact Or.inl rfl | exact Or.inr rfl) (pe_xf ⟨T.ic_NoStriking.hg, T.ic_NoStriking.hk, T.ic_NoStriking.hs, T.ic_NoStriking.hd⟩ T.fi_NoStriking hz hf (pv 4))))))
  (pss_one (ps_ret (pv 3))))), ?_⟩
    walk_at "rds"
    refine ⟨b, t, x, n, zs, z, v, rfl, hb, ht, g, hz, hl, hd, fun e H1 s1 => ?_, fun ne d H1 hd1 s1 hx1 => ?_⟩
    · walk_at "rds"
      exact q e _ _ (s1.free hp) (s1.trans hs) hv
    · refine ⟨true, T.em_NoStriking_NoStriking, fun _ a ha => ?_, fun z => nomatch z⟩
      walk_at "rds"
      exact qe ne _ s1
theorem ok_bent_striking (T : Txt P K mg) : FnOk P w K mg base CX0 5 T.a_bent_striking T.fd_bent_striking ["_law_hand_here", "_law_pieces_here", "_law_log_here", "_law_striking"] spBentStriking := by
  have nd := sc_bent_striking.nd
  have G_any : FnOk P w K mg base CX0 4 T.a_any T.fd_any ["_law_hand_here", "_law_items"] (spAny K) := (ok_any T).mono (by decide)
  have G_draw : FnOk P w K mg base CX0 4 T.a_draw T.fd_draw ["_law_hand_here", "_law_many"] spDraw := (ok_draw T).mono (by decide)
  have G_odd : FnOk P w K mg base CX0 4 T.a_odd T.fd_odd ["_law_hand_here"] spOdd := ok_odd T
  refine T.F_bent_striking.ok sc_bent_striking (fun vs H Q E h => ?_) (fun cdv A outer s H vs Q E hr h => ?_)
  · obtain ⟨a, c, t, u, zs, z, ws, rfl, _⟩ := h
    rfl
  · obtain ⟨a, c, t, u, zs, z, ws, rfl, hh, ht, nt, g, hz, hu, nu, hln, hdw, q⟩ := h
    refine ⟨_, (pss_cons (ps_set (i := 4) nd rfl (by first | exact Or.inl rfl | exact Or.inr rfl) (pe_call G_draw hr (by rfl) T.g_draw T.F_draw.kp T.b_draw .nil pass0 (pa_cons (pv 0) (pa_cons (pe_op op_add (pe_callB call_len_seq (by rfl) T.m_len PySem.boot_len (pa_cons (pv 3) pa_nil)) pe_int) pa_nil))))
  (pss_cons (ps_set (i := 5) nd rfl (by first | exact Or.inl rfl | exact Or.inr rfl) (pe_lst (pa_cons (pe_call G_odd hr (by rfl) T.g_odd T.F_odd.kp T.b_odd .nil pass0 (pa_cons (pv 0) pa_nil)) (pa_cons (pe_tup (pa_cons (pe_call G_draw hr (by rfl) T.g_draw T.F_draw.kp T.b_draw .nil pass0 (pa_cons (pv 0) (pa_cons (pe_op op_add (pe_callB call_len_str (by rfl) T.m_len PySem.boot_len (pa_cons (pv 2) pa_nil)) pe_int) pa_nil))) (pa_cons (pe_call G_draw hr (by rfl) T.g_draw T.F_draw.kp T.b_draw .nil pass0 (pa_cons (pv 0) (pa_cons (pe_op op_add (pe_callB call_len_seq (by rfl) T.m_len PySem.boot_len (pa_cons (pv 1) pa_nil)) pe_int) pa_nil))) pa_nil))) (pa_cons (pe_tup (pa_cons pe_int (pa_cons pe_int pa_nil))) (pa_cons (pe_tup (pa_cons (pe_un un_neg pe_int) (pa_cons pe_int pa_nil))) (pa_cons (pe_lst (pa_cons pe_int (pa_cons pe_int pa_nil))) pa_nil)))))))
  (pss_cons (ps_set (i := 5) nd rfl (by first | exact Or.inl rfl | exact Or.inr rfl) (pe_op op_cat (pv 5) (pe_lst (pa_cons (pe_tup (pa_cons pe_int (pa_cons pe_bl pa_nil))) (pa_cons (pe_tup (pa_cons pe_int (pa_cons (pe_callB call_len_seq (by rfl) T.m_len PySem.boot_len (pa_cons (pv 1) pa_nil)) pa_nil))) (pa_cons (pe_tup (pa_cons (pe_callB call_len_str (by rfl) T.m_len PySem.boot_len (pa_cons (pv 2) pa_nil)) (pa_cons pe_int pa_nil))) (pa_cons (pe_tup (pa_cons pe_int (pa_cons pe_int (pa_cons pe_int pa_nil)))) pa_nil)))))))
  (pss_cons (ps_set (i := 6) nd rfl (by first | exact Or.inl rfl | exact Or.inr rfl) (pe_call G_any hr (by rfl) T.g_any T.F_any.kp T.b_any .nil pass0 (pa_cons (pv 0) (pa_cons (pv 5) pa_nil))))
  (pss_cons (ps_set (i := 7) nd rfl (by first | exact Or.inl rfl | exact Or.inr rfl) (pe_lst (pa_cons (pe_op op_catA (pe_op op_catA (pe_slice sl_tupA (pv 3) po_none (po_some (pv 4))) (pe_tup (pa_cons (pv 6) pa_nil))) (pe_slice sl_tupA (pv 3) (po_some (pv 4)) po_none)) (pa_cons (pe_op op_catA (pe_op op_catA (pe_slice sl_tupA (pv 3) po_none (po_some (pv 4))) (pe_tup (pa_cons (pv 6) pa_nil))) (pe_slice sl_tupA (pv 3) (po_some (pe_op op_add (pv 4) pe_int)) po_none)) pa_nil))))
  (pss_cons (ps_set (i := 7) nd rfl (by first | exact Or.inl rfl | exact Or.inr rfl) (pe_op op_cat (pv 7) (pe_lst (pa_cons (pe_op op_catA (pe_slice sl_tupA (pv 3) po_none (po_some (pv 4))) (pe_slice sl_tupA (pv 3) (po_some (pe_op op_add (pv 4) pe_int)) po_none)) (pa_cons (pe_op op_catA (pe_op op_catA (pe_slice sl_tupA (pv 3) po_none (po_some (pv 4))) (NR.pe_revT (pe_slice sl_tupA (pv 3) (po_some (pv 4)) (po_some (pe_op op_add (pv 4) pe_int))))) (pe_slice sl_tupA (pv 3) (po_some (pe_op op_add (pv 4) pe_int)) po_none)) pa_nil)))))
  (pss_cons (ps_set (i := 7) nd rfl (by first | exact Or.inl rfl | exact Or.inr rfl) (pe_op op_cat (pv 7) (pe_lst (pa_cons (pe_op op_catA (pv 3) (pe_slice sl_tupA (pv 3) (po_some (pe_un un_neg pe_int)) po_none)) (pa_cons (pe_callTy RB.call_listO (by rfl) T.m_list (by decide +kernel) (pa_cons (pv 3) pa_nil)) (pa_cons (pe_call G_odd hr (by rfl) T.g_odd T.F_odd.kp T.b_odd .nil pass0 (pa_cons (pv 0) pa_nil)) (pa_cons (pe_tup pa_nil) (pa_cons (pv 3) pa_nil))))))))
  (pss_one (ps_ret (pe_call G_any hr (by rfl) T.g_any T.F_any.kp T.b_any .nil pass0 (pa_cons (pv 0) (pa_cons (pv 7) pa_nil)))))))))))), ?_⟩
    have hl12 : ws.length ≤ 12 := hln
    have hzl : z.length = z.cps.size := rfl
    have hzs : z.length ≤ sizeLine := small_len (by omega)
    obtain ⟨hlm, g1, g12⟩ := mem_ln g
    walk_at "rds"
    refine spDraw.mk (E := E0) (by walk_at "hk") (by omega) (by omega) fun r H1 hr0 hr1 k1 hh1 => ?_
    have ht1 := k1 _ _ nt ht
    have hu1 := k1 _ _ nu hu
    walk_at "rds"
    refine ⟨a, c, rfl, by walk_at "hk", fun v1 H2 k2 hh2 hd2 => ?_⟩
    have ht2 := k2 _ _ nt ht1
    have hu2 := k2 _ _ nu hu1
    walk_at "rds"
    refine spDraw.mk (E := E0) (by walk_at "hk") (by omega) (by omega) fun r3 H3 _ _ k3 hh3 => ?_
    have ht3 := k3 _ _ nt ht2
    have hu3 := k3 _ _ nu hu2
    walk_at "rds"
    refine spDraw.mk (E := E0) (by walk_at "hk") (by omega) (by omega) fun r4 H4 _ _ k4 hh4 => ?_
    have ht4 := k4 _ _ nt ht3
    have hu4 := k4 _ _ nu hu3
    have hd4 : SPD.Dq a H4 27 v1 := (SPD.dq_kb (SPD.dq_kb hd2 k3) k4).mono 27 (by decide)
    have k04 : RD.KB a H H4 := by walk_at "kb"
    clear ht1 ht2 ht3 ht hu1 hu2 hu3 hu k1 k2 k3 k4 hh1 hh2 hh3 hd2
    walk_at "rds"
    refine spAny.dq (E := E0) (n := 27) (by walk_at "hk") (by walk_at "hp") (by walk_at "na") (by walk_at "dqa") rfl rfl fun v5 H5 k5 hh5 hd5 => ?_
    have ht5 : H5 t = some (.tup (zs.map V.str)) := k5 _ _ nt (by walk_at "hp")
    have hu5 : H5 u = some (.tup ws) := k5 _ _ nu (by walk_at "hp")
    have k05 : RD.KB a H H5 := by walk_at "kb"
    clear ht4 hu4 k04 k5 hh4 hd4
    have hd5 := hd5.mono 28 (by decide)
    have hdw5 : SPD.DqA a H5 28 ws := RB.dqa_mono (DqA.kbm hdw k05) (by decide)
    have hdb : ∀ H', RD.KB a H5 H' → SPD.DqA a H' 28 ws := fun H' k => DqA.kbm hdw5 k
    walk_at "rds"
    refine ⟨a, c, rfl, by walk_at "hk", fun v6 H6 k6 hh6 hd6 => ?_⟩
    have hd6 : SPD.Dq a H6 29 v6 := hd6.mono 29 (by decide)
    walk_at "rds"
    refine spAny.dq (E := E0) (n := 29) (by walk_at "hk") (by walk_at "hp") (by walk_at "na") ?dqa rfl rfl fun v8 H8 k8 hh8 hd8 => q _ _ (by walk_at "kb") hh8 (hd8.mono 30 (by decide))
    case dqa =>
      refine .cons (by walk_at "dqz") (.cons (by walk_at "dqz") (.cons (by walk_at "dqz") (.cons (by walk_at "dqz") (.cons (by walk_at "dqz") (.cons (by walk_at "dqz") (.cons (SPD.dq_kb hd6 (by walk_at "kb")) (.cons (RB.dqTupN (n := 28) (by walk_at "hp") (by walk_at "na") .nil (.lit rfl) rfl) (.cons (RB.dqTupN (n := 28) (by walk_at "hp") nu (hdb _ (by walk_at "kb")) hln rfl) .nil))))))))
end


end K02

namespace K02
open PySem PySem.Spec PyProof.Rows L2
local macro_rules | `(tactic| walk_at "kd") => `(tactic| first | assumption | exact SPD.KdOf.int _ | exact SPD.KdOf.str _ | exact SPD.KdOf.bl _ | exact SPD.KdOf.non | exact SPD.KdOf.same (by assumption) (by walk_at "kd") | exact SPD.KdOf.tup (by walk_at "hp") | exact SPD.KdOf.lst (by walk_at "hp") | fail "no")
local macro_rules | `(tactic| walk_at "ne") => `(tactic| first | assumption | exact Ne.symm (by assumption) | fail "no")
local macro_rules | `(tactic| walk_at "hp") => `(tactic| first | assumption | exact RD.at_same (by assumption) (by walk_at "hp") | exact RD.at_kb (by assumption) (by walk_at "ne") (by walk_at "hp") | fail "no")
local macro_rules | `(tactic| walk_at "sq") => `(tactic| first | assumption | exact Or.inl (Or.inl (by walk_at "hp")) | exact Same.seq (by assumption) (by walk_at "sq") | exact RD.KB.seq (by assumption) (by walk_at "ne") (by walk_at "sq") | fail "no")
local macro_rules | `(tactic| walk_at "st") => `(tactic| first | assumption | exact Or.inl (Or.inl (by walk_at "hp")) | exact RD.Same.tup (by assumption) (by walk_at "st") | exact RD.KB.tup (by assumption) (by walk_at "ne") (by walk_at "st") | fail "no")
local macro_rules | `(tactic| walk_at "rd") => `(tactic| first
  | with_reducible refine RD.c ?_
  | ((with_reducible refine' RD.var ?rdE ?rdK); (case rdE => exact rfl))
  | with_reducible refine RD.op ?_
  | with_reducible refine RD.un ?_
  | with_reducible refine RD.nil ?_
  | with_reducible refine RD.cons ?_
  | with_reducible refine RD.cb ?_
  | with_reducible refine RD.call ?_
  | with_reducible refine RD.test ?_
  | with_reducible refine RD.tb' ?_
  | with_reducible refine RD.bl ?_
  | with_reducible refine RD.and' ?_
  | with_reducible refine RD.or' ?_
  | with_reducible refine RD.not' ?_
  | with_reducible refine RD.andV ?_
  | with_reducible refine RD.orV ?_
  | with_reducible refine RD.notV ?_
  | with_reducible refine RD.ife ?_
  | with_reducible refine RD.sl ?_
  | with_reducible refine RD.part ?_
  | with_reducible refine RD.noPart ?_
  | with_reducible refine RD.partI ?_
  | with_reducible refine RD.rd0 ?_
  | with_reducible refine RD.rdU ?_
  | ((with_reducible refine' RD.rdEq ?rdE ?rdK); (case rdE => rfl))
  | ((with_reducible refine' RD.rdNe ?rdE ?rdK); (case rdE => rfl))
  | ((with_reducible refine' RD.ixL ?rdH ?rdE ?rdK); (case rdH => walk_at "sq"); (case rdE => first | rfl | assumption))
  | ((with_reducible refine' RD.rdI ?rdC ?rdK); (case rdC => first | assumption | (show (0 : Int) < _; first | decide | omega) | exact ⟨by decide, by decide⟩ | exact ⟨by assumption, by assumption⟩ | exact .inr ⟨by decide, by decide⟩ | exact .inl ⟨by decide, by decide⟩ | exact ⟨by decide, by decide, by decide⟩ | exact .inl ⟨by omega, by omega⟩))
  | ((with_reducible refine' RD.setL ?rdH ?rdE ?rdK); (case rdH => walk_at "hp"); (case rdE => rfl); intro $(Lean.mkIdent `H'):ident $(Lean.mkIdent `hk):ident $(Lean.mkIdent `hv):ident)
  | ((with_reducible refine' RD.irng1V ?rdA ?rdB ?rdK); (case rdA => first | decide | omega); (case rdB => first | decide | omega))
  | with_reducible refine RD.int1 ?_
  | with_reducible refine RD.abs1 ?_
  | ((with_reducible refine' RD.len ?rdH ?rdK); (case rdH => first | exact Or.inl (by walk_at "sq") | exact Or.inr (by walk_at "st")))
  | with_reducible refine RD.tup ?_
  | with_reducible refine RD.lst ?_
  | with_reducible refine RD.ite1 ?_
  | with_reducible refine RD.ite0 ?_
  | with_reducible refine RD.ite1n ?_
  | with_reducible refine RD.ite0n ?_
  | with_reducible refine RD.seq ?_
  | with_reducible refine RD.asg ?_
  | with_reducible refine RD.name ?_
  | with_reducible refine RD.ret ?_
  | with_reducible refine RD.drop ?_
  | with_reducible refine RD.next ?_
  | with_reducible refine RD.ifs ?_
  | with_reducible refine RD.par ?_
  | with_reducible refine RD.par2 ?_
  | with_reducible refine RD.sub ?_
  | with_reducible refine RD.gcons ?_
  | with_reducible refine RD.gnil ?_
  | with_reducible refine RD.bm ?_
  | ((with_reducible refine' RD.bmL ?rdH ?rdK); (case rdH => walk_at "sq"))
  | ((with_reducible refine' RD.newZ ?rdH ?rdK); (case rdH => exact RD.sz _); intro $(Lean.mkIdent `p'):ident $(Lean.mkIdent `H'):ident $(Lean.mkIdent `hp):ident $(Lean.mkIdent `hs):ident $(Lean.mkIdent `hv):ident; (try have $(Lean.mkIdent `hn):ident := hand_ne $(Lean.mkIdent `hp):ident (by walk_at "hk")))
  | with_reducible refine RD.fors ?_
  | with_reducible refine RD.lc ?_
  | with_reducible refine RD.yes ?_
  | with_reducible refine RD.ilist ?_
  | ((with_reducible refine' RD.ilistV ?rdH ?rdK); (case rdH => walk_at "sq"))
  | with_reducible refine RD.itup ?_
  | ((with_reducible refine' RD.itupV ?rdH ?rdK); (case rdH => walk_at "st"))
  | with_reducible refine RD.irng1 ?_
  | with_reducible refine RD.irng2 ?_
  | ((with_reducible refine' RD.irng2V ?rdA ?rdK); (case rdA => first | decide | omega))
  | with_reducible refine RD.ienum ?_
  | ((with_reducible refine' RD.ienumV ?rdH ?rdK); (case rdH => walk_at "sq"))
  | with_reducible refine RD.izip ?_
  | ((with_reducible refine' RD.izipV ?rdH ?rdE ?rdK); (case rdH => walk_at "sq"); (case rdE => walk_at "sq"))
  | with_reducible refine SPD.izipA ?_
  | with_reducible refine RD.istr ?_
  | with_reducible refine RD.istrV ?_
  | ((with_reducible refine' RD.slL ?rdH ?rdK); (case rdH => walk_at "sq"); intro $(Lean.mkIdent `p'):ident $(Lean.mkIdent `H'):ident $(Lean.mkIdent `hp):ident $(Lean.mkIdent `hs):ident $(Lean.mkIdent `hv):ident; (try have $(Lean.mkIdent `hn):ident := hand_ne $(Lean.mkIdent `hp):ident (by walk_at "hk")))
  | ((with_reducible refine' RD.cat ?rdH ?rdE ?rdZ ?rdK); (case rdH => walk_at "hp"); (case rdE => walk_at "hp"); (case rdZ => exact RD.sz _); intro $(Lean.mkIdent `p'):ident $(Lean.mkIdent `H'):ident $(Lean.mkIdent `hp):ident $(Lean.mkIdent `hs):ident $(Lean.mkIdent `hv):ident; (try have $(Lean.mkIdent `hn):ident := hand_ne $(Lean.mkIdent `hp):ident (by walk_at "hk")))
  | ((with_reducible refine' RD.gtup ?rdH ?rdE ?rdK); (case rdH => walk_at "st"); (case rdE => rfl))
  | ((with_reducible refine' RD.app ?rdH ?rdZ ?rdK); (case rdH => walk_at "hp"); (case rdZ => first | assumption | (apply RD.szl; omega)); intro $(Lean.mkIdent `H'):ident $(Lean.mkIdent `hk):ident $(Lean.mkIdent `hv):ident)
  | ((with_reducible refine' RD.all1 ?rdH ?rdK); (case rdH => walk_at "sq"))
  | ((with_reducible refine' RD.any1 ?rdH ?rdK); (case rdH => walk_at "sq"))
  | ((with_reducible refine' SPD.dnew ?rdK); intro $(Lean.mkIdent `p'):ident $(Lean.mkIdent `H'):ident $(Lean.mkIdent `hp):ident $(Lean.mkIdent `hs):ident $(Lean.mkIdent `hv):ident; (try have $(Lean.mkIdent `hn):ident := hand_ne $(Lean.mkIdent `hp):ident (by walk_at "hk")))
  | ((with_reducible refine' SPD.disp1 ?rdK); intro $(Lean.mkIdent `p'):ident $(Lean.mkIdent `H'):ident $(Lean.mkIdent `hp):ident $(Lean.mkIdent `hs):ident $(Lean.mkIdent `hv):ident; (try have $(Lean.mkIdent `hn):ident := hand_ne $(Lean.mkIdent `hp):ident (by walk_at "hk")))
  | ((with_reducible refine' SPD.isSeq ?rdH ?rdE ?rdK); (case rdH => walk_at "hp"); (case rdE => walk_at "kd"))
  | ((with_reducible refine' SPD.isTup ?rdE ?rdK); (case rdE => walk_at "kd"))
  | ((with_reducible refine' SPD.isLst ?rdE ?rdK); (case rdE => walk_at "kd"))
  | ((with_reducible refine' SPD.isBool ?rdE ?rdK); (case rdE => walk_at "kd"))
  | ((with_reducible refine' SPD.isStr ?rdE ?rdK); (case rdE => walk_at "kd"))
  | ((with_reducible refine' SPD.isInt ?rdE ?rdK); (case rdE => walk_at "kd"))
  | dsimp only)
local macro_rules | `(tactic| walk_at "rds") => `(tactic| repeat walk_at "rd")
local macro_rules | `(tactic| walk_at "sm") => `(tactic| first | assumption | exact Same.refl _ | exact RD.sm_tr (by assumption) (by walk_at "sm") | fail "no")
local macro_rules | `(tactic| walk_at "kb") => `(tactic| first | assumption | exact RD.KB.refl | exact RD.kb_tr (by assumption) (by walk_at "kb") | exact RD.kb_trs (by assumption) (by walk_at "kb") | fail "no")
local macro_rules | `(tactic| walk_at "fr") => `(tactic| first | assumption | exact RD.fr_of (by assumption) (by walk_at "sm") | fail "no")
local macro_rules | `(tactic| walk_at "hk") => `(tactic| first | assumption | exact hand_same (by assumption) (by walk_at "hk") | exact hand_kb (by assumption) (by walk_at "fr") (by walk_at "hk") | fail "no")
local macro_rules | `(tactic| walk_at "na") => `(tactic| first | assumption | exact hand_ne (by assumption) (by walk_at "hk") | fail "no")
local macro_rules | `(tactic| walk_at "dqa") => `(tactic| first | exact SPD.DqA.nil | exact SPD.DqA.cons (by walk_at "dq") (by walk_at "dqa") | exact SPD.DqA.app (by walk_at "dqa") (by walk_at "dqa") | fail "no")
local macro_rules | `(tactic| walk_at "dq") => `(tactic| first | assumption | exact SPD.Dq.leaf rfl | exact SPD.dq_kb (by assumption) (by walk_at "kb") | exact SPD.dqTup (by walk_at "hp") (by walk_at "na") (by walk_at "dqa") | exact SPD.dqLst (by walk_at "hp") (by walk_at "na") (by walk_at "dqa") | exact SPD.dqNil (by walk_at "hp") (by walk_at "na") (by first | decide | simp) (by first | decide | simp) | fail "no")

local macro_rules | `(tactic| walk_at "rd") => `(tactic| first
  | with_reducible refine RB.chain ?_
  | with_reducible refine RB.m1 ?_
  | with_reducible refine RB.strE ?_
  | with_reducible refine RB.fld ?_
  | with_reducible refine RB.setF ?_
  | with_reducible refine RB.ss ?_
  | with_reducible refine RB.rev ?_
  | with_reducible refine RB.make ?_
  | with_reducible refine RB.makeS ?_
  | with_reducible refine RB.mkO ?_
  | with_reducible refine NR.ienumT ?_
  | with_reducible refine RB.inS ?_
  | with_reducible refine RB.bmS ?_
  | with_reducible refine RB.callS ?_
  | with_reducible refine RB.sw3 ?_
  | with_reducible refine RB.par3 ?_
  | with_reducible refine RB.par3V ?_
  | ((with_reducible refine' RB.slS ?rdH ?rdK); (case rdH => walk_at "sz"))
  | with_reducible refine RB.xf ?_
  | ((with_reducible refine' RB.xfV ?rdH ?rdE ?rdK); (case rdH => walk_at "hp"); (case rdE => rfl))
  | ((with_reducible refine' NR.ienumTV ?rdH ?rdK); (case rdH => walk_at "st"))
  | ((with_reducible refine' RB.lenL ?rdH ?rdK); (case rdH => walk_at "sq"))
  | ((with_reducible refine' RB.lenT ?rdH ?rdK); (case rdH => walk_at "st"))
  | ((with_reducible refine' RB.lenS ?rdH ?rdK); (case rdH => walk_at "sz"))
  | ((with_reducible refine' RD.lenS ?rdH ?rdK); (case rdH => walk_at "sz"))
  | ((with_reducible refine' RB.slT ?rdH ?rdK); (case rdH => walk_at "hp"); intro $(Lean.mkIdent `p'):ident $(Lean.mkIdent `H'):ident $(Lean.mkIdent `hs):ident $(Lean.mkIdent `hv):ident $(Lean.mkIdent `hp):ident; (try have $(Lean.mkIdent `hn):ident := two_ne $(Lean.mkIdent `hp):ident (by walk_at "na") (by walk_at "hk")))
  | ((with_reducible refine' RB.revV ?rdH ?rdK); (case rdH => walk_at "st"); intro $(Lean.mkIdent `p'):ident $(Lean.mkIdent `H'):ident $(Lean.mkIdent `hp):ident $(Lean.mkIdent `hs):ident $(Lean.mkIdent `hv):ident; (try have $(Lean.mkIdent `hn):ident := hand_ne $(Lean.mkIdent `hp):ident (by walk_at "hk")))
  | ((with_reducible refine' RB.listS ?rdH ?rdK); (case rdH => walk_at "sz"); intro $(Lean.mkIdent `p'):ident $(Lean.mkIdent `H'):ident $(Lean.mkIdent `hp):ident $(Lean.mkIdent `hs):ident $(Lean.mkIdent `hv):ident; (try have $(Lean.mkIdent `hn):ident := hand_ne $(Lean.mkIdent `hp):ident (by walk_at "hk")))
  | ((with_reducible refine' RB.listO ?rdH ?rdK); (case rdH => first | exact Or.inl (by walk_at "sq") | exact Or.inr (by walk_at "st")); intro $(Lean.mkIdent `p'):ident $(Lean.mkIdent `H'):ident $(Lean.mkIdent `hp):ident $(Lean.mkIdent `hs):ident $(Lean.mkIdent `hv):ident; (try have $(Lean.mkIdent `hn):ident := hand_ne $(Lean.mkIdent `hp):ident (by walk_at "hk")))
  | ((with_reducible refine' RB.tupL ?rdH ?rdK); (case rdH => walk_at "sq"); intro $(Lean.mkIdent `p'):ident $(Lean.mkIdent `H'):ident $(Lean.mkIdent `hp):ident $(Lean.mkIdent `hs):ident $(Lean.mkIdent `hv):ident; (try have $(Lean.mkIdent `hn):ident := hand_ne $(Lean.mkIdent `hp):ident (by walk_at "hk")))
  | ((with_reducible refine' RB.catT ?rdH ?rdE ?rdZ ?rdK); (case rdH => walk_at "hp"); (case rdE => walk_at "hp"); (case rdZ => exact RB.LN.sum (by walk_at "ln") (by walk_at "ln") rfl); intro $(Lean.mkIdent `p'):ident $(Lean.mkIdent `H'):ident $(Lean.mkIdent `hs):ident $(Lean.mkIdent `hv):ident $(Lean.mkIdent `hp):ident; (try have $(Lean.mkIdent `hn):ident := three_ne $(Lean.mkIdent `hp):ident (by walk_at "na") (by walk_at "na") (by walk_at "hk")))
  | fail "no")
local macro_rules | `(tactic| walk_at "ln") => `(tactic| first | with_reducible assumption | exact RB.LN.cut (by walk_at "ln") | exact RB.LN.app (by walk_at "ln") (by walk_at "ln") | exact RB.LN.rev (by walk_at "ln") | exact RB.LN.rep (by walk_at "ln") | exact RB.LN.lit rfl | fail "no")
local macro_rules | `(tactic| walk_at "sz") => `(tactic| first | assumption | exact RD.sz _ | fail "no")

theorem foldl_app : ∀ (l : List (Array Nat)) (acc : Array Nat), (l.foldl (· ++ ·) acc).toList = acc.toList ++ (l.map Array.toList).flatten
  | [], acc => by simp
  | x :: r, acc => by
    rw [List.foldl_cons, foldl_app r (acc ++ x), Array.toList_append, List.map_cons, List.flatten_cons, List.append_assoc]
theorem mul_mem {z : Str} {n : Int} {c : Nat} (h : c ∈ (Txt.mul z n).cps.toList) : c ∈ z.cps.toList := by
  unfold Txt.mul at h
  split at h
  · cases h
  · split at h
    · exact h
    · rw [foldl_app] at h
      simp only [List.nil_append] at h
      obtain ⟨l, hl, hc⟩ := List.mem_flatten.mp h
      obtain ⟨a, ha, rfl⟩ := List.mem_map.mp hl
      rw [(List.mem_replicate.mp ha).2] at hc
      exact hc
theorem log_mul {z : Str} {n : Int} (h : logB z = true) : logB (Txt.mul z n) = true := by
  unfold logB at *
  exact List.all_eq_true.mpr fun c hc => List.all_eq_true.mp h c (mul_mem hc)
theorem mul_size {z : Str} {n : Nat} (hn : 1 ≤ n) : (Txt.mul z (n : Int)).cps.size ≤ n * z.cps.size := by
  unfold Txt.mul
  rw [if_neg (by omega)]
  split
  · exact Nat.le_trans (by omega) (Nat.mul_le_mul hn (Nat.le_refl z.cps.size))
  · rw [← Array.length_toList, foldl_app, List.length_append, List.length_flatten, List.map_map, List.map_replicate, List.sum_replicate_nat]
    show 0 + ((n : Int).toNat) * z.cps.toList.length ≤ n * z.cps.size
    rw [Array.length_toList, Int.toNat_natCast]
    omega
theorem mul_ok {z : Str} (h : z.cps.size ≤ 1000) : MulOk z 90 := by
  have e : z.length = z.cps.size := rfl
  refine ⟨by decide, fun _ _ => ?_, fun _ _ => ?_⟩
  · first | decide | omega
  · unfold PySem.Builtin.Str.tooLong
    rw [sizeLine_eq, e, show (90 : Int).toNat = 90 from rfl]
    exact decide_eq_false (by omega)
theorem is_texts {K : PySem.W.Frag} {H : Hp} {n : Nat} {a b : Addr} {x y : Str} (ha : H a = some (.tup [.str x, .str y])) (hb : H b = some (.tup [.str x, .str y])) : SPD.IsB K H (n + 1) (.ref a) (.ref b) true := by
  have z := SPD.IsB.tup (K := K) (n := n) (bs := [true, true]) ha hb rfl rfl (by show 2 ≤ 16777216; decide) fun i u v c e1 e2 e3 => by
    rw [e1] at e2
    cases e2
    have sc : ∀ j : Str, SPD.IsB K H n (.str j) (.str j) true := fun j => by
      have z : SPD.EqB K H (.str j) (.str j) (decide (V.str j = V.str j)) := .scal rfl
      rw [decide_eq_true rfl] at z
      exact .leaf (.str j) (.str j) rfl rfl z
    match i, e1, e3 with
    | 0, e1, e3 => cases e1; cases e3; exact sc _
    | 1, e1, e3 => cases e1; cases e3; exact sc _
    | i + 2, e1, _ => cases e1
  exact z
theorem is_text {K : PySem.W.Frag} {H : Hp} {n : Nat} {z : Str} (h : z.cps.size ≤ 100000) : SPD.IsB K H n (.str z) (.str z) true := is_same (a := 0) (m := 0) n (.leaf (Nat.ble_eq_true_of_le h)) (Nat.zero_le _)
theorem BookAt.kb {H H' : Hp} {C b t a : Addr} (k : RD.KB a H H') (n : b ≠ a) (h : BookAt H C b t) : BookAt H' C b t := h.imp fun _ h => k _ _ n h
section
variable {P : Program} {w : World} {K : PySem.W.Frag} {mg : Str → Option Value} {base : Heap}
theorem ok_law (T : Txt P K mg) : FnOk P w K mg base CX0 31 T.a_law T.fd_law ["_law_script"] (spLaw K) := by
  have nd := sc_law.nd
  have G_hand : FnOk P w K mg base CX0 30 T.a_hand T.fd_hand ["_law_script"] (spHand K) := (ok_hand T).mono (by decide)
  have G_draw : FnOk P w K mg base CX0 30 T.a_draw T.fd_draw ["_law_hand_here", "_law_many"] spDraw := (ok_draw T).mono (by decide)
  have G_any : FnOk P w K mg base CX0 30 T.a_any T.fd_any ["_law_hand_here", "_law_items"] (spAny K) := (ok_any T).mono (by decide)
  have G_pieces : FnOk P w K mg base CX0 30 T.a_pieces T.fd_pieces ["_law_hand_here"] spPieces := (ok_pieces T).mono (by decide)
  have G_is : FnOk P w K mg base CX0 30 T.a_is T.fd_is ["_law_told", "_law_due"] (spIs K 28) := (ok_is T 28).mono (by decide)
  have G_Book_init : FnOk P w K mg base (L2.CX P w) 29 T.a_Book_init T.fd_Book_init ["self", "pieces"] (spBook K T.C_Book T.C_BadBook) := (ok_Book_init T).mono (by decide)
  have G_log : FnOk P w K mg base CX0 30 T.a_log T.fd_log ["_law_hand_here", "_law_pieces_here", "_law_most"] spLogD := (ok_log T).mono (by decide)
  have G_strikes : FnOk P w K mg base CX0 30 T.a_strikes T.fd_strikes ["_law_pieces_here", "_law_log_here"] spStrikesL := (ok_strikes T).mono (by decide)
  have G_struck : FnOk P w K mg base CX0 30 T.a_struck T.fd_struck ["_law_pieces_here", "_law_log_here", "_law_strike"] spStruckL := (ok_struck T).mono (by decide)
  have G_q_strikes : FnOk P w K mg base (L2.CX P w) 30 T.a_q_strikes T.fd_q_strikes ["book", "log"] (spStrikesC T.C_Book) := (ok_q_strikes T).mono (by decide)
  have G_q_struck : FnOk P w K mg base (L2.CX P w) 30 T.a_q_struck T.fd_q_struck ["book", "log", "strike"] (spStruckC T.C_Book) := (ok_q_struck T).mono (by decide)
  have G_some_striking : FnOk P w K mg base CX0 30 T.a_some_striking T.fd_some_striking ["_law_hand_here", "_law_pieces_here", "_law_log_here", "_law_most"] spSomeStriking := (ok_some_striking T).mono (by decide)
  have G_bent_striking : FnOk P w K mg base CX0 30 T.a_bent_striking T.fd_bent_striking ["_law_hand_here", "_law_pieces_here", "_law_log_here", "_law_striking"] spBentStriking := (ok_bent_striking T).mono (by decide)
  have G_first_wrong : FnOk P w K mg base CX0 30 T.a_first_wrong T.fd_first_wrong ["_law_pieces_here", "_law_log_here", "_law_thing"] spFwL := (ok_first_wrong T).mono (by decide)
  have G_striking_told : FnOk P w K mg base CX0 30 T.a_striking_told T.fd_striking_told ["_law_book", "_law_log_here", "_law_thing"] (spStrikingTold T.C_Book) := (ok_striking_told T).mono (by decide)
  have G_is_striking : FnOk P w K mg base (L2.CX P w) 30 T.a_is_striking T.fd_is_striking ["book", "log", "thing"] (spIsStriking T.C_Book) := (ok_is_striking T).mono (by decide)
  have G_put_in : FnOk P w K mg base (L2.CX P w) 30 T.a_put_in T.fd_put_in ["book", "log", "place", "number"] (spPutIn T.C_Book) := (ok_put_in T).mono (by decide)
  refine T.F_law.ok sc_law (fun vs H Q E h => ?_) (fun cdv A outer s H vs Q E hr h => ?_)
  · obtain ⟨a, ns, rfl, _⟩ := h
    rfl
  · obtain ⟨s0, ns, rfl, hS, hl, q⟩ := h
    refine ⟨_, (pss_cons (ps_set (i := 1) nd rfl (by first | exact Or.inl rfl | exact Or.inr rfl) (pe_call G_hand hr (by rfl) T.g_hand T.F_hand.kp T.b_hand .nil pass0 (pa_cons (pv 0) pa_nil)))
  (pss_cons (ps_for PassesOwn.never rfl (pi_range1 (by rfl) T.m_range (pa_cons pe_int pa_nil)) (pg_name (i := 2) nd rfl (by first | exact Or.inl rfl | exact Or.inr rfl))
    (pss_cons (ps_set (i := 3) nd rfl (by first | exact Or.inl rfl | exact Or.inr rfl) (pe_call G_pieces hr (by rfl) T.g_pieces T.F_pieces.kp T.b_pieces .nil pass0 (pa_cons (pv 1) pa_nil)))
  (pss_cons (ps_par (i := 4) (j := 5) rfl nd rfl rfl (by decide) rfl rfl (pa_cons (pe_make T.M_Book G_Book_init hr (by rfl) T.g_Book T.b_Book_init .nil NR.passN (pa_cons (pv 3) pa_nil)) (pa_cons (pe_call G_log hr (by rfl) T.g_log T.F_log.kp T.b_log .nil pass0 (pa_cons (pv 1) (pa_cons (pv 3) (pa_cons pe_int pa_nil)))) pa_nil)) (by rfl))
  (Evl.pss_cut (ps_if (PW.pt (pw_and (pt_cmpR op_eq (pv 2) pe_int (nomark _)) (pw_and1 (pt_cmpR op_eq (pe_call G_draw hr (by rfl) T.g_draw T.F_draw.kp T.b_draw .nil pass0 (pa_cons (pv 1) (pa_cons pe_int pa_nil))) pe_int (nomark _)))))
    (pss_one (ps_set (i := 5) nd rfl (by first | exact Or.inl rfl | exact Or.inr rfl) (pe_op RB.op_mulS (pe_op op_add_str (pv 5) (pe_call G_any hr (by rfl) T.g_any T.F_any.kp T.b_any .nil pass0 (pa_cons (pv 1) (pa_cons pe_str pa_nil)))) pe_int)))
    pss_nil)
  (pss_cons (ps_set (i := 6) nd rfl (by first | exact Or.inl rfl | exact Or.inr rfl) (pe_call G_strikes hr (by rfl) T.g_strikes T.F_strikes.kp T.b_strikes .nil pass0 (pa_cons (pv 3) (pa_cons (pv 5) pa_nil))))
  (pss_cons (ps_set (i := 7) nd rfl (by first | exact Or.inl rfl | exact Or.inr rfl) (pe_call G_q_strikes hr (by rfl) T.g_q_strikes T.F_q_strikes.kp T.b_q_strikes .nil NR.passN (pa_cons (pv 4) (pa_cons (pv 5) pa_nil))))
  (pss_cons (ps_if (pt_not (pt_val (pe_call G_is hr (by rfl) T.g_is T.F_is.kp T.b_is .nil pass0 (pa_cons (pv 7) (pa_cons (pv 6) pa_nil)))))
    (pss_one (ps_ret pe_bl))
    pss_nil)
  (pss_cons (ps_expr (pe_bm PySem.F.plainAttrs_list PySem.F.slot_list_append PySem.F.type_list_append mt_append (pv 7) (pa_cons pe_non pa_nil)))
  (pss_cons (ps_if (pt_not (pt_val (pe_call G_is hr (by rfl) T.g_is T.F_is.kp T.b_is .nil pass0 (pa_cons (pe_call G_q_strikes hr (by rfl) T.g_q_strikes T.F_q_strikes.kp T.b_q_strikes .nil NR.passN (pa_cons (pv 4) (pa_cons (pv 5) pa_nil))) (pa_cons (pv 6) pa_nil)))))
    (pss_one (ps_ret pe_bl))
    pss_nil)
  (pss_cons (ps_for PassesOwn.never rfl (pi_list (pe_slice sl_list (pv 6) po_none (po_some pe_int))) (pg_name (i := 8) nd rfl (by first | exact Or.inl rfl | exact Or.inr rfl))
    (pss_one (ps_if (pt_not (pt_val (pe_call G_is hr (by rfl) T.g_is T.F_is.kp T.b_is .nil pass0 (pa_cons (pe_call G_q_struck hr (by rfl) T.g_q_struck T.F_q_struck.kp T.b_q_struck .nil NR.passN (pa_cons (pv 4) (pa_cons (pv 5) (pa_cons (pv 8) pa_nil)))) (pa_cons (pe_call G_struck hr (by rfl) T.g_struck T.F_struck.kp T.b_struck .nil pass0 (pa_cons (pv 3) (pa_cons (pv 5) (pa_cons (pv 8) pa_nil)))) pa_nil)))))
    (pss_one (ps_ret pe_bl))
    pss_nil)))
  (pss_cons (ps_set (i := 9) nd rfl (by first | exact Or.inl rfl | exact Or.inr rfl) (pe_call G_some_striking hr (by rfl) T.g_some_striking T.F_some_striking.kp T.b_some_striking .nil pass0 (pa_cons (pv 1) (pa_cons (pv 3) (pa_cons (pv 5) (pa_cons (pe_call G_draw hr (by rfl) T.g_draw T.F_draw.kp T.b_draw .nil pass0 (pa_cons (pv 1) (pa_cons pe_int pa_nil))) pa_nil))))))
  (pss_cons (ps_for PassesOwn.never rfl (pi_range1 (by rfl) T.m_range (pa_cons pe_int pa_nil)) (pg_name (i := 10) nd rfl (by first | exact Or.inl rfl | exact Or.inr rfl))
    (Evl.pss_cut (ps_set (i := 11) nd rfl (by first | exact Or.inl rfl | exact Or.inr rfl) (pe_ifExp (pt_cmpR op_gt (pv 10) pe_int (nomark _)) (pe_call G_bent_striking hr (by rfl) T.g_bent_striking T.F_bent_striking.kp T.b_bent_striking .nil pass0 (pa_cons (pv 1) (pa_cons (pv 3) (pa_cons (pv 5) (pa_cons (pv 9) pa_nil))))) (pv 9)))
  (pss_cons (ps_asg (pe_call G_first_wrong hr (by rfl) T.g_first_wrong T.F_first_wrong.kp T.b_first_wrong .nil pass0 (pa_cons (pv 3) (pa_cons (pv 5) (pa_cons (pv 11) pa_nil)))) (pg_tup rfl (pgs_cons (pg_name (i := 12) nd rfl (by first | exact Or.inl rfl | exact Or.inr rfl)) (pgs_cons (pg_name (i := 13) nd rfl (by first | exact Or.inl rfl | exact Or.inr rfl)) pgs_nil))))
  (pss_cons (ps_if (pt_not (pt_val (pe_call G_is hr (by rfl) T.g_is T.F_is.kp T.b_is .nil pass0 (pa_cons (pe_call G_striking_told hr (by rfl) T.g_striking_told T.F_striking_told.kp T.b_striking_told .nil pass0 (pa_cons (pv 4) (pa_cons (pv 5) (pa_cons (pv 11) pa_nil)))) (pa_cons (pe_ifExp (pt_cmpR op_isN (pv 12) pe_non (nomark _)) (pe_tup (pa_cons pe_str (pa_cons (pv 13) pa_nil))) (pv 12)) pa_nil)))))
    (pss_one (ps_ret pe_bl))
    pss_nil)
  (pss_one (ps_if (pt_not (pt_val (pe_call G_is hr (by rfl) T.g_is T.F_is.kp T.b_is .nil pass0 (pa_cons (pe_call G_is_striking hr (by rfl) T.g_is_striking T.F_is_striking.kp T.b_is_striking .nil NR.passN (pa_cons (pv 4) (pa_cons (pv 5) (pa_cons (pv 11) pa_nil)))) (pa_cons (pe_cmpR op_isN (pv 12) pe_non (nomark _)) pa_nil)))))
    (pss_one (ps_ret pe_bl))
    pss_nil))))))
  (pss_cons (ps_par (i := 14) (j := 15) rfl nd rfl rfl (by decide) rfl rfl (pa_cons (pe_call G_draw hr (by rfl) T.g_draw T.F_draw.kp T.b_draw .nil pass0 (pa_cons (pv 1) (pa_cons (pe_op op_add (pe_callB call_len_str (by rfl) T.m_len PySem.boot_len (pa_cons (pv 5) pa_nil)) pe_int) pa_nil))) (pa_cons (pe_call G_draw hr (by rfl) T.g_draw T.F_draw.kp T.b_draw .nil pass0 (pa_cons (pv 1) (pa_cons (pe_callB call_len_seq (by rfl) T.m_len PySem.boot_len (pa_cons (pv 3) pa_nil)) pa_nil))) pa_nil)) (by rfl))
  (pss_cons (ps_set (i := 16) nd rfl (by first | exact Or.inl rfl | exact Or.inr rfl) (pe_call G_put_in hr (by rfl) T.g_put_in T.F_put_in.kp T.b_put_in .nil NR.passN (pa_cons (pv 4) (pa_cons (pv 5) (pa_cons (pv 14) (pa_cons (pv 15) pa_nil))))))
  (pss_cons (ps_if (pt_not (pt_val (pe_call G_is hr (by rfl) T.g_is T.F_is.kp T.b_is .nil pass0 (pa_cons (pv 16) (pa_cons (pe_op op_add_str (pe_op op_add_str (pe_slice sl_str (pv 5) po_none (po_some (pv 14))) (pe_ix ix_tup (pv 3) (pv 15) (fun _ _ => rfl))) (pe_slice sl_str (pv 5) (po_some (pv 14)) po_none)) pa_nil)))))
    (pss_one (ps_ret pe_bl))
    pss_nil)
  (pss_one (ps_if (PW.pt (pw_or (pt_cmpR (op_notInD (RB.room65 hr)) (pe_tup (pa_cons (pv 14) (pa_cons (pv 15) pa_nil))) (pe_call G_q_strikes hr (by rfl) T.g_q_strikes T.F_q_strikes.kp T.b_q_strikes .nil NR.passN (pa_cons (pv 4) (pa_cons (pv 16) pa_nil))) (by first | rfl | exact nomark _)) (pw_or1 (pt_cmpR op_ne (pe_call G_q_struck hr (by rfl) T.g_q_struck T.F_q_struck.kp T.b_q_struck .nil NR.passN (pa_cons (pv 4) (pa_cons (pv 16) (pa_cons (pe_tup (pa_cons (pv 14) (pa_cons (pv 15) pa_nil))) pa_nil)))) (pv 5) (nomark _)))))
    (pss_one (ps_ret pe_bl))
    pss_nil)))))))))))))))))
  (pss_one (ps_ret pe_bl)))), ?_⟩
    walk_at "rds"
    refine ⟨s0, ns, rfl, hS, hl, fun a c H1 s1 ha hh1 => ?_⟩
    walk_at "rds"
    refine RD.forW (walk_range (lo := 0) (n := Int.toNat 4)) (fun i σ H' => ∃ x2 x3 x4 x5 x6 x7 x8 x9 x10 x11 x12 x13 x14 x15 x16, σ = [some (.ref s0), some (.ref a), x2, x3, x4, x5, x6, x7, x8, x9, x10, x11, x12, x13, x14, x15, x16] ∧ HandOk H' a c) ⟨_, _, _, _, _, _, _, _, _, _, _, _, _, _, _, rfl, hh1⟩ (fun _ _ _ _ _ => trivial) (fun i x σ H2 H3 hi hp hy => ?_) (fun σ H2 hp => ?_)
    · obtain ⟨x2, x3, x4, x5, x6, x7, x8, x9, x10, x11, x12, x13, x14, x15, x16, rfl, hh2⟩ := hp
      obtain ⟨rfl, rfl⟩ := hy
      walk_at "rds"
      refine ⟨a, c, rfl, hh2, fun t zs H4 k4 hh4 ht nt g => ?_⟩
      obtain ⟨hlm, g1, g12⟩ := mem_ln g
      clear k4
      walk_at "rds"
      refine RB.made fun b H5 dx hb s5 hb5 => ?_
      have nb : b ≠ a := hand_ne hb hh4
      refine ⟨a, b, dx, 1, .ref t, rfl, hb5, dq_pieces g (s5 _ _ ht) nt, fun H6 _ k6 h6 => ⟨rfl, ?_⟩, fun r d H' hr ne _ _ _ => absurd (hr.one (DueR.of (s5 _ _ ht) g)) ne⟩
      have s6 := same_of_kb s5 hb k6
      have ht6 := s6 _ _ ht
      have hh6 := hh4.same s6
      have hbk6 : BookAt H6 T.C_Book b t := ⟨dx, h6⟩
      clear s5 hb5 k6 s6 ht hh4 h6
      walk_at "rds"
      refine ⟨a, c, t, zs, 20, rfl, hh6, ht6, nt, g, by decide, by decide, fun z H7 k7 hh7 hl hz => ?_⟩
      have ht7 := k7 _ _ nt ht6
      have hbk7 := hbk6.kb k7 nb
      clear ht6 hbk6 hh6 k7
      walk_at "rds"
      refine ⟨fun σ' H' => ∃ z : Str, σ' = [some (.ref s0), some (.ref a), some (.int (0 + (i : Int))), some (.ref t), some (.ref b), some (.str z), x6, x7, x8, x9, x10, x11, x12, x13, x14, x15, x16] ∧ logB z = true ∧ z.cps.size ≤ 10000 ∧ HandOk H' a c ∧ H' t = some (.tup (zs.map V.str)) ∧ BookAt H' T.C_Book b t, ?_, fun σ1 H8 hm => ?_⟩
      · have hzl : z.length = z.cps.size := rfl
        walk_at "rds"
        refine RD.ite_d (fun _ => ?_) (fun _ => ?_)
        · walk_at "rds"
          refine spDraw.mk (E := E0) hh7 (by decide) (by decide) fun r H9 _ _ k9 hh9 => ?_
          have ht9 := k9 _ _ nt ht7
          have hbk9 := hbk7.kb k9 nb
          walk_at "rds"
          refine RD.ite_d (fun _ => ?_) (fun _ => ?_)
          · walk_at "rds"
            refine spAny.letter (E := E0) hh9 log_lets (by decide) (by decide) fun s H10 hs k10 hh10 => ?_
            obtain ⟨c1, c2⟩ := sgn_log hs
            have el : ∀ x : Str, x.length = x.cps.size := fun _ => rfl
            have ap := app_size z s
            refine RB.addS (RD.szo (by rw [el, el]; omega)) ?_
            walk_at "rds"
            refine RB.mulS (mul_ok (by omega)) ?_
            walk_at "rds"
            have hm := mul_size (z := z ++ s) (n := 90) (by decide)
            exact ⟨_, rfl, log_mul (by rw [log_app, hl, c1]; rfl), Nat.le_trans hm (by omega), hh10, k10 _ _ nt ht9, hbk9.kb k10 nb⟩
          · walk_at "rds"
            exact ⟨z, rfl, hl, by omega, hh9, ht9, hbk9⟩
        · walk_at "rds"
          exact ⟨z, rfl, hl, by omega, hh7, ht7, hbk7⟩
      obtain ⟨z, rfl, hl, hz, hh8, ht8, hbk8⟩ := hm
      clear ht7 hbk7 hh7
      have hz1 : z.cps.size ≤ 100000 := by omega
      have hz2 : z.cps.size ≤ 20000 := by omega
      have hzl : z.length = z.cps.size := rfl
      have hzs : z.length ≤ sizeLine := small_len hz1
      have hmany : (strikesL zs z).length ≤ 1200000 := many_ok g hz1 (Nat.le_refl z.cps.size)
      walk_at "rds"
      refine ⟨t, zs, z, rfl, ht8, g, hz1, fun f H9 hf s9 hpr => ?_⟩
      walk_at "rds"
      have ht9 := s9 _ _ ht8
      have hbk9 := hbk8.same s9
      have hh9 := hh8.same s9
      clear ht8 hbk8 hh8 s9 hf
      refine ⟨b, t, zs, z, rfl, hbk9, ht9, g, hz1, hl, fun f2 H10 hf2 s10 hpr2 => ?_⟩
      obtain ⟨vs, hfv, hpl⟩ := hpr
      obtain ⟨vs2, hfv2, hpl2⟩ := hpr2
      walk_at "rds"
      refine spIs.mk (E := E0) (is_pairs (n := 26) hfv2 (s10 _ _ hfv) hpl2 (hpl.same s10) (by omega)) fun H11 s11 => ?_
      have hfv11 := s11 _ _ hfv2
      have hl2 := hpl2.len
      walk_at "rds"
      have sm : Same H9 H' := RD.same_mut hk (s10.trans s11) hf2
      have ht12 := sm _ _ ht9
      have hbk12 := hbk9.same sm
      have hh12 := hh9.same sm
      have hfv12 := sm _ _ hfv
      have hpl12 := hpl.same sm
      clear hv hk hfv11 s11 s10 hfv2 hpl2 hf2 hfv hpl ht9 hbk9 hh9 sm
      generalize H' = H12 at ht12 hbk12 hh12 hfv12 hpl12
      refine ⟨b, t, zs, z, rfl, hbk12, ht12, g, hz1, hl, fun f3 H13 hf3 s13 hpr3 => ?_⟩
      obtain ⟨vs3, hfv3, hpl3⟩ := hpr3
      walk_at "rds"
      refine spIs.mk (E := E0) (is_pairs (n := 26) hfv3 (s13 _ _ hfv12) hpl3 (hpl12.same s13) (by omega)) fun H14 s14 => ?_
      have s24 := s13.trans s14
      have ht14 := s24 _ _ ht12
      have hbk14 := hbk12.same s24
      have hh14 := hh12.same s24
      have hfv14 := s24 _ _ hfv12
      have hpl14 := hpl12.same s24
      clear s13 s14 s24 hfv3 hpl3 hf3 ht12 hbk12 hh12 hfv12 hpl12
      walk_at "rds"
      have ht15 := hs _ _ ht14
      have hbk15 := hbk14.same hs
      have hh15 := hh14.same hs
      have hpl15 := hpl14.same hs
      refine RD.forW (walk_list (xs := cutV vs none (some 12))) (fun i' σ H'' => ∃ x8, σ = [some (.ref s0), some (.ref a), some (.int (0 + (i : Int))), some (.ref t), some (.ref b), some (.str z), some (.ref f), some (.ref f2), x8, x9, x10, x11, x12, x13, x14, x15, x16] ∧ Same H' H'') ⟨_, rfl, Same.refl _⟩ (fun i' σ H'' _ ⟨_, _, s⟩ => by walk_at "sq") (fun i' x σ H16 H17 hi' hp hy => ?_) (fun σ H16 hp => ?_)
      · obtain ⟨x8, rfl, s16⟩ := hp
        obtain ⟨rfl, hx⟩ := hy
        have hxm : x ∈ vs := by
          have hm := List.mem_of_getElem? hx
          unfold cutV at hm
          exact List.mem_of_mem_drop (List.mem_of_mem_take hm)
        obtain ⟨s, p, k, rfl, hs0, hm⟩ := hpl15.mem x hxm
        have hs1 := s16 _ _ hs0
        have ht16 := s16 _ _ ht15
        have hbk16 := hbk15.same s16
        have hh16 := hh15.same s16
        have ns : s ≠ a := fun e => by
          subst e
          obtain ⟨cells, i, g, sd, n, ha, _⟩ := hh16
          rw [ha] at hs1
          cases hs1
        walk_at "rds"
        refine ⟨b, t, s, a, 1, p, k, zs, z, rfl, hbk16, ht16, g, hz1, hl, SPD.dqTup hs1 ns (.cons (.leaf rfl) (.cons (.leaf rfl) .nil)), hs1, hm, fun H18 s18 => ?_⟩
        walk_at "rds"
        refine ⟨t, s, p, k, zs, z, rfl, s18 _ _ ht16, g, hz1, s18 _ _ hs1, hm, fun H19 s19 => ?_⟩
        walk_at "rds"
        refine spIs.mk (E := E0) (is_text (Nat.le_trans (struck_size (Nat.le_of_lt (mem_strikes.mp hm).1)) hz1)) fun H20 s20 => ?_
        walk_at "rds"
        exact ⟨_, rfl, s16.trans (s18.trans (s19.trans s20))⟩
      obtain ⟨x8, rfl, s16⟩ := hp
      have ht16 := s16 _ _ ht15
      have hbk16 := hbk15.same s16
      have hh16 := hh15.same s16
      clear ht15 hbk15 hh15 hpl15 ht14 hbk14 hh14 hfv14 hpl14 hv hs hp hn s16
      walk_at "rds"
      refine spDraw.mk (E := E0) hh16 (by decide) (by decide) fun r H17 hr0 hr1 k17 hh17 => ?_
      have ht17 := k17 _ _ nt ht16
      have hbk17 := hbk16.kb k17 nb
      clear ht16 hbk16 hh16 k17
      walk_at "rds"
      refine ⟨a, c, t, zs, z, r, rfl, hh17, ht17, nt, g, hz2, hr0, by omega, fun u ws H18 k18 hh18 hu nu hln hdw => ?_⟩
      have ht18 := k18 _ _ nt ht17
      have hbk18 := hbk17.kb k18 nb
      clear ht17 hbk17 hh17 k18
      walk_at "rds"
      refine RD.forW (walk_range (lo := 0) (n := Int.toNat 5)) (fun i' σ H'' => ∃ x10 x11 x12 x13, σ = [some (.ref s0), some (.ref a), some (.int (0 + (i : Int))), some (.ref t), some (.ref b), some (.str z), some (.ref f), some (.ref f2), x8, some (.ref u), x10, x11, x12, x13, x14, x15, x16] ∧ HandOk H'' a c ∧ H'' t = some (.tup (zs.map V.str)) ∧ BookAt H'' T.C_Book b t ∧ H'' u = some (.tup ws) ∧ SPD.DqA a H'' 1 ws) ⟨_, _, _, _, rfl, hh18, ht18, hbk18, hu, hdw⟩ (fun _ _ _ _ _ => trivial) (fun i' x σ H19 H20 hi' hp hy => ?_) (fun σ H19 hp => ?_)
      · obtain ⟨x10, x11, x12, x13, rfl, hh19, ht19, hbk19, hu19, hdw19⟩ := hp
        obtain ⟨rfl, rfl⟩ := hy
        clear hh18 ht18 hbk18 hu hdw
        walk_at "rds"
        refine ⟨fun σ' H' => ∃ v : V, σ' = [some (.ref s0), some (.ref a), some (.int (0 + (i : Int))), some (.ref t), some (.ref b), some (.str z), some (.ref f), some (.ref f2), x8, some (.ref u), some (.int (0 + (i' : Int))), some v, x12, x13, x14, x15, x16] ∧ HandOk H' a c ∧ H' t = some (.tup (zs.map V.str)) ∧ BookAt H' T.C_Book b t ∧ H' u = some (.tup ws) ∧ SPD.DqA a H' 1 ws ∧ SPD.Dq a H' 30 v, ?_, fun σ1 H21 hm => ?_⟩
        · walk_at "rds"
          refine RD.ite_d (fun _ => ?_) (fun _ => ?_)
          · walk_at "rds"
            refine ⟨a, c, t, u, zs, z, ws, rfl, hh19, ht19, nt, g, hz2, hu19, nu, hln, hdw19, fun v H21 k21 hh21 hd21 => ?_⟩
            walk_at "rds"
            exact ⟨v, rfl, hh21, k21 _ _ nt ht19, hbk19.kb k21 nb, k21 _ _ nu hu19, DqA.kbm hdw19 k21, hd21⟩
          · walk_at "rds"
            exact ⟨_, rfl, hh19, ht19, hbk19, hu19, hdw19, RB.dqTupN (n := 29) hu19 nu (RB.dqa_mono hdw19 (by decide)) hln rfl⟩
        obtain ⟨v, rfl, hh21, ht21, hbk21, hu21, hdw21, hd21⟩ := hm
        clear hh19 ht19 hbk19 hu19 hdw19
        walk_at "rds"
        refine ⟨t, a, 30, zs, z, v, rfl, ht21, g, hz2, hd21, fun r H22 hr0 s22 h22 => ?_⟩
        obtain ⟨kds, hsz⟩ := fwV_kinds (H := H21) (zs := zs) (z := z) (v := v)
        walk_at "rds"
        refine ⟨b, t, a, 30, zs, z, v, rfl, hbk21.same s22, s22 _ _ ht21, g, hz1, hl, hd21.same s22, ?_⟩
        rw [fwV_same hd21 s22]
        generalize hfw : fwV H21 zs z v = fw at h22 kds hsz
        obtain ⟨at_, left⟩ := fw
        have hsz : left.cps.size ≤ z.cps.size := hsz
        have kds : at_ = .non ∨ ∃ j, at_ = .int j := kds
        rcases kds with rfl | ⟨j, rfl⟩
        · refine ⟨fun _ u2 H23 hu2 s23 hv2 => ?_, fun ne => absurd rfl ne⟩
          have s213 := s22.trans s23
          walk_at "rds"
          refine ⟨rfl, true, rfl, ?_⟩
          walk_at "rds"
          refine spIs.mk (E := E0) (is_texts (n := 27) (by walk_at "hp") (by walk_at "hp")) fun H24 s24 => ?_
          have s214 : Same H21 H24 := s213.trans (hs.trans s24)
          walk_at "rds"
          refine ⟨b, t, a, 30, zs, z, v, rfl, hbk21.same s214, s214 _ _ ht21, g, hz1, hl, hd21.same s214, fun H25 s25 => ?_⟩
          rw [fwV_same hd21 s214, hfw]
          have s215 := s214.trans s25
          walk_at "rds"
          refine ⟨rfl, ?_⟩
          walk_at "rds"
          refine spIs.mk (E := E0) (is_same (a := a) (m := 0) 28 (.leaf rfl) (Nat.zero_le _)) fun H26 s26 => ?_
          have s216 := s215.trans s26
          walk_at "rds"
          exact ⟨_, _, _, _, rfl, hh21.same s216, s216 _ _ ht21, hbk21.same s216, s216 _ _ hu21, DqA.kbm hdw21 (RD.Same.kb s216)⟩
        · refine ⟨fun e => (nomatch e), fun _ H23 s23 => ?_⟩
          have s213 := s22.trans s23
          walk_at "rds"
          refine ⟨rfl, false, rfl, ?_⟩
          walk_at "rds"
          refine spIs.mk (E := E0) (is_same (a := a) (m := 0) 28 (.leaf rfl) (Nat.zero_le _)) fun H24 s24 => ?_
          have s214 : Same H21 H24 := s213.trans s24
          walk_at "rds"
          refine ⟨b, t, a, 30, zs, z, v, rfl, hbk21.same s214, s214 _ _ ht21, g, hz1, hl, hd21.same s214, fun H25 s25 => ?_⟩
          rw [fwV_same hd21 s214, hfw]
          have s215 := s214.trans s25
          walk_at "rds"
          refine ⟨rfl, ?_⟩
          walk_at "rds"
          refine spIs.mk (E := E0) (is_same (a := a) (m := 0) 28 (.leaf rfl) (Nat.zero_le _)) fun H26 s26 => ?_
          have s216 := s215.trans s26
          walk_at "rds"
          exact ⟨_, _, _, _, rfl, hh21.same s216, s216 _ _ ht21, hbk21.same s216, s216 _ _ hu21, DqA.kbm hdw21 (RD.Same.kb s216)⟩
      obtain ⟨x10, x11, x12, x13, rfl, hh19, ht19, hbk19, hu19, hdw19⟩ := hp
      clear hh18 ht18 hbk18 hu hdw hu19 hdw19
      walk_at "rds"
      refine spDraw.mk (E := E0) hh19 (by omega) (by omega) fun r1 H20 hr10 hr11 k20 hh20 => ?_
      have ht20 := k20 _ _ nt ht19
      have hbk20 := hbk19.kb k20 nb
      clear ht19 hbk19 hh19 k20
      obtain ⟨p, rfl⟩ : ∃ p : Nat, r1 = (p : Int) := ⟨r1.toNat, (Int.toNat_of_nonneg hr10).symm⟩
      walk_at "rds"
      refine spDraw.mk (E := E0) hh20 (by omega) (by omega) fun r2 H21 hr20 hr21 k21 hh21 => ?_
      have ht21 := k21 _ _ nt ht20
      have hbk21 := hbk20.kb k21 nb
      clear ht20 hbk20 hh20 k21
      obtain ⟨k, rfl⟩ : ∃ k : Nat, r2 = (k : Int) := ⟨r2.toNat, (Int.toNat_of_nonneg hr20).symm⟩
      obtain ⟨y, hya, hyk⟩ := at_strs (zs := zs) (j := (k : Int)) hr20 (by omega)
      have hyk : zs[k]? = some y := hyk
      have hpy := g.piece y (List.mem_of_getElem? hyk)
      have hy8 := piece_size hpy
      have hylog : logB y = true := by
        unfold pieceB at hpy
        rw [Bool.and_eq_true] at hpy
        exact hpy.1
      have hpz : p ≤ z.cps.size := by omega
      have hms := put_size (z := z) (y := y) (p := p) hpz
      have hlog := log_put (p := p) hl hylog
      walk_at "rds"
      refine ⟨b, t, zs, z, y, p, k, rfl, hbk21, ht21, hz1, hl, g, hpz, hyk, fun H22 s22 => ?_⟩
      have ht22 := s22 _ _ ht21
      have hbk22 := hbk21.same s22
      have hh22 := hh21.same s22
      have c1 := cut_size z none (some (p : Int))
      have c2 := cut_size z (some (p : Int)) none
      have c3 := app_size (cutS z none (some (p : Int))) y
      have el : ∀ x : Str, x.length = x.cps.size := fun _ => rfl
      walk_at "rds"
      refine RD.ixT (by walk_at "st") hya ?_
      refine RB.addS (RD.szo (by rw [el, el]; omega)) ?_
      walk_at "rds"
      refine RB.addS (RD.szo (by rw [el, el]; omega)) ?_
      walk_at "rds"
      refine spIs.mk (E := E0) (is_text (z := putS z y p) (by omega)) fun H23 s23 => ?_
      have ht23 := s23 _ _ ht22
      have hbk23 := hbk22.same s23
      have hh23 := hh22.same s23
      clear ht22 hbk22 hh22 ht21 hbk21 hh21 s22 s23
      walk_at "rds"
      refine ⟨b, t, zs, putS z y p, rfl, hbk23.same hs, hs _ _ ht23, g, by omega, hlog, fun f4 H24 hf4 s24 hpr4 => ?_⟩
      obtain ⟨vs4, hfv4, hpl4⟩ := hpr4
      have hv24 := s24 _ _ hv
      have s234 := hs.trans s24
      have hit := put_hit (zs := zs) hpz hyk hy8.1
      walk_at "rds"
      refine RB.notInD (d := .tuple [.int (p : Nat), .int (k : Nat)]) (ds := (strikesL zs (putS z y p)).map pairD) (.tup (.inl (.inl hv24)) (.cons (.int _) (.cons (.int _) .nil))) (.lst (.inl (.inl hfv4)) hpl4.dp) rfl (shaped_pairs _) ?_
      rw [any_pairs]
      walk_at "rds"
      refine RD.ite_nd (fun n => absurd ⟨by omega, by omega, hit⟩ n) (fun _ => ?_)
      have ht24 := s234 _ _ ht23
      have hbk24 := hbk23.same s234
      have hh24 := hh23.same s234
      clear hv24 hfv4 hpl4 hf4 s24 hv hs hp hn ht23 hbk23 hh23 s234
      walk_at "rds"
      refine ⟨b, t, _, a, 1, p, k, zs, putS z y p, rfl, hbk24.same hs, hs _ _ ht24, g, by omega, hlog, SPD.dqTup hv hn (.cons (.leaf rfl) (.cons (.leaf rfl) .nil)), hv, hit, fun H25 s25 => ?_⟩
      rw [put_back (by omega) hyk]
      walk_at "rds"
      refine RD.ite_nd (fun n => absurd rfl n) (fun _ => ?_)
      walk_at "rds"
      exact ⟨_, _, _, _, _, _, _, _, _, _, _, _, _, _, _, rfl, hh24.same (hs.trans s25)⟩
    · obtain ⟨x2, x3, x4, x5, x6, x7, x8, x9, x10, x11, x12, x13, x14, x15, x16, rfl, hh2⟩ := hp
      walk_at "rds"
      exact q _
end


end K02

namespace K02
open PySem PySem.Spec PyProof.Rows L2
abbrev Pg : Program := (PySem.Challenge.rw_struckpieces_k02_whole_strikings_there_a).prog
abbrev Rw : PySem.W.OpenRow := PySem.W.OpenLaw.row PySem.Challenge.rw_struckpieces_k02_whole_strikings_there_a

def dfn : List HX.DefS := [⟨("BadBook", some "__init__"), "__init__", "BadBook.__init__", s_BadBook_init⟩,
  ⟨("NoStriking", some "__init__"), "__init__", "NoStriking.__init__", s_NoStriking_init⟩,
  ⟨("is_log", none), "is_log", "is_log", s_q_is_log⟩,
  ⟨("is_piece", none), "is_piece", "is_piece", s_is_piece⟩,
  ⟨("Book", some "__init__"), "__init__", "Book.__init__", s_Book_init⟩,
  ⟨("Book", some "__eq__"), "__eq__", "Book.__eq__", s_Book_eq⟩,
  ⟨("check_log", none), "check_log", "check_log", s_check_log⟩,
  ⟨("is_integer", none), "is_integer", "is_integer", s_is_integer⟩,
  ⟨("is_within", none), "is_within", "is_within", s_is_within⟩,
  ⟨("is_tuple_of", none), "is_tuple_of", "is_tuple_of", s_is_tuple_of⟩,
  ⟨("strikes", none), "strikes", "strikes", s_q_strikes⟩,
  ⟨("raw_strikes", none), "raw_strikes", "raw_strikes", s_raw_strikes⟩,
  ⟨("is_strike", none), "is_strike", "is_strike", s_is_strike⟩,
  ⟨("raw_struck", none), "raw_struck", "raw_struck", s_raw_struck⟩,
  ⟨("struck", none), "struck", "struck", s_q_struck⟩,
  ⟨("first_wrong", none), "first_wrong", "first_wrong", s_q_first_wrong⟩,
  ⟨("left_by", none), "left_by", "left_by", s_left_by⟩,
  ⟨("is_striking", none), "is_striking", "is_striking", s_is_striking⟩,
  ⟨("put_in", none), "put_in", "put_in", s_put_in⟩,
  ⟨("_law_hand", none), "_law_hand", "_law_hand", s_hand⟩,
  ⟨("_law_draw", none), "_law_draw", "_law_draw", s_draw⟩,
  ⟨("_law_any", none), "_law_any", "_law_any", s_any⟩,
  ⟨("_law_is", none), "_law_is", "_law_is", s_is⟩,
  ⟨("_law_nested", none), "_law_nested", "_law_nested", s_nested⟩,
  ⟨("_law_int", none), "_law_int", "_law_int", s_int⟩,
  ⟨("_law_odd", none), "_law_odd", "_law_odd", s_odd⟩,
  ⟨("_law_pieces", none), "_law_pieces", "_law_pieces", s_pieces⟩,
  ⟨("_law_strikes", none), "_law_strikes", "_law_strikes", s_strikes⟩,
  ⟨("_law_struck", none), "_law_struck", "_law_struck", s_struck⟩,
  ⟨("_law_first_wrong", none), "_law_first_wrong", "_law_first_wrong", s_first_wrong⟩,
  ⟨("_law_some_striking", none), "_law_some_striking", "_law_some_striking", s_some_striking⟩,
  ⟨("_law_idle_log", none), "_law_idle_log", "_law_idle_log", s_idle_log⟩,
  ⟨("_law_log", none), "_law_log", "_law_log", s_log⟩,
  ⟨("_law_bent_striking", none), "_law_bent_striking", "_law_bent_striking", s_bent_striking⟩,
  ⟨("_law_striking_told", none), "_law_striking_told", "_law_striking_told", s_striking_told⟩,
  ⟨("law", none), "law", "law", s_law⟩]
def dck : List (PySem.W.Frag → Bool) := [fun K => HX.plB K ("is_log", none) "is_log",
  fun K => (He.Fa.glo "is_log").ok K,
  fun K => HX.plB K ("is_piece", none) "is_piece",
  fun K => (He.Fa.glo "is_piece").ok K,
  fun K => HX.plB K ("Book", some "__init__") "Book.__init__",
  fun K => HX.plB K ("Book", some "__eq__") "Book.__eq__",
  fun K => HX.plB K ("check_log", none) "check_log",
  fun K => (He.Fa.glo "check_log").ok K,
  fun K => HX.plB K ("is_integer", none) "is_integer",
  fun K => (He.Fa.glo "is_integer").ok K,
  fun K => HX.plB K ("is_within", none) "is_within",
  fun K => (He.Fa.glo "is_within").ok K,
  fun K => HX.plB K ("is_tuple_of", none) "is_tuple_of",
  fun K => (He.Fa.glo "is_tuple_of").ok K,
  fun K => HX.plB K ("strikes", none) "strikes",
  fun K => (He.Fa.glo "strikes").ok K,
  fun K => HX.plB K ("raw_strikes", none) "raw_strikes",
  fun K => (He.Fa.glo "raw_strikes").ok K,
  fun K => HX.plB K ("is_strike", none) "is_strike",
  fun K => (He.Fa.glo "is_strike").ok K,
  fun K => HX.plB K ("raw_struck", none) "raw_struck",
  fun K => (He.Fa.glo "raw_struck").ok K,
  fun K => HX.plB K ("struck", none) "struck",
  fun K => (He.Fa.glo "struck").ok K,
  fun K => HX.plB K ("first_wrong", none) "first_wrong",
  fun K => (He.Fa.glo "first_wrong").ok K,
  fun K => HX.plB K ("left_by", none) "left_by",
  fun K => (He.Fa.glo "left_by").ok K,
  fun K => HX.plB K ("is_striking", none) "is_striking",
  fun K => (He.Fa.glo "is_striking").ok K,
  fun K => HX.plB K ("put_in", none) "put_in",
  fun K => (He.Fa.glo "put_in").ok K,
  fun K => HX.plB K ("_law_hand", none) "_law_hand",
  fun K => (He.Fa.glo "_law_hand").ok K,
  fun K => HX.plB K ("_law_draw", none) "_law_draw",
  fun K => (He.Fa.glo "_law_draw").ok K,
  fun K => HX.plB K ("_law_any", none) "_law_any",
  fun K => (He.Fa.glo "_law_any").ok K,
  fun K => HX.plB K ("_law_is", none) "_law_is",
  fun K => (He.Fa.glo "_law_is").ok K,
  fun K => HX.plB K ("_law_nested", none) "_law_nested",
  fun K => (He.Fa.glo "_law_nested").ok K,
  fun K => HX.plB K ("_law_int", none) "_law_int",
  fun K => (He.Fa.glo "_law_int").ok K,
  fun K => HX.plB K ("_law_odd", none) "_law_odd",
  fun K => (He.Fa.glo "_law_odd").ok K,
  fun K => HX.plB K ("_law_pieces", none) "_law_pieces",
  fun K => (He.Fa.glo "_law_pieces").ok K,
  fun K => HX.plB K ("_law_strikes", none) "_law_strikes",
  fun K => (He.Fa.glo "_law_strikes").ok K,
  fun K => HX.plB K ("_law_struck", none) "_law_struck",
  fun K => (He.Fa.glo "_law_struck").ok K,
  fun K => HX.plB K ("_law_first_wrong", none) "_law_first_wrong",
  fun K => (He.Fa.glo "_law_first_wrong").ok K,
  fun K => HX.plB K ("_law_some_striking", none) "_law_some_striking",
  fun K => (He.Fa.glo "_law_some_striking").ok K,
  fun K => HX.plB K ("_law_idle_log", none) "_law_idle_log",
  fun K => (He.Fa.glo "_law_idle_log").ok K,
  fun K => HX.plB K ("_law_log", none) "_law_log",
  fun K => (He.Fa.glo "_law_log").ok K,
  fun K => HX.plB K ("_law_bent_striking", none) "_law_bent_striking",
  fun K => (He.Fa.glo "_law_bent_striking").ok K,
  fun K => HX.plB K ("_law_striking_told", none) "_law_striking_told",
  fun K => (He.Fa.glo "_law_striking_told").ok K,
  fun K => HX.plB K ("law", none) "law",
  fun K => (He.Fa.glo "law").ok K,
  fun K => (He.Fa.glo "LogError").ok K,
  fun K => HX.oexB K (He.ga K "LogError"),
  fun K => HX.excB K (He.ga K "LogError"),
  fun K => decide (PySem.W.subIn K (.ref (He.ga K "LogError")) (.type "BaseException") = some true),
  fun K => decide (PySem.W.typeIn K (.ref (He.ga K "LogError")) = some (.type "type")),
  fun K => decide (PySem.W.exmOne K (.ref (He.ga K "LogError")) (.ref (He.ga K "NoStriking")) = some false),
  fun K => PySem.W.excIn K (He.ga K "LogError") He.veBase "ValueError.__new__",
  fun K => PySem.W.keepIn K (.ref (He.ga K "LogError")),
  fun K => (He.Fa.glo "BadBook").ok K,
  fun K => HX.oexB K (He.ga K "BadBook"),
  fun K => HX.excB K (He.ga K "BadBook"),
  fun K => decide (PySem.W.subIn K (.ref (He.ga K "BadBook")) (.type "BaseException") = some true),
  fun K => decide (PySem.W.typeIn K (.ref (He.ga K "BadBook")) = some (.type "type")),
  fun K => decide (PySem.W.exmOne K (.ref (He.ga K "BadBook")) (.ref (He.ga K "NoStriking")) = some false),
  fun K => HX.sicB K (He.ga K "BadBook") "part",
  fun K => HX.spB K ("BadBook", some "__init__") "BadBook.__init__" Pg.main.file (He.ga K "BadBook"),
  fun K => (He.Fa.free "super").ok K,
  fun K => He.eqO (PySem.W.findIn K (.ref (He.ga K "BadBook")) "part") (some none),
  fun K => He.eqO (PySem.W.findIn K (.ref (He.ga K "BadBook")) "__init__") (some (some (.ref (He.ma K (He.ga K "BadBook") "__init__")))),
  fun K => decide (PySem.W.typeIn K (.ref (He.ma K (He.ga K "BadBook") "__init__")) = some (.type "function")),
  fun K => (He.Fa.glo "NoStriking").ok K,
  fun K => HX.oexB K (He.ga K "NoStriking"),
  fun K => HX.excB K (He.ga K "NoStriking"),
  fun K => decide (PySem.W.subIn K (.ref (He.ga K "NoStriking")) (.type "BaseException") = some true),
  fun K => decide (PySem.W.typeIn K (.ref (He.ga K "NoStriking")) = some (.type "type")),
  fun K => decide (PySem.W.exmOne K (.ref (He.ga K "NoStriking")) (.ref (He.ga K "NoStriking")) = some true),
  fun K => HX.sicB K (He.ga K "NoStriking") "at",
  fun K => HX.spB K ("NoStriking", some "__init__") "NoStriking.__init__" Pg.main.file (He.ga K "NoStriking"),
  fun K => He.eqO (PySem.W.findIn K (.ref (He.ga K "NoStriking")) "at") (some none),
  fun K => He.eqO (PySem.W.findIn K (.ref (He.ga K "NoStriking")) "__init__") (some (some (.ref (He.ma K (He.ga K "NoStriking") "__init__")))),
  fun K => decide (PySem.W.typeIn K (.ref (He.ma K (He.ga K "NoStriking") "__init__")) = some (.type "function")),
  fun K => (He.Fa.glo "NoLog").ok K,
  fun K => HX.oexB K (He.ga K "NoLog"),
  fun K => HX.excB K (He.ga K "NoLog"),
  fun K => decide (PySem.W.subIn K (.ref (He.ga K "NoLog")) (.type "BaseException") = some true),
  fun K => decide (PySem.W.typeIn K (.ref (He.ga K "NoLog")) = some (.type "type")),
  fun K => decide (PySem.W.exmOne K (.ref (He.ga K "NoLog")) (.ref (He.ga K "NoStriking")) = some false),
  fun K => PySem.W.excIn K (He.ga K "NoLog") He.veBase "ValueError.__new__",
  fun K => PySem.W.keepIn K (.ref (He.ga K "NoLog")),
  fun K => (He.Fa.glo "NoStrike").ok K,
  fun K => HX.oexB K (He.ga K "NoStrike"),
  fun K => HX.excB K (He.ga K "NoStrike"),
  fun K => decide (PySem.W.subIn K (.ref (He.ga K "NoStrike")) (.type "BaseException") = some true),
  fun K => decide (PySem.W.typeIn K (.ref (He.ga K "NoStrike")) = some (.type "type")),
  fun K => decide (PySem.W.exmOne K (.ref (He.ga K "NoStrike")) (.ref (He.ga K "NoStriking")) = some false),
  fun K => PySem.W.excIn K (He.ga K "NoStrike") He.veBase "ValueError.__new__",
  fun K => PySem.W.keepIn K (.ref (He.ga K "NoStrike")),
  fun K => (He.Fa.glo "NoPlace").ok K,
  fun K => HX.oexB K (He.ga K "NoPlace"),
  fun K => HX.excB K (He.ga K "NoPlace"),
  fun K => decide (PySem.W.subIn K (.ref (He.ga K "NoPlace")) (.type "BaseException") = some true),
  fun K => decide (PySem.W.typeIn K (.ref (He.ga K "NoPlace")) = some (.type "type")),
  fun K => decide (PySem.W.exmOne K (.ref (He.ga K "NoPlace")) (.ref (He.ga K "NoStriking")) = some false),
  fun K => PySem.W.excIn K (He.ga K "NoPlace") He.veBase "ValueError.__new__",
  fun K => PySem.W.keepIn K (.ref (He.ga K "NoPlace")),
  fun K => (He.Fa.glo "NoPiece").ok K,
  fun K => HX.oexB K (He.ga K "NoPiece"),
  fun K => HX.excB K (He.ga K "NoPiece"),
  fun K => decide (PySem.W.subIn K (.ref (He.ga K "NoPiece")) (.type "BaseException") = some true),
  fun K => decide (PySem.W.typeIn K (.ref (He.ga K "NoPiece")) = some (.type "type")),
  fun K => decide (PySem.W.exmOne K (.ref (He.ga K "NoPiece")) (.ref (He.ga K "NoStriking")) = some false),
  fun K => PySem.W.excIn K (He.ga K "NoPiece") He.veBase "ValueError.__new__",
  fun K => PySem.W.keepIn K (.ref (He.ga K "NoPiece")),
  fun K => (He.Fa.glo "Book").ok K,
  fun K => (He.Fa.cls "Book").ok K,
  fun K => (He.Fa.mkr "Book").ok K,
  fun K => He.eqO (PySem.W.findIn K (.ref (He.ga K "Book")) "__eq__") (some (some (.ref (He.ma K (He.ga K "Book") "__eq__")))),
  fun K => PySem.W.isFn K (.ref (He.ma K (He.ga K "Book") "__eq__")),
  fun K => He.eqO (PySem.W.findIn K (.ref (He.ga K "Book")) "__ne__") (some (some (.builtin "object.__ne__"))),
  fun K => decide (PySem.W.subIn K (.ref (He.ga K "Book")) (.type "object") = some true),
  fun K => ["tuple", "int", "str", "list", "bool", "NoneType", "dict"].all fun t => PySem.W.notFirst K (He.ga K "Book") (.type t),
  fun K => He.eqO (PySem.W.findIn K (.ref (He.ga K "Book")) "__class__") (some (some (.builtin "object.__class__"))),
  fun K => He.eqO (PySem.W.specialIn K (.builtin "object.__class__") "__get__") (some (some (.builtin "getset_descriptor.__get__"))),
  fun K => decide (PySem.W.takesIn K (.builtin "object.__class__") = some true),
  fun K => decide (PySem.W.mroIn K (He.ga K "Book") (.type "object") = some true),
  fun K => ["tuple", "int", "str", "list", "bool", "NoneType", "dict"].all fun t => PySem.W.kitOne K (.type t) (.ref (He.ga K "Book")) == some false,
  fun K => (He.Fa.noat "Book" "pieces").ok K,
  fun K => (He.Fa.str "LETTERS" "abcdefgh").ok K,
  fun K => (He.Fa.int "MOST_PIECES" (12)).ok K,
  fun K => (He.Fa.int "MOST_LONG" (8)).ok K,
  fun K => (He.Fa.free "abs").ok K,
  fun K => (He.Fa.free "all").ok K,
  fun K => (He.Fa.free "bool").ok K,
  fun K => (He.Fa.free "enumerate").ok K,
  fun K => (He.Fa.free "int").ok K,
  fun K => (He.Fa.free "isinstance").ok K,
  fun K => (He.Fa.free "len").ok K,
  fun K => (He.Fa.free "list").ok K,
  fun K => (He.Fa.free "range").ok K,
  fun K => (He.Fa.free "set").ok K,
  fun K => (He.Fa.free "sorted").ok K,
  fun K => (He.Fa.free "str").ok K,
  fun K => (He.Fa.free "tuple").ok K,
  fun K => (He.Fa.free "zip").ok K]
abbrev hk : PySem.W.Hook := HX.hookX 5 dck dfn
def ob (s : PySem.W.SharedT) : HX.AlX := HX.obsXG 5 dck dfn (HandSHeadRun.getT s)
theorem ob_eq (s : PySem.W.SharedT) : ob s = hk.obs s.abs := HX.obsXG_eq (HandSHeadRun.getT_eq s)
def loose : List Str := (["is_log", "is_piece", "check_log", "is_integer", "is_within", "is_tuple_of", "strikes", "raw_strikes", "is_strike", "raw_struck", "struck", "first_wrong", "left_by", "is_striking", "put_in", "_law_hand", "_law_draw", "_law_any", "_law_is", "_law_nested"] : List Str) ++ (["_law_int", "_law_odd", "_law_pieces", "_law_strikes", "_law_struck", "_law_first_wrong", "_law_some_striking", "_law_idle_log", "_law_log", "_law_bent_striking", "_law_striking_told", "LogError", "BadBook", "NoStriking", "NoLog", "NoStrike", "NoPlace", "NoPiece", "Book", "LETTERS"] : List Str) ++ (["MOST_PIECES", "MOST_LONG"] : List Str)
theorem run (w : World) : HandSHeadRun.RunEq Rw (PySem.W.view Rw.prog [47]) hk ob 60000 loose w := by
  intro os
  kernel_rfl
theorem txt {K : PySem.W.Frag} {h : Heap} {mg : Str → Option Value} (X : K.In h) (G : h.Ns mainGlobals mg) (c : HX.SaysX dck dfn K) : ∃ T : Txt Pg K mg, T.a_law = He.ga K "law" ∧ (True) := by
  obtain ⟨fd_q_is_log, F_q_is_log⟩ := HX.plB_ok (d := ⟨("is_log", none), "is_log", "is_log", s_q_is_log⟩) (c.fn_ 2 rfl) (c.fact 0 rfl)
  obtain ⟨fd_is_piece, F_is_piece⟩ := HX.plB_ok (d := ⟨("is_piece", none), "is_piece", "is_piece", s_is_piece⟩) (c.fn_ 3 rfl) (c.fact 2 rfl)
  obtain ⟨fd_Book_init, F_Book_init⟩ := HX.plB_ok (d := ⟨("Book", some "__init__"), "__init__", "Book.__init__", s_Book_init⟩) (c.fn_ 4 rfl) (c.fact 4 rfl)
  obtain ⟨fd_Book_eq, F_Book_eq⟩ := HX.plB_ok (d := ⟨("Book", some "__eq__"), "__eq__", "Book.__eq__", s_Book_eq⟩) (c.fn_ 5 rfl) (c.fact 5 rfl)
  obtain ⟨fd_check_log, F_check_log⟩ := HX.plB_ok (d := ⟨("check_log", none), "check_log", "check_log", s_check_log⟩) (c.fn_ 6 rfl) (c.fact 6 rfl)
  obtain ⟨fd_is_integer, F_is_integer⟩ := HX.plB_ok (d := ⟨("is_integer", none), "is_integer", "is_integer", s_is_integer⟩) (c.fn_ 7 rfl) (c.fact 8 rfl)
  obtain ⟨fd_is_within, F_is_within⟩ := HX.plB_ok (d := ⟨("is_within", none), "is_within", "is_within", s_is_within⟩) (c.fn_ 8 rfl) (c.fact 10 rfl)
  obtain ⟨fd_is_tuple_of, F_is_tuple_of⟩ := HX.plB_ok (d := ⟨("is_tuple_of", none), "is_tuple_of", "is_tuple_of", s_is_tuple_of⟩) (c.fn_ 9 rfl) (c.fact 12 rfl)
  obtain ⟨fd_q_strikes, F_q_strikes⟩ := HX.plB_ok (d := ⟨("strikes", none), "strikes", "strikes", s_q_strikes⟩) (c.fn_ 10 rfl) (c.fact 14 rfl)
  obtain ⟨fd_raw_strikes, F_raw_strikes⟩ := HX.plB_ok (d := ⟨("raw_strikes", none), "raw_strikes", "raw_strikes", s_raw_strikes⟩) (c.fn_ 11 rfl) (c.fact 16 rfl)
  obtain ⟨fd_is_strike, F_is_strike⟩ := HX.plB_ok (d := ⟨("is_strike", none), "is_strike", "is_strike", s_is_strike⟩) (c.fn_ 12 rfl) (c.fact 18 rfl)
  obtain ⟨fd_raw_struck, F_raw_struck⟩ := HX.plB_ok (d := ⟨("raw_struck", none), "raw_struck", "raw_struck", s_raw_struck⟩) (c.fn_ 13 rfl) (c.fact 20 rfl)
  obtain ⟨fd_q_struck, F_q_struck⟩ := HX.plB_ok (d := ⟨("struck", none), "struck", "struck", s_q_struck⟩) (c.fn_ 14 rfl) (c.fact 22 rfl)
  obtain ⟨fd_q_first_wrong, F_q_first_wrong⟩ := HX.plB_ok (d := ⟨("first_wrong", none), "first_wrong", "first_wrong", s_q_first_wrong⟩) (c.fn_ 15 rfl) (c.fact 24 rfl)
  obtain ⟨fd_left_by, F_left_by⟩ := HX.plB_ok (d := ⟨("left_by", none), "left_by", "left_by", s_left_by⟩) (c.fn_ 16 rfl) (c.fact 26 rfl)
  obtain ⟨fd_is_striking, F_is_striking⟩ := HX.plB_ok (d := ⟨("is_striking", none), "is_striking", "is_striking", s_is_striking⟩) (c.fn_ 17 rfl) (c.fact 28 rfl)
  obtain ⟨fd_put_in, F_put_in⟩ := HX.plB_ok (d := ⟨("put_in", none), "put_in", "put_in", s_put_in⟩) (c.fn_ 18 rfl) (c.fact 30 rfl)
  obtain ⟨fd_hand, F_hand⟩ := HX.plB_ok (d := ⟨("_law_hand", none), "_law_hand", "_law_hand", s_hand⟩) (c.fn_ 19 rfl) (c.fact 32 rfl)
  obtain ⟨fd_draw, F_draw⟩ := HX.plB_ok (d := ⟨("_law_draw", none), "_law_draw", "_law_draw", s_draw⟩) (c.fn_ 20 rfl) (c.fact 34 rfl)
  obtain ⟨fd_any, F_any⟩ := HX.plB_ok (d := ⟨("_law_any", none), "_law_any", "_law_any", s_any⟩) (c.fn_ 21 rfl) (c.fact 36 rfl)
  obtain ⟨fd_is, F_is⟩ := HX.plB_ok (d := ⟨("_law_is", none), "_law_is", "_law_is", s_is⟩) (c.fn_ 22 rfl) (c.fact 38 rfl)
  obtain ⟨fd_nested, F_nested⟩ := HX.plB_ok (d := ⟨("_law_nested", none), "_law_nested", "_law_nested", s_nested⟩) (c.fn_ 23 rfl) (c.fact 40 rfl)
  obtain ⟨fd_int, F_int⟩ := HX.plB_ok (d := ⟨("_law_int", none), "_law_int", "_law_int", s_int⟩) (c.fn_ 24 rfl) (c.fact 42 rfl)
  obtain ⟨fd_odd, F_odd⟩ := HX.plB_ok (d := ⟨("_law_odd", none), "_law_odd", "_law_odd", s_odd⟩) (c.fn_ 25 rfl) (c.fact 44 rfl)
  obtain ⟨fd_pieces, F_pieces⟩ := HX.plB_ok (d := ⟨("_law_pieces", none), "_law_pieces", "_law_pieces", s_pieces⟩) (c.fn_ 26 rfl) (c.fact 46 rfl)
  obtain ⟨fd_strikes, F_strikes⟩ := HX.plB_ok (d := ⟨("_law_strikes", none), "_law_strikes", "_law_strikes", s_strikes⟩) (c.fn_ 27 rfl) (c.fact 48 rfl)
  obtain ⟨fd_struck, F_struck⟩ := HX.plB_ok (d := ⟨("_law_struck", none), "_law_struck", "_law_struck", s_struck⟩) (c.fn_ 28 rfl) (c.fact 50 rfl)
  obtain ⟨fd_first_wrong, F_first_wrong⟩ := HX.plB_ok (d := ⟨("_law_first_wrong", none), "_law_first_wrong", "_law_first_wrong", s_first_wrong⟩) (c.fn_ 29 rfl) (c.fact 52 rfl)
  obtain ⟨fd_some_striking, F_some_striking⟩ := HX.plB_ok (d := ⟨("_law_some_striking", none), "_law_some_striking", "_law_some_striking", s_some_striking⟩) (c.fn_ 30 rfl) (c.fact 54 rfl)
  obtain ⟨fd_idle_log, F_idle_log⟩ := HX.plB_ok (d := ⟨("_law_idle_log", none), "_law_idle_log", "_law_idle_log", s_idle_log⟩) (c.fn_ 31 rfl) (c.fact 56 rfl)
  obtain ⟨fd_log, F_log⟩ := HX.plB_ok (d := ⟨("_law_log", none), "_law_log", "_law_log", s_log⟩) (c.fn_ 32 rfl) (c.fact 58 rfl)
  obtain ⟨fd_bent_striking, F_bent_striking⟩ := HX.plB_ok (d := ⟨("_law_bent_striking", none), "_law_bent_striking", "_law_bent_striking", s_bent_striking⟩) (c.fn_ 33 rfl) (c.fact 60 rfl)
  obtain ⟨fd_striking_told, F_striking_told⟩ := HX.plB_ok (d := ⟨("_law_striking_told", none), "_law_striking_told", "_law_striking_told", s_striking_told⟩) (c.fn_ 34 rfl) (c.fact 62 rfl)
  obtain ⟨fd_law, F_law⟩ := HX.plB_ok (d := ⟨("law", none), "law", "law", s_law⟩) (c.fn_ 35 rfl) (c.fact 64 rfl)
  have ST_BadBook_init : HX.SiT Pg s_BadBook_init "BadBook.__init__" "part" "part" := ⟨NdefX.nscope_by (by decide +kernel), by decide +kernel, ⟨_, _, _, _, _, _, _, _, _, _, rfl, _, fun _ _ _ _ => rfl⟩, by decide +kernel, by decide +kernel, by decide +kernel, by decide +kernel⟩
  obtain ⟨fd_BadBook_init, Z_BadBook_init, B_BadBook_init⟩ := HX.sic_ok (x := "BadBook") (mg := mg) ST_BadBook_init (c.fact 75 rfl) (c.fact 80 rfl) (c.fact 81 rfl) (c.fn_ 0 rfl) (He.free_ok X G (x := "super") (c.fact 82 rfl)) (fun _ _ _ _ _ _ _ us hl => match us, hl with | [_, _], _ => rfl)
  have ST_NoStriking_init : HX.SiT Pg s_NoStriking_init "NoStriking.__init__" "at" "at" := ⟨NdefX.nscope_by (by decide +kernel), by decide +kernel, ⟨_, _, _, _, _, _, _, _, _, _, rfl, _, fun _ _ _ _ => rfl⟩, by decide +kernel, by decide +kernel, by decide +kernel, by decide +kernel⟩
  obtain ⟨fd_NoStriking_init, Z_NoStriking_init, B_NoStriking_init⟩ := HX.sic_ok (x := "NoStriking") (mg := mg) ST_NoStriking_init (c.fact 87 rfl) (c.fact 92 rfl) (c.fact 93 rfl) (c.fn_ 1 rfl) (He.free_ok X G (x := "super") (c.fact 82 rfl)) (fun _ _ _ _ _ _ _ us hl => match us, hl with | [_, _], _ => rfl)
  exact ⟨{ a_q_is_log := _, fd_q_is_log := fd_q_is_log, F_q_is_log := F_q_is_log, b_q_is_log := F_q_is_log.binds (ps := ["thing"]) (fun _ _ _ _ _ _ us hl => match us, hl with | [_], _ => rfl), g_q_is_log := He.glo_ok X G (x := "is_log") (c.fact 1 rfl), a_is_piece := _, fd_is_piece := fd_is_piece, F_is_piece := F_is_piece, b_is_piece := F_is_piece.binds (ps := ["thing"]) (fun _ _ _ _ _ _ us hl => match us, hl with | [_], _ => rfl), g_is_piece := He.glo_ok X G (x := "is_piece") (c.fact 3 rfl), a_Book_init := _, fd_Book_init := fd_Book_init, F_Book_init := F_Book_init, b_Book_init := F_Book_init.binds (ps := ["self", "pieces"]) (fun _ _ _ _ _ _ us hl => match us, hl with | [_, _], _ => rfl), a_Book_eq := _, fd_Book_eq := fd_Book_eq, F_Book_eq := F_Book_eq, b_Book_eq := F_Book_eq.binds (ps := ["self", "other"]) (fun _ _ _ _ _ _ us hl => match us, hl with | [_, _], _ => rfl), a_check_log := _, fd_check_log := fd_check_log, F_check_log := F_check_log, b_check_log := F_check_log.binds (ps := ["thing"]) (fun _ _ _ _ _ _ us hl => match us, hl with | [_], _ => rfl), g_check_log := He.glo_ok X G (x := "check_log") (c.fact 7 rfl), a_is_integer := _, fd_is_integer := fd_is_integer, F_is_integer := F_is_integer, b_is_integer := F_is_integer.binds (ps := ["thing"]) (fun _ _ _ _ _ _ us hl => match us, hl with | [_], _ => rfl), g_is_integer := He.glo_ok X G (x := "is_integer") (c.fact 9 rfl), a_is_within := _, fd_is_within := fd_is_within, F_is_within := F_is_within, b_is_within := F_is_within.binds (ps := ["thing", "least", "most"]) (fun _ _ _ _ _ _ us hl => match us, hl with | [_, _, _], _ => rfl), g_is_within := He.glo_ok X G (x := "is_within") (c.fact 11 rfl), a_is_tuple_of := _, fd_is_tuple_of := fd_is_tuple_of, F_is_tuple_of := F_is_tuple_of, b_is_tuple_of := F_is_tuple_of.binds (ps := ["thing", "size"]) (fun _ _ _ _ _ _ us hl => match us, hl with | [_, _], _ => rfl), g_is_tuple_of := He.glo_ok X G (x := "is_tuple_of") (c.fact 13 rfl), a_q_strikes := _, fd_q_strikes := fd_q_strikes, F_q_strikes := F_q_strikes, b_q_strikes := F_q_strikes.binds (ps := ["book", "log"]) (fun _ _ _ _ _ _ us hl => match us, hl with | [_, _], _ => rfl), g_q_strikes := He.glo_ok X G (x := "strikes") (c.fact 15 rfl), a_raw_strikes := _, fd_raw_strikes := fd_raw_strikes, F_raw_strikes := F_raw_strikes, b_raw_strikes := F_raw_strikes.binds (ps := ["book", "log"]) (fun _ _ _ _ _ _ us hl => match us, hl with | [_, _], _ => rfl), g_raw_strikes := He.glo_ok X G (x := "raw_strikes") (c.fact 17 rfl), a_is_strike := _, fd_is_strike := fd_is_strike, F_is_strike := F_is_strike, b_is_strike := F_is_strike.binds (ps := ["book", "log", "thing"]) (fun _ _ _ _ _ _ us hl => match us, hl with | [_, _, _], _ => rfl), g_is_strike := He.glo_ok X G (x := "is_strike") (c.fact 19 rfl), a_raw_struck := _, fd_raw_struck := fd_raw_struck, F_raw_struck := F_raw_struck, b_raw_struck := F_raw_struck.binds (ps := ["book", "log", "strike"]) (fun _ _ _ _ _ _ us hl => match us, hl with | [_, _, _], _ => rfl), g_raw_struck := He.glo_ok X G (x := "raw_struck") (c.fact 21 rfl), a_q_struck := _, fd_q_struck := fd_q_struck, F_q_struck := F_q_struck, b_q_struck := F_q_struck.binds (ps := ["book", "log", "strike"]) (fun _ _ _ _ _ _ us hl => match us, hl with | [_, _, _], _ => rfl), g_q_struck := He.glo_ok X G (x := "struck") (c.fact 23 rfl), a_q_first_wrong := _, fd_q_first_wrong := fd_q_first_wrong, F_q_first_wrong := F_q_first_wrong, b_q_first_wrong := F_q_first_wrong.binds (ps := ["book", "log", "thing"]) (fun _ _ _ _ _ _ us hl => match us, hl with | [_, _, _], _ => rfl), g_q_first_wrong := He.glo_ok X G (x := "first_wrong") (c.fact 25 rfl), a_left_by := _, fd_left_by := fd_left_by, F_left_by := F_left_by, b_left_by := F_left_by.binds (ps := ["book", "log", "striking"]) (fun _ _ _ _ _ _ us hl => match us, hl with | [_, _, _], _ => rfl), g_left_by := He.glo_ok X G (x := "left_by") (c.fact 27 rfl), a_is_striking := _, fd_is_striking := fd_is_striking, F_is_striking := F_is_striking, b_is_striking := F_is_striking.binds (ps := ["book", "log", "thing"]) (fun _ _ _ _ _ _ us hl => match us, hl with | [_, _, _], _ => rfl), g_is_striking := He.glo_ok X G (x := "is_striking") (c.fact 29 rfl), a_put_in := _, fd_put_in := fd_put_in, F_put_in := F_put_in, b_put_in := F_put_in.binds (ps := ["book", "log", "place", "number"]) (fun _ _ _ _ _ _ us hl => match us, hl with | [_, _, _, _], _ => rfl), g_put_in := He.glo_ok X G (x := "put_in") (c.fact 31 rfl), a_hand := _, fd_hand := fd_hand, F_hand := F_hand, b_hand := F_hand.binds (ps := ["_law_script"]) (fun _ _ _ _ _ _ us hl => match us, hl with | [_], _ => rfl), g_hand := He.glo_ok X G (x := "_law_hand") (c.fact 33 rfl), a_draw := _, fd_draw := fd_draw, F_draw := F_draw, b_draw := F_draw.binds (ps := ["_law_hand_here", "_law_many"]) (fun _ _ _ _ _ _ us hl => match us, hl with | [_, _], _ => rfl), g_draw := He.glo_ok X G (x := "_law_draw") (c.fact 35 rfl), a_any := _, fd_any := fd_any, F_any := F_any, b_any := F_any.binds (ps := ["_law_hand_here", "_law_items"]) (fun _ _ _ _ _ _ us hl => match us, hl with | [_, _], _ => rfl), g_any := He.glo_ok X G (x := "_law_any") (c.fact 37 rfl), a_is := _, fd_is := fd_is, F_is := F_is, b_is := F_is.binds (ps := ["_law_told", "_law_due"]) (fun _ _ _ _ _ _ us hl => match us, hl with | [_, _], _ => rfl), g_is := He.glo_ok X G (x := "_law_is") (c.fact 39 rfl), a_nested := _, fd_nested := fd_nested, F_nested := F_nested, b_nested := F_nested.binds (ps := ["_law_hand_here"]) (fun _ _ _ _ _ _ us hl => match us, hl with | [_], _ => rfl), g_nested := He.glo_ok X G (x := "_law_nested") (c.fact 41 rfl), a_int := _, fd_int := fd_int, F_int := F_int, b_int := F_int.binds (ps := ["_law_thing", "_law_low", "_law_high"]) (fun _ _ _ _ _ _ us hl => match us, hl with | [_, _, _], _ => rfl), g_int := He.glo_ok X G (x := "_law_int") (c.fact 43 rfl), a_odd := _, fd_odd := fd_odd, F_odd := F_odd, b_odd := F_odd.binds (ps := ["_law_hand_here"]) (fun _ _ _ _ _ _ us hl => match us, hl with | [_], _ => rfl), g_odd := He.glo_ok X G (x := "_law_odd") (c.fact 45 rfl), a_pieces := _, fd_pieces := fd_pieces, F_pieces := F_pieces, b_pieces := F_pieces.binds (ps := ["_law_hand_here"]) (fun _ _ _ _ _ _ us hl => match us, hl with | [_], _ => rfl), g_pieces := He.glo_ok X G (x := "_law_pieces") (c.fact 47 rfl), a_strikes := _, fd_strikes := fd_strikes, F_strikes := F_strikes, b_strikes := F_strikes.binds (ps := ["_law_pieces_here", "_law_log_here"]) (fun _ _ _ _ _ _ us hl => match us, hl with | [_, _], _ => rfl), g_strikes := He.glo_ok X G (x := "_law_strikes") (c.fact 49 rfl), a_struck := _, fd_struck := fd_struck, F_struck := F_struck, b_struck := F_struck.binds (ps := ["_law_pieces_here", "_law_log_here", "_law_strike"]) (fun _ _ _ _ _ _ us hl => match us, hl with | [_, _, _], _ => rfl), g_struck := He.glo_ok X G (x := "_law_struck") (c.fact 51 rfl), a_first_wrong := _, fd_first_wrong := fd_first_wrong, F_first_wrong := F_first_wrong, b_first_wrong := F_first_wrong.binds (ps := ["_law_pieces_here", "_law_log_here", "_law_thing"]) (fun _ _ _ _ _ _ us hl => match us, hl with | [_, _, _], _ => rfl), g_first_wrong := He.glo_ok X G (x := "_law_first_wrong") (c.fact 53 rfl), a_some_striking := _, fd_some_striking := fd_some_striking, F_some_striking := F_some_striking, b_some_striking := F_some_striking.binds (ps := ["_law_hand_here", "_law_pieces_here", "_law_log_here", "_law_most"]) (fun _ _ _ _ _ _ us hl => match us, hl with | [_, _, _, _], _ => rfl), g_some_striking := He.glo_ok X G (x := "_law_some_striking") (c.fact 55 rfl), a_idle_log := _, fd_idle_log := fd_idle_log, F_idle_log := F_idle_log, b_idle_log := F_idle_log.binds (ps := ["_law_hand_here", "_law_pieces_here", "_law_most"]) (fun _ _ _ _ _ _ us hl => match us, hl with | [_, _, _], _ => rfl), g_idle_log := He.glo_ok X G (x := "_law_idle_log") (c.fact 57 rfl), a_log := _, fd_log := fd_log, F_log := F_log, b_log := F_log.binds (ps := ["_law_hand_here", "_law_pieces_here", "_law_most"]) (fun _ _ _ _ _ _ us hl => match us, hl with | [_, _, _], _ => rfl), g_log := He.glo_ok X G (x := "_law_log") (c.fact 59 rfl), a_bent_striking := _, fd_bent_striking := fd_bent_striking, F_bent_striking := F_bent_striking, b_bent_striking := F_bent_striking.binds (ps := ["_law_hand_here", "_law_pieces_here", "_law_log_here", "_law_striking"]) (fun _ _ _ _ _ _ us hl => match us, hl with | [_, _, _, _], _ => rfl), g_bent_striking := He.glo_ok X G (x := "_law_bent_striking") (c.fact 61 rfl), a_striking_told := _, fd_striking_told := fd_striking_told, F_striking_told := F_striking_told, b_striking_told := F_striking_told.binds (ps := ["_law_book", "_law_log_here", "_law_thing"]) (fun _ _ _ _ _ _ us hl => match us, hl with | [_, _, _], _ => rfl), g_striking_told := He.glo_ok X G (x := "_law_striking_told") (c.fact 63 rfl), a_law := _, fd_law := fd_law, F_law := F_law, b_law := F_law.binds (ps := ["_law_script"]) (fun _ _ _ _ _ _ us hl => match us, hl with | [_], _ => rfl), g_law := He.glo_ok X G (x := "law") (c.fact 65 rfl), C_LogError := He.ga K "LogError", g_LogError := He.glo_ok X G (x := "LogError") (c.fact 66 rfl), xc_LogError := HX.oexB_ok (c.fact 67 rfl), ic_LogError := HX.excB_ok (c.fact 68 rfl), bx_LogError := of_decide_eq_true (c.fact 69 rfl), tx_LogError := of_decide_eq_true (c.fact 70 rfl), em_LogError_NoStriking := of_decide_eq_true (c.fact 71 rfl), k_LogError := (c.fact 72 rfl), kp_LogError := (c.fact 73 rfl), C_BadBook := He.ga K "BadBook", g_BadBook := He.glo_ok X G (x := "BadBook") (c.fact 74 rfl), xc_BadBook := HX.oexB_ok (c.fact 75 rfl), ic_BadBook := HX.excB_ok (c.fact 76 rfl), bx_BadBook := of_decide_eq_true (c.fact 77 rfl), tx_BadBook := of_decide_eq_true (c.fact 78 rfl), em_BadBook_NoStriking := of_decide_eq_true (c.fact 79 rfl), fi_BadBook := He.eqO_ok (c.fact 83 rfl), a_BadBook_init := _, fd_BadBook_init := fd_BadBook_init, S_BadBook_init := Z_BadBook_init, b_BadBook_init := B_BadBook_init, ii_BadBook := He.eqO_ok (c.fact 84 rfl), ti_BadBook := of_decide_eq_true (c.fact 85 rfl), C_NoStriking := He.ga K "NoStriking", g_NoStriking := He.glo_ok X G (x := "NoStriking") (c.fact 86 rfl), xc_NoStriking := HX.oexB_ok (c.fact 87 rfl), ic_NoStriking := HX.excB_ok (c.fact 88 rfl), bx_NoStriking := of_decide_eq_true (c.fact 89 rfl), tx_NoStriking := of_decide_eq_true (c.fact 90 rfl), em_NoStriking_NoStriking := of_decide_eq_true (c.fact 91 rfl), fi_NoStriking := He.eqO_ok (c.fact 94 rfl), a_NoStriking_init := _, fd_NoStriking_init := fd_NoStriking_init, S_NoStriking_init := Z_NoStriking_init, b_NoStriking_init := B_NoStriking_init, ii_NoStriking := He.eqO_ok (c.fact 95 rfl), ti_NoStriking := of_decide_eq_true (c.fact 96 rfl), C_NoLog := He.ga K "NoLog", g_NoLog := He.glo_ok X G (x := "NoLog") (c.fact 97 rfl), xc_NoLog := HX.oexB_ok (c.fact 98 rfl), ic_NoLog := HX.excB_ok (c.fact 99 rfl), bx_NoLog := of_decide_eq_true (c.fact 100 rfl), tx_NoLog := of_decide_eq_true (c.fact 101 rfl), em_NoLog_NoStriking := of_decide_eq_true (c.fact 102 rfl), k_NoLog := (c.fact 103 rfl), kp_NoLog := (c.fact 104 rfl), C_NoStrike := He.ga K "NoStrike", g_NoStrike := He.glo_ok X G (x := "NoStrike") (c.fact 105 rfl), xc_NoStrike := HX.oexB_ok (c.fact 106 rfl), ic_NoStrike := HX.excB_ok (c.fact 107 rfl), bx_NoStrike := of_decide_eq_true (c.fact 108 rfl), tx_NoStrike := of_decide_eq_true (c.fact 109 rfl), em_NoStrike_NoStriking := of_decide_eq_true (c.fact 110 rfl), k_NoStrike := (c.fact 111 rfl), kp_NoStrike := (c.fact 112 rfl), C_NoPlace := He.ga K "NoPlace", g_NoPlace := He.glo_ok X G (x := "NoPlace") (c.fact 113 rfl), xc_NoPlace := HX.oexB_ok (c.fact 114 rfl), ic_NoPlace := HX.excB_ok (c.fact 115 rfl), bx_NoPlace := of_decide_eq_true (c.fact 116 rfl), tx_NoPlace := of_decide_eq_true (c.fact 117 rfl), em_NoPlace_NoStriking := of_decide_eq_true (c.fact 118 rfl), k_NoPlace := (c.fact 119 rfl), kp_NoPlace := (c.fact 120 rfl), C_NoPiece := He.ga K "NoPiece", g_NoPiece := He.glo_ok X G (x := "NoPiece") (c.fact 121 rfl), xc_NoPiece := HX.oexB_ok (c.fact 122 rfl), ic_NoPiece := HX.excB_ok (c.fact 123 rfl), bx_NoPiece := of_decide_eq_true (c.fact 124 rfl), tx_NoPiece := of_decide_eq_true (c.fact 125 rfl), em_NoPiece_NoStriking := of_decide_eq_true (c.fact 126 rfl), k_NoPiece := (c.fact 127 rfl), kp_NoPiece := (c.fact 128 rfl), C_Book := He.ga K "Book", g_Book := He.glo_ok X G (x := "Book") (c.fact 129 rfl), cl_Book := He.cls_ok (x := "Book") (c.fact 130 rfl), M_Book := He.mkr_ok (x := "Book") (c.fact 131 rfl), eqc_Book := ⟨He.eqO_ok (c.fact 132 rfl), (c.fact 133 rfl), He.eqO_ok (c.fact 134 rfl), of_decide_eq_true (c.fact 135 rfl)⟩, nf_Book := (c.fact 136 rfl), ty_Book := ⟨He.eqO_ok (c.fact 137 rfl), He.eqO_ok (c.fact 138 rfl), of_decide_eq_true (c.fact 139 rfl), of_decide_eq_true (c.fact 140 rfl)⟩, kc_Book := (c.fact 141 rfl), no_Book_pieces := He.noat_ok (x := "Book") (f := "pieces") (c.fact 142 rfl), g_LETTERS := He.str_ok X G (x := "LETTERS") (c.fact 143 rfl), g_MOST_PIECES := He.int_ok X G (x := "MOST_PIECES") (c.fact 144 rfl), g_MOST_LONG := He.int_ok X G (x := "MOST_LONG") (c.fact 145 rfl), m_abs := He.free_ok X G (x := "abs") (c.fact 146 rfl), m_all := He.free_ok X G (x := "all") (c.fact 147 rfl), m_bool := He.free_ok X G (x := "bool") (c.fact 148 rfl), m_enumerate := He.free_ok X G (x := "enumerate") (c.fact 149 rfl), m_int := He.free_ok X G (x := "int") (c.fact 150 rfl), m_isinstance := He.free_ok X G (x := "isinstance") (c.fact 151 rfl), m_len := He.free_ok X G (x := "len") (c.fact 152 rfl), m_list := He.free_ok X G (x := "list") (c.fact 153 rfl), m_range := He.free_ok X G (x := "range") (c.fact 154 rfl), m_set := He.free_ok X G (x := "set") (c.fact 155 rfl), m_sorted := He.free_ok X G (x := "sorted") (c.fact 156 rfl), m_str := He.free_ok X G (x := "str") (c.fact 157 rfl), m_super := He.free_ok X G (x := "super") (c.fact 82 rfl), m_tuple := He.free_ok X G (x := "tuple") (c.fact 158 rfl), m_zip := He.free_ok X G (x := "zip") (c.fact 159 rfl) }, rfl, trivial⟩


end K02
open PySem PySem.W PySem.Calls PyProof.Rows
theorem PySem.Challenge.cw_struckpieces_k02_whole_strikings_there_a_holds : PySem.Challenge.rw_struckpieces_k02_whole_strikings_there_a.Holds := by
  w_on; o_law
  refine HandSHeadRun.head_any (r := OpenLaw.row PySem.Challenge.rw_struckpieces_k02_whole_strikings_there_a) (q := view (OpenLaw.row PySem.Challenge.rw_struckpieces_k02_whole_strikings_there_a).prog [47]) (H := K02.hk) (ob := K02.ob) (M := 60000) (loose := K02.loose) (d := HandSHeadRun.topDef (OpenLaw.row PySem.Challenge.rw_struckpieces_k02_whole_strikings_there_a).prog 47) (kwd := []) K02.ob_eq
    (by kernel_rfl) (fun s => by kernel_rfl) K02.run (by kernel_rfl) (by kernel_rfl) (by kernel_rfl) (by rfl) (by first | assumption | decide +kernel) (by decide +kernel) ⟨rfl, rfl, rfl, rfl, rfl, by decide +kernel⟩ ?hw ?hc
  case hw => w_witness2
  case hc =>
    refine L2.walk_ofE (l := PySem.Challenge.rw_struckpieces_k02_whole_strikings_there_a) (n := 63) (k := 31) (x := "_law_script") (CX := L2.CX0) rfl (by decide) (by kernel_rfl) ⟨rfl, by decide, by decide⟩ ?F (fun _ _ _ _ z => z)
    intro w mg fa h Y G hmg0
    obtain ⟨K, KX, c⟩ := Y
    have hmg : mg ("law" : PySem.Str) = some (.ref fa) := by
      have e : (HandSHeadRun.topDef (OpenLaw.row PySem.Challenge.rw_struckpieces_k02_whole_strikings_there_a).prog 47).name = ("law" : PySem.Str) := by kernel_rfl
      rw [← e]
      exact hmg0
    obtain ⟨T, ea, X⟩ := K02.txt KX G c
    have e := hmg.symm.trans T.g_law
    cases e
    exact ⟨K, T.fd_law, K02.spLaw K, KX, fun s u => by obtain ⟨_, _, _, _, _, _, _, _, _, e2, _⟩ := T.F_law.ex; rw [e2]; exact .of_eq rfl, fun H a ns hl _ hS => ⟨a, ns, rfl, hS, hl, fun _ => rfl⟩, fun base _ _ => K02.ok_law T⟩
