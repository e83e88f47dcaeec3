import PyProof.Rows.All
import Wide.All
import OpenK.AllK
import Wide.FinOn
import PySem.Challenge.RW_struckpieces_k15_whole_machines_judged
import HandS.ForMost
import HandS.ForExc
import HandS.IsInst
import HandS.TupAny
import HandS.TupMul
import HandS.StrMore
import HandS.Style
import HandS.OwnEq
import HandS.Walk
import HandS.Evl
import HandS.Dict
import HandS.More
import HandS.ExcInit
import HandS.ExcIs
import HandS.Nested
import KE.KExcSuper
import KE.KExcIs
import HandS.ExcValue
import HandS.ExcField
import HandS.Zip
import PyProof.Rows.SetFrom
import PyProof.Rows.SortStr
import PyProof.Rows.SortShellAny
import PyProof.StrWalks
import HandS.Set
import HandS.Strs
import HandS.SetTxt0
import PyProof.TupleIter
import PyProof.ListStr
import PyProof.Draws
import KE.GoesMore
import HandS.Iter
import KE.KRevSl
import PyProof.InstEq
import HandS.ExcOwn
import HandS.Deep
import HandS.Replace
import PyProof.Rows.StrRev
import PyProof.Rows.StrLawsPart
import PyProof.StrLawsIn
import KE.KStateDown
import HandS.Head0
import HandS.Head1
import HandS.Head2
import HandS.HeadEnd
import HandS.HeadHook1
import HandS.HeadHook2
set_option Elab.async false
set_option linter.all false
set_option maxRecDepth 100000
set_option maxHeartbeats 4000000
/-! readings, step by step -/
namespace RD
open PySem PySem.Spec PyProof.Rows L2

/-! ### heaps -/
/-- all but x is as it was -/
def KB (x : Addr) (H H' : Hp) : Prop := ∀ b o, b ≠ x → H b = some o → H' b = some o
theorem at_same {H H' : Hp} {a : Addr} {o : HO} (s : Same H H') (h : H a = some o) : H' a = some o := s a o h
theorem at_kb {x a : Addr} {H H' : Hp} {o : HO} (s : KB x H H') (n : a ≠ x) (h : H a = some o) : H' a = some o := s a o n h
theorem Same.kb {x : Addr} {H H' : Hp} (s : Same H H') : KB x H H' := fun b o _ h => s b o h
theorem KB.refl {x : Addr} {H : Hp} : KB x H H := fun _ _ _ h => h
theorem KB.trans {x : Addr} {H H1 H2 : Hp} (a : KB x H H1) (b : KB x H1 H2) : KB x H H2 := fun c o n h => b c o n (a c o n h)
theorem KB.seq {x : Addr} {K : PySem.W.Frag} {H H' : Hp} {a : Addr} {xs : List V} (e : KB x H H') (n : a ≠ x) (h : SqL K H a xs) : SqL K H' a xs := by
  rcases h with (h | ⟨o, h⟩) | h
  · exact .inl (.inl (e _ _ n h))
  · exact .inl (.inr ⟨o, e _ _ n h⟩)
  · exact .inr h
theorem KB.tup {x : Addr} {K : PySem.W.Frag} {H H' : Hp} {a : Addr} {xs : List V} (e : KB x H H') (n : a ≠ x) (h : SqT K H a xs) : SqT K H' a xs := by
  rcases h with (h | ⟨o, h⟩) | h
  · exact .inl (.inl (e _ _ n h))
  · exact .inl (.inr ⟨o, e _ _ n h⟩)
  · exact .inr h
theorem Same.tup {K : PySem.W.Frag} {H H' : Hp} {a : Addr} {xs : List V} (e : Same H H') (h : SqT K H a xs) : SqT K H' a xs := by
  rcases h with (h | ⟨o, h⟩) | h
  · exact .inl (.inl (e _ _ h))
  · exact .inl (.inr ⟨o, e _ _ h⟩)
  · exact .inr h
theorem fr_of {H H' : Hp} {p : Addr} (n : H' p = none) (s : Same H H') : H p = none := Same.free s n
theorem sm_tr {H H1 H' : Hp} (h2 : Same H1 H') (h1 : Same H H1) : Same H H' := h1.trans h2
theorem kb_tr {x : Addr} {H H1 H' : Hp} (h2 : KB x H1 H') (h1 : KB x H H1) : KB x H H' := h1.trans h2
theorem kb_trs {x : Addr} {H H1 H' : Hp} (h2 : Same H1 H') (h1 : KB x H H1) : KB x H H' := h1.trans (Same.kb h2)
theorem same_new {H : Hp} {p : Addr} {o : HO} (h : H p = none) : Same H (upd H p o) := fun b x e => by
  rw [upd_ne (ne_of_none e h)]
  exact e
theorem kb_upd {H : Hp} {p : Addr} {o : HO} : KB p H (upd H p o) := fun b x n e => by
  rw [upd_ne n]
  exact e
theorem same_mut {H H' : Hp} {p : Addr} (k : KB p H H') {H0 : Hp} (s : Same H0 H) (n : H0 p = none) : Same H0 H' := fun b o e => k b o (ne_of_none e n) (s b o e)
theorem free_back {H H' : Hp} {p : Addr} (s : Same H H') (n : H' p = none) : H p = none := Same.free s n
theorem ne_no {H : Hp} {a b : Addr} {o : HO} (h' : H b = none) (h : H a = some o) : a ≠ b := ne_of_none h h'
theorem ne_no' {H : Hp} {a b : Addr} {o : HO} (h' : H b = none) (h : H a = some o) : b ≠ a := (ne_of_none h h').symm
theorem sz (n : Nat) (h : Nat.ble n 16777216 = true := by rfl) : n ≤ sizeLine := by rw [sizeLine_eq]; exact Nat.le_of_ble_eq_true h
theorem szo {n : Nat} (h : n ≤ 16777216) : n ≤ sizeLine := by rw [sizeLine_eq]; exact h
theorem szl {n : Nat} (h : n < 16777216) : n < sizeLine := by rw [sizeLine_eq]; exact h

/-- a new object is laid -/
def NewO (H : Hp) (o : HO) (Q : VK) : Prop := ∀ p, H p = none → Q (.ref p) (upd H p o)
/-! ### expressions -/
section
variable {K : PySem.W.Frag} {σ : L2.St} {H : Hp} {Q : VK} {QB : Bool → Hp → Prop} {QL : List V → Hp → Prop} {QO : Option Int → Hp → Prop} {ta tb te : TE} {tx ty : TA} {t u : TT} {r : R2} {v x y : V} {i j : Int} {tl th : TO}
theorem op (h : ta σ H fun x H1 => tb σ H1 fun y H2 => r x y H2 Q) : tOp r ta tb σ H Q := h
theorem un {r : V → Hp → VK → Prop} (h : ta σ H fun x H1 => r x H1 Q) : tUn r ta σ H Q := h
theorem var {i : Nat} (e : σ[i]? = some (some v)) (h : Q v H) : tVar i σ H Q := ⟨v, e, h⟩
theorem c (h : Q v H) : tC v σ H Q := h
theorem nil (h : QL [] H) : tNil σ H QL := h
theorem cons (h : ta σ H fun x H1 => tx σ H1 fun xs H2 => QL (x :: xs) H2) : tCons ta tx σ H QL := h
theorem cb {r : List V → Hp → VK → Prop} (h : tx σ H fun vs H1 => r vs H1 Q) : tCB r tx σ H Q := h
theorem call {sp : Sp} {dvs : List V} {E : XK} (h : tx σ H fun vs H1 => sp (vs ++ dvs) H1 Q E) : tCall sp dvs E tx σ H Q := h
theorem test (h : te σ H fun x H' => ∃ k, x = .bl k ∧ QB k H') : tTest te σ H QB := h
theorem tb' (h : te σ H fun x H' => ∃ k, x = .bl k ∧ QB k H') : tB te σ H QB := h
theorem bl {b : Bool} {R : Bool → Prop} (h : R b) : ∃ k, V.bl b = .bl k ∧ R k := ⟨b, rfl, h⟩
theorem and' (h : t σ H fun c H1 => if c = true then u σ H1 QB else QB false H1) : tAnd t u σ H QB := h
theorem or' (h : t σ H fun c H1 => if c = true then QB true H1 else u σ H1 QB) : tOr t u σ H QB := h
theorem not' (h : t σ H fun c H1 => QB (!c) H1) : tNot t σ H QB := h
theorem andV (h : ta σ H fun x H1 => ∃ c, x = .bl c ∧ if c = true then tb σ H1 Q else Q (.bl false) H1) : tAndV ta tb σ H Q := h
theorem orV (h : ta σ H fun x H1 => ∃ c, x = .bl c ∧ if c = true then Q (.bl true) H1 else tb σ H1 Q) : tOrV ta tb σ H Q := h
theorem notV (h : ta σ H fun x H1 => ∃ c, x = .bl c ∧ Q (.bl (!c)) H1) : tNotV ta σ H Q := h
theorem bl2 {b : Bool} {A B : Prop} (h : if b = true then A else B) : ∃ c, V.bl b = .bl c ∧ if c = true then A else B := ⟨b, rfl, h⟩
theorem blA {b : Bool} {A : Hp → Prop} {B : Hp → Prop} (h : if b = true then A H else B H) : ∃ c, V.bl b = .bl c ∧ if c = true then A H else B H := ⟨b, rfl, h⟩
theorem blN {b : Bool} (h : Q (.bl (!b)) H) : ∃ c, V.bl b = .bl c ∧ Q (.bl (!c)) H := ⟨b, rfl, h⟩
theorem ife (h : t σ H fun c H1 => if c = true then ta σ H1 Q else tb σ H1 Q) : tIf t ta tb σ H Q := h
theorem sl {r : V → Option Int → Option Int → Hp → VK → Prop} (h : te σ H fun x H1 => tl σ H1 fun l H2 => th σ H2 fun u H3 => r x l u H3 Q) : tSl r te tl th σ H Q := h
theorem part (h : te σ H fun x H1 => ∃ i, x = .int i ∧ QO (some i) H1) : tPart te σ H QO := h
theorem noPart (h : QO none H) : tNoPart σ H QO := h
theorem partI {R : Int → Prop} (h : R i) : ∃ j, V.int i = .int j ∧ R j := ⟨i, rfl, h⟩
theorem rd0 {g : Int → Int → V} (h : Q (g i j) H) : rI0 g (.int i) (.int j) H Q := ⟨i, j, rfl, rfl, h⟩
theorem rdI {C : Int → Int → Prop} {g : Int → Int → V} (hc : C i j) (h : Q (g i j) H) : rI C g (.int i) (.int j) H Q := ⟨i, j, rfl, rfl, hc, h⟩
theorem rdU {g : Int → V} (h : Q (g i) H) : rU g (.int i) H Q := ⟨i, rfl, h⟩
theorem rdEq (hs : scal x y = true) (h : Q (.bl (decide (x = y))) H) : rEq x y H Q := ⟨hs, h⟩
theorem rdNe (hs : scal x y = true) (h : Q (.bl (!decide (x = y))) H) : rNe x y H Q := ⟨hs, h⟩
theorem ixL {p : Addr} {xs : List V} (hx : SqL K H p xs) (ha : atI xs i = some v) (h : Q v H) : rIxL K (.ref p) (.int i) H Q := ⟨p, xs, i, v, rfl, rfl, hx, ha, h⟩
theorem ixT {p : Addr} {xs : List V} (hx : SqT K H p xs) (ha : atI xs i = some v) (h : Q v H) : rIxT K (.ref p) (.int i) H Q := ⟨p, xs, i, v, rfl, rfl, hx, ha, h⟩
theorem ixS {z : Str} {c : Nat} (hl : z.length ≤ sizeLine) (ha : atI z.cps.toList i = some c) (h : Q (.str ⟨#[c]⟩) H) : rIxS (.str z) (.int i) H Q := ⟨z, i, c, rfl, rfl, hl, ha, h⟩
theorem tup (h : tx σ H fun xs H1 => xs.length ≤ sizeLine ∧ NewO H1 (.tup xs) Q) : tTup tx σ H Q := h
theorem lst (h : tx σ H fun xs H1 => xs.length ≤ sizeLine ∧ NewO H1 (.lst xs) Q) : tLst tx σ H Q := h
theorem slL {a : Addr} {xs : List V} {lo hi : Option Int} (hx : SqL K H a xs) (h : ∀ p H2, H p = none → Same H H2 → H2 p = some (.lst (cutV xs lo hi)) → Q (.ref p) H2) : rSlL K (.ref a) lo hi H Q := ⟨a, xs, rfl, hx, fun p hp => h p _ hp (same_new hp) upd_same⟩
/-- a new object: the heap from then on is any that holds it and all else -/
theorem new {o : HO} {R : Addr → Hp → Prop} (h : ∀ p H2, H p = none → Same H H2 → H2 p = some o → R p H2) : ∀ p, H p = none → R p (upd H p o) := fun p hp => h p _ hp (same_new hp) upd_same
theorem newZ {n : Nat} {o : HO} (z : n ≤ sizeLine) (h : ∀ p H2, H p = none → Same H H2 → H2 p = some o → Q (.ref p) H2) : n ≤ sizeLine ∧ NewO H o Q := ⟨z, fun p hp => h p _ hp (same_new hp) upd_same⟩
theorem newO {o : HO} (h : ∀ p H2, H p = none → Same H H2 → H2 p = some o → Q (.ref p) H2) : NewO H o Q := fun p hp => h p _ hp (same_new hp) upd_same
theorem mutn {a : Addr} {o : HO} {R : Hp → Prop} (h : ∀ H2, KB a H H2 → H2 a = some o → R H2) : R (upd H a o) := h _ kb_upd upd_same
theorem len {p : Addr} {ys : List V} {R : Addr → List V → Prop} (hx : SqL K H p ys ∨ SqT K H p ys) (h : R p ys) : (∃ q zs, [V.ref p] = [.ref q] ∧ (SqL K H q zs ∨ SqT K H q zs) ∧ R q zs) := ⟨p, ys, rfl, hx, h⟩
theorem lenS {z : Str} {R : Str → Prop} (hl : z.length ≤ sizeLine) (h : R z) : (∃ w : Str, [V.str z] = [.str w] ∧ w.length ≤ sizeLine ∧ R w) := ⟨z, rfl, hl, h⟩
theorem int1 {R : Int → Prop} {S : Bool → Prop} (h : R i) : (∃ k, [V.int i] = [.int k] ∧ R k) ∨ ∃ k, [V.int i] = [.bl k] ∧ S k := .inl ⟨i, rfl, h⟩
theorem int1b {b : Bool} {R : Int → Prop} {S : Bool → Prop} (h : S b) : (∃ k, [V.bl b] = [.int k] ∧ R k) ∨ ∃ k, [V.bl b] = [.bl k] ∧ S k := .inr ⟨b, rfl, h⟩
theorem abs1 {R : Int → Prop} (h : R i) : (∃ k, [V.int i] = [.int k] ∧ R k) := ⟨i, rfl, h⟩
theorem all1 {a : Addr} {bs : List Bool} (hx : SqL K H a (bs.map V.bl)) (h : Q (.bl (bs.all id)) H) : rAll K [.ref a] H Q := ⟨a, bs, rfl, hx, h⟩
theorem any1 {a : Addr} {bs : List Bool} (hx : SqL K H a (bs.map V.bl)) (h : Q (.bl (bs.any id)) H) : rAny K [.ref a] H Q := ⟨a, bs, rfl, hx, h⟩
theorem isi {x c : V} {t u : Value} {b : Bool} (hc : ClsV c u) (hx : TyX K H x t) (e : PySem.W.kitOne K t u = some b) (h : Q (.bl b) H) : rIsi K [x, c] H Q := ⟨x, c, t, u, b, rfl, hc, hx, e, h⟩
theorem isiT {x : V} {tp : Addr} {cs : List V} {t : Value} {us : List Value} {b : Bool} (ht : H tp = some (.tup cs)) (hc : Paired ClsV cs us) (hx : TyX K H x t) (e : PySem.W.kitAny K t us = some b) (h : Q (.bl b) H) : rIsiT K [x, .ref tp] H Q := ⟨x, tp, cs, t, us, b, rfl, ht, hc, hx, e, h⟩
theorem cat {l b : Addr} {xs zs : List V} (h1 : H l = some (.lst xs)) (h2 : H b = some (.lst zs)) (hz : xs.length + zs.length ≤ sizeLine) (h : ∀ p H2, H p = none → Same H H2 → H2 p = some (.lst (xs ++ zs)) → Q (.ref p) H2) : rCat (.ref l) (.ref b) H Q := ⟨l, b, xs, zs, rfl, rfl, h1, h2, hz, fun p hp => h p _ hp (same_new hp) upd_same⟩
theorem eqD {d e : PyData} (h1 : Dp K H x d) (h2 : Dp K H y e) (s1 : SeqAt.shaped d = true) (s2 : SeqAt.shaped e = true) (h : Q (.bl (PyData.eqv d e)) H) : rEqD K x y H Q := ⟨d, e, h1, h2, s1, s2, h⟩
theorem neD {d e : PyData} (h1 : Dp K H x d) (h2 : Dp K H y e) (s1 : SeqAt.shaped d = true) (s2 : SeqAt.shaped e = true) (h : Q (.bl (!PyData.eqv d e)) H) : rNeD K x y H Q := ⟨d, e, h1, h2, s1, s2, h⟩
theorem ite1 {A B : Prop} (h : A) : if true = true then A else B := iteT h
theorem ite0 {A B : Prop} (h : B) : if false = true then A else B := iteF h
theorem ite1n {A B : Prop} (h : B) : if (!true) = true then A else B := iteF h
theorem ite0n {A B : Prop} (h : A) : if (!false) = true then A else B := iteT h
theorem ite_b {b : Bool} {A B : Prop} (h1 : b = true → A) (h2 : b = false → B) : if b = true then A else B := by
  cases b with
  | true => exact iteT (h1 rfl)
  | false => exact iteF (h2 rfl)
theorem ite_d {p : Prop} [Decidable p] {A B : Prop} (h1 : p → A) (h2 : ¬ p → B) : if decide p = true then A else B := ite_b (fun e => h1 (of_decide_eq_true e)) (fun e => h2 (of_decide_eq_false e))
theorem ite_nd {p : Prop} [Decidable p] {A B : Prop} (h1 : ¬ p → A) (h2 : p → B) : if (!decide p) = true then A else B := ite_b (fun e => h1 (of_decide_eq_false (by simpa using e))) (fun e => h2 (of_decide_eq_true (by simpa using e)))
end

/-! ### statements -/
section
variable {K : PySem.W.Frag} {σ : L2.St} {H : Hp} {D : Ends} {te ta : TE} {ts t u : TS} {tt : TT} {g : TG} {tx : TA} {v : V} {i : Nat} {QS : L2.St → Hp → Prop}
theorem seq (h : t { D with nx := u D } σ H) : tSeq t u D σ H := h
theorem asg (h : te σ H fun x H1 => g x σ H1 D.nx) : tAsg te g D σ H := h
theorem name (h : QS (σ.set i (some v)) H) : gName i v σ H QS := h
theorem ret (h : te σ H D.rt) : tRet te D σ H := h
theorem drop (h : te σ H fun _ H1 => D.nx σ H1) : tDrop te D σ H := h
theorem next (h : D.nx σ H) : tNext D σ H := h
theorem ifs (h : tt σ H fun b H1 => if b = true then t D σ H1 else u D σ H1) : tIfS tt t u D σ H := h
theorem par {j : Nat} (h : tx σ H fun vs H1 => ∃ v w, vs = [v, w] ∧ D.nx ((σ.set i (some v)).set j (some w)) H1) : tPar i j tx D σ H := h
theorem par2 {x y : V} {R : V → V → Prop} (h : R x y) : ∃ v w, [x, y] = [v, w] ∧ R v w := ⟨x, y, rfl, h⟩
theorem sub {to ti : TE} {s : TSet} (h : to σ H fun o H1 => ti σ H1 fun i H2 => s o i v H2 fun H3 => QS σ H3) : gSub to ti s v σ H QS := h
theorem setL {p : Addr} {xs : List V} {k : Int} {j : Nat} {R : Hp → Prop} (hx : H p = some (.lst xs)) (hi : ixN xs.length k = some j) (h : ∀ H2, KB p H H2 → H2 p = some (.lst (xs.set j v)) → R H2) : rSetL (.ref p) (.int k) v H R := ⟨p, xs, k, j, rfl, rfl, hx, hi, mutn h⟩
theorem gtup {n : Nat} {tg : TGs} {a : Addr} {xs : List V} (hx : SqT K H a xs) (hn : xs.length = n) (h : tg xs σ H QS) : gTup K n tg (.ref a) σ H QS := ⟨a, xs, rfl, hx, hn, h⟩
theorem gcons {tg : TG} {tgs : TGs} {vs : List V} (h : tg v σ H fun σ' H' => tgs vs σ' H' QS) : gCons tg tgs (v :: vs) σ H QS := ⟨v, vs, rfl, h⟩
theorem gnil (h : QS σ H) : gNil [] σ H QS := ⟨rfl, h⟩
theorem bm {T : String} {r : V → List V → Hp → VK → Prop} {Q : VK} (h : ta σ H fun x H1 => tyV K T x H1 ∧ tx σ H1 fun xs H2 => r x xs H2 Q) : tBM K T r ta tx σ H Q := h
theorem bmL {p : Addr} {xs : List V} {R : Prop} (hx : SqL K H p xs) (h : R) : tyV K "list" (.ref p) H ∧ R := ⟨.inl ⟨rfl, _, hx⟩, h⟩
theorem app {l : Addr} {xs : List V} {y : V} {Q : VK} (hx : H l = some (.lst xs)) (hz : xs.length < sizeLine) (h : ∀ H2, KB l H H2 → H2 l = some (.lst (xs ++ [y])) → Q .non H2) : rAppend (.ref l) [y] H Q := ⟨l, xs, y, rfl, rfl, hx, hz, mutn h⟩
end
end RD
namespace RD
open PySem PySem.Spec PyProof.Rows L2
theorem at_lt {α : Type} {xs : List α} {i : Int} (h0 : 0 ≤ i) (h1 : i < (xs.length : Int)) : ∃ v, atI xs i = some v ∧ xs[i.toNat]? = some v := by
  have h : i.toNat < xs.length := by omega
  obtain ⟨v, hv⟩ : ∃ v, xs[i.toNat]? = some v := ⟨_, List.getElem?_eq_getElem h⟩
  have z : atI xs ((i.toNat : Nat) : Int) = some v := atI_nat hv
  rw [show ((i.toNat : Nat) : Int) = i by omega] at z
  exact ⟨v, z, hv⟩
theorem at_map {ns : List Int} {i : Int} (h0 : 0 ≤ i) (h1 : i < ((ns.map V.int).length : Int)) : ∃ n, atI (ns.map V.int) i = some (.int n) ∧ ns[i.toNat]? = some n := by
  obtain ⟨v, e1, e2⟩ := at_lt h0 h1
  rw [List.getElem?_map] at e2
  cases h : ns[i.toNat]? with
  | none => rw [h] at e2; cases e2
  | some n => rw [h] at e2; cases e2; exact ⟨n, e1, rfl⟩
/-! ### loops and comprehensions -/
def ForG (J : It) (g : TG) (tb : TS) (D : Ends) (σ : L2.St) (H1 : Hp) : Prop := ∃ W : Nat → Nat → L2.St → Hp → Prop, (∃ m, W 0 m σ H1) ∧ ∀ i m σ H, W i m σ H →
  (J.stop i H ∧ D.nx σ H) ∨ (J.go i H ∧ ∃ N : L2.St → Hp → Prop, (∀ σ' H', N σ' H' → ∃ m', m' < m ∧ W (i + 1) m' σ' H') ∧ ∀ x H', J.yld i H x H' → g x σ H' fun σ2 H2 => tb { D with nx := N, ct := N, bk := D.nx } σ2 H2)
def LcG (J : It) (g : TG) (tt : TT) (te : TE) (vs : List Nat) (σ : L2.St) (H1 : Hp) (Q : VK) : Prop := ∀ D, H1 D = none → ∃ W : Nat → Nat → Hp → Prop, (∃ m, W 0 m (upd H1 D (.lst []))) ∧ ∀ i m H, W i m H →
  (J.stop i H ∧ Q (.ref D) H) ∨ (J.go i H ∧ ∃ Nx : Hp → Prop, (∀ H', Nx H' → ∃ m', m' < m ∧ W (i + 1) m' H') ∧ ∀ x H', J.yld i H x H' → g x (wipe σ vs) H' fun σ2 H2 => wipe σ2 vs = wipe σ vs ∧ tt σ2 H2 fun b H3 =>
    if b = true then te σ2 H3 fun y H4 => ∃ acc, H4 D = some (.lst acc) ∧ acc.length < sizeLine ∧ Nx (upd H4 D (.lst (acc ++ [y]))) else Nx H3)
section
variable {K : PySem.W.Frag} {J : It} {n : Nat} {G : Hp → Prop} {Y : Nat → Hp → V → Hp → Prop} {g : TG} {tt : TT} {te : TE} {tb : TS} {D : Ends} {vs : List Nat} {σ : L2.St} {H1 H : Hp} {Q : VK} {wi : TI} {tx : TA} {R : It → Hp → Prop}
theorem fors (h : wi σ H fun J H1 => ForG J g tb D σ H1) : tFor wi g tb D σ H := h
theorem lc (h : wi σ H fun J H1 => LcG J g tt te vs σ H1 Q) : tLc wi g tt te vs σ H Q := h
theorem yes {QB : Bool → Hp → Prop} (h : QB true H) : tYes σ H QB := h
theorem ilist (h : te σ H fun x H1 => ∃ a, x = .ref a ∧ (∃ xs, SqL K H1 a xs) ∧ R (Itl K a) H1) : iList K te σ H R := h
theorem ilistV {a : Addr} {xs : List V} {S : Addr → Prop} (hx : SqL K H a xs) (h : S a) : ∃ b, V.ref a = .ref b ∧ (∃ xs, SqL K H b xs) ∧ S b := ⟨a, rfl, ⟨xs, hx⟩, h⟩
theorem itup (h : te σ H fun x H1 => ∃ a, x = .ref a ∧ (∃ xs, SqT K H1 a xs) ∧ R (Itt K a) H1) : iTup K te σ H R := h
theorem itupV {a : Addr} {xs : List V} {S : Addr → Prop} (hx : SqT K H a xs) (h : S a) : ∃ b, V.ref a = .ref b ∧ (∃ xs, SqT K H b xs) ∧ S b := ⟨a, rfl, ⟨xs, hx⟩, h⟩
theorem irng1 (h : tx σ H fun vs H1 => ∃ j : Int, vs = [.int j] ∧ -(2 ^ 62) ≤ j ∧ j < 2 ^ 62 ∧ R (Itr 0 j.toNat) H1) : iRng1 tx σ H R := h
theorem irng1V {j : Int} {S : Int → Prop} (h1 : -(2 ^ 62) ≤ j) (h2 : j < 2 ^ 62) (h : S j) : ∃ k : Int, [V.int j] = [.int k] ∧ -(2 ^ 62) ≤ k ∧ k < 2 ^ 62 ∧ S k := ⟨j, rfl, h1, h2, h⟩
theorem irng2 (h : tx σ H fun vs H1 => ∃ i j : Int, vs = [.int i, .int j] ∧ (-(2 ^ 62) ≤ i ∧ i < 2 ^ 62 ∧ -(2 ^ 62) ≤ j ∧ j < 2 ^ 62) ∧ R (Itr i (j - i).toNat) H1) : iRng2 tx σ H R := h
theorem irng2V {i j : Int} {S : Int → Int → Prop} (h1 : -(2 ^ 62) ≤ i ∧ i < 2 ^ 62 ∧ -(2 ^ 62) ≤ j ∧ j < 2 ^ 62) (h : S i j) : ∃ a b : Int, [V.int i, V.int j] = [.int a, .int b] ∧ (-(2 ^ 62) ≤ a ∧ a < 2 ^ 62 ∧ -(2 ^ 62) ≤ b ∧ b < 2 ^ 62) ∧ S a b := ⟨i, j, rfl, h1, h⟩
theorem ienum (h : tx σ H fun vs H1 => ∃ a xs, vs = [.ref a] ∧ SqL K H1 a xs ∧ R (Ite K a) H1) : iEnum K tx σ H R := h
theorem ienumV {a : Addr} {xs : List V} {S : Addr → Prop} (hx : SqL K H a xs) (h : S a) : ∃ b ys, [V.ref a] = [.ref b] ∧ SqL K H b ys ∧ S b := ⟨a, xs, rfl, hx, h⟩
theorem izip (h : tx σ H fun vs H1 => ∃ a b xs ys, vs = [.ref a, .ref b] ∧ SqL K H1 a xs ∧ SqL K H1 b ys ∧ R (Itz K a b) H1) : iZip K tx σ H R := h
theorem izipV {a b : Addr} {xs ys : List V} {S : Addr → Addr → Prop} (hx : SqL K H a xs) (hy : SqL K H b ys) (h : S a b) : ∃ c d xs ys, [V.ref a, V.ref b] = [.ref c, .ref d] ∧ SqL K H c xs ∧ SqL K H d ys ∧ S c d := ⟨a, b, xs, ys, rfl, hx, hy, h⟩
theorem istr (h : te σ H fun v H1 => ∃ x, v = .str x ∧ R (Its x) H1) : iStr te σ H R := h
theorem istrV {z : Str} {S : Str → Prop} (h : S z) : ∃ x, V.str z = .str x ∧ S x := ⟨z, rfl, h⟩
theorem forW (w : Walk J n G Y) (Pv : Nat → L2.St → Hp → Prop) (h0 : Pv 0 σ H) (hG : ∀ i σ H, i ≤ n → Pv i σ H → G H)
    (hs : ∀ i x σ H H', i < n → Pv i σ H → Y i H x H' → g x σ H' fun σ2 H2 => tb { D with nx := Pv (i + 1), ct := Pv (i + 1), bk := D.nx } σ2 H2) (hd : ∀ σ H, Pv n σ H → D.nx σ H) : ForG J g tb D σ H := for_it w Pv h0 hG hs hd
theorem lcW (w : Walk J n G Y) (hn : n ≤ 16777216)
    (h : ∀ D H2, H1 D = none → Same H1 H2 → H2 D = some (.lst []) → ∃ Pv : Nat → List V → Hp → Prop, Pv 0 [] H2 ∧ (∀ i acc H, i ≤ n → Pv i acc H → G H) ∧
      (∀ i x acc H H' (Z : VK) (N : Hp → Prop), i < n → Pv i acc H → H D = some (.lst acc) → Y i H x H' →
        (∀ y H4, H4 D = some (.lst acc) → (∀ H5, KB D H4 H5 → H5 D = some (.lst (acc ++ [y])) → Pv (i + 1) (acc ++ [y]) H5) → Z y H4) → (∀ H4, H4 D = some (.lst acc) → Pv (i + 1) acc H4 → N H4) →
        g x (wipe σ vs) H' fun σ2 H2 => wipe σ2 vs = wipe σ vs ∧ tt σ2 H2 fun b H3 => if b = true then te σ2 H3 Z else N H3) ∧
      (∀ acc H, Pv n acc H → H D = some (.lst acc) → Q (.ref D) H)) : LcG J g tt te vs σ H1 Q := by
  intro D hD
  obtain ⟨Pv, p0, pG, ps, pd⟩ := h D (upd H1 D (.lst [])) hD (same_new hD) upd_same
  refine lc_it w (fun i H => ∃ acc, acc.length ≤ i ∧ H D = some (.lst acc) ∧ Pv i acc H) ⟨[], Nat.le_refl _, upd_same, p0⟩ (fun i H hi ⟨acc, _, _, p⟩ => pG i acc H hi p) (fun i x H H' hi ⟨acc, hl, hD', p⟩ hy => ?_) (fun H ⟨acc, _, hD', p⟩ => pd acc H p hD')
  refine ps i x acc H H' _ _ hi p hD' hy (fun y H4 h4 h5 => ⟨acc, h4, by rw [sizeLine_eq]; omega, acc ++ [y], by rw [List.length_append]; simp; omega, upd_same, h5 _ kb_upd upd_same⟩) (fun H4 h4 h5 => ⟨acc, by omega, h4, h5⟩)
/-- pairs laid anew, the heap told by what it holds -/
def YP (xs ys : Nat → Option V) : Nat → Hp → V → Hp → Prop := fun i H v H' => ∃ T x y, v = .ref T ∧ H T = none ∧ Same H H' ∧ H' T = some (.tup [x, y]) ∧ xs i = some x ∧ ys i = some y
theorem yp {xs ys : Nat → Option V} {i : Nat} {H : Hp} {v : V} {H' : Hp} (h : YPair xs ys i H v H') : YP xs ys i H v H' := by
  obtain ⟨T, x, y, rfl, hT, rfl, h1, h2⟩ := h
  exact ⟨T, x, y, rfl, hT, same_new hT, upd_same, h1, h2⟩
theorem w_enum {a : Addr} {xs : List V} : Walk (Ite K a) xs.length (fun H => SqL K H a xs) (YP (fun i => some (.int (i : Nat))) (fun i => xs[i]?)) := walk_enum.mono (fun _ h => h) fun _ _ _ _ _ _ y => yp y
theorem w_zip {a b : Addr} {xs ys : List V} {n : Nat} (hn : n = min xs.length ys.length) : Walk (Itz K a b) n (fun H => SqL K H a xs ∧ SqL K H b ys) (YP (fun i => xs[i]?) (fun i => ys[i]?)) := (walk_zip hn).mono (fun _ h => h) fun _ _ _ _ _ _ y => yp y
/-- a comprehension that only makes: every item comes to what fs says (none: left out) -/
theorem lcF {fs0 : List V} (w : Walk J n G (YAt fs0)) (hn : n ≤ 16777216) (os : Nat → Option V) (hG : ∀ H', Same H1 H' → G H')
    (hs : ∀ i x H' (Z : VK) (N : Hp → Prop), i < n → fs0[i]? = some x → Same H1 H' → (∀ y H4, os i = some y → Same H' H4 → Z y H4) → (∀ H4, os i = none → Same H' H4 → N H4) →
        g x (wipe σ vs) H' fun σ2 H2 => wipe σ2 vs = wipe σ vs ∧ tt σ2 H2 fun b H3 => if b = true then te σ2 H3 Z else N H3)
    (hd : ∀ D H', H1 D = none → Same H1 H' → H' D = some (.lst ((List.range n).filterMap os)) → Q (.ref D) H') : LcG J g tt te vs σ H1 Q := by
  refine lcW w hn fun D H2 hD hs2 hv => ⟨fun i acc H => Same H1 H ∧ acc = (List.range i).filterMap os, ⟨hs2, rfl⟩, fun i acc H _ p => hG H p.1, fun i x acc H H' Z N hi p hDa hy hZ hN => ?_, fun acc H p hDa => hd D H hD p.1 (by rw [hDa, p.2])⟩
  obtain ⟨rfl, hx⟩ := hy
  refine hs i x H' Z N hi hx p.1 (fun y H4 e s4 => hZ y H4 (s4 _ _ hDa) fun H5 k5 h5 => ⟨?_, ?_⟩) (fun H4 e s4 => hN H4 (s4 _ _ hDa) ⟨p.1.trans s4, ?_⟩)
  · exact same_mut k5 (p.1.trans s4) hD
  · rw [List.range_succ, List.filterMap_append, ← p.2]
    simp [e]
  · rw [List.range_succ, List.filterMap_append, ← p.2]
    simp [e]
/-- the same over pairs laid anew -/
theorem lcP {fx fy : Nat → Option V} (w : Walk J n G (YP fx fy)) (hn : n ≤ 16777216) (os : Nat → Option V) (hG : ∀ H', Same H1 H' → G H')
    (hs : ∀ i T x y H' (Z : VK) (N : Hp → Prop), i < n → fx i = some x → fy i = some y → Same H1 H' → H' T = some (.tup [x, y]) → (∀ y H4, os i = some y → Same H' H4 → Z y H4) → (∀ H4, os i = none → Same H' H4 → N H4) →
        g (.ref T) (wipe σ vs) H' fun σ2 H2 => wipe σ2 vs = wipe σ vs ∧ tt σ2 H2 fun b H3 => if b = true then te σ2 H3 Z else N H3)
    (hd : ∀ D H', H1 D = none → Same H1 H' → H' D = some (.lst ((List.range n).filterMap os)) → Q (.ref D) H') : LcG J g tt te vs σ H1 Q := by
  refine lcW w hn fun D H2 hD hs2 hv => ⟨fun i acc H => Same H1 H ∧ acc = (List.range i).filterMap os, ⟨hs2, rfl⟩, fun i acc H _ p => hG H p.1, fun i x acc H H' Z N hi p hDa hy hZ hN => ?_, fun acc H p hDa => hd D H hD p.1 (by rw [hDa, p.2])⟩
  obtain ⟨T, x1, y1, rfl, hT, s3, h3, hx, hy⟩ := hy
  refine hs i T x1 y1 H' Z N hi hx hy (p.1.trans s3) h3 (fun y H4 e s4 => hZ y H4 (s4 _ _ (s3 _ _ hDa)) fun H5 k5 h5 => ⟨?_, ?_⟩) (fun H4 e s4 => hN H4 (s4 _ _ (s3 _ _ hDa)) ⟨(p.1.trans s3).trans s4, ?_⟩)
  · exact same_mut k5 ((p.1.trans s3).trans s4) hD
  · rw [List.range_succ, List.filterMap_append, ← p.2]
    simp [e]
  · rw [List.range_succ, List.filterMap_append, ← p.2]
    simp [e]
end
theorem range_get {α β : Type} (f : α → β) : ∀ l : List α, (List.range l.length).filterMap (fun i => (l[i]?).map f) = l.map f
  | [] => rfl
  | a :: l => by
    have ih := range_get f l
    rw [List.length_cons, List.range_succ_eq_map, List.filterMap_cons]
    simp only [List.getElem?_cons_zero, Option.map_some, List.filterMap_map, List.map_cons]
    rw [← ih]
    rfl
end RD

/-! an own exception whose __init__ is super().__init__(x); self.f = x -/
namespace SPX
open PySem PySem.Spec PyProof.Rows L2 NdefX PySem.W

section
variable {prog : Program} {w : World} {A : Around} {E : Value → Shared → Prop} {h : Heap} {g : Array GenState} {d : Drawn} {t : Nat} {os : OsState}
variable {nm q : Str} {C N : Addr} {bs bm : List Value} {hdct : Bool} {sn : List Str} {sub : List Value} {ab : Bool} {col : Option Bool} {dd : Option Addr} {k0 k1 k2 k3 k5 : Option Value}
/-- the bound ValueError.__init__ called -/
theorem call_mw {u e t0 : Addr} {rest : List Value} {Q : Value → Shared → Prop}
    (hC : h.get? C = some (excClassObj nm q C N bs bm hdct sn sub ab col dd k0 k1 k2 k3 k5 "ValueError.__new__")) (he : h.get? e = some (HandSPX.excO C t0)) (hu : h.get? u = some (kxs_mw "ValueError.__init__" e)) (hrest : rest.length ≤ sizeLine)
    (hq : ∀ h' t1, (∀ b o, b ≠ e → h.get? b = some o → h'.get? b = some o) → h'.get? e = some (HandSPX.excO C t1) → Q .none ⟨h', g, d, t, os⟩) :
    wpAny (model prog w) A (call (.ref u) rest) Q E ⟨h, g, d, t, os⟩ := by
  refine wpAny_call (codeAny_of_tree ?_)
  show wpAny _ A.in1 (callAny (.ref u) ⟨rest, []⟩) _ _ _
  simp only [callAny]
  refine wpAny_bind (wpAny_load hu ?_)
  simp only [kxs_mw, show (Value.type "method-wrapper" == Value.type "method" || Value.type "method-wrapper" == Value.type "builtin_function_or_method" || Value.type "method-wrapper" == Value.type "method-wrapper") = true by decide, if_true]
  refine W.KFB.if_so (by decide) ?_
  refine wpAny_bind (check_bound_init F.excBase_ValueError.toExcCallFacts hC he rfl ?_)
  refine wpAny_bind (wpAny_pure (wpAny_pure ?_))
  refine ⟨plainId_quiet F.excBase_ValueError.init.plain _, codeAny_builtin F.excBase_ValueError.initEntry ?_⟩
  rw [Around.under_plainId F.excBase_ValueError.init.plain _]
  wp_walk
  refine hq _ h.objs.size (fun b o hb ho => ?_) ?_
  · rw [Heap.get?_update_other _ _ (Ne.symm hb)]
    exact Heap.get?_push_of_some _ ho
  · rw [Heap.get?_update_self _ (Heap.get?_push_of_some _ he) rfl]
    rfl
end

/-- what is known of such a class and its __init__ -/
structure SiC (P : Program) (K : PySem.W.Frag) (mg : Str → Option Value) (st : Stmt) (qual fld prm : Str) (D f : Addr) (fd : FuncData) : Prop where
  oex : OexC K D
  sc : NScope ["self", prm, "__class__"] ["self", prm] ["__class__"] (defScope st)
  sup : (defScope st).names.lookup ("super" : Str) = some .globalImplicit
  body : ∃ p0 p1 p2 p3 p4 p5 p6 p7 p8 p9, defBody st = [.Expr (.Call (.Attribute (.Call (.Name "super" p0) [] [] p1) "__init__" p2) [.Name prm p3] [] p4) p5, .Assign [.Attribute (.Name "self" p6) fld p7] (.Name prm p8) p9] ∧
    ∃ pl : Sem Bool, ∀ (L f cda cc : Addr), eval (.Call (.Attribute (.Call (.Name "super" p0) [] [] p1) "__init__" p2) [.Name prm p3] [] p4) (PySem.W.envX qual (defScope st) L f (.ref cda) [("__class__", cc)]) = (do
      let ov ← attributeBase (.Call (.Name "super" p0) [] [] p1) "__init__" (PySem.W.envX qual (defScope st) L f (.ref cda) [("__class__", cc)]) (eval (.Call (.Name "super" p0) [] [] p1) (PySem.W.envX qual (defScope st) L f (.ref cda) [("__class__", cc)]))
      standAt p2.atName
      let (f', first) ← holding [ov] (getMethod ov "__init__" pl)
      callWith p4 f' first (backTo p4 (starEach [.Name prm p3] (PySem.W.envX qual (defScope st) L f (.ref cda) [("__class__", cc)]))) [])
  head : ((defArgs st).posonlyargs ++ (defArgs st).args).head?.map (·.arg) = some "self"
  fdI : ∃ oc od osl kV doc pm an cda cc ct ccl cdd vs ccs file tf cl cld csl, fd = PySem.W.fnX "__init__" qual (defArgs st) (defBody st) (defScope st) [("__class__", cc)] .none kV doc pm an (.ref cda) ct ∧
    K.lookup f = some ⟨oc, od, .func fd, osl⟩ ∧ PySem.W.codeIn K (.ref cda) qual = true ∧ K.lookup cda = some ⟨ccl, cdd, .fields vs, ccs⟩ ∧ vs[2]? = some (.str file tf) ∧ ((P.main.file : Str) == file) = true ∧
    K.lookup cc = some ⟨cl, cld, .cell (some (.ref D)), csl⟩
  cls : (PySem.W.clsIn K D).isSome = true
  sub : PySem.W.mroIn K D (.ref D) = some true
  subV : PySem.W.subIn K (.ref D) (.type "ValueError") = some true
  top : (P.main.scope.names.lookup ("super" : Str)).isSome = false
  opq : PySem.W.nsIn K cStatics "thirdparty.any" = some none
  sin : PySem.W.ks_superIn K D D "__init__" = some (some (.builtin "ValueError.__init__"))
  nos : mg "super" = none
  hno : PySem.W.findIn K (.ref D) fld = some none
  nd : (prm == ("__debug__" : Str)) = false
  nc : (prm == ("__classdict__" : Str)) = false

def spSi (D : Addr) (fld : Str) : Sp := fun vs H Q _ => ∃ (a : Addr) (v : V), vs = [.ref a, v] ∧ H a = some (exo a D none) ∧ ∀ d, H d = none → d ≠ a → Q .non (upd (upd H d (exd d [(fld, v)])) a (exo a D (some d)))

section
variable {P : Program} {w : World} {K : PySem.W.Frag} {mg : Str → Option Value} {base : Heap} {CX : CXT}
theorem si_ok {st : Stmt} {qual fld prm : Str} {D f : Addr} {fd : FuncData} {k : Nat} (T : SiC P K mg st qual fld prm D f fd) : FnOk P w K mg base CX (k + 1) f fd ["self", prm] (spSi D fld) := by
  refine ⟨fun vs H Q E h => by obtain ⟨a, v, rfl, _⟩ := h; rfl, fun A outer s H args us vs Q E hr e0 hb r hsp => ?_⟩
  obtain ⟨a, v, rfl, ha, q⟩ := hsp
  obtain ⟨p0, p1, p2, p3, p4, p5, p6, p7, p8, p9, hbody, pl, hev⟩ := T.body
  obtain ⟨oc, od, osl, kV, doc, pm, an, cda, cc, ct, ccl, cdd, cvs, ccs, file, tf, cl, cld, csl, rfl, lk, hcd, hcode, hvs, hfile, hcell⟩ := T.fdI
  have KX : K.In s.heap := e0.mod.kin.keeps fun b o e => (e0.bs b o e).1
  have lim : s.heap.NoLimit := e0.mod.nolimit.keeps fun b o e => (e0.bs b o e).1
  have hlen : (["self", prm] : List Str).length = us.length := by rw [← r.length]; rfl
  have S := T.sc
  refine ks_codeAny_call_defAt (fd := PySem.W.fnX "__init__" qual (defArgs st) (defBody st) (defScope st) [("__class__", cc)] .none kV doc pm an (.ref cda) ct) (body := defBody st) (binds := (["self", prm] : List Str).zip us) hr.depth (KX _ _ lk) rfl lim (PySem.W.codeRec_of KX hcd) rfl hb S.nocell (fun ⟨n, _⟩ hy => S.par n (List.of_mem_zip hy).1) (fun h₁ hns kp => ?_) S.co S.gen S.kind
  let F : NF := ⟨"__init__", qual, defArgs st, defBody st, defScope st, [("__class__", cc)], cda⟩
  show _root_.PySem.wpAt (model P w) (A.deeper (envF F f s.heap.objs.size)) (.func (defBody st) (envF F f s.heap.objs.size)) (execs (defBody st) (envF F f s.heap.objs.size)) _ _ _
  have hbc := e0.bs cc _ (e0.mod.kin _ _ hcell)
  have C : CellsAt F.cl ["__class__"] [some (.ref D)] s.heap H := by
    have look : ∀ y c, F.cl.lookup y = some c → c = cc := fun y c e => by
      have e' : List.lookup y [(("__class__" : Str), cc)] = some c := e
      simp only [List.lookup] at e'
      split at e' <;> simp at e' <;> exact e'.symm
    refine ⟨rfl, fun y c e => ?_, fun x y c e1 e2 => ?_, fun i y e => ?_⟩
    · rw [look y c e]
      exact ⟨hbc.2, _, _, hbc.1, rfl⟩
    · have key : ∀ z, List.lookup z [(("__class__" : Str), cc)] = some c → z = ("__class__" : Str) := fun z e' => by
        simp only [List.lookup] at e'
        split at e'
        · rename_i hz
          exact beq_iff_eq.mp hz
        · cases e'
      rw [key x e1, key y e2]
    · cases i with
      | zero =>
        simp at e
        subst e
        refine ⟨cc, by show List.lookup ("__class__" : Str) [(("__class__" : Str), cc)] = some cc; simp [List.lookup], fun v' hv' => ?_⟩
        simp at hv'
        subst hv'
        exact ⟨.ref D, rfl, _, hbc.1, rfl⟩
      | succ i => simp at e
  have I : Inv (ncx CX P w K mg base ["self", prm, "__class__"] F f A outer s H E) [] (startF ["self", prm, "__class__"] [.ref a, v] [some (.ref D)]) H { s with heap := h₁, toks := s.toks + ((["self", prm] : List Str).zip us).length } :=
    inv_startN S hr.hd e0 rfl r C hns kp
  generalize hs1 : ({ s with heap := h₁, toks := s.toks + ((["self", prm] : List Str).zip us).length } : Shared) = s1 at I ⊢
  have kloc : ∀ x ∈ (["self", prm] : List Str), (defScope st).names.lookup x = some .local := S.par
  have vis0 : Vis (ncx CX P w K mg base ["self", prm, "__class__"] F f A outer s H E).env.scope "self" := .inl (kloc "self" (by simp))
  have vis1 : Vis (ncx CX P w K mg base ["self", prm, "__class__"] F f A outer s H E).env.scope prm := .inl (kloc prm (by simp))
  have hσ : startF ["self", prm, "__class__"] [.ref a, v] [some (.ref D)] = [some (.ref a), some v, some (.ref D)] := rfl
  rw [hσ] at I
  have h0 : (ncx CX P w K mg base ["self", prm, "__class__"] F f A outer s H E).N[0]? = some ("self" : Str) := rfl
  have h1 : (ncx CX P w K mg base ["self", prm, "__class__"] F f A outer s H E).N[1]? = some prm := rfl
  obtain ⟨ar, har, hself⟩ : ∃ ar, ((defArgs st).posonlyargs ++ (defArgs st).args).head? = some ar ∧ ar.arg = ("self" : Str) := by
    have z := T.head
    cases e : ((defArgs st).posonlyargs ++ (defArgs st).args).head? with
    | none => rw [e] at z; cases z
    | some ar => rw [e] at z; exact ⟨ar, rfl, Option.some.inj z⟩
  obtain ⟨cdD, hclsD⟩ := Option.isSome_iff_exists.mp T.cls
  obtain ⟨nm, qn, Nn, bs, bm, sn, sub, ab, col, dd, k0, k1, k2, k3, k5, hC0, hbm⟩ := T.oex.cls
  have hkc : (envF F f s.heap.objs.size).kindOf "__class__" = some .free := S.frk "__class__" (by simp)
  have hcl1 : (envF F f s.heap.objs.size).cells.lookup ("__class__" : Str) = some cc := by show List.lookup ("__class__" : Str) [(("__class__" : Str), cc)] = some cc; simp [List.lookup]
  have I0 := I
  clear hs1
  obtain ⟨hh, g, dr, tk, os1⟩ := s1
  obtain ⟨oD, hD1, hD2⟩ : ∃ oD, hh.get? D = some oD ∧ oD.data = .cls cdD := by
    unfold PySem.W.clsIn at hclsD
    split at hclsD
    · rename_i c d cd' sl ho
      cases hclsD
      exact ⟨_, I.kIn _ _ ho, rfl⟩
    · cases hclsD
  rw [show execs (defBody st) (envF F f s.heap.objs.size) = execs [.Expr (.Call (.Attribute (.Call (.Name "super" p0) [] [] p1) "__init__" p2) [.Name prm p3] [] p4) p5, .Assign [.Attribute (.Name "self" p6) fld p7] (.Name prm p8) p9] (envF F f s.heap.objs.size) from by rw [hbody]]
  have hint : interactive (envF F f s.heap.objs.size) = false := by
    unfold interactive
    rw [show (envF F f s.heap.objs.size).scope.kind = .function from S.kind]
    rfl
  refine ks_wpAt_execs_cons (ks_wpAt_Expr_any (ks_wpAt_MethodCall (pl := pl) ?_ (hev _ _ _ _)) (hi := hint))
  refine ks_wpAt_super_base (fd := PySem.W.fnX "__init__" qual (defArgs st) (defBody st) (defScope st) [("__class__", cc)] .none kV doc pm an (.ref cda) ct) (ar := ar) T.sup hkc (by decide) rfl (I.kIn _ _ lk) rfl har rfl (I.kIn _ _ hcode) rfl hvs hfile T.top ?_
  obtain ⟨mb, hb1, hb2⟩ := I.mod.blt
  refine ks_loadName_global S.kind T.sup (Calls.loadGlobal_builtin (I.mod.glob.keeps I.bk) T.nos (hb1.keeps I.bk) ((hb2 "super" (by decide)).trans (by decide +kernel)) ⟨rfl, ?_⟩)
  refine wpAny_loadName_free S.kind hkc hcl1 ⟨_, I.kIn _ _ hcell, rfl⟩ ?_
  obtain ⟨m, hn, hl⟩ := I.loc
  obtain ⟨u0, ru0, lk0⟩ := hl 0 "self" (.ref a) h0 rfl vis0
  obtain rfl : u0 = Value.ref a := ru0
  have hm0 : m "self" = some (.ref a) := by
    rcases lk0 with ⟨_, e⟩ | ⟨kk, _⟩
    · exact e
    · have kk : (defScope st).names.lookup ("self" : Str) = some .cell ∨ (defScope st).names.lookup ("self" : Str) = some .free := kk
      rw [kloc "self" (by simp)] at kk
      rcases kk with kk | kk <;> cases kk
  rw [hself]
  refine wpAny_loadName_local S.kind (kloc "self" (by simp)) hn hm0 ?_
  refine ks_wpAny_isType_cls hD1 hD2 ⟨rfl, ?_⟩
  obtain ⟨t1, hx⟩ := exo_at I.hok ha
  refine ks_wpAny_call_super hD1 hD2 hx rfl (fun c e => nomatch e) (PySem.W.looks_mroIn I.kIn T.sub) (fun h' e k => ?_)
  have I2 : Inv (ncx CX P w K mg base ["self", prm, "__class__"] F f A outer s H E) [] [some (.ref a), some v, some (.ref D)] H ⟨h', g, dr, tk, os1⟩ := I.kept (h' := h') (t' := tk) k
  have hx2 : h'.get? a = some ({ cls := .ref D, dict := none, data := .fields #[.ref t1, .none, .none, .none, .bool false, .none] } : Obj) := k _ _ hx
  have IA : PySem.W.InstAt h' a ({ cls := .ref D, dict := none, data := .fields #[.ref t1, .none, .none, .none, .bool false, .none] } : Obj) D none := ⟨hx2, rfl, rfl, trivial⟩
  have hsin := T.sin
  unfold PySem.W.ks_superIn at hsin
  rw [hclsD] at hsin
  refine kxs_getMethod kxs_ValueError e (looks_opaque I2.kIn T.opq) (l₀ := cdD.mro) (fun A Q E s k q => wpAny_bind ((PySem.W.looks_clsIn I2.kIn hclsD) A _ E s k (wpAny_pure q))) rfl I2.kIn hsin (IA.type.andThen (PySem.W.looks_subIn I2.kIn T.subV)) (PySem.W.ks_ne I2.kIn IA hclsD) (by decide) ?_
  have kp3 : ∀ b u, h'.get? b = some u → (h'.push (kxs_mw "ValueError.__init__" a)).get? b = some u := fun b u z => Heap.get?_push_of_some _ z
  have I3 : Inv (ncx CX P w K mg base ["self", prm, "__class__"] F f A outer s H E) [] [some (.ref a), some v, some (.ref D)] H ⟨h'.push (kxs_mw "ValueError.__init__" a), g, dr, tk + 1, os1⟩ := I2.kept (h' := h'.push (kxs_mw "ValueError.__init__" a)) (t' := tk + 1) kp3
  have hu3 : (h'.push (kxs_mw "ValueError.__init__" a)).get? h'.objs.size = some (kxs_mw "ValueError.__init__" a) := Heap.get?_push_at rfl rfl
  have I3p : Inv (ncx CX P w K mg base ["self", prm, "__class__"] F f A outer s H E) [(h'.objs.size, kxs_mw "ValueError.__init__" a)] [some (.ref a), some v, some (.ref D)] H ⟨h'.push (kxs_mw "ValueError.__init__" a), g, dr, tk + 1, os1⟩ :=
    I3.pins_of fun p hp => by
      obtain rfl := List.mem_singleton.mp hp
      exact ⟨hu3, I2.hok.fresh (Nat.le_refl _), Nat.ne_of_gt I2.lt, I2.nofs (Nat.le_refl _), fun v z => nomatch z⟩
  show wpAny _ _ (callWith p4 (.ref h'.objs.size) [] (backTo p4 (starEach [.Name prm p3] (envF F f s.heap.objs.size))) []) _ _ _
  rw [show starEach [Expr.Name prm p3] (envF F f s.heap.objs.size) = (false, eval (.Name prm p3) (envF F f s.heap.objs.size)) :: starEach [] (envF F f s.heap.objs.size) from rfl]
  refine PySem.W.kxs_callWith (i := "ValueError.__init__") (x := a) rfl ?_
  refine Calls.evalArgs_plain ?_
  refine thn ((pa_cons (X := ncx CX P w K mg base ["self", prm, "__class__"] F f A outer s H E) (pe_var h1 vis1 T.nd T.nc) pa_nil).run p4 _ _ _ _ (fun vs H2 => vs = [v] ∧ H2 = H) I3p ⟨v, rfl, rfl, rfl⟩) fun us2 s2 hh2 => ?_
  obtain ⟨vs2, H2, I4, r4, rfl, rfl⟩ := hh2
  obtain ⟨hu4, _⟩ := I4.pin (h'.objs.size, kxs_mw "ValueError.__init__" a) (List.mem_append_right _ (List.mem_singleton.mpr rfl))
  refine ⟨hu4, ?_⟩
  obtain ⟨t4, hx4⟩ := exo_at I4.hok ha
  obtain ⟨hh4, g4, dr4, tk4, os4⟩ := s2
  have hl4 : us2.length ≤ sizeLine := by
    rw [← r4.length, sizeLine_eq]
    show 1 ≤ _
    omega
  refine call_mw (I4.kIn _ _ hC0) hx4 hu4 hl4 fun h5 t5 k5 hx5 => ?_
  have J := I4.write (t' := tk4) (x := a) (e := a) (o := exo a D none) (by rw [ha]; exact True.intro) (.inl rfl) k5 ⟨_, hx5⟩ (exo_ok hx5)
  have eu : upd H2 a (exo a D none) = H2 := by
    funext b
    by_cases hb : b = a
    · rw [hb, upd_same, ha]
    · rw [upd_ne hb]
  rw [eu] at J
  have J0 := J.pins_of (pins' := []) fun p hp => absurd hp (by simp)
  show _root_.PySem.wpAt _ _ _ (execs [.Assign [.Attribute (.Name "self" p6) fld p7] (.Name prm p8) p9] (envF F f s.heap.objs.size)) _ _ _
  refine _root_.PySem.wpAt_of_wpAny ?_
  refine wpAny_mono ((pss_one (ps_ost (X := ncx CX P w K mg base ["self", prm, "__class__"] F f A outer s H2 E) (f := fld) (pe_var h0 vis0) (pe_var h1 vis1 T.nd T.nc))).run [] _ _ _ { nx := fun _ H' => Q .non H', rt := Q } J0 ⟨v, rfl, .ref a, rfl, a, D, rfl, T.oex, T.hno, .inl ⟨ha, fun dx n ne => q dx n ne⟩⟩) (fun fl s' hs => ?_) fun e s' hs => hs
  cases fl with
  | ret u =>
    obtain ⟨v', σ', H', J', rv, q'⟩ := hs
    exact ⟨v', H', J'.os, J'.bare, J'.base, J'.hok, rv, q'⟩
  | next =>
    obtain ⟨σ', H', J', q'⟩ := hs
    exact ⟨V.non, H', J'.os, J'.bare, J'.base, J'.hok, rfl, q'⟩
  | brk =>
    obtain ⟨_, _, _, q'⟩ := hs
    exact False.elim q'
  | cont =>
    obtain ⟨_, _, _, q'⟩ := hs
    exact False.elim q'
end

/-! ### exceptions held as values -/
/-- isinstance(e, c), e an exception that the heap tracks -/
def rIsO (K : PySem.W.Frag) : List V → Hp → VK → Prop := fun xs H Q => ∃ (a D : Addr) (d : Option Addr) (c : V) (cv : Value) (b : Bool), xs = [.ref a, c] ∧ H a = some (exo a D d) ∧ (∀ dx, d = some dx → ∃ fs, H dx = some (exd dx fs)) ∧ ExcC K D ∧ ClsV c cv ∧ PySem.W.kitOne K (.ref D) cv = some b ∧ Q (.bl b) H
theorem call_isO {X : Cx} : CallR X (.builtin "isinstance") (rIsO X.K) := by
  intro pins s σ H xs us Q I r h
  obtain ⟨a, D, d, c, cv, b, rfl, ha, hd, C, hcv, e, q⟩ := h
  cases r with
  | cons rx rr =>
    cases rr with
    | cons rt rr =>
      cases rr
      cases rx
      have ec := hcv.eq rt
      subst ec
      obtain ⟨t1, ho⟩ := exo_at I.hok ha
      have hcl : (PySem.W.clsIn X.K D).isSome = true := by
        obtain ⟨cd, hc, _⟩ := PySem.W.any_some C.hd
        rw [hc]
        rfl
      cases d with
      | none =>
        have J : PySem.W.InstAt s.heap a ({ cls := .ref D, dict := none, data := .fields #[.ref t1, .none, .none, .none, .bool false, .none] } : Obj) D none := ⟨ho, rfl, rfl, trivial⟩
        exact PySem.W.kia_one (PySem.W.kitx_exc hcl C.hg C.hk C.hs C.ha C.hn C.ht C.hm) I.kIn J e (fun z => nomatch z) fun tk => ⟨.bl b, H, I.tok tk, rfl, q⟩
      | some dx =>
        obtain ⟨fs, hdx⟩ := hd dx rfl
        obtain ⟨mA, hns, rel⟩ := exd_at I.hok hdx
        obtain ⟨oD, _, _, hoD, _⟩ := hns
        have J : PySem.W.InstAt s.heap a ({ cls := .ref D, dict := some dx, data := .fields #[.ref t1, .none, .none, .none, .bool false, .none] } : Obj) D (some oD) := ⟨ho, rfl, rfl, hoD⟩
        exact PySem.W.kia_one (PySem.W.kitx_exc hcl C.hg C.hk C.hs C.ha C.hn C.ht C.hm) I.kIn J e (fun z => nomatch z) fun tk => ⟨.bl b, H, I.tok tk, rfl, q⟩
/-- X(), an own exception class without own __init__ -/
def tExo0 (C : Addr) : TE := fun _ H Q => ∀ a, H a = none → Q (.ref a) (upd H a (exo a C none))
section
variable {X : Cx} {CX : CXT} {C f : Addr} {x n : Str} {e : Expr} {es : List Expr} {te : TE} {ta : TA} {p pos : Pos} {sp : Sp} {dvs : List V} {ds : List Value} {k : Nat} {fd : FuncData} {ps : List Str}
theorem pe_exo0 (q : PySem.W.excIn X.K C [.type "ValueError", .type "Exception", .type "BaseException", .type "object"] "ValueError.__new__" = true) (gC : X.mg x = some (.ref C)) (kC : PySem.W.keepIn X.K (.ref C) = true) (hg : Gl X x) (hdb : (x == ("__debug__" : Str)) = false := by decide) :
    PE X (.Call (.Name x p) [] [] pos) (tExo0 C) := by
  refine ⟨fun pins s σ H Q I h => ?_⟩
  refine wpAny_Call_Name_kw (ld_glob I hg gC ?_ hdb)
  refine PySem.W.callWith_K0 I.kIn kC ?_
  obtain ⟨bm, N, nm, qn, bs, hdct, sn, sub, ab, col, dd, k0, k1, k2, k3, k5, mN, hC, hN, hni, T⟩ := exc_obj I.kIn q
  show wpAny _ _ (call (.ref C) []) _ _ _
  refine wpAny_call_exc_subT F.excBase_ValueError T hC hN hni (fun h' a hm => ?_) (by show 0 ≤ sizeLine; exact Nat.zero_le _)
  have hn : H a = none := I.hok.gone hm.new
  obtain ⟨t, ht, _, _⟩ := hm.there
  exact ⟨.ref a, upd H a (exo a C none), I.laidN hm.keeps hm.new hn (exo_ok ht), rfl, h a hn⟩
/-- X(e, ..), its own __init__ keeping sp, as a value -/
def tMkV (C : Addr) (sp : Sp) (dvs : List V) (ta : TA) : TE := fun σ H Q => ta σ H fun vs H1 => vs.length ≤ 1000 ∧ ∀ a, H1 a = none → sp (.ref a :: (vs ++ dvs)) (upd H1 a (exo a C none)) (fun v H2 => v = .non ∧ Q (.ref a) H2) (fun _ _ _ => False)
theorem pe_mkV (T : OexC X.K C) (iC : PySem.W.findIn X.K (.ref C) "__init__" = some (some (.ref f))) (tI : PySem.W.typeIn X.K (.ref f) = some (.type "function"))
    (F1 : FnOk X.prog X.w X.K X.mg X.base CX k f fd ps sp) (hr : Room (k + 1) X.A) (hb : Binds X.K fd ps ds) (hd : Vals dvs ds) (hx : Passes CX X (fun _ _ _ => False)) (hg : Gl X x) (hm : X.mg x = some (.ref C)) (ha : PA X (e :: es) ta)
    (hdb : (x == ("__debug__" : Str)) = false := by decide) (he : starEach (e :: es) X.env = (false, eval e X.env) :: starEach es X.env := by rfl) (hpl : (backTo pos (starEach es X.env)).any (·.1) = false := by rfl) :
    PE X (.Call (.Name x p) (e :: es) [] pos) (tMkV C sp dvs ta) := by
  refine ⟨fun pins s σ H Q I h => ?_⟩
  obtain ⟨nm, q, N, bs, bm, sn, sub, ab, col, dd, k0, k1, k2, k3, k5, hC, hbm⟩ := T.cls
  refine wpAny_Call_Name_kw (ld_glob I hg hm ?_ hdb)
  refine PySem.W.callWith_K (h₀ := X.base) I.ok.mod.kin T.kC (thn (ha.run pos pins s σ H _ I h) fun us s1 ⟨vs, H1, I1, r1, hz, q1⟩ => ⟨I1.kIn, ?_⟩) he hpl
  show wpAny _ _ (call (.ref C) us) _ _ _
  obtain ⟨hp, g, dr, tk, os⟩ := s1
  have hsz : hp.objs.size ≤ hp.objs.size + 1 := Nat.le_succ _
  have hn : H1 (hp.objs.size + 1) = none := I1.hok.fresh hsz
  have hq := q1 (hp.objs.size + 1) hn
  have kk : ∀ b o, hp.get? b = some o → ((hp.push (PySem.W.kdv_tup us)).push (PySem.HandSPX.excO C hp.objs.size)).get? b = some o := fun b o e => Heap.get?_push_of_some _ (Heap.get?_push_of_some _ e)
  have hget : ((hp.push (PySem.W.kdv_tup us)).push (PySem.HandSPX.excO C hp.objs.size)).get? (hp.objs.size + 1) = some (PySem.HandSPX.excO C hp.objs.size) := by heap_get
  have I2 : Inv X pins σ (upd H1 (hp.objs.size + 1) (exo (hp.objs.size + 1) C none)) ⟨(hp.push (PySem.W.kdv_tup us)).push (PySem.HandSPX.excO C hp.objs.size), g, dr, tk, os⟩ :=
    I1.laid (t' := tk) (a := hp.objs.size + 1) (o := exo (hp.objs.size + 1) C none) (h' := (hp.push (PySem.W.kdv_tup us)).push (PySem.HandSPX.excO C hp.objs.size)) kk hsz (exo_ok hget)
  have r2 : Vals (V.ref (hp.objs.size + 1) :: (vs ++ dvs)) (Value.ref (hp.objs.size + 1) :: (us ++ ds)) := .cons rfl (r1.append hd)
  have hl : (Value.ref (hp.objs.size + 1) :: us ++ ds).length = ps.length := by
    have e := r2.length
    rw [F1.len _ _ _ _ hq] at e
    exact e.symm
  have hus : us.length ≤ sizeLine := by
    rw [← Paired.length r1, sizeLine_eq]
    omega
  refine wpAny_call (PySem.HandSPX.call_own F.excBase_ValueError (fun Y => PySem.HandSPX.refsVE_contains Y bm hbm) (I1.kIn _ _ hC) (PySem.W.looks_findIn I1.kIn iC) (fun self => PySem.W.bind_fn I1.kIn self tI) hus
    (codeAny_mono (F1.run _ X.stack _ _ ⟨Value.ref (hp.objs.size + 1) :: us, []⟩ (Value.ref (hp.objs.size + 1) :: (us ++ ds)) _ _ (fun _ _ _ => False) (hr.make C us []) (I2.env0.make C us []) (hb _ (Value.ref (hp.objs.size + 1) :: us) I2.kIn hl) r2 hq) fun r s' hq' => ?_))
  cases r with
  | error er => exact hx pins σ _ _ er s' I2 hq'
  | ok fl =>
    cases fl with
    | ret u =>
      obtain ⟨v, H', I3, rv, ev, q3⟩ := I2.after hq'
      subst ev
      exact ⟨rv, ⟨V.ref (hp.objs.size + 1), H', I3, rfl, q3⟩⟩
    | next => exact False.elim hq'
    | brk => exact False.elim hq'
    | cont => exact False.elim hq'
/-- e.n, e such an exception with its dict -/
def tXo (K : PySem.W.Frag) (n : Str) (te : TE) : TE := fun σ H Q => te σ H fun x H1 => ∃ (a C dx : Addr) (fs : List (Str × V)) (v : V), x = .ref a ∧ H1 a = some (exo a C (some dx)) ∧ H1 dx = some (exd dx fs) ∧ ExcC K C ∧ PySem.W.findIn K (.ref C) n = some none ∧ fs.lookup n = some v ∧ Q v H1
theorem pe_xo (he : PE X e te) (hb : attributeBase e n X.env (eval e X.env) = eval e X.env := by rfl) : PE X (.Attribute e n pos) (tXo X.K n te) := by
  refine ⟨fun pins s σ H Q I h => ?_⟩
  refine attr_of hb (thn (he.run pins s σ H _ I h) fun u s1 hh => ?_)
  obtain ⟨x, H1, I1, rx, a, C, dx, fs, v, ex, ha, hdx, T, hno, l, q⟩ := hh
  subst ex
  obtain rfl : u = Value.ref a := rx
  obtain ⟨t1, ho⟩ := exo_at I1.hok ha
  obtain ⟨mA, hns, hr⟩ := exd_at I1.hok hdx
  obtain ⟨od, hod, hl⟩ := lookIn_ns hns
  obtain ⟨u, hu, ru⟩ := RelO.some_of (v := v) (o := mA n) (by rw [← l]; exact hr n)
  have J : PySem.W.InstAt s1.heap a ({ cls := .ref C, dict := some dx, data := .fields #[.ref t1, .none, .none, .none, .bool false, .none] } : Obj) C (some od) := ⟨ho, rfl, rfl, hod⟩
  exact HandSPX.exc_get I1.kIn J T.hg T.hk T.hs (PySem.W.findObj_own T.hd hno rfl (by rw [hl, hu])) (handed_of ru) ⟨v, H1, I1.tok _, ru, q⟩
end
/-! reading lemmas -/
/-- an exception of class D lies at a -/
def ExA (K : PySem.W.Frag) (H : Hp) (a D : Addr) : Prop := ∃ d, H a = some (exo a D d) ∧ (∀ dx, d = some dx → ∃ fs, H dx = some (exd dx fs)) ∧ ExcC K D
/-- one with a single field -/
def ExF (H : Hp) (a D : Addr) (fld : Str) (v : V) : Prop := ∃ d, H a = some (exo a D (some d)) ∧ H d = some (exd d [(fld, v)])
theorem ExA.same {K : PySem.W.Frag} {H H' : Hp} {a D : Addr} (s : Same H H') (h : ExA K H a D) : ExA K H' a D := by
  obtain ⟨d, h1, h2, h3⟩ := h
  exact ⟨d, s _ _ h1, fun dx e => (h2 dx e).imp fun fs h => s _ _ h, h3⟩
theorem ExF.same {H H' : Hp} {a D : Addr} {fld : Str} {v : V} (s : Same H H') (h : ExF H a D fld v) : ExF H' a D fld v := by
  obtain ⟨d, h1, h2⟩ := h
  exact ⟨d, s _ _ h1, s _ _ h2⟩
theorem ExF.exA {K : PySem.W.Frag} {H : Hp} {a D : Addr} {fld : Str} {v : V} (h : ExF H a D fld v) (e : ExcC K D) : ExA K H a D := by
  obtain ⟨d, h1, h2⟩ := h
  exact ⟨some d, h1, fun dx e => ⟨_, by cases e; exact h2⟩, e⟩
theorem isO {K : PySem.W.Frag} {H : Hp} {a D : Addr} {c : V} {cv : Value} {b : Bool} {Q : VK} (h : ExA K H a D) (hc : ClsV c cv) (e : PySem.W.kitOne K (.ref D) cv = some b) (q : Q (.bl b) H) : rIsO K [.ref a, c] H Q := by
  obtain ⟨d, h1, h2, h3⟩ := h
  exact ⟨a, D, d, c, cv, b, rfl, h1, h2, h3, hc, e, q⟩
theorem same_up {H : Hp} {p : Addr} {o : HO} (h : H p = none) : Same H (upd H p o) := fun b x e => by
  unfold upd
  rw [if_neg (fun z => by subst z; rw [h] at e; cases e)]
  exact e
theorem exo0R {C : Addr} {σ : L2.St} {H : Hp} {Q : VK} (h : ∀ p H2, H p = none → Same H H2 → H2 p = some (exo p C none) → Q (.ref p) H2) : tExo0 C σ H Q := fun p hp => h p _ hp (same_up hp) upd_same
theorem mkV {C : Addr} {sp : Sp} {dvs : List V} {ta : TA} {σ : L2.St} {H : Hp} {Q : VK} (h : ta σ H fun vs H1 => vs.length ≤ 1000 ∧ ∀ a, H1 a = none → sp (.ref a :: (vs ++ dvs)) (upd H1 a (exo a C none)) (fun v H2 => v = .non ∧ Q (.ref a) H2) (fun _ _ _ => False)) : tMkV C sp dvs ta σ H Q := h
theorem mkF {C : Addr} {fld : Str} {v : V} {H1 : Hp} {R : Addr → Hp → Prop} {E : XK} (q : ∀ p H2, H1 p = none → Same H1 H2 → ExF H2 p C fld v → R p H2) :
    [v].length ≤ 1000 ∧ ∀ a, H1 a = none → spSi C fld (.ref a :: ([v] ++ [])) (upd H1 a (exo a C none)) (fun u H2 => u = .non ∧ R a H2) E := by
  refine ⟨(by show 1 ≤ 1000; decide), fun a ha => ⟨a, v, rfl, upd_same, fun d hd n => ⟨rfl, q a _ ha (fun b o e => ?_) ⟨d, upd_same, ?_⟩⟩⟩⟩
  · have n1 : b ≠ a := fun z => by subst z; rw [ha] at e; cases e
    have e1 : upd H1 a (exo a C none) b = some o := by
      unfold upd
      rw [if_neg n1]
      exact e
    have n2 : b ≠ d := fun z => by subst z; rw [hd] at e1; cases e1
    unfold upd at *
    rw [if_neg n1, if_neg n2]
    exact e1
  · unfold upd
    rw [if_neg n, if_pos rfl]
theorem xo {n : Str} {te : TE} {K : PySem.W.Frag} {σ : L2.St} {H : Hp} {Q : VK} (h : te σ H fun x H1 => ∃ (a C dx : Addr) (fs : List (Str × V)) (v : V), x = .ref a ∧ H1 a = some (exo a C (some dx)) ∧ H1 dx = some (exd dx fs) ∧ ExcC K C ∧ PySem.W.findIn K (.ref C) n = some none ∧ fs.lookup n = some v ∧ Q v H1) : tXo K n te σ H Q := h
theorem xoF {n : Str} {K : PySem.W.Frag} {H : Hp} {a C : Addr} {v : V} {R : V → Prop} (h : ExF H a C n v) (e : ExcC K C) (hn : PySem.W.findIn K (.ref C) n = some none) (q : R v) :
    ∃ (b C dx : Addr) (fs : List (Str × V)) (w : V), V.ref a = .ref b ∧ H b = some (exo b C (some dx)) ∧ H dx = some (exd dx fs) ∧ ExcC K C ∧ PySem.W.findIn K (.ref C) n = some none ∧ fs.lookup n = some w ∧ R w := by
  obtain ⟨d, h1, h2⟩ := h
  exact ⟨a, C, d, _, v, rfl, h1, h2, e, hn, by simp [List.lookup], q⟩
end SPX

/-! nested data; what the laws' own comparison asks -/
namespace SPD
open PySem PySem.Spec PyProof.Rows L2

/-! ### kinds -/
inductive Kd where
  | non | bl | int | str | dct | lst | tup
  deriving DecidableEq
def Kd.ty : Kd → String
  | .non => "NoneType" | .bl => "bool" | .int => "int" | .str => "str" | .dct => "dict" | .lst => "list" | .tup => "tuple"
def Kd.sq : Kd → Bool
  | .lst => true | .tup => true | _ => false
inductive KdOf (K : PySem.W.Frag) (H : Hp) : V → Kd → Prop where
  | non : KdOf K H .non .non
  | bl (b : Bool) : KdOf K H (.bl b) .bl
  | int (i : Int) : KdOf K H (.int i) .int
  | str (x : Str) : KdOf K H (.str x) .str
  | dct {a : Addr} {kvs : List (Key × V)} (h : H a = some (.dK kvs)) : KdOf K H (.ref a) .dct
  | lst {a : Addr} {xs : List V} (h : H a = some (.lst xs)) : KdOf K H (.ref a) .lst
  | tup {a : Addr} {xs : List V} (h : H a = some (.tup xs)) : KdOf K H (.ref a) .tup
theorem KdOf.tyx {K : PySem.W.Frag} {H : Hp} {v : V} {k : Kd} (h : KdOf K H v k) : TyX K H v (.type k.ty) := by
  cases h with
  | non => exact .base .non
  | bl b => exact .base (.bl b)
  | int i => exact .base (.int i)
  | str x => exact .base (.str x)
  | dct h => exact .base (.dK h)
  | lst h => exact .base (.lst h)
  | tup h => exact .base (.tup h)
theorem kit_kd {K : PySem.W.Frag} (k : Kd) : PySem.W.kitOne K (.type k.ty) (.type "tuple") = some (decide (k = .tup)) ∧ PySem.W.kitOne K (.type k.ty) (.type "list") = some (decide (k = .lst)) ∧ PySem.W.kitOne K (.type k.ty) (.type "bool") = some (decide (k = .bl)) ∧ PySem.W.kitOne K (.type k.ty) (.type "str") = some (decide (k = .str)) := by
  cases k <;> exact ⟨kit_ty (by decide +kernel), kit_ty (by decide +kernel), kit_ty (by decide +kernel), kit_ty (by decide +kernel)⟩
theorem kit_int {K : PySem.W.Frag} (k : Kd) : PySem.W.kitOne K (.type k.ty) (.type "int") = some (decide (k = .int ∨ k = .bl)) := by
  cases k <;> exact kit_ty (by decide +kernel)
theorem kit_two {K : PySem.W.Frag} {t c d : Value} {a b : Bool} (h1 : PySem.W.kitOne K t c = some a) (h2 : PySem.W.kitOne K t d = some b) : PySem.W.kitAny K t [c, d] = some (a || b) := by
  refine kitAny_cons h1 (fun e => kitAny_cons h2 (fun e2 => ?_) fun e2 => ?_) fun e => ?_
  · rw [kitAny_nil, e, e2]
    rfl
  · rw [e, e2]
    rfl
  · rw [e]
    rfl
theorem kit_seq {K : PySem.W.Frag} (k : Kd) : PySem.W.kitAny K (.type k.ty) [.type "tuple", .type "list"] = some k.sq := by
  obtain ⟨h1, h2, _⟩ := kit_kd (K := K) k
  rw [kit_two h1 h2]
  cases k <;> rfl

/-! ### data: what is within stands apart from x -/
def leaf : V → Bool
  | .non => true | .bl _ => true | .int _ => true | .str z => Nat.ble z.cps.size 100000 | _ => false
inductive Dq (x : Addr) (H : Hp) : Nat → V → Prop where
  | leaf {n : Nat} {v : V} : leaf v = true → Dq x H n v
  | dct {n : Nat} {a : Addr} {kvs : List (Key × V)} : a ≠ x → H a = some (.dK kvs) → (kvs.map (·.1)).Nodup → (∀ p ∈ kvs, flatB p.2 = true) → Dq x H n (.ref a)
  | tup {n : Nat} {a : Addr} {xs : List V} : a ≠ x → H a = some (.tup xs) → xs.length ≤ 16777216 → (∀ y, y ∈ xs → Dq x H n y) → Dq x H (n + 1) (.ref a)
  | lst {n : Nat} {a : Addr} {xs : List V} : a ≠ x → H a = some (.lst xs) → xs.length ≤ 16777216 → (∀ y, y ∈ xs → Dq x H n y) → Dq x H (n + 1) (.ref a)
theorem Dq.kb {x : Addr} {H H' : Hp} (k : RD.KB x H H') {n : Nat} {v : V} (h : Dq x H n v) : Dq x H' n v := by
  induction h with
  | leaf e => exact .leaf e
  | dct ne h nd fl => exact .dct ne (k _ _ ne h) nd fl
  | tup ne h hl _ ih => exact .tup ne (k _ _ ne h) hl ih
  | lst ne h hl _ ih => exact .lst ne (k _ _ ne h) hl ih
theorem Dq.same {x : Addr} {H H' : Hp} (k : Same H H') {n : Nat} {v : V} (h : Dq x H n v) : Dq x H' n v := h.kb (RD.Same.kb k)
theorem Dq.mono {x : Addr} {H : Hp} {n : Nat} {v : V} (h : Dq x H n v) : ∀ m, n ≤ m → Dq x H m v := by
  induction h with
  | leaf e => exact fun m _ => .leaf e
  | dct ne h nd fl => exact fun m _ => .dct ne h nd fl
  | tup ne h hl _ ih =>
    intro m hm
    obtain ⟨k, rfl⟩ : ∃ k, m = k + 1 := ⟨m - 1, by omega⟩
    exact .tup ne h hl fun y hy => ih y hy k (by omega)
  | lst ne h hl _ ih =>
    intro m hm
    obtain ⟨k, rfl⟩ : ∃ k, m = k + 1 := ⟨m - 1, by omega⟩
    exact .lst ne h hl fun y hy => ih y hy k (by omega)
theorem Dq.kd {K : PySem.W.Frag} {x : Addr} {H : Hp} {n : Nat} {v : V} (h : Dq x H n v) : ∃ k, KdOf K H v k := by
  cases h with
  | leaf e =>
    cases v with
    | non => exact ⟨_, .non⟩
    | bl b => exact ⟨_, .bl b⟩
    | int i => exact ⟨_, .int i⟩
    | str z => exact ⟨_, .str z⟩
    | byt b => cases e
    | flt b => cases e
    | ref a => cases e
    | ty s => cases e
  | dct ne h nd fl => exact ⟨_, .dct h⟩
  | tup ne h _ => exact ⟨_, .tup h⟩
  | lst ne h _ => exact ⟨_, .lst h⟩

/-! ### == of what is no list, no tuple; the laws' own comparison -/
inductive EqB (K : PySem.W.Frag) (H : Hp) : V → V → Bool → Prop where
  | scal {x y : V} : scal x y = true → EqB K H x y (decide (x = y))
  | deep {x y : V} {d e : PyData} : Dp K H x d → Dp K H y e → SeqAt.shaped d = true → SeqAt.shaped e = true → EqB K H x y (PyData.eqv d e)
  | dict {a : Addr} {kvs : List (Key × V)} : H a = some (.dK kvs) → (kvs.map (·.1)).Nodup → (∀ p ∈ kvs, flatB p.2 = true) → EqB K H (.ref a) (.ref a) true
/-- what told, due come to: b -/
inductive IsB (K : PySem.W.Frag) (H : Hp) : Nat → V → V → Bool → Prop where
  | leaf {n : Nat} {x y : V} {s t : Kd} {b : Bool} : KdOf K H x s → KdOf K H y t → t.sq = false → decide (s = .bl) = decide (t = .bl) → EqB K H x y b → IsB K H n x y b
  | bool {n : Nat} {x y : V} {s t : Kd} : KdOf K H x s → KdOf K H y t → t.sq = false → decide (s = .bl) ≠ decide (t = .bl) → IsB K H n x y false
  | kind {n : Nat} {x y : V} {s t : Kd} : KdOf K H x s → KdOf K H y t → t.sq = true → s ≠ t → IsB K H n x y false
  | lenL {n : Nat} {a b : Addr} {xs ys : List V} : H a = some (.lst xs) → H b = some (.lst ys) → xs.length ≠ ys.length → IsB K H n (.ref a) (.ref b) false
  | lenT {n : Nat} {a b : Addr} {xs ys : List V} : H a = some (.tup xs) → H b = some (.tup ys) → xs.length ≠ ys.length → IsB K H n (.ref a) (.ref b) false
  | lst {n : Nat} {a b : Addr} {xs ys : List V} {bs : List Bool} : H a = some (.lst xs) → H b = some (.lst ys) → xs.length = ys.length → bs.length = xs.length → xs.length ≤ 16777216 → (∀ (i : Nat) (x y : V) (c : Bool), xs[i]? = some x → ys[i]? = some y → bs[i]? = some c → IsB K H n x y c) → IsB K H (n + 1) (.ref a) (.ref b) (bs.all id)
  | tup {n : Nat} {a b : Addr} {xs ys : List V} {bs : List Bool} : H a = some (.tup xs) → H b = some (.tup ys) → xs.length = ys.length → bs.length = xs.length → xs.length ≤ 16777216 → (∀ (i : Nat) (x y : V) (c : Bool), xs[i]? = some x → ys[i]? = some y → bs[i]? = some c → IsB K H n x y c) → IsB K H (n + 1) (.ref a) (.ref b) (bs.all id)
mutual
theorem Dp.same {K : PySem.W.Frag} {H H' : Hp} (s : Same H H') {v : V} {d : PyData} : Dp K H v d → Dp K H' v d
  | .non => .non
  | .bl b => .bl b
  | .int i => .int i
  | .str x => .str x
  | .lst h a => .lst (s.seq h) (DpAll.same s a)
  | .tup h a => .tup (RD.Same.tup s h) (DpAll.same s a)
theorem DpAll.same {K : PySem.W.Frag} {H H' : Hp} (s : Same H H') {vs : List V} {ds : List PyData} : DpAll K H vs ds → DpAll K H' vs ds
  | .nil => .nil
  | .cons h a => .cons (Dp.same s h) (DpAll.same s a)
end
theorem KdOf.same {K : PySem.W.Frag} {H H' : Hp} (s : Same H H') {v : V} {k : Kd} (h : KdOf K H v k) : KdOf K H' v k := by
  cases h with
  | non => exact .non
  | bl b => exact .bl b
  | int i => exact .int i
  | str x => exact .str x
  | dct h => exact .dct (s _ _ h)
  | lst h => exact .lst (s _ _ h)
  | tup h => exact .tup (s _ _ h)
theorem EqB.same {K : PySem.W.Frag} {H H' : Hp} (s : Same H H') {x y : V} {b : Bool} (h : EqB K H x y b) : EqB K H' x y b := by
  cases h with
  | scal e => exact .scal e
  | deep d e p q => exact .deep (Dp.same s d) (Dp.same s e) p q
  | dict h nd fl => exact .dict (s _ _ h) nd fl
theorem IsB.same {K : PySem.W.Frag} {H H' : Hp} (s : Same H H') {n : Nat} {x y : V} {b : Bool} (h : IsB K H n x y b) : IsB K H' n x y b := by
  induction h with
  | leaf a b c d e => exact .leaf (a.same s) (b.same s) c d (e.same s)
  | bool a b c d => exact .bool (a.same s) (b.same s) c d
  | kind a b c d => exact .kind (a.same s) (b.same s) c d
  | lenL a b c => exact .lenL (s _ _ a) (s _ _ b) c
  | lenT a b c => exact .lenT (s _ _ a) (s _ _ b) c
  | lst a b c d e _ ih => exact .lst (s _ _ a) (s _ _ b) c d e ih
  | tup a b c d e _ ih => exact .tup (s _ _ a) (s _ _ b) c d e ih
theorem all_rep (n : Nat) : (List.replicate n true).all id = true := by
  induction n with
  | zero => rfl
  | succ n ih => rw [List.replicate_succ, List.all_cons, ih]; rfl
/-- data is what it is -/
theorem IsB.refl {K : PySem.W.Frag} {x : Addr} {H : Hp} {n : Nat} {v : V} (h : Dq x H n v) : IsB K H n v v true := by
  induction h with
  | @leaf n v e =>
    have key : ∀ k : Kd, KdOf K H v k → k.sq = false → scal v v = true → IsB K H n v v true := fun k hk hs hc => by
      have z : EqB K H v v (decide (v = v)) := .scal hc
      rw [decide_eq_true rfl] at z
      exact .leaf hk hk hs rfl z
    cases v with
    | non => exact key _ .non rfl rfl
    | bl b => exact key _ (.bl b) rfl rfl
    | int i => exact key _ (.int i) rfl rfl
    | str z => exact key _ (.str z) rfl rfl
    | byt b => cases e
    | flt b => cases e
    | ref a => cases e
    | ty s => cases e
  | dct ne h nd fl => exact .leaf (.dct h) (.dct h) rfl rfl (.dict h nd fl)
  | @tup n a xs ne h hl _ ih =>
    have z := IsB.tup (K := K) (n := n) (bs := List.replicate xs.length true) h h rfl (by rw [List.length_replicate]) hl fun i x y c e1 e2 e3 => by
      rw [e1] at e2
      cases e2
      rw [List.getElem?_replicate] at e3
      split at e3
      · cases e3
        exact ih x (List.mem_of_getElem? e1)
      · cases e3
    rw [all_rep] at z
    exact z
  | @lst n a xs ne h hl _ ih =>
    have z := IsB.lst (K := K) (n := n) (bs := List.replicate xs.length true) h h rfl (by rw [List.length_replicate]) hl fun i x y c e1 e2 e3 => by
      rw [e1] at e2
      cases e2
      rw [List.getElem?_replicate] at e3
      split at e3
      · cases e3
        exact ih x (List.mem_of_getElem? e1)
      · cases e3
    rw [all_rep] at z
    exact z
/-- the operator == that these ask -/
def rEqB (K : PySem.W.Frag) : R2 := fun x y H Q => ∃ b, EqB K H x y b ∧ Q (.bl b) H
theorem op_eqB {X : Cx} (hu : X.A.units + 64 < cLine) : OpR X (compareOp .Eq) (rEqB X.K) := by
  intro pins s σ H x y v u Q I rx ry h
  obtain ⟨b, e, q⟩ := h
  cases e with
  | scal e => exact op_eq pins s σ H _ _ v u Q I rx ry ⟨e, q⟩
  | deep d e p r => exact op_eqD hu pins s σ H _ _ v u Q I rx ry ⟨_, _, d, e, p, r, q⟩
  | dict h nd fl => exact op_eq_dict (by omega) pins s σ H _ _ v u Q I rx ry ⟨_, _, _, rfl, rfl, h, h, nd, fl, q⟩
theorem eqB {K : PySem.W.Frag} {H : Hp} {Q : VK} {x y : V} {b : Bool} (e : EqB K H x y b) (h : Q (.bl b) H) : rEqB K x y H Q := ⟨b, e, h⟩
section
variable {K : PySem.W.Frag} {H : Hp} {Q : VK} {x : V} {k : Kd}
theorem isSeq {tp : Addr} (ht : H tp = some (.tup [.ty "tuple", .ty "list"])) (hk : KdOf K H x k) (h : Q (.bl k.sq) H) : rIsiT K [x, .ref tp] H Q :=
  ⟨x, tp, _, _, _, _, rfl, ht, .cons (.ty _) (.cons (.ty _) .nil), hk.tyx, kit_seq k, h⟩
theorem isTup (hk : KdOf K H x k) (h : Q (.bl (decide (k = .tup))) H) : rIsi K [x, .ty "tuple"] H Q := ⟨x, _, _, _, _, rfl, .ty _, hk.tyx, (kit_kd k).1, h⟩
theorem isLst (hk : KdOf K H x k) (h : Q (.bl (decide (k = .lst))) H) : rIsi K [x, .ty "list"] H Q := ⟨x, _, _, _, _, rfl, .ty _, hk.tyx, (kit_kd k).2.1, h⟩
theorem isBool (hk : KdOf K H x k) (h : Q (.bl (decide (k = .bl))) H) : rIsi K [x, .ty "bool"] H Q := ⟨x, _, _, _, _, rfl, .ty _, hk.tyx, (kit_kd k).2.2.1, h⟩
theorem isStr (hk : KdOf K H x k) (h : Q (.bl (decide (k = .str))) H) : rIsi K [x, .ty "str"] H Q := ⟨x, _, _, _, _, rfl, .ty _, hk.tyx, (kit_kd k).2.2.2, h⟩
theorem isInt (hk : KdOf K H x k) (h : Q (.bl (decide (k = .int ∨ k = .bl))) H) : rIsi K [x, .ty "int"] H Q := ⟨x, _, _, _, _, rfl, .ty _, hk.tyx, kit_int k, h⟩
end
section
variable {K : PySem.W.Frag} {a b : Addr} {xs ys : List V}
theorem w_zipT {n : Nat} (hn : n = min xs.length ys.length) : Walk (RZ.ItzT K a b) n (fun H => SqT K H a xs ∧ SqT K H b ys) (RD.YP (fun i => xs[i]?) (fun i => ys[i]?)) := by
  subst hn
  refine ⟨fun i _ hi q => ?_, fun _ q => ⟨xs, ys, q.1, q.2, by omega⟩, fun i H v H' _ q y => ?_⟩
  · have h1 : i < xs.length := by omega
    have h2 : i < ys.length := by omega
    exact ⟨xs, ys, xs[i], ys[i], q.1, q.2, by simp [h1], by simp [h2]⟩
  · obtain ⟨T, x, z, h1, h2, h3, h4, h5⟩ := y
    subst h3
    exact ⟨T, x, z, h1, h2, RD.same_new h2, upd_same, h4 xs q.1, h5 ys q.2⟩
theorem izipA {tx : TA} {σ : L2.St} {H : Hp} {R : It → Hp → Prop} (h : tx σ H fun vs H1 => ∃ a b xs ys, vs = [.ref a, .ref b] ∧ ((SqL K H1 a xs ∧ SqL K H1 b ys ∧ R (Itz K a b) H1) ∨ (SqT K H1 a xs ∧ SqT K H1 b ys ∧ R (RZ.ItzT K a b) H1))) : RZ.iZipA K tx σ H R := h
end
/-! ### many data at once -/
inductive DqA (x : Addr) (H : Hp) (n : Nat) : List V → Prop where
  | nil : DqA x H n []
  | cons {v : V} {vs : List V} : Dq x H n v → DqA x H n vs → DqA x H n (v :: vs)
theorem DqA.mem {x : Addr} {H : Hp} {n : Nat} {vs : List V} (h : DqA x H n vs) : ∀ y, y ∈ vs → Dq x H n y := by
  induction h with
  | nil => exact fun y hy => nomatch hy
  | cons a _ ih =>
    intro y hy
    rcases List.mem_cons.mp hy with e | e
    · rw [e]; exact a
    · exact ih y e
theorem DqA.app {x : Addr} {H : Hp} {n : Nat} {vs ws : List V} (h : DqA x H n vs) (g : DqA x H n ws) : DqA x H n (vs ++ ws) := by
  induction h with
  | nil => exact g
  | cons a _ ih => exact .cons a ih
theorem dq_kb {x : Addr} {H H' : Hp} {n : Nat} {v : V} (h : Dq x H n v) (k : RD.KB x H H') : Dq x H' n v := h.kb k
theorem dqTup {x : Addr} {H : Hp} {n : Nat} {a : Addr} {xs : List V} (h : H a = some (.tup xs)) (ne : a ≠ x) (g : DqA x H n xs) (e : Nat.ble xs.length 16777216 = true := by rfl) : Dq x H (n + 1) (.ref a) := .tup ne h (Nat.le_of_ble_eq_true e) g.mem
theorem dqLst {x : Addr} {H : Hp} {n : Nat} {a : Addr} {xs : List V} (h : H a = some (.lst xs)) (ne : a ≠ x) (g : DqA x H n xs) (e : Nat.ble xs.length 16777216 = true := by rfl) : Dq x H (n + 1) (.ref a) := .lst ne h (Nat.le_of_ble_eq_true e) g.mem
theorem dqNil {x : Addr} {H : Hp} {n : Nat} {a : Addr} {kvs : List (Key × V)} (h : H a = some (.dK kvs)) (ne : a ≠ x) (nd : (kvs.map (·.1)).Nodup) (fl : ∀ p ∈ kvs, flatB p.2 = true) : Dq x H n (.ref a) := .dct ne h nd fl
/-- a written dict of constants -/
theorem dispC {trs : List (TE × TE)} {σ : L2.St} {H : Hp} {Q : VK} (kvs : List (Key × V)) (hps : ∀ H (QP : List (V × V) → Hp → Prop), QP (kvs.map fun kv => (kV kv.1, kv.2)) H → tPairs trs σ H QP) (hk : kvs.length ≤ 15)
    (h : ∀ p H2, H p = none → Same H H2 → H2 p = some (.dK (mergeK [] kvs)) → Q (.ref p) H2) : tDisp trs σ H Q := fun p hp =>
  hps _ _ ⟨upd_same, kvs, rfl, hk, by rw [upd_upd]; exact h p _ hp (RD.same_new hp) upd_same⟩
theorem dnew {σ : L2.St} {H : Hp} {Q : VK} (h : ∀ p H2, H p = none → Same H H2 → H2 p = some (.dK []) → Q (.ref p) H2) : tDNewK σ H Q := fun p hp => h p _ hp (RD.same_new hp) upd_same
theorem disp1 {k : Str} {v : V} {σ : L2.St} {H : Hp} {Q : VK} (h : ∀ p H2, H p = none → Same H H2 → H2 p = some (.dK [(Sum.inr k, v)]) → Q (.ref p) H2) : tDisp [(tC (.str k), tC v)] σ H Q :=
  dispC [(Sum.inr k, v)] (fun _ _ q => q) (by show 1 ≤ 15; decide) h
end SPD

/-! sorted(set(text)) -/
namespace SST
open PySem PySem.Spec PyProof.Rows PySem.Froz L2
theorem addTx_shape (h : Int) (v : Value) (D : SD) (r : Ris D.2.2.place.toList) : Ris (addTx h v D).2.2.place.toList ∧ (addTx h v D).2.2.led = D.2.2.led := by
  obtain ⟨es, ep, t⟩ := D
  have r1 := layNew_ris t es h v r
  have l1 := layNew_led t es h v
  show Ris (tailTx ep (layNew t es h v).1 (if (layNew t es h v).2.1.plain = true then { (layNew t es h v).2.1 with plain := false } else (layNew t es h v).2.1) (layNew t es h v).2.2.1).2.2.place.toList ∧
    (tailTx ep (layNew t es h v).1 (if (layNew t es h v).2.1.plain = true then { (layNew t es h v).2.1 with plain := false } else (layNew t es h v).2.1) (layNew t es h v).2.2.1).2.2.led = t.led
  generalize layNew t es h v = Z at r1 l1 ⊢
  obtain ⟨e1, t1, b1, b2⟩ := Z
  dsimp only at r1 l1 ⊢
  have key : ∀ t2 : SetTable, Ris t2.place.toList → t2.led = t.led → Ris (tailTx ep e1 t2 b1).2.2.place.toList ∧ (tailTx ep e1 t2 b1).2.2.led = t.led := fun t2 g1 g2 => by
    unfold tailTx
    split
    · exact ⟨relayAll_ris _ _ _, (relayAll_led _ _ _).trans g2⟩
    · exact ⟨g1, g2⟩
  split
  · exact key _ r1 l1
  · exact key _ r1 l1
/-- the set of texts at a: its members l -/
def SetT (P : Program) (w : World) (h : Heap) (a : Addr) (l : List Str) : Prop := ∃ D, h.get? a = some (sObj "set" D) ∧ TxOk P w D l ∧ l.Nodup ∧ Ris D.2.2.place.toList ∧ (w.params.followText "set-order" = true ∨ D.2.2.led = true)
section
variable {P : Program} {w : World} {A : Around} {E : Value → Shared → Prop} {s : Shared} {a : Addr}
theorem SetT.at {h h' : Heap} {l : List Str} (R : SetT P w h a l) (k : ∀ o, h.get? a = some o → h'.get? a = some o) : SetT P w h' a l := by
  obtain ⟨D, ho, r⟩ := R
  exact ⟨D, k _ ho, r⟩
/-- one more met -/
def met (k : Str) (l : List Str) : List Str := if k ∈ l then l else k :: l
theorem add_any {l : List Str} {k : Str} {u : Tok} {Q : Bool → Shared → Prop} (R : SetT P w s.heap a l) (hb : l.length + 1 < scanBound)
    (h : ∀ h' b, (∀ c o, c ≠ a → s.heap.get? c = some o → h'.get? c = some o) → SetT P w h' a (met k l) → Q b { s with heap := h' }) : wpAny (model P w) A (setAddHashed a (.str k u) (hashStr w k)) Q E s := by
  obtain ⟨D, ho, F, nd, r, hl⟩ := R
  by_cases hk : k ∈ l
  · have hmet : met k l = l := if_pos hk
    rw [hmet] at h
    have h0 := h s.heap false (fun _ _ _ e => e) ⟨D, ho, F, nd, r, hl⟩
    obtain ⟨es, ep, t⟩ := D
    have hd : (sObj "set" (es, ep, t)).data = .set es ep t := rfl
    have hel : ElemsOf (strKind P w) es.toList := F.el
    have hf : t.fits es.size = true := F.fit
    have hz : es.size = l.length := F.sz
    obtain ⟨e, he, hek⟩ := (F.mem k).mp hk
    unfold setAddHashed setAddHashedIn
    refine wpAny_holding (wpAny_bind (wpAny_setState_of ho hd hf ?_))
    dsimp only
    rw [byScan_of (x := Value.str k u) rfl (by omega) hel]
    simp only [↓reduceIte]
    unfold setAddByScan
    refine wpAny_bind (wpAny_bind (wpAny_rule (wpAny_bind (wpAny_setScan_of (knd := strKind P w) (k := k) (is_str k u) ho hd hf hel ?_))))
    cases hfi : es.toList.findIdx? (fun e => (strKind P w).is k e.2) with
    | none =>
      have z := List.findIdx?_eq_none_iff.mp hfi e he
      rw [hek] at z
      cases z
    | some j =>
      dsimp only
      exact wpAny_pure (wpAny_pure h0)
  · have hmet : met k l = k :: l := if_neg hk
    rw [hmet] at h
    have sh := addTx_shape (hashStr w k) (.str k u) D r
    refine add_x ho F hk hb (h _ true (fun c o hc e => PySem.Heap.get?_update_of_ne _ (Ne.symm hc) e) ⟨_, get_upd _ ho rfl, add_ok u F, List.nodup_cons.mpr ⟨hk, nd⟩, sh.1, ?_⟩)
    rw [sh.2]
    exact hl
def mets (val : Nat → Str) : Nat → List Str
  | 0 => []
  | i + 1 => met (val i) (mets val i)
theorem mets_len (val : Nat → Str) : ∀ i, (mets val i).length ≤ i
  | 0 => Nat.le_refl _
  | i + 1 => by
    have z := mets_len val i
    show (met (val i) (mets val i)).length ≤ i + 1
    unfold met
    split
    · omega
    · rw [List.length_cons]; omega
theorem mets_mem (val : Nat → Str) (k : Str) : ∀ i, k ∈ mets val i ↔ ∃ j, j < i ∧ val j = k
  | 0 => ⟨fun h => (List.not_mem_nil h).elim, fun ⟨j, h, _⟩ => absurd h (Nat.not_lt_zero _)⟩
  | i + 1 => by
    have ih := mets_mem val k i
    have e : k ∈ met (val i) (mets val i) ↔ k ∈ mets val i ∨ k = val i := by
      unfold met
      split
      · rename_i h
        exact ⟨.inl, fun z => z.elim id fun e => e ▸ h⟩
      · rw [List.mem_cons]
        exact Or.comm
    show k ∈ met (val i) (mets val i) ↔ _
    rw [e, ih]
    constructor
    · rintro (⟨j, h1, h2⟩ | rfl)
      · exact ⟨j, by omega, h2⟩
      · exact ⟨i, by omega, rfl⟩
    · rintro ⟨j, h1, h2⟩
      rcases Nat.lt_succ_iff_lt_or_eq.mp h1 with h | h
      · exact .inl ⟨j, h, h2⟩
      · subst h
        exact .inr h2.symm
theorem fill {R : Result → Shared → Prop} {it : Addr} {fp wr : List Addr} {G : Array GenState → Array GenState → Prop} {n : Nat} {Pv : Nat → Value → Prop} {St : Nat → Shared → Prop} (W : WalksS P w A.in1 it fp wr G n Pv St) (hf : a ∉ fp) (val : Nat → Str)
    (hv : ∀ i v, Pv i v → ∃ t, v = .str (val i) t) (hn : n + 1 < scanBound) : ∀ (m i : Nat) (s : Shared), n - i = m → i ≤ n → St i s → SetT P w s.heap a (mets val i) →
      (∀ s', Moved (a :: wr) G s s' → SetT P w s'.heap a (mets val n) → R (.ok (.ret .none)) s') → codeAny (model P w) A (.builtin "set.update.loop" ⟨[.ref a, .ref it], []⟩) R s := by
  have aw : a ∉ wr := fun z => hf (W.sub _ z)
  have up : ∀ b ∈ wr, b ∈ a :: wr := fun b z => List.mem_cons_of_mem _ z
  intro m
  induction m with
  | zero =>
    intro i s hm hi hs hS hR
    obtain rfl : i = n := by omega
    refine codeAny_builtin PyProof.Rows.F.entry_set_update_loop ?_
    rw [Around.under_plainId PyProof.Rows.F.plain_set_update_loop _]
    show wpAny _ A.in1 (pyNext (.ref it) >>= _) _ _ s
    refine wpAny_bind (W.done s _ _ hs fun s' mv => wpAny_pure (hR s' (mv.mono up) (hS.at fun o e => mv.heap a o aw e)))
  | succ m ih =>
    intro i s hm hi hs hS hR
    have lt : i < n := by omega
    refine codeAny_builtin PyProof.Rows.F.entry_set_update_loop ?_
    rw [Around.under_plainId PyProof.Rows.F.plain_set_update_loop _]
    show wpAny _ A.in1 (pyNext (.ref it) >>= _) _ _ s
    refine wpAny_bind (W.item i s _ _ lt hs fun v s1 hP hs1 mv => ?_)
    obtain ⟨t, rfl⟩ := hv i v hP
    have hS1 : SetT P w s1.heap a (mets val i) := hS.at fun o e => mv.heap a o aw e
    have room : (mets val i).length + 1 < scanBound := by
      have := mets_len val i
      omega
    show wpAny _ A.in1 (holding [Value.str (val i) t] (setAdd a (.str (val i) t)) >>= _) _ _ s1
    refine wpAny_bind (wpAny_holding ?_)
    unfold setAdd
    refine wpAny_holding (wpAny_bind ((strKind P w).pyHash (k := val i) (is_str _ _) ?_))
    refine add_any (s := { s1 with toks := s1.toks + 1 }) hS1 room fun h' b kp hS2 => ?_
    refine wpAny_pure ⟨plainId_quiet PyProof.Rows.F.plain_set_update_loop _, ih (i + 1) _ (by omega) lt (W.frame _ s1 _ _ hs1 (Nat.le_succ _) fun c hc o e => ?_) hS2 fun s2 mv2 hS3 => hR s2 (Moved.trans W.gtrans ((mv.mono up).then_heap (Nat.le_succ _) fun c o hc e => ?_) mv2) hS3⟩
    · exact kp c o (fun z => hf (z ▸ hc)) e
    · exact kp c o (fun z => hc (by rw [z]; exact List.mem_cons_self)) e
/-- the set made of one argument, its table's kind told -/
theorem new_led (x : Value) {Q : Value → Shared → Prop}
    (h : Q (.ref s.heap.objs.size) { s with heap := s.heap.push { cls := .type "set", dict := none, data := .set #[] 0 (.fresh 0 0 (!w.params.followText "set-order")) } }) :
    codeAny (model P w) A (.call (.builtin "set.__new__") ⟨[.type "set", x], []⟩) (wants Q E) s := by
  refine codeAny_of_tree ?_
  show wpAny _ A.in1 (do checkBuiltinCall "set.__new__" ⟨[.type "set", x], []⟩; again (.builtin "set.__new__" ⟨[.type "set", x], []⟩)) _ _ s
  refine wpAny_bind (wpAny_of_eq (PySem.F.newCall_set_1 x) (wpAny_pure ⟨plainId_quiet PySem.F.plain_set_new _, codeAny_builtin PySem.F.entry_set_new ?_⟩))
  rw [Around.under_plainId PySem.F.plain_set_new _]
  unfold Builtin.«set.__new__» Builtin.Frozenset.newClass
  have hsub := sub_set_self
  obtain ⟨hp, g, d, tk, os⟩ := s
  dsimp only
  wp_walk
  refine wpAny_askSetting (wpAny_pure ?_)
  dsimp only
  simp only [newObj]
  exact wpAny_bind (wpAny_alloc (wpAny_pure (wpAny_pure h)))
theorem fresh_ok {h : Heap} : SetT P w (h.push { cls := .type "set", dict := none, data := .set #[] 0 (.fresh 0 0 (!w.params.followText "set-order")) }) h.objs.size [] := by
  refine ⟨(#[], 0, .fresh 0 0 (!w.params.followText "set-order")), Heap.get?_push_size _ rfl, TxOk.nil rfl, List.nodup_nil, List.Pairwise.nil, ?_⟩
  show _ ∨ (!w.params.followText "set-order") = true
  cases w.params.followText "set-order"
  · exact .inr rfl
  · exact .inl rfl
/-- what a text's signs come to, in a set -/
def signs (x : Str) : Nat → Str := fun i => ⟨#[x.cps.getD i 0]⟩
theorem sub_str_set : isSubtype (.type "str") (.type "set") = pure false := by rw [isSubtype_type]; kernel_rfl
theorem sub_str_froz : isSubtype (.type "str") (.type "frozenset") = pure false := by rw [isSubtype_type]; kernel_rfl
theorem set_str {x : Str} {u : Tok} {Q : Value → Shared → Prop} (hh : A.handled = none) (hn : x.cps.size + 1 < scanBound)
    (h : ∀ (h' : Heap) (tk : Nat), (∀ b o, s.heap.get? b = some o → h'.get? b = some o) → s.heap.objs.size < h'.objs.size → SetT P w h' s.heap.objs.size (mets (signs x) x.cps.size) → Q (.ref s.heap.objs.size) { s with heap := h', toks := tk }) :
    wpAny (model P w) A (call (.type "set") [.str x u]) Q E s := by
  obtain ⟨c, tl, hmro⟩ := PySem.F.called_set.mro
  have hmade := PySem.F.called_set.made
  have hsub := PySem.F.called_set.sub
  refine wpAny_call (codeAny_of_tree ?_)
  show wpAny _ _ (callAny (.type "set") _) _ _ _
  refine wpAny_pure ⟨Code.quiet_builtin _ (by decide +kernel), codeAny_builtin PySem.F.entry_type_call ?_⟩
  rw [Around.under_plain (weight_type_call_type "set" [.str x u] []) rfl]
  have h1 := PySem.F.called_set.notType
  have h2 := PySem.F.called_set.canCreate
  have hct := PySem.F.typeCall_set_1 (.str x u)
  repeat (any_goals (first | assumption | wp_step))
  refine codeAny_mono (new_led (.str x u) (E := E) (Q := fun obj s₁ => obj = .ref s.heap.objs.size ∧ s₁ = { s with heap := s.heap.push { cls := .type "set", dict := none, data := .set #[] 0 (.fresh 0 0 (!w.params.followText "set-order")) } }) ⟨rfl, rfl⟩) fun r s1 hr => ?_
  cases r with
  | error e => exact hr
  | ok fl =>
    cases fl with
    | ret obj =>
      obtain ⟨rfl, rfl⟩ := hr
      have F0 : SetT P w (s.heap.push { cls := .type "set", dict := none, data := .set #[] 0 (.fresh 0 0 (!w.params.followText "set-order")) }) s.heap.objs.size [] := fresh_ok
      have hS : (s.heap.push { cls := .type "set", dict := none, data := .set #[] 0 (.fresh 0 0 (!w.params.followText "set-order")) }).get? s.heap.objs.size = some { cls := .type "set", dict := none, data := .set #[] 0 (.fresh 0 0 (!w.params.followText "set-order")) } := Heap.get?_push_size _ rfl
      have old : ∀ b o, s.heap.get? b = some o → (s.heap.push { cls := .type "set", dict := none, data := .set #[] 0 (.fresh 0 0 (!w.params.followText "set-order")) }).get? b = some o := fun b o e => Heap.get?_push_of_some _ e
      have hsz : (s.heap.push { cls := .type "set", dict := none, data := .set #[] 0 (.fresh 0 0 (!w.params.followText "set-order")) }).objs.size = s.heap.objs.size + 1 := Heap.size_push ..
      generalize s.heap.push { cls := .type "set", dict := none, data := .set #[] 0 (.fresh 0 0 (!w.params.followText "set-order")) } = hp at F0 hS old hsz ⊢
      have hT : Shared.TypeIs { s with heap := hp } (.ref s.heap.objs.size) "set" := ⟨_, hS, rfl⟩
      have hli := PySem.F.called_set.init.lookup
      have hbi := PySem.F.called_set.init.bind (.ref s.heap.objs.size)
      repeat (any_goals (first | assumption | wp_step))
      refine codeAny_mono (codeAny_call_builtin (R := wants (fun r s₂ => r = .none ∧ ∃ h' tk, s₂ = { s with heap := h', toks := tk } ∧ (∀ b o, s.heap.get? b = some o → h'.get? b = some o) ∧ s.heap.objs.size < h'.objs.size ∧ SetT P w h' s.heap.objs.size (mets (signs x) x.cps.size)) E)
        PySem.F.called_set.init.plain PySem.F.entry_set_init (check_set_init_1 hT ?_)) fun r2 s2 hr2 => ?_
      · unfold Builtin.«set.__init__» noKeywords Builtin.Frozenset.updateFrom
        have q1 := sub_str_set
        have q2 := sub_str_froz
        have q3 : (Value.type "str" == Value.type "dict") = false := by decide
        generalize hPI : pyIter = PI
        wp_walk
        subst hPI
        refine wpAny_pyIter_str fun o St hW hst => ?_
        refine wpAny_bind (wpAny_runValue ?_)
        have na : s.heap.objs.size ∉ [hp.objs.size] := by
          rw [hsz, List.mem_singleton]
          exact Nat.ne_of_lt (Nat.lt_succ_self _)
        have hh3 : A.in1.in1.in1.handled = none := by simp [hh]
        refine fill (hW _ hh3).toS na (signs x) (fun i v hv => ?_) hn (x.cps.size - 0) 0 _ rfl (Nat.zero_le _) hst (F0.at fun o e => Heap.get?_push_of_some _ e) fun s3 mv hS3 => ?_
        · obtain ⟨c, t, hc, rfl⟩ := hv
          refine ⟨t, ?_⟩
          unfold signs
          rw [Array.getD_eq_getD_getElem?, hc]
          rfl
        · have keep : ∀ b o, s.heap.get? b = some o → s3.heap.get? b = some o := fun b o e => by
            have lt := Heap.lt_size e
            refine mv.heap b o (fun z => ?_) (Heap.get?_push_of_some _ (old b o e))
            rcases List.mem_cons.mp z with z | z
            · exact absurd z (Nat.ne_of_lt lt)
            · have z := List.mem_singleton.mp z
              rw [hsz] at z
              exact absurd z (Nat.ne_of_lt (Nat.lt_succ_of_lt lt))
          have grow : s.heap.objs.size < s3.heap.objs.size := by
            obtain ⟨D, hD, _⟩ := hS3
            exact Heap.lt_size hD
          obtain ⟨h3, g3, d3, tk3, os3⟩ := s3
          obtain rfl : g3 = s.gens := mv.gens
          obtain rfl : d3 = s.drawn := mv.drawn
          obtain rfl : os3 = s.os := mv.os
          exact wpAny_pure (wpAny_pure ⟨rfl, h3, tk3, rfl, keep, grow, hS3⟩)
      · cases r2 with
        | error e => exact hr2
        | ok fl2 =>
          cases fl2 with
          | ret r =>
            obtain ⟨rfl, h', tk, rfl, k1, k2, k3⟩ := hr2
            repeat (any_goals (first | assumption | wp_step))
            exact h _ _ k1 k2 k3
          | _ => exact hr2.elim
    | _ => exact hr.elim
/-! what is unlike and of the same number -/
theorem perm_of {α : Type} [DecidableEq α] : ∀ (l ks : List α), l.Nodup → (∀ x, x ∈ l → x ∈ ks) → ks.length = l.length → ks.Perm l
  | [], ks, _, _, e => by
    rw [List.eq_nil_of_length_eq_zero e]
  | x :: r, ks, nd, sub, e => by
    have hx : x ∈ ks := sub x List.mem_cons_self
    obtain ⟨nx, nr⟩ := List.nodup_cons.mp nd
    have p := List.perm_cons_erase hx
    have ih := perm_of r (ks.erase x) nr (fun y hy => (List.mem_erase_of_ne (fun z => nx (by rw [← z]; exact hy))).mpr (sub y (List.mem_cons_of_mem _ hy))) (by
      rw [List.length_erase_of_mem hx, e, List.length_cons]
      rfl)
    exact p.trans (ih.cons x)
def nameOf (e : Int × Value) : Str := match e.2 with | .str k _ => k | _ => Str.empty
theorem keys_perm {D : SD} {l : List Str} (F : TxOk P w D l) (nd : l.Nodup) : (∀ e ∈ D.1.toList, ∃ t, e.2 = .str (nameOf e) t) ∧ (D.1.toList.map nameOf).Perm l := by
  have g : ∀ e ∈ D.1.toList, ∃ t, e.2 = .str (nameOf e) t := fun e he => by
    obtain ⟨⟨k, hk, _⟩, _⟩ := F.el e he
    obtain ⟨t, ht⟩ := Value.isStrOf_shape hk
    exact ⟨t, by unfold nameOf; rw [ht]⟩
  refine ⟨g, perm_of _ _ nd (fun x hx => ?_) (by rw [List.length_map, Array.length_toList]; exact F.sz)⟩
  obtain ⟨e, he, hk⟩ := (F.mem x).mp hx
  obtain ⟨t, ht⟩ := Value.isStrOf_shape hk
  exact List.mem_map.mpr ⟨e, he, by unfold nameOf; rw [ht]⟩
theorem strs_of : ∀ (l : List (Int × Value)), (∀ e ∈ l, ∃ t, e.2 = .str (nameOf e) t) → StrsAre (l.map (·.2)) (l.map nameOf)
  | [], _ => .nil
  | e :: l, h => by
    obtain ⟨t, ht⟩ := h e List.mem_cons_self
    rw [List.map_cons, List.map_cons, ht]
    exact .cons _ t (strs_of l fun e he => h e (List.mem_cons_of_mem _ he))
theorem strs_perm {vs us : List Value} {xs : List Str} (p : vs.Perm us) (h : StrsAre us xs) : ∃ ys, StrsAre vs ys ∧ ys.Perm xs := by
  induction p generalizing xs with
  | nil => exact ⟨xs, h, List.Perm.refl _⟩
  | cons x _ ih =>
    cases h with
    | cons y t h =>
      obtain ⟨ys, h1, h2⟩ := ih h
      exact ⟨_, .cons y t h1, h2.cons y⟩
  | swap x y l =>
    cases h with
    | cons a t h =>
      cases h with
      | cons b u h => exact ⟨_, .cons b u (.cons a t h), List.Perm.swap _ _ _⟩
  | trans p q ih1 ih2 =>
    obtain ⟨ys, h1, h2⟩ := ih2 h
    obtain ⟨zs, h3, h4⟩ := ih1 h1
    exact ⟨zs, h3, h4.trans h2⟩
theorem sorted_setT {l : List Str} {Q : Value → Shared → Prop} (R : SetT P w s.heap a l) (hh : A.handled = none) (hb : l.length < scanBound)
    (hQ : ∀ s' p (out : Array Value) (c : Nat) (ys : List Str), (∀ b o, s.heap.get? b = some o → s'.heap.get? b = some o) → s'.gens = s.gens → s'.os = s.os → s.heap.objs.size ≤ p →
      s'.heap.get? p = some (seqObj "list" out c) → StrsAre out.toList ys → ys.Perm l → sortedS ys = true → Q (.ref p) s') :
    wpAny (model P w) A (call (.builtin "sorted") [.ref a]) Q E s := by
  obtain ⟨⟨es, ep, t⟩, ho, F, nd, r, hl⟩ := R
  have hz : es.size = l.length := F.sz
  obtain ⟨g, kp⟩ := keys_perm F nd
  refine Calls.call_function_entry kind_sorted plain_sorted entry_sorted (args_sorted1 _) ?_
  unfold Builtin.«sorted»
  refine wpAny_bind (m := checkCount "sorted" 1 1 _) (wpAny_pure ?_)
  refine wpAny_bind (collect_set (A := A.in1) hh ⟨_, ho, rfl, rfl⟩ F.fit (by show es.size < scanBound; omega) r hl fun s1 vs k1 z1 g1 o1 pm => ?_)
  obtain ⟨xs, hS, px⟩ := strs_perm pm (strs_of es.toList g)
  have hL : vs.length ≤ sizeLine := by
    rw [pm.length_eq, List.length_map, Array.length_toList, hz, sizeLine_eq]
    unfold scanBound at hb
    omega
  refine wpAny_bind (wpAny_newList ?_ hL)
  have hob : (s1.heap.push (seqObj "list" vs.toArray 0)).get? s1.heap.objs.size = some (seqObj "list" vs.toArray 0) := Heap.get?_push_size _ rfl
  refine wpAny_bind (wpAny_holding (wpAny_call_entry slot_list_sort ⟨_, hob, rfl⟩ entry_list_sort (list_sort_treeKAny strKind_oneLt hob hS.keysOf (fun v₁ v₂ rest e => keyKind_strs (by rw [← e]; exact hS)) hL fun st hp hs => ⟨_, rfl, ?_⟩) (args_list_sort _)))
  obtain ⟨ys, y1, y2, y3⟩ := sorted_out_str hS hp hs
  obtain ⟨c, hc⟩ := sortedHeap_at (vs := vs) (out := (arrOf st).map (·.2)) hob
  refine wpAny_pure ⟨_, rfl, hQ _ s1.heap.objs.size _ c ys (fun b u e => ?_) g1 o1 z1 hc y1 (y2.trans (px.trans kp)) y3⟩
  have q := k1 b u e
  have lt := Heap.lt_size q
  show (sortedHeap (s1.heap.push (seqObj "list" vs.toArray 0)) s1.heap.objs.size vs _).get? b = some u
  rw [sortedHeap_old (Nat.ne_of_lt lt) (by rw [size_push']; exact Nat.lt_succ_of_lt lt)]
  exact Heap.get?_push_of_some _ q
end
/-! ### the rule -/
/-- the signs of x, in their order, each once -/
def Own (x : Str) (ys : List Str) : Prop := ys.Perm (mets (signs x) x.cps.size) ∧ sortedS ys = true
/-- sorted(set(e)), e a text -/
def tSS (te : TE) : TE := fun σ H Q => te σ H fun v H1 => ∃ x : Str, v = .str x ∧ x.cps.size ≤ 4000 ∧ ∀ (ys : List Str) (p : Addr), Own x ys → H1 p = none → Q (.ref p) (upd H1 p (.lst (ys.map V.str)))
section
variable {X : Cx}
theorem pe_ss {e : Expr} {te : TE} {p p2 q pos : Pos} (hg : Gl X "sorted") (hm : X.mg "sorted" = none) (hg2 : Gl X "set") (hm2 : X.mg "set" = none) (he : PE X e te) (hc : X.calm = true := by rfl)
    (ne : starEach [e] X.env = (false, eval e X.env) :: starEach [] X.env := by rfl) : PE X (.Call (.Name "sorted" p) [.Call (.Name "set" p2) [e] [] q] [] pos) (tSS te) := by
  refine ⟨fun pins s σ H Q I h => ?_⟩
  refine Call_ (ld_blt I hg hm Boot.sorted ?_)
  refine PyProof.Rows.callWith_builtin1 (PyProof.Rows.args_cons ?_ rfl) rfl rfl
  refine Call_ (ld_blt I hg2 hm2 PyProof.Rows.boot_set ?_)
  refine PyProof.Rows.callWith_type1 (PyProof.Rows.args_cons (thn (he.run pins s σ H _ I h) fun v s1 hh => PyProof.Rows.args_nil ?_) ne) ne rfl
  obtain ⟨v, H1, I1, rv, x, rfl, hz, q1⟩ := hh
  obtain ⟨u, rfl⟩ := rv
  refine set_str (P := X.prog) (w := X.w) (I1.ok.hd hc) (by unfold scanBound; omega) fun h' tk k1 z1 R => PyProof.Rows.args_nil ?_
  have I2 : Inv X pins σ H1 { s1 with heap := h', toks := tk } := I1.kept k1
  have R2 : SetT X.prog X.w ({ s1 with heap := h', toks := tk } : Shared).heap s1.heap.objs.size (mets (signs x) x.cps.size) := R
  generalize ({ s1 with heap := h', toks := tk } : Shared) = s2 at I2 R2 ⊢
  refine sorted_setT R2 (I2.ok.hd hc) (by have := mets_len (signs x) x.cps.size; unfold scanBound; omega) fun s3 a out c ys k3 g3 o3 hp hget y1 y2 y3 => ?_
  have hlen : (ys.map V.str).length ≤ sizeLine := by
    have := mets_len (signs x) x.cps.size
    rw [List.length_map, y2.length_eq, sizeLine_eq]
    omega
  have hn : H1 a = none := I2.hok.fresh hp
  have J : Inv X pins σ (upd H1 a (.lst (ys.map V.str))) { s2 with heap := s3.heap, gens := s3.gens, drawn := s3.drawn, toks := s3.toks } :=
    I2.call (ch := []) (Un.laid k3 hp hn) (I2.hok.laid k3 hp ⟨hlen, out.toList, c, vals_of_strs y1, hget⟩) (by rw [g3]; exact I2.bare) (fun _ z => nomatch z)
  have e : s3 = { s2 with heap := s3.heap, gens := s3.gens, drawn := s3.drawn, toks := s3.toks } := by
    cases s3
    cases s2
    cases o3
    rfl
  rw [e]
  exact ⟨.ref a, _, J, rfl, q1 ys a ⟨y2, y3⟩ hn⟩
end
/-! ### one such list alone -/
theorem rise_pair : ∀ (p : Str) (l : List Str), risingS p l = true → (∀ x, x ∈ l → ltCps x.cps.toList p.cps.toList = false) ∧ sortedS l = true := by
  intro p l
  induction l generalizing p with
  | nil => exact fun _ => ⟨fun x hx => (List.not_mem_nil hx).elim, rfl⟩
  | cons y r ih =>
    intro h
    have h' : (!ltCps y.cps.toList p.cps.toList && risingS y r) = true := h
    obtain ⟨h1, h2⟩ := Bool.and_eq_true_iff.mp h'
    have h1 : ltCps y.cps.toList p.cps.toList = false := by simpa using h1
    obtain ⟨h3, h4⟩ := ih y h2
    refine ⟨fun x hx => ?_, h2⟩
    rcases List.mem_cons.mp hx with e | e
    · rw [e]; exact h1
    · have h5 := h3 x e
      rw [ltCps_eq, decide_eq_false_iff_not] at h1 h5 ⊢
      exact fun z => (List.le_trans (List.not_lt.mp h1) (List.not_lt.mp h5)) |> fun q => List.not_lt.mpr q z
theorem own_one : ∀ {ys zs : List Str}, sortedS ys = true → sortedS zs = true → ys.Perm zs → ys = zs := by
  intro ys
  induction ys with
  | nil => exact fun _ _ p => (List.nil_perm.mp p).symm ▸ rfl
  | cons y r ih =>
    intro zs h1 h2 p
    cases zs with
    | nil => exact absurd p.length_eq (by simp)
    | cons z t =>
      obtain ⟨a1, a2⟩ := rise_pair y r h1
      obtain ⟨b1, b2⟩ := rise_pair z t h2
      have e : y = z := by
        have hy : y ∈ z :: t := p.mem_iff.mp List.mem_cons_self
        have hz : z ∈ y :: r := p.mem_iff.mpr List.mem_cons_self
        rcases List.mem_cons.mp hy with e | hy
        · exact e
        rcases List.mem_cons.mp hz with e | hz
        · exact e.symm
        have c1 := b1 y hy
        have c2 := a1 z hz
        rw [ltCps_eq, decide_eq_false_iff_not] at c1 c2
        have c := List.le_antisymm (List.not_lt.mp c1) (List.not_lt.mp c2)
        cases y
        cases z
        exact congrArg Str.mk (Array.toList_inj.mp c.symm)
      subst e
      rw [ih a2 b2 (List.perm_cons _ |>.mp p)]
theorem Own.one {x : Str} {ys zs : List Str} (h : Own x ys) (g : Own x zs) : ys = zs := own_one h.2 g.2 (h.1.trans g.1.symm)
end SST

/-! rules that the laws' texts ask besides -/
namespace NR
open PySem PySem.Spec PyProof.Rows L2
/-! ### enumerate(tuple) -/
theorem meets_enumT (l : Addr) (items : Array Value) (n : Nat) (dct : Option Addr) (sl : Array (Option Value)) :
    Meets (Builtin.«enumerate.__new__» ⟨[.type "enumerate", .ref l], []⟩) (fun _ R s => s.heap.get? l = some { cls := .type "tuple", dict := dct, data := .seq items n, slots := sl } ∧
      R (.ok (.ret (.ref (s.heap.push { cls := .type "tuple_iterator", data := .fields #[.ref l, .int 0 0] }).objs.size)))
        { s with heap := (s.heap.push { cls := .type "tuple_iterator", data := .fields #[.ref l, .int 0 0] }).push { cls := .type "enumerate", data := .fields #[.none, .bool false, .ref s.heap.objs.size, rawInt 0, .none, .none] } }) :=
  .of_wp fun prog w A R s h => by
    obtain ⟨hp, g, d, tk, os⟩ := s
    obtain ⟨hl, h⟩ := h
    have hsub := sub_enumerate
    have hT : Heap.IsTuple (Shared.heap ⟨hp, g, d, tk, os⟩) l items := ⟨_, hl, rfl, n, rfl⟩
    wp_walk using AutoSeq1.wpAny_loadPart' hl
    refine wpAny_stack_any fun st => wpAny_pure ?_
    split
    · rename_i c _ _ _ _ _
      cases (c == Value.type "enumerate")
      · wp_walk using AutoSeq1.wpAny_loadPart' hl, wpAny_pyIter_tuple hT
        exact ⟨_, rfl, h⟩
      · wp_walk using AutoSeq1.wpAny_loadPart' hl, wpAny_pyIter_tuple hT
        exact ⟨_, rfl, h⟩
    · wp_walk using AutoSeq1.wpAny_loadPart' hl, wpAny_pyIter_tuple hT
      exact ⟨_, rfl, h⟩
theorem call_enumT {prog : Program} {w : World} {A : Around} {E : Value → Shared → Prop} {s : Shared} {l : Addr} {items : Array Value} {Q : Value → Shared → Prop} (hL : s.heap.IsTuple l items)
    (h : ∀ h', IsEnum h' (s.heap.objs.size + 1) s.heap.objs.size 0 .none → h'.IsTupleIter s.heap.objs.size l 0 → (∀ b o, s.heap.get? b = some o → h'.get? b = some o) → Q (.ref (s.heap.objs.size + 1)) { s with heap := h' }) :
    wpAny (model prog w) A (call (.type "enumerate") [.ref l]) Q E s := by
  obtain ⟨⟨c, dct, dt, sl⟩, hl, hc, n, hd⟩ := hL
  obtain rfl : c = .type "tuple" := hc
  obtain rfl : dt = .seq items n := hd
  refine callType_new F.called_enumerate (by decide) (F.typeCall_enumerate_1 _) (F.newCall_enumerate_1 _) (fun obj => F.args_object_init_2 obj _) F.entry_enumerate_new (meets_enumT l items n dct sl) ⟨hl, ?_⟩
  have hz : (s.heap.push { cls := .type "tuple_iterator", data := .fields #[.ref l, .int 0 0] }).objs.size = s.heap.objs.size + 1 := Heap.size_push ..
  show _ ∧ _
  rw [hz]
  have he : IsEnum ((s.heap.push { cls := .type "tuple_iterator", data := .fields #[.ref l, .int 0 0] }).push { cls := .type "enumerate", data := .fields #[.none, .bool false, .ref s.heap.objs.size, rawInt 0, .none, .none] }) (s.heap.objs.size + 1) s.heap.objs.size 0 .none := by
    have q := Heap.get?_push_size (s.heap.push { cls := .type "tuple_iterator", data := .fields #[.ref l, .int 0 0] }) (o := { cls := .type "enumerate", data := .fields #[.none, .bool false, .ref s.heap.objs.size, rawInt 0, .none, .none] }) rfl
    rw [hz] at q
    exact q
  exact ⟨⟨_, he, rfl⟩, h _ he ⟨_, Heap.get?_push_of_some _ (Heap.get?_push_size _ rfl), rfl, rfl⟩ fun b o x => Heap.get?_push_of_some _ (Heap.get?_push_of_some _ x)⟩
/-- the tuple at a, each item in a new pair -/
def IteT (K : PySem.W.Frag) (a : Addr) : It :=
  ⟨fun i H => ∃ (xs : List V) (x : V), SqT K H a xs ∧ xs[i]? = some x, fun i H v H' => ∃ T x, v = .ref T ∧ H T = none ∧ H' = upd H T (.tup [.int (i : Nat), x]) ∧ ∀ xs, SqT K H a xs → xs[i]? = some x, fun i H => ∃ xs : List V, SqT K H a xs ∧ xs.length = i⟩
theorem turn_enumT {P : Program} {w : World} {K : PySem.W.Frag} {elts : List Expr} {kk : Nat} {tpos : Pos} (a e it : Addr) :
    Turn P w K (.Tuple elts kk tpos) (IteT K a) [e, it] e (fun i h => (∃ old, IsEnum h e it ((i : Nat) : Int) old) ∧ h.IsTupleIter it a i ∧ e ≠ it) where
  mem := by simp
  obj := fun i h st b hb => by
    obtain ⟨⟨old, he⟩, ⟨o, ho, hc, hd⟩, _⟩ := st
    rcases (show b = e ∨ b = it by simpa using hb) with z | z
    · rw [z]
      exact ⟨_, he, fun v q => nomatch q⟩
    · rw [z]
      exact ⟨o, ho, fun v q => by rw [hd] at q; cases q⟩
  keep := fun i h h' st k => ⟨st.1.imp fun old he => k e (by simp) _ he, st.2.1.at fun o q => k it (by simp) o q, st.2.2⟩
  item := by
    intro X hP hw hK hc i pins s σ H E I hf st hg
    subst hP hw hK
    obtain ⟨⟨old, he⟩, hit, hne⟩ := st
    obtain ⟨xs, x, hq, hx⟩ := hg
    obtain ⟨its, rv, p, hz⟩ := I.tuple hq
    obtain ⟨u, hu, ru⟩ := rv.get hx
    have hel : e < s.heap.objs.size := Heap.lt_size he
    have hil : it < s.heap.objs.size := by obtain ⟨_, q, _⟩ := hit; exact Heap.lt_size q
    have pt : s.heap.IsTuple a its.toArray := p
    have ane : a ≠ it := fun z => by
      obtain ⟨o1, e1, c1, _⟩ := pt
      obtain ⟨o2, e2, c2, _⟩ := hit
      rw [z, e2] at e1
      cases e1
      rw [c1] at c2
      injection c2 with q
      exact absurd q (by decide)
    have ae : a ≠ e := fun z => by
      obtain ⟨o1, e1, c1, _⟩ := pt
      have e2 : s.heap.get? e = _ := he
      rw [z, e2] at e1
      cases e1
      injection (show Value.type "enumerate" = Value.type "tuple" from c1) with q
      exact absurd q (by decide)
    have hi : i < its.toArray.size := by
      rw [List.size_toArray, ← rv.length]
      exact (List.getElem?_eq_some_iff.mp hx).1
    refine wpAny_pyNext_enum_itemD (Draws.tuple (A := X.A.in1) (I.ok.hd hc) it a ane its.toArray) he ⟨hit, pt⟩ hi hne (by simp [hne, Ne.symm ae]) fun y h' tk hy ho st' hT hsz hk => ?_
    have ey : y = u := by
      have q1 : its.toArray[i]? = some u := by simpa using hu
      rw [q1] at hy
      exact (Option.some.inj hy).symm
    subst ey
    refine ⟨_, rfl, wpAny_letOwnedTupleGo_enum (s := { s with heap := h', toks := tk + 1 }) ho fun h'' he' sb => ?_⟩
    have hT2 : h''.get? s.heap.objs.size = some { cls := .type "tuple", data := .seq #[.int i tk, y] } := (sb.2 _ (Nat.ne_of_gt hel)).trans hT
    have new : ObjOk X.prog X.w (upd H s.heap.objs.size (.tup [.int (i : Nat), x])) h'' s.heap.objs.size (.tup [.int (i : Nat), x]) :=
      ⟨by show 2 ≤ sizeLine; decide, [.int i tk, y], .cons ⟨_, rfl⟩ (.cons ru .nil), ⟨_, hT2, rfl, _, rfl⟩⟩
    have I1 : Inv X pins σ (upd H s.heap.objs.size (.tup [.int (i : Nat), x])) { s with heap := h'', toks := tk + 1 } :=
      I.turnedNew (ch := [e, it]) (fun b ob hb q => (sb.2 b (fun z => hb (by simp [z]))).trans (hk b ob (fun z => hb (by simp [z])) (fun z => hb (by simp [z])) q)) hf (Nat.le_refl _) new
    refine ⟨.ref s.heap.objs.size, _, I1, rfl, ⟨_, x, rfl, I.hok.fresh (Nat.le_refl _), rfl, fun ys hy => by rw [I.tuple_inj hy hq]; exact hx⟩, ⟨⟨y, ?_⟩, st'.1.at fun o q => (sb.2 it (Ne.symm hne)).trans q, hne⟩, fun b hb => ?_⟩
    · rw [show ((i + 1 : Nat) : Int) = (i : Int) + 1 by omega]
      exact he'
    · have hb' : b < s.heap.objs.size := by
        rcases (show b = e ∨ b = it by simpa using hb) with z | z
        · exact z ▸ hel
        · exact z ▸ hil
      rw [upd_ne (Nat.ne_of_lt hb')]
      exact (hf b hb).1
  done := by
    intro X hP hw hK hc i pins s σ H E I hf st hg
    subst hP hw hK
    obtain ⟨⟨old, he⟩, hit, hne⟩ := st
    obtain ⟨xs, hq, hx⟩ := hg
    obtain ⟨its, rv, p, hz⟩ := I.tuple hq
    obtain ⟨f0, f1, f2, f3, f4, f5⟩ := hf it (by simp)
    have hl := rv.length
    have pt : s.heap.IsTuple a its.toArray := p
    have ane : a ≠ it := fun z => by
      obtain ⟨o1, e1, c1, _⟩ := pt
      obtain ⟨o2, e2, c2, _⟩ := hit
      rw [z, e2] at e1
      cases e1
      rw [c1] at c2
      injection c2 with q
      exact absurd q (by decide)
    subst hx
    refine wpAny_pyNext_enum_endD (Draws.tuple (A := X.A.in1) (I.ok.hd hc) it a ane its.toArray) he ⟨?_, pt⟩ fun h' eb => ⟨rfl, I.turned (t' := s.toks) (fun b o hb q => eb b o hb q) f0 f1 f3 f4 f5⟩
    rw [List.size_toArray, ← hl]
    exact hit
  self := fun A i s Q E st h => let ⟨⟨_, he⟩, _⟩ := st; wpAny_pyIter_enum he h
def iEnumT (K : PySem.W.Frag) (ta : TA) : TI := fun σ H R => ta σ H fun vs H1 => ∃ a xs, vs = [.ref a] ∧ SqT K H1 a xs ∧ R (IteT K a) H1
theorem pi_enumT {X : Cx} {e : Expr} {ta : TA} {p pos tpos : Pos} {elts : List Expr} {kk : Nat} (hg : Gl X "enumerate") (hm : X.mg "enumerate" = none) (ha : PA X [e] ta) (hs : starEach [e] X.env = [(false, eval e X.env)] := by rfl) :
    PI X (.Tuple elts kk tpos) (.Call (.Name "enumerate" p) [e] [] pos) (iEnumT X.K ta) := by
  refine ⟨fun pins s σ H R I h => ?_⟩
  refine Call_ (ld_blt I hg hm boot_enumerate (PyProof.Rows.callWith_type1 (thn (ha.run pos pins s σ H _ I h) fun us s1 ⟨vs, H1, I1, r1, q1⟩ => ?_) hs rfl))
  obtain ⟨a, xs, rfl, hq, q⟩ := q1
  cases r1 with
  | cons r rr =>
    cases rr
    cases r
    obtain ⟨its, rv, pt, hz⟩ := I1.tuple hq
    refine call_enumT (show s1.heap.IsTuple a its.toArray from pt) fun h' he hit hk => wpAny_pyIter_enum he ?_
    have I2 : Inv X pins σ H1 { s1 with heap := h' } := I1.kept (t' := s1.toks) hk
    refine ⟨s1.heap.objs.size + 1, [s1.heap.objs.size + 1, s1.heap.objs.size], _, _, H1, rfl, I2, turn_enumT a (s1.heap.objs.size + 1) s1.heap.objs.size, ⟨⟨.none, he⟩, hit, Nat.succ_ne_self _⟩, fun b hb => ?_, q⟩
    have hle : s1.heap.objs.size ≤ b := by
      rcases (show b = s1.heap.objs.size + 1 ∨ b = s1.heap.objs.size by simpa using hb) with z | z
      · rw [z]
        exact Nat.le_add_right _ _
      · rw [z]
        exact Nat.le_refl _
    exact I1.fpOk hle (I1.hok.fresh hle)
theorem w_enumT {K : PySem.W.Frag} {a : Addr} {xs : List V} : Walk (IteT K a) xs.length (fun H => SqT K H a xs) (RD.YP (fun i => some (.int (i : Nat))) (fun i => xs[i]?)) := by
  refine ⟨fun i _ hi q => ⟨xs, xs[i], q, by simp [hi]⟩, fun _ q => ⟨xs, q, rfl⟩, fun i H v H' _ q y => ?_⟩
  obtain ⟨T, x, h1, h2, h3, h4⟩ := y
  subst h3
  exact ⟨T, .int (i : Nat), x, h1, h2, RD.same_new h2, upd_same, rfl, h4 xs q⟩
section
variable {K : PySem.W.Frag} {tx : TA} {σ : L2.St} {H : Hp} {R : It → Hp → Prop}
theorem ienumT (h : tx σ H fun vs H1 => ∃ a xs, vs = [.ref a] ∧ SqT K H1 a xs ∧ R (IteT K a) H1) : iEnumT K tx σ H R := h
theorem ienumTV {a : Addr} {xs : List V} {S : Addr → Prop} (hx : SqT K H a xs) (h : S a) : ∃ b ys, [V.ref a] = [.ref b] ∧ SqT K H b ys ∧ S b := ⟨a, xs, rfl, hx, h⟩
end
/-! ### tuple[::-1] -/
section
variable {prog : Program} {w : World} {A : Around} {E : Value → Shared → Prop} {s : Shared}
theorem applied_rev {sl : Addr} {vl vu vs : Value} {n : Nat} {Q : Int × Int × Nat → Shared → Prop} (hs : s.heap.IsSliceOf sl vl vu vs) (pl : IsPart vl none) (pu : IsPart vu none) (ps : IsPart vs (some (-1)))
    (h : Q ((n : Int) - 1, -1, n) s) : wpAny (model prog w) A (Builtin.Slice.sliceApplied (.ref sl) (pure (n : Int))) Q E s := by
  obtain ⟨o, ho, hc, hd⟩ := id hs
  unfold Builtin.Slice.sliceApplied Builtin.Slice.sliceFields
  refine wpAny_bind (wpAny_bind (wpAny_field ho hd (x := vl) rfl (wpAny_bind (wpAny_field ho hd (x := vu) rfl (wpAny_bind (wpAny_field ho hd (x := vs) rfl (wpAny_pure ?_)))))))
  refine wpAny_bind (HT.slicePart_ ps ?_)
  show wpAny _ _ (if ((-1 : Int) == 0) = true then _ else _) _ _ s
  rw [if_neg (by decide)]
  refine wpAny_bind (HT.slicePart_ pl (wpAny_bind (HT.slicePart_ pu (wpAny_bind (wpAny_pure ?_)))))
  show wpAny _ _ (match Builtin.Slice.sliceAdjust none none (-1) (n : Int) with | (lo, hi) => pure (lo, (-1 : Int), Builtin.Slice.slicePlaces lo hi (-1))) _ _ s
  have e1 : Builtin.Slice.sliceAdjust none none (-1) (n : Int) = ((n : Int) - 1, -1) := rfl
  rw [e1]
  show wpAny _ _ (pure ((n : Int) - 1, (-1 : Int), Builtin.Slice.slicePlaces ((n : Int) - 1) (-1) (-1))) _ _ s
  have e2 : Builtin.Slice.slicePlaces ((n : Int) - 1) (-1) (-1) = n := by
    unfold Builtin.Slice.slicePlaces
    rw [if_neg (by decide)]
    have e : (- -1 : Int) = 1 := by decide
    rw [e, Int.ediv_one]
    split <;> omega
  rw [e2]
  exact wpAny_pure h
theorem pick_rev (xs : Array Value) : ((List.range xs.size).filterMap fun (m : Nat) => xs[(((xs.size : Int) - 1) + (m : Int) * -1).toNat]?).toArray = xs.toList.reverse.toArray := by
  have e : (fun (m : Nat) => xs[(((xs.size : Int) - 1) + (m : Int) * -1).toNat]?) = (fun j => xs[j]?) ∘ fun m => xs.size - 1 - m := by
    funext m
    show xs[(((xs.size : Int) - 1) + (m : Int) * -1).toNat]? = xs[xs.size - 1 - m]?
    rw [show (((xs.size : Int) - 1) + (m : Int) * -1).toNat = xs.size - 1 - m by omega]
  rw [e, ← List.filterMap_map, PySem.W.krv_range, List.filterMap_reverse, PySem.W.krv_all]
theorem item_rev {t sl : Addr} {items : Array Value} {vl vu vs : Value} {Q : Value → Shared → Prop} (ht : IsTup s.heap t items) (hs : s.heap.IsSliceOf sl vl vu vs) (pl : IsPart vl none) (pu : IsPart vu none) (ps : IsPart vs (some (-1)))
    (h : Q (.ref s.heap.objs.size) { s with heap := s.heap.push { cls := .type "tuple", data := .seq items.toList.reverse.toArray } }) (hz : items.size ≤ sizeLine) : wpAny (model prog w) A (getItem (.ref t) (.ref sl)) Q E s := by
  have big : sizeOk (.seq items.toList.reverse.toArray) := by
    show items.toList.reverse.toArray.size ≤ sizeLine
    rw [List.size_toArray, List.length_reverse, Array.length_toList]
    exact hz
  obtain ⟨o, ho, hc, hd⟩ := id hs
  have hT : s.TypeIs (.ref sl) "slice" := ⟨o, ho, hc⟩
  unfold getItem
  try with_reducible refine wpAny_holding ?_
  first | refine wpAny_bind (wpAny_pure ?_) | skip
  refine wpAny_bind (wpAny_sequenceKey ht.typeIs (by decide) ?_)
  refine wpAny_bind (wpAny_callSpecial?_slot (name := Str.ofString "__getitem__") ht.typeIs PyProof.Rows.slot_tuple_getitem (wpAny_call_entry PyProof.Rows.slot_tuple_getitem ht.typeIs entry_tuple_getitem ?_ (args_tuple_getitem _ _)))
  show wpAny _ _ (Builtin.Tuple.tupleItemsOf (.ref t) >>= _) _ _ s
  refine wpAny_bind (tupleItemsOf_ ht ?_)
  refine wpAny_bind (wpAny_typeOf hT ?_)
  rw [if_pos (by decide)]
  refine wpAny_bind (applied_rev hs pl pu ps ?_)
  have no : ¬ ((((items.size : Int) - 1) == 0 && (-1 : Int) == 1 && items.size == items.size) = true) := by
    rw [show ((-1 : Int) == 1) = false by decide, Bool.and_false, Bool.false_and]
    decide
  show wpAny _ _ (if ((((items.size : Int) - 1) == 0 && (-1 : Int) == 1 && items.size == items.size) = true) then _ else _) _ _ s
  rw [if_neg no, pick_rev]
  first
    | exact wpAny_bind (m := Builtin.Tuple.tupleExact _) (wpAny_newObj_type (wpAny_pure ⟨_, rfl, wpAny_pure h⟩) big)
    | exact wpAny_bind (m := Builtin.Tuple.tupleExact _) (wpAny_newObj_type (wpAny_bind (wpAny_pure (wpAny_pure ⟨_, rfl, wpAny_pure h⟩))) big)
    | exact wpAny_bind (wpAny_bind (m := Builtin.Tuple.tupleExact _) (wpAny_newObj_type (wpAny_pure (wpAny_pure ⟨_, rfl, wpAny_pure h⟩)) big))
    | exact wpAny_bind (wpAny_bind (m := Builtin.Tuple.tupleExact _) (wpAny_newObj_type (wpAny_pure ⟨_, rfl, wpAny_pure h⟩) big))
end
def tRevT (K : PySem.W.Frag) (te : TE) : TE := fun σ H Q => te σ H fun x H1 => ∃ a xs, x = .ref a ∧ SqT K H1 a xs ∧ ∀ p, H1 p = none → Q (.ref p) (upd H1 p (.tup xs.reverse))
theorem pe_revT {X : Cx} {e : Expr} {te : TE} {k : Nat} {p1 p2 p3 pos : Pos} (he : PE X e te) : PE X (.Subscript e (.Slice none none (some (.UnaryOp .USub (.Constant (.int 1) k p1) p2)) p3) pos) (tRevT X.K te) := by
  refine ⟨fun pins s σ H Q I h => ?_⟩
  refine Subscript_ (thn (he.run pins s σ H _ I h) fun v s1 ⟨x, H1, I1, r1, q1⟩ => ?_)
  obtain ⟨a, xs, rfl, hx, q⟩ := q1
  cases r1
  have st : PO X (some (.UnaryOp .USub (.Constant (.int 1) k p1) p2)) (tPart (tUn (rU fun i => .int (-i)) (tC (.int 1)))) := po_some (pe_un un_neg pe_int)
  refine wpAny_Slice (thn (po_none.run pins s1 σ H1 (fun o H2 => o = none ∧ H2 = H1) I1 ⟨rfl, rfl⟩) fun vl s2 ⟨l, H2, I2, pl, el, e2⟩ => ?_)
  subst el e2
  refine thn (po_none.run pins s2 σ H2 (fun o H3 => o = none ∧ H3 = H2) I2 ⟨rfl, rfl⟩) fun vu s3 ⟨u, H3, I3, pu, eu, e3⟩ => ?_
  subst eu e3
  refine thn (st.run pins s3 σ H3 (fun o H4 => o = some (-1) ∧ H4 = H3) I3 ⟨1, rfl, -1, rfl, rfl, rfl⟩) fun vs s4 ⟨o, H4, I4, ps, eo, e4⟩ => ?_
  subst eo e4
  have I5 : Inv X pins σ H4 { s4 with heap := s4.heap.push { cls := .type "slice", data := .fields #[vl, vu, vs] } } := I4.kept (t' := s4.toks) fun b ob q => Heap.get?_push_of_some _ q
  obtain ⟨its, r, ht, hz⟩ := I5.tuple hx
  have hlen := r.length
  show wpAny (model X.prog X.w) X.A (subscriptTail e (.Slice none none (some (.UnaryOp .USub (.Constant (.int 1) k p1) p2)) p3) (.ref a) (.ref s4.heap.objs.size)) (EP X pins σ Q) X.xe { s4 with heap := s4.heap.push { cls := .type "slice", data := .fields #[vl, vu, vs] } }
  refine tail_any (ops := [.ref a, .ref s4.heap.objs.size]) ht.typeIs (PyProof.Rows.slot_tuple_getitem.lookup) ?_ (by with_unfolding_all rfl)
  refine item_rev ht (Heap.IsSliceOf.new _ vl vu vs) pl pu ps ?_ (by rw [List.size_toArray]; omega)
  refine ⟨.ref _, _, I5.laid (t' := s4.toks) (o := .tup xs.reverse) (fun b ob q => Heap.get?_push_of_some _ q) (Nat.le_refl _) ?_, rfl, q _ (I5.hok.fresh (Nat.le_refl _))⟩
  exact ⟨by rw [List.length_reverse]; exact hz, _, r.reverse, IsTup.new _ _⟩
/-! ### list(text) -/
theorem vals_get : ∀ (vs : List V) (us : List Value), vs.length = us.length → (∀ (i : Nat) (v : V) (u : Value), vs[i]? = some v → us[i]? = some u → RelV v u) → Vals vs us
  | [], [], _, _ => .nil
  | [], _ :: _, e, _ => by cases e
  | _ :: _, [], e, _ => by cases e
  | v :: vs, u :: us, e, h => .cons (h 0 v u rfl rfl) (vals_get vs us (Nat.succ.inj e) fun i a b h1 h2 => h (i + 1) a b h1 h2)
theorem items_strs {x : Str} {acc : Array Value} {n : Nat} (h : ItemsOf (SignAt x) acc n) (hn : n = x.cps.size) : Vals (x.cps.toList.map fun c => V.str ⟨#[c]⟩) acc.toList := by
  obtain ⟨h1, h2⟩ := h
  refine vals_get _ _ (by rw [List.length_map, Array.length_toList, Array.length_toList, h1, hn]) fun i v u hv hu => ?_
  rw [Array.getElem?_toList] at hu
  obtain ⟨c, t, hc, rfl⟩ := h2 i u hu
  rw [List.getElem?_map, Array.getElem?_toList, hc] at hv
  obtain rfl := Option.some.inj hv
  exact ⟨t, rfl⟩
theorem call_listS {X : Cx} (hc : X.calm = true) : CallR X (.type "list") (fun xs H Q => ∃ x : Str, xs = [.str x] ∧ x.cps.size ≤ sizeLine ∧ ∀ l, H l = none → Q (.ref l) (upd H l (.lst (x.cps.toList.map fun c => V.str ⟨#[c]⟩)))) := by
  intro pins s σ H xs us Q I r h
  obtain ⟨x, rfl, hz, q⟩ := h
  obtain ⟨u, rfl, t, rfl⟩ := vals1 r
  refine call_list_str (I.ok.hd hc) x t (fun h' tk acc c kp e hi => ?_) hz
  exact ⟨.ref s.heap.objs.size, _, I.laid (t' := tk) kp (Nat.le_refl _) (show ObjOk X.prog X.w _ h' _ (.lst _) from ⟨by rw [List.length_map, Array.length_toList]; exact hz, acc.toList, c, items_strs hi rfl, e⟩), rfl, q _ (I.hok.fresh (Nat.le_refl _))⟩
/-! ### == and != by an own __eq__ -/
section
variable {prog : Program} {w : World} {A : Around} {E : Value → Shared → Prop} {s : Shared} {K : PySem.W.Frag} {x C L f : Addr} {ox : Obj} {od : Option Obj} {b tb : Value}
theorem call_ne {Q : Value → Shared → Prop} (hu : A.units + 8 < cLine) (KX : K.In s.heap) (I : PySem.W.InstAt s.heap x ox C od) (hob : PySem.W.subIn K (.ref C) (.type "object") = some true)
    (hs : PySem.W.findIn K (.ref C) "__eq__" = some (some (.ref f))) (hf : PySem.W.isFn K (.ref f) = true)
    (h : wpAny (model prog w) A.in1 (call (.ref f) [.ref x, b]) (fun v s' => ∃ r, v = .bool r ∧ Q (.bool (!r)) s') E s) : wpAny (model prog w) A (call (.builtin "object.__ne__") [.ref x, b]) Q E s := by
  refine wpAny_call (codeAny_call_builtin PySem.F.cmp_object.ne.plain PySem.F.cmpEntry_ne ?_)
  simp only [checkBuiltinCall, PySem.F.cmpKind_ne, PySem.F.cmpSplit_ne]
  have ha := PySem.F.cmpArgs_ne (.ref x) b
  have LI : PySem.W.Looks (model prog w) s.heap (isInstance (.ref x) (.type "object")) true := I.type.andThen (PySem.W.looks_subIn KX hob)
  refine wpAny_bind (LI.here ?_)
  have body : wpAny (model prog w) A.in1 (Builtin.«object.__ne__» ⟨[.ref x, b], []⟩) (fun fin s' => match fin with
      | .done fl => wants Q E (.ok fl) s'
      | .again c => c.quiet = true ∧ codeAny (model prog w) A c (wants Q E) s') E s := by
    unfold Builtin.«object.__ne__»
    refine wpAny_bind (m := slotArgs "__ne__" 1 ⟨[.ref x, b], []⟩) (wpAny_of_eq (a := (.ref x, [b])) rfl ?_)
    dsimp only
    refine wpAny_bind (wpAny_cRoomFor (by show A.units + 1 < cLine; omega) ?_)
    refine wpAny_bind (PySem.W.ifBound_K KX I hs hf (wpAny_mono h (fun v s' z => ?_) fun _ _ e => e))
    obtain ⟨r, rfl, q⟩ := z
    dsimp only
    unfold truthy
    dsimp only
    exact wpAny_bind (wpAny_pure (wpAny_pure q))
  cases hsig : Manifest.signature? "object.__ne__" with
  | none => exact wpAny_pure body
  | some sig =>
    simp only [argsOk, hsig] at ha
    have h2 : Bind.checkArgs "object.__ne__" sig ⟨[.ref x, b], []⟩ = pure () := ha
    show wpAny _ A.in1 (Bind.checkArgs "object.__ne__" sig ⟨[.ref x, b], []⟩) _ _ _
    rw [h2]
    exact wpAny_pure body
theorem ne_own {Q : Value → Shared → Prop} (hu : A.units + 8 < cLine) (KX : K.In s.heap) (I : PySem.W.InstAt s.heap x ox C od) (hb : PySem.W.Looks (model prog w) s.heap (typeOf b) tb) (hn : PySem.W.notFirst K C tb = true)
    (hne : PySem.W.findIn K (.ref C) "__ne__" = some (some (.builtin "object.__ne__"))) (hob : PySem.W.subIn K (.ref C) (.type "object") = some true)
    (hs : PySem.W.findIn K (.ref C) "__eq__" = some (some (.ref f))) (hf : PySem.W.isFn K (.ref f) = true)
    (h : wpAny (model prog w) A.in1 (call (.ref f) [.ref x, b]) (fun v s' => ∃ r, v = .bool r ∧ Q (.bool (!r)) s') E s) : wpAny (model prog w) A (richCompare .NotEq (.ref x) b) Q E s := by
  have told : wpAny (model prog w) A (tryCompare (.ref x) (cmpInfo .NotEq).2.1 b) (fun r s' => ∃ v, r = some v ∧ Q v s') E s := by
    unfold tryCompare
    refine wpAny_bind ?_
    show wpAny _ A (callSpecialIfBound? (.ref x) "__ne__" [b]) _ _ s
    simp only [callSpecialIfBound?, bindSpecialIfBound?]
    refine wpAny_holding (wpAny_bind (wpAny_bind (wpAny_bind (I.type.here ((PySem.W.looks_findIn KX hne).here ?_)))))
    have fin : wpAny (model prog w) A (call (.builtin "object.__ne__") ([.ref x] ++ [b]) >>= fun v => pure (some v)) (fun r s' => wpAny (model prog w) A (match r with
        | some .notImplemented | none => pure none
        | some v => pure (some v)) (fun r s' => ∃ v, r = some v ∧ Q v s') E s') E s :=
      wpAny_bind (call_ne hu KX I hob hs hf (wpAny_mono h (fun v s' z => by
        obtain ⟨r, e, q⟩ := z
        exact ⟨r, e, wpAny_pure (wpAny_pure ⟨_, rfl, q⟩)⟩) fun _ _ e => e))
    simp only [PySem.F.cmp_object.ne.bind]
    refine wpAny_bind (wpAny_askSetting (wpAny_ite ?_))
    split
    · exact wpAny_bind (wpAny_pure (wpAny_pure fin))
    · exact wpAny_tryCatch (wpAny_bind (wpAny_pure (wpAny_pure fin)))
  unfold richCompare
  simp only [oneThing_ref]
  refine wpAny_holding (wpAny_bind (wpAny_cRoomFor (by omega) ?_))
  refine wpAny_bind (I.type.here (wpAny_bind (hb.here ?_)))
  split
  · rename_i q
    have e : PySem.W.subIn K tb (.ref C) = some false := by
      rcases Bool.or_eq_true_iff.mp hn with e | e
      · rw [beq_iff_eq.mp e] at q
        simp at q
      · exact beq_iff_eq.mp e
    refine wpAny_bind ((PySem.W.looks_subIn KX e).here ?_)
    simp only [Bool.false_eq_true, if_false]
    refine wpAny_bind (wpAny_mono told (fun r s' z => ?_) fun _ _ e => e)
    obtain ⟨v, rfl, hq⟩ := z
    exact wpAny_pure hq
  · refine wpAny_bind (wpAny_pure ?_)
    simp only [Bool.false_eq_true, if_false]
    refine wpAny_bind (wpAny_mono told (fun r s' z => ?_) fun _ _ e => e)
    obtain ⟨v, rfl, hq⟩ := z
    exact wpAny_pure hq
end
/-- what the class must say -/
structure EqC (K : PySem.W.Frag) (C f : Addr) : Prop where
  eq : PySem.W.findIn K (.ref C) "__eq__" = some (some (.ref f))
  fn : PySem.W.isFn K (.ref f) = true
  ne : PySem.W.findIn K (.ref C) "__ne__" = some (some (.builtin "object.__ne__"))
  ob : PySem.W.subIn K (.ref C) (.type "object") = some true
def rOwn (K : PySem.W.Frag) (C : Addr) (sp : Sp) (E : XK) (neg : Bool) : R2 := fun x y H Q => ∃ (a d : Addr) (fs : List (Str × V)) (t : Value), x = .ref a ∧ H a = some (.ins C d fs) ∧ TyX K H y t ∧ PySem.W.notFirst K C t = true ∧
  sp [.ref a, y] H (fun v H' => ∃ b, v = .bl b ∧ Q (.bl (if neg = true then !b else b)) H') E
section
variable {X : Cx} {CX : CXT} {n : Nat} {C f : Addr} {fd : FuncData} {ps : List Str} {sp : Sp} {E : XK}
theorem run_own {pins : List (Addr × Obj)} {σ : L2.St} {H : Hp} {s : Shared} {Q : VK} {A : Around} {a : Addr} {y : V} {u : Value} (F : FnOk X.prog X.w X.K X.mg X.base CX n f fd ps sp) (hr : Room n A) (hf : A.frames = X.A.frames) (hb : Binds X.K fd ps []) (hx : Passes CX X E)
    (I : Inv X pins σ H s) (ry : RelV y u) (h : sp [.ref a, y] H (fun v H' => ∃ b, v = .bl b ∧ Q (.bl b) H') E) :
    wpAny (model X.prog X.w) A (call (.ref f) [.ref a, u]) (fun v s' => ∃ r, v = .bool r ∧ EP X pins σ Q (.bool r) s') X.xe s := by
  have e0 : Env0 X.prog X.w X.K X.mg X.base A X.stack s H := by
    have e := I.env0
    exact ⟨by rw [hf]; exact e.frames, e.mod, e.bs, e.bsz, e.funs, e.frf, e.hok, e.bare⟩
  have hl := F.len _ _ _ _ h
  have r2 : Vals [V.ref a, y] [Value.ref a, u] := .cons rfl (.cons ry .nil)
  refine wpAny_call (codeAny_mono (F.run A X.stack s H ⟨[.ref a, u], []⟩ [.ref a, u] [.ref a, y] _ E hr e0 (by
    have z := hb s [.ref a, u] I.kIn (by simpa using hl)
    simpa using z) r2 h) fun r s' hq => ?_)
  cases r with
  | error e => exact hx pins σ H s e s' I hq
  | ok fl =>
    cases fl with
    | ret z =>
      obtain ⟨v, H', I', rz, hh⟩ := I.after hq
      obtain ⟨b, ev, q⟩ := hh
      subst ev
      obtain rfl : z = .bool b := rz
      exact ⟨b, rfl, .bl b, H', I', rfl, q⟩
    | next => exact False.elim hq
    | brk => exact False.elim hq
    | cont => exact False.elim hq
theorem op_own (T : EqC X.K C f) (F : FnOk X.prog X.w X.K X.mg X.base CX n f fd ps sp) (hr : Room n X.A) (hb : Binds X.K fd ps []) (hx : Passes CX X E) : OpR X (compareOp .Eq) (rOwn X.K C sp E false) := by
  intro pins s σ H x y v u Q I rx ry h
  obtain ⟨a, d, fs, t, rfl, ha, ty, nf, q⟩ := h
  cases rx
  obtain ⟨mA, J, _⟩ := ins_get I.hok ha
  obtain ⟨od, J, _⟩ := J.look
  obtain ⟨P, kx, hP, _⟩ := kit_of I ry ty
  obtain ⟨m, hF⟩ := I.fr
  simp only [Bool.false_eq_true, if_false] at q
  refine PySem.W.cmp_K (op := .Eq) hr.units0 hF I.ok.mod.kin J (kx.ty _ _ I.kIn hP) nf T.eq T.fn (wpAny_mono (run_own (A := X.A) F hr rfl hb hx I ry q) (fun v s' z => ?_) fun _ _ e => e)
  obtain ⟨r, rfl, q⟩ := z
  exact q
theorem op_ownNe (T : EqC X.K C f) (F : FnOk X.prog X.w X.K X.mg X.base CX n f fd ps sp) (hr : Room (n + 1) X.A) (hb : Binds X.K fd ps []) (hx : Passes CX X E) : OpR X (compareOp .NotEq) (rOwn X.K C sp E true) := by
  intro pins s σ H x y v u Q I rx ry h
  obtain ⟨a, d, fs, t, rfl, ha, ty, nf, q⟩ := h
  cases rx
  obtain ⟨mA, J, _⟩ := ins_get I.hok ha
  obtain ⟨od, J, _⟩ := J.look
  obtain ⟨P, kx, hP, _⟩ := kit_of I ry ty
  refine ne_own (by have := hr.un; omega) I.kIn J (kx.ty _ _ I.kIn hP) nf T.ne T.ob T.eq T.fn (wpAny_mono (run_own (A := X.A.in1) (Q := fun v H' => ∃ b, v = .bl b ∧ Q (.bl (!b)) H') F hr.in1 rfl hb hx I ry ?_) (fun v s' z => ?_) fun _ _ e => e)
  · have e : (fun v H' => ∃ b, v = V.bl b ∧ Q (.bl (if true = true then !b else b)) H') = fun v H' => ∃ b, v = V.bl b ∧ ∃ c, V.bl b = .bl c ∧ Q (.bl (!c)) H' := by
      funext v H'
      refine propext ⟨fun ⟨b, e, q⟩ => ⟨b, e, b, rfl, q⟩, fun ⟨b, e, c, e2, q⟩ => ⟨b, e, by cases e2; exact q⟩⟩
    rw [e] at q
    exact q
  · obtain ⟨r, rfl, v, H', I', rv, b, ev, q⟩ := z
    subst ev
    have e : r = b := by
      have z : Value.bool r = .bool b := rv
      cases z
      rfl
    subst e
    exact ⟨r, rfl, .bl (!r), H', I', rfl, q⟩
end
/-! ### C(..) in a try -/
def tMakeS (C : Addr) (sp : Sp) (dvs : List V) (E : L2.St → XK) (t : TA) : TE := fun σ H Q => t σ H fun vs H1 => ∀ x dx, H1 x = none → H1 dx = none → dx ≠ x →
  sp (.ref x :: (vs ++ dvs)) (upd (upd H1 dx (.own x)) x (.ins C dx [])) (fun v H2 => v = .non ∧ Q (.ref x) H2) (E σ)
section
variable {X : Cx} {CX : CXT} {k : Nat} {C f : Addr} {fd : FuncData} {ps : List Str} {sp : Sp} {E : L2.St → XK} {x : Str} {p pos : Pos} {e : Expr} {es : List Expr} {t : TA} {dvs : List V} {ds : List Value}
theorem run_makeS {pins : List (Addr × Obj)} {σ : L2.St} {H : Hp} {s : Shared} {Q : VK} {us : List Value} {vs : List V} (M : Mk X.K C f) (F : FnOk X.prog X.w X.K X.mg X.base CX k f fd ps sp) (hr : Room (k + 1) X.A) (hb : Binds X.K fd ps ds) (hd : Vals dvs ds)
    (hx : PassesAt CX X σ (E σ)) (I : Inv X pins σ H s) (r : Vals vs us)
    (h : ∀ x dx, H x = none → H dx = none → dx ≠ x → sp (.ref x :: (vs ++ dvs)) (upd (upd H dx (.own x)) x (.ins C dx [])) (fun v H2 => v = .non ∧ Q (.ref x) H2) (E σ)) :
    wpAny (model X.prog X.w) X.A (call (.ref C) us) (EP X pins σ Q) X.xe s := by
  have hq := h (s.heap.objs.size + 1) s.heap.objs.size (I.hok.fresh (Nat.le_succ _)) (I.hok.fresh (Nat.le_refl _)) (Nat.ne_of_lt (Nat.lt_succ_self _))
  have I2 := Inv.made (C := C) I
  have r2 : Vals (V.ref (s.heap.objs.size + 1) :: (vs ++ dvs)) (Value.ref (s.heap.objs.size + 1) :: (us ++ ds)) := .cons rfl (r.append hd)
  have hl : (Value.ref (s.heap.objs.size + 1) :: us ++ ds).length = ps.length := by
    have e := r2.length
    rw [F.len _ _ _ _ hq] at e
    exact e.symm
  refine wpAny_call (make_map (f := f) I.kIn M.makes M.init (beq_iff_eq.mp M.fn) (codeAny_mono (F.run _ X.stack _ _ ⟨Value.ref (s.heap.objs.size + 1) :: us, []⟩ (Value.ref (s.heap.objs.size + 1) :: (us ++ ds)) _ _ (E σ) (hr.make C us [])
    (I2.env0.make C us []) (hb _ (Value.ref (s.heap.objs.size + 1) :: us) I2.kIn hl) r2 hq) fun r s' hq' => ?_))
  cases r with
  | error e => exact hx pins _ _ e s' I2 hq'
  | ok fl =>
    cases fl with
    | ret u =>
      obtain ⟨v, H', I3, rv, ev, q3⟩ := I2.after hq'
      subst ev
      exact ⟨rv, ⟨V.ref (s.heap.objs.size + 1), H', I3, rfl, q3⟩⟩
    | next => exact False.elim hq'
    | brk => exact False.elim hq'
    | cont => exact False.elim hq'
theorem pe_makeS (M : Mk X.K C f) (F : FnOk X.prog X.w X.K X.mg X.base CX k f fd ps sp) (hr : Room (k + 1) X.A) (hg : Gl X x) (hm : X.mg x = some (.ref C)) (hb : Binds X.K fd ps ds) (hd : Vals dvs ds) (hx : ∀ σ, PassesAt CX X σ (E σ))
    (ha : PA X (e :: es) t) (hdb : (x == ("__debug__" : Str)) = false := by decide) (he : starEach (e :: es) X.env = (false, eval e X.env) :: starEach es X.env := by rfl) (hpl : (backTo pos (starEach es X.env)).any (·.1) = false := by rfl) :
    PE X (.Call (.Name x p) (e :: es) [] pos) (tMakeS C sp dvs E t) := by
  refine ⟨fun pins s σ H Q I h => ?_⟩
  refine wpAny_Call_Name_kw (ld_glob I hg hm ?_ hdb)
  refine PySem.W.callWith_K (h₀ := X.base) I.ok.mod.kin M.kp (thn (ha.run pos pins s σ H _ I h) fun us s1 ⟨vs, H1, I1, r, q⟩ => ⟨I1.kIn, ?_⟩) he hpl
  exact run_makeS M F hr hb hd (hx σ) I1 r q
end
/-- of a callee that raises, where it does not -/
theorem passN {X : Cx} : Passes (L2.CX X.prog X.w) X (fun _ _ _ => False) := fun _ _ _ _ _ _ _ h => by
  obtain ⟨_, _, _, _, _, _, _, _, _, _, _, _, z⟩ := h
  exact z.elim
/-- X() raised, an own exception class without own __init__ -/
theorem pmk_own0 {X : Cx} {C : Addr} {x : Str} {p pos : Pos} (q : PySem.W.excIn X.K C [.type "ValueError", .type "Exception", .type "BaseException", .type "object"] "ValueError.__new__" = true) (gC : X.mg x = some (.ref C)) (kC : PySem.W.keepIn X.K (.ref C) = true)
    (b : PySem.W.subIn X.K (.ref C) (.type "BaseException") = some true) (t : PySem.W.typeIn X.K (.ref C) = some (.type "type")) (hg : Gl X x) (hdb : (x == ("__debug__" : Str)) = false := by decide) : PMk X (.Call (.Name x p) [] [] pos) (fun _ H Q => Q (.ref C) none H) := by
  intro pins s σ H Q I h
  refine wpAny_Call_Name_kw (ld_glob I hg gC ?_ hdb)
  refine PySem.W.callWith_K0 I.kIn kC ?_
  show wpAny _ _ (call (.ref C) []) _ _ _
  obtain ⟨bm, N, nm, qn, bs, hdct, sn, sub, ab, col, dd, k0, k1, k2, k3, k5, mN, hC, hN, hni, T⟩ := exc_obj I.kIn q
  refine wpAny_call_exc_subT F.excBase_ValueError T hC hN hni (fun h' e hm => ?_) (by show 0 ≤ sizeLine; exact Nat.zero_le _)
  exact mk_of I hm (raises_own b t) h (I.hok.gone hm.new)
end NR

/-! more readings -/
namespace RB
open PySem PySem.Spec PyProof.Rows L2
section
variable {K : PySem.W.Frag} {σ : L2.St} {H : Hp} {Q : VK} {ta tb tc te to : TE} {t tx : TA} {r r' : R2}
theorem chain (h : ta σ H fun x H1 => tb σ H1 fun y H2 => r x y H2 fun z H3 => ∃ k, z = .bl k ∧ (if k = true then tc σ H3 fun w' H4 => r' y w' H4 Q else Q (.bl false) H3)) : tChain r r' ta tb tc σ H Q := h
theorem inT {p : Addr} {xs : List V} {x : V} (hq : SqL K H p xs ∨ SqT K H p xs) (fx : flatV x = true) (fs : xs.all flatV = true) (q : Q (.bl (inV x xs)) H) : rIn K false x (.ref p) H Q := ⟨p, xs, rfl, hq, fx, fs, q⟩
theorem ninT {p : Addr} {xs : List V} {x : V} (hq : SqL K H p xs ∨ SqT K H p xs) (fx : flatV x = true) (fs : xs.all flatV = true) (q : Q (.bl (!inV x xs)) H) : rIn K true x (.ref p) H Q := ⟨p, xs, rfl, hq, fx, fs, q⟩
theorem inS {c : Nat} {z : Str} {R : Nat → Str → Prop} (q : R c z) : ∃ (d : Nat) (y : Str), V.str ⟨#[c]⟩ = .str ⟨#[d]⟩ ∧ V.str z = .str y ∧ R d y := ⟨c, z, rfl, rfl, q⟩
theorem lenL {p : Addr} {xs : List V} {R : Nat → Prop} (hx : SqL K H p xs) (q : R xs.length) : ∃ y n, [V.ref p] = [y] ∧ LenV K y H n ∧ R n := ⟨_, _, rfl, .inl ⟨xs, hx, rfl⟩, q⟩
theorem lenT {p : Addr} {xs : List V} {R : Nat → Prop} (hx : SqT K H p xs) (q : R xs.length) : ∃ y n, [V.ref p] = [y] ∧ LenV K y H n ∧ R n := ⟨_, _, rfl, .inr ⟨xs, hx, rfl⟩, q⟩
theorem lenS {z : Str} {R : Nat → Prop} (hz : z.length ≤ sizeLine) (q : R z.length) : ∃ y n, [V.str z] = [y] ∧ LenV K y H n ∧ R n := ⟨_, _, rfl, ⟨hz, rfl⟩, q⟩
theorem m1 {r : V → List V → Hp → VK → Prop} (h : to σ H fun x H1 => (∃ a, x = .str a) ∧ te σ H1 fun y H2 => r x [y] H2 Q) : tM1 r to te σ H Q := h
theorem strE {z : Str} {R : Prop} (q : R) : (∃ a, V.str z = .str a) ∧ R := ⟨⟨z, rfl⟩, q⟩
theorem joinV {z : Str} {p : Addr} {ys : List Str} {R : Str → List Str → Prop} (hq : SqL K H p (ys.map V.str) ∨ SqT K H p (ys.map V.str)) (hz : (ys.map (·.length)).sum + ys.length * z.length ≤ 16777216) (q : R z ys) :
    ∃ a q', ∃ ws : List Str, V.str z = .str a ∧ [V.ref p] = [.ref q'] ∧ (SqL K H q' (ws.map V.str) ∨ SqT K H q' (ws.map V.str)) ∧ (ws.map (·.length)).sum + ws.length * a.length ≤ 16777216 ∧ R a ws := ⟨z, p, ys, rfl, rfl, hq, hz, q⟩
theorem cut_all {xs : List V} {lo hi : Option Int} (h : HT.sIx xs.length 0 lo = 0 ∧ HT.sIx xs.length xs.length hi = xs.length) : cutV xs lo hi = xs := by
  unfold cutV
  rw [h.1, h.2, List.drop_zero]
  exact List.take_of_length_le (by omega)
theorem slT {a : Addr} {xs : List V} {lo hi : Option Int} (hx : H a = some (.tup xs)) (h : ∀ p H', Same H H' → H' p = some (.tup (cutV xs lo hi)) → (p = a ∨ H p = none) → Q (.ref p) H') : rSlA K (.ref a) lo hi H Q := by
  refine ⟨a, xs, rfl, .inl (.inl hx), fun hw => ?_, fun _ p hp => h p _ (RD.same_new hp) upd_same (.inr hp)⟩
  exact h a H (Same.refl _) (by rw [cut_all hw]; exact hx) (.inl rfl)
theorem catT {a b : Addr} {xs ys : List V} (ha : H a = some (.tup xs)) (hb : H b = some (.tup ys)) (hz : xs.length + ys.length ≤ sizeLine)
    (h : ∀ p H', Same H H' → H' p = some (.tup (xs ++ ys)) → (p = a ∨ p = b ∨ H p = none) → Q (.ref p) H') : rCatA K (.ref a) (.ref b) H Q := by
  refine ⟨a, b, xs, ys, rfl, rfl, .inl (.inl ha), .inl (.inl hb), hz, fun e => ?_, fun _ e => ?_, fun _ _ p hp => h p _ (RD.same_new hp) upd_same (.inr (.inr hp))⟩
  · exact h b H (Same.refl _) (by rw [e, List.nil_append]; exact hb) (.inr (.inl rfl))
  · exact h a H (Same.refl _) (by rw [e, List.append_nil]; exact ha) (.inl rfl)
def RevX (K : PySem.W.Frag) (x : V) (H1 : Hp) (Q : VK) : Prop := ∃ a xs, x = .ref a ∧ SqT K H1 a xs ∧ ∀ p, H1 p = none → Q (.ref p) (upd H1 p (.tup xs.reverse))
theorem rev (h : te σ H fun x H1 => RevX K x H1 Q) : NR.tRevT K te σ H Q := h
theorem revV {a : Addr} {xs : List V} (hx : SqT K H a xs) (h : ∀ p H', H p = none → Same H H' → H' p = some (.tup xs.reverse) → Q (.ref p) H') : RevX K (.ref a) H Q := ⟨a, xs, rfl, hx, fun p hp => h p _ hp (RD.same_new hp) upd_same⟩
def rListS : List V → Hp → VK → Prop := fun xs H Q => ∃ x : Str, xs = [.str x] ∧ x.cps.size ≤ sizeLine ∧ ∀ l, H l = none → Q (.ref l) (upd H l (.lst (x.cps.toList.map fun c => V.str ⟨#[c]⟩)))
theorem call_listS {X : Cx} (hc : X.calm = true) : CallR X (.type "list") rListS := NR.call_listS hc
theorem listS {z : Str} (hz : z.cps.size ≤ sizeLine) (h : ∀ p H', H p = none → Same H H' → H' p = some (.lst (z.cps.toList.map fun c => V.str ⟨#[c]⟩)) → Q (.ref p) H') : rListS [.str z] H Q := ⟨z, rfl, hz, fun p hp => h p _ hp (RD.same_new hp) upd_same⟩
def rListO (K : PySem.W.Frag) : List V → Hp → VK → Prop := fun xs H Q => ∃ p ys, xs = [.ref p] ∧ (SqL K H p ys ∨ SqT K H p ys) ∧ ∀ l, H l = none → Q (.ref l) (upd H l (.lst ys))
theorem call_listO {X : Cx} : CallR X (.type "list") (rListO X.K) := call_list_of
theorem listO {a : Addr} {xs : List V} (hx : SqL K H a xs ∨ SqT K H a xs) (h : ∀ p H', H p = none → Same H H' → H' p = some (.lst xs) → Q (.ref p) H') : rListO K [.ref a] H Q := ⟨a, xs, rfl, hx, fun p hp => h p _ hp (RD.same_new hp) upd_same⟩
def rTupO (K : PySem.W.Frag) : List V → Hp → VK → Prop := fun xs H Q => ∃ p ys, xs = [.ref p] ∧ ((SqL K H p ys ∧ ∀ l, H l = none → Q (.ref l) (upd H l (.tup ys))) ∨ (SqT K H p ys ∧ Q (.ref p) H))
theorem call_tupO {X : Cx} : CallR X (.type "tuple") (rTupO X.K) := call_tuple_of
theorem tupL {a : Addr} {xs : List V} (hx : SqL K H a xs) (h : ∀ p H', H p = none → Same H H' → H' p = some (.tup xs) → Q (.ref p) H') : rTupO K [.ref a] H Q := ⟨a, xs, rfl, .inl ⟨hx, fun p hp => h p _ hp (RD.same_new hp) upd_same⟩⟩
theorem fld {f : Str} (h : ta σ H fun x H1 => ∃ a C dx fs v, x = .ref a ∧ H1 a = some (.ins C dx fs) ∧ Cls K C ∧ NoAttr K C f ∧ fs.lookup f = some v ∧ Q v H1) : tFld K ta f σ H Q := h
theorem fldV {a C dx : Addr} {fs : List (Str × V)} {v : V} {f : Str} {R : V → Prop} (ha : H a = some (.ins C dx fs)) (c : Cls K C) (n : NoAttr K C f) (l : fs.lookup f = some v) (q : R v) :
    ∃ b D dy gs w, V.ref a = .ref b ∧ H b = some (.ins D dy gs) ∧ Cls K D ∧ NoAttr K D f ∧ gs.lookup f = some w ∧ R w := ⟨a, C, dx, fs, v, rfl, ha, c, n, l, q⟩
def SSX (v : V) (H1 : Hp) (Q : VK) : Prop := ∃ x : Str, v = .str x ∧ x.cps.size ≤ 4000 ∧ ∀ (ys : List Str) (p : Addr), SST.Own x ys → H1 p = none → Q (.ref p) (upd H1 p (.lst (ys.map V.str)))
theorem ss (h : te σ H fun v H1 => SSX v H1 Q) : SST.tSS te σ H Q := h
theorem ssV {z : Str} (hz : z.cps.size ≤ 4000) (h : ∀ ys p H', SST.Own z ys → H p = none → Same H H' → H' p = some (.lst (ys.map V.str)) → Q (.ref p) H') : SSX (.str z) H Q := ⟨z, rfl, hz, fun ys p ho hp => h ys p _ ho hp (RD.same_new hp) upd_same⟩
theorem w_str {z : Str} : Walk (Its z) z.cps.size (fun _ => True) (YAt (z.cps.toList.map fun c => V.str ⟨#[c]⟩)) := walk_str.mono (fun _ h => h) fun i H x H' _ _ y => by
  obtain ⟨rfl, c, hc, rfl⟩ := y
  refine ⟨rfl, ?_⟩
  rw [List.getElem?_map, Array.getElem?_toList, hc]
  rfl
end
section
variable {K : PySem.W.Frag} {σ : L2.St} {H : Hp} {ta tv : TE} {t : TA} {D : Ends} {Q : VK}
theorem setF {f : Str} (h : tv σ H fun y H1 => ta σ H1 fun x H2 => ∃ a C dx fs, x = .ref a ∧ H2 a = some (.ins C dx fs) ∧ Cls K C ∧ NoAttr K C f ∧ fs.length < 1000 ∧ D.nx σ (upd H2 a (.ins C dx (putF f y fs)))) : sFld K ta tv f D σ H := h
theorem setFV {a C dx : Addr} {fs : List (Str × V)} {y : V} {f : Str} {R : Hp → Prop} (ha : H a = some (.ins C dx fs)) (c : Cls K C) (n : NoAttr K C f) (l : fs.length < 1000) (q : ∀ H', RD.KB a H H' → H' a = some (.ins C dx (putF f y fs)) → R H') :
    ∃ b D dy gs, V.ref a = .ref b ∧ H b = some (.ins D dy gs) ∧ Cls K D ∧ NoAttr K D f ∧ gs.length < 1000 ∧ R (upd H b (.ins D dy (putF f y gs))) := ⟨a, C, dx, fs, rfl, ha, c, n, l, q _ RD.kb_upd upd_same⟩
def MakeX (C : Addr) (sp : Sp) (vs : List V) (E : XK) (H1 : Hp) (Q : VK) : Prop := ∀ x dx, H1 x = none → H1 dx = none → dx ≠ x → sp (.ref x :: vs) (upd (upd H1 dx (.own x)) x (.ins C dx [])) (fun v H2 => v = .non ∧ Q (.ref x) H2) E
theorem make {C : Addr} {sp : Sp} {dvs : List V} {E : XK} (h : t σ H fun vs H1 => MakeX C sp (vs ++ dvs) E H1 Q) : tMake C sp dvs E t σ H Q := h
theorem makeS {C : Addr} {sp : Sp} {dvs : List V} {E : L2.St → XK} (h : t σ H fun vs H1 => MakeX C sp (vs ++ dvs) (E σ) H1 Q) : NR.tMakeS C sp dvs E t σ H Q := h
/-- the new instance -/
theorem made {C : Addr} {H1 : Hp} {sp : Sp} {vs : List V} {E : XK} (h : ∀ x H2 dx, H1 x = none → Same H1 H2 → H2 x = some (.ins C dx []) → sp (.ref x :: vs) H2 (fun v H2 => v = .non ∧ Q (.ref x) H2) E) : MakeX C sp vs E H1 Q := fun x dx hx hd n =>
  h x _ dx hx (fun b o e => by
    have n1 : b ≠ x := fun z => by subst z; rw [hx] at e; cases e
    have n2 : b ≠ dx := fun z => by subst z; rw [hd] at e; cases e
    unfold upd
    rw [if_neg n1, if_neg n2]
    exact e) upd_same
end
/-- X(e) raised: the error's own dict d, all else as it was -/
theorem mkO {C : Addr} {fld : Str} {ta : TA} {σ : L2.St} {H : Hp} {Q : XK} (h : ta σ H fun vs H1 => vs.length ≤ 1000 ∧ ∀ a, H1 a = none → SPX.spSi C fld (.ref a :: (vs ++ [])) (upd H1 a (exo a C none))
    (fun v H2 => v = .non ∧ ∃ (d : Addr) (fs : List (Str × V)), H2 a = some (exo a C (some d)) ∧ H2 d = some (exd d fs) ∧ H1 d = none ∧ Q (.ref C) (some d) (upd (del H2 a) d (.xd fs))) (fun _ _ _ => False)) : tMkO C (SPX.spSi C fld) [] ta σ H Q := h
theorem mkOV {C : Addr} {fld : Str} {v : V} {H1 : Hp} {Q : XK} (h : ∀ d H', H1 d = none → Same H1 H' → H' d = some (.xd [(fld, v)]) → Q (.ref C) (some d) H') :
    [v].length ≤ 1000 ∧ ∀ a, H1 a = none → SPX.spSi C fld (.ref a :: ([v] ++ [])) (upd H1 a (exo a C none))
      (fun u H2 => u = .non ∧ ∃ (d : Addr) (fs : List (Str × V)), H2 a = some (exo a C (some d)) ∧ H2 d = some (exd d fs) ∧ H1 d = none ∧ Q (.ref C) (some d) (upd (del H2 a) d (.xd fs))) (fun _ _ _ => False) := by
  refine ⟨(by show 1 ≤ 1000; decide), fun a ha => ⟨a, v, rfl, upd_same, fun d hd n => ⟨rfl, d, [(fld, v)], upd_same, ?_, ?_, ?_⟩⟩⟩
  · rw [upd_ne n, upd_same]
  · rw [upd_ne n] at hd
    exact hd
  · have hd1 : H1 d = none := by
      rw [upd_ne n] at hd
      exact hd
    refine h d _ hd1 (fun b o e => ?_) upd_same
    have n1 : b ≠ a := fun z => by subst z; rw [ha] at e; cases e
    have n2 : b ≠ d := fun z => by subst z; rw [hd1] at e; cases e
    rw [upd_ne n2, del_ne n1, upd_ne n1, upd_ne n2, upd_ne n1]
    exact e
section
variable {σ : L2.St} {H : Hp} {Q : VK}
theorem xf {a C : Addr} {cls : Value} {d : Option Addr} {f : Str} {te : TE} (h : te σ H fun x H1 => x = .ref a ∧ cls = .ref C ∧ ∃ (dd : Addr) (fs : List (Str × V)) (v : V), d = some dd ∧ H1 dd = some (.xd fs) ∧ fs.lookup f = some v ∧ Q v H1) : tXf a cls d C f te σ H Q := h
theorem xfV {a C dd : Addr} {fs : List (Str × V)} {v : V} {f : Str} {R : V → Prop} (hd : H dd = some (.xd fs)) (l : fs.lookup f = some v) (q : R v) :
    V.ref a = .ref a ∧ Value.ref C = .ref C ∧ ∃ (dy : Addr) (gs : List (Str × V)) (u : V), some dd = some dy ∧ H dy = some (.xd gs) ∧ gs.lookup f = some u ∧ R u := ⟨rfl, rfl, dd, fs, v, rfl, hd, l, q⟩
end
theorem pe_fldK {X : Cx} {K : PySem.W.Frag} (hK : X.K = K) {e : Expr} {ta : TE} {f : Str} {pos : Pos} (he : PE X e ta) (hb : attributeBase e f X.env (eval e X.env) = eval e X.env) : PE X (.Attribute e f pos) (tFld K ta f) := by
  subst hK
  exact pe_fld he hb
theorem par3 {i j l : Nat} {tx : TA} {D : Ends} {σ : L2.St} {H : Hp} (h : tx σ H fun vs H1 => ∃ u v w, vs = [u, v, w] ∧ D.nx (((σ.set i (some u)).set j (some v)).set l (some w)) H1) : tPar3 i j l tx D σ H := h
theorem par3V {x y z : V} {R : V → V → V → Prop} (h : R x y z) : ∃ u v w, [x, y, z] = [u, v, w] ∧ R u v w := ⟨x, y, z, rfl, h⟩
theorem slS {z : Str} {lo hi : Option Int} {H : Hp} {Q : VK} (hz : z.length ≤ sizeLine) (q : Q (.str (cutS z lo hi)) H) : rSlS (.str z) lo hi H Q := ⟨z, rfl, hz, q⟩
/-! ### sizes, data of such lists -/
def LN (m : Nat) (xs : List V) : Prop := xs.length ≤ m
theorem LN.cut {m : Nat} {xs : List V} {lo hi : Option Int} (h : LN m xs) : LN m (cutV xs lo hi) := Nat.le_trans (cutV_length xs lo hi) h
theorem LN.app {m k : Nat} {xs ys : List V} (h : LN m xs) (g : LN k ys) : LN (m + k) (xs ++ ys) := by
  show (xs ++ ys).length ≤ m + k
  rw [List.length_append]
  exact Nat.add_le_add h g
theorem LN.rev {m : Nat} {xs : List V} (h : LN m xs) : LN m xs.reverse := by
  show xs.reverse.length ≤ m
  rw [List.length_reverse]
  exact h
theorem LN.lit {m : Nat} {xs : List V} (h : xs.length = m) : LN m xs := Nat.le_of_eq h
theorem LN.rep {m k : Nat} {xs : List V} (h : LN m xs) : LN (k * m) (List.replicate k xs).flatten := by
  show (List.replicate k xs).flatten.length ≤ k * m
  rw [List.length_flatten, List.map_replicate, List.sum_replicate_nat]
  exact Nat.mul_le_mul_left k h
theorem LN.sum {m k : Nat} {xs ys : List V} (h : LN m xs) (g : LN k ys) (e : Nat.ble (m + k) 16777216 = true) : xs.length + ys.length ≤ sizeLine := by
  rw [sizeLine_eq]
  exact Nat.le_trans (Nat.add_le_add h g) (Nat.le_of_ble_eq_true e)
open SPD in
theorem dqa_mem {x : Addr} {H : Hp} {n : Nat} : ∀ {ys : List V}, (∀ y, y ∈ ys → Dq x H n y) → DqA x H n ys
  | [], _ => .nil
  | y :: r, h => .cons (h y List.mem_cons_self) (dqa_mem fun z hz => h z (List.mem_cons_of_mem _ hz))
open SPD in
theorem dqa_cut {x : Addr} {H : Hp} {n : Nat} {xs : List V} {lo hi : Option Int} (h : DqA x H n xs) : DqA x H n (cutV xs lo hi) := dqa_mem fun y hy => h.mem y (by
  unfold cutV at hy
  exact List.mem_of_mem_drop (List.mem_of_mem_take hy))
open SPD in
theorem dqa_rev {x : Addr} {H : Hp} {n : Nat} {xs : List V} (h : DqA x H n xs) : DqA x H n xs.reverse := dqa_mem fun y hy => h.mem y (List.mem_reverse.mp hy)
open SPD in
theorem dqa_rep {x : Addr} {H : Hp} {n k : Nat} {xs : List V} (h : DqA x H n xs) : DqA x H n (List.replicate k xs).flatten := dqa_mem fun y hy => h.mem y (by
  obtain ⟨l, hl, hy⟩ := List.mem_flatten.mp hy
  rw [(List.mem_replicate.mp hl).2] at hy
  exact hy)
open SPD in
theorem dqa_strs {x : Addr} {H : Hp} {n : Nat} {zs : List Str} (h : ∀ z, z ∈ zs → z.cps.size ≤ 100000) : DqA x H n (zs.map V.str) := dqa_mem fun y hy => by
  obtain ⟨z, hz, rfl⟩ := List.mem_map.mp hy
  exact .leaf (Nat.ble_eq_true_of_le (h z hz))
open SPD in
theorem dqa_mono {x : Addr} {H : Hp} {n m : Nat} {xs : List V} (h : DqA x H n xs) (hm : n ≤ m) : DqA x H m xs := dqa_mem fun y hy => (h.mem y hy).mono m hm
open SPD in
theorem dqTupN {x : Addr} {H : Hp} {n m : Nat} {a : Addr} {xs : List V} (h : H a = some (.tup xs)) (ne : a ≠ x) (g : DqA x H n xs) (l : LN m xs) (e : Nat.ble m 16777216 = true) : Dq x H (n + 1) (.ref a) := .tup ne h (Nat.le_trans l (Nat.le_of_ble_eq_true e)) g.mem
open SPD in
theorem dqLstN {x : Addr} {H : Hp} {n m : Nat} {a : Addr} {xs : List V} (h : H a = some (.lst xs)) (ne : a ≠ x) (g : DqA x H n xs) (l : LN m xs) (e : Nat.ble m 16777216 = true) : Dq x H (n + 1) (.ref a) := .lst ne h (Nat.le_trans l (Nat.le_of_ble_eq_true e)) g.mem
theorem repL {l : Addr} {k : Int} {xs : List V} {H : Hp} {Q : VK} (hx : H l = some (.lst xs)) (hk : (-(2 ^ 63) ≤ k ∧ k < 2 ^ 63) ∧ xs.length * k.toNat ≤ sizeLine) (h : ∀ p H', H p = none → Same H H' → H' p = some (.lst (List.replicate k.toNat xs).flatten) → Q (.ref p) H') : rRep (.ref l) (.int k) H Q :=
  ⟨l, k, xs, rfl, rfl, hx, hk.1.1, hk.1.2, hk.2, fun p hp => h p _ hp (RD.same_new hp) upd_same⟩
theorem repT {K : PySem.W.Frag} {l : Addr} {k : Int} {xs : List V} {H : Hp} {Q : VK} (hx : SqT K H l xs) (hk : xs ≠ [] ∧ (2 ≤ k ∧ k ≤ 1000) ∧ xs.length ≤ 1000) (h : ∀ p H', H p = none → Same H H' → H' p = some (.tup (List.replicate k.toNat xs).flatten) → Q (.ref p) H') : rRepT K (.ref l) (.int k) H Q :=
  ⟨l, k, xs, rfl, rfl, hx, hk.1, hk.2.1.1, hk.2.1.2, hk.2.2, fun p hp => h p _ hp (RD.same_new hp) upd_same⟩
def rMulS : R2 := fun x y H Q => ∃ z n, x = .str z ∧ y = .int n ∧ MulOk z n ∧ Q (.str (Txt.mul z n)) H
theorem op_mulS {X : Cx} : OpR X (binaryOp .Mult) rMulS := by
  intro pins s σ H x y v u Q I rx ry h
  obtain ⟨z, n, rfl, rfl, hz, q⟩ := h
  obtain ⟨t, rfl⟩ := rx
  obtain ⟨t2, rfl⟩ := ry
  exact SB.mul hz fun t' k => ⟨.str (Txt.mul z n), H, I.tok _, ⟨_, rfl⟩, q⟩
theorem mulS {z : Str} {n : Int} {H : Hp} {Q : VK} (h : MulOk z n) (q : Q (.str (Txt.mul z n)) H) : rMulS (.str z) (.int n) H Q := ⟨z, n, rfl, rfl, h, q⟩
theorem addS {i j : Str} {R : Str → Str → Prop} (h : i.length + j.length ≤ sizeLine) (q : R i j) : ∃ a b, V.str i = .str a ∧ V.str j = .str b ∧ a.length + b.length ≤ sizeLine ∧ R a b := ⟨i, j, rfl, rfl, h, q⟩
section
variable {K : PySem.W.Frag} {σ : L2.St} {H : Hp} {Q : VK}
theorem bmS {z : Str} {R : Prop} (q : R) : tyV K "str" (.str z) H ∧ R := ⟨rfl, q⟩
theorem sw3 {x y : Str} {i : Int} {R : Str → Str → Int → Prop} (q : R x y i) : ∃ (a b : Str) (j : Int), V.str x = .str a ∧ [V.str y, V.int i] = [.str b, .int j] ∧ R a b j := ⟨x, y, i, rfl, rfl, q⟩
theorem ext {l b : Addr} {xs zs : List V} (h1 : H l = some (.lst xs)) (h2 : H b = some (.lst zs)) (hz : xs.length + zs.length ≤ sizeLine) (h : ∀ H2, RD.KB l H H2 → H2 l = some (.lst (xs ++ zs)) → Q .non H2) : rExtend (.ref l) [.ref b] H Q := ⟨l, b, xs, zs, rfl, rfl, h1, h2, hz, RD.mutn h⟩
theorem notInD {x y : V} {d : PyData} {ds : List PyData} (h1 : Dp K H x d) (h2 : Dp K H y (.list ds)) (s1 : SeqAt.shaped d = true) (s2 : SeqAt.shaped (.list ds) = true) (q : Q (.bl (!ds.any fun z => PyData.eqv z d)) H) : rNotInD K x y H Q := ⟨d, ds, h1, h2, s1, s2, q⟩
end
theorem pe_bmK {X : Cx} {K : PySem.W.Frag} (hK : X.K = K) {T : String} {name : Str} {id : String} {r : V → List V → Hp → VK → Prop} {o e : Expr} {es : List Expr} {to : TE} {t : TA} {apos cpos : Pos} (pa : PlainAttrs T) (slot : Slot T name id) (hty : typeOf (.builtin id) = pure (.type "method_descriptor")) (hm : MtR X id r) (ho : PE X o to) (ha : PA X (e :: es) t)
    (hbase : attributeBase o name X.env (eval o X.env) = eval o X.env := by rfl)
    (hfew : ((backTo cpos (starEach (e :: es) X.env)).all (fun x => !x.1) && (backToKw cpos (keywordEach [] X.env)).all (fun x => x.1.isSome)
      && decide ((e :: es).length + ([] : List Keyword).length + (if ([] : List Keyword).isEmpty then 0 else 1) < 30)) = true := by rfl)
    (hline : (apos.endLine == cpos.line) = true := by rfl) (hs : starEach (e :: es) X.env = (false, eval e X.env) :: starEach es X.env := by rfl) (hplain : (backTo cpos (starEach es X.env)).any (·.1) = false := by rfl) :
    PE X (.Call (.Attribute o name apos) (e :: es) [] cpos) (tBM K T r to t) := by
  subst hK
  exact pe_bm pa slot hty hm ho ha hbase hfew hline hs hplain
theorem room65 {k : Nat} {A : Around} (r : Room k A) : A.units + 65 < cLine := by
  have := r.un
  omega
theorem callS {sp : Sp} {E : L2.St → XK} {t : TA} {σ : L2.St} {H : Hp} {Q : VK} (h : t σ H fun vs H1 => sp vs H1 Q (E σ)) : tCallS sp E t σ H Q := h
end RB

/-! data apart from two changing objects (a bag and its list); more readings -/
namespace SPE
open PySem PySem.Spec PyProof.Rows L2
abbrev AX := Addr × Addr
def Off (b : Addr) (x : AX) : Prop := b ≠ x.1 ∧ b ≠ x.2
def KX (x : AX) (H H' : Hp) : Prop := ∀ b o, Off b x → H b = some o → H' b = some o
theorem KX.refl {x : AX} {H : Hp} : KX x H H := fun _ _ _ h => h
theorem KX.trans {x : AX} {H H1 H2 : Hp} (a : KX x H H1) (b : KX x H1 H2) : KX x H H2 := fun c o n h => b c o n (a c o n h)
theorem kx_of {x : AX} {H H' : Hp} (s : Same H H') : KX x H H' := fun b o _ h => s b o h
theorem kx_tr {x : AX} {H H1 H' : Hp} (h2 : KX x H1 H') (h1 : KX x H H1) : KX x H H' := h1.trans h2
theorem kx_trs {x : AX} {H H1 H' : Hp} (h2 : Same H1 H') (h1 : KX x H H1) : KX x H H' := h1.trans (kx_of h2)
theorem kx1 {x : AX} {H H1 H' : Hp} (h2 : RD.KB x.1 H1 H') (h1 : KX x H H1) : KX x H H' := fun b o n e => h2 b o n.1 (h1 b o n e)
theorem kx2 {x : AX} {H H1 H' : Hp} (h2 : RD.KB x.2 H1 H') (h1 : KX x H H1) : KX x H H' := fun b o n e => h2 b o n.2 (h1 b o n e)
/-- a fresh object changes -/
theorem kx_mut {x : AX} {H0 H H' : Hp} {p : Addr} (k : RD.KB p H H') (s : KX x H0 H) (n : H0 p = none) : KX x H0 H' := fun b o nb e => k b o (ne_of_none e n) (s b o nb e)
theorem at_kx {x : AX} {a : Addr} {H H' : Hp} {o : HO} (s : KX x H H') (n : Off a x) (h : H a = some o) : H' a = some o := s a o n h
theorem KX.seq {x : AX} {K : PySem.W.Frag} {H H' : Hp} {a : Addr} {xs : List V} (e : KX x H H') (n : Off a x) (h : SqL K H a xs) : SqL K H' a xs := by
  rcases h with (h | ⟨o, h⟩) | h
  · exact .inl (.inl (e _ _ n h))
  · exact .inl (.inr ⟨o, e _ _ n h⟩)
  · exact .inr h
theorem KX.tup {x : AX} {K : PySem.W.Frag} {H H' : Hp} {a : Addr} {xs : List V} (e : KX x H H') (n : Off a x) (h : SqT K H a xs) : SqT K H' a xs := by
  rcases h with (h | ⟨o, h⟩) | h
  · exact .inl (.inl (e _ _ n h))
  · exact .inl (.inr ⟨o, e _ _ n h⟩)
  · exact .inr h
inductive Dq (x : AX) (H : Hp) : Nat → V → Prop where
  | leaf {n : Nat} {v : V} : SPD.leaf v = true → Dq x H n v
  | dct {n : Nat} {a : Addr} {kvs : List (Key × V)} : Off a x → H a = some (.dK kvs) → (kvs.map (·.1)).Nodup → (∀ p ∈ kvs, flatB p.2 = true) → Dq x H n (.ref a)
  | tup {n : Nat} {a : Addr} {xs : List V} : Off a x → H a = some (.tup xs) → xs.length ≤ 16777216 → (∀ y, y ∈ xs → Dq x H n y) → Dq x H (n + 1) (.ref a)
  | lst {n : Nat} {a : Addr} {xs : List V} : Off a x → H a = some (.lst xs) → xs.length ≤ 16777216 → (∀ y, y ∈ xs → Dq x H n y) → Dq x H (n + 1) (.ref a)
theorem Dq.kx {x : AX} {H H' : Hp} (k : KX x H H') {n : Nat} {v : V} (h : Dq x H n v) : Dq x H' n v := by
  induction h with
  | leaf e => exact .leaf e
  | dct ne h nd fl => exact .dct ne (k _ _ ne h) nd fl
  | tup ne h hl _ ih => exact .tup ne (k _ _ ne h) hl ih
  | lst ne h hl _ ih => exact .lst ne (k _ _ ne h) hl ih
theorem Dq.same {x : AX} {H H' : Hp} (k : Same H H') {n : Nat} {v : V} (h : Dq x H n v) : Dq x H' n v := h.kx (kx_of k)
theorem Dq.mono {x : AX} {H : Hp} {n : Nat} {v : V} (h : Dq x H n v) : ∀ m, n ≤ m → Dq x H m v := by
  induction h with
  | leaf e => exact fun m _ => .leaf e
  | dct ne h nd fl => exact fun m _ => .dct ne h nd fl
  | tup ne h hl _ ih =>
    intro m hm
    obtain ⟨k, rfl⟩ : ∃ k, m = k + 1 := ⟨m - 1, by omega⟩
    exact .tup ne h hl fun y hy => ih y hy k (by omega)
  | lst ne h hl _ ih =>
    intro m hm
    obtain ⟨k, rfl⟩ : ∃ k, m = k + 1 := ⟨m - 1, by omega⟩
    exact .lst ne h hl fun y hy => ih y hy k (by omega)
theorem Dq.toA {x : AX} {H : Hp} {n : Nat} {v : V} (h : Dq x H n v) : SPD.Dq x.1 H n v := by
  induction h with
  | leaf e => exact .leaf e
  | dct ne h nd fl => exact .dct ne.1 h nd fl
  | tup ne h hl _ ih => exact .tup ne.1 h hl ih
  | lst ne h hl _ ih => exact .lst ne.1 h hl ih
theorem Dq.kd {K : PySem.W.Frag} {x : AX} {H : Hp} {n : Nat} {v : V} (h : Dq x H n v) : ∃ k, SPD.KdOf K H v k := h.toA.kd
inductive DqA (x : AX) (H : Hp) (n : Nat) : List V → Prop where
  | nil : DqA x H n []
  | cons {v : V} {vs : List V} : Dq x H n v → DqA x H n vs → DqA x H n (v :: vs)
theorem DqA.mem {x : AX} {H : Hp} {n : Nat} {vs : List V} (h : DqA x H n vs) : ∀ y, y ∈ vs → Dq x H n y := by
  induction h with
  | nil => exact fun y hy => nomatch hy
  | cons a _ ih =>
    intro y hy
    rcases List.mem_cons.mp hy with e | e
    · rw [e]; exact a
    · exact ih y e
theorem dqa_mem {x : AX} {H : Hp} {n : Nat} : ∀ {ys : List V}, (∀ y, y ∈ ys → Dq x H n y) → DqA x H n ys
  | [], _ => .nil
  | y :: r, h => .cons (h y List.mem_cons_self) (dqa_mem fun z hz => h z (List.mem_cons_of_mem _ hz))
theorem DqA.app {x : AX} {H : Hp} {n : Nat} {vs ws : List V} (h : DqA x H n vs) (g : DqA x H n ws) : DqA x H n (vs ++ ws) := by
  induction h with
  | nil => exact g
  | cons a _ ih => exact .cons a ih
theorem DqA.kx {x : AX} {H H' : Hp} {n : Nat} {vs : List V} (k : KX x H H') (h : DqA x H n vs) : DqA x H' n vs := dqa_mem fun y hy => (h.mem y hy).kx k
theorem DqA.mono {x : AX} {H : Hp} {n m : Nat} {vs : List V} (h : DqA x H n vs) (hm : n ≤ m) : DqA x H m vs := dqa_mem fun y hy => (h.mem y hy).mono m hm
theorem dq_kx {x : AX} {H H' : Hp} {n : Nat} {v : V} (h : Dq x H n v) (k : KX x H H') : Dq x H' n v := h.kx k
theorem dqTup {x : AX} {H : Hp} {n : Nat} {a : Addr} {xs : List V} (h : H a = some (.tup xs)) (ne : Off a x) (g : DqA x H n xs) (e : Nat.ble xs.length 16777216 = true := by rfl) : Dq x H (n + 1) (.ref a) := .tup ne h (Nat.le_of_ble_eq_true e) g.mem
theorem dqLst {x : AX} {H : Hp} {n : Nat} {a : Addr} {xs : List V} (h : H a = some (.lst xs)) (ne : Off a x) (g : DqA x H n xs) (e : Nat.ble xs.length 16777216 = true := by rfl) : Dq x H (n + 1) (.ref a) := .lst ne h (Nat.le_of_ble_eq_true e) g.mem
theorem dqNil {x : AX} {H : Hp} {n : Nat} {a : Addr} {kvs : List (Key × V)} (h : H a = some (.dK kvs)) (ne : Off a x) (nd : (kvs.map (·.1)).Nodup) (fl : ∀ p ∈ kvs, flatB p.2 = true) : Dq x H n (.ref a) := .dct ne h nd fl
theorem dqTupN {x : AX} {H : Hp} {n m : Nat} {a : Addr} {xs : List V} (h : H a = some (.tup xs)) (ne : Off a x) (g : DqA x H n xs) (l : RB.LN m xs) (e : Nat.ble m 16777216 = true) : Dq x H (n + 1) (.ref a) := .tup ne h (Nat.le_trans l (Nat.le_of_ble_eq_true e)) g.mem
theorem dqLstN {x : AX} {H : Hp} {n m : Nat} {a : Addr} {xs : List V} (h : H a = some (.lst xs)) (ne : Off a x) (g : DqA x H n xs) (l : RB.LN m xs) (e : Nat.ble m 16777216 = true) : Dq x H (n + 1) (.ref a) := .lst ne h (Nat.le_trans l (Nat.le_of_ble_eq_true e)) g.mem
theorem dqa_cut {x : AX} {H : Hp} {n : Nat} {xs : List V} {lo hi : Option Int} (h : DqA x H n xs) : DqA x H n (cutV xs lo hi) := dqa_mem fun y hy => h.mem y (by
  unfold cutV at hy
  exact List.mem_of_mem_drop (List.mem_of_mem_take hy))
theorem dqa_rev {x : AX} {H : Hp} {n : Nat} {xs : List V} (h : DqA x H n xs) : DqA x H n xs.reverse := dqa_mem fun y hy => h.mem y (List.mem_reverse.mp hy)
theorem dqa_rep {x : AX} {H : Hp} {n k : Nat} {xs : List V} (h : DqA x H n xs) : DqA x H n (List.replicate k xs).flatten := dqa_mem fun y hy => h.mem y (by
  obtain ⟨l, hl, hy⟩ := List.mem_flatten.mp hy
  rw [(List.mem_replicate.mp hl).2] at hy
  exact hy)
theorem dqa_leaf {x : AX} {H : Hp} {n : Nat} {xs : List V} (h : ∀ v, v ∈ xs → SPD.leaf v = true) : DqA x H n xs := dqa_mem fun y hy => .leaf (h y hy)
section
variable {K : PySem.W.Frag} {σ : L2.St} {H : Hp} {Q : VK} {te : TE}
theorem sum1 {a : Addr} {ns : List Int} (hx : SqL K H a (ns.map V.int)) (q : Q (.int ns.sum) H) : rSum K [.ref a] H Q := ⟨a, ns, rfl, hx, q⟩
theorem popAt {l : Addr} {xs : List V} {i : Int} {k : Nat} {y : V} (h1 : H l = some (.lst xs)) (hi : -(2 ^ 63) ≤ i ∧ i < 2 ^ 63) (hk : seqIndex? i xs.length = some k) (hy : xs[k]? = some y) (h : ∀ H2, RD.KB l H H2 → H2 l = some (.lst (xs.eraseIdx k)) → Q y H2) : rPopAt (.ref l) [.int i] H Q := ⟨l, xs, i, k, y, rfl, rfl, h1, hi.1, hi.2, hk, hy, RD.mutn h⟩
theorem sign_at {z : Str} {c : Nat} (h : c ∈ z.cps.toList) : ∃ i rest, Builtin.Str.occurrences z ⟨#[c]⟩ 0 z.length 1 = i :: rest ∧ i < z.cps.size := by
  have f := PySem.StrLaws.found_one z c
  rw [decide_eq_true h] at f
  cases e : Builtin.Str.occurrences z ⟨#[c]⟩ 0 z.length 1 with
  | nil => rw [e] at f; cases f
  | cons i rest =>
    have s := (PySem.StrLaws.occ_spec z ⟨#[c]⟩ 0 z.length 1 i (by rw [e]; exact List.mem_cons_self)).1
    have e1 : (⟨#[c]⟩ : Str).length = 1 := rfl
    have e2 : z.length = z.cps.size := rfl
    exact ⟨i, rest, rfl, by omega⟩
/-- where a sign stands first -/
def placeOf (z : Str) (c : Nat) : Nat := (Builtin.Str.occurrences z ⟨#[c]⟩ 0 z.length 1).headD 0
theorem place_at {z : Str} {c : Nat} (h : c ∈ z.cps.toList) : (∃ rest, Builtin.Str.occurrences z ⟨#[c]⟩ 0 z.length 1 = placeOf z c :: rest) ∧ placeOf z c < z.cps.size := by
  obtain ⟨i, rest, e, hi⟩ := sign_at h
  have e2 : placeOf z c = i := by
    unfold placeOf
    rw [e]
    rfl
  rw [e2]
  exact ⟨⟨rest, e⟩, hi⟩
theorem sindex {z : Str} {c : Nat} {R : Nat → Prop} (h : c ∈ z.cps.toList) (q : R (placeOf z c)) : ∃ (a b : Str) (i : Nat) (rest : List Nat), V.str z = .str a ∧ [V.str ⟨#[c]⟩] = [.str b] ∧ Builtin.Str.occurrences a b 0 a.length 1 = i :: rest ∧ R i := by
  obtain ⟨⟨rest, e⟩, _⟩ := place_at h
  exact ⟨z, ⟨#[c]⟩, _, rest, rfl, rfl, e, q⟩
/-- z[::-1] -/
def revS (z : Str) : Str := ⟨z.cps.toList.reverse.toArray⟩
theorem rev_pick (z : Str) : (Builtin.Str.strSliceIndices none none (-1) z.length).filterMap (z.cps[·]?) = z.cps.toList.reverse := by
  rw [picked_rev, filterMap_get, List.map_map]
  · refine List.ext_getElem? fun i => ?_
    have e : z.length = z.cps.size := rfl
    have l : z.cps.toList.length = z.cps.size := Array.length_toList
    rw [e]
    by_cases h : i < z.cps.size
    · rw [List.getElem?_map, List.getElem?_range h, List.getElem?_reverse (by omega), l, Array.getElem?_toList, Array.getElem?_eq_getElem (by omega)]
      show some (z.cps.getD (z.cps.size - 1 - i) 0) = _
      rw [Array.getD_eq_getD_getElem?, Array.getElem?_eq_getElem (by omega)]
      rfl
    · rw [List.getElem?_eq_none (by rw [List.length_map, List.length_range]; omega), List.getElem?_eq_none (by rw [List.length_reverse, l]; omega)]
  · intro i hi
    obtain ⟨k, hk, rfl⟩ := List.mem_map.mp hi
    have hk' : k < z.length := List.mem_range.mp hk
    have e : z.length = z.cps.size := rfl
    omega
def RevSX (x : V) (H1 : Hp) (Q : VK) : Prop := ∃ z, x = .str z ∧ z.length ≤ sizeLine ∧ Q (.str (revS z)) H1
def tRevS (te : TE) : TE := fun σ H Q => te σ H fun x H1 => RevSX x H1 Q
theorem revs (h : te σ H fun x H1 => RevSX x H1 Q) : tRevS te σ H Q := h
theorem revsV {z : Str} (hz : z.length ≤ sizeLine) (q : Q (.str (revS z)) H) : RevSX (.str z) H Q := ⟨z, rfl, hz, q⟩
theorem pe_revS {X : Cx} {e : Expr} {te : TE} {k : Nat} {p1 p2 p3 pos : Pos} (he : PE X e te) : PE X (.Subscript e (.Slice none none (some (.UnaryOp .USub (.Constant (.int 1) k p1) p2)) p3) pos) (tRevS te) := by
  refine ⟨fun pins s σ H Q I h => ?_⟩
  refine Subscript_ (thn (he.run pins s σ H _ I h) fun v s1 ⟨x, H1, I1, r1, q1⟩ => ?_)
  obtain ⟨z, rfl, hz, q⟩ := q1
  obtain ⟨t, rfl⟩ := r1
  have st : PO X (some (.UnaryOp .USub (.Constant (.int 1) k p1) p2)) (tPart (tUn (rU fun i => .int (-i)) (tC (.int 1)))) := po_some (pe_un un_neg pe_int)
  refine wpAny_Slice (thn (po_none.run pins s1 σ H1 (fun o H2 => o = none ∧ H2 = H1) I1 ⟨rfl, rfl⟩) fun vl s2 ⟨l, H2, I2, pl, el, e2⟩ => ?_)
  subst el e2
  refine thn (po_none.run pins s2 σ H2 (fun o H3 => o = none ∧ H3 = H2) I2 ⟨rfl, rfl⟩) fun vu s3 ⟨u, H3, I3, pu, eu, e3⟩ => ?_
  subst eu e3
  refine thn (st.run pins s3 σ H3 (fun o H4 => o = some (-1) ∧ H4 = H3) I3 ⟨1, rfl, -1, rfl, rfl, rfl⟩) fun vs s4 ⟨o, H4, I4, ps, eo, e4⟩ => ?_
  subst eo e4
  have I5 : Inv X pins σ H4 { s4 with heap := s4.heap.push { cls := .type "slice", data := .fields #[vl, vu, vs] } } := I4.kept (t' := s4.toks) fun b ob q => Heap.get?_push_of_some _ q
  obtain ⟨l, rfl, hl⟩ := IsPart.raw pl
  obtain ⟨u, rfl, hu⟩ := IsPart.raw pu
  obtain ⟨w, rfl, hw⟩ := IsPart.raw ps
  cases l with
  | some l => cases hl
  | none =>
    cases u with
    | some u => cases hu
    | none =>
      cases w with
      | none => cases hw
      | some w =>
        obtain ⟨wi, wt⟩ := w
        have ew : wi = -1 := by simpa using hw
        subst ew
        show wpAny (model X.prog X.w) X.A (subscriptTail e (.Slice none none (some (.UnaryOp .USub (.Constant (.int 1) k p1) p2)) p3) (.str z t) (.ref s4.heap.objs.size)) (EP X pins σ Q) X.xe { s4 with heap := s4.heap.push { cls := .type "slice", data := .fields #[_, _, _] } }
        refine tail_any (ops := [.str z t, .ref s4.heap.objs.size]) (typeIs_str _ _ _) (F.slot_str_getitem.lookup) ?_ (by with_unfolding_all rfl)
        obtain ⟨os, hos, hcs, hds⟩ := Heap.IsSliceOf.new s4.heap _ _ _
        refine wpAny_getItem_str_slice (l := none) (u := none) (st := some (-1, wt)) ⟨os, hos, hcs, hds⟩ rfl ?_
        have e1 := rev_pick z
        show Made.post (if ((-1 : Int) == 1 && (Builtin.Str.strSliceIndices none none (-1) z.length).length == z.length) = true then Made.val (.str z t)
          else Made.str ⟨((Builtin.Str.strSliceIndices none none (-1) z.length).filterMap (z.cps[·]?)).toArray⟩) (EP X pins σ Q) _
        rw [if_neg (by rw [show ((-1 : Int) == 1) = false from rfl, Bool.false_and]; decide), e1]
        refine ⟨?_, .str (revS z), H4, I5.tok _, ⟨_, rfl⟩, q⟩
        show (z.cps.toList.reverse.toArray).size ≤ sizeLine
        rw [List.size_toArray, List.length_reverse, Array.length_toList]
        exact hz
end
end SPE

/-! the head's facts by names: defs, classes, own exceptions with super().__init__ -/
namespace HX
open PySem PySem.Spec PyProof.Rows L2 He NdefX
abbrev FnS : Type := Option (Str × Str × Arguments × FuncBody × Scope × Addr × Addr)
def fnS (K : PySem.W.Frag) (p : Str × Option Str) : FnS := match K.lookup (fAd K p) with
  | some ⟨_, _, .func fd, _⟩ => some (fd.name, fd.qualname, fd.params, fd.body, fd.scope, fd.globals, fd.builtins)
  | _ => none
structure DefS where
  at_ : Str × Option Str
  name : Str
  qual : Str
  st : Stmt
def DefS.val (d : DefS) : FnS := some (d.name, d.qual, defArgs d.st, .stmts (defBody d.st), defScope d.st, mainGlobals, builtinsNs)
/-- a plain def of no default -/
def plB (K : PySem.W.Frag) (p : Str × Option Str) (qual : Str) : Bool := PySem.W.keepIn K (.ref (fAd K p)) && (match K.lookup (fAd K p) with
  | some ⟨_, _, .func fd, _⟩ => PySem.W.codeIn K fd.code qual && (decide (fd.defaults = .none) && fd.closure.isEmpty)
  | _ => false)
/-- a def that holds its own class -/
def spB (K : PySem.W.Frag) (p : Str × Option Str) (qual file : Str) (C : Addr) : Bool := (match K.lookup (fAd K p) with
  | some ⟨_, _, .func fd, _⟩ => (match fd.closure with
    | [(y, cc)] => (match fd.code with
      | .ref cda => decide (y = ("__class__" : Str)) && (decide (fd.defaults = .none) && (PySem.W.codeIn K (.ref cda) qual && ((match K.lookup cda with
          | some ⟨_, _, .fields vs, _⟩ => (match (vs[2]? : Option Value) with
            | some (Value.str fl _) => decide (fl = file)
            | _ => false)
          | _ => false) && (match K.lookup cc with
          | some ⟨_, _, .cell (some (.ref D)), _⟩ => decide (D = C)
          | _ => false))))
      | _ => false)
    | _ => false)
  | _ => false)
theorem plB_ok {K : PySem.W.Frag} {d : DefS} (e : fnS K d.at_ = d.val) (c : plB K d.at_ d.qual = true) : ∃ fd, Fun K d.name d.qual d.st (fAd K d.at_) fd := by
  obtain ⟨kp, c2⟩ := ba c
  unfold fnS at e
  cases q : K.lookup (fAd K d.at_) with
  | none =>
    rw [q] at c2
    cases c2
  | some o =>
    obtain ⟨oc, od, dt, osl⟩ := o
    rw [q] at c2 e
    cases dt with
    | func fd =>
      obtain ⟨n1, n2, n3, n4, n5, n6, n7, n8, n9, n10, n11, n12, n13, n14, n15⟩ := fd
      have e2 : (some (n1, n2, n3, n4, n5, n6, n15) : FnS) = some (d.name, d.qual, defArgs d.st, .stmts (defBody d.st), defScope d.st, mainGlobals, builtinsNs) := e
      simp only [Option.some.injEq, Prod.mk.injEq] at e2
      obtain ⟨h1, h2, h3, h4, h5, h6, h7⟩ := e2
      subst h1 h2 h3 h4 h5 h6 h7
      have c3 : (PySem.W.codeIn K n13 d.qual && (decide (n8 = .none) && n7.isEmpty)) = true := c2
      obtain ⟨k1, k2⟩ := ba c3
      obtain ⟨k3, k4⟩ := ba k2
      have k3 := of_decide_eq_true k3
      subst k3
      have k4 : n7 = [] := List.isEmpty_iff.mp k4
      subst k4
      exact ⟨_, ⟨oc, od, n9, n10, n11, n12, n13, n14, osl, rfl, q, k1⟩, kp⟩
    | _ => cases c2
theorem spB_ok {K : PySem.W.Frag} {d : DefS} {file : Str} {C : Addr} (e : fnS K d.at_ = d.val) (c : spB K d.at_ d.qual file C = true) :
    ∃ fd oc od osl kV doc pm an cda cc ct ccl cdd vs ccs tf cl cld csl, fd = PySem.W.fnX d.name d.qual (defArgs d.st) (defBody d.st) (defScope d.st) [("__class__", cc)] .none kV doc pm an (.ref cda) ct ∧
    K.lookup (fAd K d.at_) = some ⟨oc, od, .func fd, osl⟩ ∧ PySem.W.codeIn K (.ref cda) d.qual = true ∧ K.lookup cda = some ⟨ccl, cdd, .fields vs, ccs⟩ ∧ vs[2]? = some (.str file tf) ∧
    K.lookup cc = some ⟨cl, cld, .cell (some (.ref C)), csl⟩ := by
  unfold fnS at e
  unfold spB at c
  cases q : K.lookup (fAd K d.at_) with
  | none =>
    rw [q] at c
    cases c
  | some o =>
    obtain ⟨oc, od, dt, osl⟩ := o
    rw [q] at c e
    cases dt with
    | func fd =>
      obtain ⟨n1, n2, n3, n4, n5, n6, n7, n8, n9, n10, n11, n12, n13, n14, n15⟩ := fd
      have e2 : (some (n1, n2, n3, n4, n5, n6, n15) : FnS) = some (d.name, d.qual, defArgs d.st, .stmts (defBody d.st), defScope d.st, mainGlobals, builtinsNs) := e
      simp only [Option.some.injEq, Prod.mk.injEq] at e2
      obtain ⟨h1, h2, h3, h4, h5, h6, h7⟩ := e2
      subst h1 h2 h3 h4 h5 h6 h7
      dsimp only at c
      cases n7 with
      | nil => cases c
      | cons hd tl =>
        obtain ⟨y, cc⟩ := hd
        cases tl with
        | cons _ _ => cases c
        | nil =>
          cases n13 with
          | ref cda =>
            obtain ⟨k1, c⟩ := ba c
            obtain ⟨k2, c⟩ := ba c
            obtain ⟨k3, c⟩ := ba c
            obtain ⟨k4, k5⟩ := ba c
            have k1 := of_decide_eq_true k1
            subst k1
            have k2 := of_decide_eq_true k2
            subst k2
            cases q1 : K.lookup cda with
            | none =>
              rw [q1] at k4
              cases k4
            | some o1 =>
              obtain ⟨ccl, cdd, dt1, ccs⟩ := o1
              rw [q1] at k4
              cases dt1 with
              | fields vs =>
                dsimp only at k4
                cases q2 : vs[2]? with
                | none =>
                  rw [q2] at k4
                  cases k4
                | some v =>
                  rw [q2] at k4
                  cases v with
                  | str fl tf =>
                    have k4 := of_decide_eq_true k4
                    subst k4
                    cases q3 : K.lookup cc with
                    | none =>
                      rw [q3] at k5
                      cases k5
                    | some o2 =>
                      obtain ⟨cl, cld, dt2, csl⟩ := o2
                      rw [q3] at k5
                      cases dt2 with
                      | cell ov =>
                        cases ov with
                        | none => cases k5
                        | some v =>
                          cases v with
                          | ref D =>
                            have k5 := of_decide_eq_true k5
                            subst k5
                            exact ⟨_, oc, od, osl, n9, n10, n11, n12, cda, cc, n14, ccl, cdd, vs, ccs, tf, cl, cld, csl, rfl, rfl, k3, q1, q2, q3⟩
                          | _ => cases k5
                      | _ => cases k5
                  | _ => cases k4
              | _ => cases k4
          | _ => cases c
    | _ => cases c
/-! own exception classes -/
def oexB (K : PySem.W.Frag) (C : Addr) : Bool := (match K.lookup C with
  | some ⟨.type c, _, .cls cd, sl⟩ => decide (c = "type") && ((match cd.mro with
      | .ref C' :: bm => decide (C' = C) && PySem.HandSPX.refsVE bm
      | _ => false) && ((match sl with
      | ⟨[_, _, _, _, some (.builtin n), _]⟩ => decide (n = "ValueError.__new__")
      | _ => false) && (cd.hasDict && !cd.hasDel)))
  | _ => false) && (eqO (PySem.W.findIn K (.ref C) "__setattr__") (some (some (.builtin "object.__setattr__"))) && (decide (PySem.W.subIn K (.ref C) (.type "BaseException") = some true) && (decide (PySem.W.typeIn K (.ref C) = some (.type "type")) && PySem.W.keepIn K (.ref C))))
theorem oexB_ok {K : PySem.W.Frag} {C : Addr} (h : oexB K C = true) : OexC K C := by
  obtain ⟨c, h⟩ := ba h
  obtain ⟨h1, h⟩ := ba h
  obtain ⟨h2, h⟩ := ba h
  obtain ⟨h3, h4⟩ := ba h
  refine ⟨?_, eqO_ok h1, of_decide_eq_true h2, of_decide_eq_true h3, h4⟩
  cases q : K.lookup C with
  | none =>
    rw [q] at c
    cases c
  | some o =>
    obtain ⟨oc, od, dt, sl⟩ := o
    rw [q] at c
    cases oc with
    | type t =>
      cases dt with
      | cls cd =>
        obtain ⟨e1, c⟩ := ba c
        obtain ⟨e2, c⟩ := ba c
        obtain ⟨e3, c⟩ := ba c
        obtain ⟨e4, e5⟩ := ba c
        have e1 := of_decide_eq_true e1
        subst e1
        obtain ⟨nm, bs, mro, ns, qn, hdct, sn, sub, ab, col, dl⟩ := cd
        dsimp only at e2 e3 e4 e5
        cases mro with
        | nil => cases e2
        | cons m bm =>
          cases m with
          | ref C' =>
            obtain ⟨e2, e6⟩ := ba e2
            have e2 := of_decide_eq_true e2
            subst e2
            have e4 : hdct = true := e4
            subst e4
            have e5 : dl = false := by
              cases dl with
              | true => cases e5
              | false => rfl
            subst e5
            split at e3
            · have e3 := of_decide_eq_true e3
              subst e3
              exact ⟨nm, qn, ns, bs, bm, sn, sub, ab, col, od, _, _, _, _, _, rfl, e6⟩
            · cases e3
          | _ => cases e2
      | _ => cases c
    | _ => cases dt <;> cases c
def excB (K : PySem.W.Frag) (D : Addr) : Bool := eqO (PySem.W.findIn K (.ref D) "__getattribute__") (some (some (.builtin "BaseException.__getattribute__"))) && (eqO (PySem.W.findIn K (.ref D) "__getattr__") (some none) && (decide (PySem.W.subIn K (.ref D) (.type "BaseException") = some true) && (PySem.W.hasDictIn K D &&
  (eqO (PySem.W.findIn K (.ref D) "__class__") (some (some (.builtin "object.__class__"))) && (eqO (PySem.W.specialIn K (.builtin "object.__class__") "__get__") (some (some (.builtin "getset_descriptor.__get__"))) && (decide (PySem.W.takesIn K (.builtin "object.__class__") = some true) && decide (PySem.W.mroIn K D (.type "object") = some true)))))))
theorem excB_ok {K : PySem.W.Frag} {D : Addr} (h : excB K D = true) : L2.ExcC K D := by
  obtain ⟨h1, h⟩ := ba h
  obtain ⟨h2, h⟩ := ba h
  obtain ⟨h3, h⟩ := ba h
  obtain ⟨h4, h⟩ := ba h
  obtain ⟨h5, h⟩ := ba h
  obtain ⟨h6, h⟩ := ba h
  obtain ⟨h7, h8⟩ := ba h
  exact ⟨eqO_ok h1, eqO_ok h2, of_decide_eq_true h3, h4, eqO_ok h5, eqO_ok h6, of_decide_eq_true h7, of_decide_eq_true h8⟩
/-- what super().__init__ asks -/
def sicB (K : PySem.W.Frag) (D : Addr) (fld : Str) : Bool := (PySem.W.clsIn K D).isSome && (decide (PySem.W.mroIn K D (.ref D) = some true) && (decide (PySem.W.subIn K (.ref D) (.type "ValueError") = some true) && (eqO (PySem.W.nsIn K cStatics "thirdparty.any") (some none) &&
  (eqO (PySem.W.ks_superIn K D D "__init__") (some (some (.builtin "ValueError.__init__"))) && eqO (PySem.W.findIn K (.ref D) fld) (some none)))))
/-- the text's part -/
structure SiT (P : Program) (st : Stmt) (qual fld prm : Str) : Prop where
  sc : NScope ["self", prm, "__class__"] ["self", prm] ["__class__"] (defScope st)
  sup : (defScope st).names.lookup ("super" : Str) = some .globalImplicit
  body : ∃ p0 p1 p2 p3 p4 p5 p6 p7 p8 p9, defBody st = [.Expr (.Call (.Attribute (.Call (.Name "super" p0) [] [] p1) "__init__" p2) [.Name prm p3] [] p4) p5, .Assign [.Attribute (.Name "self" p6) fld p7] (.Name prm p8) p9] ∧
    ∃ pl : Sem Bool, ∀ (L f cda cc : Addr), eval (.Call (.Attribute (.Call (.Name "super" p0) [] [] p1) "__init__" p2) [.Name prm p3] [] p4) (PySem.W.envX qual (defScope st) L f (.ref cda) [("__class__", cc)]) = (do
      let ov ← attributeBase (.Call (.Name "super" p0) [] [] p1) "__init__" (PySem.W.envX qual (defScope st) L f (.ref cda) [("__class__", cc)]) (eval (.Call (.Name "super" p0) [] [] p1) (PySem.W.envX qual (defScope st) L f (.ref cda) [("__class__", cc)]))
      standAt p2.atName
      let (f', first) ← holding [ov] (getMethod ov "__init__" pl)
      callWith p4 f' first (backTo p4 (starEach [.Name prm p3] (PySem.W.envX qual (defScope st) L f (.ref cda) [("__class__", cc)]))) [])
  head : ((defArgs st).posonlyargs ++ (defArgs st).args).head?.map (·.arg) = some "self"
  nd : (prm == ("__debug__" : Str)) = false
  nc : (prm == ("__classdict__" : Str)) = false
  top : (P.main.scope.names.lookup ("super" : Str)).isSome = false
theorem sic_ok {P : Program} {K : PySem.W.Frag} {mg : Str → Option Value} {st : Stmt} {x qual fld prm : Str} {D : Addr} (S : SiT P st qual fld prm) (h1 : oexB K D = true) (h2 : sicB K D fld = true) (h3 : spB K (x, some "__init__") qual P.main.file D = true)
    (e : fnS K (x, some "__init__") = (DefS.mk (x, some "__init__") "__init__" qual st).val) (hs : mg "super" = none) (hb : ∀ kV doc pm an cv ct cl (us : List Value), us.length = 2 → bindArgs (PySem.W.fnX "__init__" qual (defArgs st) (defBody st) (defScope st) cl .none kV doc pm an cv ct) ⟨us, []⟩ = pure ((["self", prm] : List Str).zip us)) :
    ∃ fd, SPX.SiC P K mg st qual fld prm D (fAd K (x, some "__init__")) fd ∧ Binds K fd ["self", prm] [] := by
  obtain ⟨k1, h⟩ := ba h2
  obtain ⟨k2, h⟩ := ba h
  obtain ⟨k3, h⟩ := ba h
  obtain ⟨k4, h⟩ := ba h
  obtain ⟨k5, k6⟩ := ba h
  obtain ⟨fd, oc, od, osl, kV, doc, pm, an, cda, cc, ct, ccl, cdd, vs, ccs, tf, cl, cld, csl, e1, e2, e3, e4, e5, e6⟩ := spB_ok (d := ⟨(x, some "__init__"), "__init__", qual, st⟩) e h3
  refine ⟨fd, ⟨oexB_ok h1, S.sc, S.sup, S.body, S.head, ?_, k1, of_decide_eq_true k2, of_decide_eq_true k3, S.top, eqO_ok k4, eqO_ok k5, hs, eqO_ok k6, S.nd, S.nc⟩, .all fun us hl => by rw [e1]; exact hb _ _ _ _ _ _ _ us hl⟩
  exact ⟨oc, od, osl, kV, doc, pm, an, cda, cc, ct, ccl, cdd, vs, ccs, P.main.file, tf, cl, cld, csl, e1, e2, e3, e4, e5, beq_self_eq_true _, e6⟩
/-! ### the Hook -/
abbrev AlX : Type := Bool × List FnS
def obsX (ck : List (PySem.W.Frag → Bool)) (fn : List DefS) (K : PySem.W.Frag) : AlX := (ck.all fun f => f K, fn.map fun d => fnS K d.at_)
def valX (fn : List DefS) : AlX := (true, fn.map DefS.val)
def SaysX (ck : List (PySem.W.Frag → Bool)) (fn : List DefS) (K : PySem.W.Frag) : Prop := obsX ck fn K = valX fn
def obsXG (n : Nat) (ck : List (PySem.W.Frag → Bool)) (fn : List DefS) (g : Addr → Option Obj) : AlX := obsX ck fn (frG g (cStatics :: asD g n))
def hookX (n : Nat) (ck : List (PySem.W.Frag → Bool)) (fn : List DefS) : PySem.W.Hook where
  α := AlX
  obs := fun s => obsXG n ck fn s.heap.get?
  val := fun _ => valX fn
  says := fun _ h => ∃ K : PySem.W.Frag, K.In h ∧ SaysX ck fn K
  of := fun _ _ e => ⟨_, frG_in, e⟩
  keeps := fun _ _ _ ⟨K, hK, c⟩ k => ⟨K, PySem.W.Frag.In.keeps hK k, c⟩
theorem obsXG_eq {n : Nat} {ck : List (PySem.W.Frag → Bool)} {fn : List DefS} {g : Addr → Option Obj} {s : Shared} (h : ∀ a, g a = s.heap.get? a) : obsXG n ck fn g = (hookX n ck fn).obs s := by
  have e : g = s.heap.get? := funext h
  rw [e] <;> rfl
section
variable {ck : List (PySem.W.Frag → Bool)} {fn : List DefS} {K : PySem.W.Frag}
theorem SaysX.fact (c : SaysX ck fn K) (i : Nat) {f : PySem.W.Frag → Bool} (h : ck[i]? = some f := by rfl) : f K = true := by
  have c1 : (ck.all fun f => f K) = true := congrArg (fun z : AlX => z.1) c
  exact List.all_eq_true.mp c1 f (List.mem_of_getElem? h)
theorem SaysX.fn_ (c : SaysX ck fn K) (i : Nat) {d : DefS} (h : fn[i]? = some d := by rfl) : fnS K d.at_ = d.val := by
  have e : fn.map (fun d => fnS K d.at_) = fn.map DefS.val := congrArg (fun z : AlX => z.2) c
  have e2 : (fn.map fun d => fnS K d.at_)[i]? = (fn.map DefS.val)[i]? := by rw [e]
  rw [List.getElem?_map, List.getElem?_map, h] at e2
  exact Option.some.inj e2
end
end HX

namespace K15
open PySem PySem.Spec PyProof.Rows L2
/-! ### the text -/
def topS (i : Nat) : Stmt := PySem.Challenge.pw_struckpieces_k15_whole_machines_judged.main.body.getD i (.Pass ⟨0, 0, 0, 0⟩)
abbrev s_BadBook_init : Stmt := inClass (topS 2) 0
abbrev s_BadMachine_init : Stmt := inClass (topS 3) 0
abbrev s_q_is_log : Stmt := topS 9
abbrev N_q_is_log : List Str := ["thing", "sign"]
theorem sc_q_is_log : FnScope N_q_is_log ["thing"] (defScope s_q_is_log) := ⟨rfl, rfl, rfl, by decide +kernel, rfl, by decide +kernel, by decide +kernel⟩
abbrev s_is_piece : Stmt := topS 10
abbrev N_is_piece : List Str := ["thing"]
theorem sc_is_piece : FnScope N_is_piece ["thing"] (defScope s_is_piece) := ⟨rfl, rfl, rfl, by decide +kernel, rfl, by decide +kernel, by decide +kernel⟩
abbrev s_Book_init : Stmt := inClass (topS 11) 0
abbrev N_Book_init : List Str := ["self", "pieces", "number", "piece"]
theorem sc_Book_init : FnScope N_Book_init ["self", "pieces"] (defScope s_Book_init) := ⟨rfl, rfl, rfl, by decide +kernel, rfl, by decide +kernel, by decide +kernel⟩
abbrev s_Book_eq : Stmt := inClass (topS 11) 1
abbrev N_Book_eq : List Str := ["self", "other"]
theorem sc_Book_eq : FnScope N_Book_eq ["self", "other"] (defScope s_Book_eq) := ⟨rfl, rfl, rfl, by decide +kernel, rfl, by decide +kernel, by decide +kernel⟩
abbrev s_is_integer : Stmt := topS 13
abbrev N_is_integer : List Str := ["thing"]
theorem sc_is_integer : FnScope N_is_integer ["thing"] (defScope s_is_integer) := ⟨rfl, rfl, rfl, by decide +kernel, rfl, by decide +kernel, by decide +kernel⟩
abbrev s_is_within : Stmt := topS 14
abbrev N_is_within : List Str := ["thing", "least", "most"]
theorem sc_is_within : FnScope N_is_within ["thing", "least", "most"] (defScope s_is_within) := ⟨rfl, rfl, rfl, by decide +kernel, rfl, by decide +kernel, by decide +kernel⟩
abbrev s_are_signs : Stmt := topS 18
abbrev N_are_signs : List Str := ["thing", "sign"]
theorem sc_are_signs : FnScope N_are_signs ["thing"] (defScope s_are_signs) := ⟨rfl, rfl, rfl, by decide +kernel, rfl, by decide +kernel, by decide +kernel⟩
abbrev s_is_row : Stmt := topS 19
abbrev N_is_row : List Str := ["thing", "wide", "many", "one"]
theorem sc_is_row : FnScope N_is_row ["thing", "wide", "many"] (defScope s_is_row) := ⟨rfl, rfl, rfl, by decide +kernel, rfl, by decide +kernel, by decide +kernel⟩
abbrev s_Machine_init : Stmt := inClass (topS 20) 0
abbrev N_Machine_init : List Str := ["self", "signs", "rows", "lets", "number", "row", "one"]
theorem sc_Machine_init : FnScope N_Machine_init ["self", "signs", "rows", "lets"] (defScope s_Machine_init) := ⟨rfl, rfl, rfl, by decide +kernel, rfl, by decide +kernel, by decide +kernel⟩
abbrev s_Machine_eq : Stmt := inClass (topS 20) 1
abbrev N_Machine_eq : List Str := ["self", "other"]
theorem sc_Machine_eq : FnScope N_Machine_eq ["self", "other"] (defScope s_Machine_eq) := ⟨rfl, rfl, rfl, by decide +kernel, rfl, by decide +kernel, by decide +kernel⟩
abbrev s_step : Stmt := topS 21
abbrev N_step : List Str := ["machine", "standing", "letter"]
theorem sc_step : FnScope N_step ["machine", "standing", "letter"] (defScope s_step) := ⟨rfl, rfl, rfl, by decide +kernel, rfl, by decide +kernel, by decide +kernel⟩
abbrev s_behind : Stmt := topS 22
abbrev N_behind : List Str := ["machine", "standing", "text", "letter"]
theorem sc_behind : FnScope N_behind ["machine", "standing", "text"] (defScope s_behind) := ⟨rfl, rfl, rfl, by decide +kernel, rfl, by decide +kernel, by decide +kernel⟩
abbrev s_is_of_signs : Stmt := topS 23
abbrev N_is_of_signs : List Str := ["machine", "thing", "sign"]
theorem sc_is_of_signs : FnScope N_is_of_signs ["machine", "thing"] (defScope s_is_of_signs) := ⟨rfl, rfl, rfl, by decide +kernel, rfl, by decide +kernel, by decide +kernel⟩
abbrev s_reached : Stmt := topS 24
abbrev N_reached : List Str := ["machine", "text"]
theorem sc_reached : FnScope N_reached ["machine", "text"] (defScope s_reached) := ⟨rfl, rfl, rfl, by decide +kernel, rfl, by decide +kernel, by decide +kernel⟩
abbrev s_lets_by : Stmt := topS 25
abbrev N_lets_by : List Str := ["machine", "text"]
theorem sc_lets_by : FnScope N_lets_by ["machine", "text"] (defScope s_lets_by) := ⟨rfl, rfl, rfl, by decide +kernel, rfl, by decide +kernel, by decide +kernel⟩
abbrev s_bag : Stmt := topS 27
abbrev N_bag : List Str := ["_law_script", "_law_seed", "_law_cell", "_law_great", "_law_always"]
theorem sc_bag : FnScope N_bag ["_law_script"] (defScope s_bag) := ⟨rfl, rfl, rfl, by decide +kernel, rfl, by decide +kernel, by decide +kernel⟩
abbrev s_pick : Stmt := topS 28
abbrev N_pick : List Str := ["_law_bag_here", "_law_many", "_law_great", "_law_digit", "_law_number"]
theorem sc_pick : FnScope N_pick ["_law_bag_here", "_law_many"] (defScope s_pick) := ⟨rfl, rfl, rfl, by decide +kernel, rfl, by decide +kernel, by decide +kernel⟩
abbrev s_some : Stmt := topS 29
abbrev N_some : List Str := ["_law_bag_here", "_law_things"]
theorem sc_some : FnScope N_some ["_law_bag_here", "_law_things"] (defScope s_some) := ⟨rfl, rfl, rfl, by decide +kernel, rfl, by decide +kernel, by decide +kernel⟩
abbrev s_nested : Stmt := topS 30
abbrev N_nested : List Str := ["_law_thing", "_law_turn"]
theorem sc_nested : FnScope N_nested [] (defScope s_nested) := ⟨rfl, rfl, rfl, by decide +kernel, rfl, by decide +kernel, by decide +kernel⟩
abbrev s_parts : Stmt := topS 31
abbrev N_parts : List Str := ["_law_bag_here", "_law_signs", "_law_most", "_law_many", "_law_rows", "_law_standing", "_law_sign"]
theorem sc_parts : FnScope N_parts ["_law_bag_here", "_law_signs", "_law_most"] (defScope s_parts) := ⟨rfl, rfl, rfl, by decide +kernel, rfl, by decide +kernel, by decide +kernel⟩
abbrev s_walk : Stmt := topS 32
abbrev N_walk : List Str := ["_law_parts_here", "_law_text_here", "_law_standing", "_law_sign"]
theorem sc_walk : FnScope N_walk ["_law_parts_here", "_law_text_here"] (defScope s_walk) := ⟨rfl, rfl, rfl, by decide +kernel, rfl, by decide +kernel, by decide +kernel⟩
abbrev s_lets : Stmt := topS 33
abbrev N_lets : List Str := ["_law_parts_here", "_law_text_here"]
theorem sc_lets : FnScope N_lets ["_law_parts_here", "_law_text_here"] (defScope s_lets) := ⟨rfl, rfl, rfl, by decide +kernel, rfl, by decide +kernel, by decide +kernel⟩
abbrev s_text : Stmt := topS 34
abbrev N_text : List Str := ["_law_bag_here", "_law_own", "_law_most", "_law_letter"]
theorem sc_text : FnScope N_text ["_law_bag_here", "_law_own", "_law_most"] (defScope s_text) := ⟨rfl, rfl, rfl, by decide +kernel, rfl, by decide +kernel, by decide +kernel⟩
abbrev s_int : Stmt := topS 35
abbrev N_int : List Str := ["_law_thing", "_law_many"]
theorem sc_int : FnScope N_int ["_law_thing", "_law_many"] (defScope s_int) := ⟨rfl, rfl, rfl, by decide +kernel, rfl, by decide +kernel, by decide +kernel⟩
abbrev s_due : Stmt := topS 36
abbrev N_due : List Str := ["_law_signs", "_law_rows", "_law_lets_here", "_law_at", "_law_row", "_law_sign", "_law_one"]
theorem sc_due : FnScope N_due ["_law_signs", "_law_rows", "_law_lets_here"] (defScope s_due) := ⟨rfl, rfl, rfl, by decide +kernel, rfl, by decide +kernel, by decide +kernel⟩
abbrev s_told : Stmt := topS 37
abbrev N_told : List Str := ["_law_signs", "_law_rows", "_law_lets_here", "e"]
theorem sc_told : FnScope N_told ["_law_signs", "_law_rows", "_law_lets_here"] (defScope s_told) := ⟨rfl, rfl, rfl, by decide +kernel, rfl, by decide +kernel, by decide +kernel⟩
abbrev s_bent : Stmt := topS 38
abbrev N_bent : List Str := ["_law_bag_here", "_law_parts_here", "_law_signs", "_law_rows", "_law_lets_here", "_law_at", "_law_spot", "_law_odd", "_law_row", "_law_some_here", "_law_put", "_law_others", "_law_flags", "_law_one", "_law_flag_here"]
theorem sc_bent : FnScope N_bent ["_law_bag_here", "_law_parts_here"] (defScope s_bent) := ⟨rfl, rfl, rfl, by decide +kernel, rfl, by decide +kernel, by decide +kernel⟩
abbrev s_flag : Stmt := topS 39
abbrev N_flag : List Str := ["_law_told_here", "_law_due_here"]
theorem sc_flag : FnScope N_flag ["_law_told_here", "_law_due_here"] (defScope s_flag) := ⟨rfl, rfl, rfl, by decide +kernel, rfl, by decide +kernel, by decide +kernel⟩
abbrev s_law : Stmt := topS 40
abbrev N_law : List Str := ["_law_script", "_law_bag_here", "_law_turn", "_law_signs", "_law_parts_here", "_law_told_here", "_law_machine", "_law_again", "_law_thing", "_law_due_here", "_law_text_here", "_law_odd", "_law_word", "_law_letter"]
theorem sc_law : FnScope N_law ["_law_script"] (defScope s_law) := ⟨rfl, rfl, rfl, by decide +kernel, rfl, by decide +kernel, by decide +kernel⟩
/-- what the top has left -/
structure Txt (P : Program) (K : PySem.W.Frag) (mg : Str → Option Value) where
  a_q_is_log : Addr
  fd_q_is_log : FuncData
  F_q_is_log : Fun K "is_log" "is_log" s_q_is_log a_q_is_log fd_q_is_log
  b_q_is_log : Binds K fd_q_is_log ["thing"] []
  g_q_is_log : mg "is_log" = some (.ref a_q_is_log)
  a_is_piece : Addr
  fd_is_piece : FuncData
  F_is_piece : Fun K "is_piece" "is_piece" s_is_piece a_is_piece fd_is_piece
  b_is_piece : Binds K fd_is_piece ["thing"] []
  g_is_piece : mg "is_piece" = some (.ref a_is_piece)
  a_Book_init : Addr
  fd_Book_init : FuncData
  F_Book_init : Fun K "__init__" "Book.__init__" s_Book_init a_Book_init fd_Book_init
  b_Book_init : Binds K fd_Book_init ["self", "pieces"] []
  a_Book_eq : Addr
  fd_Book_eq : FuncData
  F_Book_eq : Fun K "__eq__" "Book.__eq__" s_Book_eq a_Book_eq fd_Book_eq
  b_Book_eq : Binds K fd_Book_eq ["self", "other"] []
  a_is_integer : Addr
  fd_is_integer : FuncData
  F_is_integer : Fun K "is_integer" "is_integer" s_is_integer a_is_integer fd_is_integer
  b_is_integer : Binds K fd_is_integer ["thing"] []
  g_is_integer : mg "is_integer" = some (.ref a_is_integer)
  a_is_within : Addr
  fd_is_within : FuncData
  F_is_within : Fun K "is_within" "is_within" s_is_within a_is_within fd_is_within
  b_is_within : Binds K fd_is_within ["thing", "least", "most"] []
  g_is_within : mg "is_within" = some (.ref a_is_within)
  a_are_signs : Addr
  fd_are_signs : FuncData
  F_are_signs : Fun K "are_signs" "are_signs" s_are_signs a_are_signs fd_are_signs
  b_are_signs : Binds K fd_are_signs ["thing"] []
  g_are_signs : mg "are_signs" = some (.ref a_are_signs)
  a_is_row : Addr
  fd_is_row : FuncData
  F_is_row : Fun K "is_row" "is_row" s_is_row a_is_row fd_is_row
  b_is_row : Binds K fd_is_row ["thing", "wide", "many"] []
  g_is_row : mg "is_row" = some (.ref a_is_row)
  a_Machine_init : Addr
  fd_Machine_init : FuncData
  F_Machine_init : Fun K "__init__" "Machine.__init__" s_Machine_init a_Machine_init fd_Machine_init
  b_Machine_init : Binds K fd_Machine_init ["self", "signs", "rows", "lets"] []
  a_Machine_eq : Addr
  fd_Machine_eq : FuncData
  F_Machine_eq : Fun K "__eq__" "Machine.__eq__" s_Machine_eq a_Machine_eq fd_Machine_eq
  b_Machine_eq : Binds K fd_Machine_eq ["self", "other"] []
  a_step : Addr
  fd_step : FuncData
  F_step : Fun K "step" "step" s_step a_step fd_step
  b_step : Binds K fd_step ["machine", "standing", "letter"] []
  g_step : mg "step" = some (.ref a_step)
  a_behind : Addr
  fd_behind : FuncData
  F_behind : Fun K "behind" "behind" s_behind a_behind fd_behind
  b_behind : Binds K fd_behind ["machine", "standing", "text"] []
  g_behind : mg "behind" = some (.ref a_behind)
  a_is_of_signs : Addr
  fd_is_of_signs : FuncData
  F_is_of_signs : Fun K "is_of_signs" "is_of_signs" s_is_of_signs a_is_of_signs fd_is_of_signs
  b_is_of_signs : Binds K fd_is_of_signs ["machine", "thing"] []
  g_is_of_signs : mg "is_of_signs" = some (.ref a_is_of_signs)
  a_reached : Addr
  fd_reached : FuncData
  F_reached : Fun K "reached" "reached" s_reached a_reached fd_reached
  b_reached : Binds K fd_reached ["machine", "text"] []
  g_reached : mg "reached" = some (.ref a_reached)
  a_lets_by : Addr
  fd_lets_by : FuncData
  F_lets_by : Fun K "lets_by" "lets_by" s_lets_by a_lets_by fd_lets_by
  b_lets_by : Binds K fd_lets_by ["machine", "text"] []
  g_lets_by : mg "lets_by" = some (.ref a_lets_by)
  a_bag : Addr
  fd_bag : FuncData
  F_bag : Fun K "_law_bag" "_law_bag" s_bag a_bag fd_bag
  b_bag : Binds K fd_bag ["_law_script"] []
  g_bag : mg "_law_bag" = some (.ref a_bag)
  a_pick : Addr
  fd_pick : FuncData
  F_pick : Fun K "_law_pick" "_law_pick" s_pick a_pick fd_pick
  b_pick : Binds K fd_pick ["_law_bag_here", "_law_many"] []
  g_pick : mg "_law_pick" = some (.ref a_pick)
  a_some : Addr
  fd_some : FuncData
  F_some : Fun K "_law_some" "_law_some" s_some a_some fd_some
  b_some : Binds K fd_some ["_law_bag_here", "_law_things"] []
  g_some : mg "_law_some" = some (.ref a_some)
  a_nested : Addr
  fd_nested : FuncData
  F_nested : Fun K "_law_nested" "_law_nested" s_nested a_nested fd_nested
  b_nested : Binds K fd_nested [] []
  g_nested : mg "_law_nested" = some (.ref a_nested)
  a_parts : Addr
  fd_parts : FuncData
  F_parts : Fun K "_law_parts" "_law_parts" s_parts a_parts fd_parts
  b_parts : Binds K fd_parts ["_law_bag_here", "_law_signs", "_law_most"] []
  g_parts : mg "_law_parts" = some (.ref a_parts)
  a_walk : Addr
  fd_walk : FuncData
  F_walk : Fun K "_law_walk" "_law_walk" s_walk a_walk fd_walk
  b_walk : Binds K fd_walk ["_law_parts_here", "_law_text_here"] []
  g_walk : mg "_law_walk" = some (.ref a_walk)
  a_lets : Addr
  fd_lets : FuncData
  F_lets : Fun K "_law_lets" "_law_lets" s_lets a_lets fd_lets
  b_lets : Binds K fd_lets ["_law_parts_here", "_law_text_here"] []
  g_lets : mg "_law_lets" = some (.ref a_lets)
  a_text : Addr
  fd_text : FuncData
  F_text : Fun K "_law_text" "_law_text" s_text a_text fd_text
  b_text : Binds K fd_text ["_law_bag_here", "_law_own", "_law_most"] []
  g_text : mg "_law_text" = some (.ref a_text)
  a_int : Addr
  fd_int : FuncData
  F_int : Fun K "_law_int" "_law_int" s_int a_int fd_int
  b_int : Binds K fd_int ["_law_thing", "_law_many"] []
  g_int : mg "_law_int" = some (.ref a_int)
  a_due : Addr
  fd_due : FuncData
  F_due : Fun K "_law_due" "_law_due" s_due a_due fd_due
  b_due : Binds K fd_due ["_law_signs", "_law_rows", "_law_lets_here"] []
  g_due : mg "_law_due" = some (.ref a_due)
  a_told : Addr
  fd_told : FuncData
  F_told : Fun K "_law_told" "_law_told" s_told a_told fd_told
  b_told : Binds K fd_told ["_law_signs", "_law_rows", "_law_lets_here"] []
  g_told : mg "_law_told" = some (.ref a_told)
  a_bent : Addr
  fd_bent : FuncData
  F_bent : Fun K "_law_bent" "_law_bent" s_bent a_bent fd_bent
  b_bent : Binds K fd_bent ["_law_bag_here", "_law_parts_here"] []
  g_bent : mg "_law_bent" = some (.ref a_bent)
  a_flag : Addr
  fd_flag : FuncData
  F_flag : Fun K "_law_flag" "_law_flag" s_flag a_flag fd_flag
  b_flag : Binds K fd_flag ["_law_told_here", "_law_due_here"] []
  g_flag : mg "_law_flag" = some (.ref a_flag)
  a_law : Addr
  fd_law : FuncData
  F_law : Fun K "law" "law" s_law a_law fd_law
  b_law : Binds K fd_law ["_law_script"] []
  g_law : mg "law" = some (.ref a_law)
  C_LogError : Addr
  g_LogError : mg "LogError" = some (.ref C_LogError)
  xc_LogError : OexC K C_LogError
  ic_LogError : ExcC K C_LogError
  bx_LogError : PySem.W.subIn K (.ref C_LogError) (.type "BaseException") = some true
  tx_LogError : PySem.W.typeIn K (.ref C_LogError) = some (.type "type")
  k_LogError : PySem.W.excIn K C_LogError [.type "ValueError", .type "Exception", .type "BaseException", .type "object"] "ValueError.__new__" = true
  kp_LogError : PySem.W.keepIn K (.ref C_LogError) = true
  C_BadBook : Addr
  g_BadBook : mg "BadBook" = some (.ref C_BadBook)
  xc_BadBook : OexC K C_BadBook
  ic_BadBook : ExcC K C_BadBook
  bx_BadBook : PySem.W.subIn K (.ref C_BadBook) (.type "BaseException") = some true
  tx_BadBook : PySem.W.typeIn K (.ref C_BadBook) = some (.type "type")
  a_BadBook_init : Addr
  fd_BadBook_init : FuncData
  S_BadBook_init : SPX.SiC P K mg s_BadBook_init "BadBook.__init__" "part" "part" C_BadBook a_BadBook_init fd_BadBook_init
  b_BadBook_init : Binds K fd_BadBook_init ["self", "part"] []
  fi_BadBook : PySem.W.findIn K (.ref C_BadBook) "part" = some none
  ii_BadBook : PySem.W.findIn K (.ref C_BadBook) "__init__" = some (some (.ref a_BadBook_init))
  ti_BadBook : PySem.W.typeIn K (.ref a_BadBook_init) = some (.type "function")
  C_BadMachine : Addr
  g_BadMachine : mg "BadMachine" = some (.ref C_BadMachine)
  xc_BadMachine : OexC K C_BadMachine
  ic_BadMachine : ExcC K C_BadMachine
  bx_BadMachine : PySem.W.subIn K (.ref C_BadMachine) (.type "BaseException") = some true
  tx_BadMachine : PySem.W.typeIn K (.ref C_BadMachine) = some (.type "type")
  a_BadMachine_init : Addr
  fd_BadMachine_init : FuncData
  S_BadMachine_init : SPX.SiC P K mg s_BadMachine_init "BadMachine.__init__" "part" "part" C_BadMachine a_BadMachine_init fd_BadMachine_init
  b_BadMachine_init : Binds K fd_BadMachine_init ["self", "part"] []
  fi_BadMachine : PySem.W.findIn K (.ref C_BadMachine) "part" = some none
  ii_BadMachine : PySem.W.findIn K (.ref C_BadMachine) "__init__" = some (some (.ref a_BadMachine_init))
  ti_BadMachine : PySem.W.typeIn K (.ref a_BadMachine_init) = some (.type "function")
  C_NoText : Addr
  g_NoText : mg "NoText" = some (.ref C_NoText)
  xc_NoText : OexC K C_NoText
  ic_NoText : ExcC K C_NoText
  bx_NoText : PySem.W.subIn K (.ref C_NoText) (.type "BaseException") = some true
  tx_NoText : PySem.W.typeIn K (.ref C_NoText) = some (.type "type")
  k_NoText : PySem.W.excIn K C_NoText [.type "ValueError", .type "Exception", .type "BaseException", .type "object"] "ValueError.__new__" = true
  kp_NoText : PySem.W.keepIn K (.ref C_NoText) = true
  C_Book : Addr
  g_Book : mg "Book" = some (.ref C_Book)
  cl_Book : Cls K C_Book
  M_Book : Mk K C_Book a_Book_init
  eqc_Book : NR.EqC K C_Book a_Book_eq
  nf_Book : (["tuple", "int", "str", "list", "bool", "NoneType", "dict"].all fun t => PySem.W.notFirst K C_Book (.type t)) = true
  ty_Book : PySem.W.findIn K (.ref C_Book) "__class__" = some (some (.builtin "object.__class__")) ∧ PySem.W.specialIn K (.builtin "object.__class__") "__get__" = some (some (.builtin "getset_descriptor.__get__")) ∧ PySem.W.takesIn K (.builtin "object.__class__") = some true ∧ PySem.W.mroIn K C_Book (.type "object") = some true
  kc_Book : (["tuple", "int", "str", "list", "bool", "NoneType", "dict"].all fun t => PySem.W.kitOne K (.type t) (.ref C_Book) == some false) = true
  no_Book_pieces : NoAttr K C_Book "pieces"
  C_Machine : Addr
  g_Machine : mg "Machine" = some (.ref C_Machine)
  cl_Machine : Cls K C_Machine
  M_Machine : Mk K C_Machine a_Machine_init
  eqc_Machine : NR.EqC K C_Machine a_Machine_eq
  nf_Machine : (["tuple", "int", "str", "list", "bool", "NoneType", "dict"].all fun t => PySem.W.notFirst K C_Machine (.type t)) = true
  ty_Machine : PySem.W.findIn K (.ref C_Machine) "__class__" = some (some (.builtin "object.__class__")) ∧ PySem.W.specialIn K (.builtin "object.__class__") "__get__" = some (some (.builtin "getset_descriptor.__get__")) ∧ PySem.W.takesIn K (.builtin "object.__class__") = some true ∧ PySem.W.mroIn K C_Machine (.type "object") = some true
  kc_Machine : (["tuple", "int", "str", "list", "bool", "NoneType", "dict"].all fun t => PySem.W.kitOne K (.type t) (.ref C_Machine) == some false) = true
  no_Machine_lets : NoAttr K C_Machine "lets"
  no_Machine_rows : NoAttr K C_Machine "rows"
  no_Machine_signs : NoAttr K C_Machine "signs"
  em_LogError_BadMachine : PySem.W.exmOne K (.ref C_LogError) (.ref C_BadMachine) = some false
  em_LogError_NoText : PySem.W.exmOne K (.ref C_LogError) (.ref C_NoText) = some false
  em_BadBook_BadMachine : PySem.W.exmOne K (.ref C_BadBook) (.ref C_BadMachine) = some false
  em_BadBook_NoText : PySem.W.exmOne K (.ref C_BadBook) (.ref C_NoText) = some false
  em_BadMachine_BadMachine : PySem.W.exmOne K (.ref C_BadMachine) (.ref C_BadMachine) = some true
  em_BadMachine_NoText : PySem.W.exmOne K (.ref C_BadMachine) (.ref C_NoText) = some false
  em_NoText_BadMachine : PySem.W.exmOne K (.ref C_NoText) (.ref C_BadMachine) = some false
  em_NoText_NoText : PySem.W.exmOne K (.ref C_NoText) (.ref C_NoText) = some true
  g_LETTERS : ∃ t, mg "LETTERS" = some (.str "abcdefgh" t)
  g_MOST_PIECES : ∃ t, mg "MOST_PIECES" = some (.int 12 t)
  g_MOST_LONG : ∃ t, mg "MOST_LONG" = some (.int 8 t)
  g_MOST_SIGNS : ∃ t, mg "MOST_SIGNS" = some (.int 8 t)
  g_MOST_STANDINGS : ∃ t, mg "MOST_STANDINGS" = some (.int 300 t)
  m_abs : mg "abs" = none
  m_all : mg "all" = none
  m_bool : mg "bool" = none
  m_enumerate : mg "enumerate" = none
  m_int : mg "int" = none
  m_isinstance : mg "isinstance" = none
  m_len : mg "len" = none
  m_list : mg "list" = none
  m_range : mg "range" = none
  m_set : mg "set" = none
  m_sorted : mg "sorted" = none
  m_str : mg "str" = none
  m_sum : mg "sum" = none
  m_super : mg "super" = none
  m_tuple : mg "tuple" = none

local macro_rules | `(tactic| walk_at "kd") => `(tactic| first | assumption | exact SPD.KdOf.int _ | exact SPD.KdOf.str _ | exact SPD.KdOf.bl _ | exact SPD.KdOf.non | exact SPD.KdOf.same (by assumption) (by walk_at "kd") | exact SPD.KdOf.tup (by walk_at "hp") | exact SPD.KdOf.lst (by walk_at "hp") | fail "no")
local macro_rules | `(tactic| walk_at "ne") => `(tactic| first | assumption | exact Ne.symm (by assumption) | fail "no")
local macro_rules | `(tactic| walk_at "hp") => `(tactic| first | assumption | exact RD.at_same (by assumption) (by walk_at "hp") | exact RD.at_kb (by assumption) (by walk_at "ne") (by walk_at "hp") | fail "no")
local macro_rules | `(tactic| walk_at "sq") => `(tactic| first | assumption | exact Or.inl (Or.inl (by walk_at "hp")) | exact Same.seq (by assumption) (by walk_at "sq") | exact RD.KB.seq (by assumption) (by walk_at "ne") (by walk_at "sq") | fail "no")
local macro_rules | `(tactic| walk_at "st") => `(tactic| first | assumption | exact Or.inl (Or.inl (by walk_at "hp")) | exact RD.Same.tup (by assumption) (by walk_at "st") | exact RD.KB.tup (by assumption) (by walk_at "ne") (by walk_at "st") | fail "no")
local macro_rules | `(tactic| walk_at "rd") => `(tactic| first
  | with_reducible refine RD.c ?_
  | ((with_reducible refine' RD.var ?rdE ?rdK); (case rdE => exact rfl))
  | with_reducible refine RD.op ?_
  | with_reducible refine RD.un ?_
  | with_reducible refine RD.nil ?_
  | with_reducible refine RD.cons ?_
  | with_reducible refine RD.cb ?_
  | with_reducible refine RD.call ?_
  | with_reducible refine RD.test ?_
  | with_reducible refine RD.tb' ?_
  | with_reducible refine RD.bl ?_
  | with_reducible refine RD.and' ?_
  | with_reducible refine RD.or' ?_
  | with_reducible refine RD.not' ?_
  | with_reducible refine RD.andV ?_
  | with_reducible refine RD.orV ?_
  | with_reducible refine RD.notV ?_
  | with_reducible refine RD.ife ?_
  | with_reducible refine RD.sl ?_
  | with_reducible refine RD.part ?_
  | with_reducible refine RD.noPart ?_
  | with_reducible refine RD.partI ?_
  | with_reducible refine RD.rd0 ?_
  | with_reducible refine RD.rdU ?_
  | ((with_reducible refine' RD.rdEq ?rdE ?rdK); (case rdE => rfl))
  | ((with_reducible refine' RD.rdNe ?rdE ?rdK); (case rdE => rfl))
  | ((with_reducible refine' RD.ixL ?rdH ?rdE ?rdK); (case rdH => walk_at "sq"); (case rdE => first | rfl | assumption))
  | ((with_reducible refine' RD.rdI ?rdC ?rdK); (case rdC => first | assumption | (show (0 : Int) < _; first | decide | omega) | exact ⟨by decide, by decide⟩ | exact ⟨by assumption, by assumption⟩ | exact .inr ⟨by decide, by decide⟩ | exact .inl ⟨by decide, by decide⟩ | exact ⟨by decide, by decide, by decide⟩ | exact .inl ⟨by omega, by omega⟩))
  | ((with_reducible refine' RD.setL ?rdH ?rdE ?rdK); (case rdH => walk_at "hp"); (case rdE => rfl); intro $(Lean.mkIdent `H'):ident $(Lean.mkIdent `hk):ident $(Lean.mkIdent `hv):ident)
  | ((with_reducible refine' RD.irng1V ?rdA ?rdB ?rdK); (case rdA => first | decide | omega); (case rdB => first | decide | omega))
  | with_reducible refine RD.int1 ?_
  | with_reducible refine RD.abs1 ?_
  | ((with_reducible refine' RD.len ?rdH ?rdK); (case rdH => first | exact Or.inl (by walk_at "sq") | exact Or.inr (by walk_at "st")))
  | with_reducible refine RD.tup ?_
  | with_reducible refine RD.lst ?_
  | with_reducible refine RD.ite1 ?_
  | with_reducible refine RD.ite0 ?_
  | with_reducible refine RD.ite1n ?_
  | with_reducible refine RD.ite0n ?_
  | with_reducible refine RD.seq ?_
  | with_reducible refine RD.asg ?_
  | with_reducible refine RD.name ?_
  | with_reducible refine RD.ret ?_
  | with_reducible refine RD.drop ?_
  | with_reducible refine RD.next ?_
  | with_reducible refine RD.ifs ?_
  | with_reducible refine RD.par ?_
  | with_reducible refine RD.par2 ?_
  | with_reducible refine RD.sub ?_
  | with_reducible refine RD.gcons ?_
  | with_reducible refine RD.gnil ?_
  | with_reducible refine RD.bm ?_
  | ((with_reducible refine' RD.bmL ?rdH ?rdK); (case rdH => walk_at "sq"))
  | ((with_reducible refine' RD.newZ ?rdH ?rdK); (case rdH => exact RD.sz _); intro $(Lean.mkIdent `p'):ident $(Lean.mkIdent `H'):ident $(Lean.mkIdent `hp):ident $(Lean.mkIdent `hs):ident $(Lean.mkIdent `hv):ident; (try have $(Lean.mkIdent `hn):ident := hand_ne $(Lean.mkIdent `hp):ident (by walk_at "hk")))
  | with_reducible refine RD.fors ?_
  | with_reducible refine RD.lc ?_
  | with_reducible refine RD.yes ?_
  | with_reducible refine RD.ilist ?_
  | ((with_reducible refine' RD.ilistV ?rdH ?rdK); (case rdH => walk_at "sq"))
  | with_reducible refine RD.itup ?_
  | ((with_reducible refine' RD.itupV ?rdH ?rdK); (case rdH => walk_at "st"))
  | with_reducible refine RD.irng1 ?_
  | with_reducible refine RD.irng2 ?_
  | ((with_reducible refine' RD.irng2V ?rdA ?rdK); (case rdA => first | decide | omega))
  | with_reducible refine RD.ienum ?_
  | ((with_reducible refine' RD.ienumV ?rdH ?rdK); (case rdH => walk_at "sq"))
  | with_reducible refine RD.izip ?_
  | ((with_reducible refine' RD.izipV ?rdH ?rdE ?rdK); (case rdH => walk_at "sq"); (case rdE => walk_at "sq"))
  | with_reducible refine SPD.izipA ?_
  | with_reducible refine RD.istr ?_
  | with_reducible refine RD.istrV ?_
  | ((with_reducible refine' RD.slL ?rdH ?rdK); (case rdH => walk_at "sq"); intro $(Lean.mkIdent `p'):ident $(Lean.mkIdent `H'):ident $(Lean.mkIdent `hp):ident $(Lean.mkIdent `hs):ident $(Lean.mkIdent `hv):ident; (try have $(Lean.mkIdent `hn):ident := hand_ne $(Lean.mkIdent `hp):ident (by walk_at "hk")))
  | ((with_reducible refine' RD.cat ?rdH ?rdE ?rdZ ?rdK); (case rdH => walk_at "hp"); (case rdE => walk_at "hp"); (case rdZ => exact RD.sz _); intro $(Lean.mkIdent `p'):ident $(Lean.mkIdent `H'):ident $(Lean.mkIdent `hp):ident $(Lean.mkIdent `hs):ident $(Lean.mkIdent `hv):ident; (try have $(Lean.mkIdent `hn):ident := hand_ne $(Lean.mkIdent `hp):ident (by walk_at "hk")))
  | ((with_reducible refine' RD.gtup ?rdH ?rdE ?rdK); (case rdH => walk_at "st"); (case rdE => rfl))
  | ((with_reducible refine' RD.app ?rdH ?rdZ ?rdK); (case rdH => walk_at "hp"); (case rdZ => first | assumption | (apply RD.szl; omega)); intro $(Lean.mkIdent `H'):ident $(Lean.mkIdent `hk):ident $(Lean.mkIdent `hv):ident)
  | ((with_reducible refine' RD.all1 ?rdH ?rdK); (case rdH => walk_at "sq"))
  | ((with_reducible refine' RD.any1 ?rdH ?rdK); (case rdH => walk_at "sq"))
  | ((with_reducible refine' SPD.dnew ?rdK); intro $(Lean.mkIdent `p'):ident $(Lean.mkIdent `H'):ident $(Lean.mkIdent `hp):ident $(Lean.mkIdent `hs):ident $(Lean.mkIdent `hv):ident; (try have $(Lean.mkIdent `hn):ident := hand_ne $(Lean.mkIdent `hp):ident (by walk_at "hk")))
  | ((with_reducible refine' SPD.disp1 ?rdK); intro $(Lean.mkIdent `p'):ident $(Lean.mkIdent `H'):ident $(Lean.mkIdent `hp):ident $(Lean.mkIdent `hs):ident $(Lean.mkIdent `hv):ident; (try have $(Lean.mkIdent `hn):ident := hand_ne $(Lean.mkIdent `hp):ident (by walk_at "hk")))
  | ((with_reducible refine' SPD.isSeq ?rdH ?rdE ?rdK); (case rdH => walk_at "hp"); (case rdE => walk_at "kd"))
  | ((with_reducible refine' SPD.isTup ?rdE ?rdK); (case rdE => walk_at "kd"))
  | ((with_reducible refine' SPD.isLst ?rdE ?rdK); (case rdE => walk_at "kd"))
  | ((with_reducible refine' SPD.isBool ?rdE ?rdK); (case rdE => walk_at "kd"))
  | ((with_reducible refine' SPD.isStr ?rdE ?rdK); (case rdE => walk_at "kd"))
  | ((with_reducible refine' SPD.isInt ?rdE ?rdK); (case rdE => walk_at "kd"))
  | dsimp only)
local macro_rules | `(tactic| walk_at "rds") => `(tactic| repeat walk_at "rd")
local macro_rules | `(tactic| walk_at "sm") => `(tactic| first | assumption | exact Same.refl _ | exact RD.sm_tr (by assumption) (by walk_at "sm") | fail "no")
local macro_rules | `(tactic| walk_at "kb") => `(tactic| first | assumption | exact RD.KB.refl | exact RD.kb_tr (by assumption) (by walk_at "kb") | exact RD.kb_trs (by assumption) (by walk_at "kb") | fail "no")
local macro_rules | `(tactic| walk_at "fr") => `(tactic| first | assumption | exact RD.fr_of (by assumption) (by walk_at "sm") | fail "no")
local macro_rules | `(tactic| walk_at "hk") => `(tactic| first | assumption | exact hand_same (by assumption) (by walk_at "hk") | exact hand_kb (by assumption) (by walk_at "fr") (by walk_at "hk") | fail "no")
local macro_rules | `(tactic| walk_at "na") => `(tactic| first | assumption | exact hand_ne (by assumption) (by walk_at "hk") | fail "no")
local macro_rules | `(tactic| walk_at "dqa") => `(tactic| first | exact SPD.DqA.nil | exact SPD.DqA.cons (by walk_at "dq") (by walk_at "dqa") | exact SPD.DqA.app (by walk_at "dqa") (by walk_at "dqa") | fail "no")
local macro_rules | `(tactic| walk_at "dq") => `(tactic| first | assumption | exact SPD.Dq.leaf rfl | exact SPD.dq_kb (by assumption) (by walk_at "kb") | exact SPD.dqTup (by walk_at "hp") (by walk_at "na") (by walk_at "dqa") | exact SPD.dqLst (by walk_at "hp") (by walk_at "na") (by walk_at "dqa") | exact SPD.dqNil (by walk_at "hp") (by walk_at "na") (by first | decide | simp) (by first | decide | simp) | fail "no")

local macro_rules | `(tactic| walk_at "rd") => `(tactic| first
  | with_reducible refine RB.chain ?_
  | with_reducible refine RB.m1 ?_
  | with_reducible refine RB.strE ?_
  | with_reducible refine RB.fld ?_
  | with_reducible refine RB.setF ?_
  | with_reducible refine RB.ss ?_
  | with_reducible refine RB.rev ?_
  | with_reducible refine RB.make ?_
  | with_reducible refine RB.makeS ?_
  | with_reducible refine RB.mkO ?_
  | with_reducible refine NR.ienumT ?_
  | with_reducible refine RB.inS ?_
  | with_reducible refine RB.bmS ?_
  | with_reducible refine RB.callS ?_
  | with_reducible refine RB.sw3 ?_
  | with_reducible refine RB.par3 ?_
  | with_reducible refine RB.par3V ?_
  | ((with_reducible refine' RB.slS ?rdH ?rdK); (case rdH => walk_at "sz"))
  | with_reducible refine RB.xf ?_
  | ((with_reducible refine' RB.xfV ?rdH ?rdE ?rdK); (case rdH => walk_at "hp"); (case rdE => rfl))
  | ((with_reducible refine' NR.ienumTV ?rdH ?rdK); (case rdH => walk_at "st"))
  | ((with_reducible refine' RB.lenL ?rdH ?rdK); (case rdH => walk_at "sq"))
  | ((with_reducible refine' RB.lenT ?rdH ?rdK); (case rdH => walk_at "st"))
  | ((with_reducible refine' RB.lenS ?rdH ?rdK); (case rdH => walk_at "sz"))
  | ((with_reducible refine' RD.lenS ?rdH ?rdK); (case rdH => walk_at "sz"))
  | ((with_reducible refine' RB.slT ?rdH ?rdK); (case rdH => walk_at "hp"); intro $(Lean.mkIdent `p'):ident $(Lean.mkIdent `H'):ident $(Lean.mkIdent `hs):ident $(Lean.mkIdent `hv):ident $(Lean.mkIdent `hp):ident; (try have $(Lean.mkIdent `hn):ident := two_ne $(Lean.mkIdent `hp):ident (by walk_at "na") (by walk_at "hk")))
  | ((with_reducible refine' RB.revV ?rdH ?rdK); (case rdH => walk_at "st"); intro $(Lean.mkIdent `p'):ident $(Lean.mkIdent `H'):ident $(Lean.mkIdent `hp):ident $(Lean.mkIdent `hs):ident $(Lean.mkIdent `hv):ident; (try have $(Lean.mkIdent `hn):ident := hand_ne $(Lean.mkIdent `hp):ident (by walk_at "hk")))
  | ((with_reducible refine' RB.listS ?rdH ?rdK); (case rdH => walk_at "sz"); intro $(Lean.mkIdent `p'):ident $(Lean.mkIdent `H'):ident $(Lean.mkIdent `hp):ident $(Lean.mkIdent `hs):ident $(Lean.mkIdent `hv):ident; (try have $(Lean.mkIdent `hn):ident := hand_ne $(Lean.mkIdent `hp):ident (by walk_at "hk")))
  | ((with_reducible refine' RB.listO ?rdH ?rdK); (case rdH => first | exact Or.inl (by walk_at "sq") | exact Or.inr (by walk_at "st")); intro $(Lean.mkIdent `p'):ident $(Lean.mkIdent `H'):ident $(Lean.mkIdent `hp):ident $(Lean.mkIdent `hs):ident $(Lean.mkIdent `hv):ident; (try have $(Lean.mkIdent `hn):ident := hand_ne $(Lean.mkIdent `hp):ident (by walk_at "hk")))
  | ((with_reducible refine' RB.tupL ?rdH ?rdK); (case rdH => walk_at "sq"); intro $(Lean.mkIdent `p'):ident $(Lean.mkIdent `H'):ident $(Lean.mkIdent `hp):ident $(Lean.mkIdent `hs):ident $(Lean.mkIdent `hv):ident; (try have $(Lean.mkIdent `hn):ident := hand_ne $(Lean.mkIdent `hp):ident (by walk_at "hk")))
  | ((with_reducible refine' RB.catT ?rdH ?rdE ?rdZ ?rdK); (case rdH => walk_at "hp"); (case rdE => walk_at "hp"); (case rdZ => exact RB.LN.sum (by walk_at "ln") (by walk_at "ln") rfl); intro $(Lean.mkIdent `p'):ident $(Lean.mkIdent `H'):ident $(Lean.mkIdent `hs):ident $(Lean.mkIdent `hv):ident $(Lean.mkIdent `hp):ident; (try have $(Lean.mkIdent `hn):ident := three_ne $(Lean.mkIdent `hp):ident (by walk_at "na") (by walk_at "na") (by walk_at "hk")))
  | fail "no")
local macro_rules | `(tactic| walk_at "ln") => `(tactic| first | with_reducible assumption | exact RB.LN.cut (by walk_at "ln") | exact RB.LN.app (by walk_at "ln") (by walk_at "ln") | exact RB.LN.rev (by walk_at "ln") | exact RB.LN.rep (by walk_at "ln") | exact RB.LN.lit rfl | fail "no")
local macro_rules | `(tactic| walk_at "sz") => `(tactic| first | assumption | exact RD.sz _ | fail "no")

local macro_rules | `(tactic| walk_at "hp") => `(tactic| first | assumption | exact RD.at_same (by assumption) (by walk_at "hp") | exact SPE.at_kx (by assumption) (by walk_at "na") (by walk_at "hp") | exact RD.at_kb (by assumption) (by walk_at "ne") (by walk_at "hp") | fail "no")
local macro_rules | `(tactic| walk_at "sq") => `(tactic| first | assumption | exact Or.inl (Or.inl (by walk_at "hp")) | exact Same.seq (by assumption) (by walk_at "sq") | exact SPE.KX.seq (by assumption) (by walk_at "na") (by walk_at "sq") | exact RD.KB.seq (by assumption) (by walk_at "ne") (by walk_at "sq") | fail "no")
local macro_rules | `(tactic| walk_at "st") => `(tactic| first | assumption | exact Or.inl (Or.inl (by walk_at "hp")) | exact RD.Same.tup (by assumption) (by walk_at "st") | exact SPE.KX.tup (by assumption) (by walk_at "na") (by walk_at "st") | exact RD.KB.tup (by assumption) (by walk_at "ne") (by walk_at "st") | fail "no")
local macro_rules | `(tactic| walk_at "kx") => `(tactic| first | assumption | exact SPE.KX.refl | exact SPE.kx_tr (by assumption) (by walk_at "kx") | exact SPE.kx_trs (by assumption) (by walk_at "kx") | fail "no")
local macro_rules | `(tactic| walk_at "dqa") => `(tactic| first | exact SPE.DqA.nil | exact SPE.DqA.cons (by walk_at "dq") (by walk_at "dqa") | exact SPE.DqA.app (by walk_at "dqa") (by walk_at "dqa") | fail "no")
local macro_rules | `(tactic| walk_at "dq") => `(tactic| first | assumption | exact SPE.Dq.leaf rfl | exact SPE.dq_kx (by assumption) (by walk_at "kx") | exact SPE.dqTup (by walk_at "hp") (by walk_at "na") (by walk_at "dqa") | exact SPE.dqLst (by walk_at "hp") (by walk_at "na") (by walk_at "dqa") | exact SPE.dqNil (by walk_at "hp") (by walk_at "na") (by first | decide | simp) (by first | decide | simp) | fail "no")
local macro_rules | `(tactic| walk_at "dqx") => `(tactic| first | exact $(Lean.mkIdent `hdb):ident _ (by walk_at "kx") | exact SPE.DqA.cons (SPE.dq_kx (by assumption) (by walk_at "kx")) SPE.DqA.nil | exact SPE.DqA.cons (SPE.Dq.leaf rfl) SPE.DqA.nil | exact SPE.DqA.nil | (with_reducible refine SPE.dqa_cut ?_; walk_at "dqx") | (with_reducible refine SPE.dqa_rev ?_; walk_at "dqx") | (with_reducible refine SPE.DqA.app ?_ ?_ <;> walk_at "dqx") | fail "no")
local macro_rules | `(tactic| walk_at "dqz") => `(tactic| first | exact SPE.dqTupN (by walk_at "hp") (by walk_at "na") (by walk_at "dqx") (by walk_at "ln") rfl | exact SPE.dqLstN (by walk_at "hp") (by walk_at "na") (by walk_at "dqx") (by walk_at "ln") rfl | fail "no")
local macro_rules | `(tactic| walk_at "rd") => `(tactic| first
  | with_reducible refine SPE.revs ?_
  | ((with_reducible refine' SPE.revsV ?rdH ?rdK); (case rdH => walk_at "sz"))
  | ((with_reducible refine' SPE.sum1 ?rdH ?rdK); (case rdH => walk_at "sq"))
  | fail "no")

/-! ### the bag, the picks -/
def BagOk (H : Hp) (x : SPE.AX) : Prop := ∃ (cells : List Int) (sd n : Int) (al : V), H x.1 = some (.lst [.int sd, .int n, .ref x.2, al]) ∧ H x.2 = some (.lst (cells.map V.int)) ∧ x.2 ≠ x.1 ∧ (al = .non ∨ ∃ m, al = .int m)
theorem BagOk.same {H H' : Hp} {x : SPE.AX} (h : BagOk H x) (s : Same H H') : BagOk H' x := by
  obtain ⟨cells, sd, n, al, ha, hc, ne, hl⟩ := h
  exact ⟨cells, sd, n, al, s _ _ ha, s _ _ hc, ne, hl⟩
theorem BagOk.off {H : Hp} {x : SPE.AX} {p : Addr} (n : H p = none) (h : BagOk H x) : SPE.Off p x := by
  obtain ⟨cells, sd, k, al, ha, hc, ne, hl⟩ := h
  exact ⟨(ne_of_none ha n).symm, (ne_of_none hc n).symm⟩
theorem BagOk.mut {H H' : Hp} {x : SPE.AX} {D : Addr} (k : RD.KB D H H') (o : SPE.Off D x) (h : BagOk H x) : BagOk H' x := by
  obtain ⟨cells, sd, n, al, ha, hc, ne, hl⟩ := h
  exact ⟨cells, sd, n, al, k _ _ o.1.symm ha, k _ _ o.2.symm hc, ne, hl⟩
theorem BagOk.tupOff {H : Hp} {x : SPE.AX} {p : Addr} {xs : List V} (e : H p = some (.tup xs)) (h : BagOk H x) : SPE.Off p x := by
  obtain ⟨cells, sd, n, al, ha, hc, ne, hl⟩ := h
  exact ⟨fun z => (by rw [← z, e] at ha; cases ha), fun z => (by rw [← z, e] at hc; cases hc)⟩
theorem BagOk.insOff {H : Hp} {x : SPE.AX} {p C dx : Addr} {fs : List (Str × V)} (e : H p = some (.ins C dx fs)) (h : BagOk H x) : SPE.Off p x := by
  obtain ⟨cells, sd, n, al, ha, hc, ne, hl⟩ := h
  exact ⟨fun z => (by rw [← z, e] at ha; cases ha), fun z => (by rw [← z, e] at hc; cases hc)⟩
theorem hand_same {H H' : Hp} {x : SPE.AX} (s : Same H H') (h : BagOk H x) : BagOk H' x := h.same s
theorem hand_kb {H H' : Hp} {x : SPE.AX} {p : Addr} (k : RD.KB p H H') (n : H p = none) (h : BagOk H x) : BagOk H' x := h.same fun b o e => k b o (ne_of_none e n) e
theorem hand_ne {H : Hp} {x : SPE.AX} {p : Addr} (n : H p = none) (h : BagOk H x) : SPE.Off p x := h.off n
theorem two_ne {H : Hp} {x : SPE.AX} {b p : Addr} (h : p = b ∨ H p = none) (hb : SPE.Off b x) (hh : BagOk H x) : SPE.Off p x := by
  rcases h with rfl | h
  · exact hb
  · exact hand_ne h hh
theorem three_ne {H : Hp} {x : SPE.AX} {b1 b2 p : Addr} (h : p = b1 ∨ p = b2 ∨ H p = none) (h1 : SPE.Off b1 x) (h2 : SPE.Off b2 x) (hh : BagOk H x) : SPE.Off p x := by
  rcases h with rfl | rfl | h
  · exact h1
  · exact h2
  · exact hand_ne h hh
def spBag (K : PySem.W.Frag) : Sp := fun vs H Q _ => ∃ (s : Addr) (ns : List Int), vs = [.ref s] ∧ SqL K H s (ns.map V.int) ∧ ns.length ≤ 63 ∧ ∀ x H', Same H H' → H x.1 = none → BagOk H' x → Q (.ref x.1) H'
def spPick : Sp := fun vs H Q _ => ∃ (x : SPE.AX) (m : Int), vs = [.ref x.1, .int m] ∧ BagOk H x ∧ 0 < m ∧ m < 1073741824 ∧ ∀ (r : Int) H', 0 ≤ r → r < m → SPE.KX x H H' → BagOk H' x → Q (.int r) H'
inductive Items (K : PySem.W.Frag) (H : Hp) (x : SPE.AX) : V → List V → Prop where
  | lst {p : Addr} {zs : List V} : SPE.Off p x → SqL K H p zs → Items K H x (.ref p) zs
  | tup {p : Addr} {zs : List V} : SPE.Off p x → SqT K H p zs → Items K H x (.ref p) zs
  | str {z : Str} : z.length ≤ sizeLine → Items K H x (.str z) (z.cps.toList.map fun c => .str ⟨#[c]⟩)
def spSome (K : PySem.W.Frag) : Sp := fun vs H Q _ => ∃ (x : SPE.AX) (y : V) (zs : List V), vs = [.ref x.1, y] ∧ BagOk H x ∧ Items K H x y zs ∧ 0 < zs.length ∧ zs.length < 1073741824 ∧ ∀ v H', v ∈ zs → SPE.KX x H H' → BagOk H' x → Q v H'
def spNested : Sp := fun vs H Q _ => vs = [] ∧ ∀ v H', Same H H' → (∀ x : SPE.AX, BagOk H x → SPE.Dq x H' 40 v) → Q v H'
theorem spPick.mk {x : SPE.AX} {m : Int} {H : Hp} {Q : VK} {E : XK} (h : BagOk H x) (h0 : 0 < m) (h1 : m < 1073741824) (q : ∀ (r : Int) H', 0 ≤ r → r < m → SPE.KX x H H' → BagOk H' x → Q (.int r) H') : spPick ([.ref x.1, .int m] ++ []) H Q E := ⟨x, m, rfl, h, h0, h1, q⟩
theorem spSome.mk {K : PySem.W.Frag} {x : SPE.AX} {y : V} {zs : List V} {H : Hp} {Q : VK} {E : XK} (h : BagOk H x) (hi : Items K H x y zs) (h0 : 0 < zs.length) (h1 : zs.length < 1073741824) (q : ∀ v H', v ∈ zs → SPE.KX x H H' → BagOk H' x → Q v H') : spSome K ([.ref x.1, y] ++ []) H Q E := ⟨x, y, zs, rfl, h, hi, h0, h1, q⟩
theorem spSome.dq {K : PySem.W.Frag} {x : SPE.AX} {p : Addr} {zs : List V} {n : Nat} {H : Hp} {Q : VK} {E : XK} (h : BagOk H x) (hp : H p = some (.lst zs)) (ne : SPE.Off p x) (hz : SPE.DqA x H n zs) (h0 : Nat.ble 1 zs.length = true) (h1 : Nat.ble zs.length 1000000 = true)
    (q : ∀ v H', SPE.KX x H H' → BagOk H' x → SPE.Dq x H' n v → Q v H') : spSome K ([.ref x.1, .ref p] ++ []) H Q E :=
  spSome.mk h (.lst ne (.inl (.inl hp))) (Nat.le_of_ble_eq_true h0) (Nat.lt_of_le_of_lt (Nat.le_of_ble_eq_true h1) (by decide)) fun v H' hm k hh => q v H' k hh ((hz.mem v hm).kx k)
section
variable {P : Program} {w : World} {K : PySem.W.Frag} {mg : Str → Option Value} {base : Heap}
theorem ok_bag (T : Txt P K mg) : FnOk P w K mg base CX0 1 T.a_bag T.fd_bag ["_law_script"] (spBag K) := by
  have nd := sc_bag.nd
  refine T.F_bag.ok sc_bag (fun vs H Q E h => ?_) (fun cdv A outer s H vs Q E hr h => ?_)
  · obtain ⟨a, ns, rfl, _⟩ := h
    rfl
  · obtain ⟨a, ns, rfl, hS, hlen, q⟩ := h
    refine ⟨_, (pss_cons (ps_set (i := 1) nd rfl (by first | exact Or.inl rfl | exact Or.inr rfl) (pe_op op_add pe_int (pe_callB call_len_seq (by rfl) T.m_len PySem.boot_len (pa_cons (pv 0) pa_nil))))
  (pss_cons (ps_for PassesOwn.never rfl (pi_list (pe_slice sl_list (pv 0) po_none (po_some pe_int))) (pg_name (i := 2) nd rfl (by first | exact Or.inl rfl | exact Or.inr rfl))
    (pss_one (ps_set (i := 1) nd rfl (by first | exact Or.inl rfl | exact Or.inr rfl) (pe_op op_mod (pe_callTy call_int1 (by rfl) T.m_int (by decide +kernel) (pa_cons (pe_op op_add (pe_op op_add (pe_op op_mul (pv 1) pe_int) (pe_op op_mod (pe_callTy call_int1 (by rfl) T.m_int (by decide +kernel) (pa_cons (pv 2) pa_nil)) pe_int)) pe_int) pa_nil)) pe_int))))
  (pss_cons (ps_setLc (i := 3) (own := [("_law_cell", 2)]) (g := (gName 2)) rfl nd rfl rfl (sw_true rfl rfl rfl (by decide +kernel)) (pi_list (pe_slice sl_list (pv 0) po_none (po_some pe_int))) (blkOk_by (own := [("_law_cell", 2)]) (N := N_bag) (sc := defScope s_bag) (by decide +kernel)) (fun _ _ _ _ _ => (pg_name (i := 2) nd rfl (Or.inl rfl))) (fun _ _ _ _ _ => (pts_one (pt_cmpR op_ge (pe_callB call_abs (by rfl) T.m_abs (by decide +kernel) (pa_cons (pe_callTy call_int1 (by rfl) T.m_int (by decide +kernel) (pa_cons (pv 2) pa_nil)) pa_nil)) (pe_op op_pow pe_int pe_int) (nomark _)))) (fun _ _ _ _ _ => (pe_callB call_abs (by rfl) T.m_abs (by decide +kernel) (pa_cons (pe_callTy call_int1 (by rfl) T.m_int (by decide +kernel) (pa_cons (pv 2) pa_nil)) pa_nil))))
  (pss_cons (ps_set (i := 4) nd rfl (by first | exact Or.inl rfl | exact Or.inr rfl) pe_non)
  (pss_cons (ps_if (PW.pt (pw_and (pt_cmpR op_lt (pe_callB call_len_seq (by rfl) T.m_len PySem.boot_len (pa_cons (pv 0) pa_nil)) pe_int (nomark _)) (pw_and1 (pt_cmpR op_eq (pe_callB call_len_seq (by rfl) T.m_len PySem.boot_len (pa_cons (pv 3) pa_nil)) pe_int (nomark _)))))
    (pss_one (ps_set (i := 4) nd rfl (by first | exact Or.inl rfl | exact Or.inr rfl) (pe_callB call_abs (by rfl) T.m_abs (by decide +kernel) (pa_cons (pe_callB (cr_sum rfl) (by rfl) T.m_sum (by decide +kernel) (pa_cons (pe_lc (own := [("_law_cell", 2)]) (g := (gName 2)) rfl nd (pi_list (pv 0)) (blkOk_by (own := [("_law_cell", 2)]) (N := N_bag) (sc := defScope s_bag) (by decide +kernel)) (fun _ _ _ _ _ => (pg_name (i := 2) nd rfl (Or.inl rfl))) (fun _ _ _ _ _ => pts_nil) (fun _ _ _ _ _ => (pe_callTy call_int1 (by rfl) T.m_int (by decide +kernel) (pa_cons (pv 2) pa_nil)))) pa_nil)) pa_nil))))
    pss_nil)
  (pss_one (ps_ret (pe_lst (pa_cons (pv 1) (pa_cons pe_int (pa_cons (pv 3) (pa_cons (pv 4) pa_nil)))))))))))), ?_⟩
    have hcl : cutV (ns.map V.int) none (some 63) = ns.map V.int := by
      unfold cutV
      rw [HT.sIx_none, show HT.sIx (ns.map V.int).length (ns.map V.int).length (some 63) = min 63 (ns.map V.int).length from HT.sIx_nat _ _ 63, List.drop_zero, List.length_map]
      exact List.take_of_length_le (by rw [List.length_map]; omega)
    have hlm : (ns.map V.int).length = ns.length := List.length_map ..
    walk_at "rds"
    rw [hcl] at hv
    have s0 := hs
    have hS0 : SqL K H' a (ns.map V.int) := by walk_at "sq"
    have hp0 : SqL K H' p' (ns.map V.int) := by walk_at "sq"
    clear hv hs hp
    generalize H' = H0 at s0 hS0 hp0
    refine RD.forW (walk_list (xs := ns.map V.int)) (fun i σ H' => ∃ (sd : Int) (x2 x3 x4 : Option V), σ = [some (.ref a), some (.int sd), x2, x3, x4] ∧ Same H0 H') ⟨_, _, _, _, rfl, Same.refl _⟩ (fun i σ H' _ p => ?_) (fun i x σ H2 H3 hi hp hy => ?_) (fun σ H2 hp => ?_)
    · obtain ⟨sd, x2, x3, x4, rfl, s2⟩ := p
      walk_at "sq"
    · obtain ⟨sd, x2, x3, x4, rfl, s2⟩ := hp
      obtain ⟨rfl, hx⟩ := hy
      rw [List.getElem?_map] at hx
      obtain ⟨n, hn, rfl⟩ := Option.map_eq_some_iff.mp hx
      walk_at "rds"
      exact ⟨_, _, _, _, rfl, s2⟩
    · obtain ⟨sd, x2, x3, x4, rfl, s2⟩ := hp
      have s02 := s0.trans s2
      have h2 : SqL K H2 a (ns.map V.int) := by walk_at "sq"
      clear s2 s0 hS0 hp0
      walk_at "rds"
      rw [hcl] at hv
      refine RD.lcF (walk_list (xs := ns.map V.int)) (by rw [hlm]; omega) (fun i => (ns[i]?).bind fun n => if (10 : Int) ^ (18 : Int).toNat ≤ (if n < 0 then -n else n) then some (.int (if n < 0 then -n else n)) else none) (fun H' s => by walk_at "sq") (fun i x H3 Z N hi hx s3 hZ hN => ?_) (fun D H3 hD s3 hv3 => ?_)
      · rw [List.getElem?_map] at hx
        obtain ⟨n, hn, rfl⟩ := Option.map_eq_some_iff.mp hx
        walk_at "rds"
        refine ⟨rfl, ?_⟩
        walk_at "rds"
        refine RD.ite_d (fun h => ?_) (fun h => ?_)
        · walk_at "rds"
          exact hZ _ _ (by rw [hn]; exact if_pos h) (Same.refl _)
        · exact hN _ (by rw [hn]; exact if_neg h) (Same.refl _)
      · obtain ⟨cells, hcl2⟩ : ∃ cells : List Int, (List.range (ns.map V.int).length).filterMap (fun i => (ns[i]?).bind fun n => if (10 : Int) ^ (18 : Int).toNat ≤ (if n < 0 then -n else n) then some (V.int (if n < 0 then -n else n)) else none) = cells.map V.int := by
          refine ⟨(List.range (ns.map V.int).length).filterMap (fun i => (ns[i]?).bind fun n => if (10 : Int) ^ (18 : Int).toNat ≤ (if n < 0 then -n else n) then some (if n < 0 then -n else n) else none), ?_⟩
          rw [List.map_filterMap]
          refine congrArg (fun f => List.filterMap f _) (funext fun i => ?_)
          cases ns[i]? with
          | none => rfl
          | some n =>
            simp only [Option.bind_some]
            by_cases h : (10 : Int) ^ (18 : Int).toNat ≤ (if n < 0 then -n else n)
            · rw [if_pos h, if_pos h]; rfl
            · rw [if_neg h, if_neg h]; rfl
        rw [hcl2] at hv3
        have hlc : (cells.map V.int).length = cells.length := List.length_map ..
        have s03 : Same H H3 := (s02.trans hs).trans s3
        have h3 : SqL K H3 a (ns.map V.int) := by walk_at "sq"
        have fin : ∀ (sd n : Int) (al : V), (al = .non ∨ ∃ m, al = .int m) → ∀ (p4 : Addr) (H5 H4 : Hp), Same H3 H5 → H5 p4 = none → Same H5 H4 → H4 p4 = some (.lst [.int sd, .int n, .ref D, al]) → Q (.ref p4) H4 := fun sd n al hal p4 H5 H4 s45 hp4 s4 hv4 =>
          q (p4, D) H4 (s03.trans (s45.trans s4)) ((s03.trans s45).free hp4) ⟨cells, sd, n, al, hv4, s4 _ _ (s45 _ _ hv3), ne_of_none (s45 _ _ hv3) hp4, hal⟩
        clear hv hs hp s02 h2 hD s3
        walk_at "rds"
        refine RD.ite_d (fun _ => ?_) (fun _ => ?_)
        · walk_at "rds"
          refine RD.ite_d (fun _ => ?_) (fun _ => ?_)
          · walk_at "rds"
            refine RD.lcF (walk_list (xs := ns.map V.int)) (by rw [hlm]; omega) (fun i => (ns[i]?).map fun n => .int n) (fun H' s => by walk_at "sq") (fun i x H4 Z N hi hx s4 hZ hN => ?_) (fun D4 H4 hD4 s4 hv4 => ?_)
            · rw [List.getElem?_map] at hx
              obtain ⟨n, hn, rfl⟩ := Option.map_eq_some_iff.mp hx
              walk_at "rds"
              refine ⟨rfl, ?_⟩
              walk_at "rds"
              exact hZ _ _ (by rw [hn]; rfl) (Same.refl _)
            · have e : (List.range (ns.map V.int).length).filterMap (fun i => (ns[i]?).map fun n => V.int n) = ns.map V.int := by
                rw [hlm, RD.range_get (fun n => V.int n) ns]
              rw [e] at hv4
              walk_at "rds"
              exact fin _ _ _ (.inr ⟨_, rfl⟩) _ _ _ s4 hp hs hv
          · walk_at "rds"
            exact fin _ _ _ (.inl rfl) _ _ _ (Same.refl _) hp hs hv
        · walk_at "rds"
          exact fin _ _ _ (.inl rfl) _ _ _ (Same.refl _) hp hs hv
theorem ok_nested (T : Txt P K mg) : FnOk P w K mg base CX0 1 T.a_nested T.fd_nested [] spNested := by
  have nd := sc_nested.nd
  refine T.F_nested.ok sc_nested (fun vs H Q E h => ?_) (fun cdv A outer s H vs Q E hr h => ?_)
  · obtain ⟨rfl, _⟩ := h
    rfl
  · obtain ⟨rfl, q⟩ := h
    refine ⟨_, (pss_cons (ps_set (i := 0) nd rfl (by first | exact Or.inl rfl | exact Or.inr rfl) (pe_tup pa_nil))
  (pss_cons (ps_for PassesOwn.never rfl (pi_range1 (by rfl) T.m_range (pa_cons pe_int pa_nil)) (pg_name (i := 1) nd rfl (by first | exact Or.inl rfl | exact Or.inr rfl))
    (pss_one (ps_set (i := 0) nd rfl (by first | exact Or.inl rfl | exact Or.inr rfl) (pe_tup (pa_cons (pv 0) pa_nil)))))
  (pss_one (ps_ret (pv 0))))), ?_⟩
    walk_at "rds"
    refine RD.forW (walk_range (lo := 0) (n := Int.toNat 36)) (fun i σ H' => ∃ (p : Addr) (xs : List V) (x1 : Option V), σ = [some (.ref p), x1] ∧ Same H H' ∧ ∀ x : SPE.AX, BagOk H x → SPE.Dq x H' (i + 1) (.ref p)) ⟨_, [], none, rfl, hs, fun x hx => SPE.dqTup hv (hand_ne hp hx) .nil⟩ (fun _ _ _ _ _ => trivial) (fun i x σ H2 H3 hi hp hy => ?_) (fun σ H2 hp => ?_)
    · obtain ⟨p, xs, x1, rfl, s2, hd⟩ := hp
      obtain ⟨rfl, rfl⟩ := hy
      clear hv hs hp
      walk_at "rds"
      exact ⟨_, [], _, rfl, s2.trans hs, fun x hx => SPE.dqTup hv (hand_ne hp (hx.same s2)) (.cons ((hd x hx).same hs) .nil)⟩
    · obtain ⟨p, xs, x1, rfl, s2, hd⟩ := hp
      walk_at "rds"
      exact q _ _ s2 fun x hx => (hd x hx).mono _ (by decide)
theorem ok_pick (T : Txt P K mg) : FnOk P w K mg base CX0 1 T.a_pick T.fd_pick ["_law_bag_here", "_law_many"] spPick := by
  have nd := sc_pick.nd
  refine T.F_pick.ok sc_pick (fun vs H Q E h => ?_) (fun cdv A outer s H vs Q E hr h => ?_)
  · obtain ⟨x, m, rfl, _⟩ := h
    rfl
  · obtain ⟨⟨a, g⟩, m, rfl, ⟨cells, sd, n, al, ha, hc, hca, hal⟩, hm0, hm1, q⟩ := h
    refine ⟨_, (pss_cons (ps_if (pt_cmpR op_notN (pe_ix ix_list (pv 0) pe_int (fun _ _ => rfl)) pe_non (nomark _))
    (pss_one (ps_ret (pe_op op_mod (pe_callTy call_int1 (by rfl) T.m_int (by decide +kernel) (pa_cons (pe_ix ix_list (pv 0) pe_int (fun _ _ => rfl)) pa_nil)) (pv 1))))
    pss_nil)
  (pss_cons (ps_asg (pe_op op_add (pe_ix ix_list (pv 0) pe_int (fun _ _ => rfl)) pe_int) (pg_sub (pv 0) pe_int set_list))
  (pss_cons (ps_set (i := 2) nd rfl (by first | exact Or.inl rfl | exact Or.inr rfl) (pe_ix ix_list (pv 0) pe_int (fun _ _ => rfl)))
  (pss_cons (ps_if (pt_cmpR op_gt (pe_callB call_len_seq (by rfl) T.m_len PySem.boot_len (pa_cons (pv 2) pa_nil)) pe_int (nomark _))
    (pss_cons (ps_set (i := 3) nd rfl (by first | exact Or.inl rfl | exact Or.inr rfl) (pe_op op_mod (pe_callTy call_int1 (by rfl) T.m_int (by decide +kernel) (pa_cons (pe_ix ix_list (pv 2) pe_int (fun _ _ => rfl)) pa_nil)) (pv 1)))
  (pss_cons (ps_asg (pe_op op_fdiv (pe_callTy call_int1 (by rfl) T.m_int (by decide +kernel) (pa_cons (pe_ix ix_list (pv 2) pe_int (fun _ _ => rfl)) pa_nil)) (pv 1)) (pg_sub (pv 2) pe_int set_list))
  (pss_cons (ps_if (pt_cmpR op_eq (pe_ix ix_list (pv 2) pe_int (fun _ _ => rfl)) pe_int (nomark _))
    (pss_one (ps_expr (pe_bm PySem.F.plainAttrs_list PySem.F.slot_list_pop PySem.F.type_list_pop mt_popAt (pv 2) (pa_cons pe_int pa_nil))))
    pss_nil)
  (pss_one (ps_ret (pv 3))))))
    pss_nil)
  (pss_cons (ps_set (i := 4) nd rfl (by first | exact Or.inl rfl | exact Or.inr rfl) (pe_op op_mod (pe_callTy call_int1 (by rfl) T.m_int (by decide +kernel) (pa_cons (pe_op op_mul (pe_op op_add (pe_ix ix_list (pv 0) pe_int (fun _ _ => rfl)) (pe_op op_mul pe_int (pe_ix ix_list (pv 0) pe_int (fun _ _ => rfl)))) pe_int) pa_nil)) pe_int))
  (pss_cons (ps_set (i := 4) nd rfl (by first | exact Or.inl rfl | exact Or.inr rfl) (pe_op op_mod (pe_callTy call_int1 (by rfl) T.m_int (by decide +kernel) (pa_cons (pe_op op_mul (pv 4) (pe_op op_add (pe_op op_fdiv (pv 4) pe_int) pe_int)) pa_nil)) pe_int))
  (pss_cons (ps_set (i := 4) nd rfl (by first | exact Or.inl rfl | exact Or.inr rfl) (pe_op op_mod (pe_callTy call_int1 (by rfl) T.m_int (by decide +kernel) (pa_cons (pe_op op_mul (pv 4) (pe_op op_add (pe_op op_fdiv (pv 4) pe_int) pe_int)) pa_nil)) pe_int))
  (pss_one (ps_ret (pe_op op_mod (pe_callTy call_int1 (by rfl) T.m_int (by decide +kernel) (pa_cons (pe_op op_fdiv (pv 4) pe_int) pa_nil)) (pv 1))))))))))), ?_⟩
    simp only at ha hc hca
    walk_at "rds"
    rcases hal with rfl | ⟨m', rfl⟩
    · refine ⟨rfl, false, rfl, ?_⟩
      walk_at "rds"
      have k1 : SPE.KX (a, g) H H' := SPE.kx1 hk SPE.KX.refl
      have hc1 : H' g = some (.lst (cells.map V.int)) := by walk_at "hp"
      have ha1 := hv
      clear hk hv
      generalize H' = H1 at k1 hc1 ha1
      refine RD.ite_d (fun h0 => ?_) (fun _ => ?_)
      · cases cells with
        | nil => exact absurd h0 (by decide)
        | cons c0 rest =>
          have hat : ∀ (c : Int) (r : List Int), atI ((c :: r).map V.int) 0 = some (.int c) := fun c r => by
            unfold atI ixN
            rw [if_pos (by decide), if_pos (by rw [List.length_map, List.length_cons]; omega)]
            rfl
          have hix : ∀ (c : Int) (r : List Int), ixN ((c :: r).map V.int).length 0 = some 0 := fun c r => by
            unfold ixN
            rw [if_pos (by decide), if_pos (by rw [List.length_map, List.length_cons]; omega)]
            rfl
          walk_at "rds"
          refine RD.ixL (by walk_at "sq") (hat _ _) ?_
          walk_at "rds"
          refine RD.ixL (by walk_at "sq") (hat _ _) ?_
          walk_at "rds"
          refine RD.setL hc1 (hix _ _) fun H' hk hv => ?_
          have k2 : SPE.KX (a, g) H H' := SPE.kx2 hk k1
          have ha2 := hk _ _ (Ne.symm hca) ha1
          have hc2 : H' g = some (.lst ((c0 / m :: rest).map V.int)) := hv
          clear hk hv
          generalize H' = H2 at k2 hc2 ha2
          walk_at "rds"
          refine RD.ixL (by walk_at "sq") (hat _ _) ?_
          walk_at "rds"
          refine RD.ite_d (fun _ => ?_) (fun _ => ?_)
          · walk_at "rds"
            refine SPE.popAt hc2 ⟨by decide, by decide⟩ (k := 0) (ixN_seq (hix _ _)).1 rfl fun H3 k3 h3 => ?_
            walk_at "rds"
            exact q _ _ (Int.emod_nonneg _ (by omega)) (Int.emod_lt_of_pos _ hm0) (SPE.kx2 k3 k2) ⟨rest, _, _, _, k3 _ _ (Ne.symm hca) ha2, h3, hca, .inl rfl⟩
          · walk_at "rds"
            exact q _ _ (Int.emod_nonneg _ (by omega)) (Int.emod_lt_of_pos _ hm0) k2 ⟨_, _, _, _, ha2, hc2, hca, .inl rfl⟩
      · walk_at "rds"
        exact q _ _ (Int.emod_nonneg _ (by omega)) (Int.emod_lt_of_pos _ hm0) k1 ⟨_, _, _, _, ha1, hc1, hca, .inl rfl⟩
    · refine ⟨rfl, true, rfl, ?_⟩
      walk_at "rds"
      exact q _ _ (Int.emod_nonneg _ (by omega)) (Int.emod_lt_of_pos _ hm0) SPE.KX.refl ⟨cells, _, _, _, ha, hc, hca, .inr ⟨_, rfl⟩⟩
theorem ok_some (T : Txt P K mg) : FnOk P w K mg base CX0 2 T.a_some T.fd_some ["_law_bag_here", "_law_things"] (spSome K) := by
  have nd := sc_some.nd
  have G_pick : FnOk P w K mg base CX0 1 T.a_pick T.fd_pick ["_law_bag_here", "_law_many"] spPick := ok_pick T
  refine T.F_some.ok sc_some (fun vs H Q E h => ?_) (fun cdv A outer s H vs Q E hr h => ?_)
  · obtain ⟨x, y, zs, rfl, _⟩ := h
    rfl
  · obtain ⟨x, y, zs, rfl, hh, hi, h0, h1, q⟩ := h
    refine ⟨_, (pss_one (ps_ret (pe_ix ix_seq (pv 1) (pe_call G_pick hr (by rfl) T.g_pick T.F_pick.kp T.b_pick .nil pass0 (pa_cons (pv 0) (pa_cons (pe_callB call_len (by rfl) T.m_len PySem.boot_len (pa_cons (pv 1) pa_nil)) pa_nil))) (fun _ _ => rfl)))), ?_⟩
    walk_at "rds"
    refine ⟨y, zs.length, rfl, ?_, ?_⟩
    · cases hi with
      | lst n hx => exact .inl ⟨_, hx, rfl⟩
      | tup n hx => exact .inr ⟨_, hx, rfl⟩
      | str hz => exact ⟨hz, by rw [List.length_map]; rfl⟩
    · walk_at "rds"
      refine spPick.mk hh (by omega) (by omega) fun r H' hr0 hr1 k hh' => ?_
      obtain ⟨v, hat, hv⟩ := RD.at_lt (xs := zs) hr0 hr1
      have hm := List.mem_of_getElem? hv
      cases hi with
      | lst n hx => exact .inl ⟨_, _, _, _, rfl, rfl, k.seq n hx, hat, q _ _ hm k hh'⟩
      | tup n hx => exact .inr (.inl ⟨_, _, _, _, rfl, rfl, k.tup n hx, hat, q _ _ hm k hh'⟩)
      | @str z hz =>
        rw [List.length_map] at hr1
        obtain ⟨cp, hat2, hc⟩ := RD.at_lt (xs := z.cps.toList) hr0 hr1
        refine .inr (.inr ⟨z, r, cp, rfl, rfl, hz, hat2, q _ _ ?_ k hh'⟩)
        exact List.mem_map.mpr ⟨cp, List.mem_of_getElem? hc, rfl⟩
end


end K15

namespace K15
open PySem PySem.Spec PyProof.Rows L2
local macro_rules | `(tactic| walk_at "kd") => `(tactic| first | assumption | exact SPD.KdOf.int _ | exact SPD.KdOf.str _ | exact SPD.KdOf.bl _ | exact SPD.KdOf.non | exact SPD.KdOf.same (by assumption) (by walk_at "kd") | exact SPD.KdOf.tup (by walk_at "hp") | exact SPD.KdOf.lst (by walk_at "hp") | fail "no")
local macro_rules | `(tactic| walk_at "ne") => `(tactic| first | assumption | exact Ne.symm (by assumption) | fail "no")
local macro_rules | `(tactic| walk_at "hp") => `(tactic| first | assumption | exact RD.at_same (by assumption) (by walk_at "hp") | exact RD.at_kb (by assumption) (by walk_at "ne") (by walk_at "hp") | fail "no")
local macro_rules | `(tactic| walk_at "sq") => `(tactic| first | assumption | exact Or.inl (Or.inl (by walk_at "hp")) | exact Same.seq (by assumption) (by walk_at "sq") | exact RD.KB.seq (by assumption) (by walk_at "ne") (by walk_at "sq") | fail "no")
local macro_rules | `(tactic| walk_at "st") => `(tactic| first | assumption | exact Or.inl (Or.inl (by walk_at "hp")) | exact RD.Same.tup (by assumption) (by walk_at "st") | exact RD.KB.tup (by assumption) (by walk_at "ne") (by walk_at "st") | fail "no")
local macro_rules | `(tactic| walk_at "rd") => `(tactic| first
  | with_reducible refine RD.c ?_
  | ((with_reducible refine' RD.var ?rdE ?rdK); (case rdE => exact rfl))
  | with_reducible refine RD.op ?_
  | with_reducible refine RD.un ?_
  | with_reducible refine RD.nil ?_
  | with_reducible refine RD.cons ?_
  | with_reducible refine RD.cb ?_
  | with_reducible refine RD.call ?_
  | with_reducible refine RD.test ?_
  | with_reducible refine RD.tb' ?_
  | with_reducible refine RD.bl ?_
  | with_reducible refine RD.and' ?_
  | with_reducible refine RD.or' ?_
  | with_reducible refine RD.not' ?_
  | with_reducible refine RD.andV ?_
  | with_reducible refine RD.orV ?_
  | with_reducible refine RD.notV ?_
  | with_reducible refine RD.ife ?_
  | with_reducible refine RD.sl ?_
  | with_reducible refine RD.part ?_
  | with_reducible refine RD.noPart ?_
  | with_reducible refine RD.partI ?_
  | with_reducible refine RD.rd0 ?_
  | with_reducible refine RD.rdU ?_
  | ((with_reducible refine' RD.rdEq ?rdE ?rdK); (case rdE => rfl))
  | ((with_reducible refine' RD.rdNe ?rdE ?rdK); (case rdE => rfl))
  | ((with_reducible refine' RD.ixL ?rdH ?rdE ?rdK); (case rdH => walk_at "sq"); (case rdE => first | rfl | assumption))
  | ((with_reducible refine' RD.rdI ?rdC ?rdK); (case rdC => first | assumption | (show (0 : Int) < _; first | decide | omega) | exact ⟨by decide, by decide⟩ | exact ⟨by assumption, by assumption⟩ | exact .inr ⟨by decide, by decide⟩ | exact .inl ⟨by decide, by decide⟩ | exact ⟨by decide, by decide, by decide⟩ | exact .inl ⟨by omega, by omega⟩))
  | ((with_reducible refine' RD.setL ?rdH ?rdE ?rdK); (case rdH => walk_at "hp"); (case rdE => rfl); intro $(Lean.mkIdent `H'):ident $(Lean.mkIdent `hk):ident $(Lean.mkIdent `hv):ident)
  | ((with_reducible refine' RD.irng1V ?rdA ?rdB ?rdK); (case rdA => first | decide | omega); (case rdB => first | decide | omega))
  | with_reducible refine RD.int1 ?_
  | with_reducible refine RD.abs1 ?_
  | ((with_reducible refine' RD.len ?rdH ?rdK); (case rdH => first | exact Or.inl (by walk_at "sq") | exact Or.inr (by walk_at "st")))
  | with_reducible refine RD.tup ?_
  | with_reducible refine RD.lst ?_
  | with_reducible refine RD.ite1 ?_
  | with_reducible refine RD.ite0 ?_
  | with_reducible refine RD.ite1n ?_
  | with_reducible refine RD.ite0n ?_
  | with_reducible refine RD.seq ?_
  | with_reducible refine RD.asg ?_
  | with_reducible refine RD.name ?_
  | with_reducible refine RD.ret ?_
  | with_reducible refine RD.drop ?_
  | with_reducible refine RD.next ?_
  | with_reducible refine RD.ifs ?_
  | with_reducible refine RD.par ?_
  | with_reducible refine RD.par2 ?_
  | with_reducible refine RD.sub ?_
  | with_reducible refine RD.gcons ?_
  | with_reducible refine RD.gnil ?_
  | with_reducible refine RD.bm ?_
  | ((with_reducible refine' RD.bmL ?rdH ?rdK); (case rdH => walk_at "sq"))
  | ((with_reducible refine' RD.newZ ?rdH ?rdK); (case rdH => exact RD.sz _); intro $(Lean.mkIdent `p'):ident $(Lean.mkIdent `H'):ident $(Lean.mkIdent `hp):ident $(Lean.mkIdent `hs):ident $(Lean.mkIdent `hv):ident; (try have $(Lean.mkIdent `hn):ident := hand_ne $(Lean.mkIdent `hp):ident (by walk_at "hk")))
  | with_reducible refine RD.fors ?_
  | with_reducible refine RD.lc ?_
  | with_reducible refine RD.yes ?_
  | with_reducible refine RD.ilist ?_
  | ((with_reducible refine' RD.ilistV ?rdH ?rdK); (case rdH => walk_at "sq"))
  | with_reducible refine RD.itup ?_
  | ((with_reducible refine' RD.itupV ?rdH ?rdK); (case rdH => walk_at "st"))
  | with_reducible refine RD.irng1 ?_
  | with_reducible refine RD.irng2 ?_
  | ((with_reducible refine' RD.irng2V ?rdA ?rdK); (case rdA => first | decide | omega))
  | with_reducible refine RD.ienum ?_
  | ((with_reducible refine' RD.ienumV ?rdH ?rdK); (case rdH => walk_at "sq"))
  | with_reducible refine RD.izip ?_
  | ((with_reducible refine' RD.izipV ?rdH ?rdE ?rdK); (case rdH => walk_at "sq"); (case rdE => walk_at "sq"))
  | with_reducible refine SPD.izipA ?_
  | with_reducible refine RD.istr ?_
  | with_reducible refine RD.istrV ?_
  | ((with_reducible refine' RD.slL ?rdH ?rdK); (case rdH => walk_at "sq"); intro $(Lean.mkIdent `p'):ident $(Lean.mkIdent `H'):ident $(Lean.mkIdent `hp):ident $(Lean.mkIdent `hs):ident $(Lean.mkIdent `hv):ident; (try have $(Lean.mkIdent `hn):ident := hand_ne $(Lean.mkIdent `hp):ident (by walk_at "hk")))
  | ((with_reducible refine' RD.cat ?rdH ?rdE ?rdZ ?rdK); (case rdH => walk_at "hp"); (case rdE => walk_at "hp"); (case rdZ => exact RD.sz _); intro $(Lean.mkIdent `p'):ident $(Lean.mkIdent `H'):ident $(Lean.mkIdent `hp):ident $(Lean.mkIdent `hs):ident $(Lean.mkIdent `hv):ident; (try have $(Lean.mkIdent `hn):ident := hand_ne $(Lean.mkIdent `hp):ident (by walk_at "hk")))
  | ((with_reducible refine' RD.gtup ?rdH ?rdE ?rdK); (case rdH => walk_at "st"); (case rdE => rfl))
  | ((with_reducible refine' RD.app ?rdH ?rdZ ?rdK); (case rdH => walk_at "hp"); (case rdZ => first | assumption | (apply RD.szl; omega)); intro $(Lean.mkIdent `H'):ident $(Lean.mkIdent `hk):ident $(Lean.mkIdent `hv):ident)
  | ((with_reducible refine' RD.all1 ?rdH ?rdK); (case rdH => walk_at "sq"))
  | ((with_reducible refine' RD.any1 ?rdH ?rdK); (case rdH => walk_at "sq"))
  | ((with_reducible refine' SPD.dnew ?rdK); intro $(Lean.mkIdent `p'):ident $(Lean.mkIdent `H'):ident $(Lean.mkIdent `hp):ident $(Lean.mkIdent `hs):ident $(Lean.mkIdent `hv):ident; (try have $(Lean.mkIdent `hn):ident := hand_ne $(Lean.mkIdent `hp):ident (by walk_at "hk")))
  | ((with_reducible refine' SPD.disp1 ?rdK); intro $(Lean.mkIdent `p'):ident $(Lean.mkIdent `H'):ident $(Lean.mkIdent `hp):ident $(Lean.mkIdent `hs):ident $(Lean.mkIdent `hv):ident; (try have $(Lean.mkIdent `hn):ident := hand_ne $(Lean.mkIdent `hp):ident (by walk_at "hk")))
  | ((with_reducible refine' SPD.isSeq ?rdH ?rdE ?rdK); (case rdH => walk_at "hp"); (case rdE => walk_at "kd"))
  | ((with_reducible refine' SPD.isTup ?rdE ?rdK); (case rdE => walk_at "kd"))
  | ((with_reducible refine' SPD.isLst ?rdE ?rdK); (case rdE => walk_at "kd"))
  | ((with_reducible refine' SPD.isBool ?rdE ?rdK); (case rdE => walk_at "kd"))
  | ((with_reducible refine' SPD.isStr ?rdE ?rdK); (case rdE => walk_at "kd"))
  | ((with_reducible refine' SPD.isInt ?rdE ?rdK); (case rdE => walk_at "kd"))
  | dsimp only)
local macro_rules | `(tactic| walk_at "rds") => `(tactic| repeat walk_at "rd")
local macro_rules | `(tactic| walk_at "sm") => `(tactic| first | assumption | exact Same.refl _ | exact RD.sm_tr (by assumption) (by walk_at "sm") | fail "no")
local macro_rules | `(tactic| walk_at "kb") => `(tactic| first | assumption | exact RD.KB.refl | exact RD.kb_tr (by assumption) (by walk_at "kb") | exact RD.kb_trs (by assumption) (by walk_at "kb") | fail "no")
local macro_rules | `(tactic| walk_at "fr") => `(tactic| first | assumption | exact RD.fr_of (by assumption) (by walk_at "sm") | fail "no")
local macro_rules | `(tactic| walk_at "hk") => `(tactic| first | assumption | exact hand_same (by assumption) (by walk_at "hk") | exact hand_kb (by assumption) (by walk_at "fr") (by walk_at "hk") | fail "no")
local macro_rules | `(tactic| walk_at "na") => `(tactic| first | assumption | exact hand_ne (by assumption) (by walk_at "hk") | fail "no")
local macro_rules | `(tactic| walk_at "dqa") => `(tactic| first | exact SPD.DqA.nil | exact SPD.DqA.cons (by walk_at "dq") (by walk_at "dqa") | exact SPD.DqA.app (by walk_at "dqa") (by walk_at "dqa") | fail "no")
local macro_rules | `(tactic| walk_at "dq") => `(tactic| first | assumption | exact SPD.Dq.leaf rfl | exact SPD.dq_kb (by assumption) (by walk_at "kb") | exact SPD.dqTup (by walk_at "hp") (by walk_at "na") (by walk_at "dqa") | exact SPD.dqLst (by walk_at "hp") (by walk_at "na") (by walk_at "dqa") | exact SPD.dqNil (by walk_at "hp") (by walk_at "na") (by first | decide | simp) (by first | decide | simp) | fail "no")

local macro_rules | `(tactic| walk_at "rd") => `(tactic| first
  | with_reducible refine RB.chain ?_
  | with_reducible refine RB.m1 ?_
  | with_reducible refine RB.strE ?_
  | with_reducible refine RB.fld ?_
  | with_reducible refine RB.setF ?_
  | with_reducible refine RB.ss ?_
  | with_reducible refine RB.rev ?_
  | with_reducible refine RB.make ?_
  | with_reducible refine RB.makeS ?_
  | with_reducible refine RB.mkO ?_
  | with_reducible refine NR.ienumT ?_
  | with_reducible refine RB.inS ?_
  | with_reducible refine RB.bmS ?_
  | with_reducible refine RB.callS ?_
  | with_reducible refine RB.sw3 ?_
  | with_reducible refine RB.par3 ?_
  | with_reducible refine RB.par3V ?_
  | ((with_reducible refine' RB.slS ?rdH ?rdK); (case rdH => walk_at "sz"))
  | with_reducible refine RB.xf ?_
  | ((with_reducible refine' RB.xfV ?rdH ?rdE ?rdK); (case rdH => walk_at "hp"); (case rdE => rfl))
  | ((with_reducible refine' NR.ienumTV ?rdH ?rdK); (case rdH => walk_at "st"))
  | ((with_reducible refine' RB.lenL ?rdH ?rdK); (case rdH => walk_at "sq"))
  | ((with_reducible refine' RB.lenT ?rdH ?rdK); (case rdH => walk_at "st"))
  | ((with_reducible refine' RB.lenS ?rdH ?rdK); (case rdH => walk_at "sz"))
  | ((with_reducible refine' RD.lenS ?rdH ?rdK); (case rdH => walk_at "sz"))
  | ((with_reducible refine' RB.slT ?rdH ?rdK); (case rdH => walk_at "hp"); intro $(Lean.mkIdent `p'):ident $(Lean.mkIdent `H'):ident $(Lean.mkIdent `hs):ident $(Lean.mkIdent `hv):ident $(Lean.mkIdent `hp):ident; (try have $(Lean.mkIdent `hn):ident := two_ne $(Lean.mkIdent `hp):ident (by walk_at "na") (by walk_at "hk")))
  | ((with_reducible refine' RB.revV ?rdH ?rdK); (case rdH => walk_at "st"); intro $(Lean.mkIdent `p'):ident $(Lean.mkIdent `H'):ident $(Lean.mkIdent `hp):ident $(Lean.mkIdent `hs):ident $(Lean.mkIdent `hv):ident; (try have $(Lean.mkIdent `hn):ident := hand_ne $(Lean.mkIdent `hp):ident (by walk_at "hk")))
  | ((with_reducible refine' RB.listS ?rdH ?rdK); (case rdH => walk_at "sz"); intro $(Lean.mkIdent `p'):ident $(Lean.mkIdent `H'):ident $(Lean.mkIdent `hp):ident $(Lean.mkIdent `hs):ident $(Lean.mkIdent `hv):ident; (try have $(Lean.mkIdent `hn):ident := hand_ne $(Lean.mkIdent `hp):ident (by walk_at "hk")))
  | ((with_reducible refine' RB.listO ?rdH ?rdK); (case rdH => first | exact Or.inl (by walk_at "sq") | exact Or.inr (by walk_at "st")); intro $(Lean.mkIdent `p'):ident $(Lean.mkIdent `H'):ident $(Lean.mkIdent `hp):ident $(Lean.mkIdent `hs):ident $(Lean.mkIdent `hv):ident; (try have $(Lean.mkIdent `hn):ident := hand_ne $(Lean.mkIdent `hp):ident (by walk_at "hk")))
  | ((with_reducible refine' RB.tupL ?rdH ?rdK); (case rdH => walk_at "sq"); intro $(Lean.mkIdent `p'):ident $(Lean.mkIdent `H'):ident $(Lean.mkIdent `hp):ident $(Lean.mkIdent `hs):ident $(Lean.mkIdent `hv):ident; (try have $(Lean.mkIdent `hn):ident := hand_ne $(Lean.mkIdent `hp):ident (by walk_at "hk")))
  | ((with_reducible refine' RB.catT ?rdH ?rdE ?rdZ ?rdK); (case rdH => walk_at "hp"); (case rdE => walk_at "hp"); (case rdZ => exact RB.LN.sum (by walk_at "ln") (by walk_at "ln") rfl); intro $(Lean.mkIdent `p'):ident $(Lean.mkIdent `H'):ident $(Lean.mkIdent `hs):ident $(Lean.mkIdent `hv):ident $(Lean.mkIdent `hp):ident; (try have $(Lean.mkIdent `hn):ident := three_ne $(Lean.mkIdent `hp):ident (by walk_at "na") (by walk_at "na") (by walk_at "hk")))
  | fail "no")
local macro_rules | `(tactic| walk_at "ln") => `(tactic| first | with_reducible assumption | exact RB.LN.cut (by walk_at "ln") | exact RB.LN.app (by walk_at "ln") (by walk_at "ln") | exact RB.LN.rev (by walk_at "ln") | exact RB.LN.rep (by walk_at "ln") | exact RB.LN.lit rfl | fail "no")
local macro_rules | `(tactic| walk_at "sz") => `(tactic| first | assumption | exact RD.sz _ | fail "no")

/-! ### pieces, books -/
def lets : List Nat := ("abcdefgh" : Str).cps.toList
def logB (z : Str) : Bool := z.cps.toList.all fun c => decide (c ∈ lets)
def pieceB (z : Str) : Bool := logB z && (decide (1 ≤ z.cps.size) && decide (z.cps.size ≤ 8))
def logV : V → Bool
  | .str z => logB z
  | _ => false
def pieceV : V → Bool
  | .str z => pieceB z
  | _ => false
/-- the first place that is no piece, or one again -/
def dueL (acc : List Str) : List V → V
  | [] => .non
  | .str z :: r => if (pieceB z && !(acc.contains z)) = true then dueL (acc ++ [z]) r else .int (acc.length : Nat)
  | _ :: _ => .int (acc.length : Nat)
inductive DueR (K : PySem.W.Frag) (H : Hp) : V → V → Prop where
  | kind {v : V} {k : SPD.Kd} : SPD.KdOf K H v k → k ≠ .tup → DueR K H v (.str "pieces")
  | len {t : Addr} {xs : List V} : H t = some (.tup xs) → ¬ (1 ≤ xs.length ∧ xs.length ≤ 12) → DueR K H (.ref t) (.str "pieces")
  | due {t : Addr} {xs : List V} : H t = some (.tup xs) → 1 ≤ xs.length → xs.length ≤ 12 → DueR K H (.ref t) (dueL [] xs)
theorem DueR.same {K : PySem.W.Frag} {H H' : Hp} {v r : V} (s : Same H H') (h : DueR K H v r) : DueR K H' v r := by
  cases h with
  | kind a b => exact .kind (a.same s) b
  | len a b => exact .len (s _ _ a) b
  | due a b c => exact .due (s _ _ a) b c
def spLog : Sp := fun vs H Q _ => ∃ (x : Addr) (n : Nat) (v : V), vs = [v] ∧ SPD.Dq x H n v ∧ ∀ H', Same H H' → Q (.bl (logV v)) H'
def spPiece : Sp := fun vs H Q _ => ∃ (x : Addr) (n : Nat) (v : V), vs = [v] ∧ SPD.Dq x H n v ∧ ∀ H', Same H H' → Q (.bl (pieceV v)) H'
theorem str_small {x : Addr} {H : Hp} {n : Nat} {z : Str} (h : SPD.Dq x H n (.str z)) : z.cps.size ≤ 100000 := by
  cases h with
  | leaf e => exact Nat.le_of_ble_eq_true e
theorem small_len {z : Str} (h : z.cps.size ≤ 100000) : z.length ≤ sizeLine := by
  rw [sizeLine_eq]
  show z.cps.size ≤ 16777216
  omega
theorem log_list {z : Str} : (List.range z.cps.size).filterMap (fun i => (z.cps.toList[i]?).map fun c => V.bl (decide (c ∈ lets))) = (z.cps.toList.map fun c => decide (c ∈ lets)).map V.bl := by
  have e : z.cps.size = z.cps.toList.length := (Array.length_toList).symm
  rw [e, RD.range_get (fun c => V.bl (decide (c ∈ lets))) z.cps.toList, List.map_map]
  rfl
theorem log_all {z : Str} : (z.cps.toList.map fun c => decide (c ∈ lets)).all id = logB z := by
  rw [List.all_map]
  rfl
section
variable {P : Program} {w : World} {K : PySem.W.Frag} {mg : Str → Option Value} {base : Heap}
theorem ok_q_is_log (T : Txt P K mg) : FnOk P w K mg base CX0 1 T.a_q_is_log T.fd_q_is_log ["thing"] spLog := by
  have nd := sc_q_is_log.nd
  refine T.F_q_is_log.ok sc_q_is_log (fun vs H Q E h => ?_) (fun cdv A outer s H vs Q E hr h => ?_)
  · obtain ⟨x, n, v, rfl, _⟩ := h
    rfl
  · obtain ⟨x, n, v, rfl, hd, q⟩ := h
    obtain ⟨t_LETTERS, g_LETTERS⟩ := T.g_LETTERS
    refine ⟨_, (pss_one (ps_ret (pe_and (pe_callB call_isi (by rfl) T.m_isinstance (by decide +kernel) (pa_cons (pv 0) (pa_cons (pe_bltn (v := .ty "str") (by rfl) T.m_str (by decide +kernel) rfl) pa_nil))) (pe_one (pe_callB (cr_all rfl) (by rfl) T.m_all (by decide +kernel) (pa_cons (pe_lc (own := [("sign", 1)]) (g := (gName 1)) rfl nd (pi_str (pv 0)) (blkOk_by (own := [("sign", 1)]) (N := N_q_is_log) (sc := defScope s_q_is_log) (by decide +kernel)) (fun _ _ _ _ _ => (pg_name (i := 1) nd rfl (Or.inl rfl))) (fun _ _ _ _ _ => pts_nil) (fun _ _ _ _ _ => (pe_cmpR op_in_sign (pv 1) (pe_glob (v := .str "abcdefgh") (by rfl) g_LETTERS ⟨_, rfl⟩) (by first | rfl | exact nomark _)))) pa_nil)))))), ?_⟩
    obtain ⟨k, hk⟩ := hd.kd (K := K)
    walk_at "rds"
    refine RD.ite_d (fun e => ?_) (fun ne => ?_)
    · subst e
      cases hk with
      | str z =>
        have hz := str_small hd
        walk_at "rds"
        refine RD.lcF RB.w_str (by omega) (fun i => (z.cps.toList[i]?).map fun c => V.bl (decide (c ∈ lets))) (fun _ _ => trivial) (fun i x H' Z N hi hx s hZ hN => ?_) (fun D H' hD s hv => ?_)
        · rw [List.getElem?_map] at hx
          obtain ⟨c, hc, rfl⟩ := Option.map_eq_some_iff.mp hx
          walk_at "rds"
          refine ⟨rfl, ?_⟩
          walk_at "rds"
          exact hZ _ _ (by rw [hc]; rfl) (Same.refl _)
        · rw [log_list] at hv
          walk_at "rds"
          rw [log_all]
          exact q _ s
    · have e : logV v = false := by
        cases hk <;> first | rfl | exact absurd rfl ne
      rw [← e]
      exact q _ (Same.refl _)
end

theorem piece_of {z : Str} (h : logB z = true) (h1 : 1 ≤ (z.length : Int)) : pieceB z = decide ((z.length : Int) ≤ 8) := by
  have e : z.length = z.cps.size := rfl
  rw [e] at h1 ⊢
  unfold pieceB
  rw [h, decide_eq_true (show 1 ≤ z.cps.size by omega), Bool.true_and, Bool.true_and]
  exact decide_eq_decide.mpr (by omega)
theorem piece_short {z : Str} (h1 : ¬ 1 ≤ (z.length : Int)) : pieceB z = false := by
  have e : z.length = z.cps.size := rfl
  rw [e] at h1
  unfold pieceB
  rw [decide_eq_false (show ¬ 1 ≤ z.cps.size by omega), Bool.false_and, Bool.and_false]
theorem due_bad {acc : List Str} {y : V} {r : List V} (h : pieceV y = false) : dueL acc (y :: r) = .int (acc.length : Nat) := by
  cases y with
  | str z =>
    have h : pieceB z = false := h
    show (if (pieceB z && !(acc.contains z)) = true then _ else _) = _
    rw [h]
    rfl
  | _ => rfl
theorem due_twice {acc : List Str} {z : Str} {r : List V} (h : acc.contains z = true) : dueL acc (.str z :: r) = .int (acc.length : Nat) := by
  show (if (pieceB z && !(acc.contains z)) = true then _ else _) = _
  rw [h]
  simp
theorem due_good {acc : List Str} {z : Str} {r : List V} (h1 : pieceB z = true) (h : acc.contains z = false) : dueL acc (.str z :: r) = dueL (acc ++ [z]) r := by
  show (if (pieceB z && !(acc.contains z)) = true then _ else _) = _
  rw [h, h1]
  rfl
theorem inV_strs {z : Str} : ∀ acc : List Str, inV (.str z) (acc.map V.str) = acc.contains z
  | [] => rfl
  | a :: r => by
    have ih := inV_strs (z := z) r
    show (eqV (.str a) (.str z) || inV (.str z) (r.map V.str)) = _
    rw [ih, List.contains_cons]
    show ((a == z) || r.contains z) = ((z == a) || r.contains z)
    rw [show (a == z) = (z == a) from BEq.comm]
theorem flat_acc : ∀ acc : List Str, (acc.map V.str).all flatV = true
  | [] => rfl
  | _ :: r => flat_acc r
theorem cut_acc {acc : List Str} {rest : List V} {i : Nat} (hi : acc.length = i) (y : V) : cutV (acc.map V.str ++ y :: rest) none (some (i : Nat)) = acc.map V.str := by
  subst hi
  have hl : (acc.map V.str).length = acc.length := List.length_map ..
  unfold cutV
  rw [HT.sIx_none, show HT.sIx (acc.map V.str ++ y :: rest).length (acc.map V.str ++ y :: rest).length (some ((acc.length : Nat) : Int)) = min acc.length (acc.map V.str ++ y :: rest).length from HT.sIx_nat _ _ acc.length, List.drop_zero, Nat.sub_zero,
    Nat.min_eq_left (by rw [List.length_append, hl]; omega), ← hl]
  exact List.take_left ..
theorem rest_head {acc : List Str} {rest xs : List V} {i : Nat} {y : V} (e : xs = acc.map V.str ++ rest) (hi : acc.length = i) (hy : xs[i]? = some y) : ∃ r, rest = y :: r := by
  subst e hi
  rw [List.getElem?_append_right (by rw [List.length_map]; exact Nat.le_refl _), List.length_map, Nat.sub_self] at hy
  cases rest with
  | nil => cases hy
  | cons a r => exact ⟨r, by rw [Option.some.inj hy]⟩
def spBook (K : PySem.W.Frag) (C B : Addr) : Sp := fun vs H Q E => ∃ (x b dx : Addr) (n : Nat) (v : V), vs = [.ref b, v] ∧ H b = some (.ins C dx []) ∧ SPD.Dq x H n v ∧
  (∀ H', DueR K H v .non → RD.KB b H H' → H' b = some (.ins C dx [("pieces", v)]) → Q .non H') ∧
  (∀ r d H', DueR K H v r → r ≠ .non → H d = none → Same H H' → H' d = some (.xd [("part", r)]) → E (.ref B) (some d) H')
section
variable {P : Program} {w : World} {K : PySem.W.Frag} {mg : Str → Option Value} {base : Heap}
theorem ok_is_piece (T : Txt P K mg) : FnOk P w K mg base CX0 2 T.a_is_piece T.fd_is_piece ["thing"] spPiece := by
  have nd := sc_is_piece.nd
  have G_q_is_log : FnOk P w K mg base CX0 1 T.a_q_is_log T.fd_q_is_log ["thing"] spLog := ok_q_is_log T
  refine T.F_is_piece.ok sc_is_piece (fun vs H Q E h => ?_) (fun cdv A outer s H vs Q E hr h => ?_)
  · obtain ⟨x, n, v, rfl, _⟩ := h
    rfl
  · obtain ⟨x, n, v, rfl, hd, q⟩ := h
    obtain ⟨t_MOST_LONG, g_MOST_LONG⟩ := T.g_MOST_LONG
    refine ⟨_, (pss_one (ps_ret (pe_and (pe_call G_q_is_log hr (by rfl) T.g_q_is_log T.F_q_is_log.kp T.b_q_is_log .nil pass0 (pa_cons (pv 0) pa_nil)) (pe_one (pe_chain op_le op_le pe_int (pe_callB call_len_str (by rfl) T.m_len PySem.boot_len (pa_cons (pv 0) pa_nil)) (pe_glob (v := .int 8) (by rfl) g_MOST_LONG ⟨_, rfl⟩)))))), ?_⟩
    walk_at "rds"
    refine ⟨x, n, v, rfl, hd, fun H1 s1 => ?_⟩
    walk_at "rds"
    refine RD.ite_b (fun e => ?_) (fun e => ?_)
    · cases v with
      | str z =>
        have e : logB z = true := e
        have hz := small_len (str_small hd)
        walk_at "rds"
        refine RD.ite_d (fun h1 => ?_) (fun h1 => ?_)
        · walk_at "rds"
          rw [← piece_of e h1]
          exact q _ s1
        · have e2 : pieceV (.str z) = false := piece_short h1
          rw [e2] at q
          exact q _ s1
      | _ => cases e
    · have e2 : pieceV v = false := by
        cases v with
        | str z =>
          have e : logB z = false := e
          show pieceB z = false
          unfold pieceB
          rw [e]
          rfl
        | _ => rfl
      rw [e2] at q
      exact q _ s1
theorem ok_Book_init (T : Txt P K mg) : FnOk P w K mg base (L2.CX P w) 4 T.a_Book_init T.fd_Book_init ["self", "pieces"] (spBook K T.C_Book T.C_BadBook) := by
  have nd := sc_Book_init.nd
  have G_is_piece : FnOk P w K mg base CX0 2 T.a_is_piece T.fd_is_piece ["thing"] spPiece := ok_is_piece T
  have G_is_piece := G_is_piece.mono (show 2 ≤ 3 by decide)
  have G_BadBook_init : FnOk P w K mg base CX0 2 T.a_BadBook_init T.fd_BadBook_init _ (SPX.spSi T.C_BadBook _) := SPX.si_ok T.S_BadBook_init
  refine T.F_Book_init.okX sc_Book_init (fun vs H Q E h => ?_) (fun cdv A outer s H vs Q E hr h => ?_)
  · obtain ⟨x, b, dx, n, v, rfl, _⟩ := h
    rfl
  · obtain ⟨x, b, dx, n, v, rfl, hb, hd, q, qe⟩ := h
    obtain ⟨t_MOST_PIECES, g_MOST_PIECES⟩ := T.g_MOST_PIECES
    refine ⟨_, (pss_cons (ps_if (PW.pt (pw_or (pt_not (pt_val (pe_callB call_isi (by rfl) T.m_isinstance (by decide +kernel) (pa_cons (pv 1) (pa_cons (pe_bltn (v := .ty "tuple") (by rfl) T.m_tuple (by decide +kernel) rfl) pa_nil))))) (pw_or1 (pt_not (pt_chain op_le op_le pe_int (pe_callB call_len (by rfl) T.m_len PySem.boot_len (pa_cons (pv 1) pa_nil)) (pe_glob (v := .int 12) (by rfl) g_MOST_PIECES ⟨_, rfl⟩))))))
    (pss_one (ps_raise rfl (takes_of rfl rfl rfl rfl) (pmk_oex T.xc_BadBook T.ii_BadBook T.ti_BadBook G_BadBook_init hr T.b_BadBook_init .nil pass0 (by rfl) T.g_BadBook (pa_cons pe_str pa_nil))))
    pss_nil)
  (pss_cons (ps_for (passes_of rfl) rfl (NR.pi_enumT (by rfl) T.m_enumerate (pa_cons (pv 1) pa_nil)) (pg_tup rfl (pgs_cons (pg_name (i := 2) nd rfl (by first | exact Or.inl rfl | exact Or.inr rfl)) (pgs_cons (pg_name (i := 3) nd rfl (by first | exact Or.inl rfl | exact Or.inr rfl)) pgs_nil)))
    (pss_one (ps_if (PW.pt (pw_or (pt_not (pt_val (pe_call G_is_piece hr (by rfl) T.g_is_piece T.F_is_piece.kp T.b_is_piece .nil pass0 (pa_cons (pv 3) pa_nil)))) (pw_or1 (pt_cmpR op_in_seq (pv 3) (pe_slice sl_tupA (pv 1) po_none (po_some (pv 2))) (by first | rfl | exact nomark _)))))
    (pss_one (ps_raise rfl (takes_of rfl rfl rfl rfl) (pmk_oex T.xc_BadBook T.ii_BadBook T.ti_BadBook G_BadBook_init hr T.b_BadBook_init .nil pass0 (by rfl) T.g_BadBook (pa_cons (pv 2) pa_nil))))
    pss_nil)))
  (pss_one (ps_fld (pv 0) (pv 1) rfl)))), ?_⟩
    obtain ⟨k, hk⟩ := hd.kd (K := K)
    walk_at "rds"
    refine RD.ite_nd (fun ne => ?_) (fun e => ?_)
    · walk_at "rds"
      exact RB.mkOV fun d H' hd1 s1 hx => qe _ _ _ (.kind hk ne) (fun z => nomatch z) hd1 s1 hx
    · subst e
      cases hk with
      | @tup t xs ht =>
        have bad : ¬ (1 ≤ xs.length ∧ xs.length ≤ 12) → ∀ d H', H d = none → Same H H' → H' d = some (.xd [("part", .str "pieces")]) → E (.ref T.C_BadBook) (some d) H' := fun z d H' h1 h2 h3 => qe _ _ _ (.len ht z) (fun z => nomatch z) h1 h2 h3
        walk_at "rds"
        refine RD.ite_d (fun h1 => ?_) (fun h1 => ?_)
        · walk_at "rds"
          refine RD.ite_nd (fun h2 => ?_) (fun h2 => ?_)
          · walk_at "rds"
            exact RB.mkOV fun d H' hd1 s1 hx => bad (by omega) _ _ hd1 s1 hx
          · walk_at "rds"
            have hall : ∀ y, y ∈ xs → ∃ m, SPD.Dq x H m y := by
              cases hd with
              | leaf e => cases e
              | dct ne h0 _ _ =>
                rw [h0] at ht
                cases ht
              | tup ne h0 hl hall =>
                rw [h0] at ht
                cases ht
                exact fun y hy => ⟨_, hall y hy⟩
              | lst ne h0 hl hall =>
                rw [h0] at ht
                cases ht
            have told : ∀ r, dueL [] xs = r → DueR K H (.ref t) r := fun r e => e ▸ .due ht (by omega) (by omega)
            refine RD.forW (NR.w_enumT (xs := xs)) (fun i σ H' => ∃ acc rest x2 x3, σ = [some (.ref b), some (.ref t), x2, x3] ∧ xs = acc.map V.str ++ rest ∧ acc.length = i ∧ dueL [] xs = dueL acc rest ∧ Same H H')
              ⟨[], xs, _, _, rfl, rfl, rfl, rfl, Same.refl _⟩ (fun i σ H' _ ⟨acc, rest, x2, x3, _, _, _, _, s⟩ => by walk_at "st") (fun i y σ H2 H3 hi hp hy => ?_) (fun σ H2 hp => ?_)
            · obtain ⟨acc, rest, x2, x3, rfl, he, hl, hde, s2⟩ := hp
              obtain ⟨T1, x1, y1, rfl, hT, s3, hv3, hx1, hy1⟩ := hy
              obtain rfl : V.int (i : Nat) = x1 := Option.some.inj hx1
              have hy1 : xs[i]? = some y1 := hy1
              obtain ⟨r, rfl⟩ := rest_head he hl hy1
              obtain ⟨m, hdy⟩ := hall y1 (List.mem_of_getElem? hy1)
              have s23 := s2.trans s3
              have ht3 := s23 _ _ ht
              have hit : i < 9223372036854775807 := by omega
              clear hx1 hy1
              walk_at "rds"
              refine ⟨x, m, y1, rfl, hdy.same s23, fun H4 s4 => ?_⟩
              have s34 := s23.trans s4
              walk_at "rds"
              refine RD.ite_b (fun e => ?_) (fun e => ?_)
              · have e : pieceV y1 = false := by simpa using e
                walk_at "rds"
                exact RB.mkOV fun d H' hd1 s1 hx => qe (.int (i : Nat)) d H' (told _ (by rw [hde, due_bad e, hl])) (fun z => nomatch z) (s34.free hd1) (s34.trans s1) hx
              · have e : pieceV y1 = true := by simpa using e
                cases y1 with
                | str z =>
                  have e : pieceB z = true := e
                  walk_at "rds"
                  rw [he, cut_acc hl] at hv
                  refine RB.inT (.inr (by walk_at "st")) rfl (flat_acc acc) ?_
                  rw [inV_strs]
                  have s35 := s34.trans hs
                  walk_at "rds"
                  refine RD.ite_b (fun ec => ?_) (fun ec => ?_)
                  · walk_at "rds"
                    exact RB.mkOV fun d H' hd1 s1 hx => qe (.int (i : Nat)) d H' (told _ (by rw [hde, due_twice ec, hl])) (fun z => nomatch z) (s35.free hd1) (s35.trans s1) hx
                  · walk_at "rds"
                    exact ⟨acc ++ [z], r, _, _, rfl, by rw [he, List.map_append, List.append_assoc]; rfl, by rw [List.length_append, hl]; rfl, by rw [hde, due_good e ec], s35⟩
                | _ => cases e
            · obtain ⟨acc, rest, x2, x3, rfl, he, hl, hde, s2⟩ := hp
              have hr0 : rest = [] := by
                have z := congrArg List.length he
                rw [List.length_append, List.length_map] at z
                exact List.eq_nil_of_length_eq_zero (by omega)
              subst hr0
              have hb2 := s2 _ _ hb
              walk_at "rds"
              refine RB.setFV hb2 T.cl_Book T.no_Book_pieces (by decide) fun H' k' h' => ?_
              walk_at "rds"
              exact q _ (told _ hde) (fun c o n e => k' c o n (s2 c o e)) h'
        · walk_at "rds"
          exact RB.mkOV fun d H' hd1 s1 hx => bad (by omega) _ _ hd1 s1 hx
      | _ => exact absurd rfl (by assumption)
end

theorem joinL_nil : ∀ l : List (List Nat), TL.joinL [] l = l.flatten
  | [] => rfl
  | [p] => by simp [TL.joinL]
  | p :: q :: r => by
    have ih := joinL_nil (q :: r)
    show p ++ ([] ++ TL.joinL [] (q :: r)) = _
    rw [ih]
    simp
theorem join_cps (zs : List Str) : (Txt.join ("" : Str) zs).cps.toList = (zs.map fun z => z.cps.toList).flatten := by
  rw [TL.join_eq]
  have e := TL.tl_join ("" : Str) zs
  have e2 : TL.tl ("" : Str) = [] := rfl
  rw [e2, joinL_nil] at e
  exact e
theorem sum_le (k : Nat) : ∀ l : List Str, (∀ y, y ∈ l → y.length ≤ k) → (l.map (·.length)).sum ≤ k * l.length
  | [], _ => Nat.zero_le _
  | y :: r, h => by
    have ih := sum_le k r fun z hz => h z (List.mem_cons_of_mem _ hz)
    have h0 := h y List.mem_cons_self
    rw [List.map_cons, List.sum_cons, List.length_cons, Nat.mul_succ]
    omega
theorem join_size (zs : List Str) : (Txt.join ("" : Str) zs).cps.size = (zs.map (·.length)).sum := by
  rw [← Array.length_toList, join_cps, List.length_flatten, List.map_map]
  rfl
/-- pieces of a book -/
structure Good (zs : List Str) : Prop where
  some : 1 ≤ zs.length
  few : zs.length ≤ 12
  piece : ∀ z, z ∈ zs → pieceB z = true
  once : zs.Nodup
theorem piece_size {z : Str} (h : pieceB z = true) : 1 ≤ z.cps.size ∧ z.cps.size ≤ 8 := by
  unfold pieceB at h
  rw [Bool.and_eq_true, Bool.and_eq_true] at h
  exact ⟨of_decide_eq_true h.2.1, of_decide_eq_true h.2.2⟩
theorem Good.sum {zs : List Str} (g : Good zs) : (zs.map (·.length)).sum ≤ 96 := by
  have h := sum_le 8 zs fun y hy => (piece_size (g.piece y hy)).2
  have := g.few
  omega
theorem due_non : ∀ (xs : List V) (acc : List Str), dueL acc xs = .non → acc.Nodup → ∃ zs, xs = zs.map V.str ∧ (∀ z, z ∈ zs → pieceB z = true) ∧ (acc ++ zs).Nodup
  | [], acc, _, nd => ⟨[], rfl, fun _ h => (List.not_mem_nil h).elim, by rw [List.append_nil]; exact nd⟩
  | x :: r, acc, h, nd => by
    cases hx : pieceV x with
    | false =>
      rw [due_bad hx] at h
      cases h
    | true =>
      cases x with
      | str z =>
        have hx : pieceB z = true := hx
        cases hc : acc.contains z with
        | true =>
          rw [due_twice hc] at h
          cases h
        | false =>
          rw [due_good hx hc] at h
          have hz : z ∉ acc := fun m => by
            rw [List.contains_iff_mem.mpr m] at hc
            cases hc
          obtain ⟨zs, e, h1, h2⟩ := due_non r (acc ++ [z]) h (List.nodup_append.mpr ⟨nd, by simp, fun a ha b hb e => by
            rw [List.mem_singleton] at hb
            exact hz (by rw [← hb, ← e]; exact ha)⟩)
          refine ⟨z :: zs, by rw [e]; rfl, fun y hy => ?_, ?_⟩
          · rcases List.mem_cons.mp hy with e | hy
            · rw [e]; exact hx
            · exact h1 y hy
          · rw [List.append_assoc] at h2
            exact h2
      | _ => cases hx
theorem due_good_all : ∀ (zs acc : List Str), (∀ z, z ∈ zs → pieceB z = true) → (acc ++ zs).Nodup → dueL acc (zs.map V.str) = .non
  | [], _, _, _ => rfl
  | z :: r, acc, h, nd => by
    have hz : acc.contains z = false := by
      cases c : acc.contains z with
      | false => rfl
      | true => exact absurd rfl ((List.nodup_append.mp nd).2.2 z (List.contains_iff_mem.mp c) z List.mem_cons_self)
    show dueL acc (.str z :: r.map V.str) = .non
    rw [due_good (h z List.mem_cons_self) hz]
    exact due_good_all r (acc ++ [z]) (fun y hy => h y (List.mem_cons_of_mem _ hy)) (by rw [List.append_assoc]; exact nd)
theorem DueR.of {K : PySem.W.Frag} {H : Hp} {t : Addr} {zs : List Str} (ht : H t = some (.tup (zs.map V.str))) (g : Good zs) : DueR K H (.ref t) .non := by
  have h := DueR.due (K := K) ht (by rw [List.length_map]; exact g.some) (by rw [List.length_map]; exact g.few)
  rw [due_good_all zs [] g.piece (by rw [List.nil_append]; exact g.once)] at h
  exact h
theorem DueR.one {K : PySem.W.Frag} {H : Hp} {v r1 r2 : V} (h1 : DueR K H v r1) (h2 : DueR K H v r2) : r1 = r2 := by
  have tupK : ∀ {t : Addr} {xs : List V} {k : SPD.Kd}, H t = some (.tup xs) → SPD.KdOf K H (.ref t) k → k = .tup := fun ht hk => by
    cases hk with
    | dct h => rw [h] at ht; cases ht
    | lst h => rw [h] at ht; cases ht
    | tup h => rfl
  cases h1 with
  | kind a b =>
    cases h2 with
    | kind _ _ => rfl
    | len c _ => exact absurd (tupK c a) b
    | due c _ _ => exact absurd (tupK c a) b
  | len a b =>
    cases h2 with
    | kind _ _ => rfl
    | len _ _ => rfl
    | due c d e =>
      rw [c] at a
      cases a
      exact absurd ⟨d, e⟩ b
  | due a b c =>
    cases h2 with
    | kind d e => exact absurd (tupK a d) e
    | len d e =>
      rw [d] at a
      cases a
      exact absurd ⟨b, c⟩ e
    | due d e f =>
      rw [d] at a
      cases a
      rfl
/-- what is due is no list, no tuple -/
theorem due_kinds : ∀ (xs : List V) (acc : List Str), dueL acc xs = .non ∨ ∃ i : Nat, dueL acc xs = .int i
  | [], _ => .inl rfl
  | x :: r, acc => by
    cases x with
    | str z =>
      show (if (pieceB z && !(acc.contains z)) = true then dueL (acc ++ [z]) r else .int (acc.length : Nat)) = .non ∨ ∃ i : Nat, (if (pieceB z && !(acc.contains z)) = true then dueL (acc ++ [z]) r else .int (acc.length : Nat)) = .int i
      split
      · exact due_kinds r _
      · exact .inr ⟨_, rfl⟩
    | _ => exact .inr ⟨_, rfl⟩
theorem DueR.kinds {K : PySem.W.Frag} {H : Hp} {v r : V} (h : DueR K H v r) : r = .non ∨ r = .str "pieces" ∨ ∃ i : Nat, r = .int i := by
  cases h with
  | kind a b => exact .inr (.inl rfl)
  | len a b => exact .inr (.inl rfl)
  | due a b c => exact (due_kinds _ _).imp id .inr
/-- of None is due: the pieces -/
theorem DueR.good {K : PySem.W.Frag} {H : Hp} {v : V} (h : DueR K H v .non) : ∃ (t : Addr) (zs : List Str), v = .ref t ∧ H t = some (.tup (zs.map V.str)) ∧ Good zs := by
  generalize e : V.non = r at h
  cases h with
  | kind a b => cases e
  | len a b => cases e
  | due a b c =>
    obtain ⟨zs, rfl, h1, h2⟩ := due_non _ [] e.symm List.nodup_nil
    rw [List.length_map] at b c
    exact ⟨_, zs, rfl, a, b, c, h1, h2⟩
def spDue (K : PySem.W.Frag) : Sp := fun vs H Q _ => ∃ (x : Addr) (n : Nat) (v : V), vs = [v] ∧ SPD.Dq x H n v ∧ ∀ r H', DueR K H v r → Same H H' → Q r H'
/-- the signs of the pieces, each once, as one text -/
def spOwn : Sp := fun vs H Q _ => ∃ (t : Addr) (zs : List Str), vs = [.ref t] ∧ H t = some (.tup (zs.map V.str)) ∧ (zs.map (·.length)).sum ≤ 4000 ∧ ∀ ys H', SST.Own (Txt.join ("" : Str) zs) ys → Same H H' → Q (.str (Txt.join ("" : Str) ys)) H'
def BookAt (H : Hp) (C b t : Addr) : Prop := ∃ dx, H b = some (.ins C dx [("pieces", .ref t)])
theorem BookAt.same {H H' : Hp} {C b t : Addr} (s : Same H H') (h : BookAt H C b t) : BookAt H' C b t := h.imp fun _ h => s _ _ h
theorem own_small {x : Str} {ys : List Str} (h : SST.Own x ys) (hx : x.cps.size ≤ 4000) : (ys.map (·.length)).sum ≤ 4000 := by
  have h1 : ys.length ≤ 4000 := by
    rw [h.1.length_eq]
    exact Nat.le_trans (SST.mets_len _ _) hx
  have h2 := sum_le 1 ys fun y hy => by
    obtain ⟨j, _, rfl⟩ := (SST.mets_mem _ _ _).mp (h.1.mem_iff.mp hy)
    exact Nat.le_refl _
  omega
theorem same_of_kb {H H1 H2 : Hp} {b : Addr} (s : Same H H1) (hb : H b = none) (k : RD.KB b H1 H2) : Same H H2 := fun c o e => k c o (fun z => by subst z; rw [hb] at e; cases e) (s c o e)

/-! ### lists of texts as data -/
theorem eqv_strs : ∀ zs ws : List Str, PyData.eqvAll (zs.map PyData.str) (ws.map PyData.str) = decide (zs = ws)
  | [], [] => by simp [PyData.eqvAll]
  | [], _ :: _ => by simp [PyData.eqvAll]
  | _ :: _, [] => by simp [PyData.eqvAll]
  | z :: zs, w :: ws => by
    have ih := eqv_strs zs ws
    have e : (z == w) = decide (z = w) := by
      by_cases h : z = w
      · subst h
        simp
      · simp [h]
    rw [List.map_cons, List.map_cons, PyData.eqvAll, ih]
    simp [PyData.eqv, e]
theorem eqv_tups (zs ws : List Str) : PyData.eqv (.tuple (zs.map PyData.str)) (.tuple (ws.map PyData.str)) = decide (zs = ws) := by
  rw [PyData.eqv, eqv_strs]
theorem dp_strs {K : PySem.W.Frag} {H : Hp} : ∀ zs : List Str, DpAll K H (zs.map V.str) (zs.map PyData.str)
  | [] => .nil
  | z :: zs => .cons (.str z) (dp_strs zs)
theorem str_ok {z : Str} (h : pieceB z = true) : PyData.strOk z = true := by
  have hl : logB z = true := by
    unfold pieceB at h
    rw [Bool.and_eq_true] at h
    exact h.1
  have small : ∀ c, c ∈ z.cps.toList → c < 128 := fun c hc => by
    have m : c ∈ lets := of_decide_eq_true (List.all_eq_true.mp hl c hc)
    exact (show ∀ c, c ∈ lets → c < 128 by decide) c m
  unfold PyData.strOk
  rw [Array.all_eq_true_iff_forall_mem]
  intro c hc
  have := small c (Array.mem_toList_iff.mpr hc)
  exact decide_eq_true (by omega)
theorem lay_strs : ∀ zs : List Str, (∀ z, z ∈ zs → pieceB z = true) → PyData.canLayAll0 (zs.map PyData.str) = true ∧ PyData.depthAll (zs.map PyData.str) = 0
  | [], _ => ⟨rfl, rfl⟩
  | z :: zs, h => by
    obtain ⟨h1, h2⟩ := lay_strs zs fun y hy => h y (List.mem_cons_of_mem _ hy)
    refine ⟨?_, ?_⟩
    · rw [List.map_cons, PyData.canLayAll0, h1, PyData.canLay0, str_ok (h z List.mem_cons_self)]
      rfl
    · rw [List.map_cons, PyData.depthAll, h2, PyData.depth]
      rfl
theorem shaped_strs {zs : List Str} (h : ∀ z, z ∈ zs → pieceB z = true) : SeqAt.shaped (.tuple (zs.map PyData.str)) = true := by
  obtain ⟨h1, h2⟩ := lay_strs zs h
  unfold SeqAt.shaped
  rw [PyData.canLay0, h1, PyData.depth, h2]
  rfl

/-! ### checks -/
def intV : V → Bool
  | .int _ => true
  | _ => false
def withV (v : V) (lo hi : Int) : Bool := match v with
  | .int i => decide (lo ≤ i) && decide (i ≤ hi)
  | _ => false
def tupV (H : Hp) (v : V) (m : Nat) : Bool := match v with
  | .ref a => match H a with
    | some (.tup xs) => decide (xs.length = m)
    | _ => false
  | _ => false
theorem with_int {v : V} {lo hi : Int} (h : withV v lo hi = true) : ∃ i, v = .int i ∧ lo ≤ i ∧ i ≤ hi := by
  cases v with
  | int i =>
    unfold withV at h
    rw [Bool.and_eq_true] at h
    exact ⟨i, rfl, of_decide_eq_true h.1, of_decide_eq_true h.2⟩
  | _ => cases h
theorem with_in {i lo hi : Int} (h1 : lo ≤ i) (h2 : i ≤ hi) : withV (.int i) lo hi = true := by
  show (decide (lo ≤ i) && decide (i ≤ hi)) = true
  rw [decide_eq_true h1, decide_eq_true h2]
  rfl
theorem tup_of {H : Hp} {v : V} {m : Nat} (h : tupV H v m = true) : ∃ a xs, v = .ref a ∧ H a = some (.tup xs) ∧ xs.length = m := by
  cases v with
  | ref a =>
    unfold tupV at h
    cases e : H a with
    | none => simp [e] at h
    | some o =>
      cases o with
      | tup xs => simp [e] at h; exact ⟨a, xs, rfl, e, h⟩
      | _ => simp [e] at h
  | _ => cases h
theorem tup_at {H : Hp} {a : Addr} {xs : List V} {m : Nat} (h : H a = some (.tup xs)) : tupV H (.ref a) m = decide (xs.length = m) := by
  unfold tupV
  simp only [h]
theorem tup_kd {K : PySem.W.Frag} {H : Hp} {v : V} {m : Nat} {k : SPD.Kd} (h : SPD.KdOf K H v k) (n : k ≠ .tup) : tupV H v m = false := by
  cases h with
  | tup h => exact absurd rfl n
  | dct h => unfold tupV; simp only [h]
  | lst h => unfold tupV; simp only [h]
  | _ => rfl
def spInteger : Sp := fun vs H Q _ => ∃ (x : Addr) (n : Nat) (v : V), vs = [v] ∧ SPD.Dq x H n v ∧ ∀ H', Same H H' → Q (.bl (intV v)) H'
def spWithin : Sp := fun vs H Q _ => ∃ (x : Addr) (n : Nat) (v : V) (lo hi : Int), vs = [v, .int lo, .int hi] ∧ SPD.Dq x H n v ∧ ∀ H', Same H H' → Q (.bl (withV v lo hi)) H'
section
variable {P : Program} {w : World} {K : PySem.W.Frag} {mg : Str → Option Value} {base : Heap}
theorem ok_is_integer (T : Txt P K mg) : FnOk P w K mg base CX0 1 T.a_is_integer T.fd_is_integer ["thing"] spInteger := by
  have nd := sc_is_integer.nd
  refine T.F_is_integer.ok sc_is_integer (fun vs H Q E h => ?_) (fun cdv A outer s H vs Q E hr h => ?_)
  · obtain ⟨x, n, v, rfl, _⟩ := h
    rfl
  · obtain ⟨x, n, v, rfl, hd, q⟩ := h
    refine ⟨_, (pss_one (ps_ret (pe_and (pe_callB call_isi (by rfl) T.m_isinstance (by decide +kernel) (pa_cons (pv 0) (pa_cons (pe_bltn (v := .ty "int") (by rfl) T.m_int (by decide +kernel) rfl) pa_nil))) (pe_one (pe_not (pe_callB call_isi (by rfl) T.m_isinstance (by decide +kernel) (pa_cons (pv 0) (pa_cons (pe_bltn (v := .ty "bool") (by rfl) T.m_bool (by decide +kernel) rfl) pa_nil)))))))), ?_⟩
    obtain ⟨k, hk⟩ := hd.kd (K := K)
    walk_at "rds"
    refine RD.ite_d (fun e => ?_) (fun ne => ?_)
    · walk_at "rds"
      have e2 : intV v = !decide (k = SPD.Kd.bl) := by
        cases hk <;> first | rfl | (exfalso; revert e; decide)
      rw [← e2]
      exact q _ (Same.refl _)
    · have e2 : intV v = false := by
        cases hk <;> first | rfl | (exfalso; exact ne (by decide))
      rw [e2] at q
      exact q _ (Same.refl _)
theorem ok_is_within (T : Txt P K mg) : FnOk P w K mg base CX0 2 T.a_is_within T.fd_is_within ["thing", "least", "most"] spWithin := by
  have nd := sc_is_within.nd
  have G_is_integer : FnOk P w K mg base CX0 1 T.a_is_integer T.fd_is_integer ["thing"] spInteger := ok_is_integer T
  refine T.F_is_within.ok sc_is_within (fun vs H Q E h => ?_) (fun cdv A outer s H vs Q E hr h => ?_)
  · obtain ⟨x, n, v, lo, hi, rfl, _⟩ := h
    rfl
  · obtain ⟨x, n, v, lo, hi, rfl, hd, q⟩ := h
    refine ⟨_, (pss_one (ps_ret (pe_and (pe_call G_is_integer hr (by rfl) T.g_is_integer T.F_is_integer.kp T.b_is_integer .nil pass0 (pa_cons (pv 0) pa_nil)) (pe_one (pe_chain op_le op_le (pv 1) (pv 0) (pv 2)))))), ?_⟩
    walk_at "rds"
    refine ⟨x, n, v, rfl, hd, fun H1 s1 => ?_⟩
    walk_at "rds"
    refine RD.ite_b (fun e => ?_) (fun e => ?_)
    · cases v with
      | int i =>
        walk_at "rds"
        refine RD.ite_d (fun h1 => ?_) (fun h1 => ?_)
        · walk_at "rds"
          have e2 : withV (.int i) lo hi = decide (i ≤ hi) := by
            show (decide (lo ≤ i) && decide (i ≤ hi)) = _
            rw [decide_eq_true h1, Bool.true_and]
          rw [← e2]
          exact q _ s1
        · have e2 : withV (.int i) lo hi = false := by
            show (decide (lo ≤ i) && decide (i ≤ hi)) = _
            rw [decide_eq_false h1, Bool.false_and]
          rw [e2] at q
          exact q _ s1
      | _ => cases e
    · have e2 : withV v lo hi = false := by
        cases v with
        | int i => cases e
        | _ => rfl
      rw [e2] at q
      exact q _ s1
end

/-! ### machines: what is due -/
def chars (z : Str) : List Str := z.cps.toList.map fun c => ⟨#[c]⟩
theorem chars_map (z : Str) : (z.cps.toList.map fun c => V.str ⟨#[c]⟩) = (chars z).map V.str := by
  unfold chars
  rw [List.map_map]
  rfl
noncomputable def ascB (z : Str) : Bool := @decide (SST.Own z (chars z)) (Classical.propDecidable _)
theorem asc_eq {z : Str} {ys : List Str} (h : SST.Own z ys) : decide (chars z = ys) = ascB z := by
  unfold ascB
  by_cases e : chars z = ys
  · rw [decide_eq_true e]
    exact (@decide_eq_true _ (Classical.propDecidable _) (by rw [e]; exact h)).symm
  · rw [decide_eq_false e]
    exact (@decide_eq_false _ (Classical.propDecidable _) (fun g => e (g.one h))).symm
noncomputable def signsB (z : Str) : Bool := (decide (1 ≤ z.cps.size) && decide (z.cps.size ≤ 8)) && (logB z && ascB z)
noncomputable def signsV : V → Bool
  | .str z => signsB z
  | _ => false
def wideV : V → Nat
  | .str z => z.cps.size
  | _ => 0
def rowB (H : Hp) (v : V) (wide many : Nat) : Bool := match v with
  | .ref a => match H a with
    | some (.tup xs) => decide (xs.length = wide) && xs.all fun y => withV y 0 ((many : Int) - 1)
    | _ => false
  | _ => false
def rowsDue (H : Hp) (wide many : Nat) : Nat → List V → V
  | _, [] => .non
  | i, v :: r => if rowB H v wide many = true then rowsDue H wide many (i + 1) r else .int (i : Nat)
def blV : V → Bool
  | .bl _ => true
  | _ => false
def letsB (H : Hp) (v : V) (n : Nat) : Bool := match v with
  | .ref a => match H a with
    | some (.tup xs) => decide (xs.length = n) && xs.all blV
    | _ => false
  | _ => false
noncomputable def mdueV (H : Hp) (s r l : V) : V :=
  if signsV s = true then match r with
    | .ref a => match H a with
      | some (.tup rows) => if 1 ≤ rows.length ∧ rows.length ≤ 300 then match rowsDue H (wideV s) rows.length 0 rows with
          | .non => if letsB H l rows.length = true then .non else .str "lets"
          | d => d
        else .str "rows"
      | _ => .str "rows"
    | _ => .str "rows"
  else .str "signs"
theorem mdue_signs {H : Hp} {s r l : V} (h : signsV s = false) : mdueV H s r l = .str "signs" := by
  unfold mdueV
  rw [if_neg (by rw [h]; decide)]
theorem mdue_kd {K : PySem.W.Frag} {H : Hp} {s r l : V} {k : SPD.Kd} (h : signsV s = true) (hk : SPD.KdOf K H r k) (n : k ≠ .tup) : mdueV H s r l = .str "rows" := by
  unfold mdueV
  rw [if_pos h]
  cases hk with
  | tup h => exact absurd rfl n
  | dct h => simp only [h]
  | lst h => simp only [h]
  | _ => rfl
theorem mdue_len {H : Hp} {s l : V} {a : Addr} {rows : List V} (h : signsV s = true) (ha : H a = some (.tup rows)) (n : ¬ (1 ≤ rows.length ∧ rows.length ≤ 300)) : mdueV H s (.ref a) l = .str "rows" := by
  unfold mdueV
  rw [if_pos h]
  simp only [ha]
  rw [if_neg n]
theorem mdue_rows {H : Hp} {s l : V} {a : Addr} {rows : List V} (h : signsV s = true) (ha : H a = some (.tup rows)) (n : 1 ≤ rows.length ∧ rows.length ≤ 300) {i : Nat} (e : rowsDue H (wideV s) rows.length 0 rows = .int (i : Nat)) : mdueV H s (.ref a) l = .int (i : Nat) := by
  unfold mdueV
  rw [if_pos h]
  simp only [ha]
  rw [if_pos n, e]
theorem mdue_lets {H : Hp} {s l : V} {a : Addr} {rows : List V} (h : signsV s = true) (ha : H a = some (.tup rows)) (n : 1 ≤ rows.length ∧ rows.length ≤ 300) (e : rowsDue H (wideV s) rows.length 0 rows = .non) : mdueV H s (.ref a) l = if letsB H l rows.length = true then .non else .str "lets" := by
  unfold mdueV
  rw [if_pos h]
  simp only [ha]
  rw [if_pos n, e]
theorem rows_kinds (H : Hp) (wide many : Nat) : ∀ (xs : List V) (i : Nat), rowsDue H wide many i xs = .non ∨ ∃ j : Nat, rowsDue H wide many i xs = .int (j : Nat)
  | [], _ => .inl rfl
  | v :: r, i => by
    show (if rowB H v wide many = true then rowsDue H wide many (i + 1) r else .int (i : Nat)) = .non ∨ ∃ j : Nat, (if rowB H v wide many = true then rowsDue H wide many (i + 1) r else .int (i : Nat)) = .int (j : Nat)
    split
    · exact rows_kinds H wide many r (i + 1)
    · exact .inr ⟨i, rfl⟩
theorem rows_go {H : Hp} {wide many i : Nat} {v : V} {r : List V} (h : rowB H v wide many = true) : rowsDue H wide many i (v :: r) = rowsDue H wide many (i + 1) r := if_pos h
theorem rows_stop {H : Hp} {wide many i : Nat} {v : V} {r : List V} (h : rowB H v wide many = false) : rowsDue H wide many i (v :: r) = .int (i : Nat) := if_neg (by rw [h]; decide)
theorem row_at {H : Hp} {a : Addr} {xs : List V} {wide many : Nat} (h : H a = some (.tup xs)) : rowB H (.ref a) wide many = (decide (xs.length = wide) && xs.all fun y => withV y 0 ((many : Int) - 1)) := by
  unfold rowB
  simp only [h]
theorem row_kd {K : PySem.W.Frag} {H : Hp} {v : V} {wide many : Nat} {k : SPD.Kd} (hk : SPD.KdOf K H v k) (n : k ≠ .tup) : rowB H v wide many = false := by
  cases hk with
  | tup h => exact absurd rfl n
  | dct h => unfold rowB; simp only [h]
  | lst h => unfold rowB; simp only [h]
  | _ => rfl
theorem lets_at {H : Hp} {a : Addr} {xs : List V} {n : Nat} (h : H a = some (.tup xs)) : letsB H (.ref a) n = (decide (xs.length = n) && xs.all blV) := by
  unfold letsB
  simp only [h]
theorem lets_kd {K : PySem.W.Frag} {H : Hp} {v : V} {m : Nat} {k : SPD.Kd} (hk : SPD.KdOf K H v k) (n : k ≠ .tup) : letsB H v m = false := by
  cases hk with
  | tup h => exact absurd rfl n
  | dct h => unfold letsB; simp only [h]
  | lst h => unfold letsB; simp only [h]
  | _ => rfl
theorem row_same {x : Addr} {H H' : Hp} {n wide many : Nat} {v : V} (hd : SPD.Dq x H n v) (s : Same H H') : rowB H' v wide many = rowB H v wide many := by
  cases hd with
  | leaf e => cases v <;> first | rfl | cases e
  | dct ne h0 _ _ => unfold rowB; simp only [h0, s _ _ h0]
  | tup ne h0 _ _ => unfold rowB; simp only [h0, s _ _ h0]
  | lst ne h0 _ _ => unfold rowB; simp only [h0, s _ _ h0]
theorem lets_same {x : Addr} {H H' : Hp} {n m : Nat} {v : V} (hd : SPD.Dq x H n v) (s : Same H H') : letsB H' v m = letsB H v m := by
  cases hd with
  | leaf e => cases v <;> first | rfl | cases e
  | dct ne h0 _ _ => unfold letsB; simp only [h0, s _ _ h0]
  | tup ne h0 _ _ => unfold letsB; simp only [h0, s _ _ h0]
  | lst ne h0 _ _ => unfold letsB; simp only [h0, s _ _ h0]
theorem rows_same {x : Addr} {H H' : Hp} {wide many : Nat} (s : Same H H') : ∀ (xs : List V) (i : Nat), (∀ y, y ∈ xs → ∃ m, SPD.Dq x H m y) → rowsDue H' wide many i xs = rowsDue H wide many i xs
  | [], _, _ => rfl
  | v :: r, i, h => by
    obtain ⟨m, hd⟩ := h v List.mem_cons_self
    have e := row_same (wide := wide) (many := many) hd s
    cases c : rowB H v wide many with
    | false => rw [rows_stop c, rows_stop (by rw [e, c])]
    | true =>
      rw [rows_go c, rows_go (by rw [e, c])]
      exact rows_same s r _ fun y hy => h y (List.mem_cons_of_mem _ hy)
theorem dq_items {x : Addr} {H : Hp} {n : Nat} {t : Addr} {xs : List V} (hd : SPD.Dq x H n (.ref t)) (ht : H t = some (.tup xs)) : (∀ y, y ∈ xs → ∃ m, SPD.Dq x H m y) ∧ xs.length ≤ 16777216 := by
  cases hd with
  | leaf e => cases e
  | dct ne h0 _ _ =>
    rw [h0] at ht
    cases ht
  | tup ne h0 hl hall =>
    rw [h0] at ht
    cases ht
    exact ⟨fun y hy => ⟨_, hall y hy⟩, hl⟩
  | lst ne h0 hl hall =>
    rw [h0] at ht
    cases ht
theorem mdue_same {x : Addr} {H H' : Hp} {n1 n2 n3 : Nat} {s r l : V} (h1 : SPD.Dq x H n1 s) (h2 : SPD.Dq x H n2 r) (h3 : SPD.Dq x H n3 l) (sm : Same H H') : mdueV H' s r l = mdueV H s r l := by
  cases c : signsV s with
  | false => rw [mdue_signs c, mdue_signs c]
  | true =>
    obtain ⟨k, hk⟩ := h2.kd (K := default)
    by_cases e : k = .tup
    · subst e
      cases hk with
      | @tup a rows ha =>
        by_cases n : 1 ≤ rows.length ∧ rows.length ≤ 300
        · have er := rows_same (wide := wideV s) (many := rows.length) sm rows 0 (dq_items h2 ha).1
          rcases rows_kinds H (wideV s) rows.length rows 0 with e | ⟨i, e⟩
          · rw [mdue_lets c (sm _ _ ha) n (by rw [er, e]), mdue_lets c ha n e, lets_same h3 sm]
          · rw [mdue_rows c (sm _ _ ha) n (by rw [er, e]), mdue_rows c ha n e]
        · rw [mdue_len c (sm _ _ ha) n, mdue_len c ha n]
    · rw [mdue_kd c (hk.same sm) e, mdue_kd c hk e]
theorem mdue_kinds {H : Hp} {s r l : V} : mdueV H s r l = .non ∨ (∃ z : Str, mdueV H s r l = .str z) ∨ ∃ i : Nat, mdueV H s r l = .int (i : Nat) := by
  unfold mdueV
  split
  · split
    · split
      · rename_i rows e
        split
        · rcases rows_kinds H (wideV s) rows.length rows 0 with e | ⟨i, e⟩
          · rw [e]
            simp only
            split
            · exact .inl rfl
            · exact .inr (.inl ⟨_, rfl⟩)
          · rw [e]
            exact .inr (.inr ⟨i, rfl⟩)
        · exact .inr (.inl ⟨_, rfl⟩)
      · exact .inr (.inl ⟨_, rfl⟩)
    · exact .inr (.inl ⟨_, rfl⟩)
  · exact .inr (.inl ⟨_, rfl⟩)
theorem shaped_texts {zs : List Str} (h : ∀ z, z ∈ zs → PyData.strOk z = true) : SeqAt.shaped (.list (zs.map PyData.str)) = true := by
  have key : ∀ zs : List Str, (∀ z, z ∈ zs → PyData.strOk z = true) → PyData.canLayAll0 (zs.map PyData.str) = true ∧ PyData.depthAll (zs.map PyData.str) = 0 := by
    intro zs
    induction zs with
    | nil => exact fun _ => ⟨rfl, rfl⟩
    | cons z zs ih =>
      intro h
      obtain ⟨h1, h2⟩ := ih fun y hy => h y (List.mem_cons_of_mem _ hy)
      refine ⟨?_, ?_⟩
      · rw [List.map_cons, PyData.canLayAll0, h1, PyData.canLay0, h z List.mem_cons_self]
        rfl
      · rw [List.map_cons, PyData.depthAll, h2, PyData.depth]
        rfl
  obtain ⟨h1, h2⟩ := key zs h
  unfold SeqAt.shaped
  rw [PyData.canLay0, h1, PyData.depth, h2]
  rfl
theorem eqv_lists (zs ws : List Str) : PyData.eqv (.list (zs.map PyData.str)) (.list (ws.map PyData.str)) = decide (zs = ws) := by
  rw [PyData.eqv, eqv_strs]
theorem chars_ok {z : Str} (h : PyData.strOk z = true) : ∀ y, y ∈ chars z → PyData.strOk y = true := fun y hy => by
  unfold chars at hy
  obtain ⟨c, hc, rfl⟩ := List.mem_map.mp hy
  unfold PyData.strOk at *
  rw [Array.all_eq_true_iff_forall_mem] at *
  intro d hd
  have e : d = c := by simpa using hd
  rw [e]
  exact h c (Array.mem_toList_iff.mp hc)
theorem own_ok {z : Str} {ys : List Str} (ho : SST.Own z ys) (h : PyData.strOk z = true) : ∀ y, y ∈ ys → PyData.strOk y = true := fun y hy => by
  obtain ⟨j, hj1, rfl⟩ := (SST.mets_mem _ _ _).mp (ho.1.mem_iff.mp hy)
  refine chars_ok h _ ?_
  unfold chars
  refine List.mem_map.mpr ⟨z.cps.getD j 0, ?_, rfl⟩
  rw [Array.getD_eq_getD_getElem?, Array.getElem?_eq_getElem hj1]
  exact Array.mem_toList_iff.mpr (Array.getElem_mem hj1)
theorem log_ok {z : Str} (h : logB z = true) : PyData.strOk z = true := by
  unfold PyData.strOk
  rw [Array.all_eq_true_iff_forall_mem]
  intro c hc
  have m : c ∈ lets := of_decide_eq_true (List.all_eq_true.mp h c (Array.mem_toList_iff.mpr hc))
  have := (show ∀ c, c ∈ lets → c < 128 by decide) c m
  exact decide_eq_true (by omega)
def spAreSigns : Sp := fun vs H Q _ => ∃ (x : Addr) (n : Nat) (v : V), vs = [v] ∧ SPD.Dq x H n v ∧ ∀ H', Same H H' → Q (.bl (signsV v)) H'
def spIsRow : Sp := fun vs H Q _ => ∃ (x : Addr) (n : Nat) (v : V) (wide many : Nat), vs = [v, .int (wide : Nat), .int (many : Nat)] ∧ SPD.Dq x H n v ∧ ∀ H', Same H H' → Q (.bl (rowB H v wide many)) H'
def spMachine (C B : Addr) : Sp := fun vs H Q E => ∃ (x b dx : Addr) (n : Nat) (s r l : V), vs = [.ref b, s, r, l] ∧ H b = some (.ins C dx []) ∧ SPD.Dq x H n s ∧ SPD.Dq x H n r ∧ SPD.Dq x H n l ∧
  (mdueV H s r l = .non → ∀ H', RD.KB b H H' → H' b = some (.ins C dx [("signs", s), ("rows", r), ("lets", l)]) → Q .non H') ∧
  (mdueV H s r l ≠ .non → ∀ d H', H d = none → Same H H' → H' d = some (.xd [("part", mdueV H s r l)]) → E (.ref B) (some d) H')
section
variable {P : Program} {w : World} {K : PySem.W.Frag} {mg : Str → Option Value} {base : Heap}
theorem ok_are_signs (T : Txt P K mg) : FnOk P w K mg base CX0 1 T.a_are_signs T.fd_are_signs ["thing"] spAreSigns := by
  have nd := sc_are_signs.nd
  refine T.F_are_signs.ok sc_are_signs (fun vs H Q E h => ?_) (fun cdv A outer s H vs Q E hr h => ?_)
  · obtain ⟨x, n, v, rfl, _⟩ := h
    rfl
  · obtain ⟨x, n, v, rfl, hd, q⟩ := h
    obtain ⟨t_LETTERS, g_LETTERS⟩ := T.g_LETTERS
    obtain ⟨t_MOST_SIGNS, g_MOST_SIGNS⟩ := T.g_MOST_SIGNS
    refine ⟨_, (pss_cons (ps_if (PW.pt (pw_or (pt_not (pt_val (pe_callB call_isi (by rfl) T.m_isinstance (by decide +kernel) (pa_cons (pv 0) (pa_cons (pe_bltn (v := .ty "str") (by rfl) T.m_str (by decide +kernel) rfl) pa_nil))))) (pw_or1 (pt_not (pt_chain op_le op_le pe_int (pe_callB call_len_str (by rfl) T.m_len PySem.boot_len (pa_cons (pv 0) pa_nil)) (pe_glob (v := .int 8) (by rfl) g_MOST_SIGNS ⟨_, rfl⟩))))))
    (pss_one (ps_ret pe_bl))
    pss_nil)
  (pss_one (ps_ret (pe_and (pe_callB (cr_all rfl) (by rfl) T.m_all (by decide +kernel) (pa_cons (pe_lc (own := [("sign", 1)]) (g := (gName 1)) rfl nd (pi_str (pv 0)) (blkOk_by (own := [("sign", 1)]) (N := N_are_signs) (sc := defScope s_are_signs) (by decide +kernel)) (fun _ _ _ _ _ => (pg_name (i := 1) nd rfl (Or.inl rfl))) (fun _ _ _ _ _ => pts_nil) (fun _ _ _ _ _ => (pe_cmpR op_in_sign (pv 1) (pe_glob (v := .str "abcdefgh") (by rfl) g_LETTERS ⟨_, rfl⟩) (by first | rfl | exact nomark _)))) pa_nil)) (pe_one (pe_cmpR (op_eqD hr.units) (pe_callTy (RB.call_listS rfl) (by rfl) T.m_list (by decide +kernel) (pa_cons (pv 0) pa_nil)) (SST.pe_ss (by rfl) T.m_sorted (by rfl) T.m_set (pv 0)) (nomark _))))))), ?_⟩
    obtain ⟨k, hk⟩ := hd.kd (K := K)
    walk_at "rds"
    refine RD.ite_nd (fun ne => ?_) (fun e => ?_)
    · have e : signsV v = false := by
        cases hk <;> first | rfl | exact absurd rfl ne
      rw [e] at q
      walk_at "rds"
      exact q _ (Same.refl _)
    · subst e
      cases hk with
      | str z =>
        have hz := str_small hd
        have hzl : z.length = z.cps.size := rfl
        have hzs : z.length ≤ sizeLine := small_len hz
        have bad : ¬ (1 ≤ z.cps.size ∧ z.cps.size ≤ 8) → signsV (.str z) = false := fun h => by
          show ((decide (1 ≤ z.cps.size) && decide (z.cps.size ≤ 8)) && (logB z && ascB z)) = false
          rw [← Bool.decide_and, decide_eq_false h, Bool.false_and]
        walk_at "rds"
        refine RD.ite_d (fun h1 => ?_) (fun h1 => ?_)
        · walk_at "rds"
          refine RD.ite_nd (fun h8 => ?_) (fun h8 => ?_)
          · rw [bad (by omega)] at q
            walk_at "rds"
            exact q _ (Same.refl _)
          · have e : signsV (.str z) = (logB z && ascB z) := by
              show ((decide (1 ≤ z.cps.size) && decide (z.cps.size ≤ 8)) && (logB z && ascB z)) = _
              rw [← Bool.decide_and, decide_eq_true (by omega), Bool.true_and]
            walk_at "rds"
            refine RD.lcF RB.w_str (by omega) (fun i => (z.cps.toList[i]?).map fun c => V.bl (decide (c ∈ lets))) (fun _ _ => trivial) (fun i x H' Z N hi hx s hZ hN => ?_) (fun D H1 hD s1 hv => ?_)
            · rw [List.getElem?_map] at hx
              obtain ⟨c, hc, rfl⟩ := Option.map_eq_some_iff.mp hx
              walk_at "rds"
              refine ⟨rfl, ?_⟩
              walk_at "rds"
              exact hZ _ _ (by rw [hc]; rfl) (Same.refl _)
            · rw [log_list] at hv
              walk_at "rds"
              rw [log_all]
              refine RD.ite_b (fun hl => ?_) (fun hl => ?_)
              · walk_at "rds"
                have hok := log_ok hl
                rw [chars_map] at hv
                refine RB.ssV (by omega) fun ys p H2 ho hp2 s2 hv2 => ?_
                refine RD.eqD (.lst (.inl (.inl (s2 _ _ hv))) (dp_strs (chars z))) (.lst (.inl (.inl hv2)) (dp_strs ys)) (shaped_texts (chars_ok hok)) (shaped_texts (own_ok ho hok)) ?_
                rw [eqv_lists, asc_eq ho]
                rw [e, hl, Bool.true_and] at q
                exact q _ ((s1.trans hs).trans s2)
              · rw [e, hl, Bool.false_and] at q
                exact q _ s1
        · rw [bad (by omega)] at q
          walk_at "rds"
          exact q _ (Same.refl _)
theorem ok_is_row (T : Txt P K mg) : FnOk P w K mg base CX0 3 T.a_is_row T.fd_is_row ["thing", "wide", "many"] spIsRow := by
  have nd := sc_is_row.nd
  have G_is_within : FnOk P w K mg base CX0 2 T.a_is_within T.fd_is_within ["thing", "least", "most"] spWithin := ok_is_within T
  refine T.F_is_row.ok sc_is_row (fun vs H Q E h => ?_) (fun cdv A outer s H vs Q E hr h => ?_)
  · obtain ⟨x, n, v, wide, many, rfl, _⟩ := h
    rfl
  · obtain ⟨x, n, v, wide, many, rfl, hd, q⟩ := h
    refine ⟨_, (pss_one (ps_ret (pe_and (pe_callB call_isi (by rfl) T.m_isinstance (by decide +kernel) (pa_cons (pv 0) (pa_cons (pe_bltn (v := .ty "tuple") (by rfl) T.m_tuple (by decide +kernel) rfl) pa_nil))) (pe_and (pe_cmpR op_eq (pe_callB call_len_seq (by rfl) T.m_len PySem.boot_len (pa_cons (pv 0) pa_nil)) (pv 1) (nomark _)) (pe_one (pe_callB (cr_all rfl) (by rfl) T.m_all (by decide +kernel) (pa_cons (pe_lc (own := [("one", 3)]) (g := (gName 3)) rfl nd (pi_tup (pv 0)) (blkOk_by (own := [("one", 3)]) (N := N_is_row) (sc := defScope s_is_row) (by decide +kernel)) (fun _ _ _ _ _ => (pg_name (i := 3) nd rfl (Or.inl rfl))) (fun _ _ _ _ _ => pts_nil) (fun _ _ _ _ _ => (pe_call G_is_within hr (by rfl) T.g_is_within T.F_is_within.kp T.b_is_within .nil pass0 (pa_cons (pv 3) (pa_cons pe_int (pa_cons (pe_op op_sub (pv 2) pe_int) pa_nil)))))) pa_nil))))))), ?_⟩
    obtain ⟨k, hk⟩ := hd.kd (K := K)
    walk_at "rds"
    refine RD.ite_d (fun e => ?_) (fun ne => ?_)
    · subst e
      cases hk with
      | @tup a xs ha =>
        obtain ⟨hall, hlx⟩ := dq_items hd ha
        rw [row_at ha] at q
        walk_at "rds"
        refine RD.ite_d (fun e => ?_) (fun ne => ?_)
        · rw [decide_eq_true (show xs.length = wide by have := V.int.inj e; omega), Bool.true_and] at q
          walk_at "rds"
          refine RD.lcF (walk_tup (xs := xs)) hlx (fun i => (xs[i]?).map fun y => .bl (withV y 0 ((many : Int) - 1))) (fun H' s => by walk_at "st") (fun i y H1 Z N hi hy s1 hZ hN => ?_) (fun D H1 hD s1 hv => ?_)
          · walk_at "rds"
            refine ⟨rfl, ?_⟩
            walk_at "rds"
            obtain ⟨m, hdy⟩ := hall y (List.mem_of_getElem? hy)
            exact ⟨x, m, y, 0, _, rfl, hdy.same s1, fun H2 s2 => hZ _ _ (by rw [hy]; rfl) s2⟩
          · have e1 : (List.range xs.length).filterMap (fun i => (xs[i]?).map fun y => V.bl (withV y 0 ((many : Int) - 1))) = (xs.map fun y => withV y 0 ((many : Int) - 1)).map V.bl := by
              rw [RD.range_get (fun y => V.bl (withV y 0 ((many : Int) - 1))) xs, List.map_map]
              rfl
            rw [e1] at hv
            walk_at "rds"
            rw [List.all_map]
            exact q _ s1
        · rw [decide_eq_false (show ¬ xs.length = wide from fun h => ne (by rw [h])), Bool.false_and] at q
          exact q _ (Same.refl _)
    · rw [row_kd hk ne] at q
      exact q _ (Same.refl _)
end


end K15

namespace K15
open PySem PySem.Spec PyProof.Rows L2
local macro_rules | `(tactic| walk_at "kd") => `(tactic| first | assumption | exact SPD.KdOf.int _ | exact SPD.KdOf.str _ | exact SPD.KdOf.bl _ | exact SPD.KdOf.non | exact SPD.KdOf.same (by assumption) (by walk_at "kd") | exact SPD.KdOf.tup (by walk_at "hp") | exact SPD.KdOf.lst (by walk_at "hp") | fail "no")
local macro_rules | `(tactic| walk_at "ne") => `(tactic| first | assumption | exact Ne.symm (by assumption) | fail "no")
local macro_rules | `(tactic| walk_at "hp") => `(tactic| first | assumption | exact RD.at_same (by assumption) (by walk_at "hp") | exact RD.at_kb (by assumption) (by walk_at "ne") (by walk_at "hp") | fail "no")
local macro_rules | `(tactic| walk_at "sq") => `(tactic| first | assumption | exact Or.inl (Or.inl (by walk_at "hp")) | exact Same.seq (by assumption) (by walk_at "sq") | exact RD.KB.seq (by assumption) (by walk_at "ne") (by walk_at "sq") | fail "no")
local macro_rules | `(tactic| walk_at "st") => `(tactic| first | assumption | exact Or.inl (Or.inl (by walk_at "hp")) | exact RD.Same.tup (by assumption) (by walk_at "st") | exact RD.KB.tup (by assumption) (by walk_at "ne") (by walk_at "st") | fail "no")
local macro_rules | `(tactic| walk_at "rd") => `(tactic| first
  | with_reducible refine RD.c ?_
  | ((with_reducible refine' RD.var ?rdE ?rdK); (case rdE => exact rfl))
  | with_reducible refine RD.op ?_
  | with_reducible refine RD.un ?_
  | with_reducible refine RD.nil ?_
  | with_reducible refine RD.cons ?_
  | with_reducible refine RD.cb ?_
  | with_reducible refine RD.call ?_
  | with_reducible refine RD.test ?_
  | with_reducible refine RD.tb' ?_
  | with_reducible refine RD.bl ?_
  | with_reducible refine RD.and' ?_
  | with_reducible refine RD.or' ?_
  | with_reducible refine RD.not' ?_
  | with_reducible refine RD.andV ?_
  | with_reducible refine RD.orV ?_
  | with_reducible refine RD.notV ?_
  | with_reducible refine RD.ife ?_
  | with_reducible refine RD.sl ?_
  | with_reducible refine RD.part ?_
  | with_reducible refine RD.noPart ?_
  | with_reducible refine RD.partI ?_
  | with_reducible refine RD.rd0 ?_
  | with_reducible refine RD.rdU ?_
  | ((with_reducible refine' RD.rdEq ?rdE ?rdK); (case rdE => rfl))
  | ((with_reducible refine' RD.rdNe ?rdE ?rdK); (case rdE => rfl))
  | ((with_reducible refine' RD.ixL ?rdH ?rdE ?rdK); (case rdH => walk_at "sq"); (case rdE => first | rfl | assumption))
  | ((with_reducible refine' RD.rdI ?rdC ?rdK); (case rdC => first | assumption | (show (0 : Int) < _; first | decide | omega) | exact ⟨by decide, by decide⟩ | exact ⟨by assumption, by assumption⟩ | exact .inr ⟨by decide, by decide⟩ | exact .inl ⟨by decide, by decide⟩ | exact ⟨by decide, by decide, by decide⟩ | exact .inl ⟨by omega, by omega⟩))
  | ((with_reducible refine' RD.setL ?rdH ?rdE ?rdK); (case rdH => walk_at "hp"); (case rdE => rfl); intro $(Lean.mkIdent `H'):ident $(Lean.mkIdent `hk):ident $(Lean.mkIdent `hv):ident)
  | ((with_reducible refine' RD.irng1V ?rdA ?rdB ?rdK); (case rdA => first | decide | omega); (case rdB => first | decide | omega))
  | with_reducible refine RD.int1 ?_
  | with_reducible refine RD.abs1 ?_
  | ((with_reducible refine' RD.len ?rdH ?rdK); (case rdH => first | exact Or.inl (by walk_at "sq") | exact Or.inr (by walk_at "st")))
  | with_reducible refine RD.tup ?_
  | with_reducible refine RD.lst ?_
  | with_reducible refine RD.ite1 ?_
  | with_reducible refine RD.ite0 ?_
  | with_reducible refine RD.ite1n ?_
  | with_reducible refine RD.ite0n ?_
  | with_reducible refine RD.seq ?_
  | with_reducible refine RD.asg ?_
  | with_reducible refine RD.name ?_
  | with_reducible refine RD.ret ?_
  | with_reducible refine RD.drop ?_
  | with_reducible refine RD.next ?_
  | with_reducible refine RD.ifs ?_
  | with_reducible refine RD.par ?_
  | with_reducible refine RD.par2 ?_
  | with_reducible refine RD.sub ?_
  | with_reducible refine RD.gcons ?_
  | with_reducible refine RD.gnil ?_
  | with_reducible refine RD.bm ?_
  | ((with_reducible refine' RD.bmL ?rdH ?rdK); (case rdH => walk_at "sq"))
  | ((with_reducible refine' RD.newZ ?rdH ?rdK); (case rdH => exact RD.sz _); intro $(Lean.mkIdent `p'):ident $(Lean.mkIdent `H'):ident $(Lean.mkIdent `hp):ident $(Lean.mkIdent `hs):ident $(Lean.mkIdent `hv):ident; (try have $(Lean.mkIdent `hn):ident := hand_ne $(Lean.mkIdent `hp):ident (by walk_at "hk")))
  | with_reducible refine RD.fors ?_
  | with_reducible refine RD.lc ?_
  | with_reducible refine RD.yes ?_
  | with_reducible refine RD.ilist ?_
  | ((with_reducible refine' RD.ilistV ?rdH ?rdK); (case rdH => walk_at "sq"))
  | with_reducible refine RD.itup ?_
  | ((with_reducible refine' RD.itupV ?rdH ?rdK); (case rdH => walk_at "st"))
  | with_reducible refine RD.irng1 ?_
  | with_reducible refine RD.irng2 ?_
  | ((with_reducible refine' RD.irng2V ?rdA ?rdK); (case rdA => first | decide | omega))
  | with_reducible refine RD.ienum ?_
  | ((with_reducible refine' RD.ienumV ?rdH ?rdK); (case rdH => walk_at "sq"))
  | with_reducible refine RD.izip ?_
  | ((with_reducible refine' RD.izipV ?rdH ?rdE ?rdK); (case rdH => walk_at "sq"); (case rdE => walk_at "sq"))
  | with_reducible refine SPD.izipA ?_
  | with_reducible refine RD.istr ?_
  | with_reducible refine RD.istrV ?_
  | ((with_reducible refine' RD.slL ?rdH ?rdK); (case rdH => walk_at "sq"); intro $(Lean.mkIdent `p'):ident $(Lean.mkIdent `H'):ident $(Lean.mkIdent `hp):ident $(Lean.mkIdent `hs):ident $(Lean.mkIdent `hv):ident; (try have $(Lean.mkIdent `hn):ident := hand_ne $(Lean.mkIdent `hp):ident (by walk_at "hk")))
  | ((with_reducible refine' RD.cat ?rdH ?rdE ?rdZ ?rdK); (case rdH => walk_at "hp"); (case rdE => walk_at "hp"); (case rdZ => exact RD.sz _); intro $(Lean.mkIdent `p'):ident $(Lean.mkIdent `H'):ident $(Lean.mkIdent `hp):ident $(Lean.mkIdent `hs):ident $(Lean.mkIdent `hv):ident; (try have $(Lean.mkIdent `hn):ident := hand_ne $(Lean.mkIdent `hp):ident (by walk_at "hk")))
  | ((with_reducible refine' RD.gtup ?rdH ?rdE ?rdK); (case rdH => walk_at "st"); (case rdE => rfl))
  | ((with_reducible refine' RD.app ?rdH ?rdZ ?rdK); (case rdH => walk_at "hp"); (case rdZ => first | assumption | (apply RD.szl; omega)); intro $(Lean.mkIdent `H'):ident $(Lean.mkIdent `hk):ident $(Lean.mkIdent `hv):ident)
  | ((with_reducible refine' RD.all1 ?rdH ?rdK); (case rdH => walk_at "sq"))
  | ((with_reducible refine' RD.any1 ?rdH ?rdK); (case rdH => walk_at "sq"))
  | ((with_reducible refine' SPD.dnew ?rdK); intro $(Lean.mkIdent `p'):ident $(Lean.mkIdent `H'):ident $(Lean.mkIdent `hp):ident $(Lean.mkIdent `hs):ident $(Lean.mkIdent `hv):ident; (try have $(Lean.mkIdent `hn):ident := hand_ne $(Lean.mkIdent `hp):ident (by walk_at "hk")))
  | ((with_reducible refine' SPD.disp1 ?rdK); intro $(Lean.mkIdent `p'):ident $(Lean.mkIdent `H'):ident $(Lean.mkIdent `hp):ident $(Lean.mkIdent `hs):ident $(Lean.mkIdent `hv):ident; (try have $(Lean.mkIdent `hn):ident := hand_ne $(Lean.mkIdent `hp):ident (by walk_at "hk")))
  | ((with_reducible refine' SPD.isSeq ?rdH ?rdE ?rdK); (case rdH => walk_at "hp"); (case rdE => walk_at "kd"))
  | ((with_reducible refine' SPD.isTup ?rdE ?rdK); (case rdE => walk_at "kd"))
  | ((with_reducible refine' SPD.isLst ?rdE ?rdK); (case rdE => walk_at "kd"))
  | ((with_reducible refine' SPD.isBool ?rdE ?rdK); (case rdE => walk_at "kd"))
  | ((with_reducible refine' SPD.isStr ?rdE ?rdK); (case rdE => walk_at "kd"))
  | ((with_reducible refine' SPD.isInt ?rdE ?rdK); (case rdE => walk_at "kd"))
  | dsimp only)
local macro_rules | `(tactic| walk_at "rds") => `(tactic| repeat walk_at "rd")
local macro_rules | `(tactic| walk_at "sm") => `(tactic| first | assumption | exact Same.refl _ | exact RD.sm_tr (by assumption) (by walk_at "sm") | fail "no")
local macro_rules | `(tactic| walk_at "kb") => `(tactic| first | assumption | exact RD.KB.refl | exact RD.kb_tr (by assumption) (by walk_at "kb") | exact RD.kb_trs (by assumption) (by walk_at "kb") | fail "no")
local macro_rules | `(tactic| walk_at "fr") => `(tactic| first | assumption | exact RD.fr_of (by assumption) (by walk_at "sm") | fail "no")
local macro_rules | `(tactic| walk_at "hk") => `(tactic| first | assumption | exact hand_same (by assumption) (by walk_at "hk") | exact hand_kb (by assumption) (by walk_at "fr") (by walk_at "hk") | fail "no")
local macro_rules | `(tactic| walk_at "na") => `(tactic| first | assumption | exact hand_ne (by assumption) (by walk_at "hk") | fail "no")
local macro_rules | `(tactic| walk_at "dqa") => `(tactic| first | exact SPD.DqA.nil | exact SPD.DqA.cons (by walk_at "dq") (by walk_at "dqa") | exact SPD.DqA.app (by walk_at "dqa") (by walk_at "dqa") | fail "no")
local macro_rules | `(tactic| walk_at "dq") => `(tactic| first | assumption | exact SPD.Dq.leaf rfl | exact SPD.dq_kb (by assumption) (by walk_at "kb") | exact SPD.dqTup (by walk_at "hp") (by walk_at "na") (by walk_at "dqa") | exact SPD.dqLst (by walk_at "hp") (by walk_at "na") (by walk_at "dqa") | exact SPD.dqNil (by walk_at "hp") (by walk_at "na") (by first | decide | simp) (by first | decide | simp) | fail "no")

local macro_rules | `(tactic| walk_at "rd") => `(tactic| first
  | with_reducible refine RB.chain ?_
  | with_reducible refine RB.m1 ?_
  | with_reducible refine RB.strE ?_
  | with_reducible refine RB.fld ?_
  | with_reducible refine RB.setF ?_
  | with_reducible refine RB.ss ?_
  | with_reducible refine RB.rev ?_
  | with_reducible refine RB.make ?_
  | with_reducible refine RB.makeS ?_
  | with_reducible refine RB.mkO ?_
  | with_reducible refine NR.ienumT ?_
  | with_reducible refine RB.inS ?_
  | with_reducible refine RB.bmS ?_
  | with_reducible refine RB.callS ?_
  | with_reducible refine RB.sw3 ?_
  | with_reducible refine RB.par3 ?_
  | with_reducible refine RB.par3V ?_
  | ((with_reducible refine' RB.slS ?rdH ?rdK); (case rdH => walk_at "sz"))
  | with_reducible refine RB.xf ?_
  | ((with_reducible refine' RB.xfV ?rdH ?rdE ?rdK); (case rdH => walk_at "hp"); (case rdE => rfl))
  | ((with_reducible refine' NR.ienumTV ?rdH ?rdK); (case rdH => walk_at "st"))
  | ((with_reducible refine' RB.lenL ?rdH ?rdK); (case rdH => walk_at "sq"))
  | ((with_reducible refine' RB.lenT ?rdH ?rdK); (case rdH => walk_at "st"))
  | ((with_reducible refine' RB.lenS ?rdH ?rdK); (case rdH => walk_at "sz"))
  | ((with_reducible refine' RD.lenS ?rdH ?rdK); (case rdH => walk_at "sz"))
  | ((with_reducible refine' RB.slT ?rdH ?rdK); (case rdH => walk_at "hp"); intro $(Lean.mkIdent `p'):ident $(Lean.mkIdent `H'):ident $(Lean.mkIdent `hs):ident $(Lean.mkIdent `hv):ident $(Lean.mkIdent `hp):ident; (try have $(Lean.mkIdent `hn):ident := two_ne $(Lean.mkIdent `hp):ident (by walk_at "na") (by walk_at "hk")))
  | ((with_reducible refine' RB.revV ?rdH ?rdK); (case rdH => walk_at "st"); intro $(Lean.mkIdent `p'):ident $(Lean.mkIdent `H'):ident $(Lean.mkIdent `hp):ident $(Lean.mkIdent `hs):ident $(Lean.mkIdent `hv):ident; (try have $(Lean.mkIdent `hn):ident := hand_ne $(Lean.mkIdent `hp):ident (by walk_at "hk")))
  | ((with_reducible refine' RB.listS ?rdH ?rdK); (case rdH => walk_at "sz"); intro $(Lean.mkIdent `p'):ident $(Lean.mkIdent `H'):ident $(Lean.mkIdent `hp):ident $(Lean.mkIdent `hs):ident $(Lean.mkIdent `hv):ident; (try have $(Lean.mkIdent `hn):ident := hand_ne $(Lean.mkIdent `hp):ident (by walk_at "hk")))
  | ((with_reducible refine' RB.listO ?rdH ?rdK); (case rdH => first | exact Or.inl (by walk_at "sq") | exact Or.inr (by walk_at "st")); intro $(Lean.mkIdent `p'):ident $(Lean.mkIdent `H'):ident $(Lean.mkIdent `hp):ident $(Lean.mkIdent `hs):ident $(Lean.mkIdent `hv):ident; (try have $(Lean.mkIdent `hn):ident := hand_ne $(Lean.mkIdent `hp):ident (by walk_at "hk")))
  | ((with_reducible refine' RB.tupL ?rdH ?rdK); (case rdH => walk_at "sq"); intro $(Lean.mkIdent `p'):ident $(Lean.mkIdent `H'):ident $(Lean.mkIdent `hp):ident $(Lean.mkIdent `hs):ident $(Lean.mkIdent `hv):ident; (try have $(Lean.mkIdent `hn):ident := hand_ne $(Lean.mkIdent `hp):ident (by walk_at "hk")))
  | ((with_reducible refine' RB.catT ?rdH ?rdE ?rdZ ?rdK); (case rdH => walk_at "hp"); (case rdE => walk_at "hp"); (case rdZ => exact RB.LN.sum (by walk_at "ln") (by walk_at "ln") rfl); intro $(Lean.mkIdent `p'):ident $(Lean.mkIdent `H'):ident $(Lean.mkIdent `hs):ident $(Lean.mkIdent `hv):ident $(Lean.mkIdent `hp):ident; (try have $(Lean.mkIdent `hn):ident := three_ne $(Lean.mkIdent `hp):ident (by walk_at "na") (by walk_at "na") (by walk_at "hk")))
  | fail "no")
local macro_rules | `(tactic| walk_at "ln") => `(tactic| first | with_reducible assumption | exact RB.LN.cut (by walk_at "ln") | exact RB.LN.app (by walk_at "ln") (by walk_at "ln") | exact RB.LN.rev (by walk_at "ln") | exact RB.LN.rep (by walk_at "ln") | exact RB.LN.lit rfl | fail "no")
local macro_rules | `(tactic| walk_at "sz") => `(tactic| first | assumption | exact RD.sz _ | fail "no")

/-! ### machines as data -/
inductive RL (H : Hp) : List V → List (List Nat) → Prop where
  | nil : RL H [] []
  | cons {a : Addr} {ns : List Nat} {vs : List V} {rs : List (List Nat)} : H a = some (.tup (ns.map fun n => V.int (n : Nat))) → RL H vs rs → RL H (.ref a :: vs) (ns :: rs)
theorem RL.same {H H' : Hp} {vs : List V} {rs : List (List Nat)} (s : Same H H') (h : RL H vs rs) : RL H' vs rs := by
  induction h with
  | nil => exact .nil
  | cons a _ ih => exact .cons (s _ _ a) ih
theorem RL.len {H : Hp} {vs : List V} {rs : List (List Nat)} (h : RL H vs rs) : vs.length = rs.length := by
  induction h with
  | nil => rfl
  | cons _ _ ih => rw [List.length_cons, List.length_cons, ih]
theorem RL.get {H : Hp} {vs : List V} {rs : List (List Nat)} (h : RL H vs rs) : ∀ (i : Nat) (ns : List Nat), rs[i]? = some ns → ∃ a, vs[i]? = some (.ref a) ∧ H a = some (.tup (ns.map fun n => V.int (n : Nat))) := by
  induction h with
  | nil => exact fun i ns e => by cases e
  | cons a _ ih =>
    intro i ns e
    cases i with
    | zero => cases e; exact ⟨_, rfl, a⟩
    | succ i => exact ih i ns e
def PartsAt (H : Hp) (r l : V) (rws : List (List Nat)) (ls : List Bool) : Prop := ∃ (ra la : Addr) (rs : List V), r = .ref ra ∧ l = .ref la ∧ H ra = some (.tup rs) ∧ RL H rs rws ∧ H la = some (.tup (ls.map V.bl))
theorem PartsAt.same {H H' : Hp} {r l : V} {rws : List (List Nat)} {ls : List Bool} (s : Same H H') (h : PartsAt H r l rws ls) : PartsAt H' r l rws ls := by
  obtain ⟨ra, la, rs, e1, e2, h1, h2, h3⟩ := h
  exact ⟨ra, la, rs, e1, e2, s _ _ h1, h2.same s, s _ _ h3⟩
structure MG (z : Str) (rws : List (List Nat)) (ls : List Bool) : Prop where
  signs : signsB z = true
  some : 1 ≤ rws.length
  few : rws.length ≤ 300
  wide : ∀ r, r ∈ rws → r.length = z.cps.size
  low : ∀ r, r ∈ rws → ∀ n, n ∈ r → n < rws.length
  lets : ls.length = rws.length
theorem nats_of : ∀ (xs : List V) (many : Nat), xs.all (fun y => withV y 0 ((many : Int) - 1)) = true → ∃ ns : List Nat, xs = ns.map (fun n => V.int (n : Nat)) ∧ ∀ n, n ∈ ns → n < many
  | [], _, _ => ⟨[], rfl, fun n h => nomatch h⟩
  | x :: xs, many, h => by
    rw [List.all_cons, Bool.and_eq_true] at h
    obtain ⟨i, rfl, h0, h1⟩ := with_int (show withV x 0 ((many : Int) - 1) = true from h.1)
    obtain ⟨ns, rfl, hn⟩ := nats_of xs many h.2
    refine ⟨i.toNat :: ns, by rw [List.map_cons, Int.toNat_of_nonneg h0], fun n hn' => ?_⟩
    rcases List.mem_cons.mp hn' with e | e
    · omega
    · exact hn n e
theorem nats_all (ns : List Nat) (many : Nat) (h : ∀ n, n ∈ ns → n < many) : (ns.map fun n => V.int (n : Nat)).all (fun y => withV y 0 ((many : Int) - 1)) = true := by
  rw [List.all_map, List.all_eq_true]
  intro n hn
  have := h n hn
  show withV (.int (n : Nat)) 0 ((many : Int) - 1) = true
  exact with_in (by omega) (by omega)
theorem rows_of (H : Hp) (wide many : Nat) : ∀ (xs : List V) (i : Nat), rowsDue H wide many i xs = .non → ∃ rws, RL H xs rws ∧ (∀ r, r ∈ rws → r.length = wide) ∧ (∀ r, r ∈ rws → ∀ n, n ∈ r → n < many)
  | [], _, _ => ⟨[], .nil, fun r h => (nomatch h), fun r h => (nomatch h)⟩
  | v :: xs, i, h => by
    cases c : rowB H v wide many with
    | false => rw [rows_stop c] at h; cases h
    | true =>
      rw [rows_go c] at h
      obtain ⟨rws, h1, h2, h3⟩ := rows_of H wide many xs (i + 1) h
      cases v with
      | ref a =>
        unfold rowB at c
        simp only at c
        split at c
        · rename_i ys e
          rw [Bool.and_eq_true] at c
          obtain ⟨ns, rfl, hn⟩ := nats_of ys many c.2
          have hl := of_decide_eq_true c.1
          rw [List.length_map] at hl
          refine ⟨ns :: rws, .cons e h1, fun r hr => ?_, fun r hr => ?_⟩
          · rcases List.mem_cons.mp hr with e | e
            · rw [e]; exact hl
            · exact h2 r e
          · rcases List.mem_cons.mp hr with e | e
            · rw [e]; exact hn
            · exact h3 r e
        · cases c
      | _ => cases c
theorem rows_all (H : Hp) (wide many : Nat) {xs : List V} {rws : List (List Nat)} (h : RL H xs rws) : (∀ r, r ∈ rws → r.length = wide) → (∀ r, r ∈ rws → ∀ n, n ∈ r → n < many) → ∀ i, rowsDue H wide many i xs = .non := by
  induction h with
  | nil => exact fun _ _ _ => rfl
  | cons a _ ih =>
    intro h1 h2 i
    rw [rows_go]
    · exact ih (fun r hr => h1 r (List.mem_cons_of_mem _ hr)) (fun r hr => h2 r (List.mem_cons_of_mem _ hr)) _
    · rw [row_at a, nats_all _ _ (h2 _ List.mem_cons_self), decide_eq_true (by rw [List.length_map]; exact h1 _ List.mem_cons_self)]
      rfl
theorem bools_of : ∀ xs : List V, xs.all blV = true → ∃ bs : List Bool, xs = bs.map V.bl
  | [], _ => ⟨[], rfl⟩
  | x :: xs, h => by
    rw [List.all_cons, Bool.and_eq_true] at h
    obtain ⟨bs, rfl⟩ := bools_of xs h.2
    cases x with
    | bl b => exact ⟨b :: bs, rfl⟩
    | _ => cases h.1
theorem bools_all (bs : List Bool) : (bs.map V.bl).all blV = true := by
  rw [List.all_map, List.all_eq_true]
  exact fun _ _ => rfl
theorem mdue_good {H : Hp} {s r l : V} (h : mdueV H s r l = .non) : ∃ z rws ls, s = .str z ∧ PartsAt H r l rws ls ∧ MG z rws ls := by
  cases c : signsV s with
  | false => rw [mdue_signs c] at h; cases h
  | true =>
    cases s with
    | str z =>
      cases r with
      | ref ra =>
        cases e : H ra with
        | none => unfold mdueV at h; rw [if_pos c] at h; simp only [e] at h; cases h
        | some o =>
          cases o with
          | tup rows =>
            by_cases n : 1 ≤ rows.length ∧ rows.length ≤ 300
            · rcases rows_kinds H (wideV (.str z)) rows.length rows 0 with er | ⟨i, er⟩
              · rw [mdue_lets c e n er] at h
                obtain ⟨rws, h1, h2, h3⟩ := rows_of _ _ _ _ _ er
                cases cl : letsB H l rows.length with
                | false => rw [cl] at h; cases h
                | true =>
                  cases l with
                  | ref la =>
                    unfold letsB at cl
                    simp only at cl
                    split at cl
                    · rename_i ys el
                      rw [Bool.and_eq_true] at cl
                      obtain ⟨bs, rfl⟩ := bools_of ys cl.2
                      have hl := of_decide_eq_true cl.1
                      rw [List.length_map] at hl
                      have e1 := h1.len
                      exact ⟨z, rws, bs, rfl, ⟨ra, la, rows, rfl, rfl, e, h1, el⟩, c, by omega, by omega, h2, by rw [← e1]; exact h3, by omega⟩
                    · cases cl
                  | _ => cases cl
              · rw [mdue_rows c e n er] at h; cases h
            · rw [mdue_len c e n] at h; cases h
          | _ => unfold mdueV at h; rw [if_pos c] at h; simp only [e] at h; cases h
      | _ => unfold mdueV at h; rw [if_pos c] at h; cases h
    | _ => cases c
theorem good_mdue {H : Hp} {z : Str} {r l : V} {rws : List (List Nat)} {ls : List Bool} (p : PartsAt H r l rws ls) (g : MG z rws ls) : mdueV H (.str z) r l = .non := by
  obtain ⟨ra, la, rs, rfl, rfl, h1, h2, h3⟩ := p
  have e := h2.len
  rw [mdue_lets (show signsV (.str z) = true from g.signs) h1 (by rw [e]; exact ⟨g.some, g.few⟩) (rows_all H _ _ h2 g.wide (by rw [e]; exact g.low) 0)]
  rw [lets_at h3, bools_all, decide_eq_true (by rw [List.length_map, g.lets, e])]
  rfl
def rowD (ns : List Nat) : PyData := .tuple (ns.map fun n => .int (n : Nat))
def mD (z : Str) (rws : List (List Nat)) (ls : List Bool) : PyData := .tuple [.str z, .tuple (rws.map rowD), .tuple (ls.map PyData.bool)]
theorem dp_nats {K : PySem.W.Frag} {H : Hp} : ∀ ns : List Nat, DpAll K H (ns.map fun n => V.int (n : Nat)) (ns.map fun n => .int (n : Nat))
  | [] => .nil
  | _ :: ns => .cons (.int _) (dp_nats ns)
theorem dp_bools {K : PySem.W.Frag} {H : Hp} : ∀ bs : List Bool, DpAll K H (bs.map V.bl) (bs.map PyData.bool)
  | [] => .nil
  | _ :: bs => .cons (.bl _) (dp_bools bs)
theorem RL.dp {K : PySem.W.Frag} {H : Hp} {vs : List V} {rs : List (List Nat)} (h : RL H vs rs) : DpAll K H vs (rs.map rowD) := by
  induction h with
  | nil => exact .nil
  | cons a _ ih => exact .cons (.tup (.inl (.inl a)) (dp_nats _)) ih
theorem mdp {K : PySem.W.Frag} {H : Hp} {t : Addr} {z : Str} {r l : V} {rws : List (List Nat)} {ls : List Bool} (ht : H t = some (.tup [.str z, r, l])) (p : PartsAt H r l rws ls) : Dp K H (.ref t) (mD z rws ls) := by
  obtain ⟨ra, la, rs, rfl, rfl, h1, h2, h3⟩ := p
  exact .tup (.inl (.inl ht)) (.cons (.str z) (.cons (.tup (.inl (.inl h1)) h2.dp) (.cons (.tup (.inl (.inl h3)) (dp_bools ls)) .nil)))
theorem lay_nats : ∀ ns : List Nat, PyData.canLayAll0 (ns.map fun n => .int (n : Nat)) = true ∧ PyData.depthAll (ns.map fun n => .int (n : Nat)) = 0
  | [] => ⟨rfl, rfl⟩
  | n :: ns => by
    obtain ⟨h1, h2⟩ := lay_nats ns
    refine ⟨?_, ?_⟩
    · rw [List.map_cons, PyData.canLayAll0, h1]; rfl
    · rw [List.map_cons, PyData.depthAll, h2]; rfl
theorem lay_bools : ∀ bs : List Bool, PyData.canLayAll0 (bs.map PyData.bool) = true ∧ PyData.depthAll (bs.map PyData.bool) = 0
  | [] => ⟨rfl, rfl⟩
  | b :: bs => by
    obtain ⟨h1, h2⟩ := lay_bools bs
    refine ⟨?_, ?_⟩
    · rw [List.map_cons, PyData.canLayAll0, h1]; rfl
    · rw [List.map_cons, PyData.depthAll, h2]; rfl
theorem lay_rows : ∀ rs : List (List Nat), PyData.canLayAll0 (rs.map rowD) = true ∧ PyData.depthAll (rs.map rowD) ≤ 1
  | [] => ⟨rfl, Nat.zero_le _⟩
  | ns :: rs => by
    obtain ⟨h1, h2⟩ := lay_rows rs
    obtain ⟨h3, h4⟩ := lay_nats ns
    refine ⟨?_, ?_⟩
    · rw [List.map_cons, PyData.canLayAll0, h1]
      unfold rowD
      rw [PyData.canLay0, h3]; rfl
    · rw [List.map_cons, PyData.depthAll]
      unfold rowD
      rw [PyData.depth, h4]
      exact Nat.max_le.mpr ⟨Nat.le_refl _, h2⟩
theorem log_signs {z : Str} (h : signsB z = true) : logB z = true ∧ 1 ≤ z.cps.size ∧ z.cps.size ≤ 8 := by
  unfold signsB at h
  rw [Bool.and_eq_true, Bool.and_eq_true, Bool.and_eq_true] at h
  exact ⟨h.2.1, of_decide_eq_true h.1.1, of_decide_eq_true h.1.2⟩
theorem MG.shaped {z : Str} {rws : List (List Nat)} {ls : List Bool} (g : MG z rws ls) : SeqAt.shaped (mD z rws ls) = true := by
  obtain ⟨h1, h2⟩ := lay_rows rws
  obtain ⟨h3, h4⟩ := lay_bools ls
  unfold SeqAt.shaped mD
  rw [PyData.canLay0, PyData.canLayAll0, PyData.canLayAll0, PyData.canLayAll0, PyData.canLayAll0, PyData.canLay0, PyData.canLay0, PyData.canLay0, h1, h3, log_ok (log_signs g.signs).1]
  rw [PyData.depth, PyData.depthAll, PyData.depthAll, PyData.depthAll, PyData.depthAll, PyData.depth, PyData.depth, PyData.depth, h4]
  simp only [Bool.and_true, Bool.true_and, decide_eq_true_iff]
  omega
mutual
theorem eqv_self : ∀ d : PyData, d.canLay0 = true → PyData.eqv d d = true
  | .none, _ => by simp [PyData.eqv]
  | .bool b, _ => by simp [PyData.eqv]
  | .int i, _ => by simp [PyData.eqv]
  | .str x, _ => by simp [PyData.eqv]
  | .list xs, h => by rw [PyData.eqv]; exact eqv_selfs xs h
  | .tuple xs, h => by rw [PyData.eqv]; exact eqv_selfs xs h
  | .dict _, h => by cases h
theorem eqv_selfs : ∀ ds : List PyData, PyData.canLayAll0 ds = true → PyData.eqvAll ds ds = true
  | [], _ => by simp [PyData.eqvAll]
  | d :: ds, h => by
    rw [PyData.canLayAll0, Bool.and_eq_true] at h
    rw [PyData.eqvAll, eqv_self d h.1, eqv_selfs ds h.2]
    rfl
end
theorem MG.self {z : Str} {rws : List (List Nat)} {ls : List Bool} (g : MG z rws ls) : PyData.eqv (mD z rws ls) (mD z rws ls) = true := eqv_self _ (SeqAt.canLay_of_shaped g.shaped)
def MachAt (H : Hp) (C b : Addr) (s r l : V) : Prop := ∃ dx, H b = some (.ins C dx [("signs", s), ("rows", r), ("lets", l)])
theorem MachAt.same {H H' : Hp} {C b : Addr} {s r l : V} (sm : Same H H') (h : MachAt H C b s r l) : MachAt H' C b s r l := h.imp fun _ h => sm _ _ h
/-- the standing behind a sign, behind signs -/
def stepN (z : Str) (rws : List (List Nat)) (st c : Nat) : Nat := (rws.getD st []).getD (SPE.placeOf z c) 0
def walkN (z : Str) (rws : List (List Nat)) (st : Nat) (cs : List Nat) : Nat := cs.foldl (stepN z rws) st
theorem getD_of {α : Type} {l : List α} {i : Nat} {a d : α} (h : l[i]? = some a) : l.getD i d = a := by
  rw [List.getD_eq_getElem?_getD, h]
  rfl
theorem step_low {z : Str} {rws : List (List Nat)} {ls : List Bool} (g : MG z rws ls) {st c : Nat} (hs : st < rws.length) (hc : c ∈ z.cps.toList) : ∃ ns n, rws[st]? = some ns ∧ ns[SPE.placeOf z c]? = some n ∧ stepN z rws st c = n ∧ n < rws.length := by
  have h1 : rws[st]? = some rws[st] := List.getElem?_eq_getElem hs
  have hm := List.mem_of_getElem? h1
  have h2 := (SPE.place_at hc).2
  rw [← g.wide _ hm] at h2
  have h3 : (rws[st])[SPE.placeOf z c]? = some (rws[st])[SPE.placeOf z c] := List.getElem?_eq_getElem h2
  refine ⟨_, _, h1, h3, ?_, g.low _ hm _ (List.mem_of_getElem? h3)⟩
  unfold stepN
  rw [getD_of h1, getD_of h3]
theorem walk_low {z : Str} {rws : List (List Nat)} {ls : List Bool} (g : MG z rws ls) : ∀ (cs : List Nat) (st : Nat), st < rws.length → (∀ c, c ∈ cs → c ∈ z.cps.toList) → walkN z rws st cs < rws.length
  | [], _, h, _ => h
  | c :: cs, st, h, hc => by
    obtain ⟨_, n, _, _, e, hn⟩ := step_low g h (hc c List.mem_cons_self)
    show walkN z rws (stepN z rws st c) cs < _
    rw [e]
    exact walk_low g cs n hn fun d hd => hc d (List.mem_cons_of_mem _ hd)
theorem walk_succ {z : Str} {rws : List (List Nat)} {st : Nat} {cs : List Nat} {i c : Nat} (h : cs[i]? = some c) : walkN z rws st (cs.take (i + 1)) = stepN z rws (walkN z rws st (cs.take i)) c := by
  unfold walkN
  rw [List.take_add_one, h, List.foldl_append]
  rfl
def ofB (z : Str) : V → Bool
  | .str t => t.cps.toList.all fun c => decide (c ∈ z.cps.toList)
  | _ => false
def spEqM (K : PySem.W.Frag) (C : Addr) : Sp := fun vs H Q _ => ∃ (b : Addr) (z : Str) (r l : V) (rws : List (List Nat)) (ls : List Bool) (y : V), vs = [.ref b, y] ∧ MachAt H C b (.str z) r l ∧ PartsAt H r l rws ls ∧ MG z rws ls ∧
  ((∃ (b2 : Addr) (z2 : Str) (r2 l2 : V) (rws2 : List (List Nat)) (ls2 : List Bool), y = .ref b2 ∧ MachAt H C b2 (.str z2) r2 l2 ∧ PartsAt H r2 l2 rws2 ls2 ∧ MG z2 rws2 ls2 ∧ ∀ H', Same H H' → Q (.bl (PyData.eqv (mD z rws ls) (mD z2 rws2 ls2))) H') ∨
   (∃ t, TyX K H y t ∧ PySem.W.kitOne K t (.ref C) = some false ∧ ∀ H', Same H H' → Q (.bl false) H'))
def spStep (C : Addr) : Sp := fun vs H Q _ => ∃ (b : Addr) (z : Str) (r l : V) (rws : List (List Nat)) (ls : List Bool) (st c : Nat), vs = [.ref b, .int (st : Nat), .str ⟨#[c]⟩] ∧ MachAt H C b (.str z) r l ∧ PartsAt H r l rws ls ∧ MG z rws ls ∧ st < rws.length ∧ c ∈ z.cps.toList ∧ Q (.int (stepN z rws st c : Nat)) H
def spBehind (C : Addr) : Sp := fun vs H Q _ => ∃ (b : Addr) (z : Str) (r l : V) (rws : List (List Nat)) (ls : List Bool) (st : Nat) (t : Str), vs = [.ref b, .int (st : Nat), .str t] ∧ MachAt H C b (.str z) r l ∧ PartsAt H r l rws ls ∧ MG z rws ls ∧ st < rws.length ∧ ofB z (.str t) = true ∧ t.cps.size ≤ 100000 ∧ ∀ H', Same H H' → Q (.int (walkN z rws st t.cps.toList : Nat)) H'
def spOfSigns (C : Addr) : Sp := fun vs H Q _ => ∃ (b x : Addr) (n : Nat) (z : Str) (r l v : V), vs = [.ref b, v] ∧ MachAt H C b (.str z) r l ∧ SPD.Dq x H n v ∧ ∀ H', Same H H' → Q (.bl (ofB z v)) H'
def spReached (C B : Addr) : Sp := fun vs H Q E => ∃ (b x : Addr) (n : Nat) (z : Str) (r l : V) (rws : List (List Nat)) (ls : List Bool) (v : V), vs = [.ref b, v] ∧ MachAt H C b (.str z) r l ∧ PartsAt H r l rws ls ∧ MG z rws ls ∧ SPD.Dq x H n v ∧
  (∀ t : Str, v = .str t → ofB z v = true → ∀ H', Same H H' → Q (.int (walkN z rws 0 t.cps.toList : Nat)) H') ∧ (ofB z v = false → ∀ H', Same H H' → E (.ref B) none H')
def spLetsBy (C : Addr) : Sp := fun vs H Q _ => ∃ (b x : Addr) (n : Nat) (z : Str) (r l : V) (rws : List (List Nat)) (ls : List Bool) (v : V), vs = [.ref b, v] ∧ MachAt H C b (.str z) r l ∧ PartsAt H r l rws ls ∧ MG z rws ls ∧ SPD.Dq x H n v ∧
  (∀ t : Str, v = .str t → ofB z v = true → ∀ H', Same H H' → Q (.bl (ls.getD (walkN z rws 0 t.cps.toList) false)) H') ∧ (ofB z v = false → ∀ H', Same H H' → Q (.bl false) H')
section
variable {P : Program} {w : World} {K : PySem.W.Frag} {mg : Str → Option Value} {base : Heap}
theorem mach_ty (T : Txt P K mg) {H : Hp} {b : Addr} {s r l : V} (h : MachAt H T.C_Machine b s r l) : TyX K H (.ref b) (.ref T.C_Machine) := by
  obtain ⟨dx, h⟩ := h
  exact .base (.ins h T.cl_Machine T.ty_Machine.1 T.ty_Machine.2.1 T.ty_Machine.2.2.1 T.ty_Machine.2.2.2)
theorem kd_mach (T : Txt P K mg) (k : SPD.Kd) : PySem.W.kitOne K (.type k.ty) (.ref T.C_Machine) = some false := by
  have h := T.kc_Machine
  rw [List.all_eq_true] at h
  have z := h k.ty (by cases k <;> decide)
  exact eq_of_beq z
theorem nf_mach (T : Txt P K mg) (k : SPD.Kd) : PySem.W.notFirst K T.C_Machine (.type k.ty) = true := by
  have h := T.nf_Machine
  rw [List.all_eq_true] at h
  exact h k.ty (by cases k <;> decide)
theorem ok_Machine_init (T : Txt P K mg) : FnOk P w K mg base (L2.CX P w) 5 T.a_Machine_init T.fd_Machine_init ["self", "signs", "rows", "lets"] (spMachine T.C_Machine T.C_BadMachine) := by
  have nd := sc_Machine_init.nd
  have G_are_signs : FnOk P w K mg base CX0 4 T.a_are_signs T.fd_are_signs ["thing"] spAreSigns := (ok_are_signs T).mono (by decide)
  have G_is_row : FnOk P w K mg base CX0 4 T.a_is_row T.fd_is_row ["thing", "wide", "many"] spIsRow := (ok_is_row T).mono (by decide)
  have G_BadMachine_init : FnOk P w K mg base CX0 3 T.a_BadMachine_init T.fd_BadMachine_init _ (SPX.spSi T.C_BadMachine _) := SPX.si_ok T.S_BadMachine_init
  refine T.F_Machine_init.okX sc_Machine_init (fun vs H Q E h => ?_) (fun cdv A outer s H vs Q E hr h => ?_)
  · obtain ⟨x, b, dx, n, s, r, l, rfl, _⟩ := h
    rfl
  · obtain ⟨x, b, dx, n, s, r, l, rfl, hb, hds, hdr, hdl, q, qe⟩ := h
    obtain ⟨t_MOST_STANDINGS, g_MOST_STANDINGS⟩ := T.g_MOST_STANDINGS
    refine ⟨_, (pss_cons (ps_if (pt_not (pt_val (pe_call G_are_signs hr (by rfl) T.g_are_signs T.F_are_signs.kp T.b_are_signs .nil pass0 (pa_cons (pv 1) pa_nil))))
    (pss_one (ps_raise rfl (takes_of rfl rfl rfl rfl) (pmk_oex T.xc_BadMachine T.ii_BadMachine T.ti_BadMachine G_BadMachine_init hr T.b_BadMachine_init .nil pass0 (by rfl) T.g_BadMachine (pa_cons pe_str pa_nil))))
    pss_nil)
  (pss_cons (ps_if (PW.pt (pw_or (pt_not (pt_val (pe_callB call_isi (by rfl) T.m_isinstance (by decide +kernel) (pa_cons (pv 2) (pa_cons (pe_bltn (v := .ty "tuple") (by rfl) T.m_tuple (by decide +kernel) rfl) pa_nil))))) (pw_or1 (pt_not (pt_chain op_le op_le pe_int (pe_callB call_len (by rfl) T.m_len PySem.boot_len (pa_cons (pv 2) pa_nil)) (pe_glob (v := .int 300) (by rfl) g_MOST_STANDINGS ⟨_, rfl⟩))))))
    (pss_one (ps_raise rfl (takes_of rfl rfl rfl rfl) (pmk_oex T.xc_BadMachine T.ii_BadMachine T.ti_BadMachine G_BadMachine_init hr T.b_BadMachine_init .nil pass0 (by rfl) T.g_BadMachine (pa_cons pe_str pa_nil))))
    pss_nil)
  (pss_cons (ps_for (passes_of rfl) rfl (NR.pi_enumT (by rfl) T.m_enumerate (pa_cons (pv 2) pa_nil)) (pg_tup rfl (pgs_cons (pg_name (i := 4) nd rfl (by first | exact Or.inl rfl | exact Or.inr rfl)) (pgs_cons (pg_name (i := 5) nd rfl (by first | exact Or.inl rfl | exact Or.inr rfl)) pgs_nil)))
    (pss_one (ps_if (pt_not (pt_val (pe_call G_is_row hr (by rfl) T.g_is_row T.F_is_row.kp T.b_is_row .nil pass0 (pa_cons (pv 5) (pa_cons (pe_callB call_len_str (by rfl) T.m_len PySem.boot_len (pa_cons (pv 1) pa_nil)) (pa_cons (pe_callB call_len (by rfl) T.m_len PySem.boot_len (pa_cons (pv 2) pa_nil)) pa_nil))))))
    (pss_one (ps_raise rfl (takes_of rfl rfl rfl rfl) (pmk_oex T.xc_BadMachine T.ii_BadMachine T.ti_BadMachine G_BadMachine_init hr T.b_BadMachine_init .nil pass0 (by rfl) T.g_BadMachine (pa_cons (pv 4) pa_nil))))
    pss_nil)))
  (pss_cons (ps_if (PW.pt (pw_or (pt_not (pt_val (pe_callB call_isi (by rfl) T.m_isinstance (by decide +kernel) (pa_cons (pv 3) (pa_cons (pe_bltn (v := .ty "tuple") (by rfl) T.m_tuple (by decide +kernel) rfl) pa_nil))))) (pw_or (pt_cmpR op_ne (pe_callB call_len_seq (by rfl) T.m_len PySem.boot_len (pa_cons (pv 3) pa_nil)) (pe_callB call_len (by rfl) T.m_len PySem.boot_len (pa_cons (pv 2) pa_nil)) (nomark _)) (pw_or1 (pt_not (pt_val (pe_callB (cr_all rfl) (by rfl) T.m_all (by decide +kernel) (pa_cons (pe_lc (own := [("one", 6)]) (g := (gName 6)) rfl nd (pi_tup (pv 3)) (blkOk_by (own := [("one", 6)]) (N := N_Machine_init) (sc := defScope s_Machine_init) (by decide +kernel)) (fun _ _ _ _ _ => (pg_name (i := 6) nd rfl (Or.inl rfl))) (fun _ _ _ _ _ => pts_nil) (fun _ _ _ _ _ => (pe_callB (r := rIsi K) call_isi (by rfl) T.m_isinstance (by decide +kernel) (pa_cons (pv 6) (pa_cons (pe_bltn (v := .ty "bool") (by rfl) T.m_bool (by decide +kernel) rfl) pa_nil))))) pa_nil))))))))
    (pss_one (ps_raise rfl (takes_of rfl rfl rfl rfl) (pmk_oex T.xc_BadMachine T.ii_BadMachine T.ti_BadMachine G_BadMachine_init hr T.b_BadMachine_init .nil pass0 (by rfl) T.g_BadMachine (pa_cons pe_str pa_nil))))
    pss_nil)
  (pss_cons (ps_fld (pv 0) (pv 1) rfl)
  (pss_cons (ps_fld (pv 0) (pv 2) rfl)
  (pss_one (ps_fld (pv 0) (pv 3) rfl)))))))), ?_⟩
    walk_at "rds"
    refine ⟨x, n, s, rfl, hds, fun H1 s1 => ?_⟩
    have bad : ∀ d, mdueV H s r l = d → d ≠ .non → ∀ H2, Same H H2 → ∀ dd H', H2 dd = none → Same H2 H' → H' dd = some (.xd [("part", d)]) → E (.ref T.C_BadMachine) (some dd) H' := fun d e n H2 s2 dd H' h1 h2 h3 => qe (by rw [e]; exact n) dd H' (s2.free h1) (s2.trans h2) (by rw [e]; exact h3)
    walk_at "rds"
    refine RD.ite_b (fun e => ?_) (fun e => ?_)
    · have e : signsV s = false := by simpa using e
      walk_at "rds"
      exact RB.mkOV fun d H' hd1 s3 hx => bad _ (mdue_signs e) (fun z => nomatch z) _ s1 d H' hd1 s3 hx
    · have hsg : signsV s = true := by simpa using e
      obtain ⟨z, rfl⟩ : ∃ z, s = .str z := by
        cases s with
        | str z => exact ⟨z, rfl⟩
        | _ => cases hsg
      obtain ⟨hlz, hz1, hz8⟩ := log_signs (show signsB z = true from hsg)
      have hzs : z.length ≤ sizeLine := small_len (by omega)
      obtain ⟨k, hk⟩ := hdr.kd (K := K)
      have hk1 := hk.same s1
      walk_at "rds"
      refine RD.ite_nd (fun ne => ?_) (fun e => ?_)
      · walk_at "rds"
        exact RB.mkOV fun d H' hd1 s3 hx => bad _ (mdue_kd hsg hk ne) (fun z => nomatch z) _ s1 d H' hd1 s3 hx
      · subst e
        cases hk with
        | @tup ra rows hra =>
          obtain ⟨hall, hlx⟩ := dq_items hdr hra
          have hra1 := s1 _ _ hra
          clear hk1
          walk_at "rds"
          refine RD.ite_d (fun h1 => ?_) (fun h1 => ?_)
          · walk_at "rds"
            refine RD.ite_nd (fun h2 => ?_) (fun h2 => ?_)
            · walk_at "rds"
              exact RB.mkOV fun d H' hd1 s3 hx => bad _ (mdue_len hsg hra (by omega)) (fun z => nomatch z) _ s1 d H' hd1 s3 hx
            · have hn : 1 ≤ rows.length ∧ rows.length ≤ 300 := by omega
              walk_at "rds"
              refine RD.forW (NR.w_enumT (xs := rows)) (fun i σ H' => ∃ (pre rest : List V) (x4 x5 x6 : Option V), σ = [some (.ref b), some (.str z), some (.ref ra), some l, x4, x5, x6] ∧ rows = pre ++ rest ∧ pre.length = i ∧ rowsDue H z.cps.size rows.length 0 rows = rowsDue H z.cps.size rows.length i rest ∧ Same H H')
                ⟨[], rows, _, _, _, rfl, rfl, rfl, rfl, s1⟩ (fun i σ H' _ ⟨_, _, _, _, _, _, _, _, _, s⟩ => by walk_at "st") (fun i y σ H2 H3 hi hp hy => ?_) (fun σ H2 hp => ?_)
              · obtain ⟨pre, rest, x4, x5, x6, rfl, he, hl, hde, s2⟩ := hp
                obtain ⟨T1, x1, y1, rfl, hT, s3, hv3, hx1, hy1⟩ := hy
                obtain rfl : V.int (i : Nat) = x1 := Option.some.inj hx1
                have hy1 : rows[i]? = some y1 := hy1
                have hrc : ∃ r, rest = y1 :: r := by
                  rw [he, List.getElem?_append_right (by omega), hl, Nat.sub_self] at hy1
                  cases rest with
                  | nil => cases hy1
                  | cons a r => exact ⟨r, by rw [Option.some.inj hy1]⟩
                obtain ⟨rr, rfl⟩ := hrc
                obtain ⟨m, hdy⟩ := hall y1 (List.mem_of_getElem? hy1)
                have s23 := s2.trans s3
                have hra3 := s23 _ _ hra
                clear hx1 hy1
                walk_at "rds"
                refine ⟨x, m, y1, z.cps.size, rows.length, rfl, hdy.same s23, fun H4 s4 => ?_⟩
                rw [row_same hdy s23]
                have s34 := s23.trans s4
                walk_at "rds"
                refine RD.ite_b (fun e => ?_) (fun e => ?_)
                · have e : rowB H y1 z.cps.size rows.length = false := by simpa using e
                  walk_at "rds"
                  exact RB.mkOV fun d H' hd1 s5 hx => bad _ (mdue_rows hsg hra hn (hde.trans (rows_stop e))) (fun z => nomatch z) _ s34 d H' hd1 s5 hx
                · have e : rowB H y1 z.cps.size rows.length = true := by simpa using e
                  walk_at "rds"
                  exact ⟨pre ++ [y1], rr, _, _, _, rfl, by rw [he, List.append_assoc]; rfl, by rw [List.length_append, hl]; rfl, hde.trans (rows_go e), s34⟩
              · obtain ⟨pre, rest, x4, x5, x6, rfl, he, hl, hde, s2⟩ := hp
                have hr0 : rest = [] := by
                  have z := congrArg List.length he
                  rw [List.length_append] at z
                  exact List.eq_nil_of_length_eq_zero (by omega)
                subst hr0
                have hde : rowsDue H (wideV (.str z)) rows.length 0 rows = .non := hde
                have hra2 := s2 _ _ hra
                have dl := mdue_lets (l := l) hsg hra hn hde
                obtain ⟨kl, hkl⟩ := hdl.kd (K := K)
                have hkl2 := hkl.same s2
                have nolet : letsB H l rows.length = false → mdueV H (.str z) (.ref ra) l = .str "lets" := fun e => by rw [dl, if_neg (by rw [e]; decide)]
                walk_at "rds"
                refine RD.ite_nd (fun ne => ?_) (fun e => ?_)
                · walk_at "rds"
                  exact RB.mkOV fun d H' hd1 s5 hx => bad _ (nolet (lets_kd hkl ne)) (fun z => nomatch z) _ s2 d H' hd1 s5 hx
                · subst e
                  cases hkl with
                  | @tup la lts hla =>
                    obtain ⟨hall2, hly⟩ := dq_items hdl hla
                    have hla2 := s2 _ _ hla
                    clear hkl2
                    walk_at "rds"
                    refine RD.ite_nd (fun ne => ?_) (fun e => ?_)
                    · walk_at "rds"
                      exact RB.mkOV fun d H' hd1 s5 hx => bad _ (nolet (by rw [lets_at hla, decide_eq_false (fun h => ne (by rw [h])), Bool.false_and])) (fun z => nomatch z) _ s2 d H' hd1 s5 hx
                    · have hle : lts.length = rows.length := by have := V.int.inj e; omega
                      walk_at "rds"
                      refine RD.lcF (walk_tup (xs := lts)) hly (fun i => (lts[i]?).map fun y => .bl (blV y)) (fun H' s => by walk_at "st") (fun i y H3 Z N hi hy s3 hZ hN => ?_) (fun D H3 hD s3 hv => ?_)
                      · walk_at "rds"
                        refine ⟨rfl, ?_⟩
                        obtain ⟨m, hdy⟩ := hall2 y (List.mem_of_getElem? hy)
                        obtain ⟨ky, hky⟩ := hdy.kd (K := K)
                        have hky3 := (hky.same s2).same s3
                        walk_at "rds"
                        have e3 : decide (ky = SPD.Kd.bl) = blV y := by
                          cases hky <;> rfl
                        rw [e3]
                        exact hZ _ _ (by rw [hy]; rfl) (Same.refl _)
                      · have e1 : (List.range lts.length).filterMap (fun i => (lts[i]?).map fun y => V.bl (blV y)) = (lts.map blV).map V.bl := by
                          rw [RD.range_get (fun y => V.bl (blV y)) lts, List.map_map]
                          rfl
                        rw [e1] at hv
                        have s23 := s2.trans s3
                        walk_at "rds"
                        rw [show (lts.map blV).all id = lts.all blV by rw [List.all_map]; rfl]
                        have ell : letsB H (.ref la) rows.length = lts.all blV := by rw [lets_at hla, decide_eq_true hle, Bool.true_and]
                        refine RD.ite_b (fun e => ?_) (fun e => ?_)
                        · have e : lts.all blV = false := by simpa using e
                          walk_at "rds"
                          exact RB.mkOV fun d H' hd1 s5 hx => bad _ (nolet (by rw [ell, e])) (fun z => nomatch z) _ s23 d H' hd1 s5 hx
                        · have e : lts.all blV = true := by simpa using e
                          have hb3 := s23 _ _ hb
                          have due : mdueV H (.str z) (.ref ra) (.ref la) = .non := by rw [dl, if_pos (by rw [ell]; exact e)]
                          walk_at "rds"
                          refine RB.setFV hb3 T.cl_Machine T.no_Machine_signs (by decide) fun H5 k5 h5 => ?_
                          walk_at "rds"
                          refine RB.setFV h5 T.cl_Machine T.no_Machine_rows (Nat.le_of_ble_eq_true rfl) fun H6 k6 h6 => ?_
                          walk_at "rds"
                          refine RB.setFV h6 T.cl_Machine T.no_Machine_lets (Nat.le_of_ble_eq_true rfl) fun H7 k7 h7 => ?_
                          walk_at "rds"
                          exact q due _ (fun c o n e => k7 c o n (k6 c o n (k5 c o n (s23 c o e)))) h7
                  | _ => exact absurd rfl (by assumption)
          · walk_at "rds"
            exact RB.mkOV fun d H' hd1 s3 hx => bad _ (mdue_len hsg hra (by omega)) (fun z => nomatch z) _ s1 d H' hd1 s3 hx
        | _ => exact absurd rfl (by assumption)
theorem ok_Machine_eq (T : Txt P K mg) : FnOk P w K mg base CX0 1 T.a_Machine_eq T.fd_Machine_eq ["self", "other"] (spEqM K T.C_Machine) := by
  have nd := sc_Machine_eq.nd
  refine T.F_Machine_eq.ok sc_Machine_eq (fun vs H Q E h => ?_) (fun cdv A outer s H vs Q E hr h => ?_)
  · obtain ⟨b, z, r, l, rws, ls, y, rfl, _⟩ := h
    rfl
  · obtain ⟨b, z, r, l, rws, ls, y, rfl, hb, hpt, g, q⟩ := h
    refine ⟨_, (pss_cons (ps_if (pt_not (pt_val (pe_callB call_isi (by rfl) T.m_isinstance (by decide +kernel) (pa_cons (pv 1) (pa_cons (pe_glob (v := .ref T.C_Machine) (by rfl) T.g_Machine rfl) pa_nil)))))
    (pss_one (ps_ret pe_bl))
    pss_nil)
  (pss_one (ps_ret (pe_cmpR (op_eqD hr.units) (pe_tup (pa_cons (pe_fld (pv 0) rfl) (pa_cons (pe_fld (pv 0) rfl) (pa_cons (pe_fld (pv 0) rfl) pa_nil)))) (pe_tup (pa_cons (pe_fld (pv 1) rfl) (pa_cons (pe_fld (pv 1) rfl) (pa_cons (pe_fld (pv 1) rfl) pa_nil)))) (nomark _))))), ?_⟩
    walk_at "rds"
    rcases q with ⟨b2, z2, r2, l2, rws2, ls2, rfl, hb2, hp2, g2, q⟩ | ⟨t, ht, hk, q⟩
    · refine RD.isi (.own _) (mach_ty T hb2) (t := .ref T.C_Machine) (by unfold PySem.W.kitOne; rw [if_pos (by simp)]) ?_
      walk_at "rds"
      obtain ⟨dx, hb⟩ := hb
      obtain ⟨dx2, hb2⟩ := hb2
      refine RB.fldV hb T.cl_Machine T.no_Machine_signs rfl ?_
      walk_at "rds"
      refine RB.fldV hb T.cl_Machine T.no_Machine_rows rfl ?_
      walk_at "rds"
      refine RB.fldV hb T.cl_Machine T.no_Machine_lets rfl ?_
      walk_at "rds"
      have hb3 := hs _ _ hb2
      refine RB.fldV hb3 T.cl_Machine T.no_Machine_signs rfl ?_
      walk_at "rds"
      refine RB.fldV hb3 T.cl_Machine T.no_Machine_rows rfl ?_
      walk_at "rds"
      refine RB.fldV hb3 T.cl_Machine T.no_Machine_lets rfl ?_
      walk_at "rds"
      refine RD.eqD (mdp (by walk_at "hp") (hpt.same (by walk_at "sm"))) (mdp hv (hp2.same (by walk_at "sm"))) g.shaped g2.shaped ?_
      exact q _ (by walk_at "sm")
    · refine RD.isi (.own _) ht hk ?_
      walk_at "rds"
      exact q _ (Same.refl _)
theorem ok_step (T : Txt P K mg) : FnOk P w K mg base CX0 1 T.a_step T.fd_step ["machine", "standing", "letter"] (spStep T.C_Machine) := by
  have nd := sc_step.nd
  refine T.F_step.ok sc_step (fun vs H Q E h => ?_) (fun cdv A outer s H vs Q E hr h => ?_)
  · obtain ⟨b, z, r, l, rws, ls, st, c, rfl, _⟩ := h
    rfl
  · obtain ⟨b, z, r, l, rws, ls, st, c, rfl, ⟨dx, hb⟩, ⟨ra, la, rs, rfl, rfl, h1, h2, h3⟩, g, hst, hc, q⟩ := h
    refine ⟨_, (pss_one (ps_ret (pe_ix ix_tup (pe_ix ix_tup (pe_fld (pv 0) rfl) (pv 1) (fun _ _ => rfl)) (pe_bm PySem.F.plainAttrs_str PySem.F.slot_str_index PySem.F.type_str_index mt_sindex (pe_fld (pv 0) rfl) (pa_cons (pv 2) pa_nil)) (fun _ _ => rfl)))), ?_⟩
    obtain ⟨ns, n, e1, e2, e3, hn⟩ := step_low g hst hc
    obtain ⟨a, ea, ha⟩ := h2.get _ _ e1
    walk_at "rds"
    refine RB.fldV hb T.cl_Machine T.no_Machine_rows rfl ?_
    walk_at "rds"
    refine RD.ixT (by walk_at "st") (atI_nat ea) ?_
    walk_at "rds"
    refine RB.fldV hb T.cl_Machine T.no_Machine_signs rfl ?_
    walk_at "rds"
    refine SPE.sindex hc ?_
    refine RD.ixT (by walk_at "st") (atI_nat (by rw [List.getElem?_map, e2]; rfl)) ?_
    rw [← e3]
    exact q
theorem ok_behind (T : Txt P K mg) : FnOk P w K mg base CX0 2 T.a_behind T.fd_behind ["machine", "standing", "text"] (spBehind T.C_Machine) := by
  have nd := sc_behind.nd
  have G_step : FnOk P w K mg base CX0 1 T.a_step T.fd_step ["machine", "standing", "letter"] (spStep T.C_Machine) := ok_step T
  refine T.F_behind.ok sc_behind (fun vs H Q E h => ?_) (fun cdv A outer s H vs Q E hr h => ?_)
  · obtain ⟨b, z, r, l, rws, ls, st, t, rfl, _⟩ := h
    rfl
  · obtain ⟨b, z, r, l, rws, ls, st, t, rfl, hb, hp, g, hst, ho, ht, q⟩ := h
    refine ⟨_, (pss_cons (ps_for PassesOwn.never rfl (pi_str (pv 2)) (pg_name (i := 3) nd rfl (by first | exact Or.inl rfl | exact Or.inr rfl))
    (pss_one (ps_set (i := 1) nd rfl (by first | exact Or.inl rfl | exact Or.inr rfl) (pe_call G_step hr (by rfl) T.g_step T.F_step.kp T.b_step .nil pass0 (pa_cons (pv 0) (pa_cons (pv 1) (pa_cons (pv 3) pa_nil)))))))
  (pss_one (ps_ret (pv 1)))), ?_⟩
    have hmem : ∀ c, c ∈ t.cps.toList → c ∈ z.cps.toList := fun c hc => of_decide_eq_true (List.all_eq_true.mp ho c hc)
    walk_at "rds"
    refine RD.forW (RB.w_str (z := t)) (fun i σ H' => ∃ x3, σ = [some (.ref b), some (.int (walkN z rws st (t.cps.toList.take i) : Nat)), some (.str t), x3] ∧ Same H H') ⟨_, rfl, Same.refl _⟩ (fun _ _ _ _ _ => trivial) (fun i x σ H2 H3 hi hp2 hy => ?_) (fun σ H2 hp2 => ?_)
    · obtain ⟨x3, rfl, s2⟩ := hp2
      obtain ⟨rfl, hx⟩ := hy
      rw [List.getElem?_map] at hx
      obtain ⟨c, hc, rfl⟩ := Option.map_eq_some_iff.mp hx
      walk_at "rds"
      refine ⟨b, z, r, l, rws, ls, _, c, rfl, hb.same s2, hp.same s2, g, walk_low g _ _ hst (fun d hd => hmem d (List.mem_of_mem_take hd)), hmem c (List.mem_of_getElem? hc), ?_⟩
      walk_at "rds"
      exact ⟨_, by rw [walk_succ hc]; rfl, s2⟩
    · obtain ⟨x3, rfl, s2⟩ := hp2
      walk_at "rds"
      have e : t.cps.toList.take t.cps.size = t.cps.toList := List.take_of_length_le (by rw [Array.length_toList]; exact Nat.le_refl _)
      rw [e]
      exact q _ s2
theorem ok_is_of_signs (T : Txt P K mg) : FnOk P w K mg base CX0 1 T.a_is_of_signs T.fd_is_of_signs ["machine", "thing"] (spOfSigns T.C_Machine) := by
  have nd := sc_is_of_signs.nd
  refine T.F_is_of_signs.ok sc_is_of_signs (fun vs H Q E h => ?_) (fun cdv A outer s H vs Q E hr h => ?_)
  · obtain ⟨b, x, n, z, r, l, v, rfl, _⟩ := h
    rfl
  · obtain ⟨b, x, n, z, r, l, v, rfl, ⟨dx, hb⟩, hd, q⟩ := h
    refine ⟨_, (pss_one (ps_ret (pe_and (pe_callB call_isi (by rfl) T.m_isinstance (by decide +kernel) (pa_cons (pv 1) (pa_cons (pe_bltn (v := .ty "str") (by rfl) T.m_str (by decide +kernel) rfl) pa_nil))) (pe_one (pe_callB (cr_all rfl) (by rfl) T.m_all (by decide +kernel) (pa_cons (pe_lc (own := [("sign", 2)]) (g := (gName 2)) rfl nd (pi_str (pv 1)) (blkOk_by (own := [("sign", 2)]) (N := N_is_of_signs) (sc := defScope s_is_of_signs) (by decide +kernel)) (fun _ _ _ _ _ => (pg_name (i := 2) nd rfl (Or.inl rfl))) (fun _ _ _ _ _ => pts_nil) (fun _ _ _ _ _ => (pe_cmpR op_in_sign (pv 2) (RB.pe_fldK (K := K) rfl (pv 0) rfl) (by first | rfl | exact nomark _)))) pa_nil)))))), ?_⟩
    obtain ⟨k, hk⟩ := hd.kd (K := K)
    walk_at "rds"
    refine RD.ite_d (fun e => ?_) (fun ne => ?_)
    · subst e
      cases hk with
      | str t =>
        have hz := str_small hd
        walk_at "rds"
        refine RD.lcF RB.w_str (by omega) (fun i => (t.cps.toList[i]?).map fun c => V.bl (decide (c ∈ z.cps.toList))) (fun _ _ => trivial) (fun i x H' Z N hi hx s hZ hN => ?_) (fun D H' hD s hv => ?_)
        · rw [List.getElem?_map] at hx
          obtain ⟨c, hc, rfl⟩ := Option.map_eq_some_iff.mp hx
          walk_at "rds"
          refine ⟨rfl, ?_⟩
          walk_at "rds"
          refine RB.fldV (s _ _ hb) T.cl_Machine T.no_Machine_signs rfl ?_
          walk_at "rds"
          exact hZ _ _ (by rw [hc]; rfl) (Same.refl _)
        · have e1 : (List.range t.cps.size).filterMap (fun i => (t.cps.toList[i]?).map fun c => V.bl (decide (c ∈ z.cps.toList))) = (t.cps.toList.map fun c => decide (c ∈ z.cps.toList)).map V.bl := by
            have e : t.cps.size = t.cps.toList.length := (Array.length_toList).symm
            rw [e, RD.range_get (fun c => V.bl (decide (c ∈ z.cps.toList))) t.cps.toList, List.map_map]
            rfl
          rw [e1] at hv
          walk_at "rds"
          rw [List.all_map]
          exact q _ s
    · have e : ofB z v = false := by
        cases hk <;> first | rfl | exact absurd rfl ne
      rw [e] at q
      exact q _ (Same.refl _)
theorem ok_reached (T : Txt P K mg) : FnOk P w K mg base (L2.CX P w) 3 T.a_reached T.fd_reached ["machine", "text"] (spReached T.C_Machine T.C_NoText) := by
  have nd := sc_reached.nd
  have G_is_of_signs : FnOk P w K mg base CX0 2 T.a_is_of_signs T.fd_is_of_signs ["machine", "thing"] (spOfSigns T.C_Machine) := (ok_is_of_signs T).mono (by decide)
  have G_behind : FnOk P w K mg base CX0 2 T.a_behind T.fd_behind ["machine", "standing", "text"] (spBehind T.C_Machine) := ok_behind T
  refine T.F_reached.okX sc_reached (fun vs H Q E h => ?_) (fun cdv A outer s H vs Q E hr h => ?_)
  · obtain ⟨b, x, n, z, r, l, rws, ls, v, rfl, _⟩ := h
    rfl
  · obtain ⟨b, x, n, z, r, l, rws, ls, v, rfl, hb, hp, g, hd, q, qe⟩ := h
    refine ⟨_, (pss_cons (ps_if (pt_not (pt_val (pe_call G_is_of_signs hr (by rfl) T.g_is_of_signs T.F_is_of_signs.kp T.b_is_of_signs .nil pass0 (pa_cons (pv 0) (pa_cons (pv 1) pa_nil)))))
    (pss_one (ps_raise rfl (takes_of rfl rfl rfl rfl) (NR.pmk_own0 T.k_NoText T.g_NoText T.kp_NoText T.bx_NoText T.tx_NoText (by rfl))))
    pss_nil)
  (pss_one (ps_ret (pe_call G_behind hr (by rfl) T.g_behind T.F_behind.kp T.b_behind .nil pass0 (pa_cons (pv 0) (pa_cons pe_int (pa_cons (pv 1) pa_nil))))))), ?_⟩
    walk_at "rds"
    refine ⟨b, x, n, z, r, l, v, rfl, hb, hd, fun H1 s1 => ?_⟩
    walk_at "rds"
    refine RD.ite_b (fun e => ?_) (fun e => ?_)
    · have e : ofB z v = false := by simpa using e
      walk_at "rds"
      exact qe e _ s1
    · have e : ofB z v = true := by simpa using e
      cases v with
      | str t =>
        walk_at "rds"
        exact ⟨b, z, r, l, rws, ls, 0, t, rfl, hb.same s1, hp.same s1, g, g.some, e, str_small hd, fun H2 s2 => q t rfl e _ (s1.trans s2)⟩
      | _ => cases e
theorem ok_lets_by (T : Txt P K mg) : FnOk P w K mg base CX0 3 T.a_lets_by T.fd_lets_by ["machine", "text"] (spLetsBy T.C_Machine) := by
  have nd := sc_lets_by.nd
  have G_is_of_signs : FnOk P w K mg base CX0 2 T.a_is_of_signs T.fd_is_of_signs ["machine", "thing"] (spOfSigns T.C_Machine) := (ok_is_of_signs T).mono (by decide)
  have G_behind : FnOk P w K mg base CX0 2 T.a_behind T.fd_behind ["machine", "standing", "text"] (spBehind T.C_Machine) := ok_behind T
  refine T.F_lets_by.ok sc_lets_by (fun vs H Q E h => ?_) (fun cdv A outer s H vs Q E hr h => ?_)
  · obtain ⟨b, x, n, z, r, l, rws, ls, v, rfl, _⟩ := h
    rfl
  · obtain ⟨b, x, n, z, r, l, rws, ls, v, rfl, hb, hp, g, hd, q, qe⟩ := h
    refine ⟨_, (pss_one (ps_ret (pe_and (pe_call G_is_of_signs hr (by rfl) T.g_is_of_signs T.F_is_of_signs.kp T.b_is_of_signs .nil pass0 (pa_cons (pv 0) (pa_cons (pv 1) pa_nil))) (pe_one (pe_ix ix_tup (pe_fld (pv 0) rfl) (pe_call G_behind hr (by rfl) T.g_behind T.F_behind.kp T.b_behind .nil pass0 (pa_cons (pv 0) (pa_cons pe_int (pa_cons (pv 1) pa_nil)))) (fun _ _ => rfl)))))), ?_⟩
    walk_at "rds"
    refine ⟨b, x, n, z, r, l, v, rfl, hb, hd, fun H1 s1 => ?_⟩
    walk_at "rds"
    refine RD.ite_b (fun e => ?_) (fun e => ?_)
    · cases v with
      | str t =>
        have e : ofB z (.str t) = true := e
        have hmem : ∀ c, c ∈ t.cps.toList → c ∈ z.cps.toList := fun c hc => of_decide_eq_true (List.all_eq_true.mp e c hc)
        have hb1 := hb.same s1
        obtain ⟨dx, hbx⟩ := id hb1
        walk_at "rds"
        refine RB.fldV hbx T.cl_Machine T.no_Machine_lets rfl ?_
        walk_at "rds"
        refine ⟨b, z, r, l, rws, ls, 0, t, rfl, hb1, hp.same s1, g, g.some, e, str_small hd, fun H2 s2 => ?_⟩
        have hlow := walk_low g t.cps.toList 0 g.some hmem
        obtain ⟨ra, la, rs, rfl, rfl, h1, h2, h3⟩ := hp.same (s1.trans s2)
        have hg : (ls.map V.bl)[walkN z rws 0 t.cps.toList]? = some (.bl (ls.getD (walkN z rws 0 t.cps.toList) false)) := by
          have hl : walkN z rws 0 t.cps.toList < ls.length := by rw [g.lets]; exact hlow
          rw [List.getElem?_map, List.getElem?_eq_getElem hl, getD_of (List.getElem?_eq_getElem hl)]
          rfl
        refine RD.ixT (by walk_at "st") (atI_nat hg) ?_
        exact q t rfl e _ (s1.trans s2)
      | _ => cases e
    · have e : ofB z v = false := e
      exact qe e _ s1
end


end K15

namespace K15
open PySem PySem.Spec PyProof.Rows L2
local macro_rules | `(tactic| walk_at "kd") => `(tactic| first | assumption | exact SPD.KdOf.int _ | exact SPD.KdOf.str _ | exact SPD.KdOf.bl _ | exact SPD.KdOf.non | exact SPD.KdOf.same (by assumption) (by walk_at "kd") | exact SPD.KdOf.tup (by walk_at "hp") | exact SPD.KdOf.lst (by walk_at "hp") | fail "no")
local macro_rules | `(tactic| walk_at "ne") => `(tactic| first | assumption | exact Ne.symm (by assumption) | fail "no")
local macro_rules | `(tactic| walk_at "hp") => `(tactic| first | assumption | exact RD.at_same (by assumption) (by walk_at "hp") | exact RD.at_kb (by assumption) (by walk_at "ne") (by walk_at "hp") | fail "no")
local macro_rules | `(tactic| walk_at "sq") => `(tactic| first | assumption | exact Or.inl (Or.inl (by walk_at "hp")) | exact Same.seq (by assumption) (by walk_at "sq") | exact RD.KB.seq (by assumption) (by walk_at "ne") (by walk_at "sq") | fail "no")
local macro_rules | `(tactic| walk_at "st") => `(tactic| first | assumption | exact Or.inl (Or.inl (by walk_at "hp")) | exact RD.Same.tup (by assumption) (by walk_at "st") | exact RD.KB.tup (by assumption) (by walk_at "ne") (by walk_at "st") | fail "no")
local macro_rules | `(tactic| walk_at "rd") => `(tactic| first
  | with_reducible refine RD.c ?_
  | ((with_reducible refine' RD.var ?rdE ?rdK); (case rdE => exact rfl))
  | with_reducible refine RD.op ?_
  | with_reducible refine RD.un ?_
  | with_reducible refine RD.nil ?_
  | with_reducible refine RD.cons ?_
  | with_reducible refine RD.cb ?_
  | with_reducible refine RD.call ?_
  | with_reducible refine RD.test ?_
  | with_reducible refine RD.tb' ?_
  | with_reducible refine RD.bl ?_
  | with_reducible refine RD.and' ?_
  | with_reducible refine RD.or' ?_
  | with_reducible refine RD.not' ?_
  | with_reducible refine RD.andV ?_
  | with_reducible refine RD.orV ?_
  | with_reducible refine RD.notV ?_
  | with_reducible refine RD.ife ?_
  | with_reducible refine RD.sl ?_
  | with_reducible refine RD.part ?_
  | with_reducible refine RD.noPart ?_
  | with_reducible refine RD.partI ?_
  | with_reducible refine RD.rd0 ?_
  | with_reducible refine RD.rdU ?_
  | ((with_reducible refine' RD.rdEq ?rdE ?rdK); (case rdE => rfl))
  | ((with_reducible refine' RD.rdNe ?rdE ?rdK); (case rdE => rfl))
  | ((with_reducible refine' RD.ixL ?rdH ?rdE ?rdK); (case rdH => walk_at "sq"); (case rdE => first | rfl | assumption))
  | ((with_reducible refine' RD.rdI ?rdC ?rdK); (case rdC => first | assumption | (show (0 : Int) < _; first | decide | omega) | exact ⟨by decide, by decide⟩ | exact ⟨by assumption, by assumption⟩ | exact .inr ⟨by decide, by decide⟩ | exact .inl ⟨by decide, by decide⟩ | exact ⟨by decide, by decide, by decide⟩ | exact .inl ⟨by omega, by omega⟩))
  | ((with_reducible refine' RD.setL ?rdH ?rdE ?rdK); (case rdH => walk_at "hp"); (case rdE => rfl); intro $(Lean.mkIdent `H'):ident $(Lean.mkIdent `hk):ident $(Lean.mkIdent `hv):ident)
  | ((with_reducible refine' RD.irng1V ?rdA ?rdB ?rdK); (case rdA => first | decide | omega); (case rdB => first | decide | omega))
  | with_reducible refine RD.int1 ?_
  | with_reducible refine RD.abs1 ?_
  | ((with_reducible refine' RD.len ?rdH ?rdK); (case rdH => first | exact Or.inl (by walk_at "sq") | exact Or.inr (by walk_at "st")))
  | with_reducible refine RD.tup ?_
  | with_reducible refine RD.lst ?_
  | with_reducible refine RD.ite1 ?_
  | with_reducible refine RD.ite0 ?_
  | with_reducible refine RD.ite1n ?_
  | with_reducible refine RD.ite0n ?_
  | with_reducible refine RD.seq ?_
  | with_reducible refine RD.asg ?_
  | with_reducible refine RD.name ?_
  | with_reducible refine RD.ret ?_
  | with_reducible refine RD.drop ?_
  | with_reducible refine RD.next ?_
  | with_reducible refine RD.ifs ?_
  | with_reducible refine RD.par ?_
  | with_reducible refine RD.par2 ?_
  | with_reducible refine RD.sub ?_
  | with_reducible refine RD.gcons ?_
  | with_reducible refine RD.gnil ?_
  | with_reducible refine RD.bm ?_
  | ((with_reducible refine' RD.bmL ?rdH ?rdK); (case rdH => walk_at "sq"))
  | ((with_reducible refine' RD.newZ ?rdH ?rdK); (case rdH => exact RD.sz _); intro $(Lean.mkIdent `p'):ident $(Lean.mkIdent `H'):ident $(Lean.mkIdent `hp):ident $(Lean.mkIdent `hs):ident $(Lean.mkIdent `hv):ident; (try have $(Lean.mkIdent `hn):ident := hand_ne $(Lean.mkIdent `hp):ident (by walk_at "hk")))
  | with_reducible refine RD.fors ?_
  | with_reducible refine RD.lc ?_
  | with_reducible refine RD.yes ?_
  | with_reducible refine RD.ilist ?_
  | ((with_reducible refine' RD.ilistV ?rdH ?rdK); (case rdH => walk_at "sq"))
  | with_reducible refine RD.itup ?_
  | ((with_reducible refine' RD.itupV ?rdH ?rdK); (case rdH => walk_at "st"))
  | with_reducible refine RD.irng1 ?_
  | with_reducible refine RD.irng2 ?_
  | ((with_reducible refine' RD.irng2V ?rdA ?rdK); (case rdA => first | decide | omega))
  | with_reducible refine RD.ienum ?_
  | ((with_reducible refine' RD.ienumV ?rdH ?rdK); (case rdH => walk_at "sq"))
  | with_reducible refine RD.izip ?_
  | ((with_reducible refine' RD.izipV ?rdH ?rdE ?rdK); (case rdH => walk_at "sq"); (case rdE => walk_at "sq"))
  | with_reducible refine SPD.izipA ?_
  | with_reducible refine RD.istr ?_
  | with_reducible refine RD.istrV ?_
  | ((with_reducible refine' RD.slL ?rdH ?rdK); (case rdH => walk_at "sq"); intro $(Lean.mkIdent `p'):ident $(Lean.mkIdent `H'):ident $(Lean.mkIdent `hp):ident $(Lean.mkIdent `hs):ident $(Lean.mkIdent `hv):ident; (try have $(Lean.mkIdent `hn):ident := hand_ne $(Lean.mkIdent `hp):ident (by walk_at "hk")))
  | ((with_reducible refine' RD.cat ?rdH ?rdE ?rdZ ?rdK); (case rdH => walk_at "hp"); (case rdE => walk_at "hp"); (case rdZ => exact RD.sz _); intro $(Lean.mkIdent `p'):ident $(Lean.mkIdent `H'):ident $(Lean.mkIdent `hp):ident $(Lean.mkIdent `hs):ident $(Lean.mkIdent `hv):ident; (try have $(Lean.mkIdent `hn):ident := hand_ne $(Lean.mkIdent `hp):ident (by walk_at "hk")))
  | ((with_reducible refine' RD.gtup ?rdH ?rdE ?rdK); (case rdH => walk_at "st"); (case rdE => rfl))
  | ((with_reducible refine' RD.app ?rdH ?rdZ ?rdK); (case rdH => walk_at "hp"); (case rdZ => first | assumption | (apply RD.szl; omega)); intro $(Lean.mkIdent `H'):ident $(Lean.mkIdent `hk):ident $(Lean.mkIdent `hv):ident)
  | ((with_reducible refine' RD.all1 ?rdH ?rdK); (case rdH => walk_at "sq"))
  | ((with_reducible refine' RD.any1 ?rdH ?rdK); (case rdH => walk_at "sq"))
  | ((with_reducible refine' SPD.dnew ?rdK); intro $(Lean.mkIdent `p'):ident $(Lean.mkIdent `H'):ident $(Lean.mkIdent `hp):ident $(Lean.mkIdent `hs):ident $(Lean.mkIdent `hv):ident; (try have $(Lean.mkIdent `hn):ident := hand_ne $(Lean.mkIdent `hp):ident (by walk_at "hk")))
  | ((with_reducible refine' SPD.disp1 ?rdK); intro $(Lean.mkIdent `p'):ident $(Lean.mkIdent `H'):ident $(Lean.mkIdent `hp):ident $(Lean.mkIdent `hs):ident $(Lean.mkIdent `hv):ident; (try have $(Lean.mkIdent `hn):ident := hand_ne $(Lean.mkIdent `hp):ident (by walk_at "hk")))
  | ((with_reducible refine' SPD.isSeq ?rdH ?rdE ?rdK); (case rdH => walk_at "hp"); (case rdE => walk_at "kd"))
  | ((with_reducible refine' SPD.isTup ?rdE ?rdK); (case rdE => walk_at "kd"))
  | ((with_reducible refine' SPD.isLst ?rdE ?rdK); (case rdE => walk_at "kd"))
  | ((with_reducible refine' SPD.isBool ?rdE ?rdK); (case rdE => walk_at "kd"))
  | ((with_reducible refine' SPD.isStr ?rdE ?rdK); (case rdE => walk_at "kd"))
  | ((with_reducible refine' SPD.isInt ?rdE ?rdK); (case rdE => walk_at "kd"))
  | dsimp only)
local macro_rules | `(tactic| walk_at "rds") => `(tactic| repeat walk_at "rd")
local macro_rules | `(tactic| walk_at "sm") => `(tactic| first | assumption | exact Same.refl _ | exact RD.sm_tr (by assumption) (by walk_at "sm") | fail "no")
local macro_rules | `(tactic| walk_at "kb") => `(tactic| first | assumption | exact RD.KB.refl | exact RD.kb_tr (by assumption) (by walk_at "kb") | exact RD.kb_trs (by assumption) (by walk_at "kb") | fail "no")
local macro_rules | `(tactic| walk_at "fr") => `(tactic| first | assumption | exact RD.fr_of (by assumption) (by walk_at "sm") | fail "no")
local macro_rules | `(tactic| walk_at "hk") => `(tactic| first | assumption | exact hand_same (by assumption) (by walk_at "hk") | exact hand_kb (by assumption) (by walk_at "fr") (by walk_at "hk") | fail "no")
local macro_rules | `(tactic| walk_at "na") => `(tactic| first | assumption | exact hand_ne (by assumption) (by walk_at "hk") | fail "no")
local macro_rules | `(tactic| walk_at "dqa") => `(tactic| first | exact SPD.DqA.nil | exact SPD.DqA.cons (by walk_at "dq") (by walk_at "dqa") | exact SPD.DqA.app (by walk_at "dqa") (by walk_at "dqa") | fail "no")
local macro_rules | `(tactic| walk_at "dq") => `(tactic| first | assumption | exact SPD.Dq.leaf rfl | exact SPD.dq_kb (by assumption) (by walk_at "kb") | exact SPD.dqTup (by walk_at "hp") (by walk_at "na") (by walk_at "dqa") | exact SPD.dqLst (by walk_at "hp") (by walk_at "na") (by walk_at "dqa") | exact SPD.dqNil (by walk_at "hp") (by walk_at "na") (by first | decide | simp) (by first | decide | simp) | fail "no")

local macro_rules | `(tactic| walk_at "rd") => `(tactic| first
  | with_reducible refine RB.chain ?_
  | with_reducible refine RB.m1 ?_
  | with_reducible refine RB.strE ?_
  | with_reducible refine RB.fld ?_
  | with_reducible refine RB.setF ?_
  | with_reducible refine RB.ss ?_
  | with_reducible refine RB.rev ?_
  | with_reducible refine RB.make ?_
  | with_reducible refine RB.makeS ?_
  | with_reducible refine RB.mkO ?_
  | with_reducible refine NR.ienumT ?_
  | with_reducible refine RB.inS ?_
  | with_reducible refine RB.bmS ?_
  | with_reducible refine RB.callS ?_
  | with_reducible refine RB.sw3 ?_
  | with_reducible refine RB.par3 ?_
  | with_reducible refine RB.par3V ?_
  | ((with_reducible refine' RB.slS ?rdH ?rdK); (case rdH => walk_at "sz"))
  | with_reducible refine RB.xf ?_
  | ((with_reducible refine' RB.xfV ?rdH ?rdE ?rdK); (case rdH => walk_at "hp"); (case rdE => rfl))
  | ((with_reducible refine' NR.ienumTV ?rdH ?rdK); (case rdH => walk_at "st"))
  | ((with_reducible refine' RB.lenL ?rdH ?rdK); (case rdH => walk_at "sq"))
  | ((with_reducible refine' RB.lenT ?rdH ?rdK); (case rdH => walk_at "st"))
  | ((with_reducible refine' RB.lenS ?rdH ?rdK); (case rdH => walk_at "sz"))
  | ((with_reducible refine' RD.lenS ?rdH ?rdK); (case rdH => walk_at "sz"))
  | ((with_reducible refine' RB.slT ?rdH ?rdK); (case rdH => walk_at "hp"); intro $(Lean.mkIdent `p'):ident $(Lean.mkIdent `H'):ident $(Lean.mkIdent `hs):ident $(Lean.mkIdent `hv):ident $(Lean.mkIdent `hp):ident; (try have $(Lean.mkIdent `hn):ident := two_ne $(Lean.mkIdent `hp):ident (by walk_at "na") (by walk_at "hk")))
  | ((with_reducible refine' RB.revV ?rdH ?rdK); (case rdH => walk_at "st"); intro $(Lean.mkIdent `p'):ident $(Lean.mkIdent `H'):ident $(Lean.mkIdent `hp):ident $(Lean.mkIdent `hs):ident $(Lean.mkIdent `hv):ident; (try have $(Lean.mkIdent `hn):ident := hand_ne $(Lean.mkIdent `hp):ident (by walk_at "hk")))
  | ((with_reducible refine' RB.listS ?rdH ?rdK); (case rdH => walk_at "sz"); intro $(Lean.mkIdent `p'):ident $(Lean.mkIdent `H'):ident $(Lean.mkIdent `hp):ident $(Lean.mkIdent `hs):ident $(Lean.mkIdent `hv):ident; (try have $(Lean.mkIdent `hn):ident := hand_ne $(Lean.mkIdent `hp):ident (by walk_at "hk")))
  | ((with_reducible refine' RB.listO ?rdH ?rdK); (case rdH => first | exact Or.inl (by walk_at "sq") | exact Or.inr (by walk_at "st")); intro $(Lean.mkIdent `p'):ident $(Lean.mkIdent `H'):ident $(Lean.mkIdent `hp):ident $(Lean.mkIdent `hs):ident $(Lean.mkIdent `hv):ident; (try have $(Lean.mkIdent `hn):ident := hand_ne $(Lean.mkIdent `hp):ident (by walk_at "hk")))
  | ((with_reducible refine' RB.tupL ?rdH ?rdK); (case rdH => walk_at "sq"); intro $(Lean.mkIdent `p'):ident $(Lean.mkIdent `H'):ident $(Lean.mkIdent `hp):ident $(Lean.mkIdent `hs):ident $(Lean.mkIdent `hv):ident; (try have $(Lean.mkIdent `hn):ident := hand_ne $(Lean.mkIdent `hp):ident (by walk_at "hk")))
  | ((with_reducible refine' RB.catT ?rdH ?rdE ?rdZ ?rdK); (case rdH => walk_at "hp"); (case rdE => walk_at "hp"); (case rdZ => exact RB.LN.sum (by walk_at "ln") (by walk_at "ln") rfl); intro $(Lean.mkIdent `p'):ident $(Lean.mkIdent `H'):ident $(Lean.mkIdent `hs):ident $(Lean.mkIdent `hv):ident $(Lean.mkIdent `hp):ident; (try have $(Lean.mkIdent `hn):ident := three_ne $(Lean.mkIdent `hp):ident (by walk_at "na") (by walk_at "na") (by walk_at "hk")))
  | fail "no")
local macro_rules | `(tactic| walk_at "ln") => `(tactic| first | with_reducible assumption | exact RB.LN.cut (by walk_at "ln") | exact RB.LN.app (by walk_at "ln") (by walk_at "ln") | exact RB.LN.rev (by walk_at "ln") | exact RB.LN.rep (by walk_at "ln") | exact RB.LN.lit rfl | fail "no")
local macro_rules | `(tactic| walk_at "sz") => `(tactic| first | assumption | exact RD.sz _ | fail "no")

local macro_rules | `(tactic| walk_at "hp") => `(tactic| first | assumption | exact RD.at_same (by assumption) (by walk_at "hp") | exact SPE.at_kx (by assumption) (by walk_at "na") (by walk_at "hp") | exact RD.at_kb (by assumption) (by walk_at "ne") (by walk_at "hp") | fail "no")
local macro_rules | `(tactic| walk_at "sq") => `(tactic| first | assumption | exact Or.inl (Or.inl (by walk_at "hp")) | exact Same.seq (by assumption) (by walk_at "sq") | exact SPE.KX.seq (by assumption) (by walk_at "na") (by walk_at "sq") | exact RD.KB.seq (by assumption) (by walk_at "ne") (by walk_at "sq") | fail "no")
local macro_rules | `(tactic| walk_at "st") => `(tactic| first | assumption | exact Or.inl (Or.inl (by walk_at "hp")) | exact RD.Same.tup (by assumption) (by walk_at "st") | exact SPE.KX.tup (by assumption) (by walk_at "na") (by walk_at "st") | exact RD.KB.tup (by assumption) (by walk_at "ne") (by walk_at "st") | fail "no")
local macro_rules | `(tactic| walk_at "kx") => `(tactic| first | assumption | exact SPE.KX.refl | exact SPE.kx_tr (by assumption) (by walk_at "kx") | exact SPE.kx_trs (by assumption) (by walk_at "kx") | fail "no")
local macro_rules | `(tactic| walk_at "dqa") => `(tactic| first | exact SPE.DqA.nil | exact SPE.DqA.cons (by walk_at "dq") (by walk_at "dqa") | exact SPE.DqA.app (by walk_at "dqa") (by walk_at "dqa") | fail "no")
local macro_rules | `(tactic| walk_at "dq") => `(tactic| first | assumption | exact SPE.Dq.leaf rfl | exact SPE.dq_kx (by assumption) (by walk_at "kx") | exact SPE.dqTup (by walk_at "hp") (by walk_at "na") (by walk_at "dqa") | exact SPE.dqLst (by walk_at "hp") (by walk_at "na") (by walk_at "dqa") | exact SPE.dqNil (by walk_at "hp") (by walk_at "na") (by first | decide | simp) (by first | decide | simp) | fail "no")
local macro_rules | `(tactic| walk_at "dqx") => `(tactic| first | exact $(Lean.mkIdent `hdb):ident _ (by walk_at "kx") | exact SPE.DqA.cons (SPE.dq_kx (by assumption) (by walk_at "kx")) SPE.DqA.nil | exact SPE.DqA.cons (SPE.Dq.leaf rfl) SPE.DqA.nil | exact SPE.DqA.nil | (with_reducible refine SPE.dqa_cut ?_; walk_at "dqx") | (with_reducible refine SPE.dqa_rev ?_; walk_at "dqx") | (with_reducible refine SPE.DqA.app ?_ ?_ <;> walk_at "dqx") | fail "no")
local macro_rules | `(tactic| walk_at "dqz") => `(tactic| first | exact SPE.dqTupN (by walk_at "hp") (by walk_at "na") (by walk_at "dqx") (by walk_at "ln") rfl | exact SPE.dqLstN (by walk_at "hp") (by walk_at "na") (by walk_at "dqx") (by walk_at "ln") rfl | fail "no")
local macro_rules | `(tactic| walk_at "rd") => `(tactic| first
  | with_reducible refine SPE.revs ?_
  | ((with_reducible refine' SPE.revsV ?rdH ?rdK); (case rdH => walk_at "sz"))
  | ((with_reducible refine' SPE.sum1 ?rdH ?rdK); (case rdH => walk_at "sq"))
  | fail "no")

/-! ### texts -/
theorem str_ext {a b : Str} (h : a.cps.toList = b.cps.toList) : a = b := by
  cases a
  cases b
  exact congrArg Str.mk (Array.ext' h)
theorem app_list (a b : Str) : (a ++ b).cps.toList = a.cps.toList ++ b.cps.toList := Array.toList_append
theorem app_size (a b : Str) : (a ++ b).cps.size = a.cps.size + b.cps.size := by
  rw [← Array.length_toList, app_list, List.length_append, Array.length_toList, Array.length_toList]
theorem log_app (a b : Str) : logB (a ++ b) = (logB a && logB b) := by
  unfold logB
  rw [app_list, List.all_append]
theorem cut_list (z : Str) (lo hi : Option Int) : (cutS z lo hi).cps.toList = (z.cps.toList.drop (HT.sIx z.length 0 lo)).take (HT.sIx z.length z.length hi - HT.sIx z.length 0 lo) := rfl
theorem cut_size (z : Str) (lo hi : Option Int) : (cutS z lo hi).cps.size ≤ z.cps.size := by
  rw [← Array.length_toList, cut_list, List.length_take, List.length_drop, Array.length_toList]
  omega
theorem log_cut {z : Str} (lo hi : Option Int) (h : logB z = true) : logB (cutS z lo hi) = true := by
  unfold logB at *
  rw [cut_list, List.all_eq_true]
  exact fun c hc => List.all_eq_true.mp h c (List.mem_of_mem_drop (List.mem_of_mem_take hc))

/-! ### ascending signs -/
def subs : List Nat → List (List Nat)
  | [] => [[]]
  | a :: r => subs r ++ (subs r).map (a :: ·)
theorem sub_mem : ∀ {l m : List Nat}, l.Sublist m → l ∈ subs m
  | _, _, .slnil => by simp [subs]
  | _, _, .cons a h => List.mem_append_left _ (sub_mem h)
  | _, _, .cons₂ a h => List.mem_append_right _ (List.mem_map.mpr ⟨_, sub_mem h, rfl⟩)
def ascL (l : List Nat) : Bool := decide ((chars ⟨l.toArray⟩).Perm (SST.mets (SST.signs ⟨l.toArray⟩) l.toArray.size)) && sortedS (chars ⟨l.toArray⟩)
theorem asc_all : (subs lets).all ascL = true := by decide +kernel
theorem sub_signs {z : Str} (h : z.cps.toList.Sublist lets) (n : 1 ≤ z.cps.size) : signsB z = true := by
  have e := List.all_eq_true.mp asc_all _ (sub_mem h)
  have ez : (⟨z.cps.toList.toArray⟩ : Str) = z := by cases z; simp
  unfold ascL at e
  rw [Bool.and_eq_true, ez] at e
  have ho : SST.Own z (chars z) := ⟨by have := of_decide_eq_true e.1; simpa using this, e.2⟩
  have h8 : z.cps.size ≤ 8 := by
    have := h.length_le
    rw [Array.length_toList] at this
    exact this
  have hl : logB z = true := List.all_eq_true.mpr fun c hc => decide_eq_true (h.subset hc)
  unfold signsB
  rw [decide_eq_true n, decide_eq_true h8, hl, show ascB z = true from @decide_eq_true _ (Classical.propDecidable _) ho]
  rfl
/-! ### texts whose signs are signs -/
def okP (x : Str) : Prop := ∀ c, c ∈ x.cps.toList → c < 0x110000
theorem okP.ok {x : Str} (h : okP x) : PyData.strOk x = true := by
  unfold PyData.strOk
  rw [Array.all_eq_true_iff_forall_mem]
  exact fun c hc => decide_eq_true (h c (Array.mem_toList_iff.mpr hc))
theorem okP.of {z : Str} (h : logB z = true) : okP z := fun c hc => by
  have m : c ∈ lets := of_decide_eq_true (List.all_eq_true.mp h c hc)
  have := (show ∀ c, c ∈ lets → c < 128 by decide) c m
  omega
theorem okP.app {x y : Str} (h : okP x) (g : okP y) : okP (x ++ y) := fun c hc => by
  rw [app_list] at hc
  rcases List.mem_append.mp hc with e | e
  · exact h c e
  · exact g c e
theorem okP.cut {x : Str} {lo hi : Option Int} (h : okP x) : okP (cutS x lo hi) := fun c hc => h c (by
  rw [cut_list] at hc
  exact List.mem_of_mem_drop (List.mem_of_mem_take hc))
theorem okP.rev {x : Str} (h : okP x) : okP (SPE.revS x) := fun c hc => h c (List.mem_reverse.mp hc)
theorem okP.up {z : Str} (h : logB z = true) : okP (Txt.upper z) := fun c hc => by
  have hc : c ∈ placed z fun _ c => Unicode.upperOf c := Array.mem_toList_iff.mp hc
  unfold placed at hc
  obtain ⟨xs, hx, hcx⟩ := Array.mem_flatten.mp hc
  obtain ⟨i, hi, rfl⟩ := Array.mem_mapIdx.mp hx
  have m : z.cps[i] ∈ lets := of_decide_eq_true (List.all_eq_true.mp h _ (Array.mem_toList_iff.mpr (Array.getElem_mem hi)))
  have low : ∀ c, c ∈ lets → ∀ d, d ∈ Unicode.upperOf c → d < 128 := by decide +kernel
  have := low _ m c (by simpa using hcx)
  omega
def SgOk (v : V) : Prop := ∀ z, v = .str z → okP z
theorem rev_size (z : Str) : (SPE.revS z).cps.size = z.cps.size := by
  show z.cps.toList.reverse.toArray.size = _
  rw [List.size_toArray, List.length_reverse, Array.length_toList]
theorem RL.of {H H' : Hp} {vs : List V} {rs : List (List Nat)} (k : ∀ a xs, H a = some (.tup xs) → H' a = some (.tup xs)) (h : RL H vs rs) : RL H' vs rs := by
  induction h with
  | nil => exact .nil
  | cons a _ ih => exact .cons (k _ _ a) ih
theorem RL.app {H : Hp} {vs ws : List V} {rs qs : List (List Nat)} (h : RL H vs rs) (g : RL H ws qs) : RL H (vs ++ ws) (rs ++ qs) := by
  induction h with
  | nil => exact g
  | cons a _ ih => exact .cons a ih
theorem kx_tup {x : SPE.AX} {H H' : Hp} (k : SPE.KX x H H') (hh : BagOk H x) : ∀ a xs, H a = some (.tup xs) → H' a = some (.tup xs) := fun a xs e => k a _ (hh.tupOff e) e
theorem kb_tup {H H' : Hp} {D : Addr} {ys : List V} (k : RD.KB D H H') (hD : H D = some (.lst ys)) : ∀ a xs, H a = some (.tup xs) → H' a = some (.tup xs) := fun a xs e => k a _ (fun z => by subst z; rw [hD] at e; cases e) e
theorem PartsAt.kx {x : SPE.AX} {H H' : Hp} {r l : V} {rws : List (List Nat)} {ls : List Bool} (k : SPE.KX x H H') (hh : BagOk H x) (h : PartsAt H r l rws ls) : PartsAt H' r l rws ls := by
  obtain ⟨ra, la, rs, e1, e2, h1, h2, h3⟩ := h
  exact ⟨ra, la, rs, e1, e2, kx_tup k hh _ _ h1, h2.of (kx_tup k hh), kx_tup k hh _ _ h3⟩
def spParts (K : PySem.W.Frag) : Sp := fun vs H Q _ => ∃ (x : SPE.AX) (z : Str) (m : Nat), vs = [.ref x.1, .str z, .int (m : Nat)] ∧ BagOk H x ∧ signsB z = true ∧ 1 ≤ m ∧ m ≤ 300 ∧
  ∀ (t : Addr) (r l : V) (rws : List (List Nat)) (ls : List Bool) H', SPE.KX x H H' → BagOk H' x → H' t = some (.tup [.str z, r, l]) → PartsAt H' r l rws ls → MG z rws ls → Q (.ref t) H'
def spWalk : Sp := fun vs H Q _ => ∃ (t : Addr) (z u : Str) (r l : V) (rws : List (List Nat)) (ls : List Bool), vs = [.ref t, .str u] ∧ H t = some (.tup [.str z, r, l]) ∧ PartsAt H r l rws ls ∧ MG z rws ls ∧ ofB z (.str u) = true ∧ u.cps.size ≤ 100000 ∧ ∀ H', Same H H' → Q (.int (walkN z rws 0 u.cps.toList : Nat)) H'
def spLets : Sp := fun vs H Q _ => ∃ (t : Addr) (z u : Str) (r l : V) (rws : List (List Nat)) (ls : List Bool), vs = [.ref t, .str u] ∧ H t = some (.tup [.str z, r, l]) ∧ PartsAt H r l rws ls ∧ MG z rws ls ∧ ofB z (.str u) = true ∧ u.cps.size ≤ 100000 ∧ ∀ H', Same H H' → Q (.bl (ls.getD (walkN z rws 0 u.cps.toList) false)) H'
def spText : Sp := fun vs H Q _ => ∃ (x : SPE.AX) (z : Str) (m : Nat), vs = [.ref x.1, .str z, .int (m : Nat)] ∧ BagOk H x ∧ 1 ≤ z.cps.size ∧ z.cps.size ≤ 1000 ∧ m ≤ 1000 ∧ ∀ (t : Str) H', SPE.KX x H H' → BagOk H' x → ofB z (.str t) = true → t.cps.size ≤ m → Q (.str t) H'
def spIntM : Sp := fun vs H Q _ => ∃ (x : Addr) (n : Nat) (v : V) (many : Nat), vs = [v, .int (many : Nat)] ∧ SPD.Dq x H n v ∧ ∀ H', Same H H' → Q (.bl (withV v 0 ((many : Int) - 1))) H'
def spDueM : Sp := fun vs H Q _ => ∃ (x : Addr) (n : Nat) (s r l : V), vs = [s, r, l] ∧ SPD.Dq x H n s ∧ SPD.Dq x H n r ∧ SPD.Dq x H n l ∧ SgOk s ∧ ∀ H', Same H H' → Q (mdueV H s r l) H'
def spToldM (C : Addr) : Sp := fun vs H Q _ => ∃ (x : Addr) (n : Nat) (s r l : V), vs = [s, r, l] ∧ SPD.Dq x H n s ∧ SPD.Dq x H n r ∧ SPD.Dq x H n l ∧
  (mdueV H s r l = .non → ∀ u b H', Same H H' → H u = none → H' u = some (.tup [.non, .ref b]) → MachAt H' C b s r l → Q (.ref u) H') ∧ (mdueV H s r l ≠ .non → ∀ u H', Same H H' → H u = none → H' u = some (.tup [mdueV H s r l, .non]) → Q (.ref u) H')
def spFlag : Sp := fun vs H Q _ => ∃ b c : Bool, vs = [.bl b, .bl c] ∧ Q (.bl (decide (V.bl b = V.bl c))) H
section
variable {P : Program} {w : World} {K : PySem.W.Frag} {mg : Str → Option Value} {base : Heap}
theorem ok_parts (T : Txt P K mg) : FnOk P w K mg base CX0 2 T.a_parts T.fd_parts ["_law_bag_here", "_law_signs", "_law_most"] (spParts K) := by
  have nd := sc_parts.nd
  have G_pick : FnOk P w K mg base CX0 1 T.a_pick T.fd_pick ["_law_bag_here", "_law_many"] spPick := ok_pick T
  refine T.F_parts.ok sc_parts (fun vs H Q E h => ?_) (fun cdv A outer s H vs Q E hr h => ?_)
  · obtain ⟨x, z, m, rfl, _⟩ := h
    rfl
  · obtain ⟨x, z, m, rfl, hh, hsg, hm1, hm3, q⟩ := h
    refine ⟨_, (pss_cons (ps_set (i := 3) nd rfl (by first | exact Or.inl rfl | exact Or.inr rfl) (pe_op op_add pe_int (pe_call G_pick hr (by rfl) T.g_pick T.F_pick.kp T.b_pick .nil pass0 (pa_cons (pv 0) (pa_cons (pv 2) pa_nil)))))
  (pss_cons (ps_set (i := 4) nd rfl (by first | exact Or.inl rfl | exact Or.inr rfl) (pe_callTy RB.call_tupO (by rfl) T.m_tuple (by decide +kernel) (pa_cons (pe_lc (own := [("_law_standing", 5)]) (g := (gName 5)) rfl nd (pi_range1 (by rfl) T.m_range (pa_cons (pv 3) pa_nil)) (blkOk_by (own := [("_law_standing", 5)]) (N := N_parts) (sc := defScope s_parts) (by decide +kernel)) (fun _ _ _ _ _ => (pg_name (i := 5) nd rfl (Or.inl rfl))) (fun _ _ _ _ _ => pts_nil) (fun _ _ _ _ _ => (pe_callTy (r := RB.rTupO K) RB.call_tupO (by rfl) T.m_tuple (by decide +kernel) (pa_cons (pe_lc (own := [("_law_sign", 6)]) (g := (gName 6)) rfl nd (pi_str (pv 1)) (blkOk_by (own := [("_law_sign", 6)]) (N := N_parts) (sc := { kind := .function, names := [(".0", .local), ("_law_standing", .local), ("tuple", .globalImplicit), ("_law_bag_here", .cell), ("_law_many", .cell), ("_law_signs", .cell)], isGenerator := false, isCoroutine := false }) (by decide +kernel)) (fun _ _ _ _ _ => (pg_name (i := 6) nd rfl (Or.inl rfl))) (fun _ _ _ _ _ => pts_nil) (fun _ _ _ _ _ => (pe_call G_pick hr (by rfl) T.g_pick T.F_pick.kp T.b_pick .nil pass0 (pa_cons (pv 0) (pa_cons (pv 3) pa_nil))))) pa_nil)))) pa_nil)))
  (pss_one (ps_ret (pe_tup (pa_cons (pv 1) (pa_cons (pv 4) (pa_cons (pe_callTy RB.call_tupO (by rfl) T.m_tuple (by decide +kernel) (pa_cons (pe_lc (own := [("_law_standing", 5)]) (g := (gName 5)) rfl nd (pi_range1 (by rfl) T.m_range (pa_cons (pv 3) pa_nil)) (blkOk_by (own := [("_law_standing", 5)]) (N := N_parts) (sc := defScope s_parts) (by decide +kernel)) (fun _ _ _ _ _ => (pg_name (i := 5) nd rfl (Or.inl rfl))) (fun _ _ _ _ _ => pts_nil) (fun _ _ _ _ _ => (pe_cmpR op_eq (pe_call G_pick hr (by rfl) T.g_pick T.F_pick.kp T.b_pick .nil pass0 (pa_cons (pv 0) (pa_cons pe_int pa_nil))) pe_int (nomark _)))) pa_nil)) pa_nil)))))))), ?_⟩
    obtain ⟨hlz, hz1, hz8⟩ := log_signs hsg
    walk_at "rds"
    refine spPick.mk (E := E0) hh (by omega) (by omega) fun n0 H1 hn0 hn1 k1 hh1 => ?_
    obtain ⟨n, en⟩ : ∃ n : Nat, 1 + n0 = (n : Int) := ⟨(1 + n0).toNat, by omega⟩
    have hnm : 1 ≤ n ∧ n ≤ 300 := by omega
    walk_at "rds"
    rw [en]
    walk_at "rds"
    refine RD.lcW (walk_range (lo := 0) (n := Int.toNat (n : Int))) (by omega) fun D H2 hD s2 hv2 => ⟨fun i acc H' => ∃ rws : List (List Nat), SPE.KX x H1 H' ∧ BagOk H' x ∧ RL H' acc rws ∧ rws.length = i ∧ (∀ r, r ∈ rws → r.length = z.cps.size) ∧ (∀ r, r ∈ rws → ∀ k, k ∈ r → k < n), ⟨[], SPE.kx_of s2, hh1.same s2, .nil, rfl, fun r h => (nomatch h), fun r h => (nomatch h)⟩, fun _ _ _ _ _ => trivial, fun i v acc H3 H4 Z N hi hp hDa hy hZ hN => ?_, fun acc H3 hp hDa => ?_⟩
    · obtain ⟨rws, k3, hh3, hrl, hrn, hrw, hrlow⟩ := hp
      obtain ⟨rfl, rfl⟩ := hy
      have nD : SPE.Off D x := hand_ne hD hh1
      walk_at "rds"
      refine ⟨rfl, ?_⟩
      walk_at "rds"
      refine RD.lcW RB.w_str (by omega) fun D5 H5 hD5 s5 hv5 => ⟨fun j acc5 H' => ∃ ns : List Nat, SPE.KX x H4 H' ∧ BagOk H' x ∧ acc5 = ns.map (fun k => V.int (k : Nat)) ∧ ns.length = j ∧ (∀ k, k ∈ ns → k < n), ⟨[], SPE.kx_of s5, hh3.same s5, rfl, rfl, fun r h => (nomatch h)⟩, fun _ _ _ _ _ => trivial, fun j v acc5 H6 H7 Z5 N5 hj hp hDa5 hy hZ5 hN5 => ?_, fun acc5 H6 hp hDa5 => ?_⟩
      · obtain ⟨ns, k6, hh6, rfl, hnl, hnlow⟩ := hp
        obtain ⟨rfl, hx⟩ := hy
        have nD5 : SPE.Off D5 x := hand_ne hD5 hh3
        walk_at "rds"
        refine ⟨rfl, ?_⟩
        walk_at "rds"
        refine spPick.mk (E := E0) hh6 (by omega) (by omega) fun r H8 hr0 hr1 k8 hh8 => ?_
        obtain ⟨rn, rfl⟩ : ∃ rn : Nat, r = (rn : Int) := ⟨r.toNat, (Int.toNat_of_nonneg hr0).symm⟩
        refine hZ5 _ _ (k8 _ _ nD5 hDa5) fun H9 k9 h9 => ⟨ns ++ [rn], SPE.kx_mut k9 (k6.trans k8) hD5, hh8.mut k9 nD5, by rw [List.map_append]; rfl, by rw [List.length_append, hnl]; rfl, fun k hk => ?_⟩
        rcases List.mem_append.mp hk with e | e
        · exact hnlow k e
        · rw [List.mem_singleton.mp e]
          omega
      · obtain ⟨ns, k6, hh6, rfl, hnl, hnlow⟩ := hp
        walk_at "rds"
        have hD6 := k6 _ _ nD hDa
        refine hZ _ _ (hs _ _ hD6) fun H8 k8 h8 => ⟨rws ++ [ns], SPE.kx_mut k8 ((k3.trans k6).trans (SPE.kx_of hs)) hD, (hh6.same hs).mut k8 nD, ?_, by rw [List.length_append, hrn]; rfl, fun r hr => ?_, fun r hr => ?_⟩
        · exact (((hrl.of (kx_tup k6 hh3)).same hs).app (.cons hv .nil)).of (kb_tup k8 (hs _ _ hD6))
        · rcases List.mem_append.mp hr with e | e
          · exact hrw r e
          · rw [List.mem_singleton.mp e]
            exact hnl
        · rcases List.mem_append.mp hr with e | e
          · exact hrlow r e
          · rw [List.mem_singleton.mp e]
            exact hnlow
    · obtain ⟨rws, k3, hh3, hrl, hrn, hrw, hrlow⟩ := hp
      walk_at "rds"
      have hrl4 := hrl.same hs
      have hh4 := hh3.same hs
      have k4 : SPE.KX x H H' := (k1.trans k3).trans (SPE.kx_of hs)
      have hra := hv
      clear hv hs hp hDa hD
      generalize p' = ra at hra
      generalize H' = H4 at hrl4 hh4 k4 hra
      refine RD.lcW (walk_range (lo := 0) (n := Int.toNat (n : Int))) (by omega) fun D5 H5 hD5 s5 hv5 => ⟨fun j acc5 H' => ∃ bs : List Bool, SPE.KX x H4 H' ∧ BagOk H' x ∧ acc5 = bs.map V.bl ∧ bs.length = j, ⟨[], SPE.kx_of s5, hh4.same s5, rfl, rfl⟩, fun _ _ _ _ _ => trivial, fun j v acc5 H6 H7 Z5 N5 hj hp hDa5 hy hZ5 hN5 => ?_, fun acc5 H6 hp hDa5 => ?_⟩
      · obtain ⟨bs, k6, hh6, rfl, hbl⟩ := hp
        obtain ⟨rfl, rfl⟩ := hy
        have nD5 : SPE.Off D5 x := hand_ne hD5 hh4
        walk_at "rds"
        refine ⟨rfl, ?_⟩
        walk_at "rds"
        refine spPick.mk (E := E0) hh6 (by decide) (by decide) fun r H8 hr0 hr1 k8 hh8 => ?_
        walk_at "rds"
        exact hZ5 _ _ (k8 _ _ nD5 hDa5) fun H9 k9 h9 => ⟨bs ++ [_], SPE.kx_mut k9 (k6.trans k8) hD5, hh8.mut k9 nD5, by rw [List.map_append]; rfl, by rw [List.length_append, hbl]; rfl⟩
      · obtain ⟨bs, k6, hh6, rfl, hbl⟩ := hp
        have hra6 := kx_tup k6 hh4 _ _ hra
        have hrl6 := hrl4.of (kx_tup k6 hh4)
        have k06 := k4.trans k6
        walk_at "rds"
        have hn2 : (n : Int).toNat = n := rfl
        rw [hn2] at hrn hbl
        have e1 := hrl.len
        exact q _ (.ref ra) _ rws bs _ (by walk_at "kx") (by walk_at "hk") hv ⟨ra, _, acc, rfl, rfl, by walk_at "hp", hrl6.same (by walk_at "sm"), by walk_at "hp"⟩ ⟨hsg, by omega, by omega, hrw, by rw [hrn]; exact hrlow, by omega⟩
theorem ok_walk (T : Txt P K mg) : FnOk P w K mg base CX0 1 T.a_walk T.fd_walk ["_law_parts_here", "_law_text_here"] spWalk := by
  have nd := sc_walk.nd
  refine T.F_walk.ok sc_walk (fun vs H Q E h => ?_) (fun cdv A outer s H vs Q E hr h => ?_)
  · obtain ⟨t, z, u, r, l, rws, ls, rfl, _⟩ := h
    rfl
  · obtain ⟨t, z, u, r, l, rws, ls, rfl, ht, hp, g, ho, hu, q⟩ := h
    refine ⟨_, (pss_cons (ps_set (i := 2) nd rfl (by first | exact Or.inl rfl | exact Or.inr rfl) pe_int)
  (pss_cons (ps_for PassesOwn.never rfl (pi_str (pv 1)) (pg_name (i := 3) nd rfl (by first | exact Or.inl rfl | exact Or.inr rfl))
    (pss_one (ps_set (i := 2) nd rfl (by first | exact Or.inl rfl | exact Or.inr rfl) (pe_ix ix_tup (pe_ix ix_tup (pe_ix ix_tup (pv 0) pe_int (fun _ _ => rfl)) (pv 2) (fun _ _ => rfl)) (pe_bm PySem.F.plainAttrs_str PySem.F.slot_str_index PySem.F.type_str_index mt_sindex (pe_ix ix_tup (pv 0) pe_int (fun _ _ => rfl)) (pa_cons (pv 3) pa_nil)) (fun _ _ => rfl)))))
  (pss_one (ps_ret (pv 2))))), ?_⟩
    have hmem : ∀ c, c ∈ u.cps.toList → c ∈ z.cps.toList := fun c hc => of_decide_eq_true (List.all_eq_true.mp ho c hc)
    walk_at "rds"
    refine RD.forW (RB.w_str (z := u)) (fun i σ H' => ∃ x3, σ = [some (.ref t), some (.str u), some (.int (walkN z rws 0 (u.cps.toList.take i) : Nat)), x3] ∧ Same H H') ⟨_, rfl, Same.refl _⟩ (fun _ _ _ _ _ => trivial) (fun i x σ H2 H3 hi hp2 hy => ?_) (fun σ H2 hp2 => ?_)
    · obtain ⟨x3, rfl, s2⟩ := hp2
      obtain ⟨rfl, hx⟩ := hy
      rw [List.getElem?_map] at hx
      obtain ⟨c, hc, rfl⟩ := Option.map_eq_some_iff.mp hx
      obtain ⟨ra, la, rs, rfl, rfl, h1, h2, h3⟩ := hp.same s2
      have ht2 := s2 _ _ ht
      have hcz := hmem c (List.mem_of_getElem? hc)
      obtain ⟨ns, n, e1, e2, e3, hn⟩ := step_low g (walk_low g (u.cps.toList.take i) 0 g.some (fun d hd => hmem d (List.mem_of_mem_take hd))) hcz
      obtain ⟨a, ea, ha⟩ := h2.get _ _ e1
      walk_at "rds"
      refine RD.ixT (by walk_at "st") rfl ?_
      walk_at "rds"
      refine RD.ixT (by walk_at "st") (atI_nat ea) ?_
      walk_at "rds"
      refine RD.ixT (by walk_at "st") rfl ?_
      walk_at "rds"
      refine SPE.sindex hcz ?_
      refine RD.ixT (by walk_at "st") (atI_nat (by rw [List.getElem?_map, e2]; rfl)) ?_
      walk_at "rds"
      exact ⟨_, by rw [walk_succ hc, e3]; rfl, s2⟩
    · obtain ⟨x3, rfl, s2⟩ := hp2
      walk_at "rds"
      have e : u.cps.toList.take u.cps.size = u.cps.toList := List.take_of_length_le (by rw [Array.length_toList]; exact Nat.le_refl _)
      rw [e]
      exact q _ s2
theorem ok_lets (T : Txt P K mg) : FnOk P w K mg base CX0 2 T.a_lets T.fd_lets ["_law_parts_here", "_law_text_here"] spLets := by
  have nd := sc_lets.nd
  have G_walk : FnOk P w K mg base CX0 1 T.a_walk T.fd_walk ["_law_parts_here", "_law_text_here"] spWalk := ok_walk T
  refine T.F_lets.ok sc_lets (fun vs H Q E h => ?_) (fun cdv A outer s H vs Q E hr h => ?_)
  · obtain ⟨t, z, u, r, l, rws, ls, rfl, _⟩ := h
    rfl
  · obtain ⟨t, z, u, r, l, rws, ls, rfl, ht, hp, g, ho, hu, q⟩ := h
    refine ⟨_, (pss_one (ps_ret (pe_ix ix_tup (pe_ix ix_tup (pv 0) pe_int (fun _ _ => rfl)) (pe_call G_walk hr (by rfl) T.g_walk T.F_walk.kp T.b_walk .nil pass0 (pa_cons (pv 0) (pa_cons (pv 1) pa_nil))) (fun _ _ => rfl)))), ?_⟩
    have hmem : ∀ c, c ∈ u.cps.toList → c ∈ z.cps.toList := fun c hc => of_decide_eq_true (List.all_eq_true.mp ho c hc)
    walk_at "rds"
    refine RD.ixT (by walk_at "st") rfl ?_
    walk_at "rds"
    refine ⟨t, z, u, r, l, rws, ls, rfl, ht, hp, g, ho, hu, fun H2 s2 => ?_⟩
    have hlow := walk_low g u.cps.toList 0 g.some hmem
    obtain ⟨ra, la, rs, rfl, rfl, h1, h2, h3⟩ := hp.same s2
    have hg : (ls.map V.bl)[walkN z rws 0 u.cps.toList]? = some (.bl (ls.getD (walkN z rws 0 u.cps.toList) false)) := by
      have hl : walkN z rws 0 u.cps.toList < ls.length := by rw [g.lets]; exact hlow
      rw [List.getElem?_map, List.getElem?_eq_getElem hl, getD_of (List.getElem?_eq_getElem hl)]
      rfl
    refine RD.ixT (by walk_at "st") (atI_nat hg) ?_
    exact q _ s2
theorem ok_text (T : Txt P K mg) : FnOk P w K mg base CX0 3 T.a_text T.fd_text ["_law_bag_here", "_law_own", "_law_most"] spText := by
  have nd := sc_text.nd
  have G_pick : FnOk P w K mg base CX0 2 T.a_pick T.fd_pick ["_law_bag_here", "_law_many"] spPick := (ok_pick T).mono (by decide)
  have G_some : FnOk P w K mg base CX0 2 T.a_some T.fd_some ["_law_bag_here", "_law_things"] (spSome K) := ok_some T
  refine T.F_text.ok sc_text (fun vs H Q E h => ?_) (fun cdv A outer s H vs Q E hr h => ?_)
  · obtain ⟨x, z, m, rfl, _⟩ := h
    rfl
  · obtain ⟨x, z, m, rfl, hh, hz1, hz2, hm, q⟩ := h
    refine ⟨_, (pss_one (ps_ret (pe_join pe_str (pe_lc (own := [("_law_letter", 3)]) (g := (gName 3)) rfl nd (pi_range1 (by rfl) T.m_range (pa_cons (pe_call G_pick hr (by rfl) T.g_pick T.F_pick.kp T.b_pick .nil pass0 (pa_cons (pv 0) (pa_cons (pe_op op_add (pv 2) pe_int) pa_nil))) pa_nil)) (blkOk_by (own := [("_law_letter", 3)]) (N := N_text) (sc := defScope s_text) (by decide +kernel)) (fun _ _ _ _ _ => (pg_name (i := 3) nd rfl (Or.inl rfl))) (fun _ _ _ _ _ => pts_nil) (fun _ _ _ _ _ => (pe_call G_some hr (by rfl) T.g_some T.F_some.kp T.b_some .nil pass0 (pa_cons (pv 0) (pa_cons (pv 1) pa_nil)))))))), ?_⟩
    walk_at "rds"
    refine spPick.mk (E := E0) hh (by omega) (by omega) fun n H1 hn0 hn1 k1 hh1 => ?_
    walk_at "rds"
    refine RD.lcW (walk_range (lo := 0) (n := Int.toNat n)) (by omega) fun D H4 hD s4 hv4 => ⟨fun i bs H' => ∃ cs : List Nat, bs = (cs.map fun c => (⟨#[c]⟩ : Str)).map V.str ∧ cs.length = i ∧ (∀ c, c ∈ cs → c ∈ z.cps.toList) ∧ SPE.KX x H1 H' ∧ BagOk H' x,
      ⟨[], rfl, rfl, fun z hz => (List.not_mem_nil hz).elim, SPE.kx_of s4, hh1.same s4⟩, fun _ _ _ _ _ => trivial, fun i v bs H5 H6 Z N hi hp hDa hy hZ hN => ?_, fun bs H5 hp hDa => ?_⟩
    · obtain ⟨cs, rfl, hsl, hsa, k5, hh5⟩ := hp
      obtain ⟨rfl, rfl⟩ := hy
      have nD : SPE.Off D x := hand_ne hD hh1
      walk_at "rds"
      refine ⟨rfl, ?_⟩
      walk_at "rds"
      have hl : (z.cps.toList.map fun c => V.str ⟨#[c]⟩).length = z.cps.size := by rw [List.length_map, Array.length_toList]
      refine spSome.mk (E := E0) hh5 (.str (small_len (by omega))) (by rw [hl]; omega) (by rw [hl]; omega) fun v H7 hv k7 hh7 => ?_
      obtain ⟨c, hc, rfl⟩ := List.mem_map.mp hv
      refine hZ _ _ (k7 _ _ nD hDa) fun H8 k8 hv8 => ⟨cs ++ [c], by rw [List.map_append, List.map_append]; rfl, by rw [List.length_append, hsl]; rfl, fun y hy => ?_, SPE.kx_mut k8 (k5.trans k7) hD, hh7.mut k8 nD⟩
      rcases List.mem_append.mp hy with h | h
      · exact hsa y h
      · rw [List.mem_singleton.mp h]
        exact hc
    · obtain ⟨cs, rfl, hsl, hsa, k5, hh5⟩ := hp
      have hss : ((cs.map fun c => (⟨#[c]⟩ : Str)).map (·.length)).sum = cs.length := by
        have : ∀ l : List Nat, ((l.map fun c => (⟨#[c]⟩ : Str)).map (·.length)).sum = l.length := by
          intro l
          induction l with
          | nil => rfl
          | cons a l ih => rw [List.map_cons, List.map_cons, List.sum_cons, ih, List.length_cons, Nat.add_comm]; rfl
        exact this cs
      have hjs := join_size (cs.map fun c => (⟨#[c]⟩ : Str))
      walk_at "rds"
      refine RB.joinV (.inl (by walk_at "sq")) (by show _ + _ * 0 ≤ _; omega) ?_
      refine q _ _ (k1.trans k5) hh5 ?_ (by omega)
      unfold ofB
      rw [List.all_eq_true, join_cps]
      intro c hc
      obtain ⟨l, hl, hcl⟩ := List.mem_flatten.mp hc
      obtain ⟨y, hy, rfl⟩ := List.mem_map.mp hl
      obtain ⟨d, hd, rfl⟩ := List.mem_map.mp hy
      have e : c = d := by simpa using hcl
      rw [e]
      exact decide_eq_true (hsa d hd)
theorem ok_int (T : Txt P K mg) : FnOk P w K mg base CX0 1 T.a_int T.fd_int ["_law_thing", "_law_many"] spIntM := by
  have nd := sc_int.nd
  refine T.F_int.ok sc_int (fun vs H Q E h => ?_) (fun cdv A outer s H vs Q E hr h => ?_)
  · obtain ⟨x, n, v, many, rfl, _⟩ := h
    rfl
  · obtain ⟨x, n, v, many, rfl, hd, q⟩ := h
    refine ⟨_, (pss_one (ps_ret (pe_and (pe_callB call_isi (by rfl) T.m_isinstance (by decide +kernel) (pa_cons (pv 0) (pa_cons (pe_bltn (v := .ty "int") (by rfl) T.m_int (by decide +kernel) rfl) pa_nil))) (pe_and (pe_not (pe_callB call_isi (by rfl) T.m_isinstance (by decide +kernel) (pa_cons (pv 0) (pa_cons (pe_bltn (v := .ty "bool") (by rfl) T.m_bool (by decide +kernel) rfl) pa_nil)))) (pe_one (pe_chain op_le op_lt pe_int (pv 0) (pv 1))))))), ?_⟩
    obtain ⟨k, hk⟩ := hd.kd (K := K)
    walk_at "rds"
    refine RD.ite_d (fun e => ?_) (fun ne => ?_)
    · walk_at "rds"
      refine RD.ite_nd (fun n2 => ?_) (fun e2 => ?_)
      · cases hk with
        | int i =>
          walk_at "rds"
          refine RD.ite_d (fun h1 => ?_) (fun h1 => ?_)
          · walk_at "rds"
            have e2 : withV (.int i) 0 ((many : Int) - 1) = decide (i < (many : Int)) := by
              show (decide ((0 : Int) ≤ i) && decide (i ≤ (many : Int) - 1)) = _
              rw [decide_eq_true h1, Bool.true_and]
              exact decide_eq_decide.mpr (by omega)
            rw [← e2]
            exact q _ (Same.refl _)
          · have e2 : withV (.int i) 0 ((many : Int) - 1) = false := by
              show (decide ((0 : Int) ≤ i) && decide (i ≤ (many : Int) - 1)) = _
              rw [decide_eq_false h1, Bool.false_and]
            rw [e2] at q
            exact q _ (Same.refl _)
        | bl b => exact absurd rfl n2
        | _ => exfalso; revert e; decide
      · have e2 : withV v 0 ((many : Int) - 1) = false := by
          cases hk <;> first | rfl | (exfalso; revert e2; decide)
        rw [e2] at q
        exact q _ (Same.refl _)
    · have e2 : withV v 0 ((many : Int) - 1) = false := by
        cases hk <;> first | rfl | (exfalso; exact ne (by decide))
      rw [e2] at q
      exact q _ (Same.refl _)
theorem ok_flag (T : Txt P K mg) : FnOk P w K mg base CX0 1 T.a_flag T.fd_flag ["_law_told_here", "_law_due_here"] spFlag := by
  have nd := sc_flag.nd
  refine T.F_flag.ok sc_flag (fun vs H Q E h => ?_) (fun cdv A outer s H vs Q E hr h => ?_)
  · obtain ⟨b, c, rfl, _⟩ := h
    rfl
  · obtain ⟨b, c, rfl, q⟩ := h
    refine ⟨_, (pss_one (ps_ret (pe_and (pe_callB call_isi (by rfl) T.m_isinstance (by decide +kernel) (pa_cons (pv 0) (pa_cons (pe_bltn (v := .ty "bool") (by rfl) T.m_bool (by decide +kernel) rfl) pa_nil))) (pe_one (pe_cmpR op_eq (pv 0) (pv 1) (nomark _)))))), ?_⟩
    walk_at "rds"
    refine RD.ite_d (fun _ => ?_) (fun n => absurd rfl n)
    walk_at "rds"
    exact q
end


end K15

namespace K15
open PySem PySem.Spec PyProof.Rows L2
local macro_rules | `(tactic| walk_at "kd") => `(tactic| first | assumption | exact SPD.KdOf.int _ | exact SPD.KdOf.str _ | exact SPD.KdOf.bl _ | exact SPD.KdOf.non | exact SPD.KdOf.same (by assumption) (by walk_at "kd") | exact SPD.KdOf.tup (by walk_at "hp") | exact SPD.KdOf.lst (by walk_at "hp") | fail "no")
local macro_rules | `(tactic| walk_at "ne") => `(tactic| first | assumption | exact Ne.symm (by assumption) | fail "no")
local macro_rules | `(tactic| walk_at "hp") => `(tactic| first | assumption | exact RD.at_same (by assumption) (by walk_at "hp") | exact RD.at_kb (by assumption) (by walk_at "ne") (by walk_at "hp") | fail "no")
local macro_rules | `(tactic| walk_at "sq") => `(tactic| first | assumption | exact Or.inl (Or.inl (by walk_at "hp")) | exact Same.seq (by assumption) (by walk_at "sq") | exact RD.KB.seq (by assumption) (by walk_at "ne") (by walk_at "sq") | fail "no")
local macro_rules | `(tactic| walk_at "st") => `(tactic| first | assumption | exact Or.inl (Or.inl (by walk_at "hp")) | exact RD.Same.tup (by assumption) (by walk_at "st") | exact RD.KB.tup (by assumption) (by walk_at "ne") (by walk_at "st") | fail "no")
local macro_rules | `(tactic| walk_at "rd") => `(tactic| first
  | with_reducible refine RD.c ?_
  | ((with_reducible refine' RD.var ?rdE ?rdK); (case rdE => exact rfl))
  | with_reducible refine RD.op ?_
  | with_reducible refine RD.un ?_
  | with_reducible refine RD.nil ?_
  | with_reducible refine RD.cons ?_
  | with_reducible refine RD.cb ?_
  | with_reducible refine RD.call ?_
  | with_reducible refine RD.test ?_
  | with_reducible refine RD.tb' ?_
  | with_reducible refine RD.bl ?_
  | with_reducible refine RD.and' ?_
  | with_reducible refine RD.or' ?_
  | with_reducible refine RD.not' ?_
  | with_reducible refine RD.andV ?_
  | with_reducible refine RD.orV ?_
  | with_reducible refine RD.notV ?_
  | with_reducible refine RD.ife ?_
  | with_reducible refine RD.sl ?_
  | with_reducible refine RD.part ?_
  | with_reducible refine RD.noPart ?_
  | with_reducible refine RD.partI ?_
  | with_reducible refine RD.rd0 ?_
  | with_reducible refine RD.rdU ?_
  | ((with_reducible refine' RD.rdEq ?rdE ?rdK); (case rdE => rfl))
  | ((with_reducible refine' RD.rdNe ?rdE ?rdK); (case rdE => rfl))
  | ((with_reducible refine' RD.ixL ?rdH ?rdE ?rdK); (case rdH => walk_at "sq"); (case rdE => first | rfl | assumption))
  | ((with_reducible refine' RD.rdI ?rdC ?rdK); (case rdC => first | assumption | (show (0 : Int) < _; first | decide | omega) | exact ⟨by decide, by decide⟩ | exact ⟨by assumption, by assumption⟩ | exact .inr ⟨by decide, by decide⟩ | exact .inl ⟨by decide, by decide⟩ | exact ⟨by decide, by decide, by decide⟩ | exact .inl ⟨by omega, by omega⟩))
  | ((with_reducible refine' RD.setL ?rdH ?rdE ?rdK); (case rdH => walk_at "hp"); (case rdE => rfl); intro $(Lean.mkIdent `H'):ident $(Lean.mkIdent `hk):ident $(Lean.mkIdent `hv):ident)
  | ((with_reducible refine' RD.irng1V ?rdA ?rdB ?rdK); (case rdA => first | decide | omega); (case rdB => first | decide | omega))
  | with_reducible refine RD.int1 ?_
  | with_reducible refine RD.abs1 ?_
  | ((with_reducible refine' RD.len ?rdH ?rdK); (case rdH => first | exact Or.inl (by walk_at "sq") | exact Or.inr (by walk_at "st")))
  | with_reducible refine RD.tup ?_
  | with_reducible refine RD.lst ?_
  | with_reducible refine RD.ite1 ?_
  | with_reducible refine RD.ite0 ?_
  | with_reducible refine RD.ite1n ?_
  | with_reducible refine RD.ite0n ?_
  | with_reducible refine RD.seq ?_
  | with_reducible refine RD.asg ?_
  | with_reducible refine RD.name ?_
  | with_reducible refine RD.ret ?_
  | with_reducible refine RD.drop ?_
  | with_reducible refine RD.next ?_
  | with_reducible refine RD.ifs ?_
  | with_reducible refine RD.par ?_
  | with_reducible refine RD.par2 ?_
  | with_reducible refine RD.sub ?_
  | with_reducible refine RD.gcons ?_
  | with_reducible refine RD.gnil ?_
  | with_reducible refine RD.bm ?_
  | ((with_reducible refine' RD.bmL ?rdH ?rdK); (case rdH => walk_at "sq"))
  | ((with_reducible refine' RD.newZ ?rdH ?rdK); (case rdH => exact RD.sz _); intro $(Lean.mkIdent `p'):ident $(Lean.mkIdent `H'):ident $(Lean.mkIdent `hp):ident $(Lean.mkIdent `hs):ident $(Lean.mkIdent `hv):ident; (try have $(Lean.mkIdent `hn):ident := hand_ne $(Lean.mkIdent `hp):ident (by walk_at "hk")))
  | with_reducible refine RD.fors ?_
  | with_reducible refine RD.lc ?_
  | with_reducible refine RD.yes ?_
  | with_reducible refine RD.ilist ?_
  | ((with_reducible refine' RD.ilistV ?rdH ?rdK); (case rdH => walk_at "sq"))
  | with_reducible refine RD.itup ?_
  | ((with_reducible refine' RD.itupV ?rdH ?rdK); (case rdH => walk_at "st"))
  | with_reducible refine RD.irng1 ?_
  | with_reducible refine RD.irng2 ?_
  | ((with_reducible refine' RD.irng2V ?rdA ?rdK); (case rdA => first | decide | omega))
  | with_reducible refine RD.ienum ?_
  | ((with_reducible refine' RD.ienumV ?rdH ?rdK); (case rdH => walk_at "sq"))
  | with_reducible refine RD.izip ?_
  | ((with_reducible refine' RD.izipV ?rdH ?rdE ?rdK); (case rdH => walk_at "sq"); (case rdE => walk_at "sq"))
  | with_reducible refine SPD.izipA ?_
  | with_reducible refine RD.istr ?_
  | with_reducible refine RD.istrV ?_
  | ((with_reducible refine' RD.slL ?rdH ?rdK); (case rdH => walk_at "sq"); intro $(Lean.mkIdent `p'):ident $(Lean.mkIdent `H'):ident $(Lean.mkIdent `hp):ident $(Lean.mkIdent `hs):ident $(Lean.mkIdent `hv):ident; (try have $(Lean.mkIdent `hn):ident := hand_ne $(Lean.mkIdent `hp):ident (by walk_at "hk")))
  | ((with_reducible refine' RD.cat ?rdH ?rdE ?rdZ ?rdK); (case rdH => walk_at "hp"); (case rdE => walk_at "hp"); (case rdZ => exact RD.sz _); intro $(Lean.mkIdent `p'):ident $(Lean.mkIdent `H'):ident $(Lean.mkIdent `hp):ident $(Lean.mkIdent `hs):ident $(Lean.mkIdent `hv):ident; (try have $(Lean.mkIdent `hn):ident := hand_ne $(Lean.mkIdent `hp):ident (by walk_at "hk")))
  | ((with_reducible refine' RD.gtup ?rdH ?rdE ?rdK); (case rdH => walk_at "st"); (case rdE => rfl))
  | ((with_reducible refine' RD.app ?rdH ?rdZ ?rdK); (case rdH => walk_at "hp"); (case rdZ => first | assumption | (apply RD.szl; omega)); intro $(Lean.mkIdent `H'):ident $(Lean.mkIdent `hk):ident $(Lean.mkIdent `hv):ident)
  | ((with_reducible refine' RD.all1 ?rdH ?rdK); (case rdH => walk_at "sq"))
  | ((with_reducible refine' RD.any1 ?rdH ?rdK); (case rdH => walk_at "sq"))
  | ((with_reducible refine' SPD.dnew ?rdK); intro $(Lean.mkIdent `p'):ident $(Lean.mkIdent `H'):ident $(Lean.mkIdent `hp):ident $(Lean.mkIdent `hs):ident $(Lean.mkIdent `hv):ident; (try have $(Lean.mkIdent `hn):ident := hand_ne $(Lean.mkIdent `hp):ident (by walk_at "hk")))
  | ((with_reducible refine' SPD.disp1 ?rdK); intro $(Lean.mkIdent `p'):ident $(Lean.mkIdent `H'):ident $(Lean.mkIdent `hp):ident $(Lean.mkIdent `hs):ident $(Lean.mkIdent `hv):ident; (try have $(Lean.mkIdent `hn):ident := hand_ne $(Lean.mkIdent `hp):ident (by walk_at "hk")))
  | ((with_reducible refine' SPD.isSeq ?rdH ?rdE ?rdK); (case rdH => walk_at "hp"); (case rdE => walk_at "kd"))
  | ((with_reducible refine' SPD.isTup ?rdE ?rdK); (case rdE => walk_at "kd"))
  | ((with_reducible refine' SPD.isLst ?rdE ?rdK); (case rdE => walk_at "kd"))
  | ((with_reducible refine' SPD.isBool ?rdE ?rdK); (case rdE => walk_at "kd"))
  | ((with_reducible refine' SPD.isStr ?rdE ?rdK); (case rdE => walk_at "kd"))
  | ((with_reducible refine' SPD.isInt ?rdE ?rdK); (case rdE => walk_at "kd"))
  | dsimp only)
local macro_rules | `(tactic| walk_at "rds") => `(tactic| repeat walk_at "rd")
local macro_rules | `(tactic| walk_at "sm") => `(tactic| first | assumption | exact Same.refl _ | exact RD.sm_tr (by assumption) (by walk_at "sm") | fail "no")
local macro_rules | `(tactic| walk_at "kb") => `(tactic| first | assumption | exact RD.KB.refl | exact RD.kb_tr (by assumption) (by walk_at "kb") | exact RD.kb_trs (by assumption) (by walk_at "kb") | fail "no")
local macro_rules | `(tactic| walk_at "fr") => `(tactic| first | assumption | exact RD.fr_of (by assumption) (by walk_at "sm") | fail "no")
local macro_rules | `(tactic| walk_at "hk") => `(tactic| first | assumption | exact hand_same (by assumption) (by walk_at "hk") | exact hand_kb (by assumption) (by walk_at "fr") (by walk_at "hk") | fail "no")
local macro_rules | `(tactic| walk_at "na") => `(tactic| first | assumption | exact hand_ne (by assumption) (by walk_at "hk") | fail "no")
local macro_rules | `(tactic| walk_at "dqa") => `(tactic| first | exact SPD.DqA.nil | exact SPD.DqA.cons (by walk_at "dq") (by walk_at "dqa") | exact SPD.DqA.app (by walk_at "dqa") (by walk_at "dqa") | fail "no")
local macro_rules | `(tactic| walk_at "dq") => `(tactic| first | assumption | exact SPD.Dq.leaf rfl | exact SPD.dq_kb (by assumption) (by walk_at "kb") | exact SPD.dqTup (by walk_at "hp") (by walk_at "na") (by walk_at "dqa") | exact SPD.dqLst (by walk_at "hp") (by walk_at "na") (by walk_at "dqa") | exact SPD.dqNil (by walk_at "hp") (by walk_at "na") (by first | decide | simp) (by first | decide | simp) | fail "no")

local macro_rules | `(tactic| walk_at "rd") => `(tactic| first
  | with_reducible refine RB.chain ?_
  | with_reducible refine RB.m1 ?_
  | with_reducible refine RB.strE ?_
  | with_reducible refine RB.fld ?_
  | with_reducible refine RB.setF ?_
  | with_reducible refine RB.ss ?_
  | with_reducible refine RB.rev ?_
  | with_reducible refine RB.make ?_
  | with_reducible refine RB.makeS ?_
  | with_reducible refine RB.mkO ?_
  | with_reducible refine NR.ienumT ?_
  | with_reducible refine RB.inS ?_
  | with_reducible refine RB.bmS ?_
  | with_reducible refine RB.callS ?_
  | with_reducible refine RB.sw3 ?_
  | with_reducible refine RB.par3 ?_
  | with_reducible refine RB.par3V ?_
  | ((with_reducible refine' RB.slS ?rdH ?rdK); (case rdH => walk_at "sz"))
  | with_reducible refine RB.xf ?_
  | ((with_reducible refine' RB.xfV ?rdH ?rdE ?rdK); (case rdH => walk_at "hp"); (case rdE => rfl))
  | ((with_reducible refine' NR.ienumTV ?rdH ?rdK); (case rdH => walk_at "st"))
  | ((with_reducible refine' RB.lenL ?rdH ?rdK); (case rdH => walk_at "sq"))
  | ((with_reducible refine' RB.lenT ?rdH ?rdK); (case rdH => walk_at "st"))
  | ((with_reducible refine' RB.lenS ?rdH ?rdK); (case rdH => walk_at "sz"))
  | ((with_reducible refine' RD.lenS ?rdH ?rdK); (case rdH => walk_at "sz"))
  | ((with_reducible refine' RB.slT ?rdH ?rdK); (case rdH => walk_at "hp"); intro $(Lean.mkIdent `p'):ident $(Lean.mkIdent `H'):ident $(Lean.mkIdent `hs):ident $(Lean.mkIdent `hv):ident $(Lean.mkIdent `hp):ident; (try have $(Lean.mkIdent `hn):ident := two_ne $(Lean.mkIdent `hp):ident (by walk_at "na") (by walk_at "hk")))
  | ((with_reducible refine' RB.revV ?rdH ?rdK); (case rdH => walk_at "st"); intro $(Lean.mkIdent `p'):ident $(Lean.mkIdent `H'):ident $(Lean.mkIdent `hp):ident $(Lean.mkIdent `hs):ident $(Lean.mkIdent `hv):ident; (try have $(Lean.mkIdent `hn):ident := hand_ne $(Lean.mkIdent `hp):ident (by walk_at "hk")))
  | ((with_reducible refine' RB.listS ?rdH ?rdK); (case rdH => walk_at "sz"); intro $(Lean.mkIdent `p'):ident $(Lean.mkIdent `H'):ident $(Lean.mkIdent `hp):ident $(Lean.mkIdent `hs):ident $(Lean.mkIdent `hv):ident; (try have $(Lean.mkIdent `hn):ident := hand_ne $(Lean.mkIdent `hp):ident (by walk_at "hk")))
  | ((with_reducible refine' RB.listO ?rdH ?rdK); (case rdH => first | exact Or.inl (by walk_at "sq") | exact Or.inr (by walk_at "st")); intro $(Lean.mkIdent `p'):ident $(Lean.mkIdent `H'):ident $(Lean.mkIdent `hp):ident $(Lean.mkIdent `hs):ident $(Lean.mkIdent `hv):ident; (try have $(Lean.mkIdent `hn):ident := hand_ne $(Lean.mkIdent `hp):ident (by walk_at "hk")))
  | ((with_reducible refine' RB.tupL ?rdH ?rdK); (case rdH => walk_at "sq"); intro $(Lean.mkIdent `p'):ident $(Lean.mkIdent `H'):ident $(Lean.mkIdent `hp):ident $(Lean.mkIdent `hs):ident $(Lean.mkIdent `hv):ident; (try have $(Lean.mkIdent `hn):ident := hand_ne $(Lean.mkIdent `hp):ident (by walk_at "hk")))
  | ((with_reducible refine' RB.catT ?rdH ?rdE ?rdZ ?rdK); (case rdH => walk_at "hp"); (case rdE => walk_at "hp"); (case rdZ => exact RB.LN.sum (by walk_at "ln") (by walk_at "ln") rfl); intro $(Lean.mkIdent `p'):ident $(Lean.mkIdent `H'):ident $(Lean.mkIdent `hs):ident $(Lean.mkIdent `hv):ident $(Lean.mkIdent `hp):ident; (try have $(Lean.mkIdent `hn):ident := three_ne $(Lean.mkIdent `hp):ident (by walk_at "na") (by walk_at "na") (by walk_at "hk")))
  | fail "no")
local macro_rules | `(tactic| walk_at "ln") => `(tactic| first | with_reducible assumption | exact RB.LN.cut (by walk_at "ln") | exact RB.LN.app (by walk_at "ln") (by walk_at "ln") | exact RB.LN.rev (by walk_at "ln") | exact RB.LN.rep (by walk_at "ln") | exact RB.LN.lit rfl | fail "no")
local macro_rules | `(tactic| walk_at "sz") => `(tactic| first | assumption | exact RD.sz _ | fail "no")

section
variable {P : Program} {w : World} {K : PySem.W.Frag} {mg : Str → Option Value} {base : Heap}
theorem ok_due (T : Txt P K mg) : FnOk P w K mg base CX0 2 T.a_due T.fd_due ["_law_signs", "_law_rows", "_law_lets_here"] spDueM := by
  have nd := sc_due.nd
  have G_int : FnOk P w K mg base CX0 1 T.a_int T.fd_int ["_law_thing", "_law_many"] spIntM := ok_int T
  refine T.F_due.ok sc_due (fun vs H Q E h => ?_) (fun cdv A outer s H vs Q E hr h => ?_)
  · obtain ⟨x, n, s, r, l, rfl, _⟩ := h
    rfl
  · obtain ⟨x, n, s, r, l, rfl, hds, hdr, hdl, hok, q⟩ := h
    refine ⟨_, (pss_cons (ps_if (PW.pt (pw_or (pt_not (pt_val (pe_callB call_isi (by rfl) T.m_isinstance (by decide +kernel) (pa_cons (pv 0) (pa_cons (pe_bltn (v := .ty "str") (by rfl) T.m_str (by decide +kernel) rfl) pa_nil))))) (pw_or (pt_not (pt_chain op_le op_le pe_int (pe_callB call_len_str (by rfl) T.m_len PySem.boot_len (pa_cons (pv 0) pa_nil)) pe_int)) (pw_or1 (pt_cmpR (op_neD hr.units) (pe_callTy (RB.call_listS rfl) (by rfl) T.m_list (by decide +kernel) (pa_cons (pv 0) pa_nil)) (SST.pe_ss (by rfl) T.m_sorted (by rfl) T.m_set (pv 0)) (nomark _))))))
    (pss_one (ps_ret pe_str))
    pss_nil)
  (pss_cons (ps_if (pt_not (pt_val (pe_callB (cr_all rfl) (by rfl) T.m_all (by decide +kernel) (pa_cons (pe_lc (own := [("_law_sign", 5)]) (g := (gName 5)) rfl nd (pi_str (pv 0)) (blkOk_by (own := [("_law_sign", 5)]) (N := N_due) (sc := defScope s_due) (by decide +kernel)) (fun _ _ _ _ _ => (pg_name (i := 5) nd rfl (Or.inl rfl))) (fun _ _ _ _ _ => pts_nil) (fun _ _ _ _ _ => (pe_cmpR op_in_sign (pv 5) pe_str (by first | rfl | exact nomark _)))) pa_nil))))
    (pss_one (ps_ret pe_str))
    pss_nil)
  (pss_cons (ps_if (PW.pt (pw_or (pt_not (pt_val (pe_callB call_isi (by rfl) T.m_isinstance (by decide +kernel) (pa_cons (pv 1) (pa_cons (pe_bltn (v := .ty "tuple") (by rfl) T.m_tuple (by decide +kernel) rfl) pa_nil))))) (pw_or1 (pt_not (pt_chain op_le op_le pe_int (pe_callB call_len_seq (by rfl) T.m_len PySem.boot_len (pa_cons (pv 1) pa_nil)) pe_int)))))
    (pss_one (ps_ret pe_str))
    pss_nil)
  (pss_cons (ps_for PassesOwn.never rfl (NR.pi_enumT (by rfl) T.m_enumerate (pa_cons (pv 1) pa_nil)) (pg_tup rfl (pgs_cons (pg_name (i := 3) nd rfl (by first | exact Or.inl rfl | exact Or.inr rfl)) (pgs_cons (pg_name (i := 4) nd rfl (by first | exact Or.inl rfl | exact Or.inr rfl)) pgs_nil)))
    (pss_one (ps_if (PW.pt (pw_or (pt_not (pt_val (pe_callB call_isi (by rfl) T.m_isinstance (by decide +kernel) (pa_cons (pv 4) (pa_cons (pe_bltn (v := .ty "tuple") (by rfl) T.m_tuple (by decide +kernel) rfl) pa_nil))))) (pw_or (pt_cmpR op_ne (pe_callB call_len_seq (by rfl) T.m_len PySem.boot_len (pa_cons (pv 4) pa_nil)) (pe_callB call_len_str (by rfl) T.m_len PySem.boot_len (pa_cons (pv 0) pa_nil)) (nomark _)) (pw_or1 (pt_not (pt_val (pe_callB (cr_all rfl) (by rfl) T.m_all (by decide +kernel) (pa_cons (pe_lc (own := [("_law_one", 6)]) (g := (gName 6)) rfl nd (pi_tup (pv 4)) (blkOk_by (own := [("_law_one", 6)]) (N := N_due) (sc := defScope s_due) (by decide +kernel)) (fun _ _ _ _ _ => (pg_name (i := 6) nd rfl (Or.inl rfl))) (fun _ _ _ _ _ => pts_nil) (fun _ _ _ _ _ => (pe_call G_int hr (by rfl) T.g_int T.F_int.kp T.b_int .nil pass0 (pa_cons (pv 6) (pa_cons (pe_callB (r := fun xs H Q => ∃ p ys, xs = [.ref p] ∧ (SqL K H p ys ∨ SqT K H p ys) ∧ Q (.int ys.length) H) call_len_seq (by rfl) T.m_len PySem.boot_len (pa_cons (pv 1) pa_nil)) pa_nil))))) pa_nil))))))))
    (pss_one (ps_ret (pv 3)))
    pss_nil)))
  (pss_cons (ps_if (PW.pt (pw_or (pt_not (pt_val (pe_callB call_isi (by rfl) T.m_isinstance (by decide +kernel) (pa_cons (pv 2) (pa_cons (pe_bltn (v := .ty "tuple") (by rfl) T.m_tuple (by decide +kernel) rfl) pa_nil))))) (pw_or (pt_cmpR op_ne (pe_callB call_len_seq (by rfl) T.m_len PySem.boot_len (pa_cons (pv 2) pa_nil)) (pe_callB call_len_seq (by rfl) T.m_len PySem.boot_len (pa_cons (pv 1) pa_nil)) (nomark _)) (pw_or1 (pt_not (pt_val (pe_callB (cr_all rfl) (by rfl) T.m_all (by decide +kernel) (pa_cons (pe_lc (own := [("_law_one", 6)]) (g := (gName 6)) rfl nd (pi_tup (pv 2)) (blkOk_by (own := [("_law_one", 6)]) (N := N_due) (sc := defScope s_due) (by decide +kernel)) (fun _ _ _ _ _ => (pg_name (i := 6) nd rfl (Or.inl rfl))) (fun _ _ _ _ _ => pts_nil) (fun _ _ _ _ _ => (pe_callB (r := rIsi K) call_isi (by rfl) T.m_isinstance (by decide +kernel) (pa_cons (pv 6) (pa_cons (pe_bltn (v := .ty "bool") (by rfl) T.m_bool (by decide +kernel) rfl) pa_nil))))) pa_nil))))))))
    (pss_one (ps_ret pe_str))
    pss_nil)
  (pss_one (ps_ret pe_non))))))), ?_⟩
    obtain ⟨ks, hks⟩ := hds.kd (K := K)
    walk_at "rds"
    refine RD.ite_nd (fun ne => ?_) (fun e => ?_)
    · have e : signsV s = false := by
        cases hks <;> first | rfl | exact absurd rfl ne
      rw [mdue_signs e] at q
      walk_at "rds"
      exact q _ (Same.refl _)
    · subst e
      cases hks with
      | str z =>
        have hz := str_small hds
        have hzl : z.length = z.cps.size := rfl
        have hzs : z.length ≤ sizeLine := small_len hz
        have hzo : PyData.strOk z = true := (hok z rfl).ok
        have nosg : signsB z = false → ∀ H', Same H H' → Q (.str "signs") H' := fun h H' s => by
          rw [mdue_signs (show signsV (.str z) = false from h)] at q
          exact q _ s
        have bad : ¬ (1 ≤ z.cps.size ∧ z.cps.size ≤ 8) → signsB z = false := fun h => by
          unfold signsB
          rw [← Bool.decide_and, decide_eq_false h, Bool.false_and]
        walk_at "rds"
        refine RD.ite_d (fun h1 => ?_) (fun h1 => ?_)
        · walk_at "rds"
          refine RD.ite_nd (fun h8 => ?_) (fun h8 => ?_)
          · walk_at "rds"
            exact nosg (bad (by omega)) _ (Same.refl _)
          · have e : signsB z = (logB z && ascB z) := by
              unfold signsB
              rw [← Bool.decide_and, decide_eq_true (by omega), Bool.true_and]
            walk_at "rds"
            rw [chars_map] at hv
            refine RB.ssV (by omega) fun ys p H2 ho hp2 s2 hv2 => ?_
            refine RD.neD (.lst (.inl (.inl (s2 _ _ hv))) (dp_strs (chars z))) (.lst (.inl (.inl hv2)) (dp_strs ys)) (shaped_texts (chars_ok hzo)) (shaped_texts (own_ok ho hzo)) ?_
            rw [eqv_lists, asc_eq ho]
            have s02 := hs.trans s2
            clear hv hs hp hp2 hv2
            walk_at "rds"
            refine RD.ite_b (fun ha => ?_) (fun ha => ?_)
            · have ha : ascB z = false := by simpa using ha
              walk_at "rds"
              exact nosg (by rw [e, ha, Bool.and_false]) _ s02
            · have ha : ascB z = true := by simpa using ha
              walk_at "rds"
              refine RD.lcF RB.w_str (by omega) (fun i => (z.cps.toList[i]?).map fun c => V.bl (decide (c ∈ lets))) (fun _ _ => trivial) (fun i x H' Z N hi hx s hZ hN => ?_) (fun D H1 hD s1 hv => ?_)
              · rw [List.getElem?_map] at hx
                obtain ⟨c, hc, rfl⟩ := Option.map_eq_some_iff.mp hx
                walk_at "rds"
                refine ⟨rfl, ?_⟩
                walk_at "rds"
                exact hZ _ _ (by rw [hc]; rfl) (Same.refl _)
              · rw [log_list] at hv
                walk_at "rds"
                rw [log_all]
                have s01 := s02.trans s1
                refine RD.ite_b (fun hl => ?_) (fun hl => ?_)
                · have hl : logB z = false := by simpa using hl
                  walk_at "rds"
                  exact nosg (by rw [e, hl, Bool.false_and]) _ s01
                · have hl : logB z = true := by simpa using hl
                  have hsg : signsV (.str z) = true := by
                    show signsB z = true
                    rw [e, hl, ha]
                    rfl
                  obtain ⟨k, hk⟩ := hdr.kd (K := K)
                  have hk1 := hk.same s01
                  clear s02 s1 hv hD
                  walk_at "rds"
                  refine RD.ite_nd (fun ne => ?_) (fun e => ?_)
                  · rw [mdue_kd hsg hk ne] at q
                    walk_at "rds"
                    exact q _ s01
                  · subst e
                    cases hk with
                    | @tup ra rows hra =>
                      obtain ⟨hall, hlx⟩ := dq_items hdr hra
                      have hra1 := s01 _ _ hra
                      clear hk1
                      walk_at "rds"
                      refine RD.ite_d (fun h1 => ?_) (fun h1 => ?_)
                      · walk_at "rds"
                        refine RD.ite_nd (fun h2 => ?_) (fun h2 => ?_)
                        · rw [mdue_len hsg hra (by omega)] at q
                          walk_at "rds"
                          exact q _ s01
                        · have hn : 1 ≤ rows.length ∧ rows.length ≤ 300 := by omega
                          walk_at "rds"
                          refine RD.forW (NR.w_enumT (xs := rows)) (fun i σ H' => ∃ (pre rest : List V) (x3 x4 x5 x6 : Option V), σ = [some (.str z), some (.ref ra), some l, x3, x4, x5, x6] ∧ rows = pre ++ rest ∧ pre.length = i ∧ rowsDue H z.cps.size rows.length 0 rows = rowsDue H z.cps.size rows.length i rest ∧ Same H H')
                            ⟨[], rows, _, _, _, _, rfl, rfl, rfl, rfl, s01⟩ (fun i σ H' _ ⟨_, _, _, _, _, _, _, _, _, _, s⟩ => by walk_at "st") (fun i y σ H2 H3 hi hp hy => ?_) (fun σ H2 hp => ?_)
                          · obtain ⟨pre, rest, x3, x4, x5, x6, rfl, he, hl, hde, s2⟩ := hp
                            obtain ⟨T1, x1, y1, rfl, hT, s3, hv3, hx1, hy1⟩ := hy
                            obtain rfl : V.int (i : Nat) = x1 := Option.some.inj hx1
                            have hy1 : rows[i]? = some y1 := hy1
                            have hrc : ∃ r, rest = y1 :: r := by
                              rw [he, List.getElem?_append_right (by omega), hl, Nat.sub_self] at hy1
                              cases rest with
                              | nil => cases hy1
                              | cons a r => exact ⟨r, by rw [Option.some.inj hy1]⟩
                            obtain ⟨rr, rfl⟩ := hrc
                            obtain ⟨m, hdy⟩ := hall y1 (List.mem_of_getElem? hy1)
                            obtain ⟨ky, hky⟩ := hdy.kd (K := K)
                            have s23 := s2.trans s3
                            have hra3 := s23 _ _ hra
                            have hky3 := hky.same s23
                            have stop : rowB H y1 z.cps.size rows.length = false → ∀ H', Same H H' → Q (.int (i : Nat)) H' := fun e H' s => by
                              rw [mdue_rows hsg hra hn (hde.trans (rows_stop e))] at q
                              exact q _ s
                            clear hx1 hy1
                            walk_at "rds"
                            refine RD.ite_nd (fun ne => ?_) (fun e => ?_)
                            · walk_at "rds"
                              exact stop (row_kd hky ne) _ s23
                            · subst e
                              cases hky with
                              | @tup ya ys hya =>
                                obtain ⟨hall2, hly⟩ := dq_items hdy hya
                                have hya3 := s23 _ _ hya
                                clear hky3
                                walk_at "rds"
                                refine RD.ite_nd (fun ne => ?_) (fun e => ?_)
                                · walk_at "rds"
                                  exact stop (by rw [row_at hya, decide_eq_false (fun h => ne (by rw [h, hzl])), Bool.false_and]) _ s23
                                · have hle : ys.length = z.cps.size := by have := V.int.inj e; omega
                                  walk_at "rds"
                                  refine RD.lcF (walk_tup (xs := ys)) hly (fun i => (ys[i]?).map fun y => .bl (withV y 0 ((rows.length : Int) - 1))) (fun H' s => by walk_at "st") (fun j y H4 Z N hj hy s4 hZ hN => ?_) (fun D H4 hD s4 hv => ?_)
                                  · have hra4 := s4 _ _ hra3
                                    walk_at "rds"
                                    refine ⟨rfl, ?_⟩
                                    obtain ⟨m2, hdy2⟩ := hall2 y (List.mem_of_getElem? hy)
                                    walk_at "rds"
                                    exact ⟨x, m2, y, rows.length, rfl, hdy2.same (s23.trans s4), fun H5 s5 => hZ _ _ (by rw [hy]; rfl) s5⟩
                                  · have e1 : (List.range ys.length).filterMap (fun i => (ys[i]?).map fun y => V.bl (withV y 0 ((rows.length : Int) - 1))) = (ys.map fun y => withV y 0 ((rows.length : Int) - 1)).map V.bl := by
                                      rw [RD.range_get (fun y => V.bl (withV y 0 ((rows.length : Int) - 1))) ys, List.map_map]
                                      rfl
                                    rw [e1] at hv
                                    have s24 := s23.trans s4
                                    have er : rowB H (.ref ya) z.cps.size rows.length = (ys.map fun y => withV y 0 ((rows.length : Int) - 1)).all id := by
                                      rw [row_at hya, decide_eq_true hle, Bool.true_and, List.all_map]
                                      rfl
                                    walk_at "rds"
                                    rw [← er]
                                    refine RD.ite_b (fun e => ?_) (fun e => ?_)
                                    · have e : rowB H (.ref ya) z.cps.size rows.length = false := by simpa using e
                                      walk_at "rds"
                                      exact stop e _ s24
                                    · have e : rowB H (.ref ya) z.cps.size rows.length = true := by simpa using e
                                      walk_at "rds"
                                      exact ⟨pre ++ [.ref ya], rr, _, _, _, _, rfl, by rw [he, List.append_assoc]; rfl, by rw [List.length_append, hl]; rfl, hde.trans (rows_go e), s24⟩
                              | _ => exact absurd rfl (by assumption)
                          · obtain ⟨pre, rest, x3, x4, x5, x6, rfl, he, hl, hde, s2⟩ := hp
                            have hr0 : rest = [] := by
                              have z := congrArg List.length he
                              rw [List.length_append] at z
                              exact List.eq_nil_of_length_eq_zero (by omega)
                            subst hr0
                            have hde : rowsDue H (wideV (.str z)) rows.length 0 rows = .non := hde
                            have hra2 := s2 _ _ hra
                            have dl := mdue_lets (l := l) hsg hra hn hde
                            obtain ⟨kl, hkl⟩ := hdl.kd (K := K)
                            have hkl2 := hkl.same s2
                            have nolet : letsB H l rows.length = false → ∀ H', Same H H' → Q (.str "lets") H' := fun e H' s => by
                              rw [dl, if_neg (by rw [e]; decide)] at q
                              exact q _ s
                            walk_at "rds"
                            refine RD.ite_nd (fun ne => ?_) (fun e => ?_)
                            · walk_at "rds"
                              exact nolet (lets_kd hkl ne) _ s2
                            · subst e
                              cases hkl with
                              | @tup la lts hla =>
                                obtain ⟨hall2, hly⟩ := dq_items hdl hla
                                have hla2 := s2 _ _ hla
                                clear hkl2
                                walk_at "rds"
                                refine RD.ite_nd (fun ne => ?_) (fun e => ?_)
                                · walk_at "rds"
                                  exact nolet (by rw [lets_at hla, decide_eq_false (fun h => ne (by rw [h])), Bool.false_and]) _ s2
                                · have hle : lts.length = rows.length := by have := V.int.inj e; omega
                                  walk_at "rds"
                                  refine RD.lcF (walk_tup (xs := lts)) hly (fun i => (lts[i]?).map fun y => .bl (blV y)) (fun H' s => by walk_at "st") (fun i y H3 Z N hi hy s3 hZ hN => ?_) (fun D H3 hD s3 hv => ?_)
                                  · walk_at "rds"
                                    refine ⟨rfl, ?_⟩
                                    obtain ⟨m, hdy⟩ := hall2 y (List.mem_of_getElem? hy)
                                    obtain ⟨ky, hky⟩ := hdy.kd (K := K)
                                    have hky3 := (hky.same s2).same s3
                                    walk_at "rds"
                                    have e3 : decide (ky = SPD.Kd.bl) = blV y := by
                                      cases hky <;> rfl
                                    rw [e3]
                                    exact hZ _ _ (by rw [hy]; rfl) (Same.refl _)
                                  · have e1 : (List.range lts.length).filterMap (fun i => (lts[i]?).map fun y => V.bl (blV y)) = (lts.map blV).map V.bl := by
                                      rw [RD.range_get (fun y => V.bl (blV y)) lts, List.map_map]
                                      rfl
                                    rw [e1] at hv
                                    have s23 := s2.trans s3
                                    walk_at "rds"
                                    rw [show (lts.map blV).all id = lts.all blV by rw [List.all_map]; rfl]
                                    have ell : letsB H (.ref la) rows.length = lts.all blV := by rw [lets_at hla, decide_eq_true hle, Bool.true_and]
                                    refine RD.ite_b (fun e => ?_) (fun e => ?_)
                                    · have e : lts.all blV = false := by simpa using e
                                      walk_at "rds"
                                      exact nolet (by rw [ell, e]) _ s23
                                    · have e : lts.all blV = true := by simpa using e
                                      rw [dl, if_pos (by rw [ell]; exact e)] at q
                                      walk_at "rds"
                                      exact q _ s23
                              | _ => exact absurd rfl (by assumption)
                      · rw [mdue_len hsg hra (by omega)] at q
                        walk_at "rds"
                        exact q _ s01
                    | _ => exact absurd rfl (by assumption)
        · walk_at "rds"
          exact nosg (bad (by omega)) _ (Same.refl _)
theorem same_of_kb2 {H H1 H2 : Hp} {b : Addr} (s : Same H H1) (hb : H b = none) (k : RD.KB b H1 H2) : Same H H2 := fun c o e => k c o (fun z => by subst z; rw [hb] at e; cases e) (s c o e)
theorem ok_told (T : Txt P K mg) : FnOk P w K mg base CX0 7 T.a_told T.fd_told ["_law_signs", "_law_rows", "_law_lets_here"] (spToldM T.C_Machine) := by
  have nd := sc_told.nd
  have G_Machine_init : FnOk P w K mg base (L2.CX P w) 5 T.a_Machine_init T.fd_Machine_init ["self", "signs", "rows", "lets"] (spMachine T.C_Machine T.C_BadMachine) := ok_Machine_init T
  refine T.F_told.ok sc_told (fun vs H Q E h => ?_) (fun cdv A outer s H vs Q E hr h => ?_)
  · obtain ⟨x, n, s, r, l, rfl, _⟩ := h
    rfl
  · obtain ⟨x, n, s, r, l, rfl, hds, hdr, hdl, q, qe⟩ := h
    refine ⟨_, (pss_one (ps_try_as (i := 3) rfl rfl nd rfl rfl ⟨by rfl, by decide, .inl T.g_BadMachine⟩ takes0 (fun W pn xe tk ph => (pss_one (ps_ret (pe_tup (pa_cons pe_non (pa_cons (NR.pe_makeS T.M_Machine G_Machine_init hr (by rfl) T.g_Machine T.b_Machine_init .nil (fun σ => passAt tk σ) (pa_cons (pv 0) (pa_cons (pv 1) (pa_cons (pv 2) pa_nil)))) pa_nil)))))) (fun a oe cls d pn hz hf => (pss_one (ps_ret (pe_tup (pa_cons (pe_xf ⟨T.ic_BadMachine.hg, T.ic_BadMachine.hk, T.ic_BadMachine.hs, T.ic_BadMachine.hd⟩ T.fi_BadMachine hz hf (pv 3)) (pa_cons pe_non pa_nil)))))))), ?_⟩
    walk_at "rds"
    refine RB.made fun b H2 dx hb s2 hb2 => ?_
    have em := mdue_same hds hdr hdl s2
    refine ⟨x, b, dx, n, s, r, l, rfl, hb2, hds.same s2, hdr.same s2, hdl.same s2, fun e H3 k3 h3 => ⟨rfl, ?_⟩, fun ne d H3 hd3 s3 hx3 => ?_⟩
    · rw [em] at e
      have s23 := same_of_kb2 s2 hb k3
      walk_at "rds"
      exact q e _ b _ (s23.trans hs) (s23.free hp) hv ⟨dx, hs _ _ h3⟩
    · rw [em] at ne hx3
      have s23 := s2.trans s3
      refine ⟨true, T.em_BadMachine_BadMachine, fun _ a ha => ?_, fun z => nomatch z⟩
      walk_at "rds"
      exact qe ne _ _ (s23.trans hs) (s23.free hp) hv
end


end K15

namespace K15
open PySem PySem.Spec PyProof.Rows L2
local macro_rules | `(tactic| walk_at "kd") => `(tactic| first | assumption | exact SPD.KdOf.int _ | exact SPD.KdOf.str _ | exact SPD.KdOf.bl _ | exact SPD.KdOf.non | exact SPD.KdOf.same (by assumption) (by walk_at "kd") | exact SPD.KdOf.tup (by walk_at "hp") | exact SPD.KdOf.lst (by walk_at "hp") | fail "no")
local macro_rules | `(tactic| walk_at "ne") => `(tactic| first | assumption | exact Ne.symm (by assumption) | fail "no")
local macro_rules | `(tactic| walk_at "hp") => `(tactic| first | assumption | exact RD.at_same (by assumption) (by walk_at "hp") | exact RD.at_kb (by assumption) (by walk_at "ne") (by walk_at "hp") | fail "no")
local macro_rules | `(tactic| walk_at "sq") => `(tactic| first | assumption | exact Or.inl (Or.inl (by walk_at "hp")) | exact Same.seq (by assumption) (by walk_at "sq") | exact RD.KB.seq (by assumption) (by walk_at "ne") (by walk_at "sq") | fail "no")
local macro_rules | `(tactic| walk_at "st") => `(tactic| first | assumption | exact Or.inl (Or.inl (by walk_at "hp")) | exact RD.Same.tup (by assumption) (by walk_at "st") | exact RD.KB.tup (by assumption) (by walk_at "ne") (by walk_at "st") | fail "no")
local macro_rules | `(tactic| walk_at "rd") => `(tactic| first
  | with_reducible refine RD.c ?_
  | ((with_reducible refine' RD.var ?rdE ?rdK); (case rdE => exact rfl))
  | with_reducible refine RD.op ?_
  | with_reducible refine RD.un ?_
  | with_reducible refine RD.nil ?_
  | with_reducible refine RD.cons ?_
  | with_reducible refine RD.cb ?_
  | with_reducible refine RD.call ?_
  | with_reducible refine RD.test ?_
  | with_reducible refine RD.tb' ?_
  | with_reducible refine RD.bl ?_
  | with_reducible refine RD.and' ?_
  | with_reducible refine RD.or' ?_
  | with_reducible refine RD.not' ?_
  | with_reducible refine RD.andV ?_
  | with_reducible refine RD.orV ?_
  | with_reducible refine RD.notV ?_
  | with_reducible refine RD.ife ?_
  | with_reducible refine RD.sl ?_
  | with_reducible refine RD.part ?_
  | with_reducible refine RD.noPart ?_
  | with_reducible refine RD.partI ?_
  | with_reducible refine RD.rd0 ?_
  | with_reducible refine RD.rdU ?_
  | ((with_reducible refine' RD.rdEq ?rdE ?rdK); (case rdE => rfl))
  | ((with_reducible refine' RD.rdNe ?rdE ?rdK); (case rdE => rfl))
  | ((with_reducible refine' RD.ixL ?rdH ?rdE ?rdK); (case rdH => walk_at "sq"); (case rdE => first | rfl | assumption))
  | ((with_reducible refine' RD.rdI ?rdC ?rdK); (case rdC => first | assumption | (show (0 : Int) < _; first | decide | omega) | exact ⟨by decide, by decide⟩ | exact ⟨by assumption, by assumption⟩ | exact .inr ⟨by decide, by decide⟩ | exact .inl ⟨by decide, by decide⟩ | exact ⟨by decide, by decide, by decide⟩ | exact .inl ⟨by omega, by omega⟩))
  | ((with_reducible refine' RD.setL ?rdH ?rdE ?rdK); (case rdH => walk_at "hp"); (case rdE => rfl); intro $(Lean.mkIdent `H'):ident $(Lean.mkIdent `hk):ident $(Lean.mkIdent `hv):ident)
  | ((with_reducible refine' RD.irng1V ?rdA ?rdB ?rdK); (case rdA => first | decide | omega); (case rdB => first | decide | omega))
  | with_reducible refine RD.int1 ?_
  | with_reducible refine RD.abs1 ?_
  | ((with_reducible refine' RD.len ?rdH ?rdK); (case rdH => first | exact Or.inl (by walk_at "sq") | exact Or.inr (by walk_at "st")))
  | with_reducible refine RD.tup ?_
  | with_reducible refine RD.lst ?_
  | with_reducible refine RD.ite1 ?_
  | with_reducible refine RD.ite0 ?_
  | with_reducible refine RD.ite1n ?_
  | with_reducible refine RD.ite0n ?_
  | with_reducible refine RD.seq ?_
  | with_reducible refine RD.asg ?_
  | with_reducible refine RD.name ?_
  | with_reducible refine RD.ret ?_
  | with_reducible refine RD.drop ?_
  | with_reducible refine RD.next ?_
  | with_reducible refine RD.ifs ?_
  | with_reducible refine RD.par ?_
  | with_reducible refine RD.par2 ?_
  | with_reducible refine RD.sub ?_
  | with_reducible refine RD.gcons ?_
  | with_reducible refine RD.gnil ?_
  | with_reducible refine RD.bm ?_
  | ((with_reducible refine' RD.bmL ?rdH ?rdK); (case rdH => walk_at "sq"))
  | ((with_reducible refine' RD.newZ ?rdH ?rdK); (case rdH => exact RD.sz _); intro $(Lean.mkIdent `p'):ident $(Lean.mkIdent `H'):ident $(Lean.mkIdent `hp):ident $(Lean.mkIdent `hs):ident $(Lean.mkIdent `hv):ident; (try have $(Lean.mkIdent `hn):ident := hand_ne $(Lean.mkIdent `hp):ident (by walk_at "hk")))
  | with_reducible refine RD.fors ?_
  | with_reducible refine RD.lc ?_
  | with_reducible refine RD.yes ?_
  | with_reducible refine RD.ilist ?_
  | ((with_reducible refine' RD.ilistV ?rdH ?rdK); (case rdH => walk_at "sq"))
  | with_reducible refine RD.itup ?_
  | ((with_reducible refine' RD.itupV ?rdH ?rdK); (case rdH => walk_at "st"))
  | with_reducible refine RD.irng1 ?_
  | with_reducible refine RD.irng2 ?_
  | ((with_reducible refine' RD.irng2V ?rdA ?rdK); (case rdA => first | decide | omega))
  | with_reducible refine RD.ienum ?_
  | ((with_reducible refine' RD.ienumV ?rdH ?rdK); (case rdH => walk_at "sq"))
  | with_reducible refine RD.izip ?_
  | ((with_reducible refine' RD.izipV ?rdH ?rdE ?rdK); (case rdH => walk_at "sq"); (case rdE => walk_at "sq"))
  | with_reducible refine SPD.izipA ?_
  | with_reducible refine RD.istr ?_
  | with_reducible refine RD.istrV ?_
  | ((with_reducible refine' RD.slL ?rdH ?rdK); (case rdH => walk_at "sq"); intro $(Lean.mkIdent `p'):ident $(Lean.mkIdent `H'):ident $(Lean.mkIdent `hp):ident $(Lean.mkIdent `hs):ident $(Lean.mkIdent `hv):ident; (try have $(Lean.mkIdent `hn):ident := hand_ne $(Lean.mkIdent `hp):ident (by walk_at "hk")))
  | ((with_reducible refine' RD.cat ?rdH ?rdE ?rdZ ?rdK); (case rdH => walk_at "hp"); (case rdE => walk_at "hp"); (case rdZ => exact RD.sz _); intro $(Lean.mkIdent `p'):ident $(Lean.mkIdent `H'):ident $(Lean.mkIdent `hp):ident $(Lean.mkIdent `hs):ident $(Lean.mkIdent `hv):ident; (try have $(Lean.mkIdent `hn):ident := hand_ne $(Lean.mkIdent `hp):ident (by walk_at "hk")))
  | ((with_reducible refine' RD.gtup ?rdH ?rdE ?rdK); (case rdH => walk_at "st"); (case rdE => rfl))
  | ((with_reducible refine' RD.app ?rdH ?rdZ ?rdK); (case rdH => walk_at "hp"); (case rdZ => first | assumption | (apply RD.szl; omega)); intro $(Lean.mkIdent `H'):ident $(Lean.mkIdent `hk):ident $(Lean.mkIdent `hv):ident)
  | ((with_reducible refine' RD.all1 ?rdH ?rdK); (case rdH => walk_at "sq"))
  | ((with_reducible refine' RD.any1 ?rdH ?rdK); (case rdH => walk_at "sq"))
  | ((with_reducible refine' SPD.dnew ?rdK); intro $(Lean.mkIdent `p'):ident $(Lean.mkIdent `H'):ident $(Lean.mkIdent `hp):ident $(Lean.mkIdent `hs):ident $(Lean.mkIdent `hv):ident; (try have $(Lean.mkIdent `hn):ident := hand_ne $(Lean.mkIdent `hp):ident (by walk_at "hk")))
  | ((with_reducible refine' SPD.disp1 ?rdK); intro $(Lean.mkIdent `p'):ident $(Lean.mkIdent `H'):ident $(Lean.mkIdent `hp):ident $(Lean.mkIdent `hs):ident $(Lean.mkIdent `hv):ident; (try have $(Lean.mkIdent `hn):ident := hand_ne $(Lean.mkIdent `hp):ident (by walk_at "hk")))
  | ((with_reducible refine' SPD.isSeq ?rdH ?rdE ?rdK); (case rdH => walk_at "hp"); (case rdE => walk_at "kd"))
  | ((with_reducible refine' SPD.isTup ?rdE ?rdK); (case rdE => walk_at "kd"))
  | ((with_reducible refine' SPD.isLst ?rdE ?rdK); (case rdE => walk_at "kd"))
  | ((with_reducible refine' SPD.isBool ?rdE ?rdK); (case rdE => walk_at "kd"))
  | ((with_reducible refine' SPD.isStr ?rdE ?rdK); (case rdE => walk_at "kd"))
  | ((with_reducible refine' SPD.isInt ?rdE ?rdK); (case rdE => walk_at "kd"))
  | dsimp only)
local macro_rules | `(tactic| walk_at "rds") => `(tactic| repeat walk_at "rd")
local macro_rules | `(tactic| walk_at "sm") => `(tactic| first | assumption | exact Same.refl _ | exact RD.sm_tr (by assumption) (by walk_at "sm") | fail "no")
local macro_rules | `(tactic| walk_at "kb") => `(tactic| first | assumption | exact RD.KB.refl | exact RD.kb_tr (by assumption) (by walk_at "kb") | exact RD.kb_trs (by assumption) (by walk_at "kb") | fail "no")
local macro_rules | `(tactic| walk_at "fr") => `(tactic| first | assumption | exact RD.fr_of (by assumption) (by walk_at "sm") | fail "no")
local macro_rules | `(tactic| walk_at "hk") => `(tactic| first | assumption | exact hand_same (by assumption) (by walk_at "hk") | exact hand_kb (by assumption) (by walk_at "fr") (by walk_at "hk") | fail "no")
local macro_rules | `(tactic| walk_at "na") => `(tactic| first | assumption | exact hand_ne (by assumption) (by walk_at "hk") | fail "no")
local macro_rules | `(tactic| walk_at "dqa") => `(tactic| first | exact SPD.DqA.nil | exact SPD.DqA.cons (by walk_at "dq") (by walk_at "dqa") | exact SPD.DqA.app (by walk_at "dqa") (by walk_at "dqa") | fail "no")
local macro_rules | `(tactic| walk_at "dq") => `(tactic| first | assumption | exact SPD.Dq.leaf rfl | exact SPD.dq_kb (by assumption) (by walk_at "kb") | exact SPD.dqTup (by walk_at "hp") (by walk_at "na") (by walk_at "dqa") | exact SPD.dqLst (by walk_at "hp") (by walk_at "na") (by walk_at "dqa") | exact SPD.dqNil (by walk_at "hp") (by walk_at "na") (by first | decide | simp) (by first | decide | simp) | fail "no")

local macro_rules | `(tactic| walk_at "rd") => `(tactic| first
  | with_reducible refine RB.chain ?_
  | with_reducible refine RB.m1 ?_
  | with_reducible refine RB.strE ?_
  | with_reducible refine RB.fld ?_
  | with_reducible refine RB.setF ?_
  | with_reducible refine RB.ss ?_
  | with_reducible refine RB.rev ?_
  | with_reducible refine RB.make ?_
  | with_reducible refine RB.makeS ?_
  | with_reducible refine RB.mkO ?_
  | with_reducible refine NR.ienumT ?_
  | with_reducible refine RB.inS ?_
  | with_reducible refine RB.bmS ?_
  | with_reducible refine RB.callS ?_
  | with_reducible refine RB.sw3 ?_
  | with_reducible refine RB.par3 ?_
  | with_reducible refine RB.par3V ?_
  | ((with_reducible refine' RB.slS ?rdH ?rdK); (case rdH => walk_at "sz"))
  | with_reducible refine RB.xf ?_
  | ((with_reducible refine' RB.xfV ?rdH ?rdE ?rdK); (case rdH => walk_at "hp"); (case rdE => rfl))
  | ((with_reducible refine' NR.ienumTV ?rdH ?rdK); (case rdH => walk_at "st"))
  | ((with_reducible refine' RB.lenL ?rdH ?rdK); (case rdH => walk_at "sq"))
  | ((with_reducible refine' RB.lenT ?rdH ?rdK); (case rdH => walk_at "st"))
  | ((with_reducible refine' RB.lenS ?rdH ?rdK); (case rdH => walk_at "sz"))
  | ((with_reducible refine' RD.lenS ?rdH ?rdK); (case rdH => walk_at "sz"))
  | ((with_reducible refine' RB.slT ?rdH ?rdK); (case rdH => walk_at "hp"); intro $(Lean.mkIdent `p'):ident $(Lean.mkIdent `H'):ident $(Lean.mkIdent `hs):ident $(Lean.mkIdent `hv):ident $(Lean.mkIdent `hp):ident; (try have $(Lean.mkIdent `hn):ident := two_ne $(Lean.mkIdent `hp):ident (by walk_at "na") (by walk_at "hk")))
  | ((with_reducible refine' RB.revV ?rdH ?rdK); (case rdH => walk_at "st"); intro $(Lean.mkIdent `p'):ident $(Lean.mkIdent `H'):ident $(Lean.mkIdent `hp):ident $(Lean.mkIdent `hs):ident $(Lean.mkIdent `hv):ident; (try have $(Lean.mkIdent `hn):ident := hand_ne $(Lean.mkIdent `hp):ident (by walk_at "hk")))
  | ((with_reducible refine' RB.listS ?rdH ?rdK); (case rdH => walk_at "sz"); intro $(Lean.mkIdent `p'):ident $(Lean.mkIdent `H'):ident $(Lean.mkIdent `hp):ident $(Lean.mkIdent `hs):ident $(Lean.mkIdent `hv):ident; (try have $(Lean.mkIdent `hn):ident := hand_ne $(Lean.mkIdent `hp):ident (by walk_at "hk")))
  | ((with_reducible refine' RB.listO ?rdH ?rdK); (case rdH => first | exact Or.inl (by walk_at "sq") | exact Or.inr (by walk_at "st")); intro $(Lean.mkIdent `p'):ident $(Lean.mkIdent `H'):ident $(Lean.mkIdent `hp):ident $(Lean.mkIdent `hs):ident $(Lean.mkIdent `hv):ident; (try have $(Lean.mkIdent `hn):ident := hand_ne $(Lean.mkIdent `hp):ident (by walk_at "hk")))
  | ((with_reducible refine' RB.tupL ?rdH ?rdK); (case rdH => walk_at "sq"); intro $(Lean.mkIdent `p'):ident $(Lean.mkIdent `H'):ident $(Lean.mkIdent `hp):ident $(Lean.mkIdent `hs):ident $(Lean.mkIdent `hv):ident; (try have $(Lean.mkIdent `hn):ident := hand_ne $(Lean.mkIdent `hp):ident (by walk_at "hk")))
  | ((with_reducible refine' RB.catT ?rdH ?rdE ?rdZ ?rdK); (case rdH => walk_at "hp"); (case rdE => walk_at "hp"); (case rdZ => exact RB.LN.sum (by walk_at "ln") (by walk_at "ln") rfl); intro $(Lean.mkIdent `p'):ident $(Lean.mkIdent `H'):ident $(Lean.mkIdent `hs):ident $(Lean.mkIdent `hv):ident $(Lean.mkIdent `hp):ident; (try have $(Lean.mkIdent `hn):ident := three_ne $(Lean.mkIdent `hp):ident (by walk_at "na") (by walk_at "na") (by walk_at "hk")))
  | fail "no")
local macro_rules | `(tactic| walk_at "ln") => `(tactic| first | with_reducible assumption | exact RB.LN.cut (by walk_at "ln") | exact RB.LN.app (by walk_at "ln") (by walk_at "ln") | exact RB.LN.rev (by walk_at "ln") | exact RB.LN.rep (by walk_at "ln") | exact RB.LN.lit rfl | fail "no")
local macro_rules | `(tactic| walk_at "sz") => `(tactic| first | assumption | exact RD.sz _ | fail "no")

local macro_rules | `(tactic| walk_at "hp") => `(tactic| first | assumption | exact RD.at_same (by assumption) (by walk_at "hp") | exact SPE.at_kx (by assumption) (by walk_at "na") (by walk_at "hp") | exact RD.at_kb (by assumption) (by walk_at "ne") (by walk_at "hp") | fail "no")
local macro_rules | `(tactic| walk_at "sq") => `(tactic| first | assumption | exact Or.inl (Or.inl (by walk_at "hp")) | exact Same.seq (by assumption) (by walk_at "sq") | exact SPE.KX.seq (by assumption) (by walk_at "na") (by walk_at "sq") | exact RD.KB.seq (by assumption) (by walk_at "ne") (by walk_at "sq") | fail "no")
local macro_rules | `(tactic| walk_at "st") => `(tactic| first | assumption | exact Or.inl (Or.inl (by walk_at "hp")) | exact RD.Same.tup (by assumption) (by walk_at "st") | exact SPE.KX.tup (by assumption) (by walk_at "na") (by walk_at "st") | exact RD.KB.tup (by assumption) (by walk_at "ne") (by walk_at "st") | fail "no")
local macro_rules | `(tactic| walk_at "kx") => `(tactic| first | assumption | exact SPE.KX.refl | exact SPE.kx_tr (by assumption) (by walk_at "kx") | exact SPE.kx_trs (by assumption) (by walk_at "kx") | fail "no")
local macro_rules | `(tactic| walk_at "dqa") => `(tactic| first | exact SPE.DqA.nil | exact SPE.DqA.cons (by walk_at "dq") (by walk_at "dqa") | exact SPE.DqA.app (by walk_at "dqa") (by walk_at "dqa") | fail "no")
local macro_rules | `(tactic| walk_at "dq") => `(tactic| first | assumption | exact SPE.Dq.leaf rfl | exact SPE.dq_kx (by assumption) (by walk_at "kx") | exact SPE.dqTup (by walk_at "hp") (by walk_at "na") (by walk_at "dqa") | exact SPE.dqLst (by walk_at "hp") (by walk_at "na") (by walk_at "dqa") | exact SPE.dqNil (by walk_at "hp") (by walk_at "na") (by first | decide | simp) (by first | decide | simp) | fail "no")
local macro_rules | `(tactic| walk_at "dqx") => `(tactic| first | exact $(Lean.mkIdent `hdb):ident _ (by walk_at "kx") | exact SPE.DqA.cons (SPE.dq_kx (by assumption) (by walk_at "kx")) SPE.DqA.nil | exact SPE.DqA.cons (SPE.Dq.leaf rfl) SPE.DqA.nil | exact SPE.DqA.nil | (with_reducible refine SPE.dqa_cut ?_; walk_at "dqx") | (with_reducible refine SPE.dqa_rev ?_; walk_at "dqx") | (with_reducible refine SPE.DqA.app ?_ ?_ <;> walk_at "dqx") | fail "no")
local macro_rules | `(tactic| walk_at "dqz") => `(tactic| first | exact SPE.dqTupN (by walk_at "hp") (by walk_at "na") (by walk_at "dqx") (by walk_at "ln") rfl | exact SPE.dqLstN (by walk_at "hp") (by walk_at "na") (by walk_at "dqx") (by walk_at "ln") rfl | fail "no")
local macro_rules | `(tactic| walk_at "rd") => `(tactic| first
  | with_reducible refine SPE.revs ?_
  | ((with_reducible refine' SPE.revsV ?rdH ?rdK); (case rdH => walk_at "sz"))
  | ((with_reducible refine' SPE.sum1 ?rdH ?rdK); (case rdH => walk_at "sq"))
  | fail "no")

local macro_rules | `(tactic| walk_at "rd") => `(tactic| first
  | ((with_reducible refine' RB.listO ?rdH ?rdK); (case rdH => exact Or.inr (by walk_at "st")); intro $(Lean.mkIdent `p'):ident $(Lean.mkIdent `H'):ident $(Lean.mkIdent `hp):ident $(Lean.mkIdent `hs):ident $(Lean.mkIdent `hv):ident; (try have $(Lean.mkIdent `hn):ident := hand_ne $(Lean.mkIdent `hp):ident (by walk_at "hk")))
  | fail "no")

/-! ### bent parts -/
theorem bm0 {K : PySem.W.Frag} {T : String} {r : V → List V → Hp → VK → Prop} {ta : TE} {σ : L2.St} {H : Hp} {Q : VK} (h : ta σ H fun x H1 => tyV K T x H1 ∧ r x [] H1 Q) : tBM0 K T r ta σ H Q := h
theorem upV {z : Str} {R : Str → Prop} (hz : z.length ≤ 5592405) (q : R z) : ∃ a, V.str z = .str a ∧ ([] : List V) = [] ∧ a.length ≤ 5592405 ∧ R a := ⟨z, rfl, rfl, hz, q⟩
def Th3 (x : SPE.AX) (H : Hp) (v : V) : Prop := ∃ (u : Addr) (s r l : V), v = .ref u ∧ H u = some (.tup [s, r, l]) ∧ SPE.Off u x ∧ SgOk s ∧ SPE.Dq x H 42 s ∧ SPE.Dq x H 42 r ∧ SPE.Dq x H 42 l
theorem Th3.kx {x : SPE.AX} {H H' : Hp} {v : V} (k : SPE.KX x H H') (h : Th3 x H v) : Th3 x H' v := by
  obtain ⟨u, s, r, l, e, hu, o, so, h1, h2, h3⟩ := h
  exact ⟨u, s, r, l, e, k _ _ o hu, o, so, h1.kx k, h2.kx k, h3.kx k⟩
theorem Th3.same {x : SPE.AX} {H H' : Hp} {v : V} (s : Same H H') (h : Th3 x H v) : Th3 x H' v := h.kx (SPE.kx_of s)
def T3 (x : SPE.AX) (H0 H' : Hp) (v : V) : Prop := ∃ (u : Addr) (s r l : V), v = .ref u ∧ H' u = some (.tup [s, r, l]) ∧ SgOk s ∧ SPE.Dq x H0 41 s ∧ (SPE.Dq x H0 41 r ∨ ∃ p ys, r = .ref p ∧ H' p = some (.tup ys) ∧ RB.LN 1000 ys ∧ SPE.DqA x H0 41 ys) ∧ SPE.Dq x H0 41 l
theorem T3.of {x : SPE.AX} {H0 H' H2 : Hp} {v : V} (k : ∀ a xs, H' a = some (.tup xs) → H2 a = some (.tup xs)) (h : T3 x H0 H' v) : T3 x H0 H2 v := by
  obtain ⟨u, s, r, l, e, hu, so, h1, h2, h3⟩ := h
  refine ⟨u, s, r, l, e, k _ _ hu, so, h1, ?_, h3⟩
  rcases h2 with h2 | ⟨p, ys, e2, hp, hl, hy⟩
  · exact .inl h2
  · exact .inr ⟨p, ys, e2, k _ _ hp, hl, hy⟩
theorem T3.th {x : SPE.AX} {H0 H' : Hp} {v : V} (s : Same H0 H') (hh : BagOk H' x) (h : T3 x H0 H' v) : Th3 x H' v := by
  obtain ⟨u, s', r, l, e, hu, so, h1, h2, h3⟩ := h
  refine ⟨u, s', r, l, e, hu, hh.tupOff hu, so, (h1.same s).mono 42 (by decide), ?_, (h3.same s).mono 42 (by decide)⟩
  rcases h2 with h2 | ⟨p, ys, rfl, hp, hl, hy⟩
  · exact (h2.same s).mono 42 (by decide)
  · exact SPE.dqTupN hp (hh.tupOff hp) (hy.kx (SPE.kx_of s)) hl rfl
theorem T3.app {x : SPE.AX} {H0 H1 H2 : Hp} {D : Addr} {acc : List V} {v : V} (k : RD.KB D H1 H2) (hD : H1 D = some (.lst acc)) (h : ∀ y, y ∈ acc → T3 x H0 H1 y) (g : T3 x H0 H1 v) : ∀ y, y ∈ acc ++ [v] → T3 x H0 H2 y := fun y hy => by
  rcases List.mem_append.mp hy with e | e
  · exact (h y e).of (kb_tup k hD)
  · rw [List.mem_singleton.mp e]
    exact g.of (kb_tup k hD)
def spBentM : Sp := fun vs H Q _ => ∃ (x : SPE.AX) (t : Addr) (z : Str) (r l : V) (rws : List (List Nat)) (ls : List Bool), vs = [.ref x.1, .ref t] ∧ BagOk H x ∧ H t = some (.tup [.str z, r, l]) ∧ PartsAt H r l rws ls ∧ MG z rws ls ∧ ∀ v H', SPE.KX x H H' → BagOk H' x → Th3 x H' v → Q v H'
theorem dq_nats {x : SPE.AX} {H : Hp} {n : Nat} (ns : List Nat) : SPE.DqA x H n (ns.map fun n => V.int (n : Nat)) := SPE.dqa_leaf fun v hv => by
  obtain ⟨k, _, rfl⟩ := List.mem_map.mp hv
  rfl
theorem dq_bls {x : SPE.AX} {H : Hp} {n : Nat} (bs : List Bool) : SPE.DqA x H n (bs.map V.bl) := SPE.dqa_leaf fun v hv => by
  obtain ⟨k, _, rfl⟩ := List.mem_map.mp hv
  rfl
theorem RL.dq {x : SPE.AX} {H : Hp} {vs : List V} {rs : List (List Nat)} (hh : BagOk H x) (h : RL H vs rs) : (∀ r, r ∈ rs → r.length ≤ 8) → SPE.DqA x H 1 vs := by
  induction h with
  | nil => exact fun _ => .nil
  | cons a _ ih =>
    intro hw
    refine .cons (SPE.dqTupN (m := 8) a (hh.tupOff a) (dq_nats _) ?_ rfl) (ih fun r hr => hw r (List.mem_cons_of_mem _ hr))
    show (List.map _ _).length ≤ 8
    rw [List.length_map]
    exact hw _ List.mem_cons_self
theorem leaf_str {x : SPE.AX} {H : Hp} {n : Nat} {z : Str} (h : z.cps.size ≤ 100000) : SPE.Dq x H n (.str z) := .leaf (Nat.ble_eq_true_of_le h)
theorem all_dq {x : SPE.AX} {H : Hp} {n : Nat} {vs : List V} (hn : n ≤ 41) (h : SPE.DqA x H n vs) : ∀ v, v ∈ vs → SPE.Dq x H 41 v := fun v hm => (h.mem v hm).mono 41 hn
theorem sg_str {z : Str} (h : okP z) : SgOk (.str z) := fun y e => by
  cases e
  exact h
section
variable {K : PySem.W.Frag} {x : SPE.AX} {H7 : Hp} {Q : VK} {p7 ra la : Addr} {vals rs : List V} {z : Str} {at_ : Nat} {b0 b1 s6 s7 s8 s9 s10 s11 s12 s13 s14 : Option V}
abbrev sig (b0 b1 s6 s7 s8 s9 s10 s11 s12 s13 s14 : Option V) (z : Str) (ra la : Addr) (at_ : Nat) : L2.St := [b0, b1, some (.str z), some (.ref ra), some (.ref la), some (.int (at_ : Nat)), s6, s7, s8, s9, s10, s11, s12, s13, s14]
theorem comp2 (hv7 : H7 p7 = some (.lst vals)) (hl7 : vals.length ≤ 100) (hvals : ∀ v, v ∈ vals → SPE.Dq x H7 41 v) (hra : H7 ra = some (.tup rs)) (hln : RB.LN 300 rs) (hds : SPE.DqA x H7 41 rs) (hdl : SPE.Dq x H7 41 (.ref la)) (hh : BagOk H7 x) (hlz : logB z = true) (hz8 : z.cps.size ≤ 8)
    (q : ∀ D acc H', H7 D = none → Same H7 H' → H' D = some (.lst acc) → acc.length = vals.length → (∀ v, v ∈ acc → Th3 x H' v) → Q (.ref D) H') :
    RD.LcG (Itl K p7) (gName 13) tYes (tTup (tCons (tVar 2) (tCons (tOp (rCatA K) (tOp (rCatA K) (tSl (rSlA K) (tVar 3) tNoPart (tPart (tVar 5))) (tTup (tCons (tVar 13) tNil))) (tSl (rSlA K) (tVar 3) (tPart (tOp (rI0 fun i j => V.int (i + j)) (tVar 5) (tC (V.int 1)))) tNoPart)) (tCons (tVar 4) tNil)))) [13]
      (sig b0 b1 s6 s7 s8 s9 s10 s11 s12 s13 s14 z ra la at_) H7 Q := by
  have ora := hh.tupOff hra
  refine RD.lcW (walk_list (xs := vals)) (by omega) fun D HD hD sD hvD => ⟨fun i acc H' => Same H7 H' ∧ acc.length = i ∧ ∀ v, v ∈ acc → T3 x H7 H' v, ⟨sD, rfl, fun v h => (nomatch h)⟩, fun i acc H'' _ p => (by have := p.1; walk_at "sq"), fun i y acc2 H8 H9 Z N hi hp hDa hy hZ hN => ?_, fun acc2 H8 hp hDa => ?_⟩
  · obtain ⟨s8, hl8, ha8⟩ := hp
    obtain ⟨rfl, hx⟩ := hy
    have hd := hvals y (List.mem_of_getElem? hx)
    have hra9 := s8 _ _ hra
    have hh9 := hh.same s8
    clear hv7 hra hh hvals sD hvD
    walk_at "rds"
    refine ⟨rfl, ?_⟩
    walk_at "rds"
    have sm : Same H9 H' := by walk_at "sm"
    rename_i pc Hc hsc hvc hpc hnc
    exact hZ _ _ (sm _ _ hDa) fun H10 k10 h10 => ⟨RD.same_mut k10 (s8.trans sm) hD, by rw [List.length_append, hl8]; rfl, T3.app k10 (sm _ _ hDa) (fun y hy => (ha8 y hy).of (fun a xs e => sm _ _ e)) ⟨_, .str z, .ref pc, .ref la, rfl, hv, sg_str (okP.of hlz), leaf_str (by omega), .inr ⟨pc, _, rfl, hs _ _ hvc,
      Nat.le_trans (RB.LN.app (RB.LN.app (RB.LN.cut hln) (RB.LN.lit (m := 1) rfl)) (RB.LN.cut hln)) (Nat.le_of_ble_eq_true rfl), .app (.app (SPE.dqa_cut hds) (.cons hd .nil)) (SPE.dqa_cut hds)⟩, hdl⟩⟩
  · obtain ⟨s8, hl8, ha8⟩ := hp
    exact q D acc2 H8 hD s8 hDa hl8 fun v hv => (ha8 v hv).th s8 (hh.same s8)
theorem comp1 (hv7 : H7 p7 = some (.lst vals)) (hl7 : vals.length ≤ 100) (hvals : ∀ v, v ∈ vals → SgOk v ∧ SPE.Dq x H7 41 v) (hdr : SPE.Dq x H7 41 (.ref ra)) (hdl : SPE.Dq x H7 41 (.ref la)) (hh : BagOk H7 x)
    (q : ∀ D acc H', H7 D = none → Same H7 H' → H' D = some (.lst acc) → acc.length = vals.length → (∀ v, v ∈ acc → Th3 x H' v) → Q (.ref D) H') :
    RD.LcG (Itl K p7) (gName 13) tYes (tTup (tCons (tVar 13) (tCons (tVar 3) (tCons (tVar 4) tNil)))) [13] (sig b0 b1 s6 s7 s8 s9 s10 s11 s12 s13 s14 z ra la at_) H7 Q := by
  refine RD.lcW (walk_list (xs := vals)) (by omega) fun D HD hD sD hvD => ⟨fun i acc H' => Same H7 H' ∧ acc.length = i ∧ ∀ v, v ∈ acc → T3 x H7 H' v, ⟨sD, rfl, fun v h => (nomatch h)⟩, fun i acc H'' _ p => (by have := p.1; walk_at "sq"), fun i y acc2 H8 H9 Z N hi hp hDa hy hZ hN => ?_, fun acc2 H8 hp hDa => ?_⟩
  · obtain ⟨s8, hl8, ha8⟩ := hp
    obtain ⟨rfl, hx⟩ := hy
    obtain ⟨sg, hd⟩ := hvals y (List.mem_of_getElem? hx)
    walk_at "rds"
    refine ⟨rfl, ?_⟩
    walk_at "rds"
    exact hZ _ _ (hs _ _ hDa) fun H10 k10 h10 => ⟨RD.same_mut k10 (s8.trans hs) hD, by rw [List.length_append, hl8]; rfl, T3.app k10 (hs _ _ hDa) (fun y hy => (ha8 y hy).of (fun a xs e => hs _ _ e)) ⟨_, y, .ref ra, .ref la, rfl, hv, sg, hd, .inl hdr, hdl⟩⟩
  · obtain ⟨s8, hl8, ha8⟩ := hp
    exact q D acc2 H8 hD s8 hDa hl8 fun v hv => (ha8 v hv).th s8 (hh.same s8)
theorem comp3 (hv7 : H7 p7 = some (.lst vals)) (hl7 : vals.length ≤ 100) (hvals : ∀ v, v ∈ vals → SPE.Dq x H7 41 v) (hdl : SPE.Dq x H7 41 (.ref la)) (hh : BagOk H7 x) (hlz : logB z = true) (hz8 : z.cps.size ≤ 8)
    (q : ∀ D acc H', H7 D = none → Same H7 H' → H' D = some (.lst acc) → acc.length = vals.length → (∀ v, v ∈ acc → Th3 x H' v) → Q (.ref D) H') :
    RD.LcG (Itl K p7) (gName 13) tYes (tTup (tCons (tVar 2) (tCons (tVar 13) (tCons (tVar 4) tNil)))) [13] (sig b0 b1 s6 s7 s8 s9 s10 s11 s12 s13 s14 z ra la at_) H7 Q := by
  refine RD.lcW (walk_list (xs := vals)) (by omega) fun D HD hD sD hvD => ⟨fun i acc H' => Same H7 H' ∧ acc.length = i ∧ ∀ v, v ∈ acc → T3 x H7 H' v, ⟨sD, rfl, fun v h => (nomatch h)⟩, fun i acc H'' _ p => (by have := p.1; walk_at "sq"), fun i y acc2 H8 H9 Z N hi hp hDa hy hZ hN => ?_, fun acc2 H8 hp hDa => ?_⟩
  · obtain ⟨s8, hl8, ha8⟩ := hp
    obtain ⟨rfl, hx⟩ := hy
    have hd := hvals y (List.mem_of_getElem? hx)
    walk_at "rds"
    refine ⟨rfl, ?_⟩
    walk_at "rds"
    exact hZ _ _ (hs _ _ hDa) fun H10 k10 h10 => ⟨RD.same_mut k10 (s8.trans hs) hD, by rw [List.length_append, hl8]; rfl, T3.app k10 (hs _ _ hDa) (fun y hy => (ha8 y hy).of (fun a xs e => hs _ _ e)) ⟨_, .str z, y, .ref la, rfl, hv, sg_str (okP.of hlz), leaf_str (by omega), .inl hd, hdl⟩⟩
  · obtain ⟨s8, hl8, ha8⟩ := hp
    exact q D acc2 H8 hD s8 hDa hl8 fun v hv => (ha8 v hv).th s8 (hh.same s8)
theorem comp4 (hv7 : H7 p7 = some (.lst vals)) (hl7 : vals.length ≤ 100) (hvals : ∀ v, v ∈ vals → SPE.Dq x H7 41 v) (hdr : SPE.Dq x H7 41 (.ref ra)) (hh : BagOk H7 x) (hlz : logB z = true) (hz8 : z.cps.size ≤ 8)
    (q : ∀ D acc H', H7 D = none → Same H7 H' → H' D = some (.lst acc) → acc.length = vals.length → (∀ v, v ∈ acc → Th3 x H' v) → Q (.ref D) H') :
    RD.LcG (Itl K p7) (gName 13) tYes (tTup (tCons (tVar 2) (tCons (tVar 3) (tCons (tVar 13) tNil)))) [13] (sig b0 b1 s6 s7 s8 s9 s10 s11 s12 s13 s14 z ra la at_) H7 Q := by
  refine RD.lcW (walk_list (xs := vals)) (by omega) fun D HD hD sD hvD => ⟨fun i acc H' => Same H7 H' ∧ acc.length = i ∧ ∀ v, v ∈ acc → T3 x H7 H' v, ⟨sD, rfl, fun v h => (nomatch h)⟩, fun i acc H'' _ p => (by have := p.1; walk_at "sq"), fun i y acc2 H8 H9 Z N hi hp hDa hy hZ hN => ?_, fun acc2 H8 hp hDa => ?_⟩
  · obtain ⟨s8, hl8, ha8⟩ := hp
    obtain ⟨rfl, hx⟩ := hy
    have hd := hvals y (List.mem_of_getElem? hx)
    walk_at "rds"
    refine ⟨rfl, ?_⟩
    walk_at "rds"
    exact hZ _ _ (hs _ _ hDa) fun H10 k10 h10 => ⟨RD.same_mut k10 (s8.trans hs) hD, by rw [List.length_append, hl8]; rfl, T3.app k10 (hs _ _ hDa) (fun y hy => (ha8 y hy).of (fun a xs e => hs _ _ e)) ⟨_, .str z, .ref ra, y, rfl, hv, sg_str (okP.of hlz), leaf_str (by omega), .inl hdr, hd⟩⟩
  · obtain ⟨s8, hl8, ha8⟩ := hp
    exact q D acc2 H8 hD s8 hDa hl8 fun v hv => (ha8 v hv).th s8 (hh.same s8)
theorem flagsA {ls : List Bool} (hla : H7 la = some (.tup (ls.map V.bl))) (hlnl : RB.LN 300 (ls.map V.bl)) (hh : BagOk H7 x)
    (q : ∀ pF fl H', H7 pF = none → Same H7 H' → H' pF = some (.lst fl) → fl.length = 5 → (∀ Hz, RD.KB pF H' Hz → ∀ v, v ∈ fl → SPE.Dq x Hz 41 v) → Q (.ref pF) H') :
    (tLst (tCons (tSl (rSlA K) (tVar 4) (tPart (tC (.int 1))) tNoPart) (tCons (tOp (rCatA K) (tVar 4) (tTup (tCons (tC (.bl true)) tNil))) (tCons (tCB (RB.rListO K) (tCons (tVar 4) tNil))
      (tCons (tCB (RB.rTupO K) (tCons (tLc (iTup K (tVar 4)) (gName 14) tYes (tCB (fun xs H Q => (∃ i, xs = [V.int i] ∧ Q (V.int i) H) ∨ ∃ k, xs = [V.bl k] ∧ Q (V.int (if k = true then 1 else 0)) H) (tCons (tVar 14) tNil)) [14]) tNil)) (tCons (tC .non) tNil))))))
      (sig b0 b1 s6 s7 s8 s9 s10 s11 s12 s13 s14 z ra la at_) H7 Q := by
  have ola := hh.tupOff hla
  have h300 : (ls.map V.bl).length ≤ 300 := hlnl
  have hlm : (ls.map V.bl).length = ls.length := List.length_map ..
  walk_at "rds"
  rename_i p1 G1 e1 v1 q1 o1 p2 G2 q2 e2 v2 o2 p3 G3 e3 v3 q3 o3
  have v4 := hv
  have o4 := hn
  have e4 := hs
  clear hv hs hp hn
  have s4 := e1.trans (e2.trans (e3.trans e4))
  have hla4 := s4 _ _ hla
  have hh4 := hh.same s4
  clear hh hla
  refine RD.lcF (walk_tup (xs := ls.map V.bl)) (by omega) (fun i => (ls[i]?).map fun b => .int (if b = true then 1 else 0)) (fun H' s => by walk_at "st") (fun i y H5 Z N hi hy s5 hZ hN => ?_) (fun D5 H5 hD5 s5 hv5 => ?_)
  · rw [List.getElem?_map] at hy
    obtain ⟨b, hb, rfl⟩ := Option.map_eq_some_iff.mp hy
    walk_at "rds"
    refine ⟨rfl, ?_⟩
    walk_at "rds"
    refine RD.int1b ?_
    exact hZ _ _ (by rw [hb]; rfl) (Same.refl _)
  · have e : (List.range (ls.map V.bl).length).filterMap (fun i => (ls[i]?).map fun b => V.int (if b = true then 1 else 0)) = ls.map fun b => V.int (if b = true then 1 else 0) := by
      rw [hlm, RD.range_get (fun b => V.int (if b = true then 1 else 0)) ls]
    rw [e] at hv5
    have hh5 := hh4.same s5
    walk_at "rds"
    rename_i p6 G6 q6 e6 v6 o6
    have t3 := e4.trans (s5.trans e6)
    have t2 := e3.trans t3
    have t1 := e2.trans t2
    have s7G := e1.trans t1
    refine q _ _ H' (s7G.free hp) (s7G.trans hs) hv rfl fun Hz kz => ?_
    have sZ := RD.same_mut kz hs hp
    refine all_dq (n := 3) (by decide) ?_
    exact .cons (SPE.dqTupN (n := 2) (sZ _ _ (t1 _ _ v1)) o1 (SPE.dqa_cut (dq_bls ls)) (RB.LN.cut hlnl) rfl) (.cons (SPE.dqTupN (n := 2) (sZ _ _ (t3 _ _ v3)) o3 (.app (dq_bls ls) (.cons (.leaf rfl) .nil)) (RB.LN.app hlnl (RB.LN.lit (m := 1) rfl)) rfl)
      (.cons (SPE.dqLstN (n := 2) (sZ _ _ (e6 _ _ (s5 _ _ v4))) o4 (dq_bls ls) hlnl rfl) (.cons (SPE.dqTupN (n := 2) (m := 300) (sZ _ _ v6) o6 (SPE.dqa_leaf fun v hv => by
        obtain ⟨b, _, rfl⟩ := List.mem_map.mp hv
        rfl) (by show (List.map _ _).length ≤ 300; rw [List.length_map]; omega) rfl) (.cons (.leaf rfl) .nil))))
theorem flagsB {ls : List Bool} {fl : List V} {pF : Addr} {odd : V} (hpF : H7 pF = some (.lst fl)) (hl5 : fl.length = 5) (hla : H7 la = some (.tup (ls.map V.bl))) (hlnl : RB.LN 300 (ls.map V.bl)) (hh : BagOk H7 x) (hodd : ∀ Hz, RD.KB pF H7 Hz → SPE.Dq x Hz 2 odd)
    (q : ∀ pc Hc HZ, Same H7 Hc → RD.KB pF Hc HZ → HZ pF = some (.lst (fl ++ [.ref pc])) → SPE.Dq x HZ 41 (.ref pc) → Q .non HZ) :
    tBM K "list" rAppend (tVar 12) (tCons (tOp (rCatA K) (tOp (rCatA K) (tSl (rSlA K) (tVar 4) tNoPart (tPart (tVar 5))) (tTup (tCons (tVar 7) tNil))) (tSl (rSlA K) (tVar 4) (tPart (tOp (rI0 fun i j => V.int (i + j)) (tVar 5) (tC (V.int 1)))) tNoPart)) tNil)
      (sig b0 b1 s6 (some odd) s8 s9 s10 s11 (some (.ref pF)) s13 s14 z ra la at_) H7 Q := by
  have ola := hh.tupOff hla
  walk_at "rds"
  rename_i p1 G1 e1 v1 q1 o1 p2 G2 q2 e2 v2 o2 p3 G3 e3 v3 q3 o3 p4 G4 e4 v4 q4 o4 Hc vc
  have s7H := e1.trans (e2.trans (e3.trans (e4.trans hs)))
  have hpF' := s7H _ _ hpF
  refine q _ Hc H' s7H hk hv ?_
  have ho := hodd H' ((RD.Same.kb s7H).trans hk)
  exact (SPE.dqTupN (n := 2) (kb_tup hk hpF' _ _ vc) hn (.app (.app (SPE.dqa_cut (dq_bls ls)) (.cons ho .nil)) (SPE.dqa_cut (dq_bls ls))) (RB.LN.app (RB.LN.app (RB.LN.cut hlnl) (RB.LN.lit (m := 1) rfl)) (RB.LN.cut hlnl)) rfl).mono 41 (by decide)
theorem lastL (hh : BagOk H7 x) (hlz : logB z = true) (hz8 : z.cps.size ≤ 8)
    (q : ∀ p u1 u2 H', H7 p = none → Same H7 H' → H' p = some (.lst [u1, u2]) → Th3 x H' u1 → Th3 x H' u2 → Q (.ref p) H') :
    (tLst (tCons (tTup (tCons (tOp (fun x y H Q => ∃ i j, x = V.str i ∧ y = V.str j ∧ i.length + j.length ≤ sizeLine ∧ Q (V.str (i ++ j)) H) (SPE.tRevS (tVar 2)) (tC (.str "A"))) (tCons (tTup tNil) (tCons (tC .non) tNil)))) (tCons (tTup (tCons (tVar 2) (tCons (tTup tNil) (tCons (tC .non) tNil)))) tNil)))
      (sig b0 b1 s6 s7 s8 s9 s10 s11 s12 s13 s14 z ra la at_) H7 Q := by
  have hzs : z.length ≤ sizeLine := small_len (by omega)
  have el : ∀ x : Str, x.length = x.cps.size := fun _ => rfl
  have c2 := rev_size z
  have ap : ∀ x y : Str, (x ++ y).cps.size = x.cps.size + y.cps.size := app_size
  walk_at "rds"
  refine RB.addS (RD.szo (by rw [el, el]; show _ + 1 ≤ _; omega)) ?_
  walk_at "rds"
  rename_i p1 G1 q1 e1 v1 o1 p2 G2 q2 e2 v2 o2 p3 G3 q3 e3 v3 o3 p4 G4 q4 e4 v4 o4
  have t4 := hs
  have t3 := e4.trans t4
  have t2 := e3.trans t3
  have t1 := e2.trans t2
  have s7H := e1.trans t1
  have hhH := hh.same s7H
  have aa : okP ("A" : Str) := fun c hc => by
    have : c = 65 := by simpa using (show c ∈ [65] from hc)
    omega
  refine q _ _ _ H' ((e1.trans (e2.trans (e3.trans e4))).free hp) s7H hv ⟨p2, _, _, _, rfl, t2 _ _ v2, o2, sg_str ((okP.of hlz).rev.app aa), leaf_str (by rw [ap]; show _ + 1 ≤ _; omega), SPE.dqTupN (n := 41) (t1 _ _ v1) o1 .nil (RB.LN.lit (m := 0) rfl) rfl, .leaf rfl⟩
    ⟨p4, _, _, _, rfl, t4 _ _ v4, o4, sg_str (okP.of hlz), leaf_str (by omega), SPE.dqTupN (n := 41) (t3 _ _ v3) o3 .nil (RB.LN.lit (m := 0) rfl) rfl, .leaf rfl⟩
end


end K15

namespace K15
open PySem PySem.Spec PyProof.Rows L2
local macro_rules | `(tactic| walk_at "kd") => `(tactic| first | assumption | exact SPD.KdOf.int _ | exact SPD.KdOf.str _ | exact SPD.KdOf.bl _ | exact SPD.KdOf.non | exact SPD.KdOf.same (by assumption) (by walk_at "kd") | exact SPD.KdOf.tup (by walk_at "hp") | exact SPD.KdOf.lst (by walk_at "hp") | fail "no")
local macro_rules | `(tactic| walk_at "ne") => `(tactic| first | assumption | exact Ne.symm (by assumption) | fail "no")
local macro_rules | `(tactic| walk_at "hp") => `(tactic| first | assumption | exact RD.at_same (by assumption) (by walk_at "hp") | exact RD.at_kb (by assumption) (by walk_at "ne") (by walk_at "hp") | fail "no")
local macro_rules | `(tactic| walk_at "sq") => `(tactic| first | assumption | exact Or.inl (Or.inl (by walk_at "hp")) | exact Same.seq (by assumption) (by walk_at "sq") | exact RD.KB.seq (by assumption) (by walk_at "ne") (by walk_at "sq") | fail "no")
local macro_rules | `(tactic| walk_at "st") => `(tactic| first | assumption | exact Or.inl (Or.inl (by walk_at "hp")) | exact RD.Same.tup (by assumption) (by walk_at "st") | exact RD.KB.tup (by assumption) (by walk_at "ne") (by walk_at "st") | fail "no")
local macro_rules | `(tactic| walk_at "rd") => `(tactic| first
  | with_reducible refine RD.c ?_
  | ((with_reducible refine' RD.var ?rdE ?rdK); (case rdE => exact rfl))
  | with_reducible refine RD.op ?_
  | with_reducible refine RD.un ?_
  | with_reducible refine RD.nil ?_
  | with_reducible refine RD.cons ?_
  | with_reducible refine RD.cb ?_
  | with_reducible refine RD.call ?_
  | with_reducible refine RD.test ?_
  | with_reducible refine RD.tb' ?_
  | with_reducible refine RD.bl ?_
  | with_reducible refine RD.and' ?_
  | with_reducible refine RD.or' ?_
  | with_reducible refine RD.not' ?_
  | with_reducible refine RD.andV ?_
  | with_reducible refine RD.orV ?_
  | with_reducible refine RD.notV ?_
  | with_reducible refine RD.ife ?_
  | with_reducible refine RD.sl ?_
  | with_reducible refine RD.part ?_
  | with_reducible refine RD.noPart ?_
  | with_reducible refine RD.partI ?_
  | with_reducible refine RD.rd0 ?_
  | with_reducible refine RD.rdU ?_
  | ((with_reducible refine' RD.rdEq ?rdE ?rdK); (case rdE => rfl))
  | ((with_reducible refine' RD.rdNe ?rdE ?rdK); (case rdE => rfl))
  | ((with_reducible refine' RD.ixL ?rdH ?rdE ?rdK); (case rdH => walk_at "sq"); (case rdE => first | rfl | assumption))
  | ((with_reducible refine' RD.rdI ?rdC ?rdK); (case rdC => first | assumption | (show (0 : Int) < _; first | decide | omega) | exact ⟨by decide, by decide⟩ | exact ⟨by assumption, by assumption⟩ | exact .inr ⟨by decide, by decide⟩ | exact .inl ⟨by decide, by decide⟩ | exact ⟨by decide, by decide, by decide⟩ | exact .inl ⟨by omega, by omega⟩))
  | ((with_reducible refine' RD.setL ?rdH ?rdE ?rdK); (case rdH => walk_at "hp"); (case rdE => rfl); intro $(Lean.mkIdent `H'):ident $(Lean.mkIdent `hk):ident $(Lean.mkIdent `hv):ident)
  | ((with_reducible refine' RD.irng1V ?rdA ?rdB ?rdK); (case rdA => first | decide | omega); (case rdB => first | decide | omega))
  | with_reducible refine RD.int1 ?_
  | with_reducible refine RD.abs1 ?_
  | ((with_reducible refine' RD.len ?rdH ?rdK); (case rdH => first | exact Or.inl (by walk_at "sq") | exact Or.inr (by walk_at "st")))
  | with_reducible refine RD.tup ?_
  | with_reducible refine RD.lst ?_
  | with_reducible refine RD.ite1 ?_
  | with_reducible refine RD.ite0 ?_
  | with_reducible refine RD.ite1n ?_
  | with_reducible refine RD.ite0n ?_
  | with_reducible refine RD.seq ?_
  | with_reducible refine RD.asg ?_
  | with_reducible refine RD.name ?_
  | with_reducible refine RD.ret ?_
  | with_reducible refine RD.drop ?_
  | with_reducible refine RD.next ?_
  | with_reducible refine RD.ifs ?_
  | with_reducible refine RD.par ?_
  | with_reducible refine RD.par2 ?_
  | with_reducible refine RD.sub ?_
  | with_reducible refine RD.gcons ?_
  | with_reducible refine RD.gnil ?_
  | with_reducible refine RD.bm ?_
  | ((with_reducible refine' RD.bmL ?rdH ?rdK); (case rdH => walk_at "sq"))
  | ((with_reducible refine' RD.newZ ?rdH ?rdK); (case rdH => exact RD.sz _); intro $(Lean.mkIdent `p'):ident $(Lean.mkIdent `H'):ident $(Lean.mkIdent `hp):ident $(Lean.mkIdent `hs):ident $(Lean.mkIdent `hv):ident; (try have $(Lean.mkIdent `hn):ident := hand_ne $(Lean.mkIdent `hp):ident (by walk_at "hk")))
  | with_reducible refine RD.fors ?_
  | with_reducible refine RD.lc ?_
  | with_reducible refine RD.yes ?_
  | with_reducible refine RD.ilist ?_
  | ((with_reducible refine' RD.ilistV ?rdH ?rdK); (case rdH => walk_at "sq"))
  | with_reducible refine RD.itup ?_
  | ((with_reducible refine' RD.itupV ?rdH ?rdK); (case rdH => walk_at "st"))
  | with_reducible refine RD.irng1 ?_
  | with_reducible refine RD.irng2 ?_
  | ((with_reducible refine' RD.irng2V ?rdA ?rdK); (case rdA => first | decide | omega))
  | with_reducible refine RD.ienum ?_
  | ((with_reducible refine' RD.ienumV ?rdH ?rdK); (case rdH => walk_at "sq"))
  | with_reducible refine RD.izip ?_
  | ((with_reducible refine' RD.izipV ?rdH ?rdE ?rdK); (case rdH => walk_at "sq"); (case rdE => walk_at "sq"))
  | with_reducible refine SPD.izipA ?_
  | with_reducible refine RD.istr ?_
  | with_reducible refine RD.istrV ?_
  | ((with_reducible refine' RD.slL ?rdH ?rdK); (case rdH => walk_at "sq"); intro $(Lean.mkIdent `p'):ident $(Lean.mkIdent `H'):ident $(Lean.mkIdent `hp):ident $(Lean.mkIdent `hs):ident $(Lean.mkIdent `hv):ident; (try have $(Lean.mkIdent `hn):ident := hand_ne $(Lean.mkIdent `hp):ident (by walk_at "hk")))
  | ((with_reducible refine' RD.cat ?rdH ?rdE ?rdZ ?rdK); (case rdH => walk_at "hp"); (case rdE => walk_at "hp"); (case rdZ => exact RD.sz _); intro $(Lean.mkIdent `p'):ident $(Lean.mkIdent `H'):ident $(Lean.mkIdent `hp):ident $(Lean.mkIdent `hs):ident $(Lean.mkIdent `hv):ident; (try have $(Lean.mkIdent `hn):ident := hand_ne $(Lean.mkIdent `hp):ident (by walk_at "hk")))
  | ((with_reducible refine' RD.gtup ?rdH ?rdE ?rdK); (case rdH => walk_at "st"); (case rdE => rfl))
  | ((with_reducible refine' RD.app ?rdH ?rdZ ?rdK); (case rdH => walk_at "hp"); (case rdZ => first | assumption | (apply RD.szl; omega)); intro $(Lean.mkIdent `H'):ident $(Lean.mkIdent `hk):ident $(Lean.mkIdent `hv):ident)
  | ((with_reducible refine' RD.all1 ?rdH ?rdK); (case rdH => walk_at "sq"))
  | ((with_reducible refine' RD.any1 ?rdH ?rdK); (case rdH => walk_at "sq"))
  | ((with_reducible refine' SPD.dnew ?rdK); intro $(Lean.mkIdent `p'):ident $(Lean.mkIdent `H'):ident $(Lean.mkIdent `hp):ident $(Lean.mkIdent `hs):ident $(Lean.mkIdent `hv):ident; (try have $(Lean.mkIdent `hn):ident := hand_ne $(Lean.mkIdent `hp):ident (by walk_at "hk")))
  | ((with_reducible refine' SPD.disp1 ?rdK); intro $(Lean.mkIdent `p'):ident $(Lean.mkIdent `H'):ident $(Lean.mkIdent `hp):ident $(Lean.mkIdent `hs):ident $(Lean.mkIdent `hv):ident; (try have $(Lean.mkIdent `hn):ident := hand_ne $(Lean.mkIdent `hp):ident (by walk_at "hk")))
  | ((with_reducible refine' SPD.isSeq ?rdH ?rdE ?rdK); (case rdH => walk_at "hp"); (case rdE => walk_at "kd"))
  | ((with_reducible refine' SPD.isTup ?rdE ?rdK); (case rdE => walk_at "kd"))
  | ((with_reducible refine' SPD.isLst ?rdE ?rdK); (case rdE => walk_at "kd"))
  | ((with_reducible refine' SPD.isBool ?rdE ?rdK); (case rdE => walk_at "kd"))
  | ((with_reducible refine' SPD.isStr ?rdE ?rdK); (case rdE => walk_at "kd"))
  | ((with_reducible refine' SPD.isInt ?rdE ?rdK); (case rdE => walk_at "kd"))
  | dsimp only)
local macro_rules | `(tactic| walk_at "rds") => `(tactic| repeat walk_at "rd")
local macro_rules | `(tactic| walk_at "sm") => `(tactic| first | assumption | exact Same.refl _ | exact RD.sm_tr (by assumption) (by walk_at "sm") | fail "no")
local macro_rules | `(tactic| walk_at "kb") => `(tactic| first | assumption | exact RD.KB.refl | exact RD.kb_tr (by assumption) (by walk_at "kb") | exact RD.kb_trs (by assumption) (by walk_at "kb") | fail "no")
local macro_rules | `(tactic| walk_at "fr") => `(tactic| first | assumption | exact RD.fr_of (by assumption) (by walk_at "sm") | fail "no")
local macro_rules | `(tactic| walk_at "hk") => `(tactic| first | assumption | exact hand_same (by assumption) (by walk_at "hk") | exact hand_kb (by assumption) (by walk_at "fr") (by walk_at "hk") | fail "no")
local macro_rules | `(tactic| walk_at "na") => `(tactic| first | assumption | exact hand_ne (by assumption) (by walk_at "hk") | fail "no")
local macro_rules | `(tactic| walk_at "dqa") => `(tactic| first | exact SPD.DqA.nil | exact SPD.DqA.cons (by walk_at "dq") (by walk_at "dqa") | exact SPD.DqA.app (by walk_at "dqa") (by walk_at "dqa") | fail "no")
local macro_rules | `(tactic| walk_at "dq") => `(tactic| first | assumption | exact SPD.Dq.leaf rfl | exact SPD.dq_kb (by assumption) (by walk_at "kb") | exact SPD.dqTup (by walk_at "hp") (by walk_at "na") (by walk_at "dqa") | exact SPD.dqLst (by walk_at "hp") (by walk_at "na") (by walk_at "dqa") | exact SPD.dqNil (by walk_at "hp") (by walk_at "na") (by first | decide | simp) (by first | decide | simp) | fail "no")

local macro_rules | `(tactic| walk_at "rd") => `(tactic| first
  | with_reducible refine RB.chain ?_
  | with_reducible refine RB.m1 ?_
  | with_reducible refine RB.strE ?_
  | with_reducible refine RB.fld ?_
  | with_reducible refine RB.setF ?_
  | with_reducible refine RB.ss ?_
  | with_reducible refine RB.rev ?_
  | with_reducible refine RB.make ?_
  | with_reducible refine RB.makeS ?_
  | with_reducible refine RB.mkO ?_
  | with_reducible refine NR.ienumT ?_
  | with_reducible refine RB.inS ?_
  | with_reducible refine RB.bmS ?_
  | with_reducible refine RB.callS ?_
  | with_reducible refine RB.sw3 ?_
  | with_reducible refine RB.par3 ?_
  | with_reducible refine RB.par3V ?_
  | ((with_reducible refine' RB.slS ?rdH ?rdK); (case rdH => walk_at "sz"))
  | with_reducible refine RB.xf ?_
  | ((with_reducible refine' RB.xfV ?rdH ?rdE ?rdK); (case rdH => walk_at "hp"); (case rdE => rfl))
  | ((with_reducible refine' NR.ienumTV ?rdH ?rdK); (case rdH => walk_at "st"))
  | ((with_reducible refine' RB.lenL ?rdH ?rdK); (case rdH => walk_at "sq"))
  | ((with_reducible refine' RB.lenT ?rdH ?rdK); (case rdH => walk_at "st"))
  | ((with_reducible refine' RB.lenS ?rdH ?rdK); (case rdH => walk_at "sz"))
  | ((with_reducible refine' RD.lenS ?rdH ?rdK); (case rdH => walk_at "sz"))
  | ((with_reducible refine' RB.slT ?rdH ?rdK); (case rdH => walk_at "hp"); intro $(Lean.mkIdent `p'):ident $(Lean.mkIdent `H'):ident $(Lean.mkIdent `hs):ident $(Lean.mkIdent `hv):ident $(Lean.mkIdent `hp):ident; (try have $(Lean.mkIdent `hn):ident := two_ne $(Lean.mkIdent `hp):ident (by walk_at "na") (by walk_at "hk")))
  | ((with_reducible refine' RB.revV ?rdH ?rdK); (case rdH => walk_at "st"); intro $(Lean.mkIdent `p'):ident $(Lean.mkIdent `H'):ident $(Lean.mkIdent `hp):ident $(Lean.mkIdent `hs):ident $(Lean.mkIdent `hv):ident; (try have $(Lean.mkIdent `hn):ident := hand_ne $(Lean.mkIdent `hp):ident (by walk_at "hk")))
  | ((with_reducible refine' RB.listS ?rdH ?rdK); (case rdH => walk_at "sz"); intro $(Lean.mkIdent `p'):ident $(Lean.mkIdent `H'):ident $(Lean.mkIdent `hp):ident $(Lean.mkIdent `hs):ident $(Lean.mkIdent `hv):ident; (try have $(Lean.mkIdent `hn):ident := hand_ne $(Lean.mkIdent `hp):ident (by walk_at "hk")))
  | ((with_reducible refine' RB.listO ?rdH ?rdK); (case rdH => first | exact Or.inl (by walk_at "sq") | exact Or.inr (by walk_at "st")); intro $(Lean.mkIdent `p'):ident $(Lean.mkIdent `H'):ident $(Lean.mkIdent `hp):ident $(Lean.mkIdent `hs):ident $(Lean.mkIdent `hv):ident; (try have $(Lean.mkIdent `hn):ident := hand_ne $(Lean.mkIdent `hp):ident (by walk_at "hk")))
  | ((with_reducible refine' RB.tupL ?rdH ?rdK); (case rdH => walk_at "sq"); intro $(Lean.mkIdent `p'):ident $(Lean.mkIdent `H'):ident $(Lean.mkIdent `hp):ident $(Lean.mkIdent `hs):ident $(Lean.mkIdent `hv):ident; (try have $(Lean.mkIdent `hn):ident := hand_ne $(Lean.mkIdent `hp):ident (by walk_at "hk")))
  | ((with_reducible refine' RB.catT ?rdH ?rdE ?rdZ ?rdK); (case rdH => walk_at "hp"); (case rdE => walk_at "hp"); (case rdZ => exact RB.LN.sum (by walk_at "ln") (by walk_at "ln") rfl); intro $(Lean.mkIdent `p'):ident $(Lean.mkIdent `H'):ident $(Lean.mkIdent `hs):ident $(Lean.mkIdent `hv):ident $(Lean.mkIdent `hp):ident; (try have $(Lean.mkIdent `hn):ident := three_ne $(Lean.mkIdent `hp):ident (by walk_at "na") (by walk_at "na") (by walk_at "hk")))
  | fail "no")
local macro_rules | `(tactic| walk_at "ln") => `(tactic| first | with_reducible assumption | exact RB.LN.cut (by walk_at "ln") | exact RB.LN.app (by walk_at "ln") (by walk_at "ln") | exact RB.LN.rev (by walk_at "ln") | exact RB.LN.rep (by walk_at "ln") | exact RB.LN.lit rfl | fail "no")
local macro_rules | `(tactic| walk_at "sz") => `(tactic| first | assumption | exact RD.sz _ | fail "no")

local macro_rules | `(tactic| walk_at "hp") => `(tactic| first | assumption | exact RD.at_same (by assumption) (by walk_at "hp") | exact SPE.at_kx (by assumption) (by walk_at "na") (by walk_at "hp") | exact RD.at_kb (by assumption) (by walk_at "ne") (by walk_at "hp") | fail "no")
local macro_rules | `(tactic| walk_at "sq") => `(tactic| first | assumption | exact Or.inl (Or.inl (by walk_at "hp")) | exact Same.seq (by assumption) (by walk_at "sq") | exact SPE.KX.seq (by assumption) (by walk_at "na") (by walk_at "sq") | exact RD.KB.seq (by assumption) (by walk_at "ne") (by walk_at "sq") | fail "no")
local macro_rules | `(tactic| walk_at "st") => `(tactic| first | assumption | exact Or.inl (Or.inl (by walk_at "hp")) | exact RD.Same.tup (by assumption) (by walk_at "st") | exact SPE.KX.tup (by assumption) (by walk_at "na") (by walk_at "st") | exact RD.KB.tup (by assumption) (by walk_at "ne") (by walk_at "st") | fail "no")
local macro_rules | `(tactic| walk_at "kx") => `(tactic| first | assumption | exact SPE.KX.refl | exact SPE.kx_tr (by assumption) (by walk_at "kx") | exact SPE.kx_trs (by assumption) (by walk_at "kx") | fail "no")
local macro_rules | `(tactic| walk_at "dqa") => `(tactic| first | exact SPE.DqA.nil | exact SPE.DqA.cons (by walk_at "dq") (by walk_at "dqa") | exact SPE.DqA.app (by walk_at "dqa") (by walk_at "dqa") | fail "no")
local macro_rules | `(tactic| walk_at "dq") => `(tactic| first | assumption | exact SPE.Dq.leaf rfl | exact SPE.dq_kx (by assumption) (by walk_at "kx") | exact SPE.dqTup (by walk_at "hp") (by walk_at "na") (by walk_at "dqa") | exact SPE.dqLst (by walk_at "hp") (by walk_at "na") (by walk_at "dqa") | exact SPE.dqNil (by walk_at "hp") (by walk_at "na") (by first | decide | simp) (by first | decide | simp) | fail "no")
local macro_rules | `(tactic| walk_at "dqx") => `(tactic| first | exact $(Lean.mkIdent `hdb):ident _ (by walk_at "kx") | exact SPE.DqA.cons (SPE.dq_kx (by assumption) (by walk_at "kx")) SPE.DqA.nil | exact SPE.DqA.cons (SPE.Dq.leaf rfl) SPE.DqA.nil | exact SPE.DqA.nil | (with_reducible refine SPE.dqa_cut ?_; walk_at "dqx") | (with_reducible refine SPE.dqa_rev ?_; walk_at "dqx") | (with_reducible refine SPE.DqA.app ?_ ?_ <;> walk_at "dqx") | fail "no")
local macro_rules | `(tactic| walk_at "dqz") => `(tactic| first | exact SPE.dqTupN (by walk_at "hp") (by walk_at "na") (by walk_at "dqx") (by walk_at "ln") rfl | exact SPE.dqLstN (by walk_at "hp") (by walk_at "na") (by walk_at "dqx") (by walk_at "ln") rfl | fail "no")
local macro_rules | `(tactic| walk_at "rd") => `(tactic| first
  | with_reducible refine SPE.revs ?_
  | ((with_reducible refine' SPE.revsV ?rdH ?rdK); (case rdH => walk_at "sz"))
  | ((with_reducible refine' SPE.sum1 ?rdH ?rdK); (case rdH => walk_at "sq"))
  | fail "no")

local macro_rules | `(tactic| walk_at "rd") => `(tactic| first
  | ((with_reducible refine' RB.listO ?rdH ?rdK); (case rdH => exact Or.inr (by walk_at "st")); intro $(Lean.mkIdent `p'):ident $(Lean.mkIdent `H'):ident $(Lean.mkIdent `hp):ident $(Lean.mkIdent `hs):ident $(Lean.mkIdent `hv):ident; (try have $(Lean.mkIdent `hn):ident := hand_ne $(Lean.mkIdent `hp):ident (by walk_at "hk")))
  | fail "no")

/-! ### bent parts, the walk -/
section
variable {P : Program} {w : World} {K : PySem.W.Frag} {mg : Str → Option Value} {base : Heap}
set_option maxHeartbeats 20000000 in
theorem ok_bent (T : Txt P K mg) : FnOk P w K mg base CX0 3 T.a_bent T.fd_bent ["_law_bag_here", "_law_parts_here"] spBentM := by
  have nd := sc_bent.nd
  have G_pick : FnOk P w K mg base CX0 2 T.a_pick T.fd_pick ["_law_bag_here", "_law_many"] spPick := (ok_pick T).mono (by decide)
  have G_some : FnOk P w K mg base CX0 2 T.a_some T.fd_some ["_law_bag_here", "_law_things"] (spSome K) := ok_some T
  have G_nested : FnOk P w K mg base CX0 2 T.a_nested T.fd_nested [] spNested := (ok_nested T).mono (by decide)
  refine T.F_bent.ok sc_bent (fun vs H Q E h => ?_) (fun cdv A outer s H vs Q E hr h => ?_)
  · obtain ⟨x, t, z, r, l, rws, ls, rfl, _⟩ := h
    rfl
  · obtain ⟨x, t, z, r, l, rws, ls, rfl, hh, ht, ⟨ra, la, rs, rfl, rfl, h1, h2, h3⟩, g, q⟩ := h
    refine ⟨_, (pss_cons (ps_asg (pv 1) (pg_tup rfl (pgs_cons (pg_name (i := 2) nd rfl (by first | exact Or.inl rfl | exact Or.inr rfl)) (pgs_cons (pg_name (i := 3) nd rfl (by first | exact Or.inl rfl | exact Or.inr rfl)) (pgs_cons (pg_name (i := 4) nd rfl (by first | exact Or.inl rfl | exact Or.inr rfl)) pgs_nil)))))
  (pss_cons (ps_asg (pe_tup (pa_cons (pe_call G_pick hr (by rfl) T.g_pick T.F_pick.kp T.b_pick .nil pass0 (pa_cons (pv 0) (pa_cons (pe_callB call_len_seq (by rfl) T.m_len PySem.boot_len (pa_cons (pv 3) pa_nil)) pa_nil))) (pa_cons (pe_call G_pick hr (by rfl) T.g_pick T.F_pick.kp T.b_pick .nil pass0 (pa_cons (pv 0) (pa_cons (pe_callB call_len_str (by rfl) T.m_len PySem.boot_len (pa_cons (pv 2) pa_nil)) pa_nil))) pa_nil))) (pg_tup rfl (pgs_cons (pg_name (i := 5) nd rfl (by first | exact Or.inl rfl | exact Or.inr rfl)) (pgs_cons (pg_name (i := 6) nd rfl (by first | exact Or.inl rfl | exact Or.inr rfl)) pgs_nil))))
  (pss_cons (ps_set (i := 7) nd rfl (by first | exact Or.inl rfl | exact Or.inr rfl) (pe_call G_some hr (by rfl) T.g_some T.F_some.kp T.b_some .nil pass0 (pa_cons (pv 0) (pa_cons (pe_lst (pa_cons (pe_callB call_len_seq (by rfl) T.m_len PySem.boot_len (pa_cons (pv 3) pa_nil)) (pa_cons (pe_un un_neg pe_int) (pa_cons pe_bl (pa_cons pe_non (pa_cons pe_str (pa_cons (pe_tup (pa_cons pe_int pa_nil)) (pa_cons (pe_call G_pick hr (by rfl) T.g_pick T.F_pick.kp T.b_pick .nil pass0 (pa_cons (pv 0) (pa_cons (pe_callB call_len_seq (by rfl) T.m_len PySem.boot_len (pa_cons (pv 3) pa_nil)) pa_nil))) pa_nil)))))))) pa_nil))))
  (pss_cons (ps_set (i := 8) nd rfl (by first | exact Or.inl rfl | exact Or.inr rfl) (pe_ix ix_tup (pv 3) (pv 5) (fun _ _ => rfl)))
  (pss_cons (ps_set (i := 9) nd rfl (by first | exact Or.inl rfl | exact Or.inr rfl) (pe_lst (pa_cons (pe_op op_add_str (pv 2) (pe_slice sl_str (pv 2) (po_some (pe_un un_neg pe_int)) po_none)) (pa_cons (SPE.pe_revS (pv 2)) (pa_cons (pe_op op_add_str (pv 2) pe_str) (pa_cons pe_str (pa_cons (pe_bm0 PySem.F.plainAttrs_str PySem.F.slot_str_upper PySem.F.type_str_upper mt_upper (pv 2)) (pa_cons pe_non (pa_cons (pe_callTy (RB.call_listS rfl) (by rfl) T.m_list (by decide +kernel) (pa_cons (pv 2) pa_nil)) (pa_cons (pe_op op_add_str (pv 2) pe_str) (pa_cons pe_int pa_nil)))))))))))
  (pss_cons (ps_setLc (i := 9) (own := [("_law_one", 13)]) (g := (gName 13)) rfl nd rfl rfl (sw_true rfl rfl rfl (by decide +kernel)) (pi_list (pv 9)) (blkOk_by (own := [("_law_one", 13)]) (N := N_bent) (sc := defScope s_bent) (by decide +kernel)) (fun _ _ _ _ _ => (pg_name (i := 13) nd rfl (Or.inl rfl))) (fun _ _ _ _ _ => pts_nil) (fun _ _ _ _ _ => (pe_tup (pa_cons (pv 13) (pa_cons (pv 3) (pa_cons (pv 4) pa_nil))))))
  (pss_cons (ps_set (i := 10) nd rfl (by first | exact Or.inl rfl | exact Or.inr rfl) (pe_lst (pa_cons (pe_op op_catA (pe_op op_catA (pe_slice sl_tupA (pv 8) po_none (po_some (pv 6))) (pe_tup (pa_cons (pv 7) pa_nil))) (pe_slice sl_tupA (pv 8) (po_some (pe_op op_add (pv 6) pe_int)) po_none)) (pa_cons (pe_op op_catA (pv 8) (pe_tup (pa_cons pe_int pa_nil))) (pa_cons (pe_slice sl_tupA (pv 8) (po_some pe_int) po_none) (pa_cons (pe_callTy RB.call_listO (by rfl) T.m_list (by decide +kernel) (pa_cons (pv 8) pa_nil)) (pa_cons pe_non (pa_cons (pv 7) pa_nil))))))))
  (pss_cons (ps_set (i := 9) nd rfl (by first | exact Or.inl rfl | exact Or.inr rfl) (pe_op op_cat (pv 9) (pe_lc (own := [("_law_one", 13)]) (g := (gName 13)) rfl nd (pi_list (pe_op op_rep (pv 10) pe_int)) (blkOk_by (own := [("_law_one", 13)]) (N := N_bent) (sc := defScope s_bent) (by decide +kernel)) (fun _ _ _ _ _ => (pg_name (i := 13) nd rfl (Or.inl rfl))) (fun _ _ _ _ _ => pts_nil) (fun _ _ _ _ _ => (pe_tup (pa_cons (pv 2) (pa_cons (pe_op (r := rCatA K) op_catA (pe_op (r := rCatA K) op_catA (pe_slice (r := rSlA K) sl_tupA (pv 3) po_none (po_some (pv 5))) (pe_tup (pa_cons (pv 13) pa_nil))) (pe_slice (r := rSlA K) sl_tupA (pv 3) (po_some (pe_op op_add (pv 5) pe_int)) po_none)) (pa_cons (pv 4) pa_nil))))))))
  (pss_cons (ps_set (i := 11) nd rfl (by first | exact Or.inl rfl | exact Or.inr rfl) (pe_lst (pa_cons (pe_tup pa_nil) (pa_cons (pe_callTy RB.call_listO (by rfl) T.m_list (by decide +kernel) (pa_cons (pv 3) pa_nil)) (pa_cons pe_non (pa_cons (pe_op op_catA (pv 3) (pe_slice sl_tupA (pv 3) po_none (po_some pe_int))) (pa_cons (pe_slice sl_tupA (pe_op op_repT (pv 3) pe_int) po_none (po_some pe_int)) (pa_cons (pe_call0 G_nested hr (by rfl) T.g_nested T.F_nested.kp T.b_nested .nil pass0) pa_nil))))))))
  (pss_cons (ps_set (i := 9) nd rfl (by first | exact Or.inl rfl | exact Or.inr rfl) (pe_op op_cat (pv 9) (pe_lc (own := [("_law_one", 13)]) (g := (gName 13)) rfl nd (pi_list (pv 11)) (blkOk_by (own := [("_law_one", 13)]) (N := N_bent) (sc := defScope s_bent) (by decide +kernel)) (fun _ _ _ _ _ => (pg_name (i := 13) nd rfl (Or.inl rfl))) (fun _ _ _ _ _ => pts_nil) (fun _ _ _ _ _ => (pe_tup (pa_cons (pv 2) (pa_cons (pv 13) (pa_cons (pv 4) pa_nil))))))))
  (pss_cons (ps_set (i := 12) nd rfl (by first | exact Or.inl rfl | exact Or.inr rfl) (pe_lst (pa_cons (pe_slice sl_tupA (pv 4) (po_some pe_int) po_none) (pa_cons (pe_op op_catA (pv 4) (pe_tup (pa_cons pe_bl pa_nil))) (pa_cons (pe_callTy RB.call_listO (by rfl) T.m_list (by decide +kernel) (pa_cons (pv 4) pa_nil)) (pa_cons (pe_callTy RB.call_tupO (by rfl) T.m_tuple (by decide +kernel) (pa_cons (pe_lc (own := [("_law_flag_here", 14)]) (g := (gName 14)) rfl nd (pi_tup (pv 4)) (blkOk_by (own := [("_law_flag_here", 14)]) (N := N_bent) (sc := defScope s_bent) (by decide +kernel)) (fun _ _ _ _ _ => (pg_name (i := 14) nd rfl (Or.inl rfl))) (fun _ _ _ _ _ => pts_nil) (fun _ _ _ _ _ => (pe_callTy call_int1 (by rfl) T.m_int (by decide +kernel) (pa_cons (pv 14) pa_nil)))) pa_nil)) (pa_cons pe_non pa_nil)))))))
  (pss_cons (ps_expr (pe_bm PySem.F.plainAttrs_list PySem.F.slot_list_append PySem.F.type_list_append mt_append (pv 12) (pa_cons (pe_op op_catA (pe_op op_catA (pe_slice sl_tupA (pv 4) po_none (po_some (pv 5))) (pe_tup (pa_cons (pv 7) pa_nil))) (pe_slice sl_tupA (pv 4) (po_some (pe_op op_add (pv 5) pe_int)) po_none)) pa_nil)))
  (pss_cons (ps_set (i := 9) nd rfl (by first | exact Or.inl rfl | exact Or.inr rfl) (pe_op op_cat (pe_op op_cat (pv 9) (pe_lc (own := [("_law_one", 13)]) (g := (gName 13)) rfl nd (pi_list (pv 12)) (blkOk_by (own := [("_law_one", 13)]) (N := N_bent) (sc := defScope s_bent) (by decide +kernel)) (fun _ _ _ _ _ => (pg_name (i := 13) nd rfl (Or.inl rfl))) (fun _ _ _ _ _ => pts_nil) (fun _ _ _ _ _ => (pe_tup (pa_cons (pv 2) (pa_cons (pv 3) (pa_cons (pv 13) pa_nil))))))) (pe_lst (pa_cons (pe_tup (pa_cons (pe_op op_add_str (SPE.pe_revS (pv 2)) pe_str) (pa_cons (pe_tup pa_nil) (pa_cons pe_non pa_nil)))) (pa_cons (pe_tup (pa_cons (pv 2) (pa_cons (pe_tup pa_nil) (pa_cons pe_non pa_nil)))) pa_nil)))))
  (pss_one (ps_ret (pe_call G_some hr (by rfl) T.g_some T.F_some.kp T.b_some .nil pass0 (pa_cons (pv 0) (pa_cons (pv 9) pa_nil)))))))))))))))))), ?_⟩
    obtain ⟨hlz, hz1, hz8⟩ := log_signs g.signs
    have hzl : z.length = z.cps.size := rfl
    have hzs : z.length ≤ sizeLine := small_len (by omega)
    have hrl := h2.len
    have g1 := g.some
    have g3 := g.few
    have gl := g.lets
    have hlm : (ls.map V.bl).length = ls.length := List.length_map ..
    have hln : RB.LN 300 rs := by show rs.length ≤ 300; omega
    have hlnl : RB.LN 300 (ls.map V.bl) := by show (ls.map V.bl).length ≤ 300; omega
    walk_at "rds"
    refine spPick.mk (E := E0) hh (by omega) (by omega) fun r1 H1 hr10 hr11 k1 hh1 => ?_
    obtain ⟨at_, rfl⟩ : ∃ k : Nat, r1 = (k : Int) := ⟨r1.toNat, (Int.toNat_of_nonneg hr10).symm⟩
    walk_at "rds"
    refine spPick.mk (E := E0) hh1 (by omega) (by omega) fun r2 H2 hr20 hr21 k2 hh2 => ?_
    obtain ⟨spot, rfl⟩ : ∃ k : Nat, r2 = (k : Int) := ⟨r2.toNat, (Int.toNat_of_nonneg hr20).symm⟩
    have k02 := k1.trans k2
    have hra2 := kx_tup k02 hh _ _ h1
    have hrl2 := h2.of (kx_tup k02 hh)
    have hla2 := kx_tup k02 hh _ _ h3
    clear k1 k2 hh1 h1 h2 h3
    walk_at "rds"
    refine spPick.mk (E := E0) (by walk_at "hk") (by omega) (by omega) fun r3 H3 hr30 hr31 k3 hh3 => ?_
    walk_at "rds"
    refine spSome.dq (E := E0) (n := 2) (by walk_at "hk") (by walk_at "hp") (by walk_at "na") (by walk_at "dqa") rfl rfl fun odd H5 k5 hh5 hodd => ?_
    have k25 : SPE.KX x H2 H5 := by walk_at "kx"
    have hra5 := kx_tup k25 hh2 _ _ hra2
    have hrl5 := hrl2.of (kx_tup k25 hh2)
    have hla5 := kx_tup k25 hh2 _ _ hla2
    have k05 := k02.trans k25
    clear k02 k25 k5 k3 hh3 hra2 hrl2 hla2 hh2
    have hat : at_ < rws.length := by omega
    obtain ⟨ns, hns⟩ : ∃ ns, rws[at_]? = some ns := ⟨_, List.getElem?_eq_getElem hat⟩
    obtain ⟨rowa, hrowa, hrow5⟩ := hrl5.get _ _ hns
    have hrw := g.wide ns (List.mem_of_getElem? hns)
    have hlnr : RB.LN 8 (ns.map fun n => V.int (n : Nat)) := by show (List.map _ _).length ≤ 8; rw [List.length_map]; omega
    walk_at "rds"
    refine RD.ixT (by walk_at "st") (atI_nat hrowa) ?_
    have el : ∀ x : Str, x.length = x.cps.size := fun _ => rfl
    have c1 := cut_size z (some (-1)) none
    have ap : ∀ x y : Str, (x ++ y).cps.size = x.cps.size + y.cps.size := app_size
    have c2 := rev_size z
    have c3 := PyProof.Rows.len_upper z
    walk_at "rds"
    refine RB.addS (RD.szo (by rw [el, el]; omega)) ?_
    walk_at "rds"
    refine RB.addS (RD.szo (by rw [el, el]; show _ + 1 ≤ _; omega)) ?_
    walk_at "rds"
    refine bm0 ?_
    walk_at "rds"
    refine ⟨rfl, by omega, ?_⟩
    walk_at "rds"
    have hvL := hv
    have hnL := hn
    have hsL := hs
    clear hv hn hp hs
    generalize p' = pL at hvL hnL ⊢
    generalize H' = HL at hvL hsL ⊢
    refine RB.addS (RD.szo (by rw [el, el]; show _ + 1 ≤ _; omega)) ?_
    walk_at "rds"
    have hz0 := okP.of hlz
    have o1 : ("i" : Str).cps.size = 1 := rfl
    have ii : okP ("i" : Str) := fun c hc => by
      have : c = 105 := by simpa using (show c ∈ [105] from hc)
      omega
    have hh' : okP ("h" : Str) := fun c hc => by
      have : c = 104 := by simpa using (show c ∈ [104] from hc)
      omega
    have aa : okP ("A" : Str) := fun c hc => by
      have : c = 65 := by simpa using (show c ∈ [65] from hc)
      omega
    have h0' : okP ("" : Str) := fun c hc => by cases hc
    have hmenu : ∀ v, v ∈ [V.str (z ++ cutS z (some (-1)) none), .str (SPE.revS z), .str (z ++ ("i" : Str)), .str ("" : Str), .str (Txt.upper z), .non, .ref pL, .str (z ++ ("h" : Str)), .int 0] → SgOk v ∧ SPE.Dq x H' 41 v := by
      intro v hv0
      simp only [List.mem_cons, List.not_mem_nil, or_false] at hv0
      have st : ∀ y : Str, okP y → y.cps.size ≤ 100 → SgOk (.str y) ∧ SPE.Dq x H' 41 (.str y) := fun y h1 h2 => ⟨sg_str h1, leaf_str (by omega)⟩
      have ns : ∀ v : V, (∀ y : Str, v ≠ .str y) → SgOk v := fun v h y e => absurd e (h y)
      rcases hv0 with rfl | rfl | rfl | rfl | rfl | rfl | rfl | rfl | rfl
      · exact st _ (hz0.app hz0.cut) (by rw [ap]; omega)
      · exact st _ hz0.rev (by omega)
      · exact st _ (hz0.app ii) (by rw [ap]; show _ + 1 ≤ _; omega)
      · exact st _ h0' (by decide)
      · exact st _ (okP.up hlz) (by have : (Txt.upper z).length = (Txt.upper z).cps.size := rfl; omega)
      · exact ⟨ns _ (fun y e => nomatch e), .leaf rfl⟩
      · refine ⟨ns _ (fun y e => nomatch e), SPE.dqLstN (n := 40) (m := 8) (by walk_at "hp") (by walk_at "na") (SPE.dqa_leaf fun v hv => ?_) ?_ rfl⟩
        · obtain ⟨c, _, rfl⟩ := List.mem_map.mp hv
          rfl
        · show (List.map _ _).length ≤ 8
          rw [List.length_map, Array.length_toList]
          omega
      · exact st _ (hz0.app hh') (by rw [ap]; show _ + 1 ≤ _; omega)
      · exact ⟨ns _ (fun y e => nomatch e), .leaf rfl⟩
    obtain ⟨vals, hvS, hl9, hmenu⟩ : ∃ vals, H' p' = some (.lst vals) ∧ vals.length = 9 ∧ ∀ v, v ∈ vals → SgOk v ∧ SPE.Dq x H' 41 v := ⟨_, hv, rfl, hmenu⟩
    have s5A : Same H5 H' := by walk_at "sm"
    have hhA := hh5.same s5A
    have hraA := s5A _ _ hra5
    have hlaA := s5A _ _ hla5
    have hrlA := hrl5.same s5A
    have hrowA := s5A _ _ hrow5
    have hoddA : SPE.Dq x H' 2 odd := hodd.same s5A
    have kA : SPE.KX x H H' := k05.trans (SPE.kx_of s5A)
    clear hra5 hla5 hrl5 hrow5 hodd k05 hsL hvL hnL hh5 s5A hv hs hp hn
    generalize p' = pS at hvS ⊢
    generalize H' = HA at hvS hmenu hhA hraA hlaA hrlA hrowA hoddA kA ⊢
    have hw8 : ∀ r, r ∈ rws → r.length ≤ 8 := fun r hr => by rw [g.wide r hr]; exact hz8
    have hdsA : SPE.DqA x HA 1 rs := RL.dq hhA hrlA hw8
    have hdrA : SPE.Dq x HA 41 (.ref ra) := (SPE.dqTupN hraA (hhA.tupOff hraA) hdsA hln rfl).mono 41 (by decide)
    have hdlA : SPE.Dq x HA 41 (.ref la) := (SPE.dqTupN (n := 1) hlaA (hhA.tupOff hlaA) (dq_bls ls) hlnl rfl).mono 41 (by decide)
    refine comp1 hvS (by omega) hmenu hdrA hdlA hhA fun D acc H6 hD s6 hDa hl6 hL6 => ?_
    have hh6 := hhA.same s6
    have nD := hand_ne hD hhA
    have hra6 := s6 _ _ hraA
    have hla6 := s6 _ _ hlaA
    have hrow6 := s6 _ _ hrowA
    have hodd6 : SPE.Dq x H6 2 odd := hoddA.same s6
    have hds6 : SPE.DqA x H6 1 rs := hdsA.kx (SPE.kx_of s6)
    have k6 : SPE.KX x H H6 := kA.trans (SPE.kx_of s6)
    clear hD s6 hhA hraA hlaA hrowA hoddA hdsA kA hdrA hdlA hvS hmenu hrlA
    have or6 := hh6.tupOff hrow6
    have ora6 := hh6.tupOff hra6
    have ola6 := hh6.tupOff hla6
    walk_at "rds"
    rename_i p1 G1 e1 v1 q1 o1 p2 G2 q2 e2 v2 o2 p3 G3 e3 v3 q3 o3 p4 G4 e4 v4 q4 o4 p5 G5 e5 v5 q5 o5 p6 G6 q6 e6 v6 o6 p7 G7 e7 v7 q7 o7 p8 G8 e8 v8 q8 o8 p9 G9 q9 e9 v9 o9
    have t8 := e9.trans hs
    have t7 := e8.trans t8
    have t5 := e6.trans (e7.trans t7)
    have s6P : Same H6 H' := e1.trans (e2.trans (e3.trans (e4.trans (e5.trans t5))))
    obtain ⟨put, hvP, hlP, hput⟩ : ∃ put, H' p' = some (.lst put) ∧ put.length = 6 ∧ ∀ v, v ∈ put → SPE.Dq x H' 41 v := by
      refine ⟨_, hv, rfl, all_dq (n := 3) (by decide) ?_⟩
      have ho : SPE.Dq x H' 2 odd := hodd6.same s6P
      have hr : ∀ lo hi, SPE.DqA x H' 2 (cutV (ns.map fun n => V.int (n : Nat)) lo hi) := fun lo hi => SPE.dqa_cut (dq_nats ns)
      exact .cons (SPE.dqTupN (t5 _ _ v5) o5 (.app (.app (hr _ _) (.cons ho .nil)) (hr _ _)) (RB.LN.app (RB.LN.app (RB.LN.cut hlnr) (RB.LN.lit (m := 1) rfl)) (RB.LN.cut hlnr)) rfl)
        (.cons (SPE.dqTupN (t7 _ _ v7) o7 (.app (dq_nats ns) (.cons (.leaf rfl) .nil)) (RB.LN.app hlnr (RB.LN.lit (m := 1) rfl)) rfl) (.cons (SPE.dqTupN (t8 _ _ v8) o8 (hr _ _) (RB.LN.cut hlnr) rfl)
          (.cons (SPE.dqLstN (hs _ _ v9) o9 (dq_nats ns) hlnr rfl) (.cons (.leaf rfl) (.cons (ho.mono 3 (by decide)) .nil)))))
    clear t8 t7 t5 e1 e2 e3 e4 e5 e6 e7 e8 e9 v1 v2 v3 v4 v5 v6 v7 v8 v9 q1 q2 q3 q4 q5 q6 q7 q8 q9 o1 o2 o3 o4 o5 o6 o7 o8 o9
    clear hv hs hp hn
    generalize p' = pP at hvP ⊢
    generalize H' = HP at hvP hput s6P ⊢
    refine RB.repL hvP ⟨⟨by decide, by decide⟩, RD.szo (by rw [hlP]; decide)⟩ fun p7 H7 hp7 s7 hv7 => ?_
    have s67 := s6P.trans s7
    obtain ⟨vals7, hv7, hl7, hvals7⟩ : ∃ vals, H7 p7 = some (.lst vals) ∧ vals.length = 18 ∧ ∀ v, v ∈ vals → SPE.Dq x H7 41 v := by
      refine ⟨_, hv7, ?_, fun v hm => ?_⟩
      · rw [List.length_flatten, List.map_replicate, hlP]
        rfl
      · obtain ⟨l, hl, hy⟩ := List.mem_flatten.mp hm
        rw [(List.mem_replicate.mp hl).2] at hy
        exact (hput v hy).same s7
    have hh7 := hh6.same s67
    have hra7 := s67 _ _ hra6
    have hla7 := s67 _ _ hla6
    have hds7 : SPE.DqA x H7 39 rs := (hds6.mono (by decide)).kx (SPE.kx_of s67)
    have hdl7 : SPE.Dq x H7 41 (.ref la) := (SPE.dqTupN (n := 1) hla7 ola6 (dq_bls ls) hlnl rfl).mono 41 (by decide)
    have hodd7 : SPE.Dq x H7 2 odd := hodd6.same s67
    have hL7 : ∀ v, v ∈ acc → Th3 x H7 v := fun v hv => (hL6 v hv).same s67
    have hD7 := s67 _ _ hDa
    have k7 : SPE.KX x H H7 := k6.trans (SPE.kx_of s67)
    clear hvP hput s6P s7 s67 hh6 hra6 hla6 hds6 hodd6 hL6 hDa k6 hp7 hrow6 or6
    walk_at "rds"
    refine comp2 hv7 (by omega) hvals7 hra7 hln (hds7.mono (by decide)) hdl7 hh7 hlz hz8 fun D2 acc2 H8 hD2 s8 hDa2 hl8 hM8 => ?_
    refine RD.cat (s8 _ _ hD7) hDa2 (RD.szo (by omega)) fun p9 H9 hp9 s9 hv9 => ?_
    have s79 := s8.trans s9
    obtain ⟨xs9, hv9, hl9, hX9⟩ : ∃ xs, H9 p9 = some (.lst xs) ∧ xs.length = 27 ∧ ∀ v, v ∈ xs → Th3 x H9 v := by
      refine ⟨_, hv9, by rw [List.length_append]; omega, fun v hm => ?_⟩
      rcases List.mem_append.mp hm with e | e
      · exact (hL7 v e).same s79
      · exact (hM8 v e).same s9
    have hh9 := hh7.same s79
    have hra9 := s79 _ _ hra7
    have hla9 := s79 _ _ hla7
    have hds9 : SPE.DqA x H9 39 rs := hds7.kx (SPE.kx_of s79)
    have hodd9 : SPE.Dq x H9 2 odd := hodd7.same s79
    have k9 : SPE.KX x H H9 := k7.trans (SPE.kx_of s79)
    clear hD7 hDa2 s8 s9 s79 hL7 hM8 hh7 hra7 hla7 hds7 hodd7 k7 hdl7 hvals7 hv7 hp9 hD2
    walk_at "rds"
    rename_i p1 G1 q1 e1 v1 o1 p2 G2 q2 e2 v2 o2 p3 G3 e3 v3 q3 o3
    have v4 := hv
    have o4 := hn
    have e4 := hs
    have s9R := e1.trans (e2.trans (e3.trans e4))
    refine RB.repT (.inl (.inl (s9R _ _ hra9))) ⟨fun e => by rw [e] at hrl; exact absurd hrl (by show ¬ 0 = _; omega), ⟨by decide, by decide⟩, by omega⟩ fun pR HR hpR sR hvR => ?_
    have hhR := hh9.same (s9R.trans sR)
    have nR : SPE.Off pR x := hand_ne hpR (hh9.same s9R)
    clear hv hs hp hn
    walk_at "rds"
    have v5 := hv
    have o5 := hn
    have e5 := hs
    have hhS := hhR.same hs
    clear hv hs hp hn
    refine ⟨rfl, fun vn Hn sn hdn => ?_⟩
    have hdn := hdn x hhS
    walk_at "rds"
    have tn := sn.trans hs
    have t5 := tn
    have tR := e5.trans t5
    have t4 := sR.trans tR
    have t2 := e3.trans (e4.trans t4)
    have t1 := e2.trans t2
    have s9O : Same H9 H' := e1.trans t1
    obtain ⟨oth, hvO, hlO, hoth⟩ : ∃ oth, H' p' = some (.lst oth) ∧ oth.length = 6 ∧ ∀ v, v ∈ oth → SPE.Dq x H' 41 v := by
      refine ⟨_, hv, rfl, all_dq (n := 40) (by decide) ?_⟩
      have hr : SPE.DqA x H' 39 rs := hds9.kx (SPE.kx_of s9O)
      exact .cons (SPE.dqTupN (n := 39) (t1 _ _ v1) o1 .nil (RB.LN.lit (m := 0) rfl) rfl) (.cons (SPE.dqLstN (t2 _ _ v2) o2 hr hln rfl) (.cons (.leaf rfl) (.cons (SPE.dqTupN (t4 _ _ v4) o4 (.app hr (SPE.dqa_cut hr)) (RB.LN.app hln (RB.LN.cut hln)) rfl)
        (.cons (SPE.dqTupN (t5 _ _ v5) o5 (SPE.dqa_cut (SPE.dqa_rep hr)) (RB.LN.cut (RB.LN.rep hln)) rfl) (.cons (hdn.same hs) .nil)))))
    clear t1 t2 t4 tR t5 tn e1 e2 e3 e4 e5 v1 v2 v3 v4 v5 q1 q2 q3 o1 o2 o3 o4 o5 s9R hhR hhS
    clear hv hs hp hn hdn sn hvR sR hpR nR
    generalize p' = pO at hvO ⊢
    generalize H' = HO at hvO hoth s9O ⊢
    have hhO := hh9.same s9O
    have hraO := s9O _ _ hra9
    have hlaO := s9O _ _ hla9
    have hdlO : SPE.Dq x HO 41 (.ref la) := (SPE.dqTupN (n := 1) hlaO ola6 (dq_bls ls) hlnl rfl).mono 41 (by decide)
    have hoddO : SPE.Dq x HO 2 odd := hodd9.same s9O
    have hXO : ∀ v, v ∈ xs9 → Th3 x HO v := fun v hv => (hX9 v hv).same s9O
    have hv9O := s9O _ _ hv9
    have hdsO : SPE.DqA x HO 39 rs := hds9.kx (SPE.kx_of s9O)
    have kO : SPE.KX x H HO := k9.trans (SPE.kx_of s9O)
    clear hv9 hX9 s9O hh9 hra9 hla9 hds9 hodd9 k9
    walk_at "rds"
    refine comp3 hvO (by omega) hoth hdlO hhO hlz hz8 fun D3 acc3 H10 hD3 s10 hDa3 hl10 hM10 => ?_
    refine RD.cat (s10 _ _ hv9O) hDa3 (RD.szo (by omega)) fun p11 H11 hp11 s11 hv11 => ?_
    have sO1 := s10.trans s11
    obtain ⟨xs11, hv11, hl11, hX11⟩ : ∃ xs, H11 p11 = some (.lst xs) ∧ xs.length = 33 ∧ ∀ v, v ∈ xs → Th3 x H11 v := by
      refine ⟨_, hv11, by rw [List.length_append]; omega, fun v hm => ?_⟩
      rcases List.mem_append.mp hm with e | e
      · exact (hXO v e).same sO1
      · exact (hM10 v e).same s11
    have hh11 := hhO.same sO1
    have hra11 := sO1 _ _ hraO
    have hla11 := sO1 _ _ hlaO
    have hodd11 : SPE.Dq x H11 2 odd := hoddO.same sO1
    have hdr11 : SPE.Dq x H11 41 (.ref ra) := (SPE.dqTupN hra11 ora6 (hdsO.kx (SPE.kx_of sO1)) hln rfl).mono 41 (by decide)
    have k11 : SPE.KX x H H11 := kO.trans (SPE.kx_of sO1)
    clear hv9O hXO sO1 hhO hraO hlaO hdsO hoddO kO hdlO hvO hoth hDa3 hM10 s10 s11 hD3 hp11
    walk_at "rd"
    refine RD.seq ?_
    refine RD.asg ?_
    refine flagsA hla11 hlnl hh11 fun pF fl H12 hpF s12 hvF hl5 hfl => ?_
    refine RD.name ?_
    dsimp only
    refine RD.seq ?_
    refine RD.drop ?_
    refine flagsB hvF hl5 (s12 _ _ hla11) hlnl (hh11.same s12) (fun Hz kz => hodd11.same (RD.same_mut kz s12 hpF)) fun pc Hc H13 sc kc hvZ hdpc => ?_
    have s13 : Same H11 H13 := RD.same_mut kc (s12.trans sc) hpF
    have hh13 := hh11.same s13
    have hflags : ∀ v, v ∈ fl ++ [.ref pc] → SPE.Dq x H13 41 v := fun v hm => by
      rcases List.mem_append.mp hm with e | e
      · exact hfl H13 ((RD.Same.kb sc).trans kc) v e
      · rw [List.mem_singleton.mp e]
        exact hdpc
    have hl6' : (fl ++ [V.ref pc]).length = 6 := by rw [List.length_append, hl5]; rfl
    have hv13 := s13 _ _ hv11
    have hX13 : ∀ v, v ∈ xs11 → Th3 x H13 v := fun v hv => (hX11 v hv).same s13
    have hdr13 : SPE.Dq x H13 41 (.ref ra) := hdr11.same s13
    have k13 : SPE.KX x H H13 := k11.trans (SPE.kx_of s13)
    clear hv11 hX11 hdr11 k11 hfl hdpc s12 sc kc s13 hpF hvF hla11 hra11 hodd11 hh11
    dsimp only
    refine RD.seq ?_
    refine RD.asg ?_
    refine RD.op ?_
    refine RD.op ?_
    refine RD.var rfl ?_
    refine RD.lc ?_
    refine RD.ilist ?_
    refine RD.var rfl ?_
    refine RD.ilistV (.inl (.inl hvZ)) ?_
    refine comp4 hvZ (by omega) hflags hdr13 hh13 hlz hz8 fun D4 acc4 H14 hD4 s14 hDa4 hl14 hM14 => ?_
    refine RD.cat (s14 _ _ hv13) hDa4 (RD.szo (by omega)) fun p15 H15 hp15 s15 hv15 => ?_
    have s135 := s14.trans s15
    have hh15 := hh13.same s135
    have hX15 : ∀ v, v ∈ xs11 ++ acc4 → Th3 x H15 v := fun v hm => by
      rcases List.mem_append.mp hm with e | e
      · exact (hX13 v e).same s135
      · exact (hM14 v e).same s15
    have hl15 : (xs11 ++ acc4).length = 39 := by rw [List.length_append]; omega
    have k15 : SPE.KX x H H15 := k13.trans (SPE.kx_of s135)
    clear hv13 hX13 hdr13 k13 hh13 hflags hvZ hDa4 hM14 s14 s15 s135 hD4
    refine lastL hh15 hlz hz8 fun p16 u1 u2 H16 hp16 s16 hv16 hu1 hu2 => ?_
    refine RD.cat (s16 _ _ hv15) hv16 (RD.szo (by rw [hl15]; show 39 + 2 ≤ _; decide)) fun p17 H17 hp17 s17 hv17 => ?_
    have hh17 := (hh15.same s16).same s17
    walk_at "rds"
    refine spSome.mk (E := E0) hh17 (.lst (hand_ne hp17 (hh15.same s16)) (.inl (.inl hv17))) (by rw [List.length_append, hl15]; show 0 < 39 + 2; decide) (by rw [List.length_append, hl15]; show 39 + 2 < _; decide) fun v H18 hm k18 hh18 => ?_
    refine q v H18 ((k15.trans (SPE.kx_of (s16.trans s17))).trans k18) hh18 (Th3.kx k18 ?_)
    rcases List.mem_append.mp hm with e | e
    · exact (hX15 v e).same (s16.trans s17)
    · simp only [List.mem_cons, List.not_mem_nil, or_false] at e
      rcases e with rfl | rfl
      · exact hu1.same s17
      · exact hu2.same s17
end


end K15

namespace K15
open PySem PySem.Spec PyProof.Rows L2
local macro_rules | `(tactic| walk_at "kd") => `(tactic| first | assumption | exact SPD.KdOf.int _ | exact SPD.KdOf.str _ | exact SPD.KdOf.bl _ | exact SPD.KdOf.non | exact SPD.KdOf.same (by assumption) (by walk_at "kd") | exact SPD.KdOf.tup (by walk_at "hp") | exact SPD.KdOf.lst (by walk_at "hp") | fail "no")
local macro_rules | `(tactic| walk_at "ne") => `(tactic| first | assumption | exact Ne.symm (by assumption) | fail "no")
local macro_rules | `(tactic| walk_at "hp") => `(tactic| first | assumption | exact RD.at_same (by assumption) (by walk_at "hp") | exact RD.at_kb (by assumption) (by walk_at "ne") (by walk_at "hp") | fail "no")
local macro_rules | `(tactic| walk_at "sq") => `(tactic| first | assumption | exact Or.inl (Or.inl (by walk_at "hp")) | exact Same.seq (by assumption) (by walk_at "sq") | exact RD.KB.seq (by assumption) (by walk_at "ne") (by walk_at "sq") | fail "no")
local macro_rules | `(tactic| walk_at "st") => `(tactic| first | assumption | exact Or.inl (Or.inl (by walk_at "hp")) | exact RD.Same.tup (by assumption) (by walk_at "st") | exact RD.KB.tup (by assumption) (by walk_at "ne") (by walk_at "st") | fail "no")
local macro_rules | `(tactic| walk_at "rd") => `(tactic| first
  | with_reducible refine RD.c ?_
  | ((with_reducible refine' RD.var ?rdE ?rdK); (case rdE => exact rfl))
  | with_reducible refine RD.op ?_
  | with_reducible refine RD.un ?_
  | with_reducible refine RD.nil ?_
  | with_reducible refine RD.cons ?_
  | with_reducible refine RD.cb ?_
  | with_reducible refine RD.call ?_
  | with_reducible refine RD.test ?_
  | with_reducible refine RD.tb' ?_
  | with_reducible refine RD.bl ?_
  | with_reducible refine RD.and' ?_
  | with_reducible refine RD.or' ?_
  | with_reducible refine RD.not' ?_
  | with_reducible refine RD.andV ?_
  | with_reducible refine RD.orV ?_
  | with_reducible refine RD.notV ?_
  | with_reducible refine RD.ife ?_
  | with_reducible refine RD.sl ?_
  | with_reducible refine RD.part ?_
  | with_reducible refine RD.noPart ?_
  | with_reducible refine RD.partI ?_
  | with_reducible refine RD.rd0 ?_
  | with_reducible refine RD.rdU ?_
  | ((with_reducible refine' RD.rdEq ?rdE ?rdK); (case rdE => rfl))
  | ((with_reducible refine' RD.rdNe ?rdE ?rdK); (case rdE => rfl))
  | ((with_reducible refine' RD.ixL ?rdH ?rdE ?rdK); (case rdH => walk_at "sq"); (case rdE => first | rfl | assumption))
  | ((with_reducible refine' RD.rdI ?rdC ?rdK); (case rdC => first | assumption | (show (0 : Int) < _; first | decide | omega) | exact ⟨by decide, by decide⟩ | exact ⟨by assumption, by assumption⟩ | exact .inr ⟨by decide, by decide⟩ | exact .inl ⟨by decide, by decide⟩ | exact ⟨by decide, by decide, by decide⟩ | exact .inl ⟨by omega, by omega⟩))
  | ((with_reducible refine' RD.setL ?rdH ?rdE ?rdK); (case rdH => walk_at "hp"); (case rdE => rfl); intro $(Lean.mkIdent `H'):ident $(Lean.mkIdent `hk):ident $(Lean.mkIdent `hv):ident)
  | ((with_reducible refine' RD.irng1V ?rdA ?rdB ?rdK); (case rdA => first | decide | omega); (case rdB => first | decide | omega))
  | with_reducible refine RD.int1 ?_
  | with_reducible refine RD.abs1 ?_
  | ((with_reducible refine' RD.len ?rdH ?rdK); (case rdH => first | exact Or.inl (by walk_at "sq") | exact Or.inr (by walk_at "st")))
  | with_reducible refine RD.tup ?_
  | with_reducible refine RD.lst ?_
  | with_reducible refine RD.ite1 ?_
  | with_reducible refine RD.ite0 ?_
  | with_reducible refine RD.ite1n ?_
  | with_reducible refine RD.ite0n ?_
  | with_reducible refine RD.seq ?_
  | with_reducible refine RD.asg ?_
  | with_reducible refine RD.name ?_
  | with_reducible refine RD.ret ?_
  | with_reducible refine RD.drop ?_
  | with_reducible refine RD.next ?_
  | with_reducible refine RD.ifs ?_
  | with_reducible refine RD.par ?_
  | with_reducible refine RD.par2 ?_
  | with_reducible refine RD.sub ?_
  | with_reducible refine RD.gcons ?_
  | with_reducible refine RD.gnil ?_
  | with_reducible refine RD.bm ?_
  | ((with_reducible refine' RD.bmL ?rdH ?rdK); (case rdH => walk_at "sq"))
  | ((with_reducible refine' RD.newZ ?rdH ?rdK); (case rdH => exact RD.sz _); intro $(Lean.mkIdent `p'):ident $(Lean.mkIdent `H'):ident $(Lean.mkIdent `hp):ident $(Lean.mkIdent `hs):ident $(Lean.mkIdent `hv):ident; (try have $(Lean.mkIdent `hn):ident := hand_ne $(Lean.mkIdent `hp):ident (by walk_at "hk")))
  | with_reducible refine RD.fors ?_
  | with_reducible refine RD.lc ?_
  | with_reducible refine RD.yes ?_
  | with_reducible refine RD.ilist ?_
  | ((with_reducible refine' RD.ilistV ?rdH ?rdK); (case rdH => walk_at "sq"))
  | with_reducible refine RD.itup ?_
  | ((with_reducible refine' RD.itupV ?rdH ?rdK); (case rdH => walk_at "st"))
  | with_reducible refine RD.irng1 ?_
  | with_reducible refine RD.irng2 ?_
  | ((with_reducible refine' RD.irng2V ?rdA ?rdK); (case rdA => first | decide | omega))
  | with_reducible refine RD.ienum ?_
  | ((with_reducible refine' RD.ienumV ?rdH ?rdK); (case rdH => walk_at "sq"))
  | with_reducible refine RD.izip ?_
  | ((with_reducible refine' RD.izipV ?rdH ?rdE ?rdK); (case rdH => walk_at "sq"); (case rdE => walk_at "sq"))
  | with_reducible refine SPD.izipA ?_
  | with_reducible refine RD.istr ?_
  | with_reducible refine RD.istrV ?_
  | ((with_reducible refine' RD.slL ?rdH ?rdK); (case rdH => walk_at "sq"); intro $(Lean.mkIdent `p'):ident $(Lean.mkIdent `H'):ident $(Lean.mkIdent `hp):ident $(Lean.mkIdent `hs):ident $(Lean.mkIdent `hv):ident; (try have $(Lean.mkIdent `hn):ident := hand_ne $(Lean.mkIdent `hp):ident (by walk_at "hk")))
  | ((with_reducible refine' RD.cat ?rdH ?rdE ?rdZ ?rdK); (case rdH => walk_at "hp"); (case rdE => walk_at "hp"); (case rdZ => exact RD.sz _); intro $(Lean.mkIdent `p'):ident $(Lean.mkIdent `H'):ident $(Lean.mkIdent `hp):ident $(Lean.mkIdent `hs):ident $(Lean.mkIdent `hv):ident; (try have $(Lean.mkIdent `hn):ident := hand_ne $(Lean.mkIdent `hp):ident (by walk_at "hk")))
  | ((with_reducible refine' RD.gtup ?rdH ?rdE ?rdK); (case rdH => walk_at "st"); (case rdE => rfl))
  | ((with_reducible refine' RD.app ?rdH ?rdZ ?rdK); (case rdH => walk_at "hp"); (case rdZ => first | assumption | (apply RD.szl; omega)); intro $(Lean.mkIdent `H'):ident $(Lean.mkIdent `hk):ident $(Lean.mkIdent `hv):ident)
  | ((with_reducible refine' RD.all1 ?rdH ?rdK); (case rdH => walk_at "sq"))
  | ((with_reducible refine' RD.any1 ?rdH ?rdK); (case rdH => walk_at "sq"))
  | ((with_reducible refine' SPD.dnew ?rdK); intro $(Lean.mkIdent `p'):ident $(Lean.mkIdent `H'):ident $(Lean.mkIdent `hp):ident $(Lean.mkIdent `hs):ident $(Lean.mkIdent `hv):ident; (try have $(Lean.mkIdent `hn):ident := hand_ne $(Lean.mkIdent `hp):ident (by walk_at "hk")))
  | ((with_reducible refine' SPD.disp1 ?rdK); intro $(Lean.mkIdent `p'):ident $(Lean.mkIdent `H'):ident $(Lean.mkIdent `hp):ident $(Lean.mkIdent `hs):ident $(Lean.mkIdent `hv):ident; (try have $(Lean.mkIdent `hn):ident := hand_ne $(Lean.mkIdent `hp):ident (by walk_at "hk")))
  | ((with_reducible refine' SPD.isSeq ?rdH ?rdE ?rdK); (case rdH => walk_at "hp"); (case rdE => walk_at "kd"))
  | ((with_reducible refine' SPD.isTup ?rdE ?rdK); (case rdE => walk_at "kd"))
  | ((with_reducible refine' SPD.isLst ?rdE ?rdK); (case rdE => walk_at "kd"))
  | ((with_reducible refine' SPD.isBool ?rdE ?rdK); (case rdE => walk_at "kd"))
  | ((with_reducible refine' SPD.isStr ?rdE ?rdK); (case rdE => walk_at "kd"))
  | ((with_reducible refine' SPD.isInt ?rdE ?rdK); (case rdE => walk_at "kd"))
  | dsimp only)
local macro_rules | `(tactic| walk_at "rds") => `(tactic| repeat walk_at "rd")
local macro_rules | `(tactic| walk_at "sm") => `(tactic| first | assumption | exact Same.refl _ | exact RD.sm_tr (by assumption) (by walk_at "sm") | fail "no")
local macro_rules | `(tactic| walk_at "kb") => `(tactic| first | assumption | exact RD.KB.refl | exact RD.kb_tr (by assumption) (by walk_at "kb") | exact RD.kb_trs (by assumption) (by walk_at "kb") | fail "no")
local macro_rules | `(tactic| walk_at "fr") => `(tactic| first | assumption | exact RD.fr_of (by assumption) (by walk_at "sm") | fail "no")
local macro_rules | `(tactic| walk_at "hk") => `(tactic| first | assumption | exact hand_same (by assumption) (by walk_at "hk") | exact hand_kb (by assumption) (by walk_at "fr") (by walk_at "hk") | fail "no")
local macro_rules | `(tactic| walk_at "na") => `(tactic| first | assumption | exact hand_ne (by assumption) (by walk_at "hk") | fail "no")
local macro_rules | `(tactic| walk_at "dqa") => `(tactic| first | exact SPD.DqA.nil | exact SPD.DqA.cons (by walk_at "dq") (by walk_at "dqa") | exact SPD.DqA.app (by walk_at "dqa") (by walk_at "dqa") | fail "no")
local macro_rules | `(tactic| walk_at "dq") => `(tactic| first | assumption | exact SPD.Dq.leaf rfl | exact SPD.dq_kb (by assumption) (by walk_at "kb") | exact SPD.dqTup (by walk_at "hp") (by walk_at "na") (by walk_at "dqa") | exact SPD.dqLst (by walk_at "hp") (by walk_at "na") (by walk_at "dqa") | exact SPD.dqNil (by walk_at "hp") (by walk_at "na") (by first | decide | simp) (by first | decide | simp) | fail "no")

local macro_rules | `(tactic| walk_at "rd") => `(tactic| first
  | with_reducible refine RB.chain ?_
  | with_reducible refine RB.m1 ?_
  | with_reducible refine RB.strE ?_
  | with_reducible refine RB.fld ?_
  | with_reducible refine RB.setF ?_
  | with_reducible refine RB.ss ?_
  | with_reducible refine RB.rev ?_
  | with_reducible refine RB.make ?_
  | with_reducible refine RB.makeS ?_
  | with_reducible refine RB.mkO ?_
  | with_reducible refine NR.ienumT ?_
  | with_reducible refine RB.inS ?_
  | with_reducible refine RB.bmS ?_
  | with_reducible refine RB.callS ?_
  | with_reducible refine RB.sw3 ?_
  | with_reducible refine RB.par3 ?_
  | with_reducible refine RB.par3V ?_
  | ((with_reducible refine' RB.slS ?rdH ?rdK); (case rdH => walk_at "sz"))
  | with_reducible refine RB.xf ?_
  | ((with_reducible refine' RB.xfV ?rdH ?rdE ?rdK); (case rdH => walk_at "hp"); (case rdE => rfl))
  | ((with_reducible refine' NR.ienumTV ?rdH ?rdK); (case rdH => walk_at "st"))
  | ((with_reducible refine' RB.lenL ?rdH ?rdK); (case rdH => walk_at "sq"))
  | ((with_reducible refine' RB.lenT ?rdH ?rdK); (case rdH => walk_at "st"))
  | ((with_reducible refine' RB.lenS ?rdH ?rdK); (case rdH => walk_at "sz"))
  | ((with_reducible refine' RD.lenS ?rdH ?rdK); (case rdH => walk_at "sz"))
  | ((with_reducible refine' RB.slT ?rdH ?rdK); (case rdH => walk_at "hp"); intro $(Lean.mkIdent `p'):ident $(Lean.mkIdent `H'):ident $(Lean.mkIdent `hs):ident $(Lean.mkIdent `hv):ident $(Lean.mkIdent `hp):ident; (try have $(Lean.mkIdent `hn):ident := two_ne $(Lean.mkIdent `hp):ident (by walk_at "na") (by walk_at "hk")))
  | ((with_reducible refine' RB.revV ?rdH ?rdK); (case rdH => walk_at "st"); intro $(Lean.mkIdent `p'):ident $(Lean.mkIdent `H'):ident $(Lean.mkIdent `hp):ident $(Lean.mkIdent `hs):ident $(Lean.mkIdent `hv):ident; (try have $(Lean.mkIdent `hn):ident := hand_ne $(Lean.mkIdent `hp):ident (by walk_at "hk")))
  | ((with_reducible refine' RB.listS ?rdH ?rdK); (case rdH => walk_at "sz"); intro $(Lean.mkIdent `p'):ident $(Lean.mkIdent `H'):ident $(Lean.mkIdent `hp):ident $(Lean.mkIdent `hs):ident $(Lean.mkIdent `hv):ident; (try have $(Lean.mkIdent `hn):ident := hand_ne $(Lean.mkIdent `hp):ident (by walk_at "hk")))
  | ((with_reducible refine' RB.listO ?rdH ?rdK); (case rdH => first | exact Or.inl (by walk_at "sq") | exact Or.inr (by walk_at "st")); intro $(Lean.mkIdent `p'):ident $(Lean.mkIdent `H'):ident $(Lean.mkIdent `hp):ident $(Lean.mkIdent `hs):ident $(Lean.mkIdent `hv):ident; (try have $(Lean.mkIdent `hn):ident := hand_ne $(Lean.mkIdent `hp):ident (by walk_at "hk")))
  | ((with_reducible refine' RB.tupL ?rdH ?rdK); (case rdH => walk_at "sq"); intro $(Lean.mkIdent `p'):ident $(Lean.mkIdent `H'):ident $(Lean.mkIdent `hp):ident $(Lean.mkIdent `hs):ident $(Lean.mkIdent `hv):ident; (try have $(Lean.mkIdent `hn):ident := hand_ne $(Lean.mkIdent `hp):ident (by walk_at "hk")))
  | ((with_reducible refine' RB.catT ?rdH ?rdE ?rdZ ?rdK); (case rdH => walk_at "hp"); (case rdE => walk_at "hp"); (case rdZ => exact RB.LN.sum (by walk_at "ln") (by walk_at "ln") rfl); intro $(Lean.mkIdent `p'):ident $(Lean.mkIdent `H'):ident $(Lean.mkIdent `hs):ident $(Lean.mkIdent `hv):ident $(Lean.mkIdent `hp):ident; (try have $(Lean.mkIdent `hn):ident := three_ne $(Lean.mkIdent `hp):ident (by walk_at "na") (by walk_at "na") (by walk_at "hk")))
  | fail "no")
local macro_rules | `(tactic| walk_at "ln") => `(tactic| first | with_reducible assumption | exact RB.LN.cut (by walk_at "ln") | exact RB.LN.app (by walk_at "ln") (by walk_at "ln") | exact RB.LN.rev (by walk_at "ln") | exact RB.LN.rep (by walk_at "ln") | exact RB.LN.lit rfl | fail "no")
local macro_rules | `(tactic| walk_at "sz") => `(tactic| first | assumption | exact RD.sz _ | fail "no")

local macro_rules | `(tactic| walk_at "hp") => `(tactic| first | assumption | exact RD.at_same (by assumption) (by walk_at "hp") | exact SPE.at_kx (by assumption) (by walk_at "na") (by walk_at "hp") | exact RD.at_kb (by assumption) (by walk_at "ne") (by walk_at "hp") | fail "no")
local macro_rules | `(tactic| walk_at "sq") => `(tactic| first | assumption | exact Or.inl (Or.inl (by walk_at "hp")) | exact Same.seq (by assumption) (by walk_at "sq") | exact SPE.KX.seq (by assumption) (by walk_at "na") (by walk_at "sq") | exact RD.KB.seq (by assumption) (by walk_at "ne") (by walk_at "sq") | fail "no")
local macro_rules | `(tactic| walk_at "st") => `(tactic| first | assumption | exact Or.inl (Or.inl (by walk_at "hp")) | exact RD.Same.tup (by assumption) (by walk_at "st") | exact SPE.KX.tup (by assumption) (by walk_at "na") (by walk_at "st") | exact RD.KB.tup (by assumption) (by walk_at "ne") (by walk_at "st") | fail "no")
local macro_rules | `(tactic| walk_at "kx") => `(tactic| first | assumption | exact SPE.KX.refl | exact SPE.kx_tr (by assumption) (by walk_at "kx") | exact SPE.kx_trs (by assumption) (by walk_at "kx") | fail "no")
local macro_rules | `(tactic| walk_at "dqa") => `(tactic| first | exact SPE.DqA.nil | exact SPE.DqA.cons (by walk_at "dq") (by walk_at "dqa") | exact SPE.DqA.app (by walk_at "dqa") (by walk_at "dqa") | fail "no")
local macro_rules | `(tactic| walk_at "dq") => `(tactic| first | assumption | exact SPE.Dq.leaf rfl | exact SPE.dq_kx (by assumption) (by walk_at "kx") | exact SPE.dqTup (by walk_at "hp") (by walk_at "na") (by walk_at "dqa") | exact SPE.dqLst (by walk_at "hp") (by walk_at "na") (by walk_at "dqa") | exact SPE.dqNil (by walk_at "hp") (by walk_at "na") (by first | decide | simp) (by first | decide | simp) | fail "no")
local macro_rules | `(tactic| walk_at "dqx") => `(tactic| first | exact $(Lean.mkIdent `hdb):ident _ (by walk_at "kx") | exact SPE.DqA.cons (SPE.dq_kx (by assumption) (by walk_at "kx")) SPE.DqA.nil | exact SPE.DqA.cons (SPE.Dq.leaf rfl) SPE.DqA.nil | exact SPE.DqA.nil | (with_reducible refine SPE.dqa_cut ?_; walk_at "dqx") | (with_reducible refine SPE.dqa_rev ?_; walk_at "dqx") | (with_reducible refine SPE.DqA.app ?_ ?_ <;> walk_at "dqx") | fail "no")
local macro_rules | `(tactic| walk_at "dqz") => `(tactic| first | exact SPE.dqTupN (by walk_at "hp") (by walk_at "na") (by walk_at "dqx") (by walk_at "ln") rfl | exact SPE.dqLstN (by walk_at "hp") (by walk_at "na") (by walk_at "dqx") (by walk_at "ln") rfl | fail "no")
local macro_rules | `(tactic| walk_at "rd") => `(tactic| first
  | with_reducible refine SPE.revs ?_
  | ((with_reducible refine' SPE.revsV ?rdH ?rdK); (case rdH => walk_at "sz"))
  | ((with_reducible refine' SPE.sum1 ?rdH ?rdK); (case rdH => walk_at "sq"))
  | fail "no")

local macro_rules | `(tactic| walk_at "rd") => `(tactic| first
  | ((with_reducible refine' RB.listO ?rdH ?rdK); (case rdH => exact Or.inr (by walk_at "st")); intro $(Lean.mkIdent `p'):ident $(Lean.mkIdent `H'):ident $(Lean.mkIdent `hp):ident $(Lean.mkIdent `hs):ident $(Lean.mkIdent `hv):ident; (try have $(Lean.mkIdent `hn):ident := hand_ne $(Lean.mkIdent `hp):ident (by walk_at "hk")))
  | fail "no")

/-! ### the law -/
def spLaw (K : PySem.W.Frag) : Sp := fun vs H Q _ => ∃ (a : Addr) (ns : List Int), vs = [.ref a] ∧ SqL K H a (ns.map V.int) ∧ ns.length ≤ 63 ∧ ∀ H', Q (.bl true) H'
theorem own_nf (K : PySem.W.Frag) (C : Addr) : PySem.W.notFirst K C (.ref C) = true := by
  unfold PySem.W.notFirst
  simp
theorem parts_dq {x : SPE.AX} {H : Hp} {z : Str} {r l : V} {rws : List (List Nat)} {ls : List Bool} (hh : BagOk H x) (p : PartsAt H r l rws ls) (g : MG z rws ls) : SPE.Dq x H 42 r ∧ SPE.Dq x H 42 l ∧ SPE.Dq x H 42 (.str z) := by
  obtain ⟨ra, la, rs, rfl, rfl, h1, h2, h3⟩ := p
  obtain ⟨hlz, hz1, hz8⟩ := log_signs g.signs
  have e := h2.len
  have g3 := g.few
  have gl := g.lets
  refine ⟨(SPE.dqTupN (n := 1) (m := 300) h1 (hh.tupOff h1) (RL.dq hh h2 fun r hr => by rw [g.wide r hr]; exact hz8) ?_ rfl).mono 42 (by decide), (SPE.dqTupN (n := 1) (m := 300) h3 (hh.tupOff h3) (dq_bls ls) ?_ rfl).mono 42 (by decide), leaf_str (by omega)⟩
  · show rs.length ≤ 300
    omega
  · show (ls.map V.bl).length ≤ 300
    rw [List.length_map]
    omega
theorem cs_join (cs : List Nat) : (Txt.join ("" : Str) (cs.map fun c => (⟨#[c]⟩ : Str))).cps.toList = cs := by
  rw [join_cps, List.map_map]
  induction cs with
  | nil => rfl
  | cons c cs ih => rw [List.map_cons, List.flatten_cons, ih]; rfl
theorem cs_sum (cs : List Nat) : ((cs.map fun c => (⟨#[c]⟩ : Str)).map (·.length)).sum = cs.length := by
  induction cs with
  | nil => rfl
  | cons a l ih => rw [List.map_cons, List.map_cons, List.sum_cons, ih, List.length_cons, Nat.add_comm]; rfl
theorem not_of {z u : Str} {c : Nat} (h : logB z = true) (hc : c ∉ lets) : ofB z (.str (u ++ ⟨#[c]⟩)) = false := by
  cases e : ofB z (.str (u ++ ⟨#[c]⟩)) with
  | false => rfl
  | true =>
    have m : c ∈ (u ++ (⟨#[c]⟩ : Str)).cps.toList := by
      rw [app_list]
      exact List.mem_append_right _ (by simp)
    have m2 : c ∈ z.cps.toList := of_decide_eq_true (List.all_eq_true.mp e c m)
    exact absurd (of_decide_eq_true (List.all_eq_true.mp h c m2)) hc
theorem good_a : Good [("a" : Str)] := ⟨by decide, by decide, fun z hz => by
  rw [List.mem_singleton.mp hz]
  decide +kernel, by simp⟩
/-- a machine and its parts in the heap -/
structure MP (H : Hp) (C : Addr) (x : SPE.AX) (t b : Addr) (z : Str) (r l : V) (rws : List (List Nat)) (ls : List Bool) : Prop where
  bag : BagOk H x
  at_ : H t = some (.tup [.str z, r, l])
  parts : PartsAt H r l rws ls
  mach : MachAt H C b (.str z) r l
theorem MP.same {H H' : Hp} {C : Addr} {x : SPE.AX} {t b : Addr} {z : Str} {r l : V} {rws : List (List Nat)} {ls : List Bool} (s : Same H H') (h : MP H C x t b z r l rws ls) : MP H' C x t b z r l rws ls := ⟨h.bag.same s, s _ _ h.at_, h.parts.same s, h.mach.same s⟩
theorem MP.kx {H H' : Hp} {C : Addr} {x : SPE.AX} {t b : Addr} {z : Str} {r l : V} {rws : List (List Nat)} {ls : List Bool} (k : SPE.KX x H H') (hh : BagOk H' x) (h : MP H C x t b z r l rws ls) : MP H' C x t b z r l rws ls := by
  refine ⟨hh, kx_tup k h.bag _ _ h.at_, h.parts.kx k h.bag, ?_⟩
  obtain ⟨dx, hm⟩ := h.mach
  exact ⟨dx, k _ _ (h.bag.insOff hm) hm⟩
section
variable {P : Program} {w : World} {K : PySem.W.Frag} {mg : Str → Option Value} {base : Heap}
def spNested2 : Sp := fun vs H Q _ => vs = [] ∧ ∀ p H', Same H H' → (∀ x : SPE.AX, BagOk H x → SPE.Dq x H' 40 (.ref p)) → Q (.ref p) H'
theorem ok_nested2 (T : Txt P K mg) : FnOk P w K mg base CX0 1 T.a_nested T.fd_nested [] spNested2 := by
  have nd := sc_nested.nd
  refine T.F_nested.ok sc_nested (fun vs H Q E h => ?_) (fun cdv A outer s H vs Q E hr h => ?_)
  · obtain ⟨rfl, _⟩ := h
    rfl
  · obtain ⟨rfl, q⟩ := h
    refine ⟨_, (pss_cons (ps_set (i := 0) nd rfl (by first | exact Or.inl rfl | exact Or.inr rfl) (pe_tup pa_nil))
  (pss_cons (ps_for PassesOwn.never rfl (pi_range1 (by rfl) T.m_range (pa_cons pe_int pa_nil)) (pg_name (i := 1) nd rfl (by first | exact Or.inl rfl | exact Or.inr rfl))
    (pss_one (ps_set (i := 0) nd rfl (by first | exact Or.inl rfl | exact Or.inr rfl) (pe_tup (pa_cons (pv 0) pa_nil)))))
  (pss_one (ps_ret (pv 0))))), ?_⟩
    walk_at "rds"
    refine RD.forW (walk_range (lo := 0) (n := Int.toNat 36)) (fun i σ H' => ∃ (p : Addr) (xs : List V) (x1 : Option V), σ = [some (.ref p), x1] ∧ Same H H' ∧ ∀ x : SPE.AX, BagOk H x → SPE.Dq x H' (i + 1) (.ref p)) ⟨_, [], none, rfl, hs, fun x hx => SPE.dqTup hv (hand_ne hp hx) .nil⟩ (fun _ _ _ _ _ => trivial) (fun i x σ H2 H3 hi hp hy => ?_) (fun σ H2 hp => ?_)
    · obtain ⟨p, xs, x1, rfl, s2, hd⟩ := hp
      obtain ⟨rfl, rfl⟩ := hy
      clear hv hs hp
      walk_at "rds"
      exact ⟨_, [], _, rfl, s2.trans hs, fun x hx => SPE.dqTup hv (hand_ne hp (hx.same s2)) (.cons ((hd x hx).same hs) .nil)⟩
    · obtain ⟨p, xs, x1, rfl, s2, hd⟩ := hp
      walk_at "rds"
      exact q _ _ s2 fun x hx => (hd x hx).mono _ (by decide)
theorem ok_law (T : Txt P K mg) (X : PySem.W.notFirst K T.C_Machine (.ref T.C_Book) = true ∧ PySem.W.kitOne K (.ref T.C_Book) (.ref T.C_Machine) = some false) : FnOk P w K mg base CX0 31 T.a_law T.fd_law ["_law_script"] (spLaw K) := by
  have nd := sc_law.nd
  have G_bag : FnOk P w K mg base CX0 30 T.a_bag T.fd_bag ["_law_script"] (spBag K) := (ok_bag T).mono (by decide)
  have G_pick : FnOk P w K mg base CX0 30 T.a_pick T.fd_pick ["_law_bag_here", "_law_many"] spPick := (ok_pick T).mono (by decide)
  have G_some : FnOk P w K mg base CX0 30 T.a_some T.fd_some ["_law_bag_here", "_law_things"] (spSome K) := (ok_some T).mono (by decide)
  have G_nested : FnOk P w K mg base CX0 30 T.a_nested T.fd_nested [] spNested2 := (ok_nested2 T).mono (by decide)
  have G_parts : FnOk P w K mg base CX0 30 T.a_parts T.fd_parts ["_law_bag_here", "_law_signs", "_law_most"] (spParts K) := (ok_parts T).mono (by decide)
  have G_told : FnOk P w K mg base CX0 30 T.a_told T.fd_told ["_law_signs", "_law_rows", "_law_lets_here"] (spToldM T.C_Machine) := (ok_told T).mono (by decide)
  have G_due : FnOk P w K mg base CX0 30 T.a_due T.fd_due ["_law_signs", "_law_rows", "_law_lets_here"] spDueM := (ok_due T).mono (by decide)
  have G_bent : FnOk P w K mg base CX0 30 T.a_bent T.fd_bent ["_law_bag_here", "_law_parts_here"] spBentM := (ok_bent T).mono (by decide)
  have G_text : FnOk P w K mg base CX0 30 T.a_text T.fd_text ["_law_bag_here", "_law_own", "_law_most"] spText := (ok_text T).mono (by decide)
  have G_walk : FnOk P w K mg base CX0 30 T.a_walk T.fd_walk ["_law_parts_here", "_law_text_here"] spWalk := (ok_walk T).mono (by decide)
  have G_lets : FnOk P w K mg base CX0 30 T.a_lets T.fd_lets ["_law_parts_here", "_law_text_here"] spLets := (ok_lets T).mono (by decide)
  have G_flag : FnOk P w K mg base CX0 30 T.a_flag T.fd_flag ["_law_told_here", "_law_due_here"] spFlag := (ok_flag T).mono (by decide)
  have G_reached : FnOk P w K mg base (L2.CX P w) 30 T.a_reached T.fd_reached ["machine", "text"] (spReached T.C_Machine T.C_NoText) := (ok_reached T).mono (by decide)
  have G_lets_by : FnOk P w K mg base CX0 30 T.a_lets_by T.fd_lets_by ["machine", "text"] (spLetsBy T.C_Machine) := (ok_lets_by T).mono (by decide)
  have G_Machine_eq : FnOk P w K mg base CX0 29 T.a_Machine_eq T.fd_Machine_eq ["self", "other"] (spEqM K T.C_Machine) := (ok_Machine_eq T).mono (by decide)
  have G_Machine_init : FnOk P w K mg base (L2.CX P w) 29 T.a_Machine_init T.fd_Machine_init ["self", "signs", "rows", "lets"] (spMachine T.C_Machine T.C_BadMachine) := (ok_Machine_init T).mono (by decide)
  have G_Book_init : FnOk P w K mg base (L2.CX P w) 29 T.a_Book_init T.fd_Book_init ["self", "pieces"] (spBook K T.C_Book T.C_BadBook) := (ok_Book_init T).mono (by decide)
  refine T.F_law.ok sc_law (fun vs H Q E h => ?_) (fun cdv A outer s H vs Q E hr h => ?_)
  · obtain ⟨a, ns, rfl, _⟩ := h
    rfl
  · obtain ⟨s0, ns, rfl, hS, hl, q⟩ := h
    refine ⟨_, (pss_cons (ps_set (i := 1) nd rfl (by first | exact Or.inl rfl | exact Or.inr rfl) (pe_call G_bag hr (by rfl) T.g_bag T.F_bag.kp T.b_bag .nil pass0 (pa_cons (pv 0) pa_nil)))
  (pss_cons (ps_for PassesOwn.never rfl (pi_range1 (by rfl) T.m_range (pa_cons pe_int pa_nil)) (pg_name (i := 2) nd rfl (by first | exact Or.inl rfl | exact Or.inr rfl))
    (pss_cons (ps_set (i := 3) nd rfl (by first | exact Or.inl rfl | exact Or.inr rfl) (pe_join pe_str (pe_lc (own := [("_law_letter", 13)]) (g := (gName 13)) rfl nd (pi_str pe_str) (blkOk_by (own := [("_law_letter", 13)]) (N := N_law) (sc := defScope s_law) (by decide +kernel)) (fun _ _ _ _ _ => (pg_name (i := 13) nd rfl (Or.inl rfl))) (fun _ _ _ _ _ => (pts_one (pt_cmpR op_eq (pe_call G_pick hr (by rfl) T.g_pick T.F_pick.kp T.b_pick .nil pass0 (pa_cons (pv 1) (pa_cons pe_int pa_nil))) pe_int (nomark _)))) (fun _ _ _ _ _ => (pv 13)))))
  (Evl.pss_cut (ps_set (i := 3) nd rfl (by first | exact Or.inl rfl | exact Or.inr rfl) (pe_ifExp (pt_cmpR op_ne (pv 3) pe_str (nomark _)) (pv 3) pe_str))
  (Evl.pss_cut (ps_set (i := 4) nd rfl (by first | exact Or.inl rfl | exact Or.inr rfl) (pe_call G_parts hr (by rfl) T.g_parts T.F_parts.kp T.b_parts .nil pass0 (pa_cons (pv 1) (pa_cons (pv 3) (pa_cons (pe_ifExp (pt_cmpR op_eq (pe_call G_pick hr (by rfl) T.g_pick T.F_pick.kp T.b_pick .nil pass0 (pa_cons (pv 1) (pa_cons pe_int pa_nil))) pe_int (nomark _)) pe_int pe_int) pa_nil)))))
  (pss_cons (ps_set (i := 5) nd rfl (by first | exact Or.inl rfl | exact Or.inr rfl) (pe_call G_told hr (by rfl) T.g_told T.F_told.kp T.b_told .nil pass0 (pa_cons (pe_ix ix_tup (pv 4) pe_int (fun _ _ => rfl)) (pa_cons (pe_ix ix_tup (pv 4) pe_int (fun _ _ => rfl)) (pa_cons (pe_ix ix_tup (pv 4) pe_int (fun _ _ => rfl)) pa_nil)))))
  (pss_cons (ps_if (PW.pt (pw_or (pt_cmpR op_notN (pe_ix ix_tup (pv 5) pe_int (fun _ _ => rfl)) pe_non (nomark _)) (pw_or1 (pt_cmpR (op_neD hr.units) (pe_tup (pa_cons (pe_fld (pe_ix ix_tup (pv 5) pe_int (fun _ _ => rfl)) rfl) (pa_cons (pe_fld (pe_ix ix_tup (pv 5) pe_int (fun _ _ => rfl)) rfl) (pa_cons (pe_fld (pe_ix ix_tup (pv 5) pe_int (fun _ _ => rfl)) rfl) pa_nil)))) (pv 4) (nomark _)))))
    (pss_one (ps_ret pe_bl))
    pss_nil)
  (pss_cons (ps_set (i := 6) nd rfl (by first | exact Or.inl rfl | exact Or.inr rfl) (pe_ix ix_tup (pv 5) pe_int (fun _ _ => rfl)))
  (pss_cons (ps_for PassesOwn.never rfl (pi_range1 (by rfl) T.m_range (pa_cons pe_int pa_nil)) (pg_name (i := 7) nd rfl (by first | exact Or.inl rfl | exact Or.inr rfl))
    (pss_cons (ps_set (i := 8) nd rfl (by first | exact Or.inl rfl | exact Or.inr rfl) (pe_call G_bent hr (by rfl) T.g_bent T.F_bent.kp T.b_bent .nil pass0 (pa_cons (pv 1) (pa_cons (pv 4) pa_nil))))
  (pss_cons (ps_par (i := 9) (j := 5) rfl nd rfl rfl (by decide) rfl rfl (pa_cons (pe_call G_due hr (by rfl) T.g_due T.F_due.kp T.b_due .nil pass0 (pa_cons (pe_ix ix_tup (pv 8) pe_int (fun _ _ => rfl)) (pa_cons (pe_ix ix_tup (pv 8) pe_int (fun _ _ => rfl)) (pa_cons (pe_ix ix_tup (pv 8) pe_int (fun _ _ => rfl)) pa_nil)))) (pa_cons (pe_call G_told hr (by rfl) T.g_told T.F_told.kp T.b_told .nil pass0 (pa_cons (pe_ix ix_tup (pv 8) pe_int (fun _ _ => rfl)) (pa_cons (pe_ix ix_tup (pv 8) pe_int (fun _ _ => rfl)) (pa_cons (pe_ix ix_tup (pv 8) pe_int (fun _ _ => rfl)) pa_nil)))) pa_nil)) (by rfl))
  (pss_cons (ps_if (PW.pt (pw_or (pt_cmpR op_ne (pe_ix ix_tup (pv 5) pe_int (fun _ _ => rfl)) (pv 9) (nomark _)) (pw_or1 (pt_val (pe_callB call_isi (by rfl) T.m_isinstance (by decide +kernel) (pa_cons (pe_ix ix_tup (pv 5) pe_int (fun _ _ => rfl)) (pa_cons (pe_bltn (v := .ty "bool") (by rfl) T.m_bool (by decide +kernel) rfl) pa_nil)))))))
    (pss_one (ps_ret pe_bl))
    pss_nil)
  (pss_one (ps_if (PW.pt (pw_and (pt_cmpR op_isN (pv 9) pe_non (nomark _)) (pw_and1 (pt_cmpR op_ne (pe_cmpR (NR.op_own T.eqc_Machine G_Machine_eq (hr.mono (by decide)) T.b_Machine_eq pass0) (pe_ix ix_tup (pv 5) pe_int (fun _ _ => rfl)) (pv 6) (nomark _)) (pe_cmpR (op_eqD hr.units) (pv 8) (pv 4) (nomark _)) (nomark _)))))
    (pss_one (ps_ret pe_bl))
    pss_nil))))))
  (pss_cons (ps_if (PW.pt (pw_or (pt_cmpR (NR.op_own T.eqc_Machine G_Machine_eq (hr.mono (by decide)) T.b_Machine_eq pass0) (pv 6) (pv 4) (nomark _)) (pw_or (pt_cmpR (NR.op_own T.eqc_Machine G_Machine_eq (hr.mono (by decide)) T.b_Machine_eq pass0) (pv 6) (pe_make T.M_Book G_Book_init hr (by rfl) T.g_Book T.b_Book_init .nil NR.passN (pa_cons (pe_tup (pa_cons pe_str pa_nil)) pa_nil)) (nomark _)) (pw_or1 (pt_cmpR (NR.op_ownNe T.eqc_Machine G_Machine_eq hr T.b_Machine_eq pass0) (pv 6) (pe_make T.M_Machine G_Machine_init hr (by rfl) T.g_Machine T.b_Machine_init .nil NR.passN (pa_cons (pe_ix ix_tup (pv 4) pe_int (fun _ _ => rfl)) (pa_cons (pe_ix ix_tup (pv 4) pe_int (fun _ _ => rfl)) (pa_cons (pe_ix ix_tup (pv 4) pe_int (fun _ _ => rfl)) pa_nil)))) (nomark _))))))
    (pss_one (ps_ret pe_bl))
    pss_nil)
  (pss_cons (ps_for PassesOwn.never rfl (pi_range1 (by rfl) T.m_range (pa_cons pe_int pa_nil)) (pg_name (i := 7) nd rfl (by first | exact Or.inl rfl | exact Or.inr rfl))
    (pss_cons (ps_set (i := 10) nd rfl (by first | exact Or.inl rfl | exact Or.inr rfl) (pe_call G_text hr (by rfl) T.g_text T.F_text.kp T.b_text .nil pass0 (pa_cons (pv 1) (pa_cons (pv 3) (pa_cons pe_int pa_nil)))))
  (pss_cons (ps_if (pt_cmpR op_ne (pe_call G_reached hr (by rfl) T.g_reached T.F_reached.kp T.b_reached .nil NR.passN (pa_cons (pv 6) (pa_cons (pv 10) pa_nil))) (pe_call G_walk hr (by rfl) T.g_walk T.F_walk.kp T.b_walk .nil pass0 (pa_cons (pv 4) (pa_cons (pv 10) pa_nil))) (nomark _))
    (pss_one (ps_ret pe_bl))
    pss_nil)
  (pss_one (ps_if (pt_not (pt_val (pe_call G_flag hr (by rfl) T.g_flag T.F_flag.kp T.b_flag .nil pass0 (pa_cons (pe_call G_lets_by hr (by rfl) T.g_lets_by T.F_lets_by.kp T.b_lets_by .nil pass0 (pa_cons (pv 6) (pa_cons (pv 10) pa_nil))) (pa_cons (pe_call G_lets hr (by rfl) T.g_lets T.F_lets.kp T.b_lets .nil pass0 (pa_cons (pv 4) (pa_cons (pv 10) pa_nil))) pa_nil)))))
    (pss_one (ps_ret pe_bl))
    pss_nil)))))
  (pss_cons (ps_set (i := 11) nd rfl (by first | exact Or.inl rfl | exact Or.inr rfl) (pe_call G_some hr (by rfl) T.g_some T.F_some.kp T.b_some .nil pass0 (pa_cons (pv 1) (pa_cons (pe_lst (pa_cons pe_non (pa_cons pe_int (pa_cons (pe_op op_add_str (pv 10) pe_str) (pa_cons (pe_op op_add_str (pv 10) pe_str) (pa_cons (pe_callTy (RB.call_listS rfl) (by rfl) T.m_list (by decide +kernel) (pa_cons (pv 10) pa_nil)) (pa_cons (pe_tup (pa_cons pe_str pa_nil)) (pa_cons (pe_op op_add_str (pv 10) pe_str) (pa_cons (pe_call0 G_nested hr (by rfl) T.g_nested T.F_nested.kp T.b_nested .nil pass0) (pa_cons pe_bl pa_nil)))))))))) pa_nil))))
  (pss_cons (ps_set (i := 12) nd rfl (by first | exact Or.inl rfl | exact Or.inr rfl) pe_str)
  (pss_cons (ps_try_only rfl rfl ⟨by rfl, by decide, .inl T.g_NoText⟩ takes0 (fun W pn xe tk ph => (pss_one (ps_expr (pe_callS G_reached hr (by rfl) T.g_reached T.F_reached.kp T.b_reached (fun σ => passAt tk σ) (pa_cons (pv 6) (pa_cons (pv 11) pa_nil)))))) (fun a oe cls d pn _ _ => (pss_one (ps_set (i := 12) nd rfl (by first | exact Or.inl rfl | exact Or.inr rfl) pe_str))))
  (pss_one (ps_if (PW.pt (pw_or (pt_cmpR op_ne (pv 12) pe_str (nomark _)) (pw_or1 (pt_cmpR op_notBl (pe_call G_lets_by hr (by rfl) T.g_lets_by T.F_lets_by.kp T.b_lets_by .nil pass0 (pa_cons (pv 6) (pa_cons (pv 11) pa_nil))) pe_bl (nomark _)))))
    (pss_one (ps_ret pe_bl))
    pss_nil)))))))))))))))
  (pss_one (ps_ret pe_bl)))), ?_⟩
    walk_at "rds"
    refine ⟨s0, ns, rfl, hS, hl, fun x H1 s1 ha hh1 => ?_⟩
    walk_at "rds"
    refine RD.forW (walk_range (lo := 0) (n := Int.toNat 3)) (fun i σ H' => ∃ x2 x3 x4 x5 x6 x7 x8 x9 x10 x11 x12 x13, σ = [some (.ref s0), some (.ref x.1), x2, x3, x4, x5, x6, x7, x8, x9, x10, x11, x12, x13] ∧ BagOk H' x) ⟨_, _, _, _, _, _, _, _, _, _, _, _, rfl, hh1⟩ (fun _ _ _ _ _ => trivial) (fun i v σ H2 H3 hi hp hy => ?_) (fun σ H2 hp => ?_)
    · obtain ⟨x2, x3, x4, x5, x6, x7, x8, x9, x10, x11, x12, x13, rfl, hh2⟩ := hp
      obtain ⟨rfl, rfl⟩ := hy
      clear hh1 s1 ha hS
      walk_at "rds"
      refine RD.lcW (RB.w_str (z := ("abcdefgh" : Str))) (by decide) fun D H4 hD s4 hv4 => ⟨fun i acc H' => ∃ cs : List Nat, acc = (cs.map fun c => (⟨#[c]⟩ : Str)).map V.str ∧ cs.Sublist (lets.take i) ∧ SPE.KX x H3 H' ∧ BagOk H' x,
        ⟨[], rfl, List.nil_sublist _, SPE.kx_of s4, hh2.same s4⟩, fun _ _ _ _ _ => trivial, fun i v acc H5 H6 Z N hi hp hDa hy hZ hN => ?_, fun acc H5 hp hDa => ?_⟩
      · obtain ⟨cs, rfl, hsub, k5, hh5⟩ := hp
        obtain ⟨rfl, hx⟩ := hy
        rw [List.getElem?_map] at hx
        obtain ⟨c, hc, rfl⟩ := Option.map_eq_some_iff.mp hx
        have hc : lets[i]? = some c := hc
        have nD : SPE.Off D x := hand_ne hD hh2
        walk_at "rds"
        refine ⟨rfl, ?_⟩
        walk_at "rds"
        refine spPick.mk (E := E0) hh5 (by decide) (by decide) fun r H7 _ _ k7 hh7 => ?_
        have hD7 := k7 _ _ nD hDa
        walk_at "rds"
        refine RD.ite_d (fun _ => ?_) (fun _ => ?_)
        · walk_at "rds"
          exact hZ _ _ hD7 fun H8 k8 h8 => ⟨cs ++ [c], by rw [List.map_append, List.map_append]; rfl, by rw [List.take_add_one, hc]; exact hsub.append (List.Sublist.refl [c]), SPE.kx_mut k8 (k5.trans k7) hD, hh7.mut k8 nD⟩
        · exact hN _ hD7 ⟨cs, rfl, by rw [List.take_add_one, hc]; exact hsub.trans (List.sublist_append_left _ _), k5.trans k7, hh7⟩
      obtain ⟨cs, rfl, hsub, k5, hh5⟩ := hp
      have hsub : cs.Sublist lets := hsub
      have h8 : cs.length ≤ 8 := hsub.length_le
      have hsum := cs_sum cs
      have hjs := join_size (cs.map fun c => (⟨#[c]⟩ : Str))
      have hjl := cs_join cs
      walk_at "rds"
      refine RB.joinV (.inl (by walk_at "sq")) (by show _ + _ * 0 ≤ _; omega) ?_
      generalize Txt.join ("" : Str) (cs.map fun c => (⟨#[c]⟩ : Str)) = z0 at hjs hjl
      walk_at "rds"
      refine ⟨fun σ' H' => ∃ z : Str, σ' = [some (.ref s0), some (.ref x.1), some (.int (0 + (i : Int))), some (.str z), x4, x5, x6, x7, x8, x9, x10, x11, x12, x13] ∧ signsB z = true ∧ BagOk H' x, ?_, fun σ1 H6 hm => ?_⟩
      · walk_at "rds"
        refine RD.ite_nd (fun ne => ?_) (fun _ => ?_)
        · walk_at "rds"
          refine ⟨z0, rfl, sub_signs (by rw [hjl]; exact hsub) ?_, hh5⟩
          cases cs with
          | nil =>
            exact absurd (congrArg V.str (str_ext (a := z0) (b := ("" : Str)) (by rw [hjl]; rfl))) ne
          | cons c cs =>
            rw [hjs, hsum, List.length_cons]
            omega
        · walk_at "rds"
          exact ⟨("b" : Str), rfl, sub_signs (by decide) (by decide), hh5⟩
      obtain ⟨z, rfl, hsg, hh6⟩ := hm
      clear hsub h8 hsum hjs hjl hDa hh5 k5 hD hv4 s4
      walk_at "rds"
      refine ⟨fun σ' H' => ∃ (t : Addr) (r l : V) (rws : List (List Nat)) (ls : List Bool), σ' = [some (.ref s0), some (.ref x.1), some (.int (0 + (i : Int))), some (.str z), some (.ref t), x5, x6, x7, x8, x9, x10, x11, x12, x13] ∧ BagOk H' x ∧ H' t = some (.tup [.str z, r, l]) ∧ PartsAt H' r l rws ls ∧ MG z rws ls, ?_, fun σ1 H7 hm => ?_⟩
      · walk_at "rds"
        refine spPick.mk (E := E0) hh6 (by decide) (by decide) fun r H7 _ _ k7 hh7 => ?_
        walk_at "rds"
        refine RD.ite_d (fun _ => ?_) (fun _ => ?_)
        · walk_at "rds"
          refine ⟨x, z, 300, rfl, hh7, hsg, by decide, by decide, fun t r l rws ls H8 k8 hh8 ht hp g => ?_⟩
          walk_at "rds"
          exact ⟨t, r, l, rws, ls, rfl, hh8, ht, hp, g⟩
        · walk_at "rds"
          refine ⟨x, z, 12, rfl, hh7, hsg, by decide, by decide, fun t r l rws ls H8 k8 hh8 ht hp g => ?_⟩
          walk_at "rds"
          exact ⟨t, r, l, rws, ls, rfl, hh8, ht, hp, g⟩
      obtain ⟨t, r, l, rws, ls, rfl, hh7, ht7, hp7, g⟩ := hm
      obtain ⟨hlz, hz1, hz8⟩ := log_signs hsg
      obtain ⟨hdr, hdl, hdz⟩ := parts_dq hh7 hp7 g
      clear hh6 hh2
      walk_at "rds"
      refine RD.ixT (by walk_at "st") rfl ?_
      walk_at "rds"
      refine RD.ixT (by walk_at "st") rfl ?_
      walk_at "rds"
      refine RD.ixT (by walk_at "st") rfl ?_
      walk_at "rds"
      refine ⟨x.1, 42, .str z, r, l, rfl, hdz.toA, hdr.toA, hdl.toA, fun _ u b H8 s8 hu8 hv8 hm8 => ?_, fun ne => absurd (good_mdue hp7 g) ne⟩
      have M8 : MP H8 T.C_Machine x t b z r l rws ls := ⟨hh7.same s8, s8 _ _ ht7, hp7.same s8, hm8⟩
      clear hdr hdl hdz hh7 ht7 hp7 hm8
      walk_at "rds"
      refine RD.ixT (by walk_at "st") rfl ?_
      walk_at "rds"
      refine ⟨rfl, false, rfl, ?_⟩
      obtain ⟨dx, hb8⟩ := id M8.mach
      walk_at "rds"
      refine RD.ixT (by walk_at "st") rfl ?_
      refine RB.fldV hb8 T.cl_Machine T.no_Machine_signs rfl ?_
      walk_at "rds"
      refine RD.ixT (by walk_at "st") rfl ?_
      refine RB.fldV hb8 T.cl_Machine T.no_Machine_rows rfl ?_
      walk_at "rds"
      refine RD.ixT (by walk_at "st") rfl ?_
      refine RB.fldV hb8 T.cl_Machine T.no_Machine_lets rfl ?_
      walk_at "rds"
      refine RD.neD (mdp hv (M8.parts.same hs)) (mdp (hs _ _ M8.at_) (M8.parts.same hs)) g.shaped g.shaped ?_
      rw [g.self]
      have hv9 := hs _ _ hv8
      have M9 := M8.same hs
      clear hb8 M8 hu8 hv8 s8 hv hs hp
      walk_at "rds"
      refine RD.ixT (by walk_at "st") rfl ?_
      walk_at "rds"
      clear hv9
      refine RD.forW (walk_range (lo := 0) (n := Int.toNat 6)) (fun i' σ H' => ∃ x5 x7 x8 x9, σ = [some (.ref s0), some (.ref x.1), some (.int (0 + (i : Int))), some (.str z), some (.ref t), x5, some (.ref b), x7, x8, x9, x10, x11, x12, x13] ∧ MP H' T.C_Machine x t b z r l rws ls) ⟨_, _, _, _, rfl, M9⟩ (fun _ _ _ _ _ => trivial) (fun i' v σ H10 H11 hi' hp hy => ?_) (fun σ H10 hp => ?_)
      · obtain ⟨x5, x7, x8, x9, rfl, M10⟩ := hp
        obtain ⟨rfl, rfl⟩ := hy
        clear M9
        walk_at "rds"
        refine ⟨x, t, z, r, l, rws, ls, rfl, M10.bag, M10.at_, M10.parts, g, fun v H12 k12 hh12 hv12 => ?_⟩
        obtain ⟨u, s', r', l', rfl, hu, ou, so, h1, h2, h3⟩ := hv12
        have M12 := M10.kx k12 hh12
        clear M10 k12 hh12
        walk_at "rds"
        refine RD.ixT (by walk_at "st") rfl ?_
        walk_at "rds"
        refine RD.ixT (by walk_at "st") rfl ?_
        walk_at "rds"
        refine RD.ixT (by walk_at "st") rfl ?_
        walk_at "rds"
        refine ⟨x.1, 42, s', r', l', rfl, h1.toA, h2.toA, h3.toA, so, fun H13 s13 => ?_⟩
        have hu13 := s13 _ _ hu
        have em := mdue_same h1.toA h2.toA h3.toA s13
        walk_at "rds"
        refine RD.ixT (by walk_at "st") rfl ?_
        walk_at "rds"
        refine RD.ixT (by walk_at "st") rfl ?_
        walk_at "rds"
        refine RD.ixT (by walk_at "st") rfl ?_
        walk_at "rds"
        refine ⟨x.1, 42, s', r', l', rfl, (h1.same s13).toA, (h2.same s13).toA, (h3.same s13).toA, fun e u2 b2 H14 s14 hu2 hv2 hm2 => ?_, fun ne u2 H14 s14 hu2 hv2 => ?_⟩
        · rw [em] at e
          rw [e]
          obtain ⟨z2, rws2, ls2, rfl, hp2, g2⟩ := mdue_good e
          have s24 := s13.trans s14
          have M14 := M12.same s24
          have hu14 := s24 _ _ hu
          have hp14 := hp2.same s24
          clear M12 hu hu13 s13 s14 s24 h1 h2 h3 hp2 em e hu2
          walk_at "rds"
          refine RD.ixT (by walk_at "st") rfl ?_
          walk_at "rds"
          refine RD.ite_nd (fun n => absurd rfl n) (fun _ => ?_)
          walk_at "rds"
          refine RD.ixT (by walk_at "st") rfl ?_
          walk_at "rds"
          refine RD.ite_d (fun n => (nomatch n)) (fun _ => ?_)
          walk_at "rds"
          refine ⟨rfl, true, rfl, ?_⟩
          walk_at "rds"
          refine RD.ixT (by walk_at "st") rfl ?_
          walk_at "rds"
          obtain ⟨dx2, hb2⟩ := id hm2
          refine ⟨b2, dx2, _, .ref T.C_Machine, rfl, hb2, mach_ty T M14.mach, own_nf _ _, b2, z2, r', l', rws2, ls2, .ref b, rfl, hm2, hp14, g2, .inl ⟨b, z, r, l, rws, ls, rfl, M14.mach, M14.parts, g, fun H15 s15 => ⟨_, rfl, ?_⟩⟩⟩
          rw [if_neg (by decide)]
          walk_at "rds"
          refine RD.eqD (mdp (s15 _ _ hu14) (hp14.same s15)) (mdp (s15 _ _ M14.at_) (M14.parts.same s15)) g2.shaped g.shaped ?_
          walk_at "rds"
          refine RD.ite_nd (fun n => absurd rfl n) (fun _ => ?_)
          walk_at "rds"
          exact ⟨_, _, _, _, rfl, M14.same s15⟩
        · rw [em] at ne hv2
          have kd : (∃ y : Str, mdueV H12 s' r' l' = .str y) ∨ ∃ k : Nat, mdueV H12 s' r' l' = .int (k : Nat) := by
            rcases mdue_kinds (H := H12) (s := s') (r := r') (l := l') with e | e | e
            · exact absurd e ne
            · exact .inl e
            · exact .inr e
          have M14 := M12.same (s13.trans s14)
          generalize mdueV H12 s' r' l' = d at ne hv2 kd
          clear M12 hu hu13 s13 s14 h1 h2 h3 em hu2
          rcases kd with ⟨y, rfl⟩ | ⟨y, rfl⟩
          · walk_at "rds"
            refine RD.ixT (by walk_at "st") rfl ?_
            walk_at "rds"
            refine RD.ite_nd (fun n => absurd rfl n) (fun _ => ?_)
            walk_at "rds"
            refine RD.ixT (by walk_at "st") rfl ?_
            walk_at "rds"
            refine RD.ite_d (fun n => (nomatch n)) (fun _ => ?_)
            walk_at "rds"
            refine ⟨rfl, false, rfl, ?_⟩
            walk_at "rds"
            exact ⟨_, _, _, _, rfl, M14⟩
          · walk_at "rds"
            refine RD.ixT (by walk_at "st") rfl ?_
            walk_at "rds"
            refine RD.ite_nd (fun n => absurd rfl n) (fun _ => ?_)
            walk_at "rds"
            refine RD.ixT (by walk_at "st") rfl ?_
            walk_at "rds"
            refine RD.ite_d (fun n => (nomatch n)) (fun _ => ?_)
            walk_at "rds"
            refine ⟨rfl, false, rfl, ?_⟩
            walk_at "rds"
            exact ⟨_, _, _, _, rfl, M14⟩
      obtain ⟨x5, x7, x8, x9, rfl, M10⟩ := hp
      clear M9
      obtain ⟨dx, hb10⟩ := id M10.mach
      walk_at "rds"
      refine ⟨b, dx, _, .type "tuple", rfl, hb10, .base (.tup M10.at_), nf_mach T .tup, b, z, r, l, rws, ls, .ref t, rfl, M10.mach, M10.parts, g, .inr ⟨.type "tuple", .base (.tup M10.at_), kd_mach T .tup, fun H11 s11 => ⟨_, rfl, ?_⟩⟩⟩
      rw [if_neg (by decide)]
      have M11 := M10.same s11
      clear hb10 M10 s11
      have hh11 := M11.bag
      walk_at "rds"
      have hv1 := hv
      have hh12 := M11.bag.same hs
      have M12 := M11.same hs
      have hn1 := hn
      clear M11 hv hs hp hn hh11
      refine RB.made fun bk H13 dxk hbk s13 hbk3 => ?_
      have hv13 := s13 _ _ hv1
      refine ⟨x.1, bk, dxk, 1, .ref _, rfl, hbk3, SPD.dqTup hv13 hn1.1 (.cons (.leaf rfl) .nil), fun H14 _ k14 h14 => ⟨rfl, ?_⟩, fun r d H' hr ne _ _ _ => absurd (hr.one (DueR.of (zs := [("a" : Str)]) hv13 good_a)) ne⟩
      have s14 := same_of_kb s13 hbk k14
      have M14 := M12.same s14
      obtain ⟨dx, hb14⟩ := id M14.mach
      have tyk : TyX K H14 (.ref bk) (.ref T.C_Book) := .base (.ins h14 T.cl_Book T.ty_Book.1 T.ty_Book.2.1 T.ty_Book.2.2.1 T.ty_Book.2.2.2)
      refine ⟨b, dx, _, .ref T.C_Book, rfl, hb14, tyk, X.1, b, z, r, l, rws, ls, .ref bk, rfl, M14.mach, M14.parts, g, .inr ⟨.ref T.C_Book, tyk, X.2, fun H15 s15 => ⟨_, rfl, ?_⟩⟩⟩
      rw [if_neg (by decide)]
      have M15 := M14.same s15
      clear hb14 tyk M14 s14 k14 h14 hv13 hbk3 s13 hbk M12 hh12 hv1 hn1 s15
      walk_at "rds"
      refine RD.ixT (.inl (.inl M15.at_)) rfl ?_
      walk_at "rds"
      refine RD.ixT (.inl (.inl M15.at_)) rfl ?_
      walk_at "rds"
      refine RD.ixT (.inl (.inl M15.at_)) rfl ?_
      walk_at "rds"
      obtain ⟨hdr, hdl, hdz⟩ := parts_dq M15.bag M15.parts g
      refine RB.made fun b4 H16 dx4 hb4 s16 hb16 => ?_
      refine ⟨x.1, b4, dx4, 42, .str z, r, l, rfl, hb16, (hdz.same s16).toA, (hdr.same s16).toA, (hdl.same s16).toA, fun _ H17 k17 h17 => ⟨rfl, ?_⟩, fun ne => absurd (good_mdue (M15.parts.same s16) g) ne⟩
      have s17 := same_of_kb s16 hb4 k17
      have M17 := M15.same s17
      obtain ⟨dx, hb17⟩ := id M17.mach
      have hm4 : MachAt H17 T.C_Machine b4 (.str z) r l := ⟨dx4, h17⟩
      refine ⟨b, dx, _, .ref T.C_Machine, rfl, hb17, mach_ty T hm4, own_nf _ _, b, z, r, l, rws, ls, .ref b4, rfl, M17.mach, M17.parts, g, .inl ⟨b4, z, r, l, rws, ls, rfl, hm4, M17.parts, g, fun H18 s18 => ⟨_, rfl, ?_⟩⟩⟩
      rw [g.self, if_pos rfl]
      have M18 := M17.same s18
      clear hb17 hm4 M17 s17 k17 h17 hb16 s16 hb4 M15 hdr hdl hdz s18
      walk_at "rds"
      refine RD.forW (walk_range (lo := 0) (n := Int.toNat 6)) (fun i' σ H' => ∃ x7 x10, σ = [some (.ref s0), some (.ref x.1), some (.int (0 + (i : Int))), some (.str z), some (.ref t), x5, some (.ref b), x7, x8, x9, x10, x11, x12, x13] ∧ MP H' T.C_Machine x t b z r l rws ls ∧ (i' = 0 ∨ ∃ u : Str, x10 = some (.str u) ∧ u.cps.size ≤ 30)) ⟨_, _, rfl, M18, .inl rfl⟩ (fun _ _ _ _ _ => trivial) (fun i' v σ H19 H20 hi' hp hy => ?_) (fun σ H19 hp => ?_)
      · obtain ⟨x7, x10, rfl, M19, _⟩ := hp
        obtain ⟨rfl, rfl⟩ := hy
        clear M18
        walk_at "rds"
        refine ⟨x, z, 30, rfl, M19.bag, hz1, by omega, by decide, fun u H21 k21 hh21 ho hu => ?_⟩
        have M21 := M19.kx k21 hh21
        have hu1 : u.cps.size ≤ 100000 := by omega
        clear M19 k21
        walk_at "rds"
        refine ⟨b, x.1, 0, z, r, l, rws, ls, .str u, rfl, M21.mach, M21.parts, g, .leaf (Nat.ble_eq_true_of_le hu1), fun u' eu _ H22 s22 => ?_, fun e => by rw [ho] at e; cases e⟩
        cases eu
        have M22 := M21.same s22
        clear M21 hh21 s22
        walk_at "rds"
        refine ⟨t, z, u, r, l, rws, ls, rfl, M22.at_, M22.parts, g, ho, hu1, fun H23 s23 => ?_⟩
        have M23 := M22.same s23
        clear M22 s23
        walk_at "rds"
        refine RD.ite_nd (fun n => absurd rfl n) (fun _ => ?_)
        walk_at "rds"
        refine ⟨b, x.1, 0, z, r, l, rws, ls, .str u, rfl, M23.mach, M23.parts, g, .leaf (Nat.ble_eq_true_of_le hu1), fun u' eu _ H24 s24 => ?_, fun e => by rw [ho] at e; cases e⟩
        cases eu
        have M24 := M23.same s24
        clear M23 s24
        walk_at "rds"
        refine ⟨t, z, u, r, l, rws, ls, rfl, M24.at_, M24.parts, g, ho, hu1, fun H25 s25 => ?_⟩
        have M25 := M24.same s25
        clear M24 s25
        walk_at "rds"
        refine ⟨_, _, rfl, ?_⟩
        rw [decide_eq_true rfl]
        walk_at "rds"
        exact ⟨_, _, rfl, M25, .inr ⟨u, rfl, hu⟩⟩
      obtain ⟨x7, x10, rfl, M19, hx10⟩ := hp
      obtain ⟨u, rfl, hu⟩ : ∃ u : Str, x10 = some (.str u) ∧ u.cps.size ≤ 30 := hx10.resolve_left (by decide)
      clear M18 hx10
      have hus : u.length ≤ sizeLine := small_len (by omega)
      have el : ∀ x : Str, x.length = x.cps.size := fun _ => rfl
      have one : ∀ y : Str, y.cps.size = 1 → u.length + y.length ≤ sizeLine := fun y hy => RD.szo (by rw [el, el]; omega)
      have hhh := M19.bag
      walk_at "rds"
      refine RB.addS (one _ rfl) ?_
      walk_at "rds"
      refine RB.addS (one _ rfl) ?_
      walk_at "rds"
      refine RB.addS (one _ rfl) ?_
      walk_at "rds"
      rename_i pL GL qL eL vL oL
      have vT := hv
      have oT := hn
      have eT := hs
      have hhT := (hhh.same eL).same eT
      have sT := eL.trans eT
      clear hv hn hs hp
      generalize p' = pT at vT oT ⊢
      refine ⟨rfl, fun pn Hn sn hdn => ?_⟩
      have hdn := hdn x hhT
      walk_at "rds"
      have sH := (sT.trans sn).trans hs
      have M20 := M19.same sH
      have eLT := (eT.trans sn).trans hs
      have bad : ∀ v, v ∈ [V.non, .int 0, .str (u ++ ("A" : Str)), .str (u ++ (" " : Str)), .ref pL, .ref pT, .str (u ++ ("z" : Str)), .ref pn, .bl true] → ofB z v = false ∧ SPE.Dq x H' 40 v := by
        intro v hm
        simp only [List.mem_cons, List.not_mem_nil, or_false] at hm
        have ap : ∀ x y : Str, (x ++ y).cps.size = x.cps.size + y.cps.size := app_size
        rcases hm with rfl | rfl | rfl | rfl | rfl | rfl | rfl | rfl | rfl
        · exact ⟨rfl, .leaf rfl⟩
        · exact ⟨rfl, .leaf rfl⟩
        · exact ⟨not_of hlz (by decide), leaf_str (by rw [ap]; show _ + 1 ≤ _; omega)⟩
        · exact ⟨not_of hlz (by decide), leaf_str (by rw [ap]; show _ + 1 ≤ _; omega)⟩
        · refine ⟨rfl, SPE.dqLstN (n := 39) (m := 30) (eLT _ _ vL) oL (SPE.dqa_leaf fun v hv => ?_) ?_ rfl⟩
          · obtain ⟨c, _, rfl⟩ := List.mem_map.mp hv
            rfl
          · show (List.map _ _).length ≤ 30
            rw [List.length_map, Array.length_toList]
            exact hu
        · exact ⟨rfl, SPE.dqTup (n := 39) ((sn.trans hs) _ _ vT) oT (.cons (.leaf rfl) .nil)⟩
        · exact ⟨not_of hlz (by decide), leaf_str (by rw [ap]; show _ + 1 ≤ _; omega)⟩
        · exact ⟨rfl, hdn.same hs⟩
        · exact ⟨rfl, .leaf rfl⟩
      refine spSome.mk (E := E0) M20.bag (.lst (hand_ne hp (hhT.same sn)) (.inl (.inl hv))) (Nat.succ_pos _) (by show (9 : Nat) < _; decide) fun odd H21 hm k21 hh21 => ?_
      obtain ⟨ho, hd⟩ := bad odd hm
      have M21 := M20.kx k21 hh21
      have hd21 := hd.kx k21
      clear bad hm hd k21 hh21 M20 eLT sH hv hs hp hdn sn vT oT eT hhT sT vL oL eL qL hhh M19
      walk_at "rds"
      refine ⟨b, x.1, 40, z, r, l, rws, ls, odd, rfl, M21.mach, M21.parts, g, hd21.toA, fun t' _ e => (by rw [ho] at e; cases e), fun _ H22 s22 => ?_⟩
      refine ⟨true, T.em_NoText_NoText, fun _ a ha => ?_, fun z => nomatch z⟩
      have M22 := M21.same s22
      have hd22 := hd21.same s22
      clear M21 hd21 s22
      walk_at "rds"
      refine RD.ite_nd (fun n => absurd rfl n) (fun _ => ?_)
      walk_at "rds"
      refine ⟨b, x.1, 40, z, r, l, rws, ls, odd, rfl, M22.mach, M22.parts, g, hd22.toA, fun t' _ e => (by rw [ho] at e; cases e), fun _ H23 s23 => ?_⟩
      walk_at "rds"
      refine ⟨false, false, rfl, rfl, ?_⟩
      walk_at "rds"
      refine RD.ite_nd (fun n => absurd rfl n) (fun _ => ?_)
      walk_at "rds"
      exact ⟨_, _, _, _, _, _, _, _, _, _, _, _, rfl, M22.bag.same s23⟩
    · obtain ⟨x2, x3, x4, x5, x6, x7, x8, x9, x10, x11, x12, x13, rfl, hh2⟩ := hp
      walk_at "rds"
      exact q _
end


end K15

namespace K15
open PySem PySem.Spec PyProof.Rows L2
abbrev Pg : Program := (PySem.Challenge.rw_struckpieces_k15_whole_machines_judged).prog
abbrev Rw : PySem.W.OpenRow := PySem.W.OpenLaw.row PySem.Challenge.rw_struckpieces_k15_whole_machines_judged

def dfn : List HX.DefS := [⟨("BadBook", some "__init__"), "__init__", "BadBook.__init__", s_BadBook_init⟩,
  ⟨("BadMachine", some "__init__"), "__init__", "BadMachine.__init__", s_BadMachine_init⟩,
  ⟨("is_log", none), "is_log", "is_log", s_q_is_log⟩,
  ⟨("is_piece", none), "is_piece", "is_piece", s_is_piece⟩,
  ⟨("Book", some "__init__"), "__init__", "Book.__init__", s_Book_init⟩,
  ⟨("Book", some "__eq__"), "__eq__", "Book.__eq__", s_Book_eq⟩,
  ⟨("is_integer", none), "is_integer", "is_integer", s_is_integer⟩,
  ⟨("is_within", none), "is_within", "is_within", s_is_within⟩,
  ⟨("are_signs", none), "are_signs", "are_signs", s_are_signs⟩,
  ⟨("is_row", none), "is_row", "is_row", s_is_row⟩,
  ⟨("Machine", some "__init__"), "__init__", "Machine.__init__", s_Machine_init⟩,
  ⟨("Machine", some "__eq__"), "__eq__", "Machine.__eq__", s_Machine_eq⟩,
  ⟨("step", none), "step", "step", s_step⟩,
  ⟨("behind", none), "behind", "behind", s_behind⟩,
  ⟨("is_of_signs", none), "is_of_signs", "is_of_signs", s_is_of_signs⟩,
  ⟨("reached", none), "reached", "reached", s_reached⟩,
  ⟨("lets_by", none), "lets_by", "lets_by", s_lets_by⟩,
  ⟨("_law_bag", none), "_law_bag", "_law_bag", s_bag⟩,
  ⟨("_law_pick", none), "_law_pick", "_law_pick", s_pick⟩,
  ⟨("_law_some", none), "_law_some", "_law_some", s_some⟩,
  ⟨("_law_nested", none), "_law_nested", "_law_nested", s_nested⟩,
  ⟨("_law_parts", none), "_law_parts", "_law_parts", s_parts⟩,
  ⟨("_law_walk", none), "_law_walk", "_law_walk", s_walk⟩,
  ⟨("_law_lets", none), "_law_lets", "_law_lets", s_lets⟩,
  ⟨("_law_text", none), "_law_text", "_law_text", s_text⟩,
  ⟨("_law_int", none), "_law_int", "_law_int", s_int⟩,
  ⟨("_law_due", none), "_law_due", "_law_due", s_due⟩,
  ⟨("_law_told", none), "_law_told", "_law_told", s_told⟩,
  ⟨("_law_bent", none), "_law_bent", "_law_bent", s_bent⟩,
  ⟨("_law_flag", none), "_law_flag", "_law_flag", s_flag⟩,
  ⟨("law", none), "law", "law", s_law⟩]
def dck : List (PySem.W.Frag → Bool) := [fun K => HX.plB K ("is_log", none) "is_log",
  fun K => (He.Fa.glo "is_log").ok K,
  fun K => HX.plB K ("is_piece", none) "is_piece",
  fun K => (He.Fa.glo "is_piece").ok K,
  fun K => HX.plB K ("Book", some "__init__") "Book.__init__",
  fun K => HX.plB K ("Book", some "__eq__") "Book.__eq__",
  fun K => HX.plB K ("is_integer", none) "is_integer",
  fun K => (He.Fa.glo "is_integer").ok K,
  fun K => HX.plB K ("is_within", none) "is_within",
  fun K => (He.Fa.glo "is_within").ok K,
  fun K => HX.plB K ("are_signs", none) "are_signs",
  fun K => (He.Fa.glo "are_signs").ok K,
  fun K => HX.plB K ("is_row", none) "is_row",
  fun K => (He.Fa.glo "is_row").ok K,
  fun K => HX.plB K ("Machine", some "__init__") "Machine.__init__",
  fun K => HX.plB K ("Machine", some "__eq__") "Machine.__eq__",
  fun K => HX.plB K ("step", none) "step",
  fun K => (He.Fa.glo "step").ok K,
  fun K => HX.plB K ("behind", none) "behind",
  fun K => (He.Fa.glo "behind").ok K,
  fun K => HX.plB K ("is_of_signs", none) "is_of_signs",
  fun K => (He.Fa.glo "is_of_signs").ok K,
  fun K => HX.plB K ("reached", none) "reached",
  fun K => (He.Fa.glo "reached").ok K,
  fun K => HX.plB K ("lets_by", none) "lets_by",
  fun K => (He.Fa.glo "lets_by").ok K,
  fun K => HX.plB K ("_law_bag", none) "_law_bag",
  fun K => (He.Fa.glo "_law_bag").ok K,
  fun K => HX.plB K ("_law_pick", none) "_law_pick",
  fun K => (He.Fa.glo "_law_pick").ok K,
  fun K => HX.plB K ("_law_some", none) "_law_some",
  fun K => (He.Fa.glo "_law_some").ok K,
  fun K => HX.plB K ("_law_nested", none) "_law_nested",
  fun K => (He.Fa.glo "_law_nested").ok K,
  fun K => HX.plB K ("_law_parts", none) "_law_parts",
  fun K => (He.Fa.glo "_law_parts").ok K,
  fun K => HX.plB K ("_law_walk", none) "_law_walk",
  fun K => (He.Fa.glo "_law_walk").ok K,
  fun K => HX.plB K ("_law_lets", none) "_law_lets",
  fun K => (He.Fa.glo "_law_lets").ok K,
  fun K => HX.plB K ("_law_text", none) "_law_text",
  fun K => (He.Fa.glo "_law_text").ok K,
  fun K => HX.plB K ("_law_int", none) "_law_int",
  fun K => (He.Fa.glo "_law_int").ok K,
  fun K => HX.plB K ("_law_due", none) "_law_due",
  fun K => (He.Fa.glo "_law_due").ok K,
  fun K => HX.plB K ("_law_told", none) "_law_told",
  fun K => (He.Fa.glo "_law_told").ok K,
  fun K => HX.plB K ("_law_bent", none) "_law_bent",
  fun K => (He.Fa.glo "_law_bent").ok K,
  fun K => HX.plB K ("_law_flag", none) "_law_flag",
  fun K => (He.Fa.glo "_law_flag").ok K,
  fun K => HX.plB K ("law", none) "law",
  fun K => (He.Fa.glo "law").ok K,
  fun K => (He.Fa.glo "LogError").ok K,
  fun K => HX.oexB K (He.ga K "LogError"),
  fun K => HX.excB K (He.ga K "LogError"),
  fun K => decide (PySem.W.subIn K (.ref (He.ga K "LogError")) (.type "BaseException") = some true),
  fun K => decide (PySem.W.typeIn K (.ref (He.ga K "LogError")) = some (.type "type")),
  fun K => decide (PySem.W.exmOne K (.ref (He.ga K "LogError")) (.ref (He.ga K "BadMachine")) = some false),
  fun K => decide (PySem.W.exmOne K (.ref (He.ga K "LogError")) (.ref (He.ga K "NoText")) = some false),
  fun K => PySem.W.excIn K (He.ga K "LogError") He.veBase "ValueError.__new__",
  fun K => PySem.W.keepIn K (.ref (He.ga K "LogError")),
  fun K => (He.Fa.glo "BadBook").ok K,
  fun K => HX.oexB K (He.ga K "BadBook"),
  fun K => HX.excB K (He.ga K "BadBook"),
  fun K => decide (PySem.W.subIn K (.ref (He.ga K "BadBook")) (.type "BaseException") = some true),
  fun K => decide (PySem.W.typeIn K (.ref (He.ga K "BadBook")) = some (.type "type")),
  fun K => decide (PySem.W.exmOne K (.ref (He.ga K "BadBook")) (.ref (He.ga K "BadMachine")) = some false),
  fun K => decide (PySem.W.exmOne K (.ref (He.ga K "BadBook")) (.ref (He.ga K "NoText")) = some false),
  fun K => HX.sicB K (He.ga K "BadBook") "part",
  fun K => HX.spB K ("BadBook", some "__init__") "BadBook.__init__" Pg.main.file (He.ga K "BadBook"),
  fun K => (He.Fa.free "super").ok K,
  fun K => He.eqO (PySem.W.findIn K (.ref (He.ga K "BadBook")) "part") (some none),
  fun K => He.eqO (PySem.W.findIn K (.ref (He.ga K "BadBook")) "__init__") (some (some (.ref (He.ma K (He.ga K "BadBook") "__init__")))),
  fun K => decide (PySem.W.typeIn K (.ref (He.ma K (He.ga K "BadBook") "__init__")) = some (.type "function")),
  fun K => (He.Fa.glo "BadMachine").ok K,
  fun K => HX.oexB K (He.ga K "BadMachine"),
  fun K => HX.excB K (He.ga K "BadMachine"),
  fun K => decide (PySem.W.subIn K (.ref (He.ga K "BadMachine")) (.type "BaseException") = some true),
  fun K => decide (PySem.W.typeIn K (.ref (He.ga K "BadMachine")) = some (.type "type")),
  fun K => decide (PySem.W.exmOne K (.ref (He.ga K "BadMachine")) (.ref (He.ga K "BadMachine")) = some true),
  fun K => decide (PySem.W.exmOne K (.ref (He.ga K "BadMachine")) (.ref (He.ga K "NoText")) = some false),
  fun K => HX.sicB K (He.ga K "BadMachine") "part",
  fun K => HX.spB K ("BadMachine", some "__init__") "BadMachine.__init__" Pg.main.file (He.ga K "BadMachine"),
  fun K => He.eqO (PySem.W.findIn K (.ref (He.ga K "BadMachine")) "part") (some none),
  fun K => He.eqO (PySem.W.findIn K (.ref (He.ga K "BadMachine")) "__init__") (some (some (.ref (He.ma K (He.ga K "BadMachine") "__init__")))),
  fun K => decide (PySem.W.typeIn K (.ref (He.ma K (He.ga K "BadMachine") "__init__")) = some (.type "function")),
  fun K => (He.Fa.glo "NoText").ok K,
  fun K => HX.oexB K (He.ga K "NoText"),
  fun K => HX.excB K (He.ga K "NoText"),
  fun K => decide (PySem.W.subIn K (.ref (He.ga K "NoText")) (.type "BaseException") = some true),
  fun K => decide (PySem.W.typeIn K (.ref (He.ga K "NoText")) = some (.type "type")),
  fun K => decide (PySem.W.exmOne K (.ref (He.ga K "NoText")) (.ref (He.ga K "BadMachine")) = some false),
  fun K => decide (PySem.W.exmOne K (.ref (He.ga K "NoText")) (.ref (He.ga K "NoText")) = some true),
  fun K => PySem.W.excIn K (He.ga K "NoText") He.veBase "ValueError.__new__",
  fun K => PySem.W.keepIn K (.ref (He.ga K "NoText")),
  fun K => (He.Fa.glo "Book").ok K,
  fun K => (He.Fa.cls "Book").ok K,
  fun K => (He.Fa.mkr "Book").ok K,
  fun K => He.eqO (PySem.W.findIn K (.ref (He.ga K "Book")) "__eq__") (some (some (.ref (He.ma K (He.ga K "Book") "__eq__")))),
  fun K => PySem.W.isFn K (.ref (He.ma K (He.ga K "Book") "__eq__")),
  fun K => He.eqO (PySem.W.findIn K (.ref (He.ga K "Book")) "__ne__") (some (some (.builtin "object.__ne__"))),
  fun K => decide (PySem.W.subIn K (.ref (He.ga K "Book")) (.type "object") = some true),
  fun K => ["tuple", "int", "str", "list", "bool", "NoneType", "dict"].all fun t => PySem.W.notFirst K (He.ga K "Book") (.type t),
  fun K => He.eqO (PySem.W.findIn K (.ref (He.ga K "Book")) "__class__") (some (some (.builtin "object.__class__"))),
  fun K => He.eqO (PySem.W.specialIn K (.builtin "object.__class__") "__get__") (some (some (.builtin "getset_descriptor.__get__"))),
  fun K => decide (PySem.W.takesIn K (.builtin "object.__class__") = some true),
  fun K => decide (PySem.W.mroIn K (He.ga K "Book") (.type "object") = some true),
  fun K => ["tuple", "int", "str", "list", "bool", "NoneType", "dict"].all fun t => PySem.W.kitOne K (.type t) (.ref (He.ga K "Book")) == some false,
  fun K => (He.Fa.noat "Book" "pieces").ok K,
  fun K => (He.Fa.glo "Machine").ok K,
  fun K => (He.Fa.cls "Machine").ok K,
  fun K => (He.Fa.mkr "Machine").ok K,
  fun K => He.eqO (PySem.W.findIn K (.ref (He.ga K "Machine")) "__eq__") (some (some (.ref (He.ma K (He.ga K "Machine") "__eq__")))),
  fun K => PySem.W.isFn K (.ref (He.ma K (He.ga K "Machine") "__eq__")),
  fun K => He.eqO (PySem.W.findIn K (.ref (He.ga K "Machine")) "__ne__") (some (some (.builtin "object.__ne__"))),
  fun K => decide (PySem.W.subIn K (.ref (He.ga K "Machine")) (.type "object") = some true),
  fun K => ["tuple", "int", "str", "list", "bool", "NoneType", "dict"].all fun t => PySem.W.notFirst K (He.ga K "Machine") (.type t),
  fun K => He.eqO (PySem.W.findIn K (.ref (He.ga K "Machine")) "__class__") (some (some (.builtin "object.__class__"))),
  fun K => decide (PySem.W.mroIn K (He.ga K "Machine") (.type "object") = some true),
  fun K => ["tuple", "int", "str", "list", "bool", "NoneType", "dict"].all fun t => PySem.W.kitOne K (.type t) (.ref (He.ga K "Machine")) == some false,
  fun K => (He.Fa.noat "Machine" "lets").ok K,
  fun K => (He.Fa.noat "Machine" "rows").ok K,
  fun K => (He.Fa.noat "Machine" "signs").ok K,
  fun K => (He.Fa.str "LETTERS" "abcdefgh").ok K,
  fun K => (He.Fa.int "MOST_PIECES" (12)).ok K,
  fun K => (He.Fa.int "MOST_LONG" (8)).ok K,
  fun K => (He.Fa.int "MOST_SIGNS" (8)).ok K,
  fun K => (He.Fa.int "MOST_STANDINGS" (300)).ok K,
  fun K => (He.Fa.free "abs").ok K,
  fun K => (He.Fa.free "all").ok K,
  fun K => (He.Fa.free "bool").ok K,
  fun K => (He.Fa.free "enumerate").ok K,
  fun K => (He.Fa.free "int").ok K,
  fun K => (He.Fa.free "isinstance").ok K,
  fun K => (He.Fa.free "len").ok K,
  fun K => (He.Fa.free "list").ok K,
  fun K => (He.Fa.free "range").ok K,
  fun K => (He.Fa.free "set").ok K,
  fun K => (He.Fa.free "sorted").ok K,
  fun K => (He.Fa.free "str").ok K,
  fun K => (He.Fa.free "sum").ok K,
  fun K => (He.Fa.free "tuple").ok K,
  fun K => PySem.W.notFirst K (He.ga K "Machine") (.ref (He.ga K "Book")),
  fun K => decide (PySem.W.kitOne K (.ref (He.ga K "Book")) (.ref (He.ga K "Machine")) = some false)]
abbrev hk : PySem.W.Hook := HX.hookX 5 dck dfn
def ob (s : PySem.W.SharedT) : HX.AlX := HX.obsXG 5 dck dfn (HandSHeadRun.getT s)
theorem ob_eq (s : PySem.W.SharedT) : ob s = hk.obs s.abs := HX.obsXG_eq (HandSHeadRun.getT_eq s)
def loose : List Str := (["is_log", "is_piece", "is_integer", "is_within", "are_signs", "is_row", "step", "behind", "is_of_signs", "reached", "lets_by", "_law_bag", "_law_pick", "_law_some", "_law_nested", "_law_parts", "_law_walk", "_law_lets", "_law_text", "_law_int"] : List Str) ++ (["_law_due", "_law_told", "_law_bent", "_law_flag", "LogError", "BadBook", "BadMachine", "NoText", "Book", "Machine", "LETTERS", "MOST_PIECES", "MOST_LONG", "MOST_SIGNS", "MOST_STANDINGS"] : List Str)
theorem run (w : World) : HandSHeadRun.RunEq Rw (PySem.W.view Rw.prog [40]) hk ob 60000 loose w := by
  intro os
  kernel_rfl
theorem txt {K : PySem.W.Frag} {h : Heap} {mg : Str → Option Value} (X : K.In h) (G : h.Ns mainGlobals mg) (c : HX.SaysX dck dfn K) : ∃ T : Txt Pg K mg, T.a_law = He.ga K "law" ∧ (PySem.W.notFirst K T.C_Machine (.ref T.C_Book) = true ∧ PySem.W.kitOne K (.ref T.C_Book) (.ref T.C_Machine) = some false) := by
  obtain ⟨fd_q_is_log, F_q_is_log⟩ := HX.plB_ok (d := ⟨("is_log", none), "is_log", "is_log", s_q_is_log⟩) (c.fn_ 2 rfl) (c.fact 0 rfl)
  obtain ⟨fd_is_piece, F_is_piece⟩ := HX.plB_ok (d := ⟨("is_piece", none), "is_piece", "is_piece", s_is_piece⟩) (c.fn_ 3 rfl) (c.fact 2 rfl)
  obtain ⟨fd_Book_init, F_Book_init⟩ := HX.plB_ok (d := ⟨("Book", some "__init__"), "__init__", "Book.__init__", s_Book_init⟩) (c.fn_ 4 rfl) (c.fact 4 rfl)
  obtain ⟨fd_Book_eq, F_Book_eq⟩ := HX.plB_ok (d := ⟨("Book", some "__eq__"), "__eq__", "Book.__eq__", s_Book_eq⟩) (c.fn_ 5 rfl) (c.fact 5 rfl)
  obtain ⟨fd_is_integer, F_is_integer⟩ := HX.plB_ok (d := ⟨("is_integer", none), "is_integer", "is_integer", s_is_integer⟩) (c.fn_ 6 rfl) (c.fact 6 rfl)
  obtain ⟨fd_is_within, F_is_within⟩ := HX.plB_ok (d := ⟨("is_within", none), "is_within", "is_within", s_is_within⟩) (c.fn_ 7 rfl) (c.fact 8 rfl)
  obtain ⟨fd_are_signs, F_are_signs⟩ := HX.plB_ok (d := ⟨("are_signs", none), "are_signs", "are_signs", s_are_signs⟩) (c.fn_ 8 rfl) (c.fact 10 rfl)
  obtain ⟨fd_is_row, F_is_row⟩ := HX.plB_ok (d := ⟨("is_row", none), "is_row", "is_row", s_is_row⟩) (c.fn_ 9 rfl) (c.fact 12 rfl)
  obtain ⟨fd_Machine_init, F_Machine_init⟩ := HX.plB_ok (d := ⟨("Machine", some "__init__"), "__init__", "Machine.__init__", s_Machine_init⟩) (c.fn_ 10 rfl) (c.fact 14 rfl)
  obtain ⟨fd_Machine_eq, F_Machine_eq⟩ := HX.plB_ok (d := ⟨("Machine", some "__eq__"), "__eq__", "Machine.__eq__", s_Machine_eq⟩) (c.fn_ 11 rfl) (c.fact 15 rfl)
  obtain ⟨fd_step, F_step⟩ := HX.plB_ok (d := ⟨("step", none), "step", "step", s_step⟩) (c.fn_ 12 rfl) (c.fact 16 rfl)
  obtain ⟨fd_behind, F_behind⟩ := HX.plB_ok (d := ⟨("behind", none), "behind", "behind", s_behind⟩) (c.fn_ 13 rfl) (c.fact 18 rfl)
  obtain ⟨fd_is_of_signs, F_is_of_signs⟩ := HX.plB_ok (d := ⟨("is_of_signs", none), "is_of_signs", "is_of_signs", s_is_of_signs⟩) (c.fn_ 14 rfl) (c.fact 20 rfl)
  obtain ⟨fd_reached, F_reached⟩ := HX.plB_ok (d := ⟨("reached", none), "reached", "reached", s_reached⟩) (c.fn_ 15 rfl) (c.fact 22 rfl)
  obtain ⟨fd_lets_by, F_lets_by⟩ := HX.plB_ok (d := ⟨("lets_by", none), "lets_by", "lets_by", s_lets_by⟩) (c.fn_ 16 rfl) (c.fact 24 rfl)
  obtain ⟨fd_bag, F_bag⟩ := HX.plB_ok (d := ⟨("_law_bag", none), "_law_bag", "_law_bag", s_bag⟩) (c.fn_ 17 rfl) (c.fact 26 rfl)
  obtain ⟨fd_pick, F_pick⟩ := HX.plB_ok (d := ⟨("_law_pick", none), "_law_pick", "_law_pick", s_pick⟩) (c.fn_ 18 rfl) (c.fact 28 rfl)
  obtain ⟨fd_some, F_some⟩ := HX.plB_ok (d := ⟨("_law_some", none), "_law_some", "_law_some", s_some⟩) (c.fn_ 19 rfl) (c.fact 30 rfl)
  obtain ⟨fd_nested, F_nested⟩ := HX.plB_ok (d := ⟨("_law_nested", none), "_law_nested", "_law_nested", s_nested⟩) (c.fn_ 20 rfl) (c.fact 32 rfl)
  obtain ⟨fd_parts, F_parts⟩ := HX.plB_ok (d := ⟨("_law_parts", none), "_law_parts", "_law_parts", s_parts⟩) (c.fn_ 21 rfl) (c.fact 34 rfl)
  obtain ⟨fd_walk, F_walk⟩ := HX.plB_ok (d := ⟨("_law_walk", none), "_law_walk", "_law_walk", s_walk⟩) (c.fn_ 22 rfl) (c.fact 36 rfl)
  obtain ⟨fd_lets, F_lets⟩ := HX.plB_ok (d := ⟨("_law_lets", none), "_law_lets", "_law_lets", s_lets⟩) (c.fn_ 23 rfl) (c.fact 38 rfl)
  obtain ⟨fd_text, F_text⟩ := HX.plB_ok (d := ⟨("_law_text", none), "_law_text", "_law_text", s_text⟩) (c.fn_ 24 rfl) (c.fact 40 rfl)
  obtain ⟨fd_int, F_int⟩ := HX.plB_ok (d := ⟨("_law_int", none), "_law_int", "_law_int", s_int⟩) (c.fn_ 25 rfl) (c.fact 42 rfl)
  obtain ⟨fd_due, F_due⟩ := HX.plB_ok (d := ⟨("_law_due", none), "_law_due", "_law_due", s_due⟩) (c.fn_ 26 rfl) (c.fact 44 rfl)
  obtain ⟨fd_told, F_told⟩ := HX.plB_ok (d := ⟨("_law_told", none), "_law_told", "_law_told", s_told⟩) (c.fn_ 27 rfl) (c.fact 46 rfl)
  obtain ⟨fd_bent, F_bent⟩ := HX.plB_ok (d := ⟨("_law_bent", none), "_law_bent", "_law_bent", s_bent⟩) (c.fn_ 28 rfl) (c.fact 48 rfl)
  obtain ⟨fd_flag, F_flag⟩ := HX.plB_ok (d := ⟨("_law_flag", none), "_law_flag", "_law_flag", s_flag⟩) (c.fn_ 29 rfl) (c.fact 50 rfl)
  obtain ⟨fd_law, F_law⟩ := HX.plB_ok (d := ⟨("law", none), "law", "law", s_law⟩) (c.fn_ 30 rfl) (c.fact 52 rfl)
  have ST_BadBook_init : HX.SiT Pg s_BadBook_init "BadBook.__init__" "part" "part" := ⟨NdefX.nscope_by (by decide +kernel), by decide +kernel, ⟨_, _, _, _, _, _, _, _, _, _, rfl, _, fun _ _ _ _ => rfl⟩, by decide +kernel, by decide +kernel, by decide +kernel, by decide +kernel⟩
  obtain ⟨fd_BadBook_init, Z_BadBook_init, B_BadBook_init⟩ := HX.sic_ok (x := "BadBook") (mg := mg) ST_BadBook_init (c.fact 64 rfl) (c.fact 70 rfl) (c.fact 71 rfl) (c.fn_ 0 rfl) (He.free_ok X G (x := "super") (c.fact 72 rfl)) (fun _ _ _ _ _ _ _ us hl => match us, hl with | [_, _], _ => rfl)
  have ST_BadMachine_init : HX.SiT Pg s_BadMachine_init "BadMachine.__init__" "part" "part" := ⟨NdefX.nscope_by (by decide +kernel), by decide +kernel, ⟨_, _, _, _, _, _, _, _, _, _, rfl, _, fun _ _ _ _ => rfl⟩, by decide +kernel, by decide +kernel, by decide +kernel, by decide +kernel⟩
  obtain ⟨fd_BadMachine_init, Z_BadMachine_init, B_BadMachine_init⟩ := HX.sic_ok (x := "BadMachine") (mg := mg) ST_BadMachine_init (c.fact 77 rfl) (c.fact 83 rfl) (c.fact 84 rfl) (c.fn_ 1 rfl) (He.free_ok X G (x := "super") (c.fact 72 rfl)) (fun _ _ _ _ _ _ _ us hl => match us, hl with | [_, _], _ => rfl)
  exact ⟨{ a_q_is_log := _, fd_q_is_log := fd_q_is_log, F_q_is_log := F_q_is_log, b_q_is_log := F_q_is_log.binds (ps := ["thing"]) (fun _ _ _ _ _ _ us hl => match us, hl with | [_], _ => rfl), g_q_is_log := He.glo_ok X G (x := "is_log") (c.fact 1 rfl), a_is_piece := _, fd_is_piece := fd_is_piece, F_is_piece := F_is_piece, b_is_piece := F_is_piece.binds (ps := ["thing"]) (fun _ _ _ _ _ _ us hl => match us, hl with | [_], _ => rfl), g_is_piece := He.glo_ok X G (x := "is_piece") (c.fact 3 rfl), a_Book_init := _, fd_Book_init := fd_Book_init, F_Book_init := F_Book_init, b_Book_init := F_Book_init.binds (ps := ["self", "pieces"]) (fun _ _ _ _ _ _ us hl => match us, hl with | [_, _], _ => rfl), a_Book_eq := _, fd_Book_eq := fd_Book_eq, F_Book_eq := F_Book_eq, b_Book_eq := F_Book_eq.binds (ps := ["self", "other"]) (fun _ _ _ _ _ _ us hl => match us, hl with | [_, _], _ => rfl), a_is_integer := _, fd_is_integer := fd_is_integer, F_is_integer := F_is_integer, b_is_integer := F_is_integer.binds (ps := ["thing"]) (fun _ _ _ _ _ _ us hl => match us, hl with | [_], _ => rfl), g_is_integer := He.glo_ok X G (x := "is_integer") (c.fact 7 rfl), a_is_within := _, fd_is_within := fd_is_within, F_is_within := F_is_within, b_is_within := F_is_within.binds (ps := ["thing", "least", "most"]) (fun _ _ _ _ _ _ us hl => match us, hl with | [_, _, _], _ => rfl), g_is_within := He.glo_ok X G (x := "is_within") (c.fact 9 rfl), a_are_signs := _, fd_are_signs := fd_are_signs, F_are_signs := F_are_signs, b_are_signs := F_are_signs.binds (ps := ["thing"]) (fun _ _ _ _ _ _ us hl => match us, hl with | [_], _ => rfl), g_are_signs := He.glo_ok X G (x := "are_signs") (c.fact 11 rfl), a_is_row := _, fd_is_row := fd_is_row, F_is_row := F_is_row, b_is_row := F_is_row.binds (ps := ["thing", "wide", "many"]) (fun _ _ _ _ _ _ us hl => match us, hl with | [_, _, _], _ => rfl), g_is_row := He.glo_ok X G (x := "is_row") (c.fact 13 rfl), a_Machine_init := _, fd_Machine_init := fd_Machine_init, F_Machine_init := F_Machine_init, b_Machine_init := F_Machine_init.binds (ps := ["self", "signs", "rows", "lets"]) (fun _ _ _ _ _ _ us hl => match us, hl with | [_, _, _, _], _ => rfl), a_Machine_eq := _, fd_Machine_eq := fd_Machine_eq, F_Machine_eq := F_Machine_eq, b_Machine_eq := F_Machine_eq.binds (ps := ["self", "other"]) (fun _ _ _ _ _ _ us hl => match us, hl with | [_, _], _ => rfl), a_step := _, fd_step := fd_step, F_step := F_step, b_step := F_step.binds (ps := ["machine", "standing", "letter"]) (fun _ _ _ _ _ _ us hl => match us, hl with | [_, _, _], _ => rfl), g_step := He.glo_ok X G (x := "step") (c.fact 17 rfl), a_behind := _, fd_behind := fd_behind, F_behind := F_behind, b_behind := F_behind.binds (ps := ["machine", "standing", "text"]) (fun _ _ _ _ _ _ us hl => match us, hl with | [_, _, _], _ => rfl), g_behind := He.glo_ok X G (x := "behind") (c.fact 19 rfl), a_is_of_signs := _, fd_is_of_signs := fd_is_of_signs, F_is_of_signs := F_is_of_signs, b_is_of_signs := F_is_of_signs.binds (ps := ["machine", "thing"]) (fun _ _ _ _ _ _ us hl => match us, hl with | [_, _], _ => rfl), g_is_of_signs := He.glo_ok X G (x := "is_of_signs") (c.fact 21 rfl), a_reached := _, fd_reached := fd_reached, F_reached := F_reached, b_reached := F_reached.binds (ps := ["machine", "text"]) (fun _ _ _ _ _ _ us hl => match us, hl with | [_, _], _ => rfl), g_reached := He.glo_ok X G (x := "reached") (c.fact 23 rfl), a_lets_by := _, fd_lets_by := fd_lets_by, F_lets_by := F_lets_by, b_lets_by := F_lets_by.binds (ps := ["machine", "text"]) (fun _ _ _ _ _ _ us hl => match us, hl with | [_, _], _ => rfl), g_lets_by := He.glo_ok X G (x := "lets_by") (c.fact 25 rfl), a_bag := _, fd_bag := fd_bag, F_bag := F_bag, b_bag := F_bag.binds (ps := ["_law_script"]) (fun _ _ _ _ _ _ us hl => match us, hl with | [_], _ => rfl), g_bag := He.glo_ok X G (x := "_law_bag") (c.fact 27 rfl), a_pick := _, fd_pick := fd_pick, F_pick := F_pick, b_pick := F_pick.binds (ps := ["_law_bag_here", "_law_many"]) (fun _ _ _ _ _ _ us hl => match us, hl with | [_, _], _ => rfl), g_pick := He.glo_ok X G (x := "_law_pick") (c.fact 29 rfl), a_some := _, fd_some := fd_some, F_some := F_some, b_some := F_some.binds (ps := ["_law_bag_here", "_law_things"]) (fun _ _ _ _ _ _ us hl => match us, hl with | [_, _], _ => rfl), g_some := He.glo_ok X G (x := "_law_some") (c.fact 31 rfl), a_nested := _, fd_nested := fd_nested, F_nested := F_nested, b_nested := F_nested.binds (ps := []) (fun _ _ _ _ _ _ us hl => match us, hl with | [], _ => rfl), g_nested := He.glo_ok X G (x := "_law_nested") (c.fact 33 rfl), a_parts := _, fd_parts := fd_parts, F_parts := F_parts, b_parts := F_parts.binds (ps := ["_law_bag_here", "_law_signs", "_law_most"]) (fun _ _ _ _ _ _ us hl => match us, hl with | [_, _, _], _ => rfl), g_parts := He.glo_ok X G (x := "_law_parts") (c.fact 35 rfl), a_walk := _, fd_walk := fd_walk, F_walk := F_walk, b_walk := F_walk.binds (ps := ["_law_parts_here", "_law_text_here"]) (fun _ _ _ _ _ _ us hl => match us, hl with | [_, _], _ => rfl), g_walk := He.glo_ok X G (x := "_law_walk") (c.fact 37 rfl), a_lets := _, fd_lets := fd_lets, F_lets := F_lets, b_lets := F_lets.binds (ps := ["_law_parts_here", "_law_text_here"]) (fun _ _ _ _ _ _ us hl => match us, hl with | [_, _], _ => rfl), g_lets := He.glo_ok X G (x := "_law_lets") (c.fact 39 rfl), a_text := _, fd_text := fd_text, F_text := F_text, b_text := F_text.binds (ps := ["_law_bag_here", "_law_own", "_law_most"]) (fun _ _ _ _ _ _ us hl => match us, hl with | [_, _, _], _ => rfl), g_text := He.glo_ok X G (x := "_law_text") (c.fact 41 rfl), a_int := _, fd_int := fd_int, F_int := F_int, b_int := F_int.binds (ps := ["_law_thing", "_law_many"]) (fun _ _ _ _ _ _ us hl => match us, hl with | [_, _], _ => rfl), g_int := He.glo_ok X G (x := "_law_int") (c.fact 43 rfl), a_due := _, fd_due := fd_due, F_due := F_due, b_due := F_due.binds (ps := ["_law_signs", "_law_rows", "_law_lets_here"]) (fun _ _ _ _ _ _ us hl => match us, hl with | [_, _, _], _ => rfl), g_due := He.glo_ok X G (x := "_law_due") (c.fact 45 rfl), a_told := _, fd_told := fd_told, F_told := F_told, b_told := F_told.binds (ps := ["_law_signs", "_law_rows", "_law_lets_here"]) (fun _ _ _ _ _ _ us hl => match us, hl with | [_, _, _], _ => rfl), g_told := He.glo_ok X G (x := "_law_told") (c.fact 47 rfl), a_bent := _, fd_bent := fd_bent, F_bent := F_bent, b_bent := F_bent.binds (ps := ["_law_bag_here", "_law_parts_here"]) (fun _ _ _ _ _ _ us hl => match us, hl with | [_, _], _ => rfl), g_bent := He.glo_ok X G (x := "_law_bent") (c.fact 49 rfl), a_flag := _, fd_flag := fd_flag, F_flag := F_flag, b_flag := F_flag.binds (ps := ["_law_told_here", "_law_due_here"]) (fun _ _ _ _ _ _ us hl => match us, hl with | [_, _], _ => rfl), g_flag := He.glo_ok X G (x := "_law_flag") (c.fact 51 rfl), a_law := _, fd_law := fd_law, F_law := F_law, b_law := F_law.binds (ps := ["_law_script"]) (fun _ _ _ _ _ _ us hl => match us, hl with | [_], _ => rfl), g_law := He.glo_ok X G (x := "law") (c.fact 53 rfl), C_LogError := He.ga K "LogError", g_LogError := He.glo_ok X G (x := "LogError") (c.fact 54 rfl), xc_LogError := HX.oexB_ok (c.fact 55 rfl), ic_LogError := HX.excB_ok (c.fact 56 rfl), bx_LogError := of_decide_eq_true (c.fact 57 rfl), tx_LogError := of_decide_eq_true (c.fact 58 rfl), em_LogError_BadMachine := of_decide_eq_true (c.fact 59 rfl), em_LogError_NoText := of_decide_eq_true (c.fact 60 rfl), k_LogError := (c.fact 61 rfl), kp_LogError := (c.fact 62 rfl), C_BadBook := He.ga K "BadBook", g_BadBook := He.glo_ok X G (x := "BadBook") (c.fact 63 rfl), xc_BadBook := HX.oexB_ok (c.fact 64 rfl), ic_BadBook := HX.excB_ok (c.fact 65 rfl), bx_BadBook := of_decide_eq_true (c.fact 66 rfl), tx_BadBook := of_decide_eq_true (c.fact 67 rfl), em_BadBook_BadMachine := of_decide_eq_true (c.fact 68 rfl), em_BadBook_NoText := of_decide_eq_true (c.fact 69 rfl), fi_BadBook := He.eqO_ok (c.fact 73 rfl), a_BadBook_init := _, fd_BadBook_init := fd_BadBook_init, S_BadBook_init := Z_BadBook_init, b_BadBook_init := B_BadBook_init, ii_BadBook := He.eqO_ok (c.fact 74 rfl), ti_BadBook := of_decide_eq_true (c.fact 75 rfl), C_BadMachine := He.ga K "BadMachine", g_BadMachine := He.glo_ok X G (x := "BadMachine") (c.fact 76 rfl), xc_BadMachine := HX.oexB_ok (c.fact 77 rfl), ic_BadMachine := HX.excB_ok (c.fact 78 rfl), bx_BadMachine := of_decide_eq_true (c.fact 79 rfl), tx_BadMachine := of_decide_eq_true (c.fact 80 rfl), em_BadMachine_BadMachine := of_decide_eq_true (c.fact 81 rfl), em_BadMachine_NoText := of_decide_eq_true (c.fact 82 rfl), fi_BadMachine := He.eqO_ok (c.fact 85 rfl), a_BadMachine_init := _, fd_BadMachine_init := fd_BadMachine_init, S_BadMachine_init := Z_BadMachine_init, b_BadMachine_init := B_BadMachine_init, ii_BadMachine := He.eqO_ok (c.fact 86 rfl), ti_BadMachine := of_decide_eq_true (c.fact 87 rfl), C_NoText := He.ga K "NoText", g_NoText := He.glo_ok X G (x := "NoText") (c.fact 88 rfl), xc_NoText := HX.oexB_ok (c.fact 89 rfl), ic_NoText := HX.excB_ok (c.fact 90 rfl), bx_NoText := of_decide_eq_true (c.fact 91 rfl), tx_NoText := of_decide_eq_true (c.fact 92 rfl), em_NoText_BadMachine := of_decide_eq_true (c.fact 93 rfl), em_NoText_NoText := of_decide_eq_true (c.fact 94 rfl), k_NoText := (c.fact 95 rfl), kp_NoText := (c.fact 96 rfl), C_Book := He.ga K "Book", g_Book := He.glo_ok X G (x := "Book") (c.fact 97 rfl), cl_Book := He.cls_ok (x := "Book") (c.fact 98 rfl), M_Book := He.mkr_ok (x := "Book") (c.fact 99 rfl), eqc_Book := ⟨He.eqO_ok (c.fact 100 rfl), (c.fact 101 rfl), He.eqO_ok (c.fact 102 rfl), of_decide_eq_true (c.fact 103 rfl)⟩, nf_Book := (c.fact 104 rfl), ty_Book := ⟨He.eqO_ok (c.fact 105 rfl), He.eqO_ok (c.fact 106 rfl), of_decide_eq_true (c.fact 107 rfl), of_decide_eq_true (c.fact 108 rfl)⟩, kc_Book := (c.fact 109 rfl), no_Book_pieces := He.noat_ok (x := "Book") (f := "pieces") (c.fact 110 rfl), C_Machine := He.ga K "Machine", g_Machine := He.glo_ok X G (x := "Machine") (c.fact 111 rfl), cl_Machine := He.cls_ok (x := "Machine") (c.fact 112 rfl), M_Machine := He.mkr_ok (x := "Machine") (c.fact 113 rfl), eqc_Machine := ⟨He.eqO_ok (c.fact 114 rfl), (c.fact 115 rfl), He.eqO_ok (c.fact 116 rfl), of_decide_eq_true (c.fact 117 rfl)⟩, nf_Machine := (c.fact 118 rfl), ty_Machine := ⟨He.eqO_ok (c.fact 119 rfl), He.eqO_ok (c.fact 106 rfl), of_decide_eq_true (c.fact 107 rfl), of_decide_eq_true (c.fact 120 rfl)⟩, kc_Machine := (c.fact 121 rfl), no_Machine_lets := He.noat_ok (x := "Machine") (f := "lets") (c.fact 122 rfl), no_Machine_rows := He.noat_ok (x := "Machine") (f := "rows") (c.fact 123 rfl), no_Machine_signs := He.noat_ok (x := "Machine") (f := "signs") (c.fact 124 rfl), g_LETTERS := He.str_ok X G (x := "LETTERS") (c.fact 125 rfl), g_MOST_PIECES := He.int_ok X G (x := "MOST_PIECES") (c.fact 126 rfl), g_MOST_LONG := He.int_ok X G (x := "MOST_LONG") (c.fact 127 rfl), g_MOST_SIGNS := He.int_ok X G (x := "MOST_SIGNS") (c.fact 128 rfl), g_MOST_STANDINGS := He.int_ok X G (x := "MOST_STANDINGS") (c.fact 129 rfl), m_abs := He.free_ok X G (x := "abs") (c.fact 130 rfl), m_all := He.free_ok X G (x := "all") (c.fact 131 rfl), m_bool := He.free_ok X G (x := "bool") (c.fact 132 rfl), m_enumerate := He.free_ok X G (x := "enumerate") (c.fact 133 rfl), m_int := He.free_ok X G (x := "int") (c.fact 134 rfl), m_isinstance := He.free_ok X G (x := "isinstance") (c.fact 135 rfl), m_len := He.free_ok X G (x := "len") (c.fact 136 rfl), m_list := He.free_ok X G (x := "list") (c.fact 137 rfl), m_range := He.free_ok X G (x := "range") (c.fact 138 rfl), m_set := He.free_ok X G (x := "set") (c.fact 139 rfl), m_sorted := He.free_ok X G (x := "sorted") (c.fact 140 rfl), m_str := He.free_ok X G (x := "str") (c.fact 141 rfl), m_sum := He.free_ok X G (x := "sum") (c.fact 142 rfl), m_super := He.free_ok X G (x := "super") (c.fact 72 rfl), m_tuple := He.free_ok X G (x := "tuple") (c.fact 143 rfl) }, rfl, ⟨(c.fact 144 rfl), of_decide_eq_true (c.fact 145 rfl)⟩⟩


end K15
open PySem PySem.W PySem.Calls PyProof.Rows
theorem PySem.Challenge.cw_struckpieces_k15_whole_machines_judged_holds : PySem.Challenge.rw_struckpieces_k15_whole_machines_judged.Holds := by
  w_on; o_law
  refine HandSHeadRun.head_any (r := OpenLaw.row PySem.Challenge.rw_struckpieces_k15_whole_machines_judged) (q := view (OpenLaw.row PySem.Challenge.rw_struckpieces_k15_whole_machines_judged).prog [40]) (H := K15.hk) (ob := K15.ob) (M := 60000) (loose := K15.loose) (d := HandSHeadRun.topDef (OpenLaw.row PySem.Challenge.rw_struckpieces_k15_whole_machines_judged).prog 40) (kwd := []) K15.ob_eq
    (by kernel_rfl) (fun s => by kernel_rfl) K15.run (by kernel_rfl) (by kernel_rfl) (by kernel_rfl) (by rfl) (by first | assumption | decide +kernel) (by decide +kernel) ⟨rfl, rfl, rfl, rfl, rfl, by decide +kernel⟩ ?hw ?hc
  case hw => w_witness2
  case hc =>
    refine L2.walk_ofE (l := PySem.Challenge.rw_struckpieces_k15_whole_machines_judged) (n := 63) (k := 31) (x := "_law_script") (CX := L2.CX0) rfl (by decide) (by kernel_rfl) ⟨rfl, by decide, by decide⟩ ?F (fun _ _ _ _ z => z)
    intro w mg fa h Y G hmg0
    obtain ⟨K, KX, c⟩ := Y
    have hmg : mg ("law" : PySem.Str) = some (.ref fa) := by
      have e : (HandSHeadRun.topDef (OpenLaw.row PySem.Challenge.rw_struckpieces_k15_whole_machines_judged).prog 40).name = ("law" : PySem.Str) := by kernel_rfl
      rw [← e]
      exact hmg0
    obtain ⟨T, ea, X⟩ := K15.txt KX G c
    have e := hmg.symm.trans T.g_law
    cases e
    exact ⟨K, T.fd_law, K15.spLaw K, KX, fun s u => by obtain ⟨_, _, _, _, _, _, _, _, _, e2, _⟩ := T.F_law.ex; rw [e2]; exact .of_eq rfl, fun H a ns hl _ hS => ⟨a, ns, rfl, hS, hl, fun _ => rfl⟩, fun base _ _ => K15.ok_law T X⟩
