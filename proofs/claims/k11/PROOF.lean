import PyProof.Rows.All
import Wide.All
import OpenK.AllK
import Wide.FinOn
import PySem.Challenge.RW_struckpieces_k11_whole_endless_pairs_jud
import HandS.ForMost
import HandS.ForExc
import HandS.IsInst
import HandS.TupAny
import HandS.TupMul
import HandS.StrMore
import HandS.Style
import HandS.OwnEq
import HandS.Walk
import HandS.Evl
import HandS.Dict
import HandS.More
import HandS.ExcInit
import HandS.ExcIs
import HandS.Nested
import KE.KExcSuper
import KE.KExcIs
import HandS.ExcValue
import HandS.ExcField
import HandS.Zip
import PyProof.Rows.SetFrom
import PyProof.Rows.SortStr
import PyProof.Rows.SortShellAny
import PyProof.StrWalks
import HandS.Set
import HandS.Strs
import HandS.SetTxt0
import PyProof.TupleIter
import PyProof.ListStr
import PyProof.Draws
import KE.GoesMore
import HandS.Iter
import KE.KRevSl
import PyProof.InstEq
import HandS.ExcOwn
import HandS.Deep
import HandS.Replace
import HandS.Small
import PyProof.Rows.StrRev
import PyProof.Rows.StrLawsPart
import PyProof.StrLawsIn
import HandS.SortKw
import HandS.DictComp
import KE.DataMinMax
import PyProof.DictUpdate
import KE.KStateDown
import HandS.Head0
import HandS.Head1
import HandS.Head2
import HandS.HeadEnd
import HandS.HeadHook1
import HandS.HeadHook2
set_option Elab.async false
set_option linter.all false
set_option maxRecDepth 100000
set_option maxHeartbeats 4000000
/-! readings, step by step -/
namespace RD
open PySem PySem.Spec PyProof.Rows L2

/-! ### heaps -/
/-- all but x is as it was -/
def KB (x : Addr) (H H' : Hp) : Prop := ∀ b o, b ≠ x → H b = some o → H' b = some o
theorem at_same {H H' : Hp} {a : Addr} {o : HO} (s : Same H H') (h : H a = some o) : H' a = some o := s a o h
theorem at_kb {x a : Addr} {H H' : Hp} {o : HO} (s : KB x H H') (n : a ≠ x) (h : H a = some o) : H' a = some o := s a o n h
theorem Same.kb {x : Addr} {H H' : Hp} (s : Same H H') : KB x H H' := fun b o _ h => s b o h
theorem KB.refl {x : Addr} {H : Hp} : KB x H H := fun _ _ _ h => h
theorem KB.trans {x : Addr} {H H1 H2 : Hp} (a : KB x H H1) (b : KB x H1 H2) : KB x H H2 := fun c o n h => b c o n (a c o n h)
theorem KB.seq {x : Addr} {K : PySem.W.Frag} {H H' : Hp} {a : Addr} {xs : List V} (e : KB x H H') (n : a ≠ x) (h : SqL K H a xs) : SqL K H' a xs := by
  rcases h with (h | ⟨o, h⟩) | h
  · exact .inl (.inl (e _ _ n h))
  · exact .inl (.inr ⟨o, e _ _ n h⟩)
  · exact .inr h
theorem KB.tup {x : Addr} {K : PySem.W.Frag} {H H' : Hp} {a : Addr} {xs : List V} (e : KB x H H') (n : a ≠ x) (h : SqT K H a xs) : SqT K H' a xs := by
  rcases h with (h | ⟨o, h⟩) | h
  · exact .inl (.inl (e _ _ n h))
  · exact .inl (.inr ⟨o, e _ _ n h⟩)
  · exact .inr h
theorem Same.tup {K : PySem.W.Frag} {H H' : Hp} {a : Addr} {xs : List V} (e : Same H H') (h : SqT K H a xs) : SqT K H' a xs := by
  rcases h with (h | ⟨o, h⟩) | h
  · exact .inl (.inl (e _ _ h))
  · exact .inl (.inr ⟨o, e _ _ h⟩)
  · exact .inr h
theorem fr_of {H H' : Hp} {p : Addr} (n : H' p = none) (s : Same H H') : H p = none := Same.free s n
theorem sm_tr {H H1 H' : Hp} (h2 : Same H1 H') (h1 : Same H H1) : Same H H' := h1.trans h2
theorem kb_tr {x : Addr} {H H1 H' : Hp} (h2 : KB x H1 H') (h1 : KB x H H1) : KB x H H' := h1.trans h2
theorem kb_trs {x : Addr} {H H1 H' : Hp} (h2 : Same H1 H') (h1 : KB x H H1) : KB x H H' := h1.trans (Same.kb h2)
theorem same_new {H : Hp} {p : Addr} {o : HO} (h : H p = none) : Same H (upd H p o) := fun b x e => by
  rw [upd_ne (ne_of_none e h)]
  exact e
theorem kb_upd {H : Hp} {p : Addr} {o : HO} : KB p H (upd H p o) := fun b x n e => by
  rw [upd_ne n]
  exact e
theorem same_mut {H H' : Hp} {p : Addr} (k : KB p H H') {H0 : Hp} (s : Same H0 H) (n : H0 p = none) : Same H0 H' := fun b o e => k b o (ne_of_none e n) (s b o e)
theorem free_back {H H' : Hp} {p : Addr} (s : Same H H') (n : H' p = none) : H p = none := Same.free s n
theorem ne_no {H : Hp} {a b : Addr} {o : HO} (h' : H b = none) (h : H a = some o) : a ≠ b := ne_of_none h h'
theorem ne_no' {H : Hp} {a b : Addr} {o : HO} (h' : H b = none) (h : H a = some o) : b ≠ a := (ne_of_none h h').symm
theorem sz (n : Nat) (h : Nat.ble n 16777216 = true := by rfl) : n ≤ sizeLine := by rw [sizeLine_eq]; exact Nat.le_of_ble_eq_true h
theorem szo {n : Nat} (h : n ≤ 16777216) : n ≤ sizeLine := by rw [sizeLine_eq]; exact h
theorem szl {n : Nat} (h : n < 16777216) : n < sizeLine := by rw [sizeLine_eq]; exact h

/-- a new object is laid -/
def NewO (H : Hp) (o : HO) (Q : VK) : Prop := ∀ p, H p = none → Q (.ref p) (upd H p o)
/-! ### expressions -/
section
variable {K : PySem.W.Frag} {σ : L2.St} {H : Hp} {Q : VK} {QB : Bool → Hp → Prop} {QL : List V → Hp → Prop} {QO : Option Int → Hp → Prop} {ta tb te : TE} {tx ty : TA} {t u : TT} {r : R2} {v x y : V} {i j : Int} {tl th : TO}
theorem op (h : ta σ H fun x H1 => tb σ H1 fun y H2 => r x y H2 Q) : tOp r ta tb σ H Q := h
theorem un {r : V → Hp → VK → Prop} (h : ta σ H fun x H1 => r x H1 Q) : tUn r ta σ H Q := h
theorem var {i : Nat} (e : σ[i]? = some (some v)) (h : Q v H) : tVar i σ H Q := ⟨v, e, h⟩
theorem c (h : Q v H) : tC v σ H Q := h
theorem nil (h : QL [] H) : tNil σ H QL := h
theorem cons (h : ta σ H fun x H1 => tx σ H1 fun xs H2 => QL (x :: xs) H2) : tCons ta tx σ H QL := h
theorem cb {r : List V → Hp → VK → Prop} (h : tx σ H fun vs H1 => r vs H1 Q) : tCB r tx σ H Q := h
theorem call {sp : Sp} {dvs : List V} {E : XK} (h : tx σ H fun vs H1 => sp (vs ++ dvs) H1 Q E) : tCall sp dvs E tx σ H Q := h
theorem test (h : te σ H fun x H' => ∃ k, x = .bl k ∧ QB k H') : tTest te σ H QB := h
theorem tb' (h : te σ H fun x H' => ∃ k, x = .bl k ∧ QB k H') : tB te σ H QB := h
theorem bl {b : Bool} {R : Bool → Prop} (h : R b) : ∃ k, V.bl b = .bl k ∧ R k := ⟨b, rfl, h⟩
theorem and' (h : t σ H fun c H1 => if c = true then u σ H1 QB else QB false H1) : tAnd t u σ H QB := h
theorem or' (h : t σ H fun c H1 => if c = true then QB true H1 else u σ H1 QB) : tOr t u σ H QB := h
theorem not' (h : t σ H fun c H1 => QB (!c) H1) : tNot t σ H QB := h
theorem andV (h : ta σ H fun x H1 => ∃ c, x = .bl c ∧ if c = true then tb σ H1 Q else Q (.bl false) H1) : tAndV ta tb σ H Q := h
theorem orV (h : ta σ H fun x H1 => ∃ c, x = .bl c ∧ if c = true then Q (.bl true) H1 else tb σ H1 Q) : tOrV ta tb σ H Q := h
theorem notV (h : ta σ H fun x H1 => ∃ c, x = .bl c ∧ Q (.bl (!c)) H1) : tNotV ta σ H Q := h
theorem bl2 {b : Bool} {A B : Prop} (h : if b = true then A else B) : ∃ c, V.bl b = .bl c ∧ if c = true then A else B := ⟨b, rfl, h⟩
theorem blA {b : Bool} {A : Hp → Prop} {B : Hp → Prop} (h : if b = true then A H else B H) : ∃ c, V.bl b = .bl c ∧ if c = true then A H else B H := ⟨b, rfl, h⟩
theorem blN {b : Bool} (h : Q (.bl (!b)) H) : ∃ c, V.bl b = .bl c ∧ Q (.bl (!c)) H := ⟨b, rfl, h⟩
theorem ife (h : t σ H fun c H1 => if c = true then ta σ H1 Q else tb σ H1 Q) : tIf t ta tb σ H Q := h
theorem sl {r : V → Option Int → Option Int → Hp → VK → Prop} (h : te σ H fun x H1 => tl σ H1 fun l H2 => th σ H2 fun u H3 => r x l u H3 Q) : tSl r te tl th σ H Q := h
theorem part (h : te σ H fun x H1 => ∃ i, x = .int i ∧ QO (some i) H1) : tPart te σ H QO := h
theorem noPart (h : QO none H) : tNoPart σ H QO := h
theorem partI {R : Int → Prop} (h : R i) : ∃ j, V.int i = .int j ∧ R j := ⟨i, rfl, h⟩
theorem rd0 {g : Int → Int → V} (h : Q (g i j) H) : rI0 g (.int i) (.int j) H Q := ⟨i, j, rfl, rfl, h⟩
theorem rdI {C : Int → Int → Prop} {g : Int → Int → V} (hc : C i j) (h : Q (g i j) H) : rI C g (.int i) (.int j) H Q := ⟨i, j, rfl, rfl, hc, h⟩
theorem rdU {g : Int → V} (h : Q (g i) H) : rU g (.int i) H Q := ⟨i, rfl, h⟩
theorem rdEq (hs : scal x y = true) (h : Q (.bl (decide (x = y))) H) : rEq x y H Q := ⟨hs, h⟩
theorem rdNe (hs : scal x y = true) (h : Q (.bl (!decide (x = y))) H) : rNe x y H Q := ⟨hs, h⟩
theorem ixL {p : Addr} {xs : List V} (hx : SqL K H p xs) (ha : atI xs i = some v) (h : Q v H) : rIxL K (.ref p) (.int i) H Q := ⟨p, xs, i, v, rfl, rfl, hx, ha, h⟩
theorem ixT {p : Addr} {xs : List V} (hx : SqT K H p xs) (ha : atI xs i = some v) (h : Q v H) : rIxT K (.ref p) (.int i) H Q := ⟨p, xs, i, v, rfl, rfl, hx, ha, h⟩
theorem ixS {z : Str} {c : Nat} (hl : z.length ≤ sizeLine) (ha : atI z.cps.toList i = some c) (h : Q (.str ⟨#[c]⟩) H) : rIxS (.str z) (.int i) H Q := ⟨z, i, c, rfl, rfl, hl, ha, h⟩
theorem tup (h : tx σ H fun xs H1 => xs.length ≤ sizeLine ∧ NewO H1 (.tup xs) Q) : tTup tx σ H Q := h
theorem lst (h : tx σ H fun xs H1 => xs.length ≤ sizeLine ∧ NewO H1 (.lst xs) Q) : tLst tx σ H Q := h
theorem slL {a : Addr} {xs : List V} {lo hi : Option Int} (hx : SqL K H a xs) (h : ∀ p H2, H p = none → Same H H2 → H2 p = some (.lst (cutV xs lo hi)) → Q (.ref p) H2) : rSlL K (.ref a) lo hi H Q := ⟨a, xs, rfl, hx, fun p hp => h p _ hp (same_new hp) upd_same⟩
/-- a new object: the heap from then on is any that holds it and all else -/
theorem new {o : HO} {R : Addr → Hp → Prop} (h : ∀ p H2, H p = none → Same H H2 → H2 p = some o → R p H2) : ∀ p, H p = none → R p (upd H p o) := fun p hp => h p _ hp (same_new hp) upd_same
theorem newZ {n : Nat} {o : HO} (z : n ≤ sizeLine) (h : ∀ p H2, H p = none → Same H H2 → H2 p = some o → Q (.ref p) H2) : n ≤ sizeLine ∧ NewO H o Q := ⟨z, fun p hp => h p _ hp (same_new hp) upd_same⟩
theorem newO {o : HO} (h : ∀ p H2, H p = none → Same H H2 → H2 p = some o → Q (.ref p) H2) : NewO H o Q := fun p hp => h p _ hp (same_new hp) upd_same
theorem mutn {a : Addr} {o : HO} {R : Hp → Prop} (h : ∀ H2, KB a H H2 → H2 a = some o → R H2) : R (upd H a o) := h _ kb_upd upd_same
theorem len {p : Addr} {ys : List V} {R : Addr → List V → Prop} (hx : SqL K H p ys ∨ SqT K H p ys) (h : R p ys) : (∃ q zs, [V.ref p] = [.ref q] ∧ (SqL K H q zs ∨ SqT K H q zs) ∧ R q zs) := ⟨p, ys, rfl, hx, h⟩
theorem lenS {z : Str} {R : Str → Prop} (hl : z.length ≤ sizeLine) (h : R z) : (∃ w : Str, [V.str z] = [.str w] ∧ w.length ≤ sizeLine ∧ R w) := ⟨z, rfl, hl, h⟩
theorem int1 {R : Int → Prop} {S : Bool → Prop} (h : R i) : (∃ k, [V.int i] = [.int k] ∧ R k) ∨ ∃ k, [V.int i] = [.bl k] ∧ S k := .inl ⟨i, rfl, h⟩
theorem int1b {b : Bool} {R : Int → Prop} {S : Bool → Prop} (h : S b) : (∃ k, [V.bl b] = [.int k] ∧ R k) ∨ ∃ k, [V.bl b] = [.bl k] ∧ S k := .inr ⟨b, rfl, h⟩
theorem abs1 {R : Int → Prop} (h : R i) : (∃ k, [V.int i] = [.int k] ∧ R k) := ⟨i, rfl, h⟩
theorem all1 {a : Addr} {bs : List Bool} (hx : SqL K H a (bs.map V.bl)) (h : Q (.bl (bs.all id)) H) : rAll K [.ref a] H Q := ⟨a, bs, rfl, hx, h⟩
theorem any1 {a : Addr} {bs : List Bool} (hx : SqL K H a (bs.map V.bl)) (h : Q (.bl (bs.any id)) H) : rAny K [.ref a] H Q := ⟨a, bs, rfl, hx, h⟩
theorem isi {x c : V} {t u : Value} {b : Bool} (hc : ClsV c u) (hx : TyX K H x t) (e : PySem.W.kitOne K t u = some b) (h : Q (.bl b) H) : rIsi K [x, c] H Q := ⟨x, c, t, u, b, rfl, hc, hx, e, h⟩
theorem isiT {x : V} {tp : Addr} {cs : List V} {t : Value} {us : List Value} {b : Bool} (ht : H tp = some (.tup cs)) (hc : Paired ClsV cs us) (hx : TyX K H x t) (e : PySem.W.kitAny K t us = some b) (h : Q (.bl b) H) : rIsiT K [x, .ref tp] H Q := ⟨x, tp, cs, t, us, b, rfl, ht, hc, hx, e, h⟩
theorem cat {l b : Addr} {xs zs : List V} (h1 : H l = some (.lst xs)) (h2 : H b = some (.lst zs)) (hz : xs.length + zs.length ≤ sizeLine) (h : ∀ p H2, H p = none → Same H H2 → H2 p = some (.lst (xs ++ zs)) → Q (.ref p) H2) : rCat (.ref l) (.ref b) H Q := ⟨l, b, xs, zs, rfl, rfl, h1, h2, hz, fun p hp => h p _ hp (same_new hp) upd_same⟩
theorem eqD {d e : PyData} (h1 : Dp K H x d) (h2 : Dp K H y e) (s1 : SeqAt.shaped d = true) (s2 : SeqAt.shaped e = true) (h : Q (.bl (PyData.eqv d e)) H) : rEqD K x y H Q := ⟨d, e, h1, h2, s1, s2, h⟩
theorem neD {d e : PyData} (h1 : Dp K H x d) (h2 : Dp K H y e) (s1 : SeqAt.shaped d = true) (s2 : SeqAt.shaped e = true) (h : Q (.bl (!PyData.eqv d e)) H) : rNeD K x y H Q := ⟨d, e, h1, h2, s1, s2, h⟩
theorem ite1 {A B : Prop} (h : A) : if true = true then A else B := iteT h
theorem ite0 {A B : Prop} (h : B) : if false = true then A else B := iteF h
theorem ite1n {A B : Prop} (h : B) : if (!true) = true then A else B := iteF h
theorem ite0n {A B : Prop} (h : A) : if (!false) = true then A else B := iteT h
theorem ite_b {b : Bool} {A B : Prop} (h1 : b = true → A) (h2 : b = false → B) : if b = true then A else B := by
  cases b with
  | true => exact iteT (h1 rfl)
  | false => exact iteF (h2 rfl)
theorem ite_d {p : Prop} [Decidable p] {A B : Prop} (h1 : p → A) (h2 : ¬ p → B) : if decide p = true then A else B := ite_b (fun e => h1 (of_decide_eq_true e)) (fun e => h2 (of_decide_eq_false e))
theorem ite_nd {p : Prop} [Decidable p] {A B : Prop} (h1 : ¬ p → A) (h2 : p → B) : if (!decide p) = true then A else B := ite_b (fun e => h1 (of_decide_eq_false (by simpa using e))) (fun e => h2 (of_decide_eq_true (by simpa using e)))
end

/-! ### statements -/
section
variable {K : PySem.W.Frag} {σ : L2.St} {H : Hp} {D : Ends} {te ta : TE} {ts t u : TS} {tt : TT} {g : TG} {tx : TA} {v : V} {i : Nat} {QS : L2.St → Hp → Prop}
theorem seq (h : t { D with nx := u D } σ H) : tSeq t u D σ H := h
theorem asg (h : te σ H fun x H1 => g x σ H1 D.nx) : tAsg te g D σ H := h
theorem name (h : QS (σ.set i (some v)) H) : gName i v σ H QS := h
theorem ret (h : te σ H D.rt) : tRet te D σ H := h
theorem drop (h : te σ H fun _ H1 => D.nx σ H1) : tDrop te D σ H := h
theorem next (h : D.nx σ H) : tNext D σ H := h
theorem ifs (h : tt σ H fun b H1 => if b = true then t D σ H1 else u D σ H1) : tIfS tt t u D σ H := h
theorem par {j : Nat} (h : tx σ H fun vs H1 => ∃ v w, vs = [v, w] ∧ D.nx ((σ.set i (some v)).set j (some w)) H1) : tPar i j tx D σ H := h
theorem par2 {x y : V} {R : V → V → Prop} (h : R x y) : ∃ v w, [x, y] = [v, w] ∧ R v w := ⟨x, y, rfl, h⟩
theorem sub {to ti : TE} {s : TSet} (h : to σ H fun o H1 => ti σ H1 fun i H2 => s o i v H2 fun H3 => QS σ H3) : gSub to ti s v σ H QS := h
theorem setL {p : Addr} {xs : List V} {k : Int} {j : Nat} {R : Hp → Prop} (hx : H p = some (.lst xs)) (hi : ixN xs.length k = some j) (h : ∀ H2, KB p H H2 → H2 p = some (.lst (xs.set j v)) → R H2) : rSetL (.ref p) (.int k) v H R := ⟨p, xs, k, j, rfl, rfl, hx, hi, mutn h⟩
theorem gtup {n : Nat} {tg : TGs} {a : Addr} {xs : List V} (hx : SqT K H a xs) (hn : xs.length = n) (h : tg xs σ H QS) : gTup K n tg (.ref a) σ H QS := ⟨a, xs, rfl, hx, hn, h⟩
theorem gcons {tg : TG} {tgs : TGs} {vs : List V} (h : tg v σ H fun σ' H' => tgs vs σ' H' QS) : gCons tg tgs (v :: vs) σ H QS := ⟨v, vs, rfl, h⟩
theorem gnil (h : QS σ H) : gNil [] σ H QS := ⟨rfl, h⟩
theorem bm {T : String} {r : V → List V → Hp → VK → Prop} {Q : VK} (h : ta σ H fun x H1 => tyV K T x H1 ∧ tx σ H1 fun xs H2 => r x xs H2 Q) : tBM K T r ta tx σ H Q := h
theorem bmL {p : Addr} {xs : List V} {R : Prop} (hx : SqL K H p xs) (h : R) : tyV K "list" (.ref p) H ∧ R := ⟨.inl ⟨rfl, _, hx⟩, h⟩
theorem app {l : Addr} {xs : List V} {y : V} {Q : VK} (hx : H l = some (.lst xs)) (hz : xs.length < sizeLine) (h : ∀ H2, KB l H H2 → H2 l = some (.lst (xs ++ [y])) → Q .non H2) : rAppend (.ref l) [y] H Q := ⟨l, xs, y, rfl, rfl, hx, hz, mutn h⟩
end
end RD
namespace RD
open PySem PySem.Spec PyProof.Rows L2
theorem at_lt {α : Type} {xs : List α} {i : Int} (h0 : 0 ≤ i) (h1 : i < (xs.length : Int)) : ∃ v, atI xs i = some v ∧ xs[i.toNat]? = some v := by
  have h : i.toNat < xs.length := by omega
  obtain ⟨v, hv⟩ : ∃ v, xs[i.toNat]? = some v := ⟨_, List.getElem?_eq_getElem h⟩
  have z : atI xs ((i.toNat : Nat) : Int) = some v := atI_nat hv
  rw [show ((i.toNat : Nat) : Int) = i by omega] at z
  exact ⟨v, z, hv⟩
theorem at_map {ns : List Int} {i : Int} (h0 : 0 ≤ i) (h1 : i < ((ns.map V.int).length : Int)) : ∃ n, atI (ns.map V.int) i = some (.int n) ∧ ns[i.toNat]? = some n := by
  obtain ⟨v, e1, e2⟩ := at_lt h0 h1
  rw [List.getElem?_map] at e2
  cases h : ns[i.toNat]? with
  | none => rw [h] at e2; cases e2
  | some n => rw [h] at e2; cases e2; exact ⟨n, e1, rfl⟩
/-! ### loops and comprehensions -/
def ForG (J : It) (g : TG) (tb : TS) (D : Ends) (σ : L2.St) (H1 : Hp) : Prop := ∃ W : Nat → Nat → L2.St → Hp → Prop, (∃ m, W 0 m σ H1) ∧ ∀ i m σ H, W i m σ H →
  (J.stop i H ∧ D.nx σ H) ∨ (J.go i H ∧ ∃ N : L2.St → Hp → Prop, (∀ σ' H', N σ' H' → ∃ m', m' < m ∧ W (i + 1) m' σ' H') ∧ ∀ x H', J.yld i H x H' → g x σ H' fun σ2 H2 => tb { D with nx := N, ct := N, bk := D.nx } σ2 H2)
def LcG (J : It) (g : TG) (tt : TT) (te : TE) (vs : List Nat) (σ : L2.St) (H1 : Hp) (Q : VK) : Prop := ∀ D, H1 D = none → ∃ W : Nat → Nat → Hp → Prop, (∃ m, W 0 m (upd H1 D (.lst []))) ∧ ∀ i m H, W i m H →
  (J.stop i H ∧ Q (.ref D) H) ∨ (J.go i H ∧ ∃ Nx : Hp → Prop, (∀ H', Nx H' → ∃ m', m' < m ∧ W (i + 1) m' H') ∧ ∀ x H', J.yld i H x H' → g x (wipe σ vs) H' fun σ2 H2 => wipe σ2 vs = wipe σ vs ∧ tt σ2 H2 fun b H3 =>
    if b = true then te σ2 H3 fun y H4 => ∃ acc, H4 D = some (.lst acc) ∧ acc.length < sizeLine ∧ Nx (upd H4 D (.lst (acc ++ [y]))) else Nx H3)
section
variable {K : PySem.W.Frag} {J : It} {n : Nat} {G : Hp → Prop} {Y : Nat → Hp → V → Hp → Prop} {g : TG} {tt : TT} {te : TE} {tb : TS} {D : Ends} {vs : List Nat} {σ : L2.St} {H1 H : Hp} {Q : VK} {wi : TI} {tx : TA} {R : It → Hp → Prop}
theorem fors (h : wi σ H fun J H1 => ForG J g tb D σ H1) : tFor wi g tb D σ H := h
theorem lc (h : wi σ H fun J H1 => LcG J g tt te vs σ H1 Q) : tLc wi g tt te vs σ H Q := h
theorem yes {QB : Bool → Hp → Prop} (h : QB true H) : tYes σ H QB := h
theorem ilist (h : te σ H fun x H1 => ∃ a, x = .ref a ∧ (∃ xs, SqL K H1 a xs) ∧ R (Itl K a) H1) : iList K te σ H R := h
theorem ilistV {a : Addr} {xs : List V} {S : Addr → Prop} (hx : SqL K H a xs) (h : S a) : ∃ b, V.ref a = .ref b ∧ (∃ xs, SqL K H b xs) ∧ S b := ⟨a, rfl, ⟨xs, hx⟩, h⟩
theorem itup (h : te σ H fun x H1 => ∃ a, x = .ref a ∧ (∃ xs, SqT K H1 a xs) ∧ R (Itt K a) H1) : iTup K te σ H R := h
theorem itupV {a : Addr} {xs : List V} {S : Addr → Prop} (hx : SqT K H a xs) (h : S a) : ∃ b, V.ref a = .ref b ∧ (∃ xs, SqT K H b xs) ∧ S b := ⟨a, rfl, ⟨xs, hx⟩, h⟩
theorem irng1 (h : tx σ H fun vs H1 => ∃ j : Int, vs = [.int j] ∧ -(2 ^ 62) ≤ j ∧ j < 2 ^ 62 ∧ R (Itr 0 j.toNat) H1) : iRng1 tx σ H R := h
theorem irng1V {j : Int} {S : Int → Prop} (h1 : -(2 ^ 62) ≤ j) (h2 : j < 2 ^ 62) (h : S j) : ∃ k : Int, [V.int j] = [.int k] ∧ -(2 ^ 62) ≤ k ∧ k < 2 ^ 62 ∧ S k := ⟨j, rfl, h1, h2, h⟩
theorem irng2 (h : tx σ H fun vs H1 => ∃ i j : Int, vs = [.int i, .int j] ∧ (-(2 ^ 62) ≤ i ∧ i < 2 ^ 62 ∧ -(2 ^ 62) ≤ j ∧ j < 2 ^ 62) ∧ R (Itr i (j - i).toNat) H1) : iRng2 tx σ H R := h
theorem irng2V {i j : Int} {S : Int → Int → Prop} (h1 : -(2 ^ 62) ≤ i ∧ i < 2 ^ 62 ∧ -(2 ^ 62) ≤ j ∧ j < 2 ^ 62) (h : S i j) : ∃ a b : Int, [V.int i, V.int j] = [.int a, .int b] ∧ (-(2 ^ 62) ≤ a ∧ a < 2 ^ 62 ∧ -(2 ^ 62) ≤ b ∧ b < 2 ^ 62) ∧ S a b := ⟨i, j, rfl, h1, h⟩
theorem ienum (h : tx σ H fun vs H1 => ∃ a xs, vs = [.ref a] ∧ SqL K H1 a xs ∧ R (Ite K a) H1) : iEnum K tx σ H R := h
theorem ienumV {a : Addr} {xs : List V} {S : Addr → Prop} (hx : SqL K H a xs) (h : S a) : ∃ b ys, [V.ref a] = [.ref b] ∧ SqL K H b ys ∧ S b := ⟨a, xs, rfl, hx, h⟩
theorem izip (h : tx σ H fun vs H1 => ∃ a b xs ys, vs = [.ref a, .ref b] ∧ SqL K H1 a xs ∧ SqL K H1 b ys ∧ R (Itz K a b) H1) : iZip K tx σ H R := h
theorem izipV {a b : Addr} {xs ys : List V} {S : Addr → Addr → Prop} (hx : SqL K H a xs) (hy : SqL K H b ys) (h : S a b) : ∃ c d xs ys, [V.ref a, V.ref b] = [.ref c, .ref d] ∧ SqL K H c xs ∧ SqL K H d ys ∧ S c d := ⟨a, b, xs, ys, rfl, hx, hy, h⟩
theorem istr (h : te σ H fun v H1 => ∃ x, v = .str x ∧ R (Its x) H1) : iStr te σ H R := h
theorem istrV {z : Str} {S : Str → Prop} (h : S z) : ∃ x, V.str z = .str x ∧ S x := ⟨z, rfl, h⟩
theorem forW (w : Walk J n G Y) (Pv : Nat → L2.St → Hp → Prop) (h0 : Pv 0 σ H) (hG : ∀ i σ H, i ≤ n → Pv i σ H → G H)
    (hs : ∀ i x σ H H', i < n → Pv i σ H → Y i H x H' → g x σ H' fun σ2 H2 => tb { D with nx := Pv (i + 1), ct := Pv (i + 1), bk := D.nx } σ2 H2) (hd : ∀ σ H, Pv n σ H → D.nx σ H) : ForG J g tb D σ H := for_it w Pv h0 hG hs hd
theorem lcW (w : Walk J n G Y) (hn : n ≤ 16777216)
    (h : ∀ D H2, H1 D = none → Same H1 H2 → H2 D = some (.lst []) → ∃ Pv : Nat → List V → Hp → Prop, Pv 0 [] H2 ∧ (∀ i acc H, i ≤ n → Pv i acc H → G H) ∧
      (∀ i x acc H H' (Z : VK) (N : Hp → Prop), i < n → Pv i acc H → H D = some (.lst acc) → Y i H x H' →
        (∀ y H4, H4 D = some (.lst acc) → (∀ H5, KB D H4 H5 → H5 D = some (.lst (acc ++ [y])) → Pv (i + 1) (acc ++ [y]) H5) → Z y H4) → (∀ H4, H4 D = some (.lst acc) → Pv (i + 1) acc H4 → N H4) →
        g x (wipe σ vs) H' fun σ2 H2 => wipe σ2 vs = wipe σ vs ∧ tt σ2 H2 fun b H3 => if b = true then te σ2 H3 Z else N H3) ∧
      (∀ acc H, Pv n acc H → H D = some (.lst acc) → Q (.ref D) H)) : LcG J g tt te vs σ H1 Q := by
  intro D hD
  obtain ⟨Pv, p0, pG, ps, pd⟩ := h D (upd H1 D (.lst [])) hD (same_new hD) upd_same
  refine lc_it w (fun i H => ∃ acc, acc.length ≤ i ∧ H D = some (.lst acc) ∧ Pv i acc H) ⟨[], Nat.le_refl _, upd_same, p0⟩ (fun i H hi ⟨acc, _, _, p⟩ => pG i acc H hi p) (fun i x H H' hi ⟨acc, hl, hD', p⟩ hy => ?_) (fun H ⟨acc, _, hD', p⟩ => pd acc H p hD')
  refine ps i x acc H H' _ _ hi p hD' hy (fun y H4 h4 h5 => ⟨acc, h4, by rw [sizeLine_eq]; omega, acc ++ [y], by rw [List.length_append]; simp; omega, upd_same, h5 _ kb_upd upd_same⟩) (fun H4 h4 h5 => ⟨acc, by omega, h4, h5⟩)
/-- pairs laid anew, the heap told by what it holds -/
def YP (xs ys : Nat → Option V) : Nat → Hp → V → Hp → Prop := fun i H v H' => ∃ T x y, v = .ref T ∧ H T = none ∧ Same H H' ∧ H' T = some (.tup [x, y]) ∧ xs i = some x ∧ ys i = some y
theorem yp {xs ys : Nat → Option V} {i : Nat} {H : Hp} {v : V} {H' : Hp} (h : YPair xs ys i H v H') : YP xs ys i H v H' := by
  obtain ⟨T, x, y, rfl, hT, rfl, h1, h2⟩ := h
  exact ⟨T, x, y, rfl, hT, same_new hT, upd_same, h1, h2⟩
theorem w_enum {a : Addr} {xs : List V} : Walk (Ite K a) xs.length (fun H => SqL K H a xs) (YP (fun i => some (.int (i : Nat))) (fun i => xs[i]?)) := walk_enum.mono (fun _ h => h) fun _ _ _ _ _ _ y => yp y
theorem w_zip {a b : Addr} {xs ys : List V} {n : Nat} (hn : n = min xs.length ys.length) : Walk (Itz K a b) n (fun H => SqL K H a xs ∧ SqL K H b ys) (YP (fun i => xs[i]?) (fun i => ys[i]?)) := (walk_zip hn).mono (fun _ h => h) fun _ _ _ _ _ _ y => yp y
/-- a comprehension that only makes: every item comes to what fs says (none: left out) -/
theorem lcF {fs0 : List V} (w : Walk J n G (YAt fs0)) (hn : n ≤ 16777216) (os : Nat → Option V) (hG : ∀ H', Same H1 H' → G H')
    (hs : ∀ i x H' (Z : VK) (N : Hp → Prop), i < n → fs0[i]? = some x → Same H1 H' → (∀ y H4, os i = some y → Same H' H4 → Z y H4) → (∀ H4, os i = none → Same H' H4 → N H4) →
        g x (wipe σ vs) H' fun σ2 H2 => wipe σ2 vs = wipe σ vs ∧ tt σ2 H2 fun b H3 => if b = true then te σ2 H3 Z else N H3)
    (hd : ∀ D H', H1 D = none → Same H1 H' → H' D = some (.lst ((List.range n).filterMap os)) → Q (.ref D) H') : LcG J g tt te vs σ H1 Q := by
  refine lcW w hn fun D H2 hD hs2 hv => ⟨fun i acc H => Same H1 H ∧ acc = (List.range i).filterMap os, ⟨hs2, rfl⟩, fun i acc H _ p => hG H p.1, fun i x acc H H' Z N hi p hDa hy hZ hN => ?_, fun acc H p hDa => hd D H hD p.1 (by rw [hDa, p.2])⟩
  obtain ⟨rfl, hx⟩ := hy
  refine hs i x H' Z N hi hx p.1 (fun y H4 e s4 => hZ y H4 (s4 _ _ hDa) fun H5 k5 h5 => ⟨?_, ?_⟩) (fun H4 e s4 => hN H4 (s4 _ _ hDa) ⟨p.1.trans s4, ?_⟩)
  · exact same_mut k5 (p.1.trans s4) hD
  · rw [List.range_succ, List.filterMap_append, ← p.2]
    simp [e]
  · rw [List.range_succ, List.filterMap_append, ← p.2]
    simp [e]
/-- the same over pairs laid anew -/
theorem lcP {fx fy : Nat → Option V} (w : Walk J n G (YP fx fy)) (hn : n ≤ 16777216) (os : Nat → Option V) (hG : ∀ H', Same H1 H' → G H')
    (hs : ∀ i T x y H' (Z : VK) (N : Hp → Prop), i < n → fx i = some x → fy i = some y → Same H1 H' → H' T = some (.tup [x, y]) → (∀ y H4, os i = some y → Same H' H4 → Z y H4) → (∀ H4, os i = none → Same H' H4 → N H4) →
        g (.ref T) (wipe σ vs) H' fun σ2 H2 => wipe σ2 vs = wipe σ vs ∧ tt σ2 H2 fun b H3 => if b = true then te σ2 H3 Z else N H3)
    (hd : ∀ D H', H1 D = none → Same H1 H' → H' D = some (.lst ((List.range n).filterMap os)) → Q (.ref D) H') : LcG J g tt te vs σ H1 Q := by
  refine lcW w hn fun D H2 hD hs2 hv => ⟨fun i acc H => Same H1 H ∧ acc = (List.range i).filterMap os, ⟨hs2, rfl⟩, fun i acc H _ p => hG H p.1, fun i x acc H H' Z N hi p hDa hy hZ hN => ?_, fun acc H p hDa => hd D H hD p.1 (by rw [hDa, p.2])⟩
  obtain ⟨T, x1, y1, rfl, hT, s3, h3, hx, hy⟩ := hy
  refine hs i T x1 y1 H' Z N hi hx hy (p.1.trans s3) h3 (fun y H4 e s4 => hZ y H4 (s4 _ _ (s3 _ _ hDa)) fun H5 k5 h5 => ⟨?_, ?_⟩) (fun H4 e s4 => hN H4 (s4 _ _ (s3 _ _ hDa)) ⟨(p.1.trans s3).trans s4, ?_⟩)
  · exact same_mut k5 ((p.1.trans s3).trans s4) hD
  · rw [List.range_succ, List.filterMap_append, ← p.2]
    simp [e]
  · rw [List.range_succ, List.filterMap_append, ← p.2]
    simp [e]
end
theorem range_get {α β : Type} (f : α → β) : ∀ l : List α, (List.range l.length).filterMap (fun i => (l[i]?).map f) = l.map f
  | [] => rfl
  | a :: l => by
    have ih := range_get f l
    rw [List.length_cons, List.range_succ_eq_map, List.filterMap_cons]
    simp only [List.getElem?_cons_zero, Option.map_some, List.filterMap_map, List.map_cons]
    rw [← ih]
    rfl
end RD

/-! an own exception whose __init__ is super().__init__(x); self.f = x -/
namespace SPX
open PySem PySem.Spec PyProof.Rows L2 NdefX PySem.W

section
variable {prog : Program} {w : World} {A : Around} {E : Value → Shared → Prop} {h : Heap} {g : Array GenState} {d : Drawn} {t : Nat} {os : OsState}
variable {nm q : Str} {C N : Addr} {bs bm : List Value} {hdct : Bool} {sn : List Str} {sub : List Value} {ab : Bool} {col : Option Bool} {dd : Option Addr} {k0 k1 k2 k3 k5 : Option Value}
/-- the bound ValueError.__init__ called -/
theorem call_mw {u e t0 : Addr} {rest : List Value} {Q : Value → Shared → Prop}
    (hC : h.get? C = some (excClassObj nm q C N bs bm hdct sn sub ab col dd k0 k1 k2 k3 k5 "ValueError.__new__")) (he : h.get? e = some (HandSPX.excO C t0)) (hu : h.get? u = some (kxs_mw "ValueError.__init__" e)) (hrest : rest.length ≤ sizeLine)
    (hq : ∀ h' t1, (∀ b o, b ≠ e → h.get? b = some o → h'.get? b = some o) → h'.get? e = some (HandSPX.excO C t1) → Q .none ⟨h', g, d, t, os⟩) :
    wpAny (model prog w) A (call (.ref u) rest) Q E ⟨h, g, d, t, os⟩ := by
  refine wpAny_call (codeAny_of_tree ?_)
  show wpAny _ A.in1 (callAny (.ref u) ⟨rest, []⟩) _ _ _
  simp only [callAny]
  refine wpAny_bind (wpAny_load hu ?_)
  simp only [kxs_mw, show (Value.type "method-wrapper" == Value.type "method" || Value.type "method-wrapper" == Value.type "builtin_function_or_method" || Value.type "method-wrapper" == Value.type "method-wrapper") = true by decide, if_true]
  refine W.KFB.if_so (by decide) ?_
  refine wpAny_bind (check_bound_init F.excBase_ValueError.toExcCallFacts hC he rfl ?_)
  refine wpAny_bind (wpAny_pure (wpAny_pure ?_))
  refine ⟨plainId_quiet F.excBase_ValueError.init.plain _, codeAny_builtin F.excBase_ValueError.initEntry ?_⟩
  rw [Around.under_plainId F.excBase_ValueError.init.plain _]
  wp_walk
  refine hq _ h.objs.size (fun b o hb ho => ?_) ?_
  · rw [Heap.get?_update_other _ _ (Ne.symm hb)]
    exact Heap.get?_push_of_some _ ho
  · rw [Heap.get?_update_self _ (Heap.get?_push_of_some _ he) rfl]
    rfl
end

/-- what is known of such a class and its __init__ -/
structure SiC (P : Program) (K : PySem.W.Frag) (mg : Str → Option Value) (st : Stmt) (qual fld prm : Str) (D f : Addr) (fd : FuncData) : Prop where
  oex : OexC K D
  sc : NScope ["self", prm, "__class__"] ["self", prm] ["__class__"] (defScope st)
  sup : (defScope st).names.lookup ("super" : Str) = some .globalImplicit
  body : ∃ p0 p1 p2 p3 p4 p5 p6 p7 p8 p9, defBody st = [.Expr (.Call (.Attribute (.Call (.Name "super" p0) [] [] p1) "__init__" p2) [.Name prm p3] [] p4) p5, .Assign [.Attribute (.Name "self" p6) fld p7] (.Name prm p8) p9] ∧
    ∃ pl : Sem Bool, ∀ (L f cda cc : Addr), eval (.Call (.Attribute (.Call (.Name "super" p0) [] [] p1) "__init__" p2) [.Name prm p3] [] p4) (PySem.W.envX qual (defScope st) L f (.ref cda) [("__class__", cc)]) = (do
      let ov ← attributeBase (.Call (.Name "super" p0) [] [] p1) "__init__" (PySem.W.envX qual (defScope st) L f (.ref cda) [("__class__", cc)]) (eval (.Call (.Name "super" p0) [] [] p1) (PySem.W.envX qual (defScope st) L f (.ref cda) [("__class__", cc)]))
      standAt p2.atName
      let (f', first) ← holding [ov] (getMethod ov "__init__" pl)
      callWith p4 f' first (backTo p4 (starEach [.Name prm p3] (PySem.W.envX qual (defScope st) L f (.ref cda) [("__class__", cc)]))) [])
  head : ((defArgs st).posonlyargs ++ (defArgs st).args).head?.map (·.arg) = some "self"
  fdI : ∃ oc od osl kV doc pm an cda cc ct ccl cdd vs ccs file tf cl cld csl, fd = PySem.W.fnX "__init__" qual (defArgs st) (defBody st) (defScope st) [("__class__", cc)] .none kV doc pm an (.ref cda) ct ∧
    K.lookup f = some ⟨oc, od, .func fd, osl⟩ ∧ PySem.W.codeIn K (.ref cda) qual = true ∧ K.lookup cda = some ⟨ccl, cdd, .fields vs, ccs⟩ ∧ vs[2]? = some (.str file tf) ∧ ((P.main.file : Str) == file) = true ∧
    K.lookup cc = some ⟨cl, cld, .cell (some (.ref D)), csl⟩
  cls : (PySem.W.clsIn K D).isSome = true
  sub : PySem.W.mroIn K D (.ref D) = some true
  subV : PySem.W.subIn K (.ref D) (.type "ValueError") = some true
  top : (P.main.scope.names.lookup ("super" : Str)).isSome = false
  opq : PySem.W.nsIn K cStatics "thirdparty.any" = some none
  sin : PySem.W.ks_superIn K D D "__init__" = some (some (.builtin "ValueError.__init__"))
  nos : mg "super" = none
  hno : PySem.W.findIn K (.ref D) fld = some none
  nd : (prm == ("__debug__" : Str)) = false
  nc : (prm == ("__classdict__" : Str)) = false

def spSi (D : Addr) (fld : Str) : Sp := fun vs H Q _ => ∃ (a : Addr) (v : V), vs = [.ref a, v] ∧ H a = some (exo a D none) ∧ ∀ d, H d = none → d ≠ a → Q .non (upd (upd H d (exd d [(fld, v)])) a (exo a D (some d)))

section
variable {P : Program} {w : World} {K : PySem.W.Frag} {mg : Str → Option Value} {base : Heap} {CX : CXT}
theorem si_ok {st : Stmt} {qual fld prm : Str} {D f : Addr} {fd : FuncData} {k : Nat} (T : SiC P K mg st qual fld prm D f fd) : FnOk P w K mg base CX (k + 1) f fd ["self", prm] (spSi D fld) := by
  refine ⟨fun vs H Q E h => by obtain ⟨a, v, rfl, _⟩ := h; rfl, fun A outer s H args us vs Q E hr e0 hb r hsp => ?_⟩
  obtain ⟨a, v, rfl, ha, q⟩ := hsp
  obtain ⟨p0, p1, p2, p3, p4, p5, p6, p7, p8, p9, hbody, pl, hev⟩ := T.body
  obtain ⟨oc, od, osl, kV, doc, pm, an, cda, cc, ct, ccl, cdd, cvs, ccs, file, tf, cl, cld, csl, rfl, lk, hcd, hcode, hvs, hfile, hcell⟩ := T.fdI
  have KX : K.In s.heap := e0.mod.kin.keeps fun b o e => (e0.bs b o e).1
  have lim : s.heap.NoLimit := e0.mod.nolimit.keeps fun b o e => (e0.bs b o e).1
  have hlen : (["self", prm] : List Str).length = us.length := by rw [← r.length]; rfl
  have S := T.sc
  refine ks_codeAny_call_defAt (fd := PySem.W.fnX "__init__" qual (defArgs st) (defBody st) (defScope st) [("__class__", cc)] .none kV doc pm an (.ref cda) ct) (body := defBody st) (binds := (["self", prm] : List Str).zip us) hr.depth (KX _ _ lk) rfl lim (PySem.W.codeRec_of KX hcd) rfl hb S.nocell (fun ⟨n, _⟩ hy => S.par n (List.of_mem_zip hy).1) (fun h₁ hns kp => ?_) S.co S.gen S.kind
  let F : NF := ⟨"__init__", qual, defArgs st, defBody st, defScope st, [("__class__", cc)], cda⟩
  show _root_.PySem.wpAt (model P w) (A.deeper (envF F f s.heap.objs.size)) (.func (defBody st) (envF F f s.heap.objs.size)) (execs (defBody st) (envF F f s.heap.objs.size)) _ _ _
  have hbc := e0.bs cc _ (e0.mod.kin _ _ hcell)
  have C : CellsAt F.cl ["__class__"] [some (.ref D)] s.heap H := by
    have look : ∀ y c, F.cl.lookup y = some c → c = cc := fun y c e => by
      have e' : List.lookup y [(("__class__" : Str), cc)] = some c := e
      simp only [List.lookup] at e'
      split at e' <;> simp at e' <;> exact e'.symm
    refine ⟨rfl, fun y c e => ?_, fun x y c e1 e2 => ?_, fun i y e => ?_⟩
    · rw [look y c e]
      exact ⟨hbc.2, _, _, hbc.1, rfl⟩
    · have key : ∀ z, List.lookup z [(("__class__" : Str), cc)] = some c → z = ("__class__" : Str) := fun z e' => by
        simp only [List.lookup] at e'
        split at e'
        · rename_i hz
          exact beq_iff_eq.mp hz
        · cases e'
      rw [key x e1, key y e2]
    · cases i with
      | zero =>
        simp at e
        subst e
        refine ⟨cc, by show List.lookup ("__class__" : Str) [(("__class__" : Str), cc)] = some cc; simp [List.lookup], fun v' hv' => ?_⟩
        simp at hv'
        subst hv'
        exact ⟨.ref D, rfl, _, hbc.1, rfl⟩
      | succ i => simp at e
  have I : Inv (ncx CX P w K mg base ["self", prm, "__class__"] F f A outer s H E) [] (startF ["self", prm, "__class__"] [.ref a, v] [some (.ref D)]) H { s with heap := h₁, toks := s.toks + ((["self", prm] : List Str).zip us).length } :=
    inv_startN S hr.hd e0 rfl r C hns kp
  generalize hs1 : ({ s with heap := h₁, toks := s.toks + ((["self", prm] : List Str).zip us).length } : Shared) = s1 at I ⊢
  have kloc : ∀ x ∈ (["self", prm] : List Str), (defScope st).names.lookup x = some .local := S.par
  have vis0 : Vis (ncx CX P w K mg base ["self", prm, "__class__"] F f A outer s H E).env.scope "self" := .inl (kloc "self" (by simp))
  have vis1 : Vis (ncx CX P w K mg base ["self", prm, "__class__"] F f A outer s H E).env.scope prm := .inl (kloc prm (by simp))
  have hσ : startF ["self", prm, "__class__"] [.ref a, v] [some (.ref D)] = [some (.ref a), some v, some (.ref D)] := rfl
  rw [hσ] at I
  have h0 : (ncx CX P w K mg base ["self", prm, "__class__"] F f A outer s H E).N[0]? = some ("self" : Str) := rfl
  have h1 : (ncx CX P w K mg base ["self", prm, "__class__"] F f A outer s H E).N[1]? = some prm := rfl
  obtain ⟨ar, har, hself⟩ : ∃ ar, ((defArgs st).posonlyargs ++ (defArgs st).args).head? = some ar ∧ ar.arg = ("self" : Str) := by
    have z := T.head
    cases e : ((defArgs st).posonlyargs ++ (defArgs st).args).head? with
    | none => rw [e] at z; cases z
    | some ar => rw [e] at z; exact ⟨ar, rfl, Option.some.inj z⟩
  obtain ⟨cdD, hclsD⟩ := Option.isSome_iff_exists.mp T.cls
  obtain ⟨nm, qn, Nn, bs, bm, sn, sub, ab, col, dd, k0, k1, k2, k3, k5, hC0, hbm⟩ := T.oex.cls
  have hkc : (envF F f s.heap.objs.size).kindOf "__class__" = some .free := S.frk "__class__" (by simp)
  have hcl1 : (envF F f s.heap.objs.size).cells.lookup ("__class__" : Str) = some cc := by show List.lookup ("__class__" : Str) [(("__class__" : Str), cc)] = some cc; simp [List.lookup]
  have I0 := I
  clear hs1
  obtain ⟨hh, g, dr, tk, os1⟩ := s1
  obtain ⟨oD, hD1, hD2⟩ : ∃ oD, hh.get? D = some oD ∧ oD.data = .cls cdD := by
    unfold PySem.W.clsIn at hclsD
    split at hclsD
    · rename_i c d cd' sl ho
      cases hclsD
      exact ⟨_, I.kIn _ _ ho, rfl⟩
    · cases hclsD
  rw [show execs (defBody st) (envF F f s.heap.objs.size) = execs [.Expr (.Call (.Attribute (.Call (.Name "super" p0) [] [] p1) "__init__" p2) [.Name prm p3] [] p4) p5, .Assign [.Attribute (.Name "self" p6) fld p7] (.Name prm p8) p9] (envF F f s.heap.objs.size) from by rw [hbody]]
  have hint : interactive (envF F f s.heap.objs.size) = false := by
    unfold interactive
    rw [show (envF F f s.heap.objs.size).scope.kind = .function from S.kind]
    rfl
  refine ks_wpAt_execs_cons (ks_wpAt_Expr_any (ks_wpAt_MethodCall (pl := pl) ?_ (hev _ _ _ _)) (hi := hint))
  refine ks_wpAt_super_base (fd := PySem.W.fnX "__init__" qual (defArgs st) (defBody st) (defScope st) [("__class__", cc)] .none kV doc pm an (.ref cda) ct) (ar := ar) T.sup hkc (by decide) rfl (I.kIn _ _ lk) rfl har rfl (I.kIn _ _ hcode) rfl hvs hfile T.top ?_
  obtain ⟨mb, hb1, hb2⟩ := I.mod.blt
  refine ks_loadName_global S.kind T.sup (Calls.loadGlobal_builtin (I.mod.glob.keeps I.bk) T.nos (hb1.keeps I.bk) ((hb2 "super" (by decide)).trans (by decide +kernel)) ⟨rfl, ?_⟩)
  refine wpAny_loadName_free S.kind hkc hcl1 ⟨_, I.kIn _ _ hcell, rfl⟩ ?_
  obtain ⟨m, hn, hl⟩ := I.loc
  obtain ⟨u0, ru0, lk0⟩ := hl 0 "self" (.ref a) h0 rfl vis0
  obtain rfl : u0 = Value.ref a := ru0
  have hm0 : m "self" = some (.ref a) := by
    rcases lk0 with ⟨_, e⟩ | ⟨kk, _⟩
    · exact e
    · have kk : (defScope st).names.lookup ("self" : Str) = some .cell ∨ (defScope st).names.lookup ("self" : Str) = some .free := kk
      rw [kloc "self" (by simp)] at kk
      rcases kk with kk | kk <;> cases kk
  rw [hself]
  refine wpAny_loadName_local S.kind (kloc "self" (by simp)) hn hm0 ?_
  refine ks_wpAny_isType_cls hD1 hD2 ⟨rfl, ?_⟩
  obtain ⟨t1, hx⟩ := exo_at I.hok ha
  refine ks_wpAny_call_super hD1 hD2 hx rfl (fun c e => nomatch e) (PySem.W.looks_mroIn I.kIn T.sub) (fun h' e k => ?_)
  have I2 : Inv (ncx CX P w K mg base ["self", prm, "__class__"] F f A outer s H E) [] [some (.ref a), some v, some (.ref D)] H ⟨h', g, dr, tk, os1⟩ := I.kept (h' := h') (t' := tk) k
  have hx2 : h'.get? a = some ({ cls := .ref D, dict := none, data := .fields #[.ref t1, .none, .none, .none, .bool false, .none] } : Obj) := k _ _ hx
  have IA : PySem.W.InstAt h' a ({ cls := .ref D, dict := none, data := .fields #[.ref t1, .none, .none, .none, .bool false, .none] } : Obj) D none := ⟨hx2, rfl, rfl, trivial⟩
  have hsin := T.sin
  unfold PySem.W.ks_superIn at hsin
  rw [hclsD] at hsin
  refine kxs_getMethod kxs_ValueError e (looks_opaque I2.kIn T.opq) (l₀ := cdD.mro) (fun A Q E s k q => wpAny_bind ((PySem.W.looks_clsIn I2.kIn hclsD) A _ E s k (wpAny_pure q))) rfl I2.kIn hsin (IA.type.andThen (PySem.W.looks_subIn I2.kIn T.subV)) (PySem.W.ks_ne I2.kIn IA hclsD) (by decide) ?_
  have kp3 : ∀ b u, h'.get? b = some u → (h'.push (kxs_mw "ValueError.__init__" a)).get? b = some u := fun b u z => Heap.get?_push_of_some _ z
  have I3 : Inv (ncx CX P w K mg base ["self", prm, "__class__"] F f A outer s H E) [] [some (.ref a), some v, some (.ref D)] H ⟨h'.push (kxs_mw "ValueError.__init__" a), g, dr, tk + 1, os1⟩ := I2.kept (h' := h'.push (kxs_mw "ValueError.__init__" a)) (t' := tk + 1) kp3
  have hu3 : (h'.push (kxs_mw "ValueError.__init__" a)).get? h'.objs.size = some (kxs_mw "ValueError.__init__" a) := Heap.get?_push_at rfl rfl
  have I3p : Inv (ncx CX P w K mg base ["self", prm, "__class__"] F f A outer s H E) [(h'.objs.size, kxs_mw "ValueError.__init__" a)] [some (.ref a), some v, some (.ref D)] H ⟨h'.push (kxs_mw "ValueError.__init__" a), g, dr, tk + 1, os1⟩ :=
    I3.pins_of fun p hp => by
      obtain rfl := List.mem_singleton.mp hp
      exact ⟨hu3, I2.hok.fresh (Nat.le_refl _), Nat.ne_of_gt I2.lt, I2.nofs (Nat.le_refl _), fun v z => nomatch z⟩
  show wpAny _ _ (callWith p4 (.ref h'.objs.size) [] (backTo p4 (starEach [.Name prm p3] (envF F f s.heap.objs.size))) []) _ _ _
  rw [show starEach [Expr.Name prm p3] (envF F f s.heap.objs.size) = (false, eval (.Name prm p3) (envF F f s.heap.objs.size)) :: starEach [] (envF F f s.heap.objs.size) from rfl]
  refine PySem.W.kxs_callWith (i := "ValueError.__init__") (x := a) rfl ?_
  refine Calls.evalArgs_plain ?_
  refine thn ((pa_cons (X := ncx CX P w K mg base ["self", prm, "__class__"] F f A outer s H E) (pe_var h1 vis1 T.nd T.nc) pa_nil).run p4 _ _ _ _ (fun vs H2 => vs = [v] ∧ H2 = H) I3p ⟨v, rfl, rfl, rfl⟩) fun us2 s2 hh2 => ?_
  obtain ⟨vs2, H2, I4, r4, rfl, rfl⟩ := hh2
  obtain ⟨hu4, _⟩ := I4.pin (h'.objs.size, kxs_mw "ValueError.__init__" a) (List.mem_append_right _ (List.mem_singleton.mpr rfl))
  refine ⟨hu4, ?_⟩
  obtain ⟨t4, hx4⟩ := exo_at I4.hok ha
  obtain ⟨hh4, g4, dr4, tk4, os4⟩ := s2
  have hl4 : us2.length ≤ sizeLine := by
    rw [← r4.length, sizeLine_eq]
    show 1 ≤ _
    omega
  refine call_mw (I4.kIn _ _ hC0) hx4 hu4 hl4 fun h5 t5 k5 hx5 => ?_
  have J := I4.write (t' := tk4) (x := a) (e := a) (o := exo a D none) (by rw [ha]; exact True.intro) (.inl rfl) k5 ⟨_, hx5⟩ (exo_ok hx5)
  have eu : upd H2 a (exo a D none) = H2 := by
    funext b
    by_cases hb : b = a
    · rw [hb, upd_same, ha]
    · rw [upd_ne hb]
  rw [eu] at J
  have J0 := J.pins_of (pins' := []) fun p hp => absurd hp (by simp)
  show _root_.PySem.wpAt _ _ _ (execs [.Assign [.Attribute (.Name "self" p6) fld p7] (.Name prm p8) p9] (envF F f s.heap.objs.size)) _ _ _
  refine _root_.PySem.wpAt_of_wpAny ?_
  refine wpAny_mono ((pss_one (ps_ost (X := ncx CX P w K mg base ["self", prm, "__class__"] F f A outer s H2 E) (f := fld) (pe_var h0 vis0) (pe_var h1 vis1 T.nd T.nc))).run [] _ _ _ { nx := fun _ H' => Q .non H', rt := Q } J0 ⟨v, rfl, .ref a, rfl, a, D, rfl, T.oex, T.hno, .inl ⟨ha, fun dx n ne => q dx n ne⟩⟩) (fun fl s' hs => ?_) fun e s' hs => hs
  cases fl with
  | ret u =>
    obtain ⟨v', σ', H', J', rv, q'⟩ := hs
    exact ⟨v', H', J'.os, J'.bare, J'.base, J'.hok, rv, q'⟩
  | next =>
    obtain ⟨σ', H', J', q'⟩ := hs
    exact ⟨V.non, H', J'.os, J'.bare, J'.base, J'.hok, rfl, q'⟩
  | brk =>
    obtain ⟨_, _, _, q'⟩ := hs
    exact False.elim q'
  | cont =>
    obtain ⟨_, _, _, q'⟩ := hs
    exact False.elim q'
end

/-! ### exceptions held as values -/
/-- isinstance(e, c), e an exception that the heap tracks -/
def rIsO (K : PySem.W.Frag) : List V → Hp → VK → Prop := fun xs H Q => ∃ (a D : Addr) (d : Option Addr) (c : V) (cv : Value) (b : Bool), xs = [.ref a, c] ∧ H a = some (exo a D d) ∧ (∀ dx, d = some dx → ∃ fs, H dx = some (exd dx fs)) ∧ ExcC K D ∧ ClsV c cv ∧ PySem.W.kitOne K (.ref D) cv = some b ∧ Q (.bl b) H
theorem call_isO {X : Cx} : CallR X (.builtin "isinstance") (rIsO X.K) := by
  intro pins s σ H xs us Q I r h
  obtain ⟨a, D, d, c, cv, b, rfl, ha, hd, C, hcv, e, q⟩ := h
  cases r with
  | cons rx rr =>
    cases rr with
    | cons rt rr =>
      cases rr
      cases rx
      have ec := hcv.eq rt
      subst ec
      obtain ⟨t1, ho⟩ := exo_at I.hok ha
      have hcl : (PySem.W.clsIn X.K D).isSome = true := by
        obtain ⟨cd, hc, _⟩ := PySem.W.any_some C.hd
        rw [hc]
        rfl
      cases d with
      | none =>
        have J : PySem.W.InstAt s.heap a ({ cls := .ref D, dict := none, data := .fields #[.ref t1, .none, .none, .none, .bool false, .none] } : Obj) D none := ⟨ho, rfl, rfl, trivial⟩
        exact PySem.W.kia_one (PySem.W.kitx_exc hcl C.hg C.hk C.hs C.ha C.hn C.ht C.hm) I.kIn J e (fun z => nomatch z) fun tk => ⟨.bl b, H, I.tok tk, rfl, q⟩
      | some dx =>
        obtain ⟨fs, hdx⟩ := hd dx rfl
        obtain ⟨mA, hns, rel⟩ := exd_at I.hok hdx
        obtain ⟨oD, _, _, hoD, _⟩ := hns
        have J : PySem.W.InstAt s.heap a ({ cls := .ref D, dict := some dx, data := .fields #[.ref t1, .none, .none, .none, .bool false, .none] } : Obj) D (some oD) := ⟨ho, rfl, rfl, hoD⟩
        exact PySem.W.kia_one (PySem.W.kitx_exc hcl C.hg C.hk C.hs C.ha C.hn C.ht C.hm) I.kIn J e (fun z => nomatch z) fun tk => ⟨.bl b, H, I.tok tk, rfl, q⟩
/-- X(), an own exception class without own __init__ -/
def tExo0 (C : Addr) : TE := fun _ H Q => ∀ a, H a = none → Q (.ref a) (upd H a (exo a C none))
section
variable {X : Cx} {CX : CXT} {C f : Addr} {x n : Str} {e : Expr} {es : List Expr} {te : TE} {ta : TA} {p pos : Pos} {sp : Sp} {dvs : List V} {ds : List Value} {k : Nat} {fd : FuncData} {ps : List Str}
theorem pe_exo0 (q : PySem.W.excIn X.K C [.type "ValueError", .type "Exception", .type "BaseException", .type "object"] "ValueError.__new__" = true) (gC : X.mg x = some (.ref C)) (kC : PySem.W.keepIn X.K (.ref C) = true) (hg : Gl X x) (hdb : (x == ("__debug__" : Str)) = false := by decide) :
    PE X (.Call (.Name x p) [] [] pos) (tExo0 C) := by
  refine ⟨fun pins s σ H Q I h => ?_⟩
  refine wpAny_Call_Name_kw (ld_glob I hg gC ?_ hdb)
  refine PySem.W.callWith_K0 I.kIn kC ?_
  obtain ⟨bm, N, nm, qn, bs, hdct, sn, sub, ab, col, dd, k0, k1, k2, k3, k5, mN, hC, hN, hni, T⟩ := exc_obj I.kIn q
  show wpAny _ _ (call (.ref C) []) _ _ _
  refine wpAny_call_exc_subT F.excBase_ValueError T hC hN hni (fun h' a hm => ?_) (by show 0 ≤ sizeLine; exact Nat.zero_le _)
  have hn : H a = none := I.hok.gone hm.new
  obtain ⟨t, ht, _, _⟩ := hm.there
  exact ⟨.ref a, upd H a (exo a C none), I.laidN hm.keeps hm.new hn (exo_ok ht), rfl, h a hn⟩
/-- X(e, ..), its own __init__ keeping sp, as a value -/
def tMkV (C : Addr) (sp : Sp) (dvs : List V) (ta : TA) : TE := fun σ H Q => ta σ H fun vs H1 => vs.length ≤ 1000 ∧ ∀ a, H1 a = none → sp (.ref a :: (vs ++ dvs)) (upd H1 a (exo a C none)) (fun v H2 => v = .non ∧ Q (.ref a) H2) (fun _ _ _ => False)
theorem pe_mkV (T : OexC X.K C) (iC : PySem.W.findIn X.K (.ref C) "__init__" = some (some (.ref f))) (tI : PySem.W.typeIn X.K (.ref f) = some (.type "function"))
    (F1 : FnOk X.prog X.w X.K X.mg X.base CX k f fd ps sp) (hr : Room (k + 1) X.A) (hb : Binds X.K fd ps ds) (hd : Vals dvs ds) (hx : Passes CX X (fun _ _ _ => False)) (hg : Gl X x) (hm : X.mg x = some (.ref C)) (ha : PA X (e :: es) ta)
    (hdb : (x == ("__debug__" : Str)) = false := by decide) (he : starEach (e :: es) X.env = (false, eval e X.env) :: starEach es X.env := by rfl) (hpl : (backTo pos (starEach es X.env)).any (·.1) = false := by rfl) :
    PE X (.Call (.Name x p) (e :: es) [] pos) (tMkV C sp dvs ta) := by
  refine ⟨fun pins s σ H Q I h => ?_⟩
  obtain ⟨nm, q, N, bs, bm, sn, sub, ab, col, dd, k0, k1, k2, k3, k5, hC, hbm⟩ := T.cls
  refine wpAny_Call_Name_kw (ld_glob I hg hm ?_ hdb)
  refine PySem.W.callWith_K (h₀ := X.base) I.ok.mod.kin T.kC (thn (ha.run pos pins s σ H _ I h) fun us s1 ⟨vs, H1, I1, r1, hz, q1⟩ => ⟨I1.kIn, ?_⟩) he hpl
  show wpAny _ _ (call (.ref C) us) _ _ _
  obtain ⟨hp, g, dr, tk, os⟩ := s1
  have hsz : hp.objs.size ≤ hp.objs.size + 1 := Nat.le_succ _
  have hn : H1 (hp.objs.size + 1) = none := I1.hok.fresh hsz
  have hq := q1 (hp.objs.size + 1) hn
  have kk : ∀ b o, hp.get? b = some o → ((hp.push (PySem.W.kdv_tup us)).push (PySem.HandSPX.excO C hp.objs.size)).get? b = some o := fun b o e => Heap.get?_push_of_some _ (Heap.get?_push_of_some _ e)
  have hget : ((hp.push (PySem.W.kdv_tup us)).push (PySem.HandSPX.excO C hp.objs.size)).get? (hp.objs.size + 1) = some (PySem.HandSPX.excO C hp.objs.size) := by heap_get
  have I2 : Inv X pins σ (upd H1 (hp.objs.size + 1) (exo (hp.objs.size + 1) C none)) ⟨(hp.push (PySem.W.kdv_tup us)).push (PySem.HandSPX.excO C hp.objs.size), g, dr, tk, os⟩ :=
    I1.laid (t' := tk) (a := hp.objs.size + 1) (o := exo (hp.objs.size + 1) C none) (h' := (hp.push (PySem.W.kdv_tup us)).push (PySem.HandSPX.excO C hp.objs.size)) kk hsz (exo_ok hget)
  have r2 : Vals (V.ref (hp.objs.size + 1) :: (vs ++ dvs)) (Value.ref (hp.objs.size + 1) :: (us ++ ds)) := .cons rfl (r1.append hd)
  have hl : (Value.ref (hp.objs.size + 1) :: us ++ ds).length = ps.length := by
    have e := r2.length
    rw [F1.len _ _ _ _ hq] at e
    exact e.symm
  have hus : us.length ≤ sizeLine := by
    rw [← Paired.length r1, sizeLine_eq]
    omega
  refine wpAny_call (PySem.HandSPX.call_own F.excBase_ValueError (fun Y => PySem.HandSPX.refsVE_contains Y bm hbm) (I1.kIn _ _ hC) (PySem.W.looks_findIn I1.kIn iC) (fun self => PySem.W.bind_fn I1.kIn self tI) hus
    (codeAny_mono (F1.run _ X.stack _ _ ⟨Value.ref (hp.objs.size + 1) :: us, []⟩ (Value.ref (hp.objs.size + 1) :: (us ++ ds)) _ _ (fun _ _ _ => False) (hr.make C us []) (I2.env0.make C us []) (hb _ (Value.ref (hp.objs.size + 1) :: us) I2.kIn hl) r2 hq) fun r s' hq' => ?_))
  cases r with
  | error er => exact hx pins σ _ _ er s' I2 hq'
  | ok fl =>
    cases fl with
    | ret u =>
      obtain ⟨v, H', I3, rv, ev, q3⟩ := I2.after hq'
      subst ev
      exact ⟨rv, ⟨V.ref (hp.objs.size + 1), H', I3, rfl, q3⟩⟩
    | next => exact False.elim hq'
    | brk => exact False.elim hq'
    | cont => exact False.elim hq'
/-- e.n, e such an exception with its dict -/
def tXo (K : PySem.W.Frag) (n : Str) (te : TE) : TE := fun σ H Q => te σ H fun x H1 => ∃ (a C dx : Addr) (fs : List (Str × V)) (v : V), x = .ref a ∧ H1 a = some (exo a C (some dx)) ∧ H1 dx = some (exd dx fs) ∧ ExcC K C ∧ PySem.W.findIn K (.ref C) n = some none ∧ fs.lookup n = some v ∧ Q v H1
theorem pe_xo (he : PE X e te) (hb : attributeBase e n X.env (eval e X.env) = eval e X.env := by rfl) : PE X (.Attribute e n pos) (tXo X.K n te) := by
  refine ⟨fun pins s σ H Q I h => ?_⟩
  refine attr_of hb (thn (he.run pins s σ H _ I h) fun u s1 hh => ?_)
  obtain ⟨x, H1, I1, rx, a, C, dx, fs, v, ex, ha, hdx, T, hno, l, q⟩ := hh
  subst ex
  obtain rfl : u = Value.ref a := rx
  obtain ⟨t1, ho⟩ := exo_at I1.hok ha
  obtain ⟨mA, hns, hr⟩ := exd_at I1.hok hdx
  obtain ⟨od, hod, hl⟩ := lookIn_ns hns
  obtain ⟨u, hu, ru⟩ := RelO.some_of (v := v) (o := mA n) (by rw [← l]; exact hr n)
  have J : PySem.W.InstAt s1.heap a ({ cls := .ref C, dict := some dx, data := .fields #[.ref t1, .none, .none, .none, .bool false, .none] } : Obj) C (some od) := ⟨ho, rfl, rfl, hod⟩
  exact HandSPX.exc_get I1.kIn J T.hg T.hk T.hs (PySem.W.findObj_own T.hd hno rfl (by rw [hl, hu])) (handed_of ru) ⟨v, H1, I1.tok _, ru, q⟩
end
/-! reading lemmas -/
/-- an exception of class D lies at a -/
def ExA (K : PySem.W.Frag) (H : Hp) (a D : Addr) : Prop := ∃ d, H a = some (exo a D d) ∧ (∀ dx, d = some dx → ∃ fs, H dx = some (exd dx fs)) ∧ ExcC K D
/-- one with a single field -/
def ExF (H : Hp) (a D : Addr) (fld : Str) (v : V) : Prop := ∃ d, H a = some (exo a D (some d)) ∧ H d = some (exd d [(fld, v)])
theorem ExA.same {K : PySem.W.Frag} {H H' : Hp} {a D : Addr} (s : Same H H') (h : ExA K H a D) : ExA K H' a D := by
  obtain ⟨d, h1, h2, h3⟩ := h
  exact ⟨d, s _ _ h1, fun dx e => (h2 dx e).imp fun fs h => s _ _ h, h3⟩
theorem ExF.same {H H' : Hp} {a D : Addr} {fld : Str} {v : V} (s : Same H H') (h : ExF H a D fld v) : ExF H' a D fld v := by
  obtain ⟨d, h1, h2⟩ := h
  exact ⟨d, s _ _ h1, s _ _ h2⟩
theorem ExF.exA {K : PySem.W.Frag} {H : Hp} {a D : Addr} {fld : Str} {v : V} (h : ExF H a D fld v) (e : ExcC K D) : ExA K H a D := by
  obtain ⟨d, h1, h2⟩ := h
  exact ⟨some d, h1, fun dx e => ⟨_, by cases e; exact h2⟩, e⟩
theorem isO {K : PySem.W.Frag} {H : Hp} {a D : Addr} {c : V} {cv : Value} {b : Bool} {Q : VK} (h : ExA K H a D) (hc : ClsV c cv) (e : PySem.W.kitOne K (.ref D) cv = some b) (q : Q (.bl b) H) : rIsO K [.ref a, c] H Q := by
  obtain ⟨d, h1, h2, h3⟩ := h
  exact ⟨a, D, d, c, cv, b, rfl, h1, h2, h3, hc, e, q⟩
theorem same_up {H : Hp} {p : Addr} {o : HO} (h : H p = none) : Same H (upd H p o) := fun b x e => by
  unfold upd
  rw [if_neg (fun z => by subst z; rw [h] at e; cases e)]
  exact e
theorem exo0R {C : Addr} {σ : L2.St} {H : Hp} {Q : VK} (h : ∀ p H2, H p = none → Same H H2 → H2 p = some (exo p C none) → Q (.ref p) H2) : tExo0 C σ H Q := fun p hp => h p _ hp (same_up hp) upd_same
theorem mkV {C : Addr} {sp : Sp} {dvs : List V} {ta : TA} {σ : L2.St} {H : Hp} {Q : VK} (h : ta σ H fun vs H1 => vs.length ≤ 1000 ∧ ∀ a, H1 a = none → sp (.ref a :: (vs ++ dvs)) (upd H1 a (exo a C none)) (fun v H2 => v = .non ∧ Q (.ref a) H2) (fun _ _ _ => False)) : tMkV C sp dvs ta σ H Q := h
theorem mkF {C : Addr} {fld : Str} {v : V} {H1 : Hp} {R : Addr → Hp → Prop} {E : XK} (q : ∀ p H2, H1 p = none → Same H1 H2 → ExF H2 p C fld v → R p H2) :
    [v].length ≤ 1000 ∧ ∀ a, H1 a = none → spSi C fld (.ref a :: ([v] ++ [])) (upd H1 a (exo a C none)) (fun u H2 => u = .non ∧ R a H2) E := by
  refine ⟨(by show 1 ≤ 1000; decide), fun a ha => ⟨a, v, rfl, upd_same, fun d hd n => ⟨rfl, q a _ ha (fun b o e => ?_) ⟨d, upd_same, ?_⟩⟩⟩⟩
  · have n1 : b ≠ a := fun z => by subst z; rw [ha] at e; cases e
    have e1 : upd H1 a (exo a C none) b = some o := by
      unfold upd
      rw [if_neg n1]
      exact e
    have n2 : b ≠ d := fun z => by subst z; rw [hd] at e1; cases e1
    unfold upd at *
    rw [if_neg n1, if_neg n2]
    exact e1
  · unfold upd
    rw [if_neg n, if_pos rfl]
theorem xo {n : Str} {te : TE} {K : PySem.W.Frag} {σ : L2.St} {H : Hp} {Q : VK} (h : te σ H fun x H1 => ∃ (a C dx : Addr) (fs : List (Str × V)) (v : V), x = .ref a ∧ H1 a = some (exo a C (some dx)) ∧ H1 dx = some (exd dx fs) ∧ ExcC K C ∧ PySem.W.findIn K (.ref C) n = some none ∧ fs.lookup n = some v ∧ Q v H1) : tXo K n te σ H Q := h
theorem xoF {n : Str} {K : PySem.W.Frag} {H : Hp} {a C : Addr} {v : V} {R : V → Prop} (h : ExF H a C n v) (e : ExcC K C) (hn : PySem.W.findIn K (.ref C) n = some none) (q : R v) :
    ∃ (b C dx : Addr) (fs : List (Str × V)) (w : V), V.ref a = .ref b ∧ H b = some (exo b C (some dx)) ∧ H dx = some (exd dx fs) ∧ ExcC K C ∧ PySem.W.findIn K (.ref C) n = some none ∧ fs.lookup n = some w ∧ R w := by
  obtain ⟨d, h1, h2⟩ := h
  exact ⟨a, C, d, _, v, rfl, h1, h2, e, hn, by simp [List.lookup], q⟩
end SPX

/-! nested data; what the laws' own comparison asks -/
namespace SPD
open PySem PySem.Spec PyProof.Rows L2

/-! ### kinds -/
inductive Kd where
  | non | bl | int | str | dct | lst | tup
  deriving DecidableEq
def Kd.ty : Kd → String
  | .non => "NoneType" | .bl => "bool" | .int => "int" | .str => "str" | .dct => "dict" | .lst => "list" | .tup => "tuple"
def Kd.sq : Kd → Bool
  | .lst => true | .tup => true | _ => false
inductive KdOf (K : PySem.W.Frag) (H : Hp) : V → Kd → Prop where
  | non : KdOf K H .non .non
  | bl (b : Bool) : KdOf K H (.bl b) .bl
  | int (i : Int) : KdOf K H (.int i) .int
  | str (x : Str) : KdOf K H (.str x) .str
  | dct {a : Addr} {kvs : List (Key × V)} (h : H a = some (.dK kvs)) : KdOf K H (.ref a) .dct
  | lst {a : Addr} {xs : List V} (h : H a = some (.lst xs)) : KdOf K H (.ref a) .lst
  | tup {a : Addr} {xs : List V} (h : H a = some (.tup xs)) : KdOf K H (.ref a) .tup
theorem KdOf.tyx {K : PySem.W.Frag} {H : Hp} {v : V} {k : Kd} (h : KdOf K H v k) : TyX K H v (.type k.ty) := by
  cases h with
  | non => exact .base .non
  | bl b => exact .base (.bl b)
  | int i => exact .base (.int i)
  | str x => exact .base (.str x)
  | dct h => exact .base (.dK h)
  | lst h => exact .base (.lst h)
  | tup h => exact .base (.tup h)
theorem kit_kd {K : PySem.W.Frag} (k : Kd) : PySem.W.kitOne K (.type k.ty) (.type "tuple") = some (decide (k = .tup)) ∧ PySem.W.kitOne K (.type k.ty) (.type "list") = some (decide (k = .lst)) ∧ PySem.W.kitOne K (.type k.ty) (.type "bool") = some (decide (k = .bl)) ∧ PySem.W.kitOne K (.type k.ty) (.type "str") = some (decide (k = .str)) := by
  cases k <;> exact ⟨kit_ty (by decide +kernel), kit_ty (by decide +kernel), kit_ty (by decide +kernel), kit_ty (by decide +kernel)⟩
theorem kit_int {K : PySem.W.Frag} (k : Kd) : PySem.W.kitOne K (.type k.ty) (.type "int") = some (decide (k = .int ∨ k = .bl)) := by
  cases k <;> exact kit_ty (by decide +kernel)
theorem kit_two {K : PySem.W.Frag} {t c d : Value} {a b : Bool} (h1 : PySem.W.kitOne K t c = some a) (h2 : PySem.W.kitOne K t d = some b) : PySem.W.kitAny K t [c, d] = some (a || b) := by
  refine kitAny_cons h1 (fun e => kitAny_cons h2 (fun e2 => ?_) fun e2 => ?_) fun e => ?_
  · rw [kitAny_nil, e, e2]
    rfl
  · rw [e, e2]
    rfl
  · rw [e]
    rfl
theorem kit_seq {K : PySem.W.Frag} (k : Kd) : PySem.W.kitAny K (.type k.ty) [.type "tuple", .type "list"] = some k.sq := by
  obtain ⟨h1, h2, _⟩ := kit_kd (K := K) k
  rw [kit_two h1 h2]
  cases k <;> rfl

/-! ### data: what is within stands apart from x -/
def leaf : V → Bool
  | .non => true | .bl _ => true | .int _ => true | .str z => Nat.ble z.cps.size 100000 | _ => false
inductive Dq (x : Addr) (H : Hp) : Nat → V → Prop where
  | leaf {n : Nat} {v : V} : leaf v = true → Dq x H n v
  | dct {n : Nat} {a : Addr} {kvs : List (Key × V)} : a ≠ x → H a = some (.dK kvs) → (kvs.map (·.1)).Nodup → (∀ p ∈ kvs, flatB p.2 = true) → Dq x H n (.ref a)
  | tup {n : Nat} {a : Addr} {xs : List V} : a ≠ x → H a = some (.tup xs) → xs.length ≤ 16777216 → (∀ y, y ∈ xs → Dq x H n y) → Dq x H (n + 1) (.ref a)
  | lst {n : Nat} {a : Addr} {xs : List V} : a ≠ x → H a = some (.lst xs) → xs.length ≤ 16777216 → (∀ y, y ∈ xs → Dq x H n y) → Dq x H (n + 1) (.ref a)
theorem Dq.kb {x : Addr} {H H' : Hp} (k : RD.KB x H H') {n : Nat} {v : V} (h : Dq x H n v) : Dq x H' n v := by
  induction h with
  | leaf e => exact .leaf e
  | dct ne h nd fl => exact .dct ne (k _ _ ne h) nd fl
  | tup ne h hl _ ih => exact .tup ne (k _ _ ne h) hl ih
  | lst ne h hl _ ih => exact .lst ne (k _ _ ne h) hl ih
theorem Dq.same {x : Addr} {H H' : Hp} (k : Same H H') {n : Nat} {v : V} (h : Dq x H n v) : Dq x H' n v := h.kb (RD.Same.kb k)
theorem Dq.mono {x : Addr} {H : Hp} {n : Nat} {v : V} (h : Dq x H n v) : ∀ m, n ≤ m → Dq x H m v := by
  induction h with
  | leaf e => exact fun m _ => .leaf e
  | dct ne h nd fl => exact fun m _ => .dct ne h nd fl
  | tup ne h hl _ ih =>
    intro m hm
    obtain ⟨k, rfl⟩ : ∃ k, m = k + 1 := ⟨m - 1, by omega⟩
    exact .tup ne h hl fun y hy => ih y hy k (by omega)
  | lst ne h hl _ ih =>
    intro m hm
    obtain ⟨k, rfl⟩ : ∃ k, m = k + 1 := ⟨m - 1, by omega⟩
    exact .lst ne h hl fun y hy => ih y hy k (by omega)
theorem Dq.kd {K : PySem.W.Frag} {x : Addr} {H : Hp} {n : Nat} {v : V} (h : Dq x H n v) : ∃ k, KdOf K H v k := by
  cases h with
  | leaf e =>
    cases v with
    | non => exact ⟨_, .non⟩
    | bl b => exact ⟨_, .bl b⟩
    | int i => exact ⟨_, .int i⟩
    | str z => exact ⟨_, .str z⟩
    | byt b => cases e
    | flt b => cases e
    | ref a => cases e
    | ty s => cases e
  | dct ne h nd fl => exact ⟨_, .dct h⟩
  | tup ne h _ => exact ⟨_, .tup h⟩
  | lst ne h _ => exact ⟨_, .lst h⟩

/-! ### == of what is no list, no tuple; the laws' own comparison -/
inductive EqB (K : PySem.W.Frag) (H : Hp) : V → V → Bool → Prop where
  | scal {x y : V} : scal x y = true → EqB K H x y (decide (x = y))
  | deep {x y : V} {d e : PyData} : Dp K H x d → Dp K H y e → SeqAt.shaped d = true → SeqAt.shaped e = true → EqB K H x y (PyData.eqv d e)
  | dict {a : Addr} {kvs : List (Key × V)} : H a = some (.dK kvs) → (kvs.map (·.1)).Nodup → (∀ p ∈ kvs, flatB p.2 = true) → EqB K H (.ref a) (.ref a) true
/-- what told, due come to: b -/
inductive IsB (K : PySem.W.Frag) (H : Hp) : Nat → V → V → Bool → Prop where
  | leaf {n : Nat} {x y : V} {s t : Kd} {b : Bool} : KdOf K H x s → KdOf K H y t → t.sq = false → decide (s = .bl) = decide (t = .bl) → EqB K H x y b → IsB K H n x y b
  | bool {n : Nat} {x y : V} {s t : Kd} : KdOf K H x s → KdOf K H y t → t.sq = false → decide (s = .bl) ≠ decide (t = .bl) → IsB K H n x y false
  | kind {n : Nat} {x y : V} {s t : Kd} : KdOf K H x s → KdOf K H y t → t.sq = true → s ≠ t → IsB K H n x y false
  | lenL {n : Nat} {a b : Addr} {xs ys : List V} : H a = some (.lst xs) → H b = some (.lst ys) → xs.length ≠ ys.length → IsB K H n (.ref a) (.ref b) false
  | lenT {n : Nat} {a b : Addr} {xs ys : List V} : H a = some (.tup xs) → H b = some (.tup ys) → xs.length ≠ ys.length → IsB K H n (.ref a) (.ref b) false
  | lst {n : Nat} {a b : Addr} {xs ys : List V} {bs : List Bool} : H a = some (.lst xs) → H b = some (.lst ys) → xs.length = ys.length → bs.length = xs.length → xs.length ≤ 16777216 → (∀ (i : Nat) (x y : V) (c : Bool), xs[i]? = some x → ys[i]? = some y → bs[i]? = some c → IsB K H n x y c) → IsB K H (n + 1) (.ref a) (.ref b) (bs.all id)
  | tup {n : Nat} {a b : Addr} {xs ys : List V} {bs : List Bool} : H a = some (.tup xs) → H b = some (.tup ys) → xs.length = ys.length → bs.length = xs.length → xs.length ≤ 16777216 → (∀ (i : Nat) (x y : V) (c : Bool), xs[i]? = some x → ys[i]? = some y → bs[i]? = some c → IsB K H n x y c) → IsB K H (n + 1) (.ref a) (.ref b) (bs.all id)
mutual
theorem Dp.same {K : PySem.W.Frag} {H H' : Hp} (s : Same H H') {v : V} {d : PyData} : Dp K H v d → Dp K H' v d
  | .non => .non
  | .bl b => .bl b
  | .int i => .int i
  | .str x => .str x
  | .lst h a => .lst (s.seq h) (DpAll.same s a)
  | .tup h a => .tup (RD.Same.tup s h) (DpAll.same s a)
theorem DpAll.same {K : PySem.W.Frag} {H H' : Hp} (s : Same H H') {vs : List V} {ds : List PyData} : DpAll K H vs ds → DpAll K H' vs ds
  | .nil => .nil
  | .cons h a => .cons (Dp.same s h) (DpAll.same s a)
end
theorem KdOf.same {K : PySem.W.Frag} {H H' : Hp} (s : Same H H') {v : V} {k : Kd} (h : KdOf K H v k) : KdOf K H' v k := by
  cases h with
  | non => exact .non
  | bl b => exact .bl b
  | int i => exact .int i
  | str x => exact .str x
  | dct h => exact .dct (s _ _ h)
  | lst h => exact .lst (s _ _ h)
  | tup h => exact .tup (s _ _ h)
theorem EqB.same {K : PySem.W.Frag} {H H' : Hp} (s : Same H H') {x y : V} {b : Bool} (h : EqB K H x y b) : EqB K H' x y b := by
  cases h with
  | scal e => exact .scal e
  | deep d e p q => exact .deep (Dp.same s d) (Dp.same s e) p q
  | dict h nd fl => exact .dict (s _ _ h) nd fl
theorem IsB.same {K : PySem.W.Frag} {H H' : Hp} (s : Same H H') {n : Nat} {x y : V} {b : Bool} (h : IsB K H n x y b) : IsB K H' n x y b := by
  induction h with
  | leaf a b c d e => exact .leaf (a.same s) (b.same s) c d (e.same s)
  | bool a b c d => exact .bool (a.same s) (b.same s) c d
  | kind a b c d => exact .kind (a.same s) (b.same s) c d
  | lenL a b c => exact .lenL (s _ _ a) (s _ _ b) c
  | lenT a b c => exact .lenT (s _ _ a) (s _ _ b) c
  | lst a b c d e _ ih => exact .lst (s _ _ a) (s _ _ b) c d e ih
  | tup a b c d e _ ih => exact .tup (s _ _ a) (s _ _ b) c d e ih
theorem all_rep (n : Nat) : (List.replicate n true).all id = true := by
  induction n with
  | zero => rfl
  | succ n ih => rw [List.replicate_succ, List.all_cons, ih]; rfl
/-- data is what it is -/
theorem IsB.refl {K : PySem.W.Frag} {x : Addr} {H : Hp} {n : Nat} {v : V} (h : Dq x H n v) : IsB K H n v v true := by
  induction h with
  | @leaf n v e =>
    have key : ∀ k : Kd, KdOf K H v k → k.sq = false → scal v v = true → IsB K H n v v true := fun k hk hs hc => by
      have z : EqB K H v v (decide (v = v)) := .scal hc
      rw [decide_eq_true rfl] at z
      exact .leaf hk hk hs rfl z
    cases v with
    | non => exact key _ .non rfl rfl
    | bl b => exact key _ (.bl b) rfl rfl
    | int i => exact key _ (.int i) rfl rfl
    | str z => exact key _ (.str z) rfl rfl
    | byt b => cases e
    | flt b => cases e
    | ref a => cases e
    | ty s => cases e
  | dct ne h nd fl => exact .leaf (.dct h) (.dct h) rfl rfl (.dict h nd fl)
  | @tup n a xs ne h hl _ ih =>
    have z := IsB.tup (K := K) (n := n) (bs := List.replicate xs.length true) h h rfl (by rw [List.length_replicate]) hl fun i x y c e1 e2 e3 => by
      rw [e1] at e2
      cases e2
      rw [List.getElem?_replicate] at e3
      split at e3
      · cases e3
        exact ih x (List.mem_of_getElem? e1)
      · cases e3
    rw [all_rep] at z
    exact z
  | @lst n a xs ne h hl _ ih =>
    have z := IsB.lst (K := K) (n := n) (bs := List.replicate xs.length true) h h rfl (by rw [List.length_replicate]) hl fun i x y c e1 e2 e3 => by
      rw [e1] at e2
      cases e2
      rw [List.getElem?_replicate] at e3
      split at e3
      · cases e3
        exact ih x (List.mem_of_getElem? e1)
      · cases e3
    rw [all_rep] at z
    exact z
/-- the operator == that these ask -/
def rEqB (K : PySem.W.Frag) : R2 := fun x y H Q => ∃ b, EqB K H x y b ∧ Q (.bl b) H
theorem op_eqB {X : Cx} (hu : X.A.units + 64 < cLine) : OpR X (compareOp .Eq) (rEqB X.K) := by
  intro pins s σ H x y v u Q I rx ry h
  obtain ⟨b, e, q⟩ := h
  cases e with
  | scal e => exact op_eq pins s σ H _ _ v u Q I rx ry ⟨e, q⟩
  | deep d e p r => exact op_eqD hu pins s σ H _ _ v u Q I rx ry ⟨_, _, d, e, p, r, q⟩
  | dict h nd fl => exact op_eq_dict (by omega) pins s σ H _ _ v u Q I rx ry ⟨_, _, _, rfl, rfl, h, h, nd, fl, q⟩
theorem eqB {K : PySem.W.Frag} {H : Hp} {Q : VK} {x y : V} {b : Bool} (e : EqB K H x y b) (h : Q (.bl b) H) : rEqB K x y H Q := ⟨b, e, h⟩
section
variable {K : PySem.W.Frag} {H : Hp} {Q : VK} {x : V} {k : Kd}
theorem isSeq {tp : Addr} (ht : H tp = some (.tup [.ty "tuple", .ty "list"])) (hk : KdOf K H x k) (h : Q (.bl k.sq) H) : rIsiT K [x, .ref tp] H Q :=
  ⟨x, tp, _, _, _, _, rfl, ht, .cons (.ty _) (.cons (.ty _) .nil), hk.tyx, kit_seq k, h⟩
theorem isTup (hk : KdOf K H x k) (h : Q (.bl (decide (k = .tup))) H) : rIsi K [x, .ty "tuple"] H Q := ⟨x, _, _, _, _, rfl, .ty _, hk.tyx, (kit_kd k).1, h⟩
theorem isLst (hk : KdOf K H x k) (h : Q (.bl (decide (k = .lst))) H) : rIsi K [x, .ty "list"] H Q := ⟨x, _, _, _, _, rfl, .ty _, hk.tyx, (kit_kd k).2.1, h⟩
theorem isBool (hk : KdOf K H x k) (h : Q (.bl (decide (k = .bl))) H) : rIsi K [x, .ty "bool"] H Q := ⟨x, _, _, _, _, rfl, .ty _, hk.tyx, (kit_kd k).2.2.1, h⟩
theorem isStr (hk : KdOf K H x k) (h : Q (.bl (decide (k = .str))) H) : rIsi K [x, .ty "str"] H Q := ⟨x, _, _, _, _, rfl, .ty _, hk.tyx, (kit_kd k).2.2.2, h⟩
theorem isInt (hk : KdOf K H x k) (h : Q (.bl (decide (k = .int ∨ k = .bl))) H) : rIsi K [x, .ty "int"] H Q := ⟨x, _, _, _, _, rfl, .ty _, hk.tyx, kit_int k, h⟩
end
section
variable {K : PySem.W.Frag} {a b : Addr} {xs ys : List V}
theorem w_zipT {n : Nat} (hn : n = min xs.length ys.length) : Walk (RZ.ItzT K a b) n (fun H => SqT K H a xs ∧ SqT K H b ys) (RD.YP (fun i => xs[i]?) (fun i => ys[i]?)) := by
  subst hn
  refine ⟨fun i _ hi q => ?_, fun _ q => ⟨xs, ys, q.1, q.2, by omega⟩, fun i H v H' _ q y => ?_⟩
  · have h1 : i < xs.length := by omega
    have h2 : i < ys.length := by omega
    exact ⟨xs, ys, xs[i], ys[i], q.1, q.2, by simp [h1], by simp [h2]⟩
  · obtain ⟨T, x, z, h1, h2, h3, h4, h5⟩ := y
    subst h3
    exact ⟨T, x, z, h1, h2, RD.same_new h2, upd_same, h4 xs q.1, h5 ys q.2⟩
theorem izipA {tx : TA} {σ : L2.St} {H : Hp} {R : It → Hp → Prop} (h : tx σ H fun vs H1 => ∃ a b xs ys, vs = [.ref a, .ref b] ∧ ((SqL K H1 a xs ∧ SqL K H1 b ys ∧ R (Itz K a b) H1) ∨ (SqT K H1 a xs ∧ SqT K H1 b ys ∧ R (RZ.ItzT K a b) H1))) : RZ.iZipA K tx σ H R := h
end
/-! ### many data at once -/
inductive DqA (x : Addr) (H : Hp) (n : Nat) : List V → Prop where
  | nil : DqA x H n []
  | cons {v : V} {vs : List V} : Dq x H n v → DqA x H n vs → DqA x H n (v :: vs)
theorem DqA.mem {x : Addr} {H : Hp} {n : Nat} {vs : List V} (h : DqA x H n vs) : ∀ y, y ∈ vs → Dq x H n y := by
  induction h with
  | nil => exact fun y hy => nomatch hy
  | cons a _ ih =>
    intro y hy
    rcases List.mem_cons.mp hy with e | e
    · rw [e]; exact a
    · exact ih y e
theorem DqA.app {x : Addr} {H : Hp} {n : Nat} {vs ws : List V} (h : DqA x H n vs) (g : DqA x H n ws) : DqA x H n (vs ++ ws) := by
  induction h with
  | nil => exact g
  | cons a _ ih => exact .cons a ih
theorem dq_kb {x : Addr} {H H' : Hp} {n : Nat} {v : V} (h : Dq x H n v) (k : RD.KB x H H') : Dq x H' n v := h.kb k
theorem dqTup {x : Addr} {H : Hp} {n : Nat} {a : Addr} {xs : List V} (h : H a = some (.tup xs)) (ne : a ≠ x) (g : DqA x H n xs) (e : Nat.ble xs.length 16777216 = true := by rfl) : Dq x H (n + 1) (.ref a) := .tup ne h (Nat.le_of_ble_eq_true e) g.mem
theorem dqLst {x : Addr} {H : Hp} {n : Nat} {a : Addr} {xs : List V} (h : H a = some (.lst xs)) (ne : a ≠ x) (g : DqA x H n xs) (e : Nat.ble xs.length 16777216 = true := by rfl) : Dq x H (n + 1) (.ref a) := .lst ne h (Nat.le_of_ble_eq_true e) g.mem
theorem dqNil {x : Addr} {H : Hp} {n : Nat} {a : Addr} {kvs : List (Key × V)} (h : H a = some (.dK kvs)) (ne : a ≠ x) (nd : (kvs.map (·.1)).Nodup) (fl : ∀ p ∈ kvs, flatB p.2 = true) : Dq x H n (.ref a) := .dct ne h nd fl
/-- a written dict of constants -/
theorem dispC {trs : List (TE × TE)} {σ : L2.St} {H : Hp} {Q : VK} (kvs : List (Key × V)) (hps : ∀ H (QP : List (V × V) → Hp → Prop), QP (kvs.map fun kv => (kV kv.1, kv.2)) H → tPairs trs σ H QP) (hk : kvs.length ≤ 15)
    (h : ∀ p H2, H p = none → Same H H2 → H2 p = some (.dK (mergeK [] kvs)) → Q (.ref p) H2) : tDisp trs σ H Q := fun p hp =>
  hps _ _ ⟨upd_same, kvs, rfl, hk, by rw [upd_upd]; exact h p _ hp (RD.same_new hp) upd_same⟩
theorem dnew {σ : L2.St} {H : Hp} {Q : VK} (h : ∀ p H2, H p = none → Same H H2 → H2 p = some (.dK []) → Q (.ref p) H2) : tDNewK σ H Q := fun p hp => h p _ hp (RD.same_new hp) upd_same
theorem disp1 {k : Str} {v : V} {σ : L2.St} {H : Hp} {Q : VK} (h : ∀ p H2, H p = none → Same H H2 → H2 p = some (.dK [(Sum.inr k, v)]) → Q (.ref p) H2) : tDisp [(tC (.str k), tC v)] σ H Q :=
  dispC [(Sum.inr k, v)] (fun _ _ q => q) (by show 1 ≤ 15; decide) h
end SPD

/-! sorted(set(text)) -/
namespace SST
open PySem PySem.Spec PyProof.Rows PySem.Froz L2
theorem addTx_shape (h : Int) (v : Value) (D : SD) (r : Ris D.2.2.place.toList) : Ris (addTx h v D).2.2.place.toList ∧ (addTx h v D).2.2.led = D.2.2.led := by
  obtain ⟨es, ep, t⟩ := D
  have r1 := layNew_ris t es h v r
  have l1 := layNew_led t es h v
  show Ris (tailTx ep (layNew t es h v).1 (if (layNew t es h v).2.1.plain = true then { (layNew t es h v).2.1 with plain := false } else (layNew t es h v).2.1) (layNew t es h v).2.2.1).2.2.place.toList ∧
    (tailTx ep (layNew t es h v).1 (if (layNew t es h v).2.1.plain = true then { (layNew t es h v).2.1 with plain := false } else (layNew t es h v).2.1) (layNew t es h v).2.2.1).2.2.led = t.led
  generalize layNew t es h v = Z at r1 l1 ⊢
  obtain ⟨e1, t1, b1, b2⟩ := Z
  dsimp only at r1 l1 ⊢
  have key : ∀ t2 : SetTable, Ris t2.place.toList → t2.led = t.led → Ris (tailTx ep e1 t2 b1).2.2.place.toList ∧ (tailTx ep e1 t2 b1).2.2.led = t.led := fun t2 g1 g2 => by
    unfold tailTx
    split
    · exact ⟨relayAll_ris _ _ _, (relayAll_led _ _ _).trans g2⟩
    · exact ⟨g1, g2⟩
  split
  · exact key _ r1 l1
  · exact key _ r1 l1
/-- the set of texts at a: its members l -/
def SetT (P : Program) (w : World) (h : Heap) (a : Addr) (l : List Str) : Prop := ∃ D, h.get? a = some (sObj "set" D) ∧ TxOk P w D l ∧ l.Nodup ∧ Ris D.2.2.place.toList ∧ (w.params.followText "set-order" = true ∨ D.2.2.led = true)
section
variable {P : Program} {w : World} {A : Around} {E : Value → Shared → Prop} {s : Shared} {a : Addr}
theorem SetT.at {h h' : Heap} {l : List Str} (R : SetT P w h a l) (k : ∀ o, h.get? a = some o → h'.get? a = some o) : SetT P w h' a l := by
  obtain ⟨D, ho, r⟩ := R
  exact ⟨D, k _ ho, r⟩
/-- one more met -/
def met (k : Str) (l : List Str) : List Str := if k ∈ l then l else k :: l
theorem add_any {l : List Str} {k : Str} {u : Tok} {Q : Bool → Shared → Prop} (R : SetT P w s.heap a l) (hb : l.length + 1 < scanBound)
    (h : ∀ h' b, (∀ c o, c ≠ a → s.heap.get? c = some o → h'.get? c = some o) → SetT P w h' a (met k l) → Q b { s with heap := h' }) : wpAny (model P w) A (setAddHashed a (.str k u) (hashStr w k)) Q E s := by
  obtain ⟨D, ho, F, nd, r, hl⟩ := R
  by_cases hk : k ∈ l
  · have hmet : met k l = l := if_pos hk
    rw [hmet] at h
    have h0 := h s.heap false (fun _ _ _ e => e) ⟨D, ho, F, nd, r, hl⟩
    obtain ⟨es, ep, t⟩ := D
    have hd : (sObj "set" (es, ep, t)).data = .set es ep t := rfl
    have hel : ElemsOf (strKind P w) es.toList := F.el
    have hf : t.fits es.size = true := F.fit
    have hz : es.size = l.length := F.sz
    obtain ⟨e, he, hek⟩ := (F.mem k).mp hk
    unfold setAddHashed setAddHashedIn
    refine wpAny_holding (wpAny_bind (wpAny_setState_of ho hd hf ?_))
    dsimp only
    rw [byScan_of (x := Value.str k u) rfl (by omega) hel]
    simp only [↓reduceIte]
    unfold setAddByScan
    refine wpAny_bind (wpAny_bind (wpAny_rule (wpAny_bind (wpAny_setScan_of (knd := strKind P w) (k := k) (is_str k u) ho hd hf hel ?_))))
    cases hfi : es.toList.findIdx? (fun e => (strKind P w).is k e.2) with
    | none =>
      have z := List.findIdx?_eq_none_iff.mp hfi e he
      rw [hek] at z
      cases z
    | some j =>
      dsimp only
      exact wpAny_pure (wpAny_pure h0)
  · have hmet : met k l = k :: l := if_neg hk
    rw [hmet] at h
    have sh := addTx_shape (hashStr w k) (.str k u) D r
    refine add_x ho F hk hb (h _ true (fun c o hc e => PySem.Heap.get?_update_of_ne _ (Ne.symm hc) e) ⟨_, get_upd _ ho rfl, add_ok u F, List.nodup_cons.mpr ⟨hk, nd⟩, sh.1, ?_⟩)
    rw [sh.2]
    exact hl
def mets (val : Nat → Str) : Nat → List Str
  | 0 => []
  | i + 1 => met (val i) (mets val i)
theorem mets_len (val : Nat → Str) : ∀ i, (mets val i).length ≤ i
  | 0 => Nat.le_refl _
  | i + 1 => by
    have z := mets_len val i
    show (met (val i) (mets val i)).length ≤ i + 1
    unfold met
    split
    · omega
    · rw [List.length_cons]; omega
theorem mets_mem (val : Nat → Str) (k : Str) : ∀ i, k ∈ mets val i ↔ ∃ j, j < i ∧ val j = k
  | 0 => ⟨fun h => (List.not_mem_nil h).elim, fun ⟨j, h, _⟩ => absurd h (Nat.not_lt_zero _)⟩
  | i + 1 => by
    have ih := mets_mem val k i
    have e : k ∈ met (val i) (mets val i) ↔ k ∈ mets val i ∨ k = val i := by
      unfold met
      split
      · rename_i h
        exact ⟨.inl, fun z => z.elim id fun e => e ▸ h⟩
      · rw [List.mem_cons]
        exact Or.comm
    show k ∈ met (val i) (mets val i) ↔ _
    rw [e, ih]
    constructor
    · rintro (⟨j, h1, h2⟩ | rfl)
      · exact ⟨j, by omega, h2⟩
      · exact ⟨i, by omega, rfl⟩
    · rintro ⟨j, h1, h2⟩
      rcases Nat.lt_succ_iff_lt_or_eq.mp h1 with h | h
      · exact .inl ⟨j, h, h2⟩
      · subst h
        exact .inr h2.symm
theorem fill {R : Result → Shared → Prop} {it : Addr} {fp wr : List Addr} {G : Array GenState → Array GenState → Prop} {n : Nat} {Pv : Nat → Value → Prop} {St : Nat → Shared → Prop} (W : WalksS P w A.in1 it fp wr G n Pv St) (hf : a ∉ fp) (val : Nat → Str)
    (hv : ∀ i v, Pv i v → ∃ t, v = .str (val i) t) (hn : n + 1 < scanBound) : ∀ (m i : Nat) (s : Shared), n - i = m → i ≤ n → St i s → SetT P w s.heap a (mets val i) →
      (∀ s', Moved (a :: wr) G s s' → SetT P w s'.heap a (mets val n) → R (.ok (.ret .none)) s') → codeAny (model P w) A (.builtin "set.update.loop" ⟨[.ref a, .ref it], []⟩) R s := by
  have aw : a ∉ wr := fun z => hf (W.sub _ z)
  have up : ∀ b ∈ wr, b ∈ a :: wr := fun b z => List.mem_cons_of_mem _ z
  intro m
  induction m with
  | zero =>
    intro i s hm hi hs hS hR
    obtain rfl : i = n := by omega
    refine codeAny_builtin PyProof.Rows.F.entry_set_update_loop ?_
    rw [Around.under_plainId PyProof.Rows.F.plain_set_update_loop _]
    show wpAny _ A.in1 (pyNext (.ref it) >>= _) _ _ s
    refine wpAny_bind (W.done s _ _ hs fun s' mv => wpAny_pure (hR s' (mv.mono up) (hS.at fun o e => mv.heap a o aw e)))
  | succ m ih =>
    intro i s hm hi hs hS hR
    have lt : i < n := by omega
    refine codeAny_builtin PyProof.Rows.F.entry_set_update_loop ?_
    rw [Around.under_plainId PyProof.Rows.F.plain_set_update_loop _]
    show wpAny _ A.in1 (pyNext (.ref it) >>= _) _ _ s
    refine wpAny_bind (W.item i s _ _ lt hs fun v s1 hP hs1 mv => ?_)
    obtain ⟨t, rfl⟩ := hv i v hP
    have hS1 : SetT P w s1.heap a (mets val i) := hS.at fun o e => mv.heap a o aw e
    have room : (mets val i).length + 1 < scanBound := by
      have := mets_len val i
      omega
    show wpAny _ A.in1 (holding [Value.str (val i) t] (setAdd a (.str (val i) t)) >>= _) _ _ s1
    refine wpAny_bind (wpAny_holding ?_)
    unfold setAdd
    refine wpAny_holding (wpAny_bind ((strKind P w).pyHash (k := val i) (is_str _ _) ?_))
    refine add_any (s := { s1 with toks := s1.toks + 1 }) hS1 room fun h' b kp hS2 => ?_
    refine wpAny_pure ⟨plainId_quiet PyProof.Rows.F.plain_set_update_loop _, ih (i + 1) _ (by omega) lt (W.frame _ s1 _ _ hs1 (Nat.le_succ _) fun c hc o e => ?_) hS2 fun s2 mv2 hS3 => hR s2 (Moved.trans W.gtrans ((mv.mono up).then_heap (Nat.le_succ _) fun c o hc e => ?_) mv2) hS3⟩
    · exact kp c o (fun z => hf (z ▸ hc)) e
    · exact kp c o (fun z => hc (by rw [z]; exact List.mem_cons_self)) e
/-- the set made of one argument, its table's kind told -/
theorem new_led (x : Value) {Q : Value → Shared → Prop}
    (h : Q (.ref s.heap.objs.size) { s with heap := s.heap.push { cls := .type "set", dict := none, data := .set #[] 0 (.fresh 0 0 (!w.params.followText "set-order")) } }) :
    codeAny (model P w) A (.call (.builtin "set.__new__") ⟨[.type "set", x], []⟩) (wants Q E) s := by
  refine codeAny_of_tree ?_
  show wpAny _ A.in1 (do checkBuiltinCall "set.__new__" ⟨[.type "set", x], []⟩; again (.builtin "set.__new__" ⟨[.type "set", x], []⟩)) _ _ s
  refine wpAny_bind (wpAny_of_eq (PySem.F.newCall_set_1 x) (wpAny_pure ⟨plainId_quiet PySem.F.plain_set_new _, codeAny_builtin PySem.F.entry_set_new ?_⟩))
  rw [Around.under_plainId PySem.F.plain_set_new _]
  unfold Builtin.«set.__new__» Builtin.Frozenset.newClass
  have hsub := sub_set_self
  obtain ⟨hp, g, d, tk, os⟩ := s
  dsimp only
  wp_walk
  refine wpAny_askSetting (wpAny_pure ?_)
  dsimp only
  simp only [newObj]
  exact wpAny_bind (wpAny_alloc (wpAny_pure (wpAny_pure h)))
theorem fresh_ok {h : Heap} : SetT P w (h.push { cls := .type "set", dict := none, data := .set #[] 0 (.fresh 0 0 (!w.params.followText "set-order")) }) h.objs.size [] := by
  refine ⟨(#[], 0, .fresh 0 0 (!w.params.followText "set-order")), Heap.get?_push_size _ rfl, TxOk.nil rfl, List.nodup_nil, List.Pairwise.nil, ?_⟩
  show _ ∨ (!w.params.followText "set-order") = true
  cases w.params.followText "set-order"
  · exact .inr rfl
  · exact .inl rfl
/-- what a text's signs come to, in a set -/
def signs (x : Str) : Nat → Str := fun i => ⟨#[x.cps.getD i 0]⟩
theorem sub_str_set : isSubtype (.type "str") (.type "set") = pure false := by rw [isSubtype_type]; kernel_rfl
theorem sub_str_froz : isSubtype (.type "str") (.type "frozenset") = pure false := by rw [isSubtype_type]; kernel_rfl
theorem set_str {x : Str} {u : Tok} {Q : Value → Shared → Prop} (hh : A.handled = none) (hn : x.cps.size + 1 < scanBound)
    (h : ∀ (h' : Heap) (tk : Nat), (∀ b o, s.heap.get? b = some o → h'.get? b = some o) → s.heap.objs.size < h'.objs.size → SetT P w h' s.heap.objs.size (mets (signs x) x.cps.size) → Q (.ref s.heap.objs.size) { s with heap := h', toks := tk }) :
    wpAny (model P w) A (call (.type "set") [.str x u]) Q E s := by
  obtain ⟨c, tl, hmro⟩ := PySem.F.called_set.mro
  have hmade := PySem.F.called_set.made
  have hsub := PySem.F.called_set.sub
  refine wpAny_call (codeAny_of_tree ?_)
  show wpAny _ _ (callAny (.type "set") _) _ _ _
  refine wpAny_pure ⟨Code.quiet_builtin _ (by decide +kernel), codeAny_builtin PySem.F.entry_type_call ?_⟩
  rw [Around.under_plain (weight_type_call_type "set" [.str x u] []) rfl]
  have h1 := PySem.F.called_set.notType
  have h2 := PySem.F.called_set.canCreate
  have hct := PySem.F.typeCall_set_1 (.str x u)
  repeat (any_goals (first | assumption | wp_step))
  refine codeAny_mono (new_led (.str x u) (E := E) (Q := fun obj s₁ => obj = .ref s.heap.objs.size ∧ s₁ = { s with heap := s.heap.push { cls := .type "set", dict := none, data := .set #[] 0 (.fresh 0 0 (!w.params.followText "set-order")) } }) ⟨rfl, rfl⟩) fun r s1 hr => ?_
  cases r with
  | error e => exact hr
  | ok fl =>
    cases fl with
    | ret obj =>
      obtain ⟨rfl, rfl⟩ := hr
      have F0 : SetT P w (s.heap.push { cls := .type "set", dict := none, data := .set #[] 0 (.fresh 0 0 (!w.params.followText "set-order")) }) s.heap.objs.size [] := fresh_ok
      have hS : (s.heap.push { cls := .type "set", dict := none, data := .set #[] 0 (.fresh 0 0 (!w.params.followText "set-order")) }).get? s.heap.objs.size = some { cls := .type "set", dict := none, data := .set #[] 0 (.fresh 0 0 (!w.params.followText "set-order")) } := Heap.get?_push_size _ rfl
      have old : ∀ b o, s.heap.get? b = some o → (s.heap.push { cls := .type "set", dict := none, data := .set #[] 0 (.fresh 0 0 (!w.params.followText "set-order")) }).get? b = some o := fun b o e => Heap.get?_push_of_some _ e
      have hsz : (s.heap.push { cls := .type "set", dict := none, data := .set #[] 0 (.fresh 0 0 (!w.params.followText "set-order")) }).objs.size = s.heap.objs.size + 1 := Heap.size_push ..
      generalize s.heap.push { cls := .type "set", dict := none, data := .set #[] 0 (.fresh 0 0 (!w.params.followText "set-order")) } = hp at F0 hS old hsz ⊢
      have hT : Shared.TypeIs { s with heap := hp } (.ref s.heap.objs.size) "set" := ⟨_, hS, rfl⟩
      have hli := PySem.F.called_set.init.lookup
      have hbi := PySem.F.called_set.init.bind (.ref s.heap.objs.size)
      repeat (any_goals (first | assumption | wp_step))
      refine codeAny_mono (codeAny_call_builtin (R := wants (fun r s₂ => r = .none ∧ ∃ h' tk, s₂ = { s with heap := h', toks := tk } ∧ (∀ b o, s.heap.get? b = some o → h'.get? b = some o) ∧ s.heap.objs.size < h'.objs.size ∧ SetT P w h' s.heap.objs.size (mets (signs x) x.cps.size)) E)
        PySem.F.called_set.init.plain PySem.F.entry_set_init (check_set_init_1 hT ?_)) fun r2 s2 hr2 => ?_
      · unfold Builtin.«set.__init__» noKeywords Builtin.Frozenset.updateFrom
        have q1 := sub_str_set
        have q2 := sub_str_froz
        have q3 : (Value.type "str" == Value.type "dict") = false := by decide
        generalize hPI : pyIter = PI
        wp_walk
        subst hPI
        refine wpAny_pyIter_str fun o St hW hst => ?_
        refine wpAny_bind (wpAny_runValue ?_)
        have na : s.heap.objs.size ∉ [hp.objs.size] := by
          rw [hsz, List.mem_singleton]
          exact Nat.ne_of_lt (Nat.lt_succ_self _)
        have hh3 : A.in1.in1.in1.handled = none := by simp [hh]
        refine fill (hW _ hh3).toS na (signs x) (fun i v hv => ?_) hn (x.cps.size - 0) 0 _ rfl (Nat.zero_le _) hst (F0.at fun o e => Heap.get?_push_of_some _ e) fun s3 mv hS3 => ?_
        · obtain ⟨c, t, hc, rfl⟩ := hv
          refine ⟨t, ?_⟩
          unfold signs
          rw [Array.getD_eq_getD_getElem?, hc]
          rfl
        · have keep : ∀ b o, s.heap.get? b = some o → s3.heap.get? b = some o := fun b o e => by
            have lt := Heap.lt_size e
            refine mv.heap b o (fun z => ?_) (Heap.get?_push_of_some _ (old b o e))
            rcases List.mem_cons.mp z with z | z
            · exact absurd z (Nat.ne_of_lt lt)
            · have z := List.mem_singleton.mp z
              rw [hsz] at z
              exact absurd z (Nat.ne_of_lt (Nat.lt_succ_of_lt lt))
          have grow : s.heap.objs.size < s3.heap.objs.size := by
            obtain ⟨D, hD, _⟩ := hS3
            exact Heap.lt_size hD
          obtain ⟨h3, g3, d3, tk3, os3⟩ := s3
          obtain rfl : g3 = s.gens := mv.gens
          obtain rfl : d3 = s.drawn := mv.drawn
          obtain rfl : os3 = s.os := mv.os
          exact wpAny_pure (wpAny_pure ⟨rfl, h3, tk3, rfl, keep, grow, hS3⟩)
      · cases r2 with
        | error e => exact hr2
        | ok fl2 =>
          cases fl2 with
          | ret r =>
            obtain ⟨rfl, h', tk, rfl, k1, k2, k3⟩ := hr2
            repeat (any_goals (first | assumption | wp_step))
            exact h _ _ k1 k2 k3
          | _ => exact hr2.elim
    | _ => exact hr.elim
/-! what is unlike and of the same number -/
theorem perm_of {α : Type} [DecidableEq α] : ∀ (l ks : List α), l.Nodup → (∀ x, x ∈ l → x ∈ ks) → ks.length = l.length → ks.Perm l
  | [], ks, _, _, e => by
    rw [List.eq_nil_of_length_eq_zero e]
  | x :: r, ks, nd, sub, e => by
    have hx : x ∈ ks := sub x List.mem_cons_self
    obtain ⟨nx, nr⟩ := List.nodup_cons.mp nd
    have p := List.perm_cons_erase hx
    have ih := perm_of r (ks.erase x) nr (fun y hy => (List.mem_erase_of_ne (fun z => nx (by rw [← z]; exact hy))).mpr (sub y (List.mem_cons_of_mem _ hy))) (by
      rw [List.length_erase_of_mem hx, e, List.length_cons]
      rfl)
    exact p.trans (ih.cons x)
def nameOf (e : Int × Value) : Str := match e.2 with | .str k _ => k | _ => Str.empty
theorem keys_perm {D : SD} {l : List Str} (F : TxOk P w D l) (nd : l.Nodup) : (∀ e ∈ D.1.toList, ∃ t, e.2 = .str (nameOf e) t) ∧ (D.1.toList.map nameOf).Perm l := by
  have g : ∀ e ∈ D.1.toList, ∃ t, e.2 = .str (nameOf e) t := fun e he => by
    obtain ⟨⟨k, hk, _⟩, _⟩ := F.el e he
    obtain ⟨t, ht⟩ := Value.isStrOf_shape hk
    exact ⟨t, by unfold nameOf; rw [ht]⟩
  refine ⟨g, perm_of _ _ nd (fun x hx => ?_) (by rw [List.length_map, Array.length_toList]; exact F.sz)⟩
  obtain ⟨e, he, hk⟩ := (F.mem x).mp hx
  obtain ⟨t, ht⟩ := Value.isStrOf_shape hk
  exact List.mem_map.mpr ⟨e, he, by unfold nameOf; rw [ht]⟩
theorem strs_of : ∀ (l : List (Int × Value)), (∀ e ∈ l, ∃ t, e.2 = .str (nameOf e) t) → StrsAre (l.map (·.2)) (l.map nameOf)
  | [], _ => .nil
  | e :: l, h => by
    obtain ⟨t, ht⟩ := h e List.mem_cons_self
    rw [List.map_cons, List.map_cons, ht]
    exact .cons _ t (strs_of l fun e he => h e (List.mem_cons_of_mem _ he))
theorem strs_perm {vs us : List Value} {xs : List Str} (p : vs.Perm us) (h : StrsAre us xs) : ∃ ys, StrsAre vs ys ∧ ys.Perm xs := by
  induction p generalizing xs with
  | nil => exact ⟨xs, h, List.Perm.refl _⟩
  | cons x _ ih =>
    cases h with
    | cons y t h =>
      obtain ⟨ys, h1, h2⟩ := ih h
      exact ⟨_, .cons y t h1, h2.cons y⟩
  | swap x y l =>
    cases h with
    | cons a t h =>
      cases h with
      | cons b u h => exact ⟨_, .cons b u (.cons a t h), List.Perm.swap _ _ _⟩
  | trans p q ih1 ih2 =>
    obtain ⟨ys, h1, h2⟩ := ih2 h
    obtain ⟨zs, h3, h4⟩ := ih1 h1
    exact ⟨zs, h3, h4.trans h2⟩
theorem sorted_setT {l : List Str} {Q : Value → Shared → Prop} (R : SetT P w s.heap a l) (hh : A.handled = none) (hb : l.length < scanBound)
    (hQ : ∀ s' p (out : Array Value) (c : Nat) (ys : List Str), (∀ b o, s.heap.get? b = some o → s'.heap.get? b = some o) → s'.gens = s.gens → s'.os = s.os → s.heap.objs.size ≤ p →
      s'.heap.get? p = some (seqObj "list" out c) → StrsAre out.toList ys → ys.Perm l → sortedS ys = true → Q (.ref p) s') :
    wpAny (model P w) A (call (.builtin "sorted") [.ref a]) Q E s := by
  obtain ⟨⟨es, ep, t⟩, ho, F, nd, r, hl⟩ := R
  have hz : es.size = l.length := F.sz
  obtain ⟨g, kp⟩ := keys_perm F nd
  refine Calls.call_function_entry kind_sorted plain_sorted entry_sorted (args_sorted1 _) ?_
  unfold Builtin.«sorted»
  refine wpAny_bind (m := checkCount "sorted" 1 1 _) (wpAny_pure ?_)
  refine wpAny_bind (collect_set (A := A.in1) hh ⟨_, ho, rfl, rfl⟩ F.fit (by show es.size < scanBound; omega) r hl fun s1 vs k1 z1 g1 o1 pm => ?_)
  obtain ⟨xs, hS, px⟩ := strs_perm pm (strs_of es.toList g)
  have hL : vs.length ≤ sizeLine := by
    rw [pm.length_eq, List.length_map, Array.length_toList, hz, sizeLine_eq]
    unfold scanBound at hb
    omega
  refine wpAny_bind (wpAny_newList ?_ hL)
  have hob : (s1.heap.push (seqObj "list" vs.toArray 0)).get? s1.heap.objs.size = some (seqObj "list" vs.toArray 0) := Heap.get?_push_size _ rfl
  refine wpAny_bind (wpAny_holding (wpAny_call_entry slot_list_sort ⟨_, hob, rfl⟩ entry_list_sort (list_sort_treeKAny strKind_oneLt hob hS.keysOf (fun v₁ v₂ rest e => keyKind_strs (by rw [← e]; exact hS)) hL fun st hp hs => ⟨_, rfl, ?_⟩) (args_list_sort _)))
  obtain ⟨ys, y1, y2, y3⟩ := sorted_out_str hS hp hs
  obtain ⟨c, hc⟩ := sortedHeap_at (vs := vs) (out := (arrOf st).map (·.2)) hob
  refine wpAny_pure ⟨_, rfl, hQ _ s1.heap.objs.size _ c ys (fun b u e => ?_) g1 o1 z1 hc y1 (y2.trans (px.trans kp)) y3⟩
  have q := k1 b u e
  have lt := Heap.lt_size q
  show (sortedHeap (s1.heap.push (seqObj "list" vs.toArray 0)) s1.heap.objs.size vs _).get? b = some u
  rw [sortedHeap_old (Nat.ne_of_lt lt) (by rw [size_push']; exact Nat.lt_succ_of_lt lt)]
  exact Heap.get?_push_of_some _ q
end
/-! ### the rule -/
/-- the signs of x, in their order, each once -/
def Own (x : Str) (ys : List Str) : Prop := ys.Perm (mets (signs x) x.cps.size) ∧ sortedS ys = true
/-- sorted(set(e)), e a text -/
def tSS (te : TE) : TE := fun σ H Q => te σ H fun v H1 => ∃ x : Str, v = .str x ∧ x.cps.size ≤ 4000 ∧ ∀ (ys : List Str) (p : Addr), Own x ys → H1 p = none → Q (.ref p) (upd H1 p (.lst (ys.map V.str)))
section
variable {X : Cx}
theorem pe_ss {e : Expr} {te : TE} {p p2 q pos : Pos} (hg : Gl X "sorted") (hm : X.mg "sorted" = none) (hg2 : Gl X "set") (hm2 : X.mg "set" = none) (he : PE X e te) (hc : X.calm = true := by rfl)
    (ne : starEach [e] X.env = (false, eval e X.env) :: starEach [] X.env := by rfl) : PE X (.Call (.Name "sorted" p) [.Call (.Name "set" p2) [e] [] q] [] pos) (tSS te) := by
  refine ⟨fun pins s σ H Q I h => ?_⟩
  refine Call_ (ld_blt I hg hm Boot.sorted ?_)
  refine PyProof.Rows.callWith_builtin1 (PyProof.Rows.args_cons ?_ rfl) rfl rfl
  refine Call_ (ld_blt I hg2 hm2 PyProof.Rows.boot_set ?_)
  refine PyProof.Rows.callWith_type1 (PyProof.Rows.args_cons (thn (he.run pins s σ H _ I h) fun v s1 hh => PyProof.Rows.args_nil ?_) ne) ne rfl
  obtain ⟨v, H1, I1, rv, x, rfl, hz, q1⟩ := hh
  obtain ⟨u, rfl⟩ := rv
  refine set_str (P := X.prog) (w := X.w) (I1.ok.hd hc) (by unfold scanBound; omega) fun h' tk k1 z1 R => PyProof.Rows.args_nil ?_
  have I2 : Inv X pins σ H1 { s1 with heap := h', toks := tk } := I1.kept k1
  have R2 : SetT X.prog X.w ({ s1 with heap := h', toks := tk } : Shared).heap s1.heap.objs.size (mets (signs x) x.cps.size) := R
  generalize ({ s1 with heap := h', toks := tk } : Shared) = s2 at I2 R2 ⊢
  refine sorted_setT R2 (I2.ok.hd hc) (by have := mets_len (signs x) x.cps.size; unfold scanBound; omega) fun s3 a out c ys k3 g3 o3 hp hget y1 y2 y3 => ?_
  have hlen : (ys.map V.str).length ≤ sizeLine := by
    have := mets_len (signs x) x.cps.size
    rw [List.length_map, y2.length_eq, sizeLine_eq]
    omega
  have hn : H1 a = none := I2.hok.fresh hp
  have J : Inv X pins σ (upd H1 a (.lst (ys.map V.str))) { s2 with heap := s3.heap, gens := s3.gens, drawn := s3.drawn, toks := s3.toks } :=
    I2.call (ch := []) (Un.laid k3 hp hn) (I2.hok.laid k3 hp ⟨hlen, out.toList, c, vals_of_strs y1, hget⟩) (by rw [g3]; exact I2.bare) (fun _ z => nomatch z)
  have e : s3 = { s2 with heap := s3.heap, gens := s3.gens, drawn := s3.drawn, toks := s3.toks } := by
    cases s3
    cases s2
    cases o3
    rfl
  rw [e]
  exact ⟨.ref a, _, J, rfl, q1 ys a ⟨y2, y3⟩ hn⟩
end
/-! ### one such list alone -/
theorem rise_pair : ∀ (p : Str) (l : List Str), risingS p l = true → (∀ x, x ∈ l → ltCps x.cps.toList p.cps.toList = false) ∧ sortedS l = true := by
  intro p l
  induction l generalizing p with
  | nil => exact fun _ => ⟨fun x hx => (List.not_mem_nil hx).elim, rfl⟩
  | cons y r ih =>
    intro h
    have h' : (!ltCps y.cps.toList p.cps.toList && risingS y r) = true := h
    obtain ⟨h1, h2⟩ := Bool.and_eq_true_iff.mp h'
    have h1 : ltCps y.cps.toList p.cps.toList = false := by simpa using h1
    obtain ⟨h3, h4⟩ := ih y h2
    refine ⟨fun x hx => ?_, h2⟩
    rcases List.mem_cons.mp hx with e | e
    · rw [e]; exact h1
    · have h5 := h3 x e
      rw [ltCps_eq, decide_eq_false_iff_not] at h1 h5 ⊢
      exact fun z => (List.le_trans (List.not_lt.mp h1) (List.not_lt.mp h5)) |> fun q => List.not_lt.mpr q z
theorem own_one : ∀ {ys zs : List Str}, sortedS ys = true → sortedS zs = true → ys.Perm zs → ys = zs := by
  intro ys
  induction ys with
  | nil => exact fun _ _ p => (List.nil_perm.mp p).symm ▸ rfl
  | cons y r ih =>
    intro zs h1 h2 p
    cases zs with
    | nil => exact absurd p.length_eq (by simp)
    | cons z t =>
      obtain ⟨a1, a2⟩ := rise_pair y r h1
      obtain ⟨b1, b2⟩ := rise_pair z t h2
      have e : y = z := by
        have hy : y ∈ z :: t := p.mem_iff.mp List.mem_cons_self
        have hz : z ∈ y :: r := p.mem_iff.mpr List.mem_cons_self
        rcases List.mem_cons.mp hy with e | hy
        · exact e
        rcases List.mem_cons.mp hz with e | hz
        · exact e.symm
        have c1 := b1 y hy
        have c2 := a1 z hz
        rw [ltCps_eq, decide_eq_false_iff_not] at c1 c2
        have c := List.le_antisymm (List.not_lt.mp c1) (List.not_lt.mp c2)
        cases y
        cases z
        exact congrArg Str.mk (Array.toList_inj.mp c.symm)
      subst e
      rw [ih a2 b2 (List.perm_cons _ |>.mp p)]
theorem Own.one {x : Str} {ys zs : List Str} (h : Own x ys) (g : Own x zs) : ys = zs := own_one h.2 g.2 (h.1.trans g.1.symm)
end SST

/-! rules that the laws' texts ask besides -/
namespace NR
open PySem PySem.Spec PyProof.Rows L2
/-! ### enumerate(tuple) -/
theorem meets_enumT (l : Addr) (items : Array Value) (n : Nat) (dct : Option Addr) (sl : Array (Option Value)) :
    Meets (Builtin.«enumerate.__new__» ⟨[.type "enumerate", .ref l], []⟩) (fun _ R s => s.heap.get? l = some { cls := .type "tuple", dict := dct, data := .seq items n, slots := sl } ∧
      R (.ok (.ret (.ref (s.heap.push { cls := .type "tuple_iterator", data := .fields #[.ref l, .int 0 0] }).objs.size)))
        { s with heap := (s.heap.push { cls := .type "tuple_iterator", data := .fields #[.ref l, .int 0 0] }).push { cls := .type "enumerate", data := .fields #[.none, .bool false, .ref s.heap.objs.size, rawInt 0, .none, .none] } }) :=
  .of_wp fun prog w A R s h => by
    obtain ⟨hp, g, d, tk, os⟩ := s
    obtain ⟨hl, h⟩ := h
    have hsub := sub_enumerate
    have hT : Heap.IsTuple (Shared.heap ⟨hp, g, d, tk, os⟩) l items := ⟨_, hl, rfl, n, rfl⟩
    wp_walk using AutoSeq1.wpAny_loadPart' hl
    refine wpAny_stack_any fun st => wpAny_pure ?_
    split
    · rename_i c _ _ _ _ _
      cases (c == Value.type "enumerate")
      · wp_walk using AutoSeq1.wpAny_loadPart' hl, wpAny_pyIter_tuple hT
        exact ⟨_, rfl, h⟩
      · wp_walk using AutoSeq1.wpAny_loadPart' hl, wpAny_pyIter_tuple hT
        exact ⟨_, rfl, h⟩
    · wp_walk using AutoSeq1.wpAny_loadPart' hl, wpAny_pyIter_tuple hT
      exact ⟨_, rfl, h⟩
theorem call_enumT {prog : Program} {w : World} {A : Around} {E : Value → Shared → Prop} {s : Shared} {l : Addr} {items : Array Value} {Q : Value → Shared → Prop} (hL : s.heap.IsTuple l items)
    (h : ∀ h', IsEnum h' (s.heap.objs.size + 1) s.heap.objs.size 0 .none → h'.IsTupleIter s.heap.objs.size l 0 → (∀ b o, s.heap.get? b = some o → h'.get? b = some o) → Q (.ref (s.heap.objs.size + 1)) { s with heap := h' }) :
    wpAny (model prog w) A (call (.type "enumerate") [.ref l]) Q E s := by
  obtain ⟨⟨c, dct, dt, sl⟩, hl, hc, n, hd⟩ := hL
  obtain rfl : c = .type "tuple" := hc
  obtain rfl : dt = .seq items n := hd
  refine callType_new F.called_enumerate (by decide) (F.typeCall_enumerate_1 _) (F.newCall_enumerate_1 _) (fun obj => F.args_object_init_2 obj _) F.entry_enumerate_new (meets_enumT l items n dct sl) ⟨hl, ?_⟩
  have hz : (s.heap.push { cls := .type "tuple_iterator", data := .fields #[.ref l, .int 0 0] }).objs.size = s.heap.objs.size + 1 := Heap.size_push ..
  show _ ∧ _
  rw [hz]
  have he : IsEnum ((s.heap.push { cls := .type "tuple_iterator", data := .fields #[.ref l, .int 0 0] }).push { cls := .type "enumerate", data := .fields #[.none, .bool false, .ref s.heap.objs.size, rawInt 0, .none, .none] }) (s.heap.objs.size + 1) s.heap.objs.size 0 .none := by
    have q := Heap.get?_push_size (s.heap.push { cls := .type "tuple_iterator", data := .fields #[.ref l, .int 0 0] }) (o := { cls := .type "enumerate", data := .fields #[.none, .bool false, .ref s.heap.objs.size, rawInt 0, .none, .none] }) rfl
    rw [hz] at q
    exact q
  exact ⟨⟨_, he, rfl⟩, h _ he ⟨_, Heap.get?_push_of_some _ (Heap.get?_push_size _ rfl), rfl, rfl⟩ fun b o x => Heap.get?_push_of_some _ (Heap.get?_push_of_some _ x)⟩
/-- the tuple at a, each item in a new pair -/
def IteT (K : PySem.W.Frag) (a : Addr) : It :=
  ⟨fun i H => ∃ (xs : List V) (x : V), SqT K H a xs ∧ xs[i]? = some x, fun i H v H' => ∃ T x, v = .ref T ∧ H T = none ∧ H' = upd H T (.tup [.int (i : Nat), x]) ∧ ∀ xs, SqT K H a xs → xs[i]? = some x, fun i H => ∃ xs : List V, SqT K H a xs ∧ xs.length = i⟩
theorem turn_enumT {P : Program} {w : World} {K : PySem.W.Frag} {elts : List Expr} {kk : Nat} {tpos : Pos} (a e it : Addr) :
    Turn P w K (.Tuple elts kk tpos) (IteT K a) [e, it] e (fun i h => (∃ old, IsEnum h e it ((i : Nat) : Int) old) ∧ h.IsTupleIter it a i ∧ e ≠ it) where
  mem := by simp
  obj := fun i h st b hb => by
    obtain ⟨⟨old, he⟩, ⟨o, ho, hc, hd⟩, _⟩ := st
    rcases (show b = e ∨ b = it by simpa using hb) with z | z
    · rw [z]
      exact ⟨_, he, fun v q => nomatch q⟩
    · rw [z]
      exact ⟨o, ho, fun v q => by rw [hd] at q; cases q⟩
  keep := fun i h h' st k => ⟨st.1.imp fun old he => k e (by simp) _ he, st.2.1.at fun o q => k it (by simp) o q, st.2.2⟩
  item := by
    intro X hP hw hK hc i pins s σ H E I hf st hg
    subst hP hw hK
    obtain ⟨⟨old, he⟩, hit, hne⟩ := st
    obtain ⟨xs, x, hq, hx⟩ := hg
    obtain ⟨its, rv, p, hz⟩ := I.tuple hq
    obtain ⟨u, hu, ru⟩ := rv.get hx
    have hel : e < s.heap.objs.size := Heap.lt_size he
    have hil : it < s.heap.objs.size := by obtain ⟨_, q, _⟩ := hit; exact Heap.lt_size q
    have pt : s.heap.IsTuple a its.toArray := p
    have ane : a ≠ it := fun z => by
      obtain ⟨o1, e1, c1, _⟩ := pt
      obtain ⟨o2, e2, c2, _⟩ := hit
      rw [z, e2] at e1
      cases e1
      rw [c1] at c2
      injection c2 with q
      exact absurd q (by decide)
    have ae : a ≠ e := fun z => by
      obtain ⟨o1, e1, c1, _⟩ := pt
      have e2 : s.heap.get? e = _ := he
      rw [z, e2] at e1
      cases e1
      injection (show Value.type "enumerate" = Value.type "tuple" from c1) with q
      exact absurd q (by decide)
    have hi : i < its.toArray.size := by
      rw [List.size_toArray, ← rv.length]
      exact (List.getElem?_eq_some_iff.mp hx).1
    refine wpAny_pyNext_enum_itemD (Draws.tuple (A := X.A.in1) (I.ok.hd hc) it a ane its.toArray) he ⟨hit, pt⟩ hi hne (by simp [hne, Ne.symm ae]) fun y h' tk hy ho st' hT hsz hk => ?_
    have ey : y = u := by
      have q1 : its.toArray[i]? = some u := by simpa using hu
      rw [q1] at hy
      exact (Option.some.inj hy).symm
    subst ey
    refine ⟨_, rfl, wpAny_letOwnedTupleGo_enum (s := { s with heap := h', toks := tk + 1 }) ho fun h'' he' sb => ?_⟩
    have hT2 : h''.get? s.heap.objs.size = some { cls := .type "tuple", data := .seq #[.int i tk, y] } := (sb.2 _ (Nat.ne_of_gt hel)).trans hT
    have new : ObjOk X.prog X.w (upd H s.heap.objs.size (.tup [.int (i : Nat), x])) h'' s.heap.objs.size (.tup [.int (i : Nat), x]) :=
      ⟨by show 2 ≤ sizeLine; decide, [.int i tk, y], .cons ⟨_, rfl⟩ (.cons ru .nil), ⟨_, hT2, rfl, _, rfl⟩⟩
    have I1 : Inv X pins σ (upd H s.heap.objs.size (.tup [.int (i : Nat), x])) { s with heap := h'', toks := tk + 1 } :=
      I.turnedNew (ch := [e, it]) (fun b ob hb q => (sb.2 b (fun z => hb (by simp [z]))).trans (hk b ob (fun z => hb (by simp [z])) (fun z => hb (by simp [z])) q)) hf (Nat.le_refl _) new
    refine ⟨.ref s.heap.objs.size, _, I1, rfl, ⟨_, x, rfl, I.hok.fresh (Nat.le_refl _), rfl, fun ys hy => by rw [I.tuple_inj hy hq]; exact hx⟩, ⟨⟨y, ?_⟩, st'.1.at fun o q => (sb.2 it (Ne.symm hne)).trans q, hne⟩, fun b hb => ?_⟩
    · rw [show ((i + 1 : Nat) : Int) = (i : Int) + 1 by omega]
      exact he'
    · have hb' : b < s.heap.objs.size := by
        rcases (show b = e ∨ b = it by simpa using hb) with z | z
        · exact z ▸ hel
        · exact z ▸ hil
      rw [upd_ne (Nat.ne_of_lt hb')]
      exact (hf b hb).1
  done := by
    intro X hP hw hK hc i pins s σ H E I hf st hg
    subst hP hw hK
    obtain ⟨⟨old, he⟩, hit, hne⟩ := st
    obtain ⟨xs, hq, hx⟩ := hg
    obtain ⟨its, rv, p, hz⟩ := I.tuple hq
    obtain ⟨f0, f1, f2, f3, f4, f5⟩ := hf it (by simp)
    have hl := rv.length
    have pt : s.heap.IsTuple a its.toArray := p
    have ane : a ≠ it := fun z => by
      obtain ⟨o1, e1, c1, _⟩ := pt
      obtain ⟨o2, e2, c2, _⟩ := hit
      rw [z, e2] at e1
      cases e1
      rw [c1] at c2
      injection c2 with q
      exact absurd q (by decide)
    subst hx
    refine wpAny_pyNext_enum_endD (Draws.tuple (A := X.A.in1) (I.ok.hd hc) it a ane its.toArray) he ⟨?_, pt⟩ fun h' eb => ⟨rfl, I.turned (t' := s.toks) (fun b o hb q => eb b o hb q) f0 f1 f3 f4 f5⟩
    rw [List.size_toArray, ← hl]
    exact hit
  self := fun A i s Q E st h => let ⟨⟨_, he⟩, _⟩ := st; wpAny_pyIter_enum he h
def iEnumT (K : PySem.W.Frag) (ta : TA) : TI := fun σ H R => ta σ H fun vs H1 => ∃ a xs, vs = [.ref a] ∧ SqT K H1 a xs ∧ R (IteT K a) H1
theorem pi_enumT {X : Cx} {e : Expr} {ta : TA} {p pos tpos : Pos} {elts : List Expr} {kk : Nat} (hg : Gl X "enumerate") (hm : X.mg "enumerate" = none) (ha : PA X [e] ta) (hs : starEach [e] X.env = [(false, eval e X.env)] := by rfl) :
    PI X (.Tuple elts kk tpos) (.Call (.Name "enumerate" p) [e] [] pos) (iEnumT X.K ta) := by
  refine ⟨fun pins s σ H R I h => ?_⟩
  refine Call_ (ld_blt I hg hm boot_enumerate (PyProof.Rows.callWith_type1 (thn (ha.run pos pins s σ H _ I h) fun us s1 ⟨vs, H1, I1, r1, q1⟩ => ?_) hs rfl))
  obtain ⟨a, xs, rfl, hq, q⟩ := q1
  cases r1 with
  | cons r rr =>
    cases rr
    cases r
    obtain ⟨its, rv, pt, hz⟩ := I1.tuple hq
    refine call_enumT (show s1.heap.IsTuple a its.toArray from pt) fun h' he hit hk => wpAny_pyIter_enum he ?_
    have I2 : Inv X pins σ H1 { s1 with heap := h' } := I1.kept (t' := s1.toks) hk
    refine ⟨s1.heap.objs.size + 1, [s1.heap.objs.size + 1, s1.heap.objs.size], _, _, H1, rfl, I2, turn_enumT a (s1.heap.objs.size + 1) s1.heap.objs.size, ⟨⟨.none, he⟩, hit, Nat.succ_ne_self _⟩, fun b hb => ?_, q⟩
    have hle : s1.heap.objs.size ≤ b := by
      rcases (show b = s1.heap.objs.size + 1 ∨ b = s1.heap.objs.size by simpa using hb) with z | z
      · rw [z]
        exact Nat.le_add_right _ _
      · rw [z]
        exact Nat.le_refl _
    exact I1.fpOk hle (I1.hok.fresh hle)
theorem w_enumT {K : PySem.W.Frag} {a : Addr} {xs : List V} : Walk (IteT K a) xs.length (fun H => SqT K H a xs) (RD.YP (fun i => some (.int (i : Nat))) (fun i => xs[i]?)) := by
  refine ⟨fun i _ hi q => ⟨xs, xs[i], q, by simp [hi]⟩, fun _ q => ⟨xs, q, rfl⟩, fun i H v H' _ q y => ?_⟩
  obtain ⟨T, x, h1, h2, h3, h4⟩ := y
  subst h3
  exact ⟨T, .int (i : Nat), x, h1, h2, RD.same_new h2, upd_same, rfl, h4 xs q⟩
section
variable {K : PySem.W.Frag} {tx : TA} {σ : L2.St} {H : Hp} {R : It → Hp → Prop}
theorem ienumT (h : tx σ H fun vs H1 => ∃ a xs, vs = [.ref a] ∧ SqT K H1 a xs ∧ R (IteT K a) H1) : iEnumT K tx σ H R := h
theorem ienumTV {a : Addr} {xs : List V} {S : Addr → Prop} (hx : SqT K H a xs) (h : S a) : ∃ b ys, [V.ref a] = [.ref b] ∧ SqT K H b ys ∧ S b := ⟨a, xs, rfl, hx, h⟩
end
/-! ### tuple[::-1] -/
section
variable {prog : Program} {w : World} {A : Around} {E : Value → Shared → Prop} {s : Shared}
theorem applied_rev {sl : Addr} {vl vu vs : Value} {n : Nat} {Q : Int × Int × Nat → Shared → Prop} (hs : s.heap.IsSliceOf sl vl vu vs) (pl : IsPart vl none) (pu : IsPart vu none) (ps : IsPart vs (some (-1)))
    (h : Q ((n : Int) - 1, -1, n) s) : wpAny (model prog w) A (Builtin.Slice.sliceApplied (.ref sl) (pure (n : Int))) Q E s := by
  obtain ⟨o, ho, hc, hd⟩ := id hs
  unfold Builtin.Slice.sliceApplied Builtin.Slice.sliceFields
  refine wpAny_bind (wpAny_bind (wpAny_field ho hd (x := vl) rfl (wpAny_bind (wpAny_field ho hd (x := vu) rfl (wpAny_bind (wpAny_field ho hd (x := vs) rfl (wpAny_pure ?_)))))))
  refine wpAny_bind (HT.slicePart_ ps ?_)
  show wpAny _ _ (if ((-1 : Int) == 0) = true then _ else _) _ _ s
  rw [if_neg (by decide)]
  refine wpAny_bind (HT.slicePart_ pl (wpAny_bind (HT.slicePart_ pu (wpAny_bind (wpAny_pure ?_)))))
  show wpAny _ _ (match Builtin.Slice.sliceAdjust none none (-1) (n : Int) with | (lo, hi) => pure (lo, (-1 : Int), Builtin.Slice.slicePlaces lo hi (-1))) _ _ s
  have e1 : Builtin.Slice.sliceAdjust none none (-1) (n : Int) = ((n : Int) - 1, -1) := rfl
  rw [e1]
  show wpAny _ _ (pure ((n : Int) - 1, (-1 : Int), Builtin.Slice.slicePlaces ((n : Int) - 1) (-1) (-1))) _ _ s
  have e2 : Builtin.Slice.slicePlaces ((n : Int) - 1) (-1) (-1) = n := by
    unfold Builtin.Slice.slicePlaces
    rw [if_neg (by decide)]
    have e : (- -1 : Int) = 1 := by decide
    rw [e, Int.ediv_one]
    split <;> omega
  rw [e2]
  exact wpAny_pure h
theorem pick_rev (xs : Array Value) : ((List.range xs.size).filterMap fun (m : Nat) => xs[(((xs.size : Int) - 1) + (m : Int) * -1).toNat]?).toArray = xs.toList.reverse.toArray := by
  have e : (fun (m : Nat) => xs[(((xs.size : Int) - 1) + (m : Int) * -1).toNat]?) = (fun j => xs[j]?) ∘ fun m => xs.size - 1 - m := by
    funext m
    show xs[(((xs.size : Int) - 1) + (m : Int) * -1).toNat]? = xs[xs.size - 1 - m]?
    rw [show (((xs.size : Int) - 1) + (m : Int) * -1).toNat = xs.size - 1 - m by omega]
  rw [e, ← List.filterMap_map, PySem.W.krv_range, List.filterMap_reverse, PySem.W.krv_all]
theorem item_rev {t sl : Addr} {items : Array Value} {vl vu vs : Value} {Q : Value → Shared → Prop} (ht : IsTup s.heap t items) (hs : s.heap.IsSliceOf sl vl vu vs) (pl : IsPart vl none) (pu : IsPart vu none) (ps : IsPart vs (some (-1)))
    (h : Q (.ref s.heap.objs.size) { s with heap := s.heap.push { cls := .type "tuple", data := .seq items.toList.reverse.toArray } }) (hz : items.size ≤ sizeLine) : wpAny (model prog w) A (getItem (.ref t) (.ref sl)) Q E s := by
  have big : sizeOk (.seq items.toList.reverse.toArray) := by
    show items.toList.reverse.toArray.size ≤ sizeLine
    rw [List.size_toArray, List.length_reverse, Array.length_toList]
    exact hz
  obtain ⟨o, ho, hc, hd⟩ := id hs
  have hT : s.TypeIs (.ref sl) "slice" := ⟨o, ho, hc⟩
  unfold getItem
  try with_reducible refine wpAny_holding ?_
  first | refine wpAny_bind (wpAny_pure ?_) | skip
  refine wpAny_bind (wpAny_sequenceKey ht.typeIs (by decide) ?_)
  refine wpAny_bind (wpAny_callSpecial?_slot (name := Str.ofString "__getitem__") ht.typeIs PyProof.Rows.slot_tuple_getitem (wpAny_call_entry PyProof.Rows.slot_tuple_getitem ht.typeIs entry_tuple_getitem ?_ (args_tuple_getitem _ _)))
  show wpAny _ _ (Builtin.Tuple.tupleItemsOf (.ref t) >>= _) _ _ s
  refine wpAny_bind (tupleItemsOf_ ht ?_)
  refine wpAny_bind (wpAny_typeOf hT ?_)
  rw [if_pos (by decide)]
  refine wpAny_bind (applied_rev hs pl pu ps ?_)
  have no : ¬ ((((items.size : Int) - 1) == 0 && (-1 : Int) == 1 && items.size == items.size) = true) := by
    rw [show ((-1 : Int) == 1) = false by decide, Bool.and_false, Bool.false_and]
    decide
  show wpAny _ _ (if ((((items.size : Int) - 1) == 0 && (-1 : Int) == 1 && items.size == items.size) = true) then _ else _) _ _ s
  rw [if_neg no, pick_rev]
  first
    | exact wpAny_bind (m := Builtin.Tuple.tupleExact _) (wpAny_newObj_type (wpAny_pure ⟨_, rfl, wpAny_pure h⟩) big)
    | exact wpAny_bind (m := Builtin.Tuple.tupleExact _) (wpAny_newObj_type (wpAny_bind (wpAny_pure (wpAny_pure ⟨_, rfl, wpAny_pure h⟩))) big)
    | exact wpAny_bind (wpAny_bind (m := Builtin.Tuple.tupleExact _) (wpAny_newObj_type (wpAny_pure (wpAny_pure ⟨_, rfl, wpAny_pure h⟩)) big))
    | exact wpAny_bind (wpAny_bind (m := Builtin.Tuple.tupleExact _) (wpAny_newObj_type (wpAny_pure ⟨_, rfl, wpAny_pure h⟩) big))
end
def tRevT (K : PySem.W.Frag) (te : TE) : TE := fun σ H Q => te σ H fun x H1 => ∃ a xs, x = .ref a ∧ SqT K H1 a xs ∧ ∀ p, H1 p = none → Q (.ref p) (upd H1 p (.tup xs.reverse))
theorem pe_revT {X : Cx} {e : Expr} {te : TE} {k : Nat} {p1 p2 p3 pos : Pos} (he : PE X e te) : PE X (.Subscript e (.Slice none none (some (.UnaryOp .USub (.Constant (.int 1) k p1) p2)) p3) pos) (tRevT X.K te) := by
  refine ⟨fun pins s σ H Q I h => ?_⟩
  refine Subscript_ (thn (he.run pins s σ H _ I h) fun v s1 ⟨x, H1, I1, r1, q1⟩ => ?_)
  obtain ⟨a, xs, rfl, hx, q⟩ := q1
  cases r1
  have st : PO X (some (.UnaryOp .USub (.Constant (.int 1) k p1) p2)) (tPart (tUn (rU fun i => .int (-i)) (tC (.int 1)))) := po_some (pe_un un_neg pe_int)
  refine wpAny_Slice (thn (po_none.run pins s1 σ H1 (fun o H2 => o = none ∧ H2 = H1) I1 ⟨rfl, rfl⟩) fun vl s2 ⟨l, H2, I2, pl, el, e2⟩ => ?_)
  subst el e2
  refine thn (po_none.run pins s2 σ H2 (fun o H3 => o = none ∧ H3 = H2) I2 ⟨rfl, rfl⟩) fun vu s3 ⟨u, H3, I3, pu, eu, e3⟩ => ?_
  subst eu e3
  refine thn (st.run pins s3 σ H3 (fun o H4 => o = some (-1) ∧ H4 = H3) I3 ⟨1, rfl, -1, rfl, rfl, rfl⟩) fun vs s4 ⟨o, H4, I4, ps, eo, e4⟩ => ?_
  subst eo e4
  have I5 : Inv X pins σ H4 { s4 with heap := s4.heap.push { cls := .type "slice", data := .fields #[vl, vu, vs] } } := I4.kept (t' := s4.toks) fun b ob q => Heap.get?_push_of_some _ q
  obtain ⟨its, r, ht, hz⟩ := I5.tuple hx
  have hlen := r.length
  show wpAny (model X.prog X.w) X.A (subscriptTail e (.Slice none none (some (.UnaryOp .USub (.Constant (.int 1) k p1) p2)) p3) (.ref a) (.ref s4.heap.objs.size)) (EP X pins σ Q) X.xe { s4 with heap := s4.heap.push { cls := .type "slice", data := .fields #[vl, vu, vs] } }
  refine tail_any (ops := [.ref a, .ref s4.heap.objs.size]) ht.typeIs (PyProof.Rows.slot_tuple_getitem.lookup) ?_ (by with_unfolding_all rfl)
  refine item_rev ht (Heap.IsSliceOf.new _ vl vu vs) pl pu ps ?_ (by rw [List.size_toArray]; omega)
  refine ⟨.ref _, _, I5.laid (t' := s4.toks) (o := .tup xs.reverse) (fun b ob q => Heap.get?_push_of_some _ q) (Nat.le_refl _) ?_, rfl, q _ (I5.hok.fresh (Nat.le_refl _))⟩
  exact ⟨by rw [List.length_reverse]; exact hz, _, r.reverse, IsTup.new _ _⟩
/-! ### list(text) -/
theorem vals_get : ∀ (vs : List V) (us : List Value), vs.length = us.length → (∀ (i : Nat) (v : V) (u : Value), vs[i]? = some v → us[i]? = some u → RelV v u) → Vals vs us
  | [], [], _, _ => .nil
  | [], _ :: _, e, _ => by cases e
  | _ :: _, [], e, _ => by cases e
  | v :: vs, u :: us, e, h => .cons (h 0 v u rfl rfl) (vals_get vs us (Nat.succ.inj e) fun i a b h1 h2 => h (i + 1) a b h1 h2)
theorem items_strs {x : Str} {acc : Array Value} {n : Nat} (h : ItemsOf (SignAt x) acc n) (hn : n = x.cps.size) : Vals (x.cps.toList.map fun c => V.str ⟨#[c]⟩) acc.toList := by
  obtain ⟨h1, h2⟩ := h
  refine vals_get _ _ (by rw [List.length_map, Array.length_toList, Array.length_toList, h1, hn]) fun i v u hv hu => ?_
  rw [Array.getElem?_toList] at hu
  obtain ⟨c, t, hc, rfl⟩ := h2 i u hu
  rw [List.getElem?_map, Array.getElem?_toList, hc] at hv
  obtain rfl := Option.some.inj hv
  exact ⟨t, rfl⟩
theorem call_listS {X : Cx} (hc : X.calm = true) : CallR X (.type "list") (fun xs H Q => ∃ x : Str, xs = [.str x] ∧ x.cps.size ≤ sizeLine ∧ ∀ l, H l = none → Q (.ref l) (upd H l (.lst (x.cps.toList.map fun c => V.str ⟨#[c]⟩)))) := by
  intro pins s σ H xs us Q I r h
  obtain ⟨x, rfl, hz, q⟩ := h
  obtain ⟨u, rfl, t, rfl⟩ := vals1 r
  refine call_list_str (I.ok.hd hc) x t (fun h' tk acc c kp e hi => ?_) hz
  exact ⟨.ref s.heap.objs.size, _, I.laid (t' := tk) kp (Nat.le_refl _) (show ObjOk X.prog X.w _ h' _ (.lst _) from ⟨by rw [List.length_map, Array.length_toList]; exact hz, acc.toList, c, items_strs hi rfl, e⟩), rfl, q _ (I.hok.fresh (Nat.le_refl _))⟩
/-! ### == and != by an own __eq__ -/
section
variable {prog : Program} {w : World} {A : Around} {E : Value → Shared → Prop} {s : Shared} {K : PySem.W.Frag} {x C L f : Addr} {ox : Obj} {od : Option Obj} {b tb : Value}
theorem call_ne {Q : Value → Shared → Prop} (hu : A.units + 8 < cLine) (KX : K.In s.heap) (I : PySem.W.InstAt s.heap x ox C od) (hob : PySem.W.subIn K (.ref C) (.type "object") = some true)
    (hs : PySem.W.findIn K (.ref C) "__eq__" = some (some (.ref f))) (hf : PySem.W.isFn K (.ref f) = true)
    (h : wpAny (model prog w) A.in1 (call (.ref f) [.ref x, b]) (fun v s' => ∃ r, v = .bool r ∧ Q (.bool (!r)) s') E s) : wpAny (model prog w) A (call (.builtin "object.__ne__") [.ref x, b]) Q E s := by
  refine wpAny_call (codeAny_call_builtin PySem.F.cmp_object.ne.plain PySem.F.cmpEntry_ne ?_)
  simp only [checkBuiltinCall, PySem.F.cmpKind_ne, PySem.F.cmpSplit_ne]
  have ha := PySem.F.cmpArgs_ne (.ref x) b
  have LI : PySem.W.Looks (model prog w) s.heap (isInstance (.ref x) (.type "object")) true := I.type.andThen (PySem.W.looks_subIn KX hob)
  refine wpAny_bind (LI.here ?_)
  have body : wpAny (model prog w) A.in1 (Builtin.«object.__ne__» ⟨[.ref x, b], []⟩) (fun fin s' => match fin with
      | .done fl => wants Q E (.ok fl) s'
      | .again c => c.quiet = true ∧ codeAny (model prog w) A c (wants Q E) s') E s := by
    unfold Builtin.«object.__ne__»
    refine wpAny_bind (m := slotArgs "__ne__" 1 ⟨[.ref x, b], []⟩) (wpAny_of_eq (a := (.ref x, [b])) rfl ?_)
    dsimp only
    refine wpAny_bind (wpAny_cRoomFor (by show A.units + 1 < cLine; omega) ?_)
    refine wpAny_bind (PySem.W.ifBound_K KX I hs hf (wpAny_mono h (fun v s' z => ?_) fun _ _ e => e))
    obtain ⟨r, rfl, q⟩ := z
    dsimp only
    unfold truthy
    dsimp only
    exact wpAny_bind (wpAny_pure (wpAny_pure q))
  cases hsig : Manifest.signature? "object.__ne__" with
  | none => exact wpAny_pure body
  | some sig =>
    simp only [argsOk, hsig] at ha
    have h2 : Bind.checkArgs "object.__ne__" sig ⟨[.ref x, b], []⟩ = pure () := ha
    show wpAny _ A.in1 (Bind.checkArgs "object.__ne__" sig ⟨[.ref x, b], []⟩) _ _ _
    rw [h2]
    exact wpAny_pure body
theorem ne_own {Q : Value → Shared → Prop} (hu : A.units + 8 < cLine) (KX : K.In s.heap) (I : PySem.W.InstAt s.heap x ox C od) (hb : PySem.W.Looks (model prog w) s.heap (typeOf b) tb) (hn : PySem.W.notFirst K C tb = true)
    (hne : PySem.W.findIn K (.ref C) "__ne__" = some (some (.builtin "object.__ne__"))) (hob : PySem.W.subIn K (.ref C) (.type "object") = some true)
    (hs : PySem.W.findIn K (.ref C) "__eq__" = some (some (.ref f))) (hf : PySem.W.isFn K (.ref f) = true)
    (h : wpAny (model prog w) A.in1 (call (.ref f) [.ref x, b]) (fun v s' => ∃ r, v = .bool r ∧ Q (.bool (!r)) s') E s) : wpAny (model prog w) A (richCompare .NotEq (.ref x) b) Q E s := by
  have told : wpAny (model prog w) A (tryCompare (.ref x) (cmpInfo .NotEq).2.1 b) (fun r s' => ∃ v, r = some v ∧ Q v s') E s := by
    unfold tryCompare
    refine wpAny_bind ?_
    show wpAny _ A (callSpecialIfBound? (.ref x) "__ne__" [b]) _ _ s
    simp only [callSpecialIfBound?, bindSpecialIfBound?]
    refine wpAny_holding (wpAny_bind (wpAny_bind (wpAny_bind (I.type.here ((PySem.W.looks_findIn KX hne).here ?_)))))
    have fin : wpAny (model prog w) A (call (.builtin "object.__ne__") ([.ref x] ++ [b]) >>= fun v => pure (some v)) (fun r s' => wpAny (model prog w) A (match r with
        | some .notImplemented | none => pure none
        | some v => pure (some v)) (fun r s' => ∃ v, r = some v ∧ Q v s') E s') E s :=
      wpAny_bind (call_ne hu KX I hob hs hf (wpAny_mono h (fun v s' z => by
        obtain ⟨r, e, q⟩ := z
        exact ⟨r, e, wpAny_pure (wpAny_pure ⟨_, rfl, q⟩)⟩) fun _ _ e => e))
    simp only [PySem.F.cmp_object.ne.bind]
    refine wpAny_bind (wpAny_askSetting (wpAny_ite ?_))
    split
    · exact wpAny_bind (wpAny_pure (wpAny_pure fin))
    · exact wpAny_tryCatch (wpAny_bind (wpAny_pure (wpAny_pure fin)))
  unfold richCompare
  simp only [oneThing_ref]
  refine wpAny_holding (wpAny_bind (wpAny_cRoomFor (by omega) ?_))
  refine wpAny_bind (I.type.here (wpAny_bind (hb.here ?_)))
  split
  · rename_i q
    have e : PySem.W.subIn K tb (.ref C) = some false := by
      rcases Bool.or_eq_true_iff.mp hn with e | e
      · rw [beq_iff_eq.mp e] at q
        simp at q
      · exact beq_iff_eq.mp e
    refine wpAny_bind ((PySem.W.looks_subIn KX e).here ?_)
    simp only [Bool.false_eq_true, if_false]
    refine wpAny_bind (wpAny_mono told (fun r s' z => ?_) fun _ _ e => e)
    obtain ⟨v, rfl, hq⟩ := z
    exact wpAny_pure hq
  · refine wpAny_bind (wpAny_pure ?_)
    simp only [Bool.false_eq_true, if_false]
    refine wpAny_bind (wpAny_mono told (fun r s' z => ?_) fun _ _ e => e)
    obtain ⟨v, rfl, hq⟩ := z
    exact wpAny_pure hq
end
/-- what the class must say -/
structure EqC (K : PySem.W.Frag) (C f : Addr) : Prop where
  eq : PySem.W.findIn K (.ref C) "__eq__" = some (some (.ref f))
  fn : PySem.W.isFn K (.ref f) = true
  ne : PySem.W.findIn K (.ref C) "__ne__" = some (some (.builtin "object.__ne__"))
  ob : PySem.W.subIn K (.ref C) (.type "object") = some true
def rOwn (K : PySem.W.Frag) (C : Addr) (sp : Sp) (E : XK) (neg : Bool) : R2 := fun x y H Q => ∃ (a d : Addr) (fs : List (Str × V)) (t : Value), x = .ref a ∧ H a = some (.ins C d fs) ∧ TyX K H y t ∧ PySem.W.notFirst K C t = true ∧
  sp [.ref a, y] H (fun v H' => ∃ b, v = .bl b ∧ Q (.bl (if neg = true then !b else b)) H') E
section
variable {X : Cx} {CX : CXT} {n : Nat} {C f : Addr} {fd : FuncData} {ps : List Str} {sp : Sp} {E : XK}
theorem run_own {pins : List (Addr × Obj)} {σ : L2.St} {H : Hp} {s : Shared} {Q : VK} {A : Around} {a : Addr} {y : V} {u : Value} (F : FnOk X.prog X.w X.K X.mg X.base CX n f fd ps sp) (hr : Room n A) (hf : A.frames = X.A.frames) (hb : Binds X.K fd ps []) (hx : Passes CX X E)
    (I : Inv X pins σ H s) (ry : RelV y u) (h : sp [.ref a, y] H (fun v H' => ∃ b, v = .bl b ∧ Q (.bl b) H') E) :
    wpAny (model X.prog X.w) A (call (.ref f) [.ref a, u]) (fun v s' => ∃ r, v = .bool r ∧ EP X pins σ Q (.bool r) s') X.xe s := by
  have e0 : Env0 X.prog X.w X.K X.mg X.base A X.stack s H := by
    have e := I.env0
    exact ⟨by rw [hf]; exact e.frames, e.mod, e.bs, e.bsz, e.funs, e.frf, e.hok, e.bare⟩
  have hl := F.len _ _ _ _ h
  have r2 : Vals [V.ref a, y] [Value.ref a, u] := .cons rfl (.cons ry .nil)
  refine wpAny_call (codeAny_mono (F.run A X.stack s H ⟨[.ref a, u], []⟩ [.ref a, u] [.ref a, y] _ E hr e0 (by
    have z := hb s [.ref a, u] I.kIn (by simpa using hl)
    simpa using z) r2 h) fun r s' hq => ?_)
  cases r with
  | error e => exact hx pins σ H s e s' I hq
  | ok fl =>
    cases fl with
    | ret z =>
      obtain ⟨v, H', I', rz, hh⟩ := I.after hq
      obtain ⟨b, ev, q⟩ := hh
      subst ev
      obtain rfl : z = .bool b := rz
      exact ⟨b, rfl, .bl b, H', I', rfl, q⟩
    | next => exact False.elim hq
    | brk => exact False.elim hq
    | cont => exact False.elim hq
theorem op_own (T : EqC X.K C f) (F : FnOk X.prog X.w X.K X.mg X.base CX n f fd ps sp) (hr : Room n X.A) (hb : Binds X.K fd ps []) (hx : Passes CX X E) : OpR X (compareOp .Eq) (rOwn X.K C sp E false) := by
  intro pins s σ H x y v u Q I rx ry h
  obtain ⟨a, d, fs, t, rfl, ha, ty, nf, q⟩ := h
  cases rx
  obtain ⟨mA, J, _⟩ := ins_get I.hok ha
  obtain ⟨od, J, _⟩ := J.look
  obtain ⟨P, kx, hP, _⟩ := kit_of I ry ty
  obtain ⟨m, hF⟩ := I.fr
  simp only [Bool.false_eq_true, if_false] at q
  refine PySem.W.cmp_K (op := .Eq) hr.units0 hF I.ok.mod.kin J (kx.ty _ _ I.kIn hP) nf T.eq T.fn (wpAny_mono (run_own (A := X.A) F hr rfl hb hx I ry q) (fun v s' z => ?_) fun _ _ e => e)
  obtain ⟨r, rfl, q⟩ := z
  exact q
theorem op_ownNe (T : EqC X.K C f) (F : FnOk X.prog X.w X.K X.mg X.base CX n f fd ps sp) (hr : Room (n + 1) X.A) (hb : Binds X.K fd ps []) (hx : Passes CX X E) : OpR X (compareOp .NotEq) (rOwn X.K C sp E true) := by
  intro pins s σ H x y v u Q I rx ry h
  obtain ⟨a, d, fs, t, rfl, ha, ty, nf, q⟩ := h
  cases rx
  obtain ⟨mA, J, _⟩ := ins_get I.hok ha
  obtain ⟨od, J, _⟩ := J.look
  obtain ⟨P, kx, hP, _⟩ := kit_of I ry ty
  refine ne_own (by have := hr.un; omega) I.kIn J (kx.ty _ _ I.kIn hP) nf T.ne T.ob T.eq T.fn (wpAny_mono (run_own (A := X.A.in1) (Q := fun v H' => ∃ b, v = .bl b ∧ Q (.bl (!b)) H') F hr.in1 rfl hb hx I ry ?_) (fun v s' z => ?_) fun _ _ e => e)
  · have e : (fun v H' => ∃ b, v = V.bl b ∧ Q (.bl (if true = true then !b else b)) H') = fun v H' => ∃ b, v = V.bl b ∧ ∃ c, V.bl b = .bl c ∧ Q (.bl (!c)) H' := by
      funext v H'
      refine propext ⟨fun ⟨b, e, q⟩ => ⟨b, e, b, rfl, q⟩, fun ⟨b, e, c, e2, q⟩ => ⟨b, e, by cases e2; exact q⟩⟩
    rw [e] at q
    exact q
  · obtain ⟨r, rfl, v, H', I', rv, b, ev, q⟩ := z
    subst ev
    have e : r = b := by
      have z : Value.bool r = .bool b := rv
      cases z
      rfl
    subst e
    exact ⟨r, rfl, .bl (!r), H', I', rfl, q⟩
end
/-! ### C(..) in a try -/
def tMakeS (C : Addr) (sp : Sp) (dvs : List V) (E : L2.St → XK) (t : TA) : TE := fun σ H Q => t σ H fun vs H1 => ∀ x dx, H1 x = none → H1 dx = none → dx ≠ x →
  sp (.ref x :: (vs ++ dvs)) (upd (upd H1 dx (.own x)) x (.ins C dx [])) (fun v H2 => v = .non ∧ Q (.ref x) H2) (E σ)
section
variable {X : Cx} {CX : CXT} {k : Nat} {C f : Addr} {fd : FuncData} {ps : List Str} {sp : Sp} {E : L2.St → XK} {x : Str} {p pos : Pos} {e : Expr} {es : List Expr} {t : TA} {dvs : List V} {ds : List Value}
theorem run_makeS {pins : List (Addr × Obj)} {σ : L2.St} {H : Hp} {s : Shared} {Q : VK} {us : List Value} {vs : List V} (M : Mk X.K C f) (F : FnOk X.prog X.w X.K X.mg X.base CX k f fd ps sp) (hr : Room (k + 1) X.A) (hb : Binds X.K fd ps ds) (hd : Vals dvs ds)
    (hx : PassesAt CX X σ (E σ)) (I : Inv X pins σ H s) (r : Vals vs us)
    (h : ∀ x dx, H x = none → H dx = none → dx ≠ x → sp (.ref x :: (vs ++ dvs)) (upd (upd H dx (.own x)) x (.ins C dx [])) (fun v H2 => v = .non ∧ Q (.ref x) H2) (E σ)) :
    wpAny (model X.prog X.w) X.A (call (.ref C) us) (EP X pins σ Q) X.xe s := by
  have hq := h (s.heap.objs.size + 1) s.heap.objs.size (I.hok.fresh (Nat.le_succ _)) (I.hok.fresh (Nat.le_refl _)) (Nat.ne_of_lt (Nat.lt_succ_self _))
  have I2 := Inv.made (C := C) I
  have r2 : Vals (V.ref (s.heap.objs.size + 1) :: (vs ++ dvs)) (Value.ref (s.heap.objs.size + 1) :: (us ++ ds)) := .cons rfl (r.append hd)
  have hl : (Value.ref (s.heap.objs.size + 1) :: us ++ ds).length = ps.length := by
    have e := r2.length
    rw [F.len _ _ _ _ hq] at e
    exact e.symm
  refine wpAny_call (make_map (f := f) I.kIn M.makes M.init (beq_iff_eq.mp M.fn) (codeAny_mono (F.run _ X.stack _ _ ⟨Value.ref (s.heap.objs.size + 1) :: us, []⟩ (Value.ref (s.heap.objs.size + 1) :: (us ++ ds)) _ _ (E σ) (hr.make C us [])
    (I2.env0.make C us []) (hb _ (Value.ref (s.heap.objs.size + 1) :: us) I2.kIn hl) r2 hq) fun r s' hq' => ?_))
  cases r with
  | error e => exact hx pins _ _ e s' I2 hq'
  | ok fl =>
    cases fl with
    | ret u =>
      obtain ⟨v, H', I3, rv, ev, q3⟩ := I2.after hq'
      subst ev
      exact ⟨rv, ⟨V.ref (s.heap.objs.size + 1), H', I3, rfl, q3⟩⟩
    | next => exact False.elim hq'
    | brk => exact False.elim hq'
    | cont => exact False.elim hq'
theorem pe_makeS (M : Mk X.K C f) (F : FnOk X.prog X.w X.K X.mg X.base CX k f fd ps sp) (hr : Room (k + 1) X.A) (hg : Gl X x) (hm : X.mg x = some (.ref C)) (hb : Binds X.K fd ps ds) (hd : Vals dvs ds) (hx : ∀ σ, PassesAt CX X σ (E σ))
    (ha : PA X (e :: es) t) (hdb : (x == ("__debug__" : Str)) = false := by decide) (he : starEach (e :: es) X.env = (false, eval e X.env) :: starEach es X.env := by rfl) (hpl : (backTo pos (starEach es X.env)).any (·.1) = false := by rfl) :
    PE X (.Call (.Name x p) (e :: es) [] pos) (tMakeS C sp dvs E t) := by
  refine ⟨fun pins s σ H Q I h => ?_⟩
  refine wpAny_Call_Name_kw (ld_glob I hg hm ?_ hdb)
  refine PySem.W.callWith_K (h₀ := X.base) I.ok.mod.kin M.kp (thn (ha.run pos pins s σ H _ I h) fun us s1 ⟨vs, H1, I1, r, q⟩ => ⟨I1.kIn, ?_⟩) he hpl
  exact run_makeS M F hr hb hd (hx σ) I1 r q
end
/-- of a callee that raises, where it does not -/
theorem passN {X : Cx} : Passes (L2.CX X.prog X.w) X (fun _ _ _ => False) := fun _ _ _ _ _ _ _ h => by
  obtain ⟨_, _, _, _, _, _, _, _, _, _, _, _, z⟩ := h
  exact z.elim
/-- X() raised, an own exception class without own __init__ -/
theorem pmk_own0 {X : Cx} {C : Addr} {x : Str} {p pos : Pos} (q : PySem.W.excIn X.K C [.type "ValueError", .type "Exception", .type "BaseException", .type "object"] "ValueError.__new__" = true) (gC : X.mg x = some (.ref C)) (kC : PySem.W.keepIn X.K (.ref C) = true)
    (b : PySem.W.subIn X.K (.ref C) (.type "BaseException") = some true) (t : PySem.W.typeIn X.K (.ref C) = some (.type "type")) (hg : Gl X x) (hdb : (x == ("__debug__" : Str)) = false := by decide) : PMk X (.Call (.Name x p) [] [] pos) (fun _ H Q => Q (.ref C) none H) := by
  intro pins s σ H Q I h
  refine wpAny_Call_Name_kw (ld_glob I hg gC ?_ hdb)
  refine PySem.W.callWith_K0 I.kIn kC ?_
  show wpAny _ _ (call (.ref C) []) _ _ _
  obtain ⟨bm, N, nm, qn, bs, hdct, sn, sub, ab, col, dd, k0, k1, k2, k3, k5, mN, hC, hN, hni, T⟩ := exc_obj I.kIn q
  refine wpAny_call_exc_subT F.excBase_ValueError T hC hN hni (fun h' e hm => ?_) (by show 0 ≤ sizeLine; exact Nat.zero_le _)
  exact mk_of I hm (raises_own b t) h (I.hok.gone hm.new)
end NR

/-! more readings -/
namespace RB
open PySem PySem.Spec PyProof.Rows L2
section
variable {K : PySem.W.Frag} {σ : L2.St} {H : Hp} {Q : VK} {ta tb tc te to : TE} {t tx : TA} {r r' : R2}
theorem chain (h : ta σ H fun x H1 => tb σ H1 fun y H2 => r x y H2 fun z H3 => ∃ k, z = .bl k ∧ (if k = true then tc σ H3 fun w' H4 => r' y w' H4 Q else Q (.bl false) H3)) : tChain r r' ta tb tc σ H Q := h
theorem inT {p : Addr} {xs : List V} {x : V} (hq : SqL K H p xs ∨ SqT K H p xs) (fx : flatV x = true) (fs : xs.all flatV = true) (q : Q (.bl (inV x xs)) H) : rIn K false x (.ref p) H Q := ⟨p, xs, rfl, hq, fx, fs, q⟩
theorem ninT {p : Addr} {xs : List V} {x : V} (hq : SqL K H p xs ∨ SqT K H p xs) (fx : flatV x = true) (fs : xs.all flatV = true) (q : Q (.bl (!inV x xs)) H) : rIn K true x (.ref p) H Q := ⟨p, xs, rfl, hq, fx, fs, q⟩
theorem inS {c : Nat} {z : Str} {R : Nat → Str → Prop} (q : R c z) : ∃ (d : Nat) (y : Str), V.str ⟨#[c]⟩ = .str ⟨#[d]⟩ ∧ V.str z = .str y ∧ R d y := ⟨c, z, rfl, rfl, q⟩
theorem lenL {p : Addr} {xs : List V} {R : Nat → Prop} (hx : SqL K H p xs) (q : R xs.length) : ∃ y n, [V.ref p] = [y] ∧ LenV K y H n ∧ R n := ⟨_, _, rfl, .inl ⟨xs, hx, rfl⟩, q⟩
theorem lenT {p : Addr} {xs : List V} {R : Nat → Prop} (hx : SqT K H p xs) (q : R xs.length) : ∃ y n, [V.ref p] = [y] ∧ LenV K y H n ∧ R n := ⟨_, _, rfl, .inr ⟨xs, hx, rfl⟩, q⟩
theorem lenS {z : Str} {R : Nat → Prop} (hz : z.length ≤ sizeLine) (q : R z.length) : ∃ y n, [V.str z] = [y] ∧ LenV K y H n ∧ R n := ⟨_, _, rfl, ⟨hz, rfl⟩, q⟩
theorem m1 {r : V → List V → Hp → VK → Prop} (h : to σ H fun x H1 => (∃ a, x = .str a) ∧ te σ H1 fun y H2 => r x [y] H2 Q) : tM1 r to te σ H Q := h
theorem strE {z : Str} {R : Prop} (q : R) : (∃ a, V.str z = .str a) ∧ R := ⟨⟨z, rfl⟩, q⟩
theorem joinV {z : Str} {p : Addr} {ys : List Str} {R : Str → List Str → Prop} (hq : SqL K H p (ys.map V.str) ∨ SqT K H p (ys.map V.str)) (hz : (ys.map (·.length)).sum + ys.length * z.length ≤ 16777216) (q : R z ys) :
    ∃ a q', ∃ ws : List Str, V.str z = .str a ∧ [V.ref p] = [.ref q'] ∧ (SqL K H q' (ws.map V.str) ∨ SqT K H q' (ws.map V.str)) ∧ (ws.map (·.length)).sum + ws.length * a.length ≤ 16777216 ∧ R a ws := ⟨z, p, ys, rfl, rfl, hq, hz, q⟩
theorem cut_all {xs : List V} {lo hi : Option Int} (h : HT.sIx xs.length 0 lo = 0 ∧ HT.sIx xs.length xs.length hi = xs.length) : cutV xs lo hi = xs := by
  unfold cutV
  rw [h.1, h.2, List.drop_zero]
  exact List.take_of_length_le (by omega)
theorem slT {a : Addr} {xs : List V} {lo hi : Option Int} (hx : H a = some (.tup xs)) (h : ∀ p H', Same H H' → H' p = some (.tup (cutV xs lo hi)) → (p = a ∨ H p = none) → Q (.ref p) H') : rSlA K (.ref a) lo hi H Q := by
  refine ⟨a, xs, rfl, .inl (.inl hx), fun hw => ?_, fun _ p hp => h p _ (RD.same_new hp) upd_same (.inr hp)⟩
  exact h a H (Same.refl _) (by rw [cut_all hw]; exact hx) (.inl rfl)
theorem catT {a b : Addr} {xs ys : List V} (ha : H a = some (.tup xs)) (hb : H b = some (.tup ys)) (hz : xs.length + ys.length ≤ sizeLine)
    (h : ∀ p H', Same H H' → H' p = some (.tup (xs ++ ys)) → (p = a ∨ p = b ∨ H p = none) → Q (.ref p) H') : rCatA K (.ref a) (.ref b) H Q := by
  refine ⟨a, b, xs, ys, rfl, rfl, .inl (.inl ha), .inl (.inl hb), hz, fun e => ?_, fun _ e => ?_, fun _ _ p hp => h p _ (RD.same_new hp) upd_same (.inr (.inr hp))⟩
  · exact h b H (Same.refl _) (by rw [e, List.nil_append]; exact hb) (.inr (.inl rfl))
  · exact h a H (Same.refl _) (by rw [e, List.append_nil]; exact ha) (.inl rfl)
def RevX (K : PySem.W.Frag) (x : V) (H1 : Hp) (Q : VK) : Prop := ∃ a xs, x = .ref a ∧ SqT K H1 a xs ∧ ∀ p, H1 p = none → Q (.ref p) (upd H1 p (.tup xs.reverse))
theorem rev (h : te σ H fun x H1 => RevX K x H1 Q) : NR.tRevT K te σ H Q := h
theorem revV {a : Addr} {xs : List V} (hx : SqT K H a xs) (h : ∀ p H', H p = none → Same H H' → H' p = some (.tup xs.reverse) → Q (.ref p) H') : RevX K (.ref a) H Q := ⟨a, xs, rfl, hx, fun p hp => h p _ hp (RD.same_new hp) upd_same⟩
def rListS : List V → Hp → VK → Prop := fun xs H Q => ∃ x : Str, xs = [.str x] ∧ x.cps.size ≤ sizeLine ∧ ∀ l, H l = none → Q (.ref l) (upd H l (.lst (x.cps.toList.map fun c => V.str ⟨#[c]⟩)))
theorem call_listS {X : Cx} (hc : X.calm = true) : CallR X (.type "list") rListS := NR.call_listS hc
theorem listS {z : Str} (hz : z.cps.size ≤ sizeLine) (h : ∀ p H', H p = none → Same H H' → H' p = some (.lst (z.cps.toList.map fun c => V.str ⟨#[c]⟩)) → Q (.ref p) H') : rListS [.str z] H Q := ⟨z, rfl, hz, fun p hp => h p _ hp (RD.same_new hp) upd_same⟩
def rListO (K : PySem.W.Frag) : List V → Hp → VK → Prop := fun xs H Q => ∃ p ys, xs = [.ref p] ∧ (SqL K H p ys ∨ SqT K H p ys) ∧ ∀ l, H l = none → Q (.ref l) (upd H l (.lst ys))
theorem call_listO {X : Cx} : CallR X (.type "list") (rListO X.K) := call_list_of
theorem listO {a : Addr} {xs : List V} (hx : SqL K H a xs ∨ SqT K H a xs) (h : ∀ p H', H p = none → Same H H' → H' p = some (.lst xs) → Q (.ref p) H') : rListO K [.ref a] H Q := ⟨a, xs, rfl, hx, fun p hp => h p _ hp (RD.same_new hp) upd_same⟩
def rTupO (K : PySem.W.Frag) : List V → Hp → VK → Prop := fun xs H Q => ∃ p ys, xs = [.ref p] ∧ ((SqL K H p ys ∧ ∀ l, H l = none → Q (.ref l) (upd H l (.tup ys))) ∨ (SqT K H p ys ∧ Q (.ref p) H))
theorem call_tupO {X : Cx} : CallR X (.type "tuple") (rTupO X.K) := call_tuple_of
theorem tupL {a : Addr} {xs : List V} (hx : SqL K H a xs) (h : ∀ p H', H p = none → Same H H' → H' p = some (.tup xs) → Q (.ref p) H') : rTupO K [.ref a] H Q := ⟨a, xs, rfl, .inl ⟨hx, fun p hp => h p _ hp (RD.same_new hp) upd_same⟩⟩
theorem fld {f : Str} (h : ta σ H fun x H1 => ∃ a C dx fs v, x = .ref a ∧ H1 a = some (.ins C dx fs) ∧ Cls K C ∧ NoAttr K C f ∧ fs.lookup f = some v ∧ Q v H1) : tFld K ta f σ H Q := h
theorem fldV {a C dx : Addr} {fs : List (Str × V)} {v : V} {f : Str} {R : V → Prop} (ha : H a = some (.ins C dx fs)) (c : Cls K C) (n : NoAttr K C f) (l : fs.lookup f = some v) (q : R v) :
    ∃ b D dy gs w, V.ref a = .ref b ∧ H b = some (.ins D dy gs) ∧ Cls K D ∧ NoAttr K D f ∧ gs.lookup f = some w ∧ R w := ⟨a, C, dx, fs, v, rfl, ha, c, n, l, q⟩
def SSX (v : V) (H1 : Hp) (Q : VK) : Prop := ∃ x : Str, v = .str x ∧ x.cps.size ≤ 4000 ∧ ∀ (ys : List Str) (p : Addr), SST.Own x ys → H1 p = none → Q (.ref p) (upd H1 p (.lst (ys.map V.str)))
theorem ss (h : te σ H fun v H1 => SSX v H1 Q) : SST.tSS te σ H Q := h
theorem ssV {z : Str} (hz : z.cps.size ≤ 4000) (h : ∀ ys p H', SST.Own z ys → H p = none → Same H H' → H' p = some (.lst (ys.map V.str)) → Q (.ref p) H') : SSX (.str z) H Q := ⟨z, rfl, hz, fun ys p ho hp => h ys p _ ho hp (RD.same_new hp) upd_same⟩
theorem w_str {z : Str} : Walk (Its z) z.cps.size (fun _ => True) (YAt (z.cps.toList.map fun c => V.str ⟨#[c]⟩)) := walk_str.mono (fun _ h => h) fun i H x H' _ _ y => by
  obtain ⟨rfl, c, hc, rfl⟩ := y
  refine ⟨rfl, ?_⟩
  rw [List.getElem?_map, Array.getElem?_toList, hc]
  rfl
end
section
variable {K : PySem.W.Frag} {σ : L2.St} {H : Hp} {ta tv : TE} {t : TA} {D : Ends} {Q : VK}
theorem setF {f : Str} (h : tv σ H fun y H1 => ta σ H1 fun x H2 => ∃ a C dx fs, x = .ref a ∧ H2 a = some (.ins C dx fs) ∧ Cls K C ∧ NoAttr K C f ∧ fs.length < 1000 ∧ D.nx σ (upd H2 a (.ins C dx (putF f y fs)))) : sFld K ta tv f D σ H := h
theorem setFV {a C dx : Addr} {fs : List (Str × V)} {y : V} {f : Str} {R : Hp → Prop} (ha : H a = some (.ins C dx fs)) (c : Cls K C) (n : NoAttr K C f) (l : fs.length < 1000) (q : ∀ H', RD.KB a H H' → H' a = some (.ins C dx (putF f y fs)) → R H') :
    ∃ b D dy gs, V.ref a = .ref b ∧ H b = some (.ins D dy gs) ∧ Cls K D ∧ NoAttr K D f ∧ gs.length < 1000 ∧ R (upd H b (.ins D dy (putF f y gs))) := ⟨a, C, dx, fs, rfl, ha, c, n, l, q _ RD.kb_upd upd_same⟩
def MakeX (C : Addr) (sp : Sp) (vs : List V) (E : XK) (H1 : Hp) (Q : VK) : Prop := ∀ x dx, H1 x = none → H1 dx = none → dx ≠ x → sp (.ref x :: vs) (upd (upd H1 dx (.own x)) x (.ins C dx [])) (fun v H2 => v = .non ∧ Q (.ref x) H2) E
theorem make {C : Addr} {sp : Sp} {dvs : List V} {E : XK} (h : t σ H fun vs H1 => MakeX C sp (vs ++ dvs) E H1 Q) : tMake C sp dvs E t σ H Q := h
theorem makeS {C : Addr} {sp : Sp} {dvs : List V} {E : L2.St → XK} (h : t σ H fun vs H1 => MakeX C sp (vs ++ dvs) (E σ) H1 Q) : NR.tMakeS C sp dvs E t σ H Q := h
/-- the new instance -/
theorem made {C : Addr} {H1 : Hp} {sp : Sp} {vs : List V} {E : XK} (h : ∀ x H2 dx, H1 x = none → Same H1 H2 → H2 x = some (.ins C dx []) → sp (.ref x :: vs) H2 (fun v H2 => v = .non ∧ Q (.ref x) H2) E) : MakeX C sp vs E H1 Q := fun x dx hx hd n =>
  h x _ dx hx (fun b o e => by
    have n1 : b ≠ x := fun z => by subst z; rw [hx] at e; cases e
    have n2 : b ≠ dx := fun z => by subst z; rw [hd] at e; cases e
    unfold upd
    rw [if_neg n1, if_neg n2]
    exact e) upd_same
end
/-- X(e) raised: the error's own dict d, all else as it was -/
theorem mkO {C : Addr} {fld : Str} {ta : TA} {σ : L2.St} {H : Hp} {Q : XK} (h : ta σ H fun vs H1 => vs.length ≤ 1000 ∧ ∀ a, H1 a = none → SPX.spSi C fld (.ref a :: (vs ++ [])) (upd H1 a (exo a C none))
    (fun v H2 => v = .non ∧ ∃ (d : Addr) (fs : List (Str × V)), H2 a = some (exo a C (some d)) ∧ H2 d = some (exd d fs) ∧ H1 d = none ∧ Q (.ref C) (some d) (upd (del H2 a) d (.xd fs))) (fun _ _ _ => False)) : tMkO C (SPX.spSi C fld) [] ta σ H Q := h
theorem mkOV {C : Addr} {fld : Str} {v : V} {H1 : Hp} {Q : XK} (h : ∀ d H', H1 d = none → Same H1 H' → H' d = some (.xd [(fld, v)]) → Q (.ref C) (some d) H') :
    [v].length ≤ 1000 ∧ ∀ a, H1 a = none → SPX.spSi C fld (.ref a :: ([v] ++ [])) (upd H1 a (exo a C none))
      (fun u H2 => u = .non ∧ ∃ (d : Addr) (fs : List (Str × V)), H2 a = some (exo a C (some d)) ∧ H2 d = some (exd d fs) ∧ H1 d = none ∧ Q (.ref C) (some d) (upd (del H2 a) d (.xd fs))) (fun _ _ _ => False) := by
  refine ⟨(by show 1 ≤ 1000; decide), fun a ha => ⟨a, v, rfl, upd_same, fun d hd n => ⟨rfl, d, [(fld, v)], upd_same, ?_, ?_, ?_⟩⟩⟩
  · rw [upd_ne n, upd_same]
  · rw [upd_ne n] at hd
    exact hd
  · have hd1 : H1 d = none := by
      rw [upd_ne n] at hd
      exact hd
    refine h d _ hd1 (fun b o e => ?_) upd_same
    have n1 : b ≠ a := fun z => by subst z; rw [ha] at e; cases e
    have n2 : b ≠ d := fun z => by subst z; rw [hd1] at e; cases e
    rw [upd_ne n2, del_ne n1, upd_ne n1, upd_ne n2, upd_ne n1]
    exact e
section
variable {σ : L2.St} {H : Hp} {Q : VK}
theorem xf {a C : Addr} {cls : Value} {d : Option Addr} {f : Str} {te : TE} (h : te σ H fun x H1 => x = .ref a ∧ cls = .ref C ∧ ∃ (dd : Addr) (fs : List (Str × V)) (v : V), d = some dd ∧ H1 dd = some (.xd fs) ∧ fs.lookup f = some v ∧ Q v H1) : tXf a cls d C f te σ H Q := h
theorem xfV {a C dd : Addr} {fs : List (Str × V)} {v : V} {f : Str} {R : V → Prop} (hd : H dd = some (.xd fs)) (l : fs.lookup f = some v) (q : R v) :
    V.ref a = .ref a ∧ Value.ref C = .ref C ∧ ∃ (dy : Addr) (gs : List (Str × V)) (u : V), some dd = some dy ∧ H dy = some (.xd gs) ∧ gs.lookup f = some u ∧ R u := ⟨rfl, rfl, dd, fs, v, rfl, hd, l, q⟩
end
theorem pe_fldK {X : Cx} {K : PySem.W.Frag} (hK : X.K = K) {e : Expr} {ta : TE} {f : Str} {pos : Pos} (he : PE X e ta) (hb : attributeBase e f X.env (eval e X.env) = eval e X.env) : PE X (.Attribute e f pos) (tFld K ta f) := by
  subst hK
  exact pe_fld he hb
theorem par3 {i j l : Nat} {tx : TA} {D : Ends} {σ : L2.St} {H : Hp} (h : tx σ H fun vs H1 => ∃ u v w, vs = [u, v, w] ∧ D.nx (((σ.set i (some u)).set j (some v)).set l (some w)) H1) : tPar3 i j l tx D σ H := h
theorem par3V {x y z : V} {R : V → V → V → Prop} (h : R x y z) : ∃ u v w, [x, y, z] = [u, v, w] ∧ R u v w := ⟨x, y, z, rfl, h⟩
theorem slS {z : Str} {lo hi : Option Int} {H : Hp} {Q : VK} (hz : z.length ≤ sizeLine) (q : Q (.str (cutS z lo hi)) H) : rSlS (.str z) lo hi H Q := ⟨z, rfl, hz, q⟩
/-! ### sizes, data of such lists -/
def LN (m : Nat) (xs : List V) : Prop := xs.length ≤ m
theorem LN.cut {m : Nat} {xs : List V} {lo hi : Option Int} (h : LN m xs) : LN m (cutV xs lo hi) := Nat.le_trans (cutV_length xs lo hi) h
theorem LN.app {m k : Nat} {xs ys : List V} (h : LN m xs) (g : LN k ys) : LN (m + k) (xs ++ ys) := by
  show (xs ++ ys).length ≤ m + k
  rw [List.length_append]
  exact Nat.add_le_add h g
theorem LN.rev {m : Nat} {xs : List V} (h : LN m xs) : LN m xs.reverse := by
  show xs.reverse.length ≤ m
  rw [List.length_reverse]
  exact h
theorem LN.lit {m : Nat} {xs : List V} (h : xs.length = m) : LN m xs := Nat.le_of_eq h
theorem LN.rep {m k : Nat} {xs : List V} (h : LN m xs) : LN (k * m) (List.replicate k xs).flatten := by
  show (List.replicate k xs).flatten.length ≤ k * m
  rw [List.length_flatten, List.map_replicate, List.sum_replicate_nat]
  exact Nat.mul_le_mul_left k h
theorem LN.sum {m k : Nat} {xs ys : List V} (h : LN m xs) (g : LN k ys) (e : Nat.ble (m + k) 16777216 = true) : xs.length + ys.length ≤ sizeLine := by
  rw [sizeLine_eq]
  exact Nat.le_trans (Nat.add_le_add h g) (Nat.le_of_ble_eq_true e)
open SPD in
theorem dqa_mem {x : Addr} {H : Hp} {n : Nat} : ∀ {ys : List V}, (∀ y, y ∈ ys → Dq x H n y) → DqA x H n ys
  | [], _ => .nil
  | y :: r, h => .cons (h y List.mem_cons_self) (dqa_mem fun z hz => h z (List.mem_cons_of_mem _ hz))
open SPD in
theorem dqa_cut {x : Addr} {H : Hp} {n : Nat} {xs : List V} {lo hi : Option Int} (h : DqA x H n xs) : DqA x H n (cutV xs lo hi) := dqa_mem fun y hy => h.mem y (by
  unfold cutV at hy
  exact List.mem_of_mem_drop (List.mem_of_mem_take hy))
open SPD in
theorem dqa_rev {x : Addr} {H : Hp} {n : Nat} {xs : List V} (h : DqA x H n xs) : DqA x H n xs.reverse := dqa_mem fun y hy => h.mem y (List.mem_reverse.mp hy)
open SPD in
theorem dqa_rep {x : Addr} {H : Hp} {n k : Nat} {xs : List V} (h : DqA x H n xs) : DqA x H n (List.replicate k xs).flatten := dqa_mem fun y hy => h.mem y (by
  obtain ⟨l, hl, hy⟩ := List.mem_flatten.mp hy
  rw [(List.mem_replicate.mp hl).2] at hy
  exact hy)
open SPD in
theorem dqa_strs {x : Addr} {H : Hp} {n : Nat} {zs : List Str} (h : ∀ z, z ∈ zs → z.cps.size ≤ 100000) : DqA x H n (zs.map V.str) := dqa_mem fun y hy => by
  obtain ⟨z, hz, rfl⟩ := List.mem_map.mp hy
  exact .leaf (Nat.ble_eq_true_of_le (h z hz))
open SPD in
theorem dqa_mono {x : Addr} {H : Hp} {n m : Nat} {xs : List V} (h : DqA x H n xs) (hm : n ≤ m) : DqA x H m xs := dqa_mem fun y hy => (h.mem y hy).mono m hm
open SPD in
theorem dqTupN {x : Addr} {H : Hp} {n m : Nat} {a : Addr} {xs : List V} (h : H a = some (.tup xs)) (ne : a ≠ x) (g : DqA x H n xs) (l : LN m xs) (e : Nat.ble m 16777216 = true) : Dq x H (n + 1) (.ref a) := .tup ne h (Nat.le_trans l (Nat.le_of_ble_eq_true e)) g.mem
open SPD in
theorem dqLstN {x : Addr} {H : Hp} {n m : Nat} {a : Addr} {xs : List V} (h : H a = some (.lst xs)) (ne : a ≠ x) (g : DqA x H n xs) (l : LN m xs) (e : Nat.ble m 16777216 = true) : Dq x H (n + 1) (.ref a) := .lst ne h (Nat.le_trans l (Nat.le_of_ble_eq_true e)) g.mem
theorem repL {l : Addr} {k : Int} {xs : List V} {H : Hp} {Q : VK} (hx : H l = some (.lst xs)) (hk : (-(2 ^ 63) ≤ k ∧ k < 2 ^ 63) ∧ xs.length * k.toNat ≤ sizeLine) (h : ∀ p H', H p = none → Same H H' → H' p = some (.lst (List.replicate k.toNat xs).flatten) → Q (.ref p) H') : rRep (.ref l) (.int k) H Q :=
  ⟨l, k, xs, rfl, rfl, hx, hk.1.1, hk.1.2, hk.2, fun p hp => h p _ hp (RD.same_new hp) upd_same⟩
theorem repT {K : PySem.W.Frag} {l : Addr} {k : Int} {xs : List V} {H : Hp} {Q : VK} (hx : SqT K H l xs) (hk : xs ≠ [] ∧ (2 ≤ k ∧ k ≤ 1000) ∧ xs.length ≤ 1000) (h : ∀ p H', H p = none → Same H H' → H' p = some (.tup (List.replicate k.toNat xs).flatten) → Q (.ref p) H') : rRepT K (.ref l) (.int k) H Q :=
  ⟨l, k, xs, rfl, rfl, hx, hk.1, hk.2.1.1, hk.2.1.2, hk.2.2, fun p hp => h p _ hp (RD.same_new hp) upd_same⟩
def rMulS : R2 := fun x y H Q => ∃ z n, x = .str z ∧ y = .int n ∧ MulOk z n ∧ Q (.str (Txt.mul z n)) H
theorem op_mulS {X : Cx} : OpR X (binaryOp .Mult) rMulS := by
  intro pins s σ H x y v u Q I rx ry h
  obtain ⟨z, n, rfl, rfl, hz, q⟩ := h
  obtain ⟨t, rfl⟩ := rx
  obtain ⟨t2, rfl⟩ := ry
  exact SB.mul hz fun t' k => ⟨.str (Txt.mul z n), H, I.tok _, ⟨_, rfl⟩, q⟩
theorem mulS {z : Str} {n : Int} {H : Hp} {Q : VK} (h : MulOk z n) (q : Q (.str (Txt.mul z n)) H) : rMulS (.str z) (.int n) H Q := ⟨z, n, rfl, rfl, h, q⟩
theorem addS {i j : Str} {R : Str → Str → Prop} (h : i.length + j.length ≤ sizeLine) (q : R i j) : ∃ a b, V.str i = .str a ∧ V.str j = .str b ∧ a.length + b.length ≤ sizeLine ∧ R a b := ⟨i, j, rfl, rfl, h, q⟩
section
variable {K : PySem.W.Frag} {σ : L2.St} {H : Hp} {Q : VK}
theorem bmS {z : Str} {R : Prop} (q : R) : tyV K "str" (.str z) H ∧ R := ⟨rfl, q⟩
theorem sw3 {x y : Str} {i : Int} {R : Str → Str → Int → Prop} (q : R x y i) : ∃ (a b : Str) (j : Int), V.str x = .str a ∧ [V.str y, V.int i] = [.str b, .int j] ∧ R a b j := ⟨x, y, i, rfl, rfl, q⟩
theorem ext {l b : Addr} {xs zs : List V} (h1 : H l = some (.lst xs)) (h2 : H b = some (.lst zs)) (hz : xs.length + zs.length ≤ sizeLine) (h : ∀ H2, RD.KB l H H2 → H2 l = some (.lst (xs ++ zs)) → Q .non H2) : rExtend (.ref l) [.ref b] H Q := ⟨l, b, xs, zs, rfl, rfl, h1, h2, hz, RD.mutn h⟩
theorem notInD {x y : V} {d : PyData} {ds : List PyData} (h1 : Dp K H x d) (h2 : Dp K H y (.list ds)) (s1 : SeqAt.shaped d = true) (s2 : SeqAt.shaped (.list ds) = true) (q : Q (.bl (!ds.any fun z => PyData.eqv z d)) H) : rNotInD K x y H Q := ⟨d, ds, h1, h2, s1, s2, q⟩
end
theorem pe_bmK {X : Cx} {K : PySem.W.Frag} (hK : X.K = K) {T : String} {name : Str} {id : String} {r : V → List V → Hp → VK → Prop} {o e : Expr} {es : List Expr} {to : TE} {t : TA} {apos cpos : Pos} (pa : PlainAttrs T) (slot : Slot T name id) (hty : typeOf (.builtin id) = pure (.type "method_descriptor")) (hm : MtR X id r) (ho : PE X o to) (ha : PA X (e :: es) t)
    (hbase : attributeBase o name X.env (eval o X.env) = eval o X.env := by rfl)
    (hfew : ((backTo cpos (starEach (e :: es) X.env)).all (fun x => !x.1) && (backToKw cpos (keywordEach [] X.env)).all (fun x => x.1.isSome)
      && decide ((e :: es).length + ([] : List Keyword).length + (if ([] : List Keyword).isEmpty then 0 else 1) < 30)) = true := by rfl)
    (hline : (apos.endLine == cpos.line) = true := by rfl) (hs : starEach (e :: es) X.env = (false, eval e X.env) :: starEach es X.env := by rfl) (hplain : (backTo cpos (starEach es X.env)).any (·.1) = false := by rfl) :
    PE X (.Call (.Attribute o name apos) (e :: es) [] cpos) (tBM K T r to t) := by
  subst hK
  exact pe_bm pa slot hty hm ho ha hbase hfew hline hs hplain
theorem room65 {k : Nat} {A : Around} (r : Room k A) : A.units + 65 < cLine := by
  have := r.un
  omega
theorem callS {sp : Sp} {E : L2.St → XK} {t : TA} {σ : L2.St} {H : Hp} {Q : VK} (h : t σ H fun vs H1 => sp vs H1 Q (E σ)) : tCallS sp E t σ H Q := h
end RB

/-! data apart from two changing objects (a bag and its list); more readings -/
namespace SPE
open PySem PySem.Spec PyProof.Rows L2
abbrev AX := Addr × Addr
def Off (b : Addr) (x : AX) : Prop := b ≠ x.1 ∧ b ≠ x.2
def KX (x : AX) (H H' : Hp) : Prop := ∀ b o, Off b x → H b = some o → H' b = some o
theorem KX.refl {x : AX} {H : Hp} : KX x H H := fun _ _ _ h => h
theorem KX.trans {x : AX} {H H1 H2 : Hp} (a : KX x H H1) (b : KX x H1 H2) : KX x H H2 := fun c o n h => b c o n (a c o n h)
theorem kx_of {x : AX} {H H' : Hp} (s : Same H H') : KX x H H' := fun b o _ h => s b o h
theorem kx_tr {x : AX} {H H1 H' : Hp} (h2 : KX x H1 H') (h1 : KX x H H1) : KX x H H' := h1.trans h2
theorem kx_trs {x : AX} {H H1 H' : Hp} (h2 : Same H1 H') (h1 : KX x H H1) : KX x H H' := h1.trans (kx_of h2)
theorem kx1 {x : AX} {H H1 H' : Hp} (h2 : RD.KB x.1 H1 H') (h1 : KX x H H1) : KX x H H' := fun b o n e => h2 b o n.1 (h1 b o n e)
theorem kx2 {x : AX} {H H1 H' : Hp} (h2 : RD.KB x.2 H1 H') (h1 : KX x H H1) : KX x H H' := fun b o n e => h2 b o n.2 (h1 b o n e)
/-- a fresh object changes -/
theorem kx_mut {x : AX} {H0 H H' : Hp} {p : Addr} (k : RD.KB p H H') (s : KX x H0 H) (n : H0 p = none) : KX x H0 H' := fun b o nb e => k b o (ne_of_none e n) (s b o nb e)
theorem at_kx {x : AX} {a : Addr} {H H' : Hp} {o : HO} (s : KX x H H') (n : Off a x) (h : H a = some o) : H' a = some o := s a o n h
theorem KX.seq {x : AX} {K : PySem.W.Frag} {H H' : Hp} {a : Addr} {xs : List V} (e : KX x H H') (n : Off a x) (h : SqL K H a xs) : SqL K H' a xs := by
  rcases h with (h | ⟨o, h⟩) | h
  · exact .inl (.inl (e _ _ n h))
  · exact .inl (.inr ⟨o, e _ _ n h⟩)
  · exact .inr h
theorem KX.tup {x : AX} {K : PySem.W.Frag} {H H' : Hp} {a : Addr} {xs : List V} (e : KX x H H') (n : Off a x) (h : SqT K H a xs) : SqT K H' a xs := by
  rcases h with (h | ⟨o, h⟩) | h
  · exact .inl (.inl (e _ _ n h))
  · exact .inl (.inr ⟨o, e _ _ n h⟩)
  · exact .inr h
inductive Dq (x : AX) (H : Hp) : Nat → V → Prop where
  | leaf {n : Nat} {v : V} : SPD.leaf v = true → Dq x H n v
  | dct {n : Nat} {a : Addr} {kvs : List (Key × V)} : Off a x → H a = some (.dK kvs) → (kvs.map (·.1)).Nodup → (∀ p ∈ kvs, flatB p.2 = true) → Dq x H n (.ref a)
  | tup {n : Nat} {a : Addr} {xs : List V} : Off a x → H a = some (.tup xs) → xs.length ≤ 16777216 → (∀ y, y ∈ xs → Dq x H n y) → Dq x H (n + 1) (.ref a)
  | lst {n : Nat} {a : Addr} {xs : List V} : Off a x → H a = some (.lst xs) → xs.length ≤ 16777216 → (∀ y, y ∈ xs → Dq x H n y) → Dq x H (n + 1) (.ref a)
theorem Dq.kx {x : AX} {H H' : Hp} (k : KX x H H') {n : Nat} {v : V} (h : Dq x H n v) : Dq x H' n v := by
  induction h with
  | leaf e => exact .leaf e
  | dct ne h nd fl => exact .dct ne (k _ _ ne h) nd fl
  | tup ne h hl _ ih => exact .tup ne (k _ _ ne h) hl ih
  | lst ne h hl _ ih => exact .lst ne (k _ _ ne h) hl ih
theorem Dq.same {x : AX} {H H' : Hp} (k : Same H H') {n : Nat} {v : V} (h : Dq x H n v) : Dq x H' n v := h.kx (kx_of k)
theorem Dq.mono {x : AX} {H : Hp} {n : Nat} {v : V} (h : Dq x H n v) : ∀ m, n ≤ m → Dq x H m v := by
  induction h with
  | leaf e => exact fun m _ => .leaf e
  | dct ne h nd fl => exact fun m _ => .dct ne h nd fl
  | tup ne h hl _ ih =>
    intro m hm
    obtain ⟨k, rfl⟩ : ∃ k, m = k + 1 := ⟨m - 1, by omega⟩
    exact .tup ne h hl fun y hy => ih y hy k (by omega)
  | lst ne h hl _ ih =>
    intro m hm
    obtain ⟨k, rfl⟩ : ∃ k, m = k + 1 := ⟨m - 1, by omega⟩
    exact .lst ne h hl fun y hy => ih y hy k (by omega)
theorem Dq.toA {x : AX} {H : Hp} {n : Nat} {v : V} (h : Dq x H n v) : SPD.Dq x.1 H n v := by
  induction h with
  | leaf e => exact .leaf e
  | dct ne h nd fl => exact .dct ne.1 h nd fl
  | tup ne h hl _ ih => exact .tup ne.1 h hl ih
  | lst ne h hl _ ih => exact .lst ne.1 h hl ih
theorem Dq.kd {K : PySem.W.Frag} {x : AX} {H : Hp} {n : Nat} {v : V} (h : Dq x H n v) : ∃ k, SPD.KdOf K H v k := h.toA.kd
inductive DqA (x : AX) (H : Hp) (n : Nat) : List V → Prop where
  | nil : DqA x H n []
  | cons {v : V} {vs : List V} : Dq x H n v → DqA x H n vs → DqA x H n (v :: vs)
theorem DqA.mem {x : AX} {H : Hp} {n : Nat} {vs : List V} (h : DqA x H n vs) : ∀ y, y ∈ vs → Dq x H n y := by
  induction h with
  | nil => exact fun y hy => nomatch hy
  | cons a _ ih =>
    intro y hy
    rcases List.mem_cons.mp hy with e | e
    · rw [e]; exact a
    · exact ih y e
theorem dqa_mem {x : AX} {H : Hp} {n : Nat} : ∀ {ys : List V}, (∀ y, y ∈ ys → Dq x H n y) → DqA x H n ys
  | [], _ => .nil
  | y :: r, h => .cons (h y List.mem_cons_self) (dqa_mem fun z hz => h z (List.mem_cons_of_mem _ hz))
theorem DqA.app {x : AX} {H : Hp} {n : Nat} {vs ws : List V} (h : DqA x H n vs) (g : DqA x H n ws) : DqA x H n (vs ++ ws) := by
  induction h with
  | nil => exact g
  | cons a _ ih => exact .cons a ih
theorem DqA.kx {x : AX} {H H' : Hp} {n : Nat} {vs : List V} (k : KX x H H') (h : DqA x H n vs) : DqA x H' n vs := dqa_mem fun y hy => (h.mem y hy).kx k
theorem DqA.mono {x : AX} {H : Hp} {n m : Nat} {vs : List V} (h : DqA x H n vs) (hm : n ≤ m) : DqA x H m vs := dqa_mem fun y hy => (h.mem y hy).mono m hm
theorem dq_kx {x : AX} {H H' : Hp} {n : Nat} {v : V} (h : Dq x H n v) (k : KX x H H') : Dq x H' n v := h.kx k
theorem dqTup {x : AX} {H : Hp} {n : Nat} {a : Addr} {xs : List V} (h : H a = some (.tup xs)) (ne : Off a x) (g : DqA x H n xs) (e : Nat.ble xs.length 16777216 = true := by rfl) : Dq x H (n + 1) (.ref a) := .tup ne h (Nat.le_of_ble_eq_true e) g.mem
theorem dqLst {x : AX} {H : Hp} {n : Nat} {a : Addr} {xs : List V} (h : H a = some (.lst xs)) (ne : Off a x) (g : DqA x H n xs) (e : Nat.ble xs.length 16777216 = true := by rfl) : Dq x H (n + 1) (.ref a) := .lst ne h (Nat.le_of_ble_eq_true e) g.mem
theorem dqNil {x : AX} {H : Hp} {n : Nat} {a : Addr} {kvs : List (Key × V)} (h : H a = some (.dK kvs)) (ne : Off a x) (nd : (kvs.map (·.1)).Nodup) (fl : ∀ p ∈ kvs, flatB p.2 = true) : Dq x H n (.ref a) := .dct ne h nd fl
theorem dqTupN {x : AX} {H : Hp} {n m : Nat} {a : Addr} {xs : List V} (h : H a = some (.tup xs)) (ne : Off a x) (g : DqA x H n xs) (l : RB.LN m xs) (e : Nat.ble m 16777216 = true) : Dq x H (n + 1) (.ref a) := .tup ne h (Nat.le_trans l (Nat.le_of_ble_eq_true e)) g.mem
theorem dqLstN {x : AX} {H : Hp} {n m : Nat} {a : Addr} {xs : List V} (h : H a = some (.lst xs)) (ne : Off a x) (g : DqA x H n xs) (l : RB.LN m xs) (e : Nat.ble m 16777216 = true) : Dq x H (n + 1) (.ref a) := .lst ne h (Nat.le_trans l (Nat.le_of_ble_eq_true e)) g.mem
theorem dqa_cut {x : AX} {H : Hp} {n : Nat} {xs : List V} {lo hi : Option Int} (h : DqA x H n xs) : DqA x H n (cutV xs lo hi) := dqa_mem fun y hy => h.mem y (by
  unfold cutV at hy
  exact List.mem_of_mem_drop (List.mem_of_mem_take hy))
theorem dqa_rev {x : AX} {H : Hp} {n : Nat} {xs : List V} (h : DqA x H n xs) : DqA x H n xs.reverse := dqa_mem fun y hy => h.mem y (List.mem_reverse.mp hy)
theorem dqa_rep {x : AX} {H : Hp} {n k : Nat} {xs : List V} (h : DqA x H n xs) : DqA x H n (List.replicate k xs).flatten := dqa_mem fun y hy => h.mem y (by
  obtain ⟨l, hl, hy⟩ := List.mem_flatten.mp hy
  rw [(List.mem_replicate.mp hl).2] at hy
  exact hy)
theorem dqa_leaf {x : AX} {H : Hp} {n : Nat} {xs : List V} (h : ∀ v, v ∈ xs → SPD.leaf v = true) : DqA x H n xs := dqa_mem fun y hy => .leaf (h y hy)
section
variable {K : PySem.W.Frag} {σ : L2.St} {H : Hp} {Q : VK} {te : TE}
theorem sum1 {a : Addr} {ns : List Int} (hx : SqL K H a (ns.map V.int)) (q : Q (.int ns.sum) H) : rSum K [.ref a] H Q := ⟨a, ns, rfl, hx, q⟩
theorem popAt {l : Addr} {xs : List V} {i : Int} {k : Nat} {y : V} (h1 : H l = some (.lst xs)) (hi : -(2 ^ 63) ≤ i ∧ i < 2 ^ 63) (hk : seqIndex? i xs.length = some k) (hy : xs[k]? = some y) (h : ∀ H2, RD.KB l H H2 → H2 l = some (.lst (xs.eraseIdx k)) → Q y H2) : rPopAt (.ref l) [.int i] H Q := ⟨l, xs, i, k, y, rfl, rfl, h1, hi.1, hi.2, hk, hy, RD.mutn h⟩
theorem sign_at {z : Str} {c : Nat} (h : c ∈ z.cps.toList) : ∃ i rest, Builtin.Str.occurrences z ⟨#[c]⟩ 0 z.length 1 = i :: rest ∧ i < z.cps.size := by
  have f := PySem.StrLaws.found_one z c
  rw [decide_eq_true h] at f
  cases e : Builtin.Str.occurrences z ⟨#[c]⟩ 0 z.length 1 with
  | nil => rw [e] at f; cases f
  | cons i rest =>
    have s := (PySem.StrLaws.occ_spec z ⟨#[c]⟩ 0 z.length 1 i (by rw [e]; exact List.mem_cons_self)).1
    have e1 : (⟨#[c]⟩ : Str).length = 1 := rfl
    have e2 : z.length = z.cps.size := rfl
    exact ⟨i, rest, rfl, by omega⟩
/-- where a sign stands first -/
def placeOf (z : Str) (c : Nat) : Nat := (Builtin.Str.occurrences z ⟨#[c]⟩ 0 z.length 1).headD 0
theorem place_at {z : Str} {c : Nat} (h : c ∈ z.cps.toList) : (∃ rest, Builtin.Str.occurrences z ⟨#[c]⟩ 0 z.length 1 = placeOf z c :: rest) ∧ placeOf z c < z.cps.size := by
  obtain ⟨i, rest, e, hi⟩ := sign_at h
  have e2 : placeOf z c = i := by
    unfold placeOf
    rw [e]
    rfl
  rw [e2]
  exact ⟨⟨rest, e⟩, hi⟩
theorem sindex {z : Str} {c : Nat} {R : Nat → Prop} (h : c ∈ z.cps.toList) (q : R (placeOf z c)) : ∃ (a b : Str) (i : Nat) (rest : List Nat), V.str z = .str a ∧ [V.str ⟨#[c]⟩] = [.str b] ∧ Builtin.Str.occurrences a b 0 a.length 1 = i :: rest ∧ R i := by
  obtain ⟨⟨rest, e⟩, _⟩ := place_at h
  exact ⟨z, ⟨#[c]⟩, _, rest, rfl, rfl, e, q⟩
/-- z[::-1] -/
def revS (z : Str) : Str := ⟨z.cps.toList.reverse.toArray⟩
theorem rev_pick (z : Str) : (Builtin.Str.strSliceIndices none none (-1) z.length).filterMap (z.cps[·]?) = z.cps.toList.reverse := by
  rw [picked_rev, filterMap_get, List.map_map]
  · refine List.ext_getElem? fun i => ?_
    have e : z.length = z.cps.size := rfl
    have l : z.cps.toList.length = z.cps.size := Array.length_toList
    rw [e]
    by_cases h : i < z.cps.size
    · rw [List.getElem?_map, List.getElem?_range h, List.getElem?_reverse (by omega), l, Array.getElem?_toList, Array.getElem?_eq_getElem (by omega)]
      show some (z.cps.getD (z.cps.size - 1 - i) 0) = _
      rw [Array.getD_eq_getD_getElem?, Array.getElem?_eq_getElem (by omega)]
      rfl
    · rw [List.getElem?_eq_none (by rw [List.length_map, List.length_range]; omega), List.getElem?_eq_none (by rw [List.length_reverse, l]; omega)]
  · intro i hi
    obtain ⟨k, hk, rfl⟩ := List.mem_map.mp hi
    have hk' : k < z.length := List.mem_range.mp hk
    have e : z.length = z.cps.size := rfl
    omega
def RevSX (x : V) (H1 : Hp) (Q : VK) : Prop := ∃ z, x = .str z ∧ z.length ≤ sizeLine ∧ Q (.str (revS z)) H1
def tRevS (te : TE) : TE := fun σ H Q => te σ H fun x H1 => RevSX x H1 Q
theorem revs (h : te σ H fun x H1 => RevSX x H1 Q) : tRevS te σ H Q := h
theorem revsV {z : Str} (hz : z.length ≤ sizeLine) (q : Q (.str (revS z)) H) : RevSX (.str z) H Q := ⟨z, rfl, hz, q⟩
theorem pe_revS {X : Cx} {e : Expr} {te : TE} {k : Nat} {p1 p2 p3 pos : Pos} (he : PE X e te) : PE X (.Subscript e (.Slice none none (some (.UnaryOp .USub (.Constant (.int 1) k p1) p2)) p3) pos) (tRevS te) := by
  refine ⟨fun pins s σ H Q I h => ?_⟩
  refine Subscript_ (thn (he.run pins s σ H _ I h) fun v s1 ⟨x, H1, I1, r1, q1⟩ => ?_)
  obtain ⟨z, rfl, hz, q⟩ := q1
  obtain ⟨t, rfl⟩ := r1
  have st : PO X (some (.UnaryOp .USub (.Constant (.int 1) k p1) p2)) (tPart (tUn (rU fun i => .int (-i)) (tC (.int 1)))) := po_some (pe_un un_neg pe_int)
  refine wpAny_Slice (thn (po_none.run pins s1 σ H1 (fun o H2 => o = none ∧ H2 = H1) I1 ⟨rfl, rfl⟩) fun vl s2 ⟨l, H2, I2, pl, el, e2⟩ => ?_)
  subst el e2
  refine thn (po_none.run pins s2 σ H2 (fun o H3 => o = none ∧ H3 = H2) I2 ⟨rfl, rfl⟩) fun vu s3 ⟨u, H3, I3, pu, eu, e3⟩ => ?_
  subst eu e3
  refine thn (st.run pins s3 σ H3 (fun o H4 => o = some (-1) ∧ H4 = H3) I3 ⟨1, rfl, -1, rfl, rfl, rfl⟩) fun vs s4 ⟨o, H4, I4, ps, eo, e4⟩ => ?_
  subst eo e4
  have I5 : Inv X pins σ H4 { s4 with heap := s4.heap.push { cls := .type "slice", data := .fields #[vl, vu, vs] } } := I4.kept (t' := s4.toks) fun b ob q => Heap.get?_push_of_some _ q
  obtain ⟨l, rfl, hl⟩ := IsPart.raw pl
  obtain ⟨u, rfl, hu⟩ := IsPart.raw pu
  obtain ⟨w, rfl, hw⟩ := IsPart.raw ps
  cases l with
  | some l => cases hl
  | none =>
    cases u with
    | some u => cases hu
    | none =>
      cases w with
      | none => cases hw
      | some w =>
        obtain ⟨wi, wt⟩ := w
        have ew : wi = -1 := by simpa using hw
        subst ew
        show wpAny (model X.prog X.w) X.A (subscriptTail e (.Slice none none (some (.UnaryOp .USub (.Constant (.int 1) k p1) p2)) p3) (.str z t) (.ref s4.heap.objs.size)) (EP X pins σ Q) X.xe { s4 with heap := s4.heap.push { cls := .type "slice", data := .fields #[_, _, _] } }
        refine tail_any (ops := [.str z t, .ref s4.heap.objs.size]) (typeIs_str _ _ _) (F.slot_str_getitem.lookup) ?_ (by with_unfolding_all rfl)
        obtain ⟨os, hos, hcs, hds⟩ := Heap.IsSliceOf.new s4.heap _ _ _
        refine wpAny_getItem_str_slice (l := none) (u := none) (st := some (-1, wt)) ⟨os, hos, hcs, hds⟩ rfl ?_
        have e1 := rev_pick z
        show Made.post (if ((-1 : Int) == 1 && (Builtin.Str.strSliceIndices none none (-1) z.length).length == z.length) = true then Made.val (.str z t)
          else Made.str ⟨((Builtin.Str.strSliceIndices none none (-1) z.length).filterMap (z.cps[·]?)).toArray⟩) (EP X pins σ Q) _
        rw [if_neg (by rw [show ((-1 : Int) == 1) = false from rfl, Bool.false_and]; decide), e1]
        refine ⟨?_, .str (revS z), H4, I5.tok _, ⟨_, rfl⟩, q⟩
        show (z.cps.toList.reverse.toArray).size ≤ sizeLine
        rw [List.size_toArray, List.length_reverse, Array.length_toList]
        exact hz
end
theorem room1 {k : Nat} {A : Around} (r : Room k A) : A.units + 1 < cLine := by
  have := r.un
  omega
theorem pe_joinK {X : Cx} {K : PySem.W.Frag} (hK : X.K = K) {o e : Expr} {to te : TE} {apos pos : Pos} (ho : PE X o to) (he : PE X e te) (hs : starEach [e] X.env = [(false, eval e X.env)] := by rfl) (hbase : attributeBase o "join" X.env (eval o X.env) = eval o X.env := by rfl) (hline : (apos.endLine == pos.line) = true := by rfl) :
    PE X (.Call (.Attribute o "join" apos) [e] [] pos) (tM1 (fun x xs H Q => ∃ a p, ∃ ys : List Str, x = .str a ∧ xs = [.ref p] ∧ (SqL K H p (ys.map V.str) ∨ SqT K H p (ys.map V.str)) ∧
      (ys.map (·.length)).sum + ys.length * a.length ≤ 16777216 ∧ Q (.str (Txt.join a ys)) H) to te) := by
  subst hK
  exact pe_join ho he hs hbase hline
end SPE

/-! dicts: update, comprehensions, locks; min and max with a default -/
namespace FR
open PySem PySem.Spec PyProof.Rows L2
section
variable {X : Cx}
/-! ### d.update(d2) -/
def rUpdD : V → List V → Hp → VK → Prop := fun x vs H Q => ∃ d o kvs more, x = .ref d ∧ vs = [.ref o] ∧ d ≠ o ∧ H d = some (.dK kvs) ∧ H o = some (.dK more) ∧ kvs.length + more.length ≤ sizeLine ∧ Q .non (upd H d (.dK (mergeK kvs more)))
theorem mt_updD : MtR X "dict.update" rUpdD := by
  intro pins s σ H x xs v us Q I rx rv h
  obtain ⟨d, o, kvs, more, rfl, rfl, hne, hd, ho, hz, q⟩ := h
  cases rx
  obtain ⟨u, rfl, ru⟩ := rv.one
  cases ru
  obtain ⟨z, hsd, vs, rel, dd⟩ := dk_of I.hok hd
  obtain ⟨z2, hsd2, vs2, rel2, dd2⟩ := dk_of I.hok ho
  refine call_meetsIn PySem.F.slot_dict_update dd.typeIs PySem.F.entry_dict_update (PySem.F.args_dict_update_2 _ _) (meets_dict_update (mixKind X.prog X.w) d o hne hsd2)
    ⟨vs, vs2, dd, dd2, by rw [← rel.length, ← rel2.length]; exact hz, fun h' dd' _ hs => ?_⟩
  have he : ∃ q, h'.get? d = some q := let ⟨q, _, _, hq, _⟩ := dd'; ⟨q, hq⟩
  exact ⟨.non, _, d_write I (by rw [hd]; exact True.intro) hs he (dk_new (Nat.le_trans (length_mergeK more kvs) hz) hsd (KV.merge rel2 rel) dd'), rfl, q⟩
/-! ### min of texts, max of numbers with a default -/
theorem vals_at : ∀ {xs : List V} {us : List Value}, Vals xs us → ∀ (i : Nat) (v : Value), us[i]? = some v → ∃ x, xs[i]? = some x ∧ RelV x v
  | _, _, .nil, i, v, h => by simp at h
  | _, _, .cons r t, 0, v, h => by
    have e := Option.some.inj (show some _ = some v from h)
    subst e
    exact ⟨_, rfl, r⟩
  | _, _, .cons r t, i + 1, v, h => by
    obtain ⟨x, e, r⟩ := vals_at t i v (by simpa using h)
    exact ⟨x, by simpa using e, r⟩
theorem reads_strs {h : Heap} : ∀ {its : List Value} {ss : List Str}, StrsAre its ss → ∃ as, ReadsAll h its (ss.map .str) as
  | _, _, .nil => ⟨[], .nil⟩
  | _, _, .cons x k t => by
    obtain ⟨as, r⟩ := reads_strs (h := h) t
    exact ⟨_, .cons (.str _ _) r⟩
theorem reads_ints {h : Heap} : ∀ {its : List Value} {ns : List Int}, IntsAre its ns → ∃ as, ReadsAll h its (ns.map .int) as
  | _, _, .nil => ⟨[], .nil⟩
  | _, _, .cons x k t => by
    obtain ⟨as, r⟩ := reads_ints (h := h) t
    exact ⟨_, .cons (.int _ _) r⟩
theorem alike_strs (ss : List Str) : PySem.W.AlikeAll (ss.map .str) := by
  refine ⟨fun x hx y hy => ?_, fun x hx => ?_⟩
  · obtain ⟨a, _, rfl⟩ := List.mem_map.mp hx
    obtain ⟨b, _, rfl⟩ := List.mem_map.mp hy
    simp only [PySem.W.alike]
  · obtain ⟨a, _, rfl⟩ := List.mem_map.mp hx
    exact fun z => by cases z
theorem alike_ints (ns : List Int) : PySem.W.AlikeAll (ns.map .int) := by
  refine ⟨fun x hx y hy => ?_, fun x hx => ?_⟩
  · obtain ⟨a, _, rfl⟩ := List.mem_map.mp hx
    obtain ⟨b, _, rfl⟩ := List.mem_map.mp hy
    simp only [PySem.W.alike]
  · obtain ⟨a, _, rfl⟩ := List.mem_map.mp hx
    exact fun z => by cases z
def rMinS (K : PySem.W.Frag) : List V → Hp → VK → Prop := fun vs H Q => ∃ (a : Addr) (ss : List Str), vs = [V.ref a] ∧ SqL K H a (ss.map V.str) ∧ 0 < ss.length ∧ ∀ m, m ∈ ss → Q (.str m) H
theorem cr_minS (hc : X.calm = true) (hu : X.A.units + 1 < cLine) : CallR X (.builtin "min") (rMinS X.K) := by
  intro pins s σ H vs us Q I r h
  obtain ⟨a, ss, rfl, hs, hne, q⟩ := h
  obtain ⟨its, rv, hl, _⟩ := I.list hs
  rw [Vals.ref1 r]
  obtain ⟨as, hr⟩ := reads_strs (h := s.heap) rv.strs
  cases ss with
  | nil => exact absurd hne (by decide)
  | cons x xs =>
    refine PySem.W.min_list_data (x := .str x) (xs := xs.map .str) (I.ok.hd hc) hl.isList hr (alike_strs (x :: xs)) (by rw [show (PyData.str x :: xs.map .str) = (x :: xs).map .str from rfl, depthAll_strs']; exact hu) fun i v h' tk bs hv _ hk => ?_
    obtain ⟨y, hy, rel⟩ := vals_at rv i v (by simpa using hv)
    rw [List.getElem?_map] at hy
    obtain ⟨m, hm, rfl⟩ := Option.map_eq_some_iff.mp hy
    obtain ⟨t, rfl⟩ := rel
    exact ⟨.str m, H, I.kept hk, ⟨_, rfl⟩, q m (List.mem_of_getElem? hm)⟩
theorem foldl_max (n : Int) : ∀ ns : List Int, ns.foldl max n ∈ n :: ns ∧ ∀ y, y ∈ n :: ns → y ≤ ns.foldl max n := by
  intro ns
  induction ns generalizing n with
  | nil => exact ⟨List.mem_cons_self, fun y hy => by rw [List.mem_singleton.mp hy]; exact Int.le_refl _⟩
  | cons k r ih =>
    obtain ⟨h1, h2⟩ := ih (max n k)
    rw [List.foldl_cons]
    refine ⟨?_, fun y hy => ?_⟩
    · rcases List.mem_cons.mp h1 with h | h
      · rw [h]
        rcases Int.le_total n k with z | z
        · rw [Int.max_eq_right z]; simp
        · rw [Int.max_eq_left z]; simp
      · exact List.mem_cons_of_mem _ (List.mem_cons_of_mem _ h)
    · have h3 := h2 (max n k) List.mem_cons_self
      rcases List.mem_cons.mp hy with h | h
      · rw [h]
        exact Int.le_trans (Int.le_max_left _ _) h3
      · rcases List.mem_cons.mp h with h | h
        · rw [h]
          exact Int.le_trans (Int.le_max_right _ _) h3
        · exact h2 y (List.mem_cons_of_mem _ h)
def rMaxDef (K : PySem.W.Frag) : List V → List V → Hp → VK → Prop := fun vs zs H Q => ∃ (a : Addr) (ns : List Int) (d : V), vs = [V.ref a] ∧ zs = [d] ∧ SqL K H a (ns.map V.int) ∧ (ns = [] → Q d H) ∧ ∀ m, m ∈ ns → (∀ y, y ∈ ns → y ≤ m) → Q (.int m) H
theorem cr_maxDef (hc : X.calm = true) (hu : X.A.units + 1 < cLine) : CallRK X (.builtin "max") [Str.ofString "default"] (rMaxDef X.K) := by
  intro pins s σ H vs zs us ws Q I r rz h
  obtain ⟨a, ns, d, rfl, rfl, hs, q0, q⟩ := h
  obtain ⟨its, rv, hl, _⟩ := I.list hs
  rw [Vals.ref1 r]
  obtain ⟨u, rfl, ru⟩ := rz.one
  obtain ⟨as, hr⟩ := reads_ints (h := s.heap) rv.ints
  refine PySem.W.max_list_default (I.ok.hd hc) hl.isList hr (alike_ints ns) (by rw [depthAll_ints]; exact hu) (fun e h' tk hk => ?_) fun y ys i v h' tk bs e hv hv2 hk => ?_
  · cases ns with
    | nil => exact ⟨d, H, I.kept hk, ru, q0 rfl⟩
    | cons _ _ => cases e
  · cases ns with
    | nil => cases e
    | cons n ns =>
      rw [List.map_cons] at e
      injection e with e1 e2
      subst e1 e2
      rw [PySem.W.maxD_ints] at hv2
      cases hv2
      obtain ⟨h1, h2⟩ := foldl_max n ns
      exact ⟨.int _, H, I.kept hk, ⟨_, rfl⟩, q _ h1 h2⟩
end
/-! ### a locked dict -/
section
variable {K : PySem.W.Frag} {σ : L2.St} {H : Hp} {Q : VK}
/-- what a locked reading must bring -/
def UL (d : Addr) (od : Obj) (u : HO) (R : Hp → Prop) (H' : Hp) : Prop := H' d = some (.frz od u) ∧ R (upd H' d u)
theorem lockE {t : TE} {d : Addr} {kvs : List (Key × V)} (hd : H d = some (.dK kvs)) (h : ∀ od Hf, RD.KB d H Hf → Hf d = some (.frz od (.dK kvs)) → t σ Hf fun v H' => UL d od (.dK kvs) (Q v) H') : tLockE t σ H Q :=
  ⟨d, .dK kvs, hd, trivial, fun od => h od _ RD.kb_upd upd_same⟩
theorem ul {d : Addr} {od : Obj} {u : HO} {R : Hp → Prop} {H' : Hp} (h : H' d = some (.frz od u)) (q : ∀ H2, RD.KB d H' H2 → H2 d = some u → R H2) : UL d od u R H' := ⟨h, q _ RD.kb_upd upd_same⟩
theorem lockS {t : TS} {D : Ends} {d : Addr} {kvs : List (Key × V)} (hd : H d = some (.dK kvs)) (h : ∀ od Hf, RD.KB d H Hf → Hf d = some (.frz od (.dK kvs)) → t ⟨fun σ' H' => UL d od (.dK kvs) (D.nx σ') H', fun v H' => UL d od (.dK kvs) (D.rt v) H', fun σ' H' => UL d od (.dK kvs) (D.bk σ') H', fun σ' H' => UL d od (.dK kvs) (D.ct σ') H'⟩ σ Hf) : tLock t D σ H :=
  ⟨d, .dK kvs, hd, trivial, fun od => h od _ RD.kb_upd upd_same⟩
theorem unlock {d : Addr} {H Hf H' H2 : Hp} {o : HO} (k1 : RD.KB d H Hf) (s : Same Hf H') (k2 : RD.KB d H' H2) (e2 : H2 d = some o) (e : H d = some o) : Same H H2 := fun b x hb => by
  by_cases z : b = d
  · subst z
    rw [e2, ← e]
    exact hb
  · exact k2 _ _ z (s _ _ (k1 _ _ z hb))
theorem unlockK {d : Addr} {H H' H2 : Hp} {o : HO} (k1 : RD.KB d H H') (k2 : RD.KB d H' H2) (e2 : H2 d = some o) (e : H d = some o) : Same H H2 := fun b x hb => by
  by_cases z : b = d
  · subst z
    rw [e2, ← e]
    exact hb
  · exact k2 _ _ z (k1 _ _ z hb)
theorem keysV {d : Addr} {o : Obj} {kvs : List (Key × V)} {S : Addr → Obj → List (Key × V) → Prop} {T : Addr → Obj → List (List Key × V) → Prop} {H1 : Hp} (hd : H1 d = some (.frz o (.dK kvs))) (q : S d o kvs) :
    ∃ d' o', V.ref d = .ref d' ∧ ((∃ kvs, H1 d' = some (.frz o' (.dK kvs)) ∧ S d' o' kvs) ∨ ∃ kvs, H1 d' = some (.frz o' (.dT kvs)) ∧ T d' o' kvs) := ⟨d, o, rfl, .inl ⟨kvs, hd, q⟩⟩
theorem valsV {d : Addr} {o : Obj} {kvs : List (Key × V)} {S : Addr → Obj → List (Key × V) → Prop} {H1 : Hp} (hd : H1 d = some (.frz o (.dK kvs))) (q : S d o kvs) : ∃ d' o' kvs', V.ref d = .ref d' ∧ H1 d' = some (.frz o' (.dK kvs')) ∧ S d' o' kvs' := ⟨d, o, kvs, rfl, hd, q⟩
end
/-! ### a comprehension that makes a dict -/
def DcG (J : It) (g : TG) (tt : TT) (tk tv : TE) (vs : List Nat) (σ : L2.St) (H1 : Hp) (Q : VK) : Prop := ∀ D, H1 D = none → ∃ W : Nat → Nat → Hp → Prop, (∃ m, W 0 m (upd H1 D (.dK []))) ∧ ∀ i m H, W i m H →
  (J.stop i H ∧ Q (.ref D) H) ∨ (J.go i H ∧ ∃ Nx : Hp → Prop, (∀ H', Nx H' → ∃ m', m' < m ∧ W (i + 1) m' H') ∧ ∀ x H', J.yld i H x H' → g x (wipe σ vs) H' fun σ2 H2 => wipe σ2 vs = wipe σ vs ∧ tt σ2 H2 fun b H3 =>
    if b = true then tk σ2 H3 fun y H4 => tv σ2 H4 fun z H5 => ∃ kvs k, y = kV k ∧ H5 D = some (.dK kvs) ∧ kvs.length < sizeLine ∧ Nx (upd H5 D (.dK (putK kvs k z))) else Nx H3)
section
variable {K : PySem.W.Frag} {J : It} {n : Nat} {G : Hp → Prop} {Y : Nat → Hp → V → Hp → Prop} {g : TG} {tt : TT} {tk tv : TE} {vs : List Nat} {σ : L2.St} {H1 H : Hp} {Q : VK} {wi : TI}
theorem dc (h : wi σ H fun J H1 => DcG J g tt tk tv vs σ H1 Q) : tDc wi g tt tk tv vs σ H Q := h
theorem dcW (w : Walk J n G Y) (hn : n ≤ 16777216)
    (h : ∀ D H2, H1 D = none → Same H1 H2 → H2 D = some (.dK []) → ∃ Pv : Nat → List (Key × V) → Hp → Prop, Pv 0 [] H2 ∧ (∀ i acc H, i ≤ n → Pv i acc H → G H) ∧
      (∀ i x acc H H' (Z : V → V → Hp → Prop) (N : Hp → Prop), i < n → Pv i acc H → H D = some (.dK acc) → Y i H x H' →
        (∀ k y H4, H4 D = some (.dK acc) → (∀ H5, RD.KB D H4 H5 → H5 D = some (.dK (putK acc k y)) → Pv (i + 1) (putK acc k y) H5) → Z (kV k) y H4) → (∀ H4, H4 D = some (.dK acc) → Pv (i + 1) acc H4 → N H4) →
        g x (wipe σ vs) H' fun σ2 H2 => wipe σ2 vs = wipe σ vs ∧ tt σ2 H2 fun b H3 => if b = true then tk σ2 H3 fun y H4 => tv σ2 H4 fun z H5 => Z y z H5 else N H3) ∧
      (∀ acc H, Pv n acc H → H D = some (.dK acc) → Q (.ref D) H)) : DcG J g tt tk tv vs σ H1 Q := by
  intro D hD
  obtain ⟨Pv, p0, pG, ps, pd⟩ := h D (upd H1 D (.dK [])) hD (RD.same_new hD) upd_same
  refine ⟨fun i m H => m = n - i ∧ i ≤ n ∧ ∃ acc, acc.length ≤ i ∧ H D = some (.dK acc) ∧ Pv i acc H, ⟨n, by simp, Nat.zero_le _, [], Nat.le_refl _, upd_same, p0⟩, ?_⟩
  rintro i m H ⟨rfl, hi, acc, hl, hDa, p⟩
  have q := pG i acc H hi p
  by_cases hlt : i < n
  · refine .inr ⟨w.goes i H hlt q, fun H' => ∃ acc, acc.length ≤ i + 1 ∧ H' D = some (.dK acc) ∧ Pv (i + 1) acc H', fun H' p' => ⟨n - (i + 1), by omega, rfl, hlt, p'⟩, fun x H' y => ?_⟩
    refine ps i x acc H H' _ _ hlt p hDa (w.yields i H x H' hlt q y) (fun k y H4 h1 h2 => ⟨acc, k, rfl, h1, by rw [sizeLine_eq]; omega, putK acc k y, ?_, upd_same, h2 _ RD.kb_upd upd_same⟩) (fun H4 h1 h2 => ⟨acc, by omega, h1, h2⟩)
    have := length_putK acc k y
    omega
  · have e : i = n := by omega
    subst e
    exact .inl ⟨w.stops H q, pd acc H p hDa⟩
end
/-! ### readings of dicts -/
section
variable {K : PySem.W.Frag} {σ : L2.St} {H : Hp} {Q : VK} {td ty tv : TE} {t : TS} {D : Ends}
theorem dget (h : td σ H fun x H1 => ty σ H1 fun y H2 => ∃ a v, x = .ref a ∧ DGet H2 a y (some v) ∧ Q v H2) : tDGet td ty σ H Q := h
theorem din (h : ty σ H fun y H1 => td σ H1 fun x H2 => ∃ a o, x = .ref a ∧ DGet H2 a y o ∧ Q (.bl o.isSome) H2) : tDIn ty td σ H Q := h
theorem dnotin (h : ty σ H fun y H1 => td σ H1 fun x H2 => ∃ a o, x = .ref a ∧ DGet H2 a y o ∧ Q (.bl (!o.isSome)) H2) : tDNotIn ty td σ H Q := h
theorem dgetS {a : Addr} {kvs : List (Key × V)} {z : Str} {v : V} {R : V → Prop} (hd : Rd H a (.dK kvs)) (hv : valV kvs (Sum.inr z) = some v) (q : R v) : ∃ b u, V.ref a = .ref b ∧ DGet H b (.str z) (some u) ∧ R u :=
  ⟨a, v, rfl, .inl ⟨kvs, Sum.inr z, hd, rfl, hv.symm⟩, q⟩
theorem dgetI {a : Addr} {kvs : List (Key × V)} {n : Int} {v : V} {R : V → Prop} (hd : Rd H a (.dK kvs)) (hv : valV kvs (Sum.inl n) = some v) (q : R v) : ∃ b u, V.ref a = .ref b ∧ DGet H b (.int n) (some u) ∧ R u :=
  ⟨a, v, rfl, .inl ⟨kvs, Sum.inl n, hd, rfl, hv.symm⟩, q⟩
theorem dinS {a : Addr} {kvs : List (Key × V)} {z : Str} {R : Option V → Prop} (hd : Rd H a (.dK kvs)) (q : R (valV kvs (Sum.inr z))) : ∃ b o, V.ref a = .ref b ∧ DGet H b (.str z) o ∧ R o :=
  ⟨a, _, rfl, .inl ⟨kvs, Sum.inr z, hd, rfl, rfl⟩, q⟩
theorem dinI {a : Addr} {kvs : List (Key × V)} {n : Int} {R : Option V → Prop} (hd : Rd H a (.dK kvs)) (q : R (valV kvs (Sum.inl n))) : ∃ b o, V.ref a = .ref b ∧ DGet H b (.int n) o ∧ R o :=
  ⟨a, _, rfl, .inl ⟨kvs, Sum.inl n, hd, rfl, rfl⟩, q⟩
theorem dputS {a : Addr} {kvs : List (Key × V)} {z : Str} {v : V} {R : Hp → Prop} (hd : H a = some (.dK kvs)) (hl : kvs.length < sizeLine) (q : ∀ H', RD.KB a H H' → H' a = some (.dK (putK kvs (Sum.inr z) v)) → R H') : rSetD (.ref a) (.str z) v H R :=
  ⟨a, _, rfl, DPut.k (k := Sum.inr z) hd hl, q _ RD.kb_upd upd_same⟩
theorem dputI {a : Addr} {kvs : List (Key × V)} {n : Int} {v : V} {R : Hp → Prop} (hd : H a = some (.dK kvs)) (hl : kvs.length < sizeLine) (q : ∀ H', RD.KB a H H' → H' a = some (.dK (putK kvs (Sum.inl n) v)) → R H') : rSetD (.ref a) (.int n) v H R :=
  ⟨a, _, rfl, DPut.k (k := Sum.inl n) hd hl, q _ RD.kb_upd upd_same⟩
theorem ikeys {td : TE} {R : It → Hp → Prop} (h : td σ H fun x H1 => ∃ d o, x = .ref d ∧ ((∃ kvs, H1 d = some (.frz o (.dK kvs)) ∧ R (Itk d o kvs) H1) ∨ ∃ kvs, H1 d = some (.frz o (.dT kvs)) ∧ R (Itkt d o kvs) H1)) : iKeys td σ H R := h
theorem ivals {td : TE} {R : It → Hp → Prop} (h : td σ H fun x H1 => ∃ d o kvs, x = .ref d ∧ H1 d = some (.frz o (.dK kvs)) ∧ R (Itd d o kvs) H1) : iVals td σ H R := h
theorem rd_of {a : Addr} {o : HO} (h : H a = some o) : Rd H a o := .inl h
theorem w_vals {d : Addr} {o : Obj} {kvs : List (Key × V)} : Walk (Itd d o kvs) kvs.length (fun H => H d = some (.frz o (.dK kvs))) (YAt (kvs.map Prod.snd)) := walk_values.mono (fun _ h => h) fun i H x H' _ _ y => by
  obtain ⟨rfl, k, hk⟩ := y
  refine ⟨rfl, ?_⟩
  rw [List.getElem?_map, hk]
  rfl
theorem w_keys {d : Addr} {o : Obj} {kvs : List (Key × V)} : Walk (Itk d o kvs) kvs.length (fun H => H d = some (.frz o (.dK kvs))) (YAt (kvs.map fun p => kV p.1)) := walk_keys.mono (fun _ h => h) fun i H x H' _ _ y => by
  obtain ⟨rfl, k, v, hk, rfl⟩ := y
  refine ⟨rfl, ?_⟩
  rw [List.getElem?_map, hk]
  rfl
theorem upd1 {l b : Addr} {kvs more : List (Key × V)} (h1 : H l = some (.dK kvs)) (h2 : H b = some (.dK more)) (ne : l ≠ b) (hz : kvs.length + more.length ≤ sizeLine) (h : ∀ H2, RD.KB l H H2 → H2 l = some (.dK (mergeK kvs more)) → Q .non H2) : rUpdD (.ref l) [.ref b] H Q := ⟨l, b, kvs, more, rfl, rfl, ne, h1, h2, hz, h _ RD.kb_upd upd_same⟩
theorem bmD {p : Addr} {kvs : List (Key × V)} {R : Prop} (hx : H p = some (.dK kvs)) (h : R) : tyV K "dict" (.ref p) H ∧ R := ⟨.inr (.inr (.inl ⟨rfl, .inl ⟨kvs, hx⟩⟩)), h⟩
theorem whileG {c : TT} {tb : TS} (Pv : Nat → L2.St → Hp → Prop) (n : Nat) (h0 : Pv n σ H)
    (hs : ∀ m σ H, Pv m σ H → c σ H fun b H1 => if b = true then ∃ N : L2.St → Hp → Prop, (∀ σ' H', N σ' H' → ∃ m', m' < m ∧ Pv m' σ' H') ∧ tb { D with nx := N, ct := N, bk := D.nx } σ H1 else D.nx σ H1) : tWhile c tb D σ H := ⟨Pv, ⟨n, h0⟩, hs⟩
theorem wnext {tb : TS} {m : Nat} {W : Nat → L2.St → Hp → Prop} {B : L2.St → Hp → Prop} {R : VK} (h : tb { nx := fun σ' H' => ∃ m', m' < m ∧ W m' σ' H', rt := R, bk := B, ct := fun σ' H' => ∃ m', m' < m ∧ W m' σ' H' } σ H) :
    ∃ N : L2.St → Hp → Prop, (∀ σ' H', N σ' H' → ∃ m', m' < m ∧ W m' σ' H') ∧ tb { nx := N, rt := R, bk := B, ct := N } σ H := ⟨_, fun _ _ z => z, h⟩
theorem bm0 {T : String} {r : V → List V → Hp → VK → Prop} {to : TE} (h : to σ H fun x H1 => tyV K T x H1 ∧ r x [] H1 Q) : tBM0 K T r to σ H Q := h
theorem popV {l : Addr} {ys : List V} {y : V} (h : H l = some (.lst (ys ++ [y]))) (q : ∀ H2, RD.KB l H H2 → H2 l = some (.lst ys) → Q y H2) : rPop (.ref l) [] H Q :=
  ⟨l, ys ++ [y], y, rfl, rfl, h, by simp, by rw [List.dropLast_concat]; exact q _ RD.kb_upd upd_same⟩
/-! ### what a dict with text keys holds -/
def kvm {α : Type} (k : α → Str) (v : α → V) (l : List α) : List (Key × V) := l.map fun a => (Sum.inr (k a), v a)
theorem kvm_len {α : Type} (k : α → Str) (v : α → V) (l : List α) : (kvm k v l).length = l.length := List.length_map ..
theorem inr_eq {a b : Str} : ((Sum.inr a : Key) = Sum.inr b) ↔ a = b := ⟨fun h => Sum.inr.inj h, fun h => by rw [h]⟩
theorem kvm_some {α : Type} (k : α → Str) (v : α → V) (f : Str) : ∀ l : List α, (valV (kvm k v l) (Sum.inr f)).isSome = decide (f ∈ l.map k)
  | [] => rfl
  | a :: l => by
    have ih := kvm_some k v f l
    by_cases e : k a = f
    · show (valV ((Sum.inr (k a), v a) :: _) _).isSome = _
      rw [valV_pos (by rw [e])]
      simp [e]
    · show (valV ((Sum.inr (k a), v a) :: kvm k v l) _).isSome = _
      rw [valV_neg (fun z => e (inr_eq.mp z)), ih]
      have : (f ∈ (a :: l).map k) ↔ f ∈ l.map k := by
        rw [List.map_cons, List.mem_cons]
        exact ⟨fun h => h.resolve_left (fun z => e z.symm), .inr⟩
      rw [decide_eq_decide, this]
theorem kvm_at {α : Type} {k : α → Str} {v : α → V} : ∀ {l : List α}, (l.map k).Nodup → ∀ a, a ∈ l → valV (kvm k v l) (Sum.inr (k a)) = some (v a)
  | b :: l, n, a, h => by
    have n := List.nodup_cons.mp n
    by_cases e : k b = k a
    · rcases List.mem_cons.mp h with h | h
      · subst h
        exact valV_pos rfl
      · exact absurd (List.mem_map.mpr ⟨a, h, e.symm⟩) n.1
    · show valV ((Sum.inr (k b), v b) :: kvm k v l) _ = _
      rw [valV_neg (fun z => e (inr_eq.mp z))]
      rcases List.mem_cons.mp h with h | h
      · subst h
        exact absurd rfl e
      · exact kvm_at n.2 a h
theorem kvm_put {α : Type} {k : α → Str} {v : α → V} {l : List α} {a : α} (h : k a ∉ l.map k) : putK (kvm k v l) (Sum.inr (k a)) (v a) = kvm k v (l ++ [a]) := by
  unfold putK
  have e : ((kvm k v l).any fun kv => decide (kv.1 = (Sum.inr (k a) : Key))) = false := by
    rw [List.any_eq_false]
    intro kv hm
    obtain ⟨b, hb, rfl⟩ := List.mem_map.mp hm
    rw [decide_eq_true_eq]
    exact fun z => h (List.mem_map.mpr ⟨b, hb, inr_eq.mp z⟩)
  rw [e, if_neg (by decide)]
  unfold kvm
  rw [List.map_append]
  rfl
theorem ckw {r : List V → List V → Hp → VK → Prop} {t tk : TA} (h : t σ H fun vs H1 => tk σ H1 fun zs H2 => r vs zs H2 Q) : tCKw r t tk σ H Q := h
theorem maxDef {a : Addr} {ns : List Int} {d : V} (hx : SqL K H a (ns.map V.int)) (q0 : ns = [] → Q d H) (q : ∀ m, m ∈ ns → (∀ y, y ∈ ns → y ≤ m) → Q (.int m) H) : rMaxDef K [.ref a] [d] H Q := ⟨a, ns, d, rfl, rfl, hx, q0, q⟩
theorem minS {a : Addr} {ss : List Str} (hx : SqL K H a (ss.map V.str)) (h0 : 0 < ss.length) (q : ∀ m, m ∈ ss → Q (.str m) H) : rMinS K [.ref a] H Q := ⟨a, ss, rfl, hx, h0, q⟩
theorem lenD {a : Addr} {kvs : List (Key × V)} {R : List (Key × V) → Prop} (hx : H a = some (.dK kvs)) (q : R kvs) : ∃ b ks, [V.ref a] = [V.ref b] ∧ H b = some (.dK ks) ∧ R ks := ⟨a, kvs, rfl, hx, q⟩
end
end FR

/-! free texts, in plain Lean: fronts, the machine of fronts, rounds -/
namespace FL
abbrev W := List Nat
/-- a piece stands at the end -/
def ends (ps : List W) (w : W) : Bool := ps.any fun p => p.isSuffixOf w
def Free (ps : List W) (w : W) : Prop := ∀ p, p ∈ ps → ¬ p <:+: w
def Front (ps : List W) (f : W) : Prop := f = [] ∨ ∃ p, p ∈ ps ∧ ∃ i, i < p.length ∧ f = p.take i
theorem Front.pre {ps : List W} {s : W} {a : Nat} (h : Front ps (s ++ [a])) : Front ps s := by
  rcases h with h | ⟨p, hp, i, hi, e⟩
  · simp at h
  · refine .inr ⟨p, hp, s.length, ?_, ?_⟩
    · have := congrArg List.length e
      rw [List.length_append, List.length_take, List.length_singleton] at this
      omega
    · have h1 : (s ++ [a]).take s.length = s := by simp
      rw [e, List.take_take] at h1
      rw [show min s.length i = s.length by
        have := congrArg List.length e
        rw [List.length_append, List.length_take, List.length_singleton] at this
        omega] at h1
      exact h1.symm
theorem ends_false {ps : List W} {w : W} (h : ends ps w = false) {p : W} (hp : p ∈ ps) : ¬ p <:+ w := fun s => by
  unfold ends at h
  rw [List.any_eq_false] at h
  exact h p hp (List.isSuffixOf_iff_suffix.mpr s)
theorem ends_of {ps : List W} {w : W} (h : ∀ p, p ∈ ps → ¬ p <:+ w) : ends ps w = false := by
  unfold ends
  rw [List.any_eq_false]
  exact fun p hp e => h p hp (List.isSuffixOf_iff_suffix.mp e)
/-- the longest end that is a front -/
def lf (fs : List W) : W → W
  | [] => []
  | a :: l => if (a :: l) ∈ fs then a :: l else lf fs l
theorem lf_suf (fs : List W) : ∀ w, lf fs w <:+ w
  | [] => List.suffix_refl _
  | a :: l => by
    unfold lf
    split
    · exact List.suffix_refl _
    · exact (lf_suf fs l).trans (List.suffix_cons a l)
theorem lf_mem {fs : List W} (h0 : [] ∈ fs) : ∀ w, lf fs w ∈ fs
  | [] => h0
  | a :: l => by
    unfold lf
    split
    · assumption
    · exact lf_mem h0 l
theorem lf_max {fs : List W} : ∀ w s, s ∈ fs → s <:+ w → s <:+ lf fs w
  | [], s, _, h => h
  | a :: l, s, hs, h => by
    unfold lf
    split
    · exact h
    · rename_i hn
      rcases List.suffix_cons_iff.mp h with e | e
      · rw [e] at hs
        exact absurd hs hn
      · exact lf_max l s hs e
theorem suf_snoc {s w : W} {a : Nat} (h : s <:+ w ++ [a]) : s = [] ∨ ∃ r, s = r ++ [a] ∧ r <:+ w := by
  rcases List.eq_nil_or_concat s with e | ⟨r, b, e⟩
  · exact .inl e
  · refine .inr ⟨r, ?_⟩
    rw [List.concat_eq_append] at e
    subst e
    obtain ⟨t, ht⟩ := h
    rw [← List.append_assoc] at ht
    have h1 := List.append_inj' ht rfl
    have h2 : b = a := by simpa using h1.2
    exact ⟨by rw [h2], t, h1.1⟩
theorem inf_snoc {p w : W} {a : Nat} (h : p <:+: w ++ [a]) : p <:+: w ∨ p <:+ w ++ [a] := by
  obtain ⟨s, t, e⟩ := h
  rcases List.eq_nil_or_concat t with z | ⟨r, b, z⟩
  · subst z
    exact .inr ⟨s, by simpa using e⟩
  · rw [List.concat_eq_append] at z
    subst z
    rw [← List.append_assoc] at e
    exact .inl ⟨s, r, (List.append_inj' e rfl).1⟩
/-! ### the machine -/
def Stp (ps fs : List W) (own : W) (q : W) (a : Nat) (r : W) : Prop := a ∈ own ∧ ends ps (q ++ [a]) = false ∧ r = lf fs (q ++ [a])
inductive Run (S : W → Nat → W → Prop) (q : W) : W → W → Prop where
  | nil : Run S q [] q
  | snoc {w r s : W} {a : Nat} : Run S q w r → S r a s → Run S q (w ++ [a]) s
theorem Run.app {S : W → Nat → W → Prop} {q w r v s : W} (h : Run S q w r) (g : Run S r v s) : Run S q (w ++ v) s := by
  induction g with
  | nil => rw [List.append_nil]; exact h
  | snoc _ st ih => rw [← List.append_assoc]; exact .snoc ih st
def rep (n : Nat) (v : W) : W := (List.replicate n v).flatten
theorem rep_succ (n : Nat) (v : W) : rep (n + 1) v = v ++ rep n v := by
  unfold rep
  rw [List.replicate_succ, List.flatten_cons]
theorem rep_succ' (n : Nat) (v : W) : rep (n + 1) v = rep n v ++ v := by
  unfold rep
  rw [List.replicate_succ', List.flatten_append]
  simp
theorem rep_length (n : Nat) (v : W) : (rep n v).length = n * v.length := by
  unfold rep
  rw [List.length_flatten, List.map_replicate, List.sum_replicate_nat]
theorem Run.rounds {S : W → Nat → W → Prop} {q v : W} (g : Run S q v q) : ∀ n, Run S q (rep n v) q
  | 0 => .nil
  | n + 1 => by rw [rep_succ']; exact (g.rounds n).app g
theorem Run.split {S : W → Nat → W → Prop} {q w s : W} (h : Run S q w s) : ∀ k, k ≤ w.length → ∃ r, Run S q (w.take k) r ∧ Run S r (w.drop k) s := by
  induction h with
  | nil =>
    intro k hk
    exact ⟨q, by simpa using Run.nil, by simpa using Run.nil⟩
  | @snoc w r s a _ st ih =>
    intro k hk
    by_cases e : k ≤ w.length
    · obtain ⟨m, h1, h2⟩ := ih k e
      refine ⟨m, by rw [List.take_append_of_le_length e]; exact h1, ?_⟩
      rw [List.drop_append_of_le_length e]
      exact .snoc h2 st
    · have e : k = (w ++ [a]).length := by
        rw [List.length_append, List.length_singleton] at *
        omega
      subst e
      refine ⟨s, ?_, by simpa using Run.nil⟩
      rw [List.take_length]
      exact .snoc ‹_› st
section
variable {ps fs : List W} {own : W}
/-- what running from no letter on knows -/
theorem run_inv (hfs : ∀ f, f ∈ fs ↔ Front ps f) (hne : ∀ p, p ∈ ps → p ≠ []) {w q : W} (h : Run (Stp ps fs own) [] w q) :
    q <:+ w ∧ q ∈ fs ∧ (∀ s, s ∈ fs → s <:+ w → s <:+ q) ∧ Free ps w ∧ ∀ a, a ∈ w → a ∈ own := by
  have h0 : [] ∈ fs := (hfs []).mpr (.inl rfl)
  induction h with
  | nil =>
    exact ⟨List.suffix_refl _, h0, fun s _ h => h, fun p hp h => hne p hp (List.infix_nil.mp h), fun a ha => (List.not_mem_nil ha).elim⟩
  | @snoc w r s a _ st ih =>
    obtain ⟨i1, i2, i3, i4, i5⟩ := ih
    obtain ⟨s1, s2, rfl⟩ := st
    have e1 : ∀ {x : W}, x <:+ r ++ [a] → x <:+ w ++ [a] := fun {x} hx => by
      rcases suf_snoc hx with e | ⟨y, e, hy⟩
      · rw [e]; exact List.nil_suffix
      · obtain ⟨t, ht⟩ := hy.trans i1
        exact ⟨t, by rw [e, ← List.append_assoc, ht]⟩
    have e2 : ∀ {x : W}, Front ps x → x <:+ w → x <:+ r := fun hx h => i3 _ ((hfs _).mpr hx) h
    refine ⟨e1 (lf_suf fs _), lf_mem h0 _, fun x hx h => ?_, fun p hp h => ?_, fun b hb => ?_⟩
    · refine lf_max _ _ hx ?_
      rcases suf_snoc h with e | ⟨y, e, hy⟩
      · rw [e]; exact List.nil_suffix
      · subst e
        obtain ⟨t, ht⟩ := e2 (((hfs _).mp hx).pre) hy
        exact ⟨t, by rw [← ht, List.append_assoc]⟩
    · rcases inf_snoc h with h | h
      · exact i4 p hp h
      · refine ends_false s2 hp ?_
        rcases suf_snoc h with e | ⟨y, e, hy⟩
        · exact absurd e (hne p hp)
        · have hf : Front ps y := .inr ⟨p, hp, y.length, by rw [e]; simp, by rw [e]; simp⟩
          obtain ⟨t, ht⟩ := e2 hf hy
          exact ⟨t, by rw [e, ← ht, List.append_assoc]⟩
    · rcases List.mem_append.mp hb with h | h
      · exact i5 b h
      · rw [List.mem_singleton.mp h]
        exact s1
/-- every free text of own letters runs through -/
theorem run_of (hfs : ∀ f, f ∈ fs ↔ Front ps f) (hne : ∀ p, p ∈ ps → p ≠ []) : ∀ (w : W), Free ps w → (∀ a, a ∈ w → a ∈ own) → ∃ q, Run (Stp ps fs own) [] w q := by
  intro w
  induction hn : w.length generalizing w with
  | zero =>
    intro _ _
    rw [List.eq_nil_of_length_eq_zero hn]
    exact ⟨[], .nil⟩
  | succ n ih =>
    intro hf ho
    rcases List.eq_nil_or_concat w with e | ⟨r, b, e⟩
    · rw [e] at hn; cases hn
    · rw [List.concat_eq_append] at e
      subst e
      have hl : r.length = n := by simpa using hn
      obtain ⟨q, hq⟩ := ih r hl (fun p hp h => hf p hp (h.trans (List.infix_append' [] r [b]))) (fun a ha => ho a (List.mem_append_left _ ha))
      obtain ⟨i1, _⟩ := run_inv hfs hne hq
      refine ⟨_, .snoc hq ⟨ho b (by simp), ends_of fun p hp h => hf p hp ?_, rfl⟩⟩
      obtain ⟨t, ht⟩ := i1
      exact (List.IsSuffix.isInfix h).trans ⟨t, [], by rw [← ht]; simp⟩
end
/-! ### rounds: free however often -/
theorem inf_of_drop {p x : W} {i : Nat} (h : p <+: x.drop i) : p <:+: x := by
  obtain ⟨t, ht⟩ := h
  exact ⟨x.take i, t, by rw [List.append_assoc, ht, List.take_append_drop]⟩
theorem inf_iff {p x : W} : p <:+: x ↔ ∃ i, i + p.length ≤ x.length ∧ p <+: x.drop i := by
  constructor
  · rintro ⟨s, t, e⟩
    refine ⟨s.length, by rw [← e]; simp only [List.length_append]; omega, t, ?_⟩
    rw [← e, List.append_assoc, List.drop_left]
  · rintro ⟨i, _, h⟩
    exact inf_of_drop h
theorem pre_more (u v : W) {n m : Nat} (h : n ≤ m) : u ++ rep n v <+: u ++ rep m v := by
  obtain ⟨k, rfl⟩ : ∃ k, m = n + k := ⟨m - n, by omega⟩
  refine ⟨rep k v, ?_⟩
  unfold rep
  rw [List.append_assoc, ← List.flatten_append, List.replicate_append_replicate]
theorem rounds_few {u v p : W} {M k : Nat} (hv : 0 < v.length) (hp : p.length ≤ M) (hk : M / v.length + 2 ≤ k) : ∀ n, p <:+: u ++ rep n v → p <:+: u ++ rep k v
  | n, h => by
    by_cases hn : n ≤ k
    · exact h.trans (pre_more u v hn).isInfix
    · obtain ⟨m, rfl⟩ : ∃ m, n = m + 1 := ⟨n - 1, by omega⟩
      obtain ⟨i, hi, hpi⟩ := inf_iff.mp h
      by_cases c : u.length + v.length ≤ i
      · refine rounds_few hv hp hk m (inf_of_drop (i := i - v.length) ?_)
        have e1 : (u ++ rep (m + 1) v).drop i = (rep m v).drop (i - u.length - v.length) := by
          rw [rep_succ, ← List.append_assoc, List.drop_append, List.drop_of_length_le (by rw [List.length_append]; omega), List.nil_append, List.length_append]
          congr 1
          omega
        have e2 : (u ++ rep m v).drop (i - v.length) = (rep m v).drop (i - u.length - v.length) := by
          rw [List.drop_append, List.drop_of_length_le (by omega), List.nil_append]
          congr 1
          omega
        rw [e2, ← e1]
        exact hpi
      · obtain ⟨t, ht⟩ := pre_more u v (n := k) (m := m + 1) (by omega)
        have hd : M < (M / v.length + 1) * v.length := by
          have := Nat.div_add_mod M v.length
          have h2 := Nat.mod_lt M hv
          rw [Nat.add_mul, Nat.one_mul, Nat.mul_comm]
          omega
        have hd2 : (M / v.length + 1) * v.length + v.length ≤ k * v.length := by
          have := Nat.mul_le_mul_right v.length hk
          rw [show M / v.length + 2 = (M / v.length + 1) + 1 by omega, Nat.add_mul _ 1, Nat.one_mul] at this
          exact this
        have hlen : i + p.length ≤ (u ++ rep k v).length := by
          rw [List.length_append, rep_length]
          omega
        refine inf_of_drop (i := i) ?_
        rw [← ht, List.drop_append_of_le_length (by omega)] at hpi
        exact List.prefix_of_prefix_length_le hpi (List.prefix_append _ _) (by rw [List.length_drop]; omega)
  termination_by n => n
/-- both looks are one -/
theorem looks {ps : List W} {u v : W} {M : Nat} (hv : 0 < v.length) (hM : ∀ p, p ∈ ps → p.length ≤ M) (h16 : M ≤ 16) :
    (Free ps u ∧ Free ps (u ++ rep (M / v.length + 2) v)) ↔ Free ps (u ++ rep (2 + 16 / v.length) v) := by
  have hle : M / v.length + 2 ≤ 2 + 16 / v.length := by
    have := Nat.div_le_div_right (c := v.length) h16
    omega
  constructor
  · rintro ⟨_, h⟩ p hp z
    exact h p hp (rounds_few hv (hM p hp) (Nat.le_refl _) _ z)
  · intro h
    refine ⟨fun p hp z => h p hp (z.trans ⟨[], _, rfl⟩), fun p hp z => h p hp (z.trans (pre_more u v hle).isInfix)⟩
/-- a round of the machine is free however often -/
theorem rounds_free {ps fs : List W} {own : W} (hfs : ∀ f, f ∈ fs ↔ Front ps f) (hne : ∀ p, p ∈ ps → p ≠ []) {u v q : W} (h : Run (Stp ps fs own) [] u q) (g : Run (Stp ps fs own) q v q) (n : Nat) :
    Free ps (u ++ rep n v) ∧ ∀ a, a ∈ u ++ v → a ∈ own := ⟨(run_inv hfs hne (h.app (g.rounds n))).2.2.2.1, (run_inv hfs hne (h.app g)).2.2.2.2⟩
/-! ### texts of the model -/
open PySem in
theorem sub_at {x y : Str} {i : Nat} (h : i + y.length ≤ x.length) : Builtin.Str.subAt x y i = true ↔ y.cps.toList <+: x.cps.toList.drop i := by
  have e1 : x.length = x.cps.toList.length := Array.length_toList.symm
  have e2 : y.length = y.cps.toList.length := Array.length_toList.symm
  unfold Builtin.Str.subAt
  rw [beq_iff_eq, ← Array.toList_inj, Array.toList_extract, List.extract_eq_drop_take, List.prefix_iff_eq_take, e2, show i + y.cps.toList.length - i = y.cps.toList.length by omega]
  exact eq_comm
open PySem in
theorem in_iff (x y : Str) : (!(Builtin.Str.occurrences x y 0 x.length 1).isEmpty) = decide (y.cps.toList <:+: x.cps.toList) := by
  have e1 : x.length = x.cps.toList.length := Array.length_toList.symm
  have e2 : y.length = y.cps.toList.length := Array.length_toList.symm
  rw [Bool.eq_iff_iff, StrLaws.found_iff, decide_eq_true_eq, inf_iff]
  constructor
  · rintro ⟨i, h, s⟩
    exact ⟨i, by omega, (sub_at h).mp s⟩
  · rintro ⟨i, h, s⟩
    exact ⟨i, by omega, (sub_at (by omega)).mpr s⟩
open PySem in
theorem ends_iff (x y : Str) : Txt.endswith x y = y.cps.toList.isSuffixOf x.cps.toList := by
  have e1 : x.length = x.cps.toList.length := Array.length_toList.symm
  have e2 : y.length = y.cps.toList.length := Array.length_toList.symm
  rw [Bool.eq_iff_iff, List.isSuffixOf_iff_suffix]
  unfold Txt.endswith
  rw [Bool.and_eq_true, decide_eq_true_eq]
  constructor
  · rintro ⟨h, s⟩
    obtain ⟨t, ht⟩ := (sub_at (by omega)).mp s
    have hl := congrArg List.length ht
    rw [List.length_append, List.length_drop] at hl
    have : t = [] := List.eq_nil_of_length_eq_zero (by omega)
    subst this
    rw [List.append_nil] at ht
    exact ⟨x.cps.toList.take (x.length - y.length), by rw [ht, List.take_append_drop]⟩
  · rintro ⟨t, ht⟩
    have hl := congrArg List.length ht
    rw [List.length_append] at hl
    refine ⟨by omega, (sub_at (by omega)).mpr ⟨[], ?_⟩⟩
    rw [List.append_nil, ← ht, List.drop_append, List.drop_of_length_le (by omega), show x.length - y.length - t.length = 0 by omega]
    simp
theorem sub_len {α : Type} [DecidableEq α] : ∀ {l m : List α}, l.Nodup → (∀ c, c ∈ l → c ∈ m) → l.length ≤ m.length
  | [], _, _, _ => Nat.zero_le _
  | a :: l, m, n, h => by
    have ha := h a List.mem_cons_self
    have n2 := List.nodup_cons.mp n
    have ih := sub_len (l := l) (m := m.erase a) n2.2 fun c hc => (List.mem_erase_of_ne (a := c) (b := a) (fun e => n2.1 (by rw [← e]; exact hc))).mpr (h c (List.mem_cons_of_mem _ hc))
    rw [List.length_erase_of_mem ha] at ih
    have := List.length_pos_of_mem ha
    rw [List.length_cons]
    omega
end FL

/-! the head's facts by names: defs, classes, own exceptions with super().__init__ -/
namespace HX
open PySem PySem.Spec PyProof.Rows L2 He NdefX
abbrev FnS : Type := Option (Str × Str × Arguments × FuncBody × Scope × Addr × Addr)
def fnS (K : PySem.W.Frag) (p : Str × Option Str) : FnS := match K.lookup (fAd K p) with
  | some ⟨_, _, .func fd, _⟩ => some (fd.name, fd.qualname, fd.params, fd.body, fd.scope, fd.globals, fd.builtins)
  | _ => none
structure DefS where
  at_ : Str × Option Str
  name : Str
  qual : Str
  st : Stmt
def DefS.val (d : DefS) : FnS := some (d.name, d.qual, defArgs d.st, .stmts (defBody d.st), defScope d.st, mainGlobals, builtinsNs)
/-- a plain def of no default -/
def plB (K : PySem.W.Frag) (p : Str × Option Str) (qual : Str) : Bool := PySem.W.keepIn K (.ref (fAd K p)) && (match K.lookup (fAd K p) with
  | some ⟨_, _, .func fd, _⟩ => PySem.W.codeIn K fd.code qual && (decide (fd.defaults = .none) && fd.closure.isEmpty)
  | _ => false)
/-- a def that holds its own class -/
def spB (K : PySem.W.Frag) (p : Str × Option Str) (qual file : Str) (C : Addr) : Bool := (match K.lookup (fAd K p) with
  | some ⟨_, _, .func fd, _⟩ => (match fd.closure with
    | [(y, cc)] => (match fd.code with
      | .ref cda => decide (y = ("__class__" : Str)) && (decide (fd.defaults = .none) && (PySem.W.codeIn K (.ref cda) qual && ((match K.lookup cda with
          | some ⟨_, _, .fields vs, _⟩ => (match (vs[2]? : Option Value) with
            | some (Value.str fl _) => decide (fl = file)
            | _ => false)
          | _ => false) && (match K.lookup cc with
          | some ⟨_, _, .cell (some (.ref D)), _⟩ => decide (D = C)
          | _ => false))))
      | _ => false)
    | _ => false)
  | _ => false)
theorem plB_ok {K : PySem.W.Frag} {d : DefS} (e : fnS K d.at_ = d.val) (c : plB K d.at_ d.qual = true) : ∃ fd, Fun K d.name d.qual d.st (fAd K d.at_) fd := by
  obtain ⟨kp, c2⟩ := ba c
  unfold fnS at e
  cases q : K.lookup (fAd K d.at_) with
  | none =>
    rw [q] at c2
    cases c2
  | some o =>
    obtain ⟨oc, od, dt, osl⟩ := o
    rw [q] at c2 e
    cases dt with
    | func fd =>
      obtain ⟨n1, n2, n3, n4, n5, n6, n7, n8, n9, n10, n11, n12, n13, n14, n15⟩ := fd
      have e2 : (some (n1, n2, n3, n4, n5, n6, n15) : FnS) = some (d.name, d.qual, defArgs d.st, .stmts (defBody d.st), defScope d.st, mainGlobals, builtinsNs) := e
      simp only [Option.some.injEq, Prod.mk.injEq] at e2
      obtain ⟨h1, h2, h3, h4, h5, h6, h7⟩ := e2
      subst h1 h2 h3 h4 h5 h6 h7
      have c3 : (PySem.W.codeIn K n13 d.qual && (decide (n8 = .none) && n7.isEmpty)) = true := c2
      obtain ⟨k1, k2⟩ := ba c3
      obtain ⟨k3, k4⟩ := ba k2
      have k3 := of_decide_eq_true k3
      subst k3
      have k4 : n7 = [] := List.isEmpty_iff.mp k4
      subst k4
      exact ⟨_, ⟨oc, od, n9, n10, n11, n12, n13, n14, osl, rfl, q, k1⟩, kp⟩
    | _ => cases c2
theorem spB_ok {K : PySem.W.Frag} {d : DefS} {file : Str} {C : Addr} (e : fnS K d.at_ = d.val) (c : spB K d.at_ d.qual file C = true) :
    ∃ fd oc od osl kV doc pm an cda cc ct ccl cdd vs ccs tf cl cld csl, fd = PySem.W.fnX d.name d.qual (defArgs d.st) (defBody d.st) (defScope d.st) [("__class__", cc)] .none kV doc pm an (.ref cda) ct ∧
    K.lookup (fAd K d.at_) = some ⟨oc, od, .func fd, osl⟩ ∧ PySem.W.codeIn K (.ref cda) d.qual = true ∧ K.lookup cda = some ⟨ccl, cdd, .fields vs, ccs⟩ ∧ vs[2]? = some (.str file tf) ∧
    K.lookup cc = some ⟨cl, cld, .cell (some (.ref C)), csl⟩ := by
  unfold fnS at e
  unfold spB at c
  cases q : K.lookup (fAd K d.at_) with
  | none =>
    rw [q] at c
    cases c
  | some o =>
    obtain ⟨oc, od, dt, osl⟩ := o
    rw [q] at c e
    cases dt with
    | func fd =>
      obtain ⟨n1, n2, n3, n4, n5, n6, n7, n8, n9, n10, n11, n12, n13, n14, n15⟩ := fd
      have e2 : (some (n1, n2, n3, n4, n5, n6, n15) : FnS) = some (d.name, d.qual, defArgs d.st, .stmts (defBody d.st), defScope d.st, mainGlobals, builtinsNs) := e
      simp only [Option.some.injEq, Prod.mk.injEq] at e2
      obtain ⟨h1, h2, h3, h4, h5, h6, h7⟩ := e2
      subst h1 h2 h3 h4 h5 h6 h7
      dsimp only at c
      cases n7 with
      | nil => cases c
      | cons hd tl =>
        obtain ⟨y, cc⟩ := hd
        cases tl with
        | cons _ _ => cases c
        | nil =>
          cases n13 with
          | ref cda =>
            obtain ⟨k1, c⟩ := ba c
            obtain ⟨k2, c⟩ := ba c
            obtain ⟨k3, c⟩ := ba c
            obtain ⟨k4, k5⟩ := ba c
            have k1 := of_decide_eq_true k1
            subst k1
            have k2 := of_decide_eq_true k2
            subst k2
            cases q1 : K.lookup cda with
            | none =>
              rw [q1] at k4
              cases k4
            | some o1 =>
              obtain ⟨ccl, cdd, dt1, ccs⟩ := o1
              rw [q1] at k4
              cases dt1 with
              | fields vs =>
                dsimp only at k4
                cases q2 : vs[2]? with
                | none =>
                  rw [q2] at k4
                  cases k4
                | some v =>
                  rw [q2] at k4
                  cases v with
                  | str fl tf =>
                    have k4 := of_decide_eq_true k4
                    subst k4
                    cases q3 : K.lookup cc with
                    | none =>
                      rw [q3] at k5
                      cases k5
                    | some o2 =>
                      obtain ⟨cl, cld, dt2, csl⟩ := o2
                      rw [q3] at k5
                      cases dt2 with
                      | cell ov =>
                        cases ov with
                        | none => cases k5
                        | some v =>
                          cases v with
                          | ref D =>
                            have k5 := of_decide_eq_true k5
                            subst k5
                            exact ⟨_, oc, od, osl, n9, n10, n11, n12, cda, cc, n14, ccl, cdd, vs, ccs, tf, cl, cld, csl, rfl, rfl, k3, q1, q2, q3⟩
                          | _ => cases k5
                      | _ => cases k5
                  | _ => cases k4
              | _ => cases k4
          | _ => cases c
    | _ => cases c
/-! own exception classes -/
def oexB (K : PySem.W.Frag) (C : Addr) : Bool := (match K.lookup C with
  | some ⟨.type c, _, .cls cd, sl⟩ => decide (c = "type") && ((match cd.mro with
      | .ref C' :: bm => decide (C' = C) && PySem.HandSPX.refsVE bm
      | _ => false) && ((match sl with
      | ⟨[_, _, _, _, some (.builtin n), _]⟩ => decide (n = "ValueError.__new__")
      | _ => false) && (cd.hasDict && !cd.hasDel)))
  | _ => false) && (eqO (PySem.W.findIn K (.ref C) "__setattr__") (some (some (.builtin "object.__setattr__"))) && (decide (PySem.W.subIn K (.ref C) (.type "BaseException") = some true) && (decide (PySem.W.typeIn K (.ref C) = some (.type "type")) && PySem.W.keepIn K (.ref C))))
theorem oexB_ok {K : PySem.W.Frag} {C : Addr} (h : oexB K C = true) : OexC K C := by
  obtain ⟨c, h⟩ := ba h
  obtain ⟨h1, h⟩ := ba h
  obtain ⟨h2, h⟩ := ba h
  obtain ⟨h3, h4⟩ := ba h
  refine ⟨?_, eqO_ok h1, of_decide_eq_true h2, of_decide_eq_true h3, h4⟩
  cases q : K.lookup C with
  | none =>
    rw [q] at c
    cases c
  | some o =>
    obtain ⟨oc, od, dt, sl⟩ := o
    rw [q] at c
    cases oc with
    | type t =>
      cases dt with
      | cls cd =>
        obtain ⟨e1, c⟩ := ba c
        obtain ⟨e2, c⟩ := ba c
        obtain ⟨e3, c⟩ := ba c
        obtain ⟨e4, e5⟩ := ba c
        have e1 := of_decide_eq_true e1
        subst e1
        obtain ⟨nm, bs, mro, ns, qn, hdct, sn, sub, ab, col, dl⟩ := cd
        dsimp only at e2 e3 e4 e5
        cases mro with
        | nil => cases e2
        | cons m bm =>
          cases m with
          | ref C' =>
            obtain ⟨e2, e6⟩ := ba e2
            have e2 := of_decide_eq_true e2
            subst e2
            have e4 : hdct = true := e4
            subst e4
            have e5 : dl = false := by
              cases dl with
              | true => cases e5
              | false => rfl
            subst e5
            split at e3
            · have e3 := of_decide_eq_true e3
              subst e3
              exact ⟨nm, qn, ns, bs, bm, sn, sub, ab, col, od, _, _, _, _, _, rfl, e6⟩
            · cases e3
          | _ => cases e2
      | _ => cases c
    | _ => cases dt <;> cases c
def excB (K : PySem.W.Frag) (D : Addr) : Bool := eqO (PySem.W.findIn K (.ref D) "__getattribute__") (some (some (.builtin "BaseException.__getattribute__"))) && (eqO (PySem.W.findIn K (.ref D) "__getattr__") (some none) && (decide (PySem.W.subIn K (.ref D) (.type "BaseException") = some true) && (PySem.W.hasDictIn K D &&
  (eqO (PySem.W.findIn K (.ref D) "__class__") (some (some (.builtin "object.__class__"))) && (eqO (PySem.W.specialIn K (.builtin "object.__class__") "__get__") (some (some (.builtin "getset_descriptor.__get__"))) && (decide (PySem.W.takesIn K (.builtin "object.__class__") = some true) && decide (PySem.W.mroIn K D (.type "object") = some true)))))))
theorem excB_ok {K : PySem.W.Frag} {D : Addr} (h : excB K D = true) : L2.ExcC K D := by
  obtain ⟨h1, h⟩ := ba h
  obtain ⟨h2, h⟩ := ba h
  obtain ⟨h3, h⟩ := ba h
  obtain ⟨h4, h⟩ := ba h
  obtain ⟨h5, h⟩ := ba h
  obtain ⟨h6, h⟩ := ba h
  obtain ⟨h7, h8⟩ := ba h
  exact ⟨eqO_ok h1, eqO_ok h2, of_decide_eq_true h3, h4, eqO_ok h5, eqO_ok h6, of_decide_eq_true h7, of_decide_eq_true h8⟩
/-- what super().__init__ asks -/
def sicB (K : PySem.W.Frag) (D : Addr) (fld : Str) : Bool := (PySem.W.clsIn K D).isSome && (decide (PySem.W.mroIn K D (.ref D) = some true) && (decide (PySem.W.subIn K (.ref D) (.type "ValueError") = some true) && (eqO (PySem.W.nsIn K cStatics "thirdparty.any") (some none) &&
  (eqO (PySem.W.ks_superIn K D D "__init__") (some (some (.builtin "ValueError.__init__"))) && eqO (PySem.W.findIn K (.ref D) fld) (some none)))))
/-- the text's part -/
structure SiT (P : Program) (st : Stmt) (qual fld prm : Str) : Prop where
  sc : NScope ["self", prm, "__class__"] ["self", prm] ["__class__"] (defScope st)
  sup : (defScope st).names.lookup ("super" : Str) = some .globalImplicit
  body : ∃ p0 p1 p2 p3 p4 p5 p6 p7 p8 p9, defBody st = [.Expr (.Call (.Attribute (.Call (.Name "super" p0) [] [] p1) "__init__" p2) [.Name prm p3] [] p4) p5, .Assign [.Attribute (.Name "self" p6) fld p7] (.Name prm p8) p9] ∧
    ∃ pl : Sem Bool, ∀ (L f cda cc : Addr), eval (.Call (.Attribute (.Call (.Name "super" p0) [] [] p1) "__init__" p2) [.Name prm p3] [] p4) (PySem.W.envX qual (defScope st) L f (.ref cda) [("__class__", cc)]) = (do
      let ov ← attributeBase (.Call (.Name "super" p0) [] [] p1) "__init__" (PySem.W.envX qual (defScope st) L f (.ref cda) [("__class__", cc)]) (eval (.Call (.Name "super" p0) [] [] p1) (PySem.W.envX qual (defScope st) L f (.ref cda) [("__class__", cc)]))
      standAt p2.atName
      let (f', first) ← holding [ov] (getMethod ov "__init__" pl)
      callWith p4 f' first (backTo p4 (starEach [.Name prm p3] (PySem.W.envX qual (defScope st) L f (.ref cda) [("__class__", cc)]))) [])
  head : ((defArgs st).posonlyargs ++ (defArgs st).args).head?.map (·.arg) = some "self"
  nd : (prm == ("__debug__" : Str)) = false
  nc : (prm == ("__classdict__" : Str)) = false
  top : (P.main.scope.names.lookup ("super" : Str)).isSome = false
theorem sic_ok {P : Program} {K : PySem.W.Frag} {mg : Str → Option Value} {st : Stmt} {x qual fld prm : Str} {D : Addr} (S : SiT P st qual fld prm) (h1 : oexB K D = true) (h2 : sicB K D fld = true) (h3 : spB K (x, some "__init__") qual P.main.file D = true)
    (e : fnS K (x, some "__init__") = (DefS.mk (x, some "__init__") "__init__" qual st).val) (hs : mg "super" = none) (hb : ∀ kV doc pm an cv ct cl (us : List Value), us.length = 2 → bindArgs (PySem.W.fnX "__init__" qual (defArgs st) (defBody st) (defScope st) cl .none kV doc pm an cv ct) ⟨us, []⟩ = pure ((["self", prm] : List Str).zip us)) :
    ∃ fd, SPX.SiC P K mg st qual fld prm D (fAd K (x, some "__init__")) fd ∧ Binds K fd ["self", prm] [] := by
  obtain ⟨k1, h⟩ := ba h2
  obtain ⟨k2, h⟩ := ba h
  obtain ⟨k3, h⟩ := ba h
  obtain ⟨k4, h⟩ := ba h
  obtain ⟨k5, k6⟩ := ba h
  obtain ⟨fd, oc, od, osl, kV, doc, pm, an, cda, cc, ct, ccl, cdd, vs, ccs, tf, cl, cld, csl, e1, e2, e3, e4, e5, e6⟩ := spB_ok (d := ⟨(x, some "__init__"), "__init__", qual, st⟩) e h3
  refine ⟨fd, ⟨oexB_ok h1, S.sc, S.sup, S.body, S.head, ?_, k1, of_decide_eq_true k2, of_decide_eq_true k3, S.top, eqO_ok k4, eqO_ok k5, hs, eqO_ok k6, S.nd, S.nc⟩, .all fun us hl => by rw [e1]; exact hb _ _ _ _ _ _ _ us hl⟩
  exact ⟨oc, od, osl, kV, doc, pm, an, cda, cc, ct, ccl, cdd, vs, ccs, P.main.file, tf, cl, cld, csl, e1, e2, e3, e4, e5, beq_self_eq_true _, e6⟩
/-! ### the Hook -/
abbrev AlX : Type := Bool × List FnS
def obsX (ck : List (PySem.W.Frag → Bool)) (fn : List DefS) (K : PySem.W.Frag) : AlX := (ck.all fun f => f K, fn.map fun d => fnS K d.at_)
def valX (fn : List DefS) : AlX := (true, fn.map DefS.val)
def SaysX (ck : List (PySem.W.Frag → Bool)) (fn : List DefS) (K : PySem.W.Frag) : Prop := obsX ck fn K = valX fn
def obsXG (n : Nat) (ck : List (PySem.W.Frag → Bool)) (fn : List DefS) (g : Addr → Option Obj) : AlX := obsX ck fn (frG g (cStatics :: asD g n))
def hookX (n : Nat) (ck : List (PySem.W.Frag → Bool)) (fn : List DefS) : PySem.W.Hook where
  α := AlX
  obs := fun s => obsXG n ck fn s.heap.get?
  val := fun _ => valX fn
  says := fun _ h => ∃ K : PySem.W.Frag, K.In h ∧ SaysX ck fn K
  of := fun _ _ e => ⟨_, frG_in, e⟩
  keeps := fun _ _ _ ⟨K, hK, c⟩ k => ⟨K, PySem.W.Frag.In.keeps hK k, c⟩
theorem obsXG_eq {n : Nat} {ck : List (PySem.W.Frag → Bool)} {fn : List DefS} {g : Addr → Option Obj} {s : Shared} (h : ∀ a, g a = s.heap.get? a) : obsXG n ck fn g = (hookX n ck fn).obs s := by
  have e : g = s.heap.get? := funext h
  rw [e] <;> rfl
section
variable {ck : List (PySem.W.Frag → Bool)} {fn : List DefS} {K : PySem.W.Frag}
theorem SaysX.fact (c : SaysX ck fn K) (i : Nat) {f : PySem.W.Frag → Bool} (h : ck[i]? = some f := by rfl) : f K = true := by
  have c1 : (ck.all fun f => f K) = true := congrArg (fun z : AlX => z.1) c
  exact List.all_eq_true.mp c1 f (List.mem_of_getElem? h)
theorem SaysX.fn_ (c : SaysX ck fn K) (i : Nat) {d : DefS} (h : fn[i]? = some d := by rfl) : fnS K d.at_ = d.val := by
  have e : fn.map (fun d => fnS K d.at_) = fn.map DefS.val := congrArg (fun z : AlX => z.2) c
  have e2 : (fn.map fun d => fnS K d.at_)[i]? = (fn.map DefS.val)[i]? := by rw [e]
  rw [List.getElem?_map, List.getElem?_map, h] at e2
  exact Option.some.inj e2
end
end HX

namespace K11
open PySem PySem.Spec PyProof.Rows L2
/-! ### the text -/
def topS (i : Nat) : Stmt := PySem.Challenge.pw_struckpieces_k11_whole_endless_pairs_jud.main.body.getD i (.Pass ⟨0, 0, 0, 0⟩)
abbrev s_BadBook_init : Stmt := inClass (topS 2) 0
abbrev s_q_is_log : Stmt := topS 7
abbrev N_q_is_log : List Str := ["thing", "sign"]
theorem sc_q_is_log : FnScope N_q_is_log ["thing"] (defScope s_q_is_log) := ⟨rfl, rfl, rfl, by decide +kernel, rfl, by decide +kernel, by decide +kernel⟩
abbrev s_is_piece : Stmt := topS 8
abbrev N_is_piece : List Str := ["thing"]
theorem sc_is_piece : FnScope N_is_piece ["thing"] (defScope s_is_piece) := ⟨rfl, rfl, rfl, by decide +kernel, rfl, by decide +kernel, by decide +kernel⟩
abbrev s_Book_init : Stmt := inClass (topS 9) 0
abbrev N_Book_init : List Str := ["self", "pieces", "number", "piece"]
theorem sc_Book_init : FnScope N_Book_init ["self", "pieces"] (defScope s_Book_init) := ⟨rfl, rfl, rfl, by decide +kernel, rfl, by decide +kernel, by decide +kernel⟩
abbrev s_Book_eq : Stmt := inClass (topS 9) 1
abbrev N_Book_eq : List Str := ["self", "other"]
theorem sc_Book_eq : FnScope N_Book_eq ["self", "other"] (defScope s_Book_eq) := ⟨rfl, rfl, rfl, by decide +kernel, rfl, by decide +kernel, by decide +kernel⟩
abbrev s_letters : Stmt := topS 10
abbrev N_letters : List Str := ["book"]
theorem sc_letters : FnScope N_letters ["book"] (defScope s_letters) := ⟨rfl, rfl, rfl, by decide +kernel, rfl, by decide +kernel, by decide +kernel⟩
abbrev s_is_own : Stmt := topS 11
abbrev N_is_own : List Str := ["book", "thing", "own", "sign"]
theorem sc_is_own : FnScope N_is_own ["book", "thing"] (defScope s_is_own) := ⟨rfl, rfl, rfl, by decide +kernel, rfl, by decide +kernel, by decide +kernel⟩
abbrev s_fronts_of : Stmt := topS 13
abbrev N_fronts_of : List Str := ["book", "found", "piece", "at"]
theorem sc_fronts_of : FnScope N_fronts_of ["book"] (defScope s_fronts_of) := ⟨rfl, rfl, rfl, by decide +kernel, rfl, by decide +kernel, by decide +kernel⟩
abbrev s_holds_piece : Stmt := topS 14
abbrev N_holds_piece : List Str := ["book", "text", "piece"]
theorem sc_holds_piece : FnScope N_holds_piece ["book", "text"] (defScope s_holds_piece) := ⟨rfl, rfl, rfl, by decide +kernel, rfl, by decide +kernel, by decide +kernel⟩
abbrev s_next_fronts : Stmt := topS 15
abbrev N_next_fronts : List Str := ["book", "fronts", "found", "waiting", "front", "letter", "text", "piece"]
theorem sc_next_fronts : FnScope N_next_fronts ["book"] (defScope s_next_fronts) := ⟨rfl, rfl, rfl, by decide +kernel, rfl, by decide +kernel, by decide +kernel⟩
abbrev s_longest_front : Stmt := topS 16
abbrev N_longest_front : List Str := ["fronts", "text"]
theorem sc_longest_front : FnScope N_longest_front ["fronts", "text"] (defScope s_longest_front) := ⟨rfl, rfl, rfl, by decide +kernel, rfl, by decide +kernel, by decide +kernel⟩
abbrev s_heights : Stmt := topS 17
abbrev N_heights : List Str := ["steps", "found", "grown", "front", "later"]
theorem sc_heights : FnScope N_heights ["steps"] (defScope s_heights) := ⟨rfl, rfl, rfl, by decide +kernel, rfl, by decide +kernel, by decide +kernel⟩
abbrev s_endless : Stmt := topS 18
abbrev N_endless : List Str := ["book", "steps", "ends", "front", "text", "places", "letter", "one"]
theorem sc_endless : FnScope N_endless ["book"] (defScope s_endless) := ⟨rfl, rfl, rfl, by decide +kernel, rfl, by decide +kernel, by decide +kernel⟩
abbrev s_stays_free : Stmt := topS 19
abbrev N_stays_free : List Str := ["book", "front", "turned", "many", "piece"]
theorem sc_stays_free : FnScope N_stays_free ["book", "front", "turned"] (defScope s_stays_free) := ⟨rfl, rfl, rfl, by decide +kernel, rfl, by decide +kernel, by decide +kernel⟩
abbrev s_is_endless : Stmt := topS 20
abbrev N_is_endless : List Str := ["book", "thing", "part"]
theorem sc_is_endless : FnScope N_is_endless ["book", "thing"] (defScope s_is_endless) := ⟨rfl, rfl, rfl, by decide +kernel, rfl, by decide +kernel, by decide +kernel⟩
abbrev s_bag : Stmt := topS 22
abbrev N_bag : List Str := ["_law_script", "_law_seed", "_law_cell", "_law_great", "_law_always"]
theorem sc_bag : FnScope N_bag ["_law_script"] (defScope s_bag) := ⟨rfl, rfl, rfl, by decide +kernel, rfl, by decide +kernel, by decide +kernel⟩
abbrev s_pick : Stmt := topS 23
abbrev N_pick : List Str := ["_law_bag_here", "_law_many", "_law_great", "_law_digit", "_law_number"]
theorem sc_pick : FnScope N_pick ["_law_bag_here", "_law_many"] (defScope s_pick) := ⟨rfl, rfl, rfl, by decide +kernel, rfl, by decide +kernel, by decide +kernel⟩
abbrev s_some : Stmt := topS 24
abbrev N_some : List Str := ["_law_bag_here", "_law_things"]
theorem sc_some : FnScope N_some ["_law_bag_here", "_law_things"] (defScope s_some) := ⟨rfl, rfl, rfl, by decide +kernel, rfl, by decide +kernel, by decide +kernel⟩
abbrev s_nested : Stmt := topS 25
abbrev N_nested : List Str := ["_law_thing", "_law_turn"]
theorem sc_nested : FnScope N_nested [] (defScope s_nested) := ⟨rfl, rfl, rfl, by decide +kernel, rfl, by decide +kernel, by decide +kernel⟩
abbrev s_own : Stmt := topS 26
abbrev N_own : List Str := ["_law_pieces"]
theorem sc_own : FnScope N_own ["_law_pieces"] (defScope s_own) := ⟨rfl, rfl, rfl, by decide +kernel, rfl, by decide +kernel, by decide +kernel⟩
abbrev s_named : Stmt := topS 27
abbrev N_named : List Str := ["_law_bag_here", "_law_pieces", "_law_left", "_law_names", "_law_letter", "_law_found", "_law_row", "_law_turn", "_law_piece"]
theorem sc_named : FnScope N_named ["_law_bag_here", "_law_pieces"] (defScope s_named) := ⟨rfl, rfl, rfl, by decide +kernel, rfl, by decide +kernel, by decide +kernel⟩
abbrev s_more : Stmt := topS 28
abbrev N_more : List Str := ["_law_bag_here", "_law_pieces", "_law_most", "_law_found", "_law_own_here", "_law_turn", "_law_piece", "_law_letter"]
theorem sc_more : FnScope N_more ["_law_bag_here", "_law_pieces", "_law_most"] (defScope s_more) := ⟨rfl, rfl, rfl, by decide +kernel, rfl, by decide +kernel, by decide +kernel⟩
abbrev s_full : Stmt := topS 29
abbrev N_full : List Str := ["_law_bag_here", "_law_menu"]
theorem sc_full : FnScope N_full ["_law_bag_here"] (defScope s_full) := ⟨rfl, rfl, rfl, by decide +kernel, rfl, by decide +kernel, by decide +kernel⟩
abbrev s_scant : Stmt := topS 30
abbrev N_scant : List Str := ["_law_bag_here", "_law_menu"]
theorem sc_scant : FnScope N_scant ["_law_bag_here"] (defScope s_scant) := ⟨rfl, rfl, rfl, by decide +kernel, rfl, by decide +kernel, by decide +kernel⟩
abbrev s_is_free : Stmt := topS 31
abbrev N_is_free : List Str := ["_law_pieces", "_law_text_here", "_law_piece"]
theorem sc_is_free : FnScope N_is_free ["_law_pieces", "_law_text_here"] (defScope s_is_free) := ⟨rfl, rfl, rfl, by decide +kernel, rfl, by decide +kernel, by decide +kernel⟩
abbrev s_text : Stmt := topS 32
abbrev N_text : List Str := ["_law_bag_here", "_law_own_here", "_law_most", "_law_letter"]
theorem sc_text : FnScope N_text ["_law_bag_here", "_law_own_here", "_law_most"] (defScope s_text) := ⟨rfl, rfl, rfl, by decide +kernel, rfl, by decide +kernel, by decide +kernel⟩
abbrev s_is_pair : Stmt := topS 33
abbrev N_is_pair : List Str := ["_law_pieces", "_law_thing", "_law_own_here", "_law_part", "_law_letter"]
theorem sc_is_pair : FnScope N_is_pair ["_law_pieces", "_law_thing"] (defScope s_is_pair) := ⟨rfl, rfl, rfl, by decide +kernel, rfl, by decide +kernel, by decide +kernel⟩
abbrev s_bent : Stmt := topS 34
abbrev N_bent : List Str := ["_law_bag_here", "_law_pieces", "_law_pair", "_law_front", "_law_turn", "_law_own_here", "_law_at", "_law_letter", "_law_menu"]
theorem sc_bent : FnScope N_bent ["_law_bag_here", "_law_pieces", "_law_pair"] (defScope s_bent) := ⟨rfl, rfl, rfl, by decide +kernel, rfl, by decide +kernel, by decide +kernel⟩
abbrev s_flag : Stmt := topS 35
abbrev N_flag : List Str := ["_law_told", "_law_due"]
theorem sc_flag : FnScope N_flag ["_law_told", "_law_due"] (defScope s_flag) := ⟨rfl, rfl, rfl, by decide +kernel, rfl, by decide +kernel, by decide +kernel⟩
abbrev s_law : Stmt := topS 36
abbrev N_law : List Str := ["_law_script", "_law_bag_here", "_law_turn", "_law_pieces", "_law_book", "_law_own_here", "_law_told", "_law_pairs", "_law_pair", "_law_thing", "_law_again"]
theorem sc_law : FnScope N_law ["_law_script"] (defScope s_law) := ⟨rfl, rfl, rfl, by decide +kernel, rfl, by decide +kernel, by decide +kernel⟩
/-- what the top has left -/
structure Txt (P : Program) (K : PySem.W.Frag) (mg : Str → Option Value) where
  a_q_is_log : Addr
  fd_q_is_log : FuncData
  F_q_is_log : Fun K "is_log" "is_log" s_q_is_log a_q_is_log fd_q_is_log
  b_q_is_log : Binds K fd_q_is_log ["thing"] []
  g_q_is_log : mg "is_log" = some (.ref a_q_is_log)
  a_is_piece : Addr
  fd_is_piece : FuncData
  F_is_piece : Fun K "is_piece" "is_piece" s_is_piece a_is_piece fd_is_piece
  b_is_piece : Binds K fd_is_piece ["thing"] []
  g_is_piece : mg "is_piece" = some (.ref a_is_piece)
  a_Book_init : Addr
  fd_Book_init : FuncData
  F_Book_init : Fun K "__init__" "Book.__init__" s_Book_init a_Book_init fd_Book_init
  b_Book_init : Binds K fd_Book_init ["self", "pieces"] []
  a_Book_eq : Addr
  fd_Book_eq : FuncData
  F_Book_eq : Fun K "__eq__" "Book.__eq__" s_Book_eq a_Book_eq fd_Book_eq
  b_Book_eq : Binds K fd_Book_eq ["self", "other"] []
  a_letters : Addr
  fd_letters : FuncData
  F_letters : Fun K "letters" "letters" s_letters a_letters fd_letters
  b_letters : Binds K fd_letters ["book"] []
  g_letters : mg "letters" = some (.ref a_letters)
  a_is_own : Addr
  fd_is_own : FuncData
  F_is_own : Fun K "is_own" "is_own" s_is_own a_is_own fd_is_own
  b_is_own : Binds K fd_is_own ["book", "thing"] []
  g_is_own : mg "is_own" = some (.ref a_is_own)
  a_fronts_of : Addr
  fd_fronts_of : FuncData
  F_fronts_of : Fun K "fronts_of" "fronts_of" s_fronts_of a_fronts_of fd_fronts_of
  b_fronts_of : Binds K fd_fronts_of ["book"] []
  g_fronts_of : mg "fronts_of" = some (.ref a_fronts_of)
  a_holds_piece : Addr
  fd_holds_piece : FuncData
  F_holds_piece : Fun K "holds_piece" "holds_piece" s_holds_piece a_holds_piece fd_holds_piece
  b_holds_piece : Binds K fd_holds_piece ["book", "text"] []
  g_holds_piece : mg "holds_piece" = some (.ref a_holds_piece)
  a_next_fronts : Addr
  fd_next_fronts : FuncData
  F_next_fronts : Fun K "next_fronts" "next_fronts" s_next_fronts a_next_fronts fd_next_fronts
  b_next_fronts : Binds K fd_next_fronts ["book"] []
  g_next_fronts : mg "next_fronts" = some (.ref a_next_fronts)
  a_longest_front : Addr
  fd_longest_front : FuncData
  F_longest_front : Fun K "longest_front" "longest_front" s_longest_front a_longest_front fd_longest_front
  b_longest_front : Binds K fd_longest_front ["fronts", "text"] []
  g_longest_front : mg "longest_front" = some (.ref a_longest_front)
  a_heights : Addr
  fd_heights : FuncData
  F_heights : Fun K "heights" "heights" s_heights a_heights fd_heights
  b_heights : Binds K fd_heights ["steps"] []
  g_heights : mg "heights" = some (.ref a_heights)
  a_endless : Addr
  fd_endless : FuncData
  F_endless : Fun K "endless" "endless" s_endless a_endless fd_endless
  b_endless : Binds K fd_endless ["book"] []
  g_endless : mg "endless" = some (.ref a_endless)
  a_stays_free : Addr
  fd_stays_free : FuncData
  F_stays_free : Fun K "stays_free" "stays_free" s_stays_free a_stays_free fd_stays_free
  b_stays_free : Binds K fd_stays_free ["book", "front", "turned"] []
  g_stays_free : mg "stays_free" = some (.ref a_stays_free)
  a_is_endless : Addr
  fd_is_endless : FuncData
  F_is_endless : Fun K "is_endless" "is_endless" s_is_endless a_is_endless fd_is_endless
  b_is_endless : Binds K fd_is_endless ["book", "thing"] []
  g_is_endless : mg "is_endless" = some (.ref a_is_endless)
  a_bag : Addr
  fd_bag : FuncData
  F_bag : Fun K "_law_bag" "_law_bag" s_bag a_bag fd_bag
  b_bag : Binds K fd_bag ["_law_script"] []
  g_bag : mg "_law_bag" = some (.ref a_bag)
  a_pick : Addr
  fd_pick : FuncData
  F_pick : Fun K "_law_pick" "_law_pick" s_pick a_pick fd_pick
  b_pick : Binds K fd_pick ["_law_bag_here", "_law_many"] []
  g_pick : mg "_law_pick" = some (.ref a_pick)
  a_some : Addr
  fd_some : FuncData
  F_some : Fun K "_law_some" "_law_some" s_some a_some fd_some
  b_some : Binds K fd_some ["_law_bag_here", "_law_things"] []
  g_some : mg "_law_some" = some (.ref a_some)
  a_nested : Addr
  fd_nested : FuncData
  F_nested : Fun K "_law_nested" "_law_nested" s_nested a_nested fd_nested
  b_nested : Binds K fd_nested [] []
  g_nested : mg "_law_nested" = some (.ref a_nested)
  a_own : Addr
  fd_own : FuncData
  F_own : Fun K "_law_own" "_law_own" s_own a_own fd_own
  b_own : Binds K fd_own ["_law_pieces"] []
  g_own : mg "_law_own" = some (.ref a_own)
  a_named : Addr
  fd_named : FuncData
  F_named : Fun K "_law_named" "_law_named" s_named a_named fd_named
  b_named : Binds K fd_named ["_law_bag_here", "_law_pieces"] []
  g_named : mg "_law_named" = some (.ref a_named)
  a_more : Addr
  fd_more : FuncData
  F_more : Fun K "_law_more" "_law_more" s_more a_more fd_more
  b_more : Binds K fd_more ["_law_bag_here", "_law_pieces", "_law_most"] []
  g_more : mg "_law_more" = some (.ref a_more)
  a_full : Addr
  fd_full : FuncData
  F_full : Fun K "_law_full" "_law_full" s_full a_full fd_full
  b_full : Binds K fd_full ["_law_bag_here"] []
  g_full : mg "_law_full" = some (.ref a_full)
  a_scant : Addr
  fd_scant : FuncData
  F_scant : Fun K "_law_scant" "_law_scant" s_scant a_scant fd_scant
  b_scant : Binds K fd_scant ["_law_bag_here"] []
  g_scant : mg "_law_scant" = some (.ref a_scant)
  a_is_free : Addr
  fd_is_free : FuncData
  F_is_free : Fun K "_law_is_free" "_law_is_free" s_is_free a_is_free fd_is_free
  b_is_free : Binds K fd_is_free ["_law_pieces", "_law_text_here"] []
  g_is_free : mg "_law_is_free" = some (.ref a_is_free)
  a_text : Addr
  fd_text : FuncData
  F_text : Fun K "_law_text" "_law_text" s_text a_text fd_text
  b_text : Binds K fd_text ["_law_bag_here", "_law_own_here", "_law_most"] []
  g_text : mg "_law_text" = some (.ref a_text)
  a_is_pair : Addr
  fd_is_pair : FuncData
  F_is_pair : Fun K "_law_is_pair" "_law_is_pair" s_is_pair a_is_pair fd_is_pair
  b_is_pair : Binds K fd_is_pair ["_law_pieces", "_law_thing"] []
  g_is_pair : mg "_law_is_pair" = some (.ref a_is_pair)
  a_bent : Addr
  fd_bent : FuncData
  F_bent : Fun K "_law_bent" "_law_bent" s_bent a_bent fd_bent
  b_bent : Binds K fd_bent ["_law_bag_here", "_law_pieces", "_law_pair"] []
  g_bent : mg "_law_bent" = some (.ref a_bent)
  a_flag : Addr
  fd_flag : FuncData
  F_flag : Fun K "_law_flag" "_law_flag" s_flag a_flag fd_flag
  b_flag : Binds K fd_flag ["_law_told", "_law_due"] []
  g_flag : mg "_law_flag" = some (.ref a_flag)
  a_law : Addr
  fd_law : FuncData
  F_law : Fun K "law" "law" s_law a_law fd_law
  b_law : Binds K fd_law ["_law_script"] []
  g_law : mg "law" = some (.ref a_law)
  C_LogError : Addr
  g_LogError : mg "LogError" = some (.ref C_LogError)
  xc_LogError : OexC K C_LogError
  ic_LogError : ExcC K C_LogError
  bx_LogError : PySem.W.subIn K (.ref C_LogError) (.type "BaseException") = some true
  tx_LogError : PySem.W.typeIn K (.ref C_LogError) = some (.type "type")
  k_LogError : PySem.W.excIn K C_LogError [.type "ValueError", .type "Exception", .type "BaseException", .type "object"] "ValueError.__new__" = true
  kp_LogError : PySem.W.keepIn K (.ref C_LogError) = true
  C_BadBook : Addr
  g_BadBook : mg "BadBook" = some (.ref C_BadBook)
  xc_BadBook : OexC K C_BadBook
  ic_BadBook : ExcC K C_BadBook
  bx_BadBook : PySem.W.subIn K (.ref C_BadBook) (.type "BaseException") = some true
  tx_BadBook : PySem.W.typeIn K (.ref C_BadBook) = some (.type "type")
  a_BadBook_init : Addr
  fd_BadBook_init : FuncData
  S_BadBook_init : SPX.SiC P K mg s_BadBook_init "BadBook.__init__" "part" "part" C_BadBook a_BadBook_init fd_BadBook_init
  b_BadBook_init : Binds K fd_BadBook_init ["self", "part"] []
  fi_BadBook : PySem.W.findIn K (.ref C_BadBook) "part" = some none
  ii_BadBook : PySem.W.findIn K (.ref C_BadBook) "__init__" = some (some (.ref a_BadBook_init))
  ti_BadBook : PySem.W.typeIn K (.ref a_BadBook_init) = some (.type "function")
  C_Book : Addr
  g_Book : mg "Book" = some (.ref C_Book)
  cl_Book : Cls K C_Book
  M_Book : Mk K C_Book a_Book_init
  eqc_Book : NR.EqC K C_Book a_Book_eq
  nf_Book : (["tuple", "int", "str", "list", "bool", "NoneType", "dict"].all fun t => PySem.W.notFirst K C_Book (.type t)) = true
  ty_Book : PySem.W.findIn K (.ref C_Book) "__class__" = some (some (.builtin "object.__class__")) ∧ PySem.W.specialIn K (.builtin "object.__class__") "__get__" = some (some (.builtin "getset_descriptor.__get__")) ∧ PySem.W.takesIn K (.builtin "object.__class__") = some true ∧ PySem.W.mroIn K C_Book (.type "object") = some true
  kc_Book : (["tuple", "int", "str", "list", "bool", "NoneType", "dict"].all fun t => PySem.W.kitOne K (.type t) (.ref C_Book) == some false) = true
  no_Book_pieces : NoAttr K C_Book "pieces"
  g_LETTERS : ∃ t, mg "LETTERS" = some (.str "abcdefgh" t)
  g_MOST_PIECES : ∃ t, mg "MOST_PIECES" = some (.int 12 t)
  g_MOST_LONG : ∃ t, mg "MOST_LONG" = some (.int 8 t)
  m_abs : mg "abs" = none
  m_all : mg "all" = none
  m_any : mg "any" = none
  m_bool : mg "bool" = none
  m_enumerate : mg "enumerate" = none
  m_int : mg "int" = none
  m_isinstance : mg "isinstance" = none
  m_len : mg "len" = none
  m_list : mg "list" = none
  m_max : mg "max" = none
  m_min : mg "min" = none
  m_range : mg "range" = none
  m_set : mg "set" = none
  m_sorted : mg "sorted" = none
  m_str : mg "str" = none
  m_sum : mg "sum" = none
  m_super : mg "super" = none
  m_tuple : mg "tuple" = none

local macro_rules | `(tactic| walk_at "kd") => `(tactic| first | assumption | exact SPD.KdOf.int _ | exact SPD.KdOf.str _ | exact SPD.KdOf.bl _ | exact SPD.KdOf.non | exact SPD.KdOf.same (by assumption) (by walk_at "kd") | exact SPD.KdOf.tup (by walk_at "hp") | exact SPD.KdOf.lst (by walk_at "hp") | fail "no")
local macro_rules | `(tactic| walk_at "ne") => `(tactic| first | assumption | exact Ne.symm (by assumption) | fail "no")
local macro_rules | `(tactic| walk_at "hp") => `(tactic| first | assumption | exact RD.at_same (by assumption) (by walk_at "hp") | exact RD.at_kb (by assumption) (by walk_at "ne") (by walk_at "hp") | fail "no")
local macro_rules | `(tactic| walk_at "sq") => `(tactic| first | assumption | exact Or.inl (Or.inl (by walk_at "hp")) | exact Same.seq (by assumption) (by walk_at "sq") | exact RD.KB.seq (by assumption) (by walk_at "ne") (by walk_at "sq") | fail "no")
local macro_rules | `(tactic| walk_at "st") => `(tactic| first | assumption | exact Or.inl (Or.inl (by walk_at "hp")) | exact RD.Same.tup (by assumption) (by walk_at "st") | exact RD.KB.tup (by assumption) (by walk_at "ne") (by walk_at "st") | fail "no")
local macro_rules | `(tactic| walk_at "rd") => `(tactic| first
  | with_reducible refine RD.c ?_
  | ((with_reducible refine' RD.var ?rdE ?rdK); (case rdE => exact rfl))
  | with_reducible refine RD.op ?_
  | with_reducible refine RD.un ?_
  | with_reducible refine RD.nil ?_
  | with_reducible refine RD.cons ?_
  | with_reducible refine RD.cb ?_
  | with_reducible refine RD.call ?_
  | with_reducible refine RD.test ?_
  | with_reducible refine RD.tb' ?_
  | with_reducible refine RD.bl ?_
  | with_reducible refine RD.and' ?_
  | with_reducible refine RD.or' ?_
  | with_reducible refine RD.not' ?_
  | with_reducible refine RD.andV ?_
  | with_reducible refine RD.orV ?_
  | with_reducible refine RD.notV ?_
  | with_reducible refine RD.ife ?_
  | with_reducible refine RD.sl ?_
  | with_reducible refine RD.part ?_
  | with_reducible refine RD.noPart ?_
  | with_reducible refine RD.partI ?_
  | with_reducible refine RD.rd0 ?_
  | with_reducible refine RD.rdU ?_
  | ((with_reducible refine' RD.rdEq ?rdE ?rdK); (case rdE => rfl))
  | ((with_reducible refine' RD.rdNe ?rdE ?rdK); (case rdE => rfl))
  | ((with_reducible refine' RD.ixL ?rdH ?rdE ?rdK); (case rdH => walk_at "sq"); (case rdE => first | rfl | assumption))
  | ((with_reducible refine' RD.rdI ?rdC ?rdK); (case rdC => first | assumption | (show (0 : Int) < _; first | decide | omega) | exact ⟨by decide, by decide⟩ | exact ⟨by assumption, by assumption⟩ | exact .inr ⟨by decide, by decide⟩ | exact .inl ⟨by decide, by decide⟩ | exact ⟨by decide, by decide, by decide⟩ | exact .inl ⟨by omega, by omega⟩))
  | ((with_reducible refine' RD.setL ?rdH ?rdE ?rdK); (case rdH => walk_at "hp"); (case rdE => rfl); intro $(Lean.mkIdent `H'):ident $(Lean.mkIdent `hk):ident $(Lean.mkIdent `hv):ident)
  | ((with_reducible refine' RD.irng1V ?rdA ?rdB ?rdK); (case rdA => first | decide | omega); (case rdB => first | decide | omega))
  | with_reducible refine RD.int1 ?_
  | with_reducible refine RD.abs1 ?_
  | ((with_reducible refine' RD.len ?rdH ?rdK); (case rdH => first | exact Or.inl (by walk_at "sq") | exact Or.inr (by walk_at "st")))
  | with_reducible refine RD.tup ?_
  | with_reducible refine RD.lst ?_
  | with_reducible refine RD.ite1 ?_
  | with_reducible refine RD.ite0 ?_
  | with_reducible refine RD.ite1n ?_
  | with_reducible refine RD.ite0n ?_
  | with_reducible refine RD.seq ?_
  | with_reducible refine RD.asg ?_
  | with_reducible refine RD.name ?_
  | with_reducible refine RD.ret ?_
  | with_reducible refine RD.drop ?_
  | with_reducible refine RD.next ?_
  | with_reducible refine RD.ifs ?_
  | with_reducible refine RD.par ?_
  | with_reducible refine RD.par2 ?_
  | with_reducible refine RD.sub ?_
  | with_reducible refine RD.gcons ?_
  | with_reducible refine RD.gnil ?_
  | with_reducible refine RD.bm ?_
  | ((with_reducible refine' RD.bmL ?rdH ?rdK); (case rdH => walk_at "sq"))
  | ((with_reducible refine' RD.newZ ?rdH ?rdK); (case rdH => exact RD.sz _); intro $(Lean.mkIdent `p'):ident $(Lean.mkIdent `H'):ident $(Lean.mkIdent `hp):ident $(Lean.mkIdent `hs):ident $(Lean.mkIdent `hv):ident; (try have $(Lean.mkIdent `hn):ident := hand_ne $(Lean.mkIdent `hp):ident (by walk_at "hk")))
  | with_reducible refine RD.fors ?_
  | with_reducible refine RD.lc ?_
  | with_reducible refine RD.yes ?_
  | with_reducible refine RD.ilist ?_
  | ((with_reducible refine' RD.ilistV ?rdH ?rdK); (case rdH => walk_at "sq"))
  | with_reducible refine RD.itup ?_
  | ((with_reducible refine' RD.itupV ?rdH ?rdK); (case rdH => walk_at "st"))
  | with_reducible refine RD.irng1 ?_
  | with_reducible refine RD.irng2 ?_
  | ((with_reducible refine' RD.irng2V ?rdA ?rdK); (case rdA => first | decide | omega))
  | with_reducible refine RD.ienum ?_
  | ((with_reducible refine' RD.ienumV ?rdH ?rdK); (case rdH => walk_at "sq"))
  | with_reducible refine RD.izip ?_
  | ((with_reducible refine' RD.izipV ?rdH ?rdE ?rdK); (case rdH => walk_at "sq"); (case rdE => walk_at "sq"))
  | with_reducible refine SPD.izipA ?_
  | with_reducible refine RD.istr ?_
  | with_reducible refine RD.istrV ?_
  | ((with_reducible refine' RD.slL ?rdH ?rdK); (case rdH => walk_at "sq"); intro $(Lean.mkIdent `p'):ident $(Lean.mkIdent `H'):ident $(Lean.mkIdent `hp):ident $(Lean.mkIdent `hs):ident $(Lean.mkIdent `hv):ident; (try have $(Lean.mkIdent `hn):ident := hand_ne $(Lean.mkIdent `hp):ident (by walk_at "hk")))
  | ((with_reducible refine' RD.cat ?rdH ?rdE ?rdZ ?rdK); (case rdH => walk_at "hp"); (case rdE => walk_at "hp"); (case rdZ => exact RD.sz _); intro $(Lean.mkIdent `p'):ident $(Lean.mkIdent `H'):ident $(Lean.mkIdent `hp):ident $(Lean.mkIdent `hs):ident $(Lean.mkIdent `hv):ident; (try have $(Lean.mkIdent `hn):ident := hand_ne $(Lean.mkIdent `hp):ident (by walk_at "hk")))
  | ((with_reducible refine' RD.gtup ?rdH ?rdE ?rdK); (case rdH => walk_at "st"); (case rdE => rfl))
  | ((with_reducible refine' RD.app ?rdH ?rdZ ?rdK); (case rdH => walk_at "hp"); (case rdZ => first | assumption | (apply RD.szl; omega)); intro $(Lean.mkIdent `H'):ident $(Lean.mkIdent `hk):ident $(Lean.mkIdent `hv):ident)
  | ((with_reducible refine' RD.all1 ?rdH ?rdK); (case rdH => walk_at "sq"))
  | ((with_reducible refine' RD.any1 ?rdH ?rdK); (case rdH => walk_at "sq"))
  | ((with_reducible refine' SPD.dnew ?rdK); intro $(Lean.mkIdent `p'):ident $(Lean.mkIdent `H'):ident $(Lean.mkIdent `hp):ident $(Lean.mkIdent `hs):ident $(Lean.mkIdent `hv):ident; (try have $(Lean.mkIdent `hn):ident := hand_ne $(Lean.mkIdent `hp):ident (by walk_at "hk")))
  | ((with_reducible refine' SPD.disp1 ?rdK); intro $(Lean.mkIdent `p'):ident $(Lean.mkIdent `H'):ident $(Lean.mkIdent `hp):ident $(Lean.mkIdent `hs):ident $(Lean.mkIdent `hv):ident; (try have $(Lean.mkIdent `hn):ident := hand_ne $(Lean.mkIdent `hp):ident (by walk_at "hk")))
  | ((with_reducible refine' SPD.isSeq ?rdH ?rdE ?rdK); (case rdH => walk_at "hp"); (case rdE => walk_at "kd"))
  | ((with_reducible refine' SPD.isTup ?rdE ?rdK); (case rdE => walk_at "kd"))
  | ((with_reducible refine' SPD.isLst ?rdE ?rdK); (case rdE => walk_at "kd"))
  | ((with_reducible refine' SPD.isBool ?rdE ?rdK); (case rdE => walk_at "kd"))
  | ((with_reducible refine' SPD.isStr ?rdE ?rdK); (case rdE => walk_at "kd"))
  | ((with_reducible refine' SPD.isInt ?rdE ?rdK); (case rdE => walk_at "kd"))
  | dsimp only)
local macro_rules | `(tactic| walk_at "rds") => `(tactic| repeat walk_at "rd")
local macro_rules | `(tactic| walk_at "sm") => `(tactic| first | assumption | exact Same.refl _ | exact RD.sm_tr (by assumption) (by walk_at "sm") | fail "no")
local macro_rules | `(tactic| walk_at "kb") => `(tactic| first | assumption | exact RD.KB.refl | exact RD.kb_tr (by assumption) (by walk_at "kb") | exact RD.kb_trs (by assumption) (by walk_at "kb") | fail "no")
local macro_rules | `(tactic| walk_at "fr") => `(tactic| first | assumption | exact RD.fr_of (by assumption) (by walk_at "sm") | fail "no")
local macro_rules | `(tactic| walk_at "hk") => `(tactic| first | assumption | exact hand_same (by assumption) (by walk_at "hk") | exact hand_kb (by assumption) (by walk_at "fr") (by walk_at "hk") | fail "no")
local macro_rules | `(tactic| walk_at "na") => `(tactic| first | assumption | exact hand_ne (by assumption) (by walk_at "hk") | fail "no")
local macro_rules | `(tactic| walk_at "dqa") => `(tactic| first | exact SPD.DqA.nil | exact SPD.DqA.cons (by walk_at "dq") (by walk_at "dqa") | exact SPD.DqA.app (by walk_at "dqa") (by walk_at "dqa") | fail "no")
local macro_rules | `(tactic| walk_at "dq") => `(tactic| first | assumption | exact SPD.Dq.leaf rfl | exact SPD.dq_kb (by assumption) (by walk_at "kb") | exact SPD.dqTup (by walk_at "hp") (by walk_at "na") (by walk_at "dqa") | exact SPD.dqLst (by walk_at "hp") (by walk_at "na") (by walk_at "dqa") | exact SPD.dqNil (by walk_at "hp") (by walk_at "na") (by first | decide | simp) (by first | decide | simp) | fail "no")

local macro_rules | `(tactic| walk_at "rd") => `(tactic| first
  | with_reducible refine RB.chain ?_
  | with_reducible refine RB.m1 ?_
  | with_reducible refine RB.strE ?_
  | with_reducible refine RB.fld ?_
  | with_reducible refine RB.setF ?_
  | with_reducible refine RB.ss ?_
  | with_reducible refine RB.rev ?_
  | with_reducible refine RB.make ?_
  | with_reducible refine RB.makeS ?_
  | with_reducible refine RB.mkO ?_
  | with_reducible refine NR.ienumT ?_
  | with_reducible refine RB.inS ?_
  | with_reducible refine RB.bmS ?_
  | with_reducible refine RB.callS ?_
  | with_reducible refine RB.sw3 ?_
  | with_reducible refine RB.par3 ?_
  | with_reducible refine RB.par3V ?_
  | ((with_reducible refine' RB.slS ?rdH ?rdK); (case rdH => walk_at "sz"))
  | with_reducible refine RB.xf ?_
  | ((with_reducible refine' RB.xfV ?rdH ?rdE ?rdK); (case rdH => walk_at "hp"); (case rdE => rfl))
  | ((with_reducible refine' NR.ienumTV ?rdH ?rdK); (case rdH => walk_at "st"))
  | ((with_reducible refine' RB.lenL ?rdH ?rdK); (case rdH => walk_at "sq"))
  | ((with_reducible refine' RB.lenT ?rdH ?rdK); (case rdH => walk_at "st"))
  | ((with_reducible refine' RB.lenS ?rdH ?rdK); (case rdH => walk_at "sz"))
  | ((with_reducible refine' RD.lenS ?rdH ?rdK); (case rdH => walk_at "sz"))
  | ((with_reducible refine' RB.slT ?rdH ?rdK); (case rdH => walk_at "hp"); intro $(Lean.mkIdent `p'):ident $(Lean.mkIdent `H'):ident $(Lean.mkIdent `hs):ident $(Lean.mkIdent `hv):ident $(Lean.mkIdent `hp):ident; (try have $(Lean.mkIdent `hn):ident := two_ne $(Lean.mkIdent `hp):ident (by walk_at "na") (by walk_at "hk")))
  | ((with_reducible refine' RB.revV ?rdH ?rdK); (case rdH => walk_at "st"); intro $(Lean.mkIdent `p'):ident $(Lean.mkIdent `H'):ident $(Lean.mkIdent `hp):ident $(Lean.mkIdent `hs):ident $(Lean.mkIdent `hv):ident; (try have $(Lean.mkIdent `hn):ident := hand_ne $(Lean.mkIdent `hp):ident (by walk_at "hk")))
  | ((with_reducible refine' RB.listS ?rdH ?rdK); (case rdH => walk_at "sz"); intro $(Lean.mkIdent `p'):ident $(Lean.mkIdent `H'):ident $(Lean.mkIdent `hp):ident $(Lean.mkIdent `hs):ident $(Lean.mkIdent `hv):ident; (try have $(Lean.mkIdent `hn):ident := hand_ne $(Lean.mkIdent `hp):ident (by walk_at "hk")))
  | ((with_reducible refine' RB.listO ?rdH ?rdK); (case rdH => first | exact Or.inl (by walk_at "sq") | exact Or.inr (by walk_at "st")); intro $(Lean.mkIdent `p'):ident $(Lean.mkIdent `H'):ident $(Lean.mkIdent `hp):ident $(Lean.mkIdent `hs):ident $(Lean.mkIdent `hv):ident; (try have $(Lean.mkIdent `hn):ident := hand_ne $(Lean.mkIdent `hp):ident (by walk_at "hk")))
  | ((with_reducible refine' RB.tupL ?rdH ?rdK); (case rdH => walk_at "sq"); intro $(Lean.mkIdent `p'):ident $(Lean.mkIdent `H'):ident $(Lean.mkIdent `hp):ident $(Lean.mkIdent `hs):ident $(Lean.mkIdent `hv):ident; (try have $(Lean.mkIdent `hn):ident := hand_ne $(Lean.mkIdent `hp):ident (by walk_at "hk")))
  | ((with_reducible refine' RB.catT ?rdH ?rdE ?rdZ ?rdK); (case rdH => walk_at "hp"); (case rdE => walk_at "hp"); (case rdZ => exact RB.LN.sum (by walk_at "ln") (by walk_at "ln") rfl); intro $(Lean.mkIdent `p'):ident $(Lean.mkIdent `H'):ident $(Lean.mkIdent `hs):ident $(Lean.mkIdent `hv):ident $(Lean.mkIdent `hp):ident; (try have $(Lean.mkIdent `hn):ident := three_ne $(Lean.mkIdent `hp):ident (by walk_at "na") (by walk_at "na") (by walk_at "hk")))
  | fail "no")
local macro_rules | `(tactic| walk_at "ln") => `(tactic| first | with_reducible assumption | exact RB.LN.cut (by walk_at "ln") | exact RB.LN.app (by walk_at "ln") (by walk_at "ln") | exact RB.LN.rev (by walk_at "ln") | exact RB.LN.rep (by walk_at "ln") | exact RB.LN.lit rfl | fail "no")
local macro_rules | `(tactic| walk_at "sz") => `(tactic| first | assumption | exact RD.sz _ | fail "no")

local macro_rules | `(tactic| walk_at "hp") => `(tactic| first | assumption | exact RD.at_same (by assumption) (by walk_at "hp") | exact SPE.at_kx (by assumption) (by walk_at "na") (by walk_at "hp") | exact RD.at_kb (by assumption) (by walk_at "ne") (by walk_at "hp") | fail "no")
local macro_rules | `(tactic| walk_at "sq") => `(tactic| first | assumption | exact Or.inl (Or.inl (by walk_at "hp")) | exact Same.seq (by assumption) (by walk_at "sq") | exact SPE.KX.seq (by assumption) (by walk_at "na") (by walk_at "sq") | exact RD.KB.seq (by assumption) (by walk_at "ne") (by walk_at "sq") | fail "no")
local macro_rules | `(tactic| walk_at "st") => `(tactic| first | assumption | exact Or.inl (Or.inl (by walk_at "hp")) | exact RD.Same.tup (by assumption) (by walk_at "st") | exact SPE.KX.tup (by assumption) (by walk_at "na") (by walk_at "st") | exact RD.KB.tup (by assumption) (by walk_at "ne") (by walk_at "st") | fail "no")
local macro_rules | `(tactic| walk_at "kx") => `(tactic| first | assumption | exact SPE.KX.refl | exact SPE.kx_tr (by assumption) (by walk_at "kx") | exact SPE.kx_trs (by assumption) (by walk_at "kx") | fail "no")
local macro_rules | `(tactic| walk_at "dqa") => `(tactic| first | exact SPE.DqA.nil | exact SPE.DqA.cons (by walk_at "dq") (by walk_at "dqa") | exact SPE.DqA.app (by walk_at "dqa") (by walk_at "dqa") | fail "no")
local macro_rules | `(tactic| walk_at "dq") => `(tactic| first | assumption | exact SPE.Dq.leaf rfl | exact SPE.dq_kx (by assumption) (by walk_at "kx") | exact SPE.dqTup (by walk_at "hp") (by walk_at "na") (by walk_at "dqa") | exact SPE.dqLst (by walk_at "hp") (by walk_at "na") (by walk_at "dqa") | exact SPE.dqNil (by walk_at "hp") (by walk_at "na") (by first | decide | simp) (by first | decide | simp) | fail "no")
local macro_rules | `(tactic| walk_at "dqx") => `(tactic| first | exact $(Lean.mkIdent `hdb):ident _ (by walk_at "kx") | exact SPE.DqA.cons (SPE.dq_kx (by assumption) (by walk_at "kx")) SPE.DqA.nil | exact SPE.DqA.cons (SPE.Dq.leaf rfl) SPE.DqA.nil | exact SPE.DqA.nil | (with_reducible refine SPE.dqa_cut ?_; walk_at "dqx") | (with_reducible refine SPE.dqa_rev ?_; walk_at "dqx") | (with_reducible refine SPE.DqA.app ?_ ?_ <;> walk_at "dqx") | fail "no")
local macro_rules | `(tactic| walk_at "dqz") => `(tactic| first | exact SPE.dqTupN (by walk_at "hp") (by walk_at "na") (by walk_at "dqx") (by walk_at "ln") rfl | exact SPE.dqLstN (by walk_at "hp") (by walk_at "na") (by walk_at "dqx") (by walk_at "ln") rfl | fail "no")
local macro_rules | `(tactic| walk_at "rd") => `(tactic| first
  | with_reducible refine SPE.revs ?_
  | ((with_reducible refine' SPE.revsV ?rdH ?rdK); (case rdH => walk_at "sz"))
  | ((with_reducible refine' SPE.sum1 ?rdH ?rdK); (case rdH => walk_at "sq"))
  | fail "no")

/-! ### the bag, the picks -/
def BagOk (H : Hp) (x : SPE.AX) : Prop := ∃ (cells : List Int) (sd n : Int) (al : V), H x.1 = some (.lst [.int sd, .int n, .ref x.2, al]) ∧ H x.2 = some (.lst (cells.map V.int)) ∧ x.2 ≠ x.1 ∧ (al = .non ∨ ∃ m, al = .int m)
theorem BagOk.same {H H' : Hp} {x : SPE.AX} (h : BagOk H x) (s : Same H H') : BagOk H' x := by
  obtain ⟨cells, sd, n, al, ha, hc, ne, hl⟩ := h
  exact ⟨cells, sd, n, al, s _ _ ha, s _ _ hc, ne, hl⟩
theorem BagOk.off {H : Hp} {x : SPE.AX} {p : Addr} (n : H p = none) (h : BagOk H x) : SPE.Off p x := by
  obtain ⟨cells, sd, k, al, ha, hc, ne, hl⟩ := h
  exact ⟨(ne_of_none ha n).symm, (ne_of_none hc n).symm⟩
theorem BagOk.mut {H H' : Hp} {x : SPE.AX} {D : Addr} (k : RD.KB D H H') (o : SPE.Off D x) (h : BagOk H x) : BagOk H' x := by
  obtain ⟨cells, sd, n, al, ha, hc, ne, hl⟩ := h
  exact ⟨cells, sd, n, al, k _ _ o.1.symm ha, k _ _ o.2.symm hc, ne, hl⟩
theorem BagOk.tupOff {H : Hp} {x : SPE.AX} {p : Addr} {xs : List V} (e : H p = some (.tup xs)) (h : BagOk H x) : SPE.Off p x := by
  obtain ⟨cells, sd, n, al, ha, hc, ne, hl⟩ := h
  exact ⟨fun z => (by rw [← z, e] at ha; cases ha), fun z => (by rw [← z, e] at hc; cases hc)⟩
theorem BagOk.insOff {H : Hp} {x : SPE.AX} {p C dx : Addr} {fs : List (Str × V)} (e : H p = some (.ins C dx fs)) (h : BagOk H x) : SPE.Off p x := by
  obtain ⟨cells, sd, n, al, ha, hc, ne, hl⟩ := h
  exact ⟨fun z => (by rw [← z, e] at ha; cases ha), fun z => (by rw [← z, e] at hc; cases hc)⟩
theorem hand_same {H H' : Hp} {x : SPE.AX} (s : Same H H') (h : BagOk H x) : BagOk H' x := h.same s
theorem hand_kb {H H' : Hp} {x : SPE.AX} {p : Addr} (k : RD.KB p H H') (n : H p = none) (h : BagOk H x) : BagOk H' x := h.same fun b o e => k b o (ne_of_none e n) e
theorem hand_ne {H : Hp} {x : SPE.AX} {p : Addr} (n : H p = none) (h : BagOk H x) : SPE.Off p x := h.off n
theorem two_ne {H : Hp} {x : SPE.AX} {b p : Addr} (h : p = b ∨ H p = none) (hb : SPE.Off b x) (hh : BagOk H x) : SPE.Off p x := by
  rcases h with rfl | h
  · exact hb
  · exact hand_ne h hh
theorem three_ne {H : Hp} {x : SPE.AX} {b1 b2 p : Addr} (h : p = b1 ∨ p = b2 ∨ H p = none) (h1 : SPE.Off b1 x) (h2 : SPE.Off b2 x) (hh : BagOk H x) : SPE.Off p x := by
  rcases h with rfl | rfl | h
  · exact h1
  · exact h2
  · exact hand_ne h hh
def spBag (K : PySem.W.Frag) : Sp := fun vs H Q _ => ∃ (s : Addr) (ns : List Int), vs = [.ref s] ∧ SqL K H s (ns.map V.int) ∧ ns.length ≤ 63 ∧ ∀ x H', Same H H' → H x.1 = none → BagOk H' x → Q (.ref x.1) H'
def spPick : Sp := fun vs H Q _ => ∃ (x : SPE.AX) (m : Int), vs = [.ref x.1, .int m] ∧ BagOk H x ∧ 0 < m ∧ m < 1073741824 ∧ ∀ (r : Int) H', 0 ≤ r → r < m → SPE.KX x H H' → BagOk H' x → Q (.int r) H'
inductive Items (K : PySem.W.Frag) (H : Hp) (x : SPE.AX) : V → List V → Prop where
  | lst {p : Addr} {zs : List V} : SPE.Off p x → SqL K H p zs → Items K H x (.ref p) zs
  | tup {p : Addr} {zs : List V} : SPE.Off p x → SqT K H p zs → Items K H x (.ref p) zs
  | str {z : Str} : z.length ≤ sizeLine → Items K H x (.str z) (z.cps.toList.map fun c => .str ⟨#[c]⟩)
def spSome (K : PySem.W.Frag) : Sp := fun vs H Q _ => ∃ (x : SPE.AX) (y : V) (zs : List V), vs = [.ref x.1, y] ∧ BagOk H x ∧ Items K H x y zs ∧ 0 < zs.length ∧ zs.length < 1073741824 ∧ ∀ v H', v ∈ zs → SPE.KX x H H' → BagOk H' x → Q v H'
def spNested : Sp := fun vs H Q _ => vs = [] ∧ ∀ v H', Same H H' → (∀ x : SPE.AX, BagOk H x → SPE.Dq x H' 40 v) → Q v H'
theorem spPick.mk {x : SPE.AX} {m : Int} {H : Hp} {Q : VK} {E : XK} (h : BagOk H x) (h0 : 0 < m) (h1 : m < 1073741824) (q : ∀ (r : Int) H', 0 ≤ r → r < m → SPE.KX x H H' → BagOk H' x → Q (.int r) H') : spPick ([.ref x.1, .int m] ++ []) H Q E := ⟨x, m, rfl, h, h0, h1, q⟩
theorem spSome.mk {K : PySem.W.Frag} {x : SPE.AX} {y : V} {zs : List V} {H : Hp} {Q : VK} {E : XK} (h : BagOk H x) (hi : Items K H x y zs) (h0 : 0 < zs.length) (h1 : zs.length < 1073741824) (q : ∀ v H', v ∈ zs → SPE.KX x H H' → BagOk H' x → Q v H') : spSome K ([.ref x.1, y] ++ []) H Q E := ⟨x, y, zs, rfl, h, hi, h0, h1, q⟩
theorem spSome.dq {K : PySem.W.Frag} {x : SPE.AX} {p : Addr} {zs : List V} {n : Nat} {H : Hp} {Q : VK} {E : XK} (h : BagOk H x) (hp : H p = some (.lst zs)) (ne : SPE.Off p x) (hz : SPE.DqA x H n zs) (h0 : Nat.ble 1 zs.length = true) (h1 : Nat.ble zs.length 1000000 = true)
    (q : ∀ v H', SPE.KX x H H' → BagOk H' x → SPE.Dq x H' n v → Q v H') : spSome K ([.ref x.1, .ref p] ++ []) H Q E :=
  spSome.mk h (.lst ne (.inl (.inl hp))) (Nat.le_of_ble_eq_true h0) (Nat.lt_of_le_of_lt (Nat.le_of_ble_eq_true h1) (by decide)) fun v H' hm k hh => q v H' k hh ((hz.mem v hm).kx k)
section
variable {P : Program} {w : World} {K : PySem.W.Frag} {mg : Str → Option Value} {base : Heap}
theorem ok_bag (T : Txt P K mg) : FnOk P w K mg base CX0 1 T.a_bag T.fd_bag ["_law_script"] (spBag K) := by
  have nd := sc_bag.nd
  refine T.F_bag.ok sc_bag (fun vs H Q E h => ?_) (fun cdv A outer s H vs Q E hr h => ?_)
  · obtain ⟨a, ns, rfl, _⟩ := h
    rfl
  · obtain ⟨a, ns, rfl, hS, hlen, q⟩ := h
    refine ⟨_, (pss_cons (ps_set (i := 1) nd rfl (by first | exact Or.inl rfl | exact Or.inr rfl) (pe_op op_add pe_int (pe_callB call_len_seq (by rfl) T.m_len PySem.boot_len (pa_cons (pv 0) pa_nil))))
  (pss_cons (ps_for PassesOwn.never rfl (pi_list (pe_slice sl_list (pv 0) po_none (po_some pe_int))) (pg_name (i := 2) nd rfl (by first | exact Or.inl rfl | exact Or.inr rfl))
    (pss_one (ps_set (i := 1) nd rfl (by first | exact Or.inl rfl | exact Or.inr rfl) (pe_op op_mod (pe_callTy call_int1 (by rfl) T.m_int (by decide +kernel) (pa_cons (pe_op op_add (pe_op op_add (pe_op op_mul (pv 1) pe_int) (pe_op op_mod (pe_callTy call_int1 (by rfl) T.m_int (by decide +kernel) (pa_cons (pv 2) pa_nil)) pe_int)) pe_int) pa_nil)) pe_int))))
  (pss_cons (ps_setLc (i := 3) (own := [("_law_cell", 2)]) (g := (gName 2)) rfl nd rfl rfl (sw_true rfl rfl rfl (by decide +kernel)) (pi_list (pe_slice sl_list (pv 0) po_none (po_some pe_int))) (blkOk_by (own := [("_law_cell", 2)]) (N := N_bag) (sc := defScope s_bag) (by decide +kernel)) (fun _ _ _ _ _ => (pg_name (i := 2) nd rfl (Or.inl rfl))) (fun _ _ _ _ _ => (pts_one (pt_cmpR op_ge (pe_callB call_abs (by rfl) T.m_abs (by decide +kernel) (pa_cons (pe_callTy call_int1 (by rfl) T.m_int (by decide +kernel) (pa_cons (pv 2) pa_nil)) pa_nil)) (pe_op op_pow pe_int pe_int) (nomark _)))) (fun _ _ _ _ _ => (pe_callB call_abs (by rfl) T.m_abs (by decide +kernel) (pa_cons (pe_callTy call_int1 (by rfl) T.m_int (by decide +kernel) (pa_cons (pv 2) pa_nil)) pa_nil))))
  (pss_cons (ps_set (i := 4) nd rfl (by first | exact Or.inl rfl | exact Or.inr rfl) pe_non)
  (pss_cons (ps_if (PW.pt (pw_and (pt_cmpR op_lt (pe_callB call_len_seq (by rfl) T.m_len PySem.boot_len (pa_cons (pv 0) pa_nil)) pe_int (nomark _)) (pw_and1 (pt_cmpR op_eq (pe_callB call_len_seq (by rfl) T.m_len PySem.boot_len (pa_cons (pv 3) pa_nil)) pe_int (nomark _)))))
    (pss_one (ps_set (i := 4) nd rfl (by first | exact Or.inl rfl | exact Or.inr rfl) (pe_callB call_abs (by rfl) T.m_abs (by decide +kernel) (pa_cons (pe_callB (cr_sum rfl) (by rfl) T.m_sum (by decide +kernel) (pa_cons (pe_lc (own := [("_law_cell", 2)]) (g := (gName 2)) rfl nd (pi_list (pv 0)) (blkOk_by (own := [("_law_cell", 2)]) (N := N_bag) (sc := defScope s_bag) (by decide +kernel)) (fun _ _ _ _ _ => (pg_name (i := 2) nd rfl (Or.inl rfl))) (fun _ _ _ _ _ => pts_nil) (fun _ _ _ _ _ => (pe_callTy call_int1 (by rfl) T.m_int (by decide +kernel) (pa_cons (pv 2) pa_nil)))) pa_nil)) pa_nil))))
    pss_nil)
  (pss_one (ps_ret (pe_lst (pa_cons (pv 1) (pa_cons pe_int (pa_cons (pv 3) (pa_cons (pv 4) pa_nil)))))))))))), ?_⟩
    have hcl : cutV (ns.map V.int) none (some 63) = ns.map V.int := by
      unfold cutV
      rw [HT.sIx_none, show HT.sIx (ns.map V.int).length (ns.map V.int).length (some 63) = min 63 (ns.map V.int).length from HT.sIx_nat _ _ 63, List.drop_zero, List.length_map]
      exact List.take_of_length_le (by rw [List.length_map]; omega)
    have hlm : (ns.map V.int).length = ns.length := List.length_map ..
    walk_at "rds"
    rw [hcl] at hv
    have s0 := hs
    have hS0 : SqL K H' a (ns.map V.int) := by walk_at "sq"
    have hp0 : SqL K H' p' (ns.map V.int) := by walk_at "sq"
    clear hv hs hp
    generalize H' = H0 at s0 hS0 hp0
    refine RD.forW (walk_list (xs := ns.map V.int)) (fun i σ H' => ∃ (sd : Int) (x2 x3 x4 : Option V), σ = [some (.ref a), some (.int sd), x2, x3, x4] ∧ Same H0 H') ⟨_, _, _, _, rfl, Same.refl _⟩ (fun i σ H' _ p => ?_) (fun i x σ H2 H3 hi hp hy => ?_) (fun σ H2 hp => ?_)
    · obtain ⟨sd, x2, x3, x4, rfl, s2⟩ := p
      walk_at "sq"
    · obtain ⟨sd, x2, x3, x4, rfl, s2⟩ := hp
      obtain ⟨rfl, hx⟩ := hy
      rw [List.getElem?_map] at hx
      obtain ⟨n, hn, rfl⟩ := Option.map_eq_some_iff.mp hx
      walk_at "rds"
      exact ⟨_, _, _, _, rfl, s2⟩
    · obtain ⟨sd, x2, x3, x4, rfl, s2⟩ := hp
      have s02 := s0.trans s2
      have h2 : SqL K H2 a (ns.map V.int) := by walk_at "sq"
      clear s2 s0 hS0 hp0
      walk_at "rds"
      rw [hcl] at hv
      refine RD.lcF (walk_list (xs := ns.map V.int)) (by rw [hlm]; omega) (fun i => (ns[i]?).bind fun n => if (10 : Int) ^ (18 : Int).toNat ≤ (if n < 0 then -n else n) then some (.int (if n < 0 then -n else n)) else none) (fun H' s => by walk_at "sq") (fun i x H3 Z N hi hx s3 hZ hN => ?_) (fun D H3 hD s3 hv3 => ?_)
      · rw [List.getElem?_map] at hx
        obtain ⟨n, hn, rfl⟩ := Option.map_eq_some_iff.mp hx
        walk_at "rds"
        refine ⟨rfl, ?_⟩
        walk_at "rds"
        refine RD.ite_d (fun h => ?_) (fun h => ?_)
        · walk_at "rds"
          exact hZ _ _ (by rw [hn]; exact if_pos h) (Same.refl _)
        · exact hN _ (by rw [hn]; exact if_neg h) (Same.refl _)
      · obtain ⟨cells, hcl2⟩ : ∃ cells : List Int, (List.range (ns.map V.int).length).filterMap (fun i => (ns[i]?).bind fun n => if (10 : Int) ^ (18 : Int).toNat ≤ (if n < 0 then -n else n) then some (V.int (if n < 0 then -n else n)) else none) = cells.map V.int := by
          refine ⟨(List.range (ns.map V.int).length).filterMap (fun i => (ns[i]?).bind fun n => if (10 : Int) ^ (18 : Int).toNat ≤ (if n < 0 then -n else n) then some (if n < 0 then -n else n) else none), ?_⟩
          rw [List.map_filterMap]
          refine congrArg (fun f => List.filterMap f _) (funext fun i => ?_)
          cases ns[i]? with
          | none => rfl
          | some n =>
            simp only [Option.bind_some]
            by_cases h : (10 : Int) ^ (18 : Int).toNat ≤ (if n < 0 then -n else n)
            · rw [if_pos h, if_pos h]; rfl
            · rw [if_neg h, if_neg h]; rfl
        rw [hcl2] at hv3
        have hlc : (cells.map V.int).length = cells.length := List.length_map ..
        have s03 : Same H H3 := (s02.trans hs).trans s3
        have h3 : SqL K H3 a (ns.map V.int) := by walk_at "sq"
        have fin : ∀ (sd n : Int) (al : V), (al = .non ∨ ∃ m, al = .int m) → ∀ (p4 : Addr) (H5 H4 : Hp), Same H3 H5 → H5 p4 = none → Same H5 H4 → H4 p4 = some (.lst [.int sd, .int n, .ref D, al]) → Q (.ref p4) H4 := fun sd n al hal p4 H5 H4 s45 hp4 s4 hv4 =>
          q (p4, D) H4 (s03.trans (s45.trans s4)) ((s03.trans s45).free hp4) ⟨cells, sd, n, al, hv4, s4 _ _ (s45 _ _ hv3), ne_of_none (s45 _ _ hv3) hp4, hal⟩
        clear hv hs hp s02 h2 hD s3
        walk_at "rds"
        refine RD.ite_d (fun _ => ?_) (fun _ => ?_)
        · walk_at "rds"
          refine RD.ite_d (fun _ => ?_) (fun _ => ?_)
          · walk_at "rds"
            refine RD.lcF (walk_list (xs := ns.map V.int)) (by rw [hlm]; omega) (fun i => (ns[i]?).map fun n => .int n) (fun H' s => by walk_at "sq") (fun i x H4 Z N hi hx s4 hZ hN => ?_) (fun D4 H4 hD4 s4 hv4 => ?_)
            · rw [List.getElem?_map] at hx
              obtain ⟨n, hn, rfl⟩ := Option.map_eq_some_iff.mp hx
              walk_at "rds"
              refine ⟨rfl, ?_⟩
              walk_at "rds"
              exact hZ _ _ (by rw [hn]; rfl) (Same.refl _)
            · have e : (List.range (ns.map V.int).length).filterMap (fun i => (ns[i]?).map fun n => V.int n) = ns.map V.int := by
                rw [hlm, RD.range_get (fun n => V.int n) ns]
              rw [e] at hv4
              walk_at "rds"
              exact fin _ _ _ (.inr ⟨_, rfl⟩) _ _ _ s4 hp hs hv
          · walk_at "rds"
            exact fin _ _ _ (.inl rfl) _ _ _ (Same.refl _) hp hs hv
        · walk_at "rds"
          exact fin _ _ _ (.inl rfl) _ _ _ (Same.refl _) hp hs hv
theorem ok_nested (T : Txt P K mg) : FnOk P w K mg base CX0 1 T.a_nested T.fd_nested [] spNested := by
  have nd := sc_nested.nd
  refine T.F_nested.ok sc_nested (fun vs H Q E h => ?_) (fun cdv A outer s H vs Q E hr h => ?_)
  · obtain ⟨rfl, _⟩ := h
    rfl
  · obtain ⟨rfl, q⟩ := h
    refine ⟨_, (pss_cons (ps_set (i := 0) nd rfl (by first | exact Or.inl rfl | exact Or.inr rfl) (pe_tup pa_nil))
  (pss_cons (ps_for PassesOwn.never rfl (pi_range1 (by rfl) T.m_range (pa_cons pe_int pa_nil)) (pg_name (i := 1) nd rfl (by first | exact Or.inl rfl | exact Or.inr rfl))
    (pss_one (ps_set (i := 0) nd rfl (by first | exact Or.inl rfl | exact Or.inr rfl) (pe_tup (pa_cons (pv 0) pa_nil)))))
  (pss_one (ps_ret (pv 0))))), ?_⟩
    walk_at "rds"
    refine RD.forW (walk_range (lo := 0) (n := Int.toNat 36)) (fun i σ H' => ∃ (p : Addr) (xs : List V) (x1 : Option V), σ = [some (.ref p), x1] ∧ Same H H' ∧ ∀ x : SPE.AX, BagOk H x → SPE.Dq x H' (i + 1) (.ref p)) ⟨_, [], none, rfl, hs, fun x hx => SPE.dqTup hv (hand_ne hp hx) .nil⟩ (fun _ _ _ _ _ => trivial) (fun i x σ H2 H3 hi hp hy => ?_) (fun σ H2 hp => ?_)
    · obtain ⟨p, xs, x1, rfl, s2, hd⟩ := hp
      obtain ⟨rfl, rfl⟩ := hy
      clear hv hs hp
      walk_at "rds"
      exact ⟨_, [], _, rfl, s2.trans hs, fun x hx => SPE.dqTup hv (hand_ne hp (hx.same s2)) (.cons ((hd x hx).same hs) .nil)⟩
    · obtain ⟨p, xs, x1, rfl, s2, hd⟩ := hp
      walk_at "rds"
      exact q _ _ s2 fun x hx => (hd x hx).mono _ (by decide)
theorem ok_pick (T : Txt P K mg) : FnOk P w K mg base CX0 1 T.a_pick T.fd_pick ["_law_bag_here", "_law_many"] spPick := by
  have nd := sc_pick.nd
  refine T.F_pick.ok sc_pick (fun vs H Q E h => ?_) (fun cdv A outer s H vs Q E hr h => ?_)
  · obtain ⟨x, m, rfl, _⟩ := h
    rfl
  · obtain ⟨⟨a, g⟩, m, rfl, ⟨cells, sd, n, al, ha, hc, hca, hal⟩, hm0, hm1, q⟩ := h
    refine ⟨_, (pss_cons (ps_if (pt_cmpR op_notN (pe_ix ix_list (pv 0) pe_int (fun _ _ => rfl)) pe_non (nomark _))
    (pss_one (ps_ret (pe_op op_mod (pe_callTy call_int1 (by rfl) T.m_int (by decide +kernel) (pa_cons (pe_ix ix_list (pv 0) pe_int (fun _ _ => rfl)) pa_nil)) (pv 1))))
    pss_nil)
  (pss_cons (ps_asg (pe_op op_add (pe_ix ix_list (pv 0) pe_int (fun _ _ => rfl)) pe_int) (pg_sub (pv 0) pe_int set_list))
  (pss_cons (ps_set (i := 2) nd rfl (by first | exact Or.inl rfl | exact Or.inr rfl) (pe_ix ix_list (pv 0) pe_int (fun _ _ => rfl)))
  (pss_cons (ps_if (pt_cmpR op_gt (pe_callB call_len_seq (by rfl) T.m_len PySem.boot_len (pa_cons (pv 2) pa_nil)) pe_int (nomark _))
    (pss_cons (ps_set (i := 3) nd rfl (by first | exact Or.inl rfl | exact Or.inr rfl) (pe_op op_mod (pe_callTy call_int1 (by rfl) T.m_int (by decide +kernel) (pa_cons (pe_ix ix_list (pv 2) pe_int (fun _ _ => rfl)) pa_nil)) (pv 1)))
  (pss_cons (ps_asg (pe_op op_fdiv (pe_callTy call_int1 (by rfl) T.m_int (by decide +kernel) (pa_cons (pe_ix ix_list (pv 2) pe_int (fun _ _ => rfl)) pa_nil)) (pv 1)) (pg_sub (pv 2) pe_int set_list))
  (pss_cons (ps_if (pt_cmpR op_eq (pe_ix ix_list (pv 2) pe_int (fun _ _ => rfl)) pe_int (nomark _))
    (pss_one (ps_expr (pe_bm PySem.F.plainAttrs_list PySem.F.slot_list_pop PySem.F.type_list_pop mt_popAt (pv 2) (pa_cons pe_int pa_nil))))
    pss_nil)
  (pss_one (ps_ret (pv 3))))))
    pss_nil)
  (pss_cons (ps_set (i := 4) nd rfl (by first | exact Or.inl rfl | exact Or.inr rfl) (pe_op op_mod (pe_callTy call_int1 (by rfl) T.m_int (by decide +kernel) (pa_cons (pe_op op_mul (pe_op op_add (pe_ix ix_list (pv 0) pe_int (fun _ _ => rfl)) (pe_op op_mul pe_int (pe_ix ix_list (pv 0) pe_int (fun _ _ => rfl)))) pe_int) pa_nil)) pe_int))
  (pss_cons (ps_set (i := 4) nd rfl (by first | exact Or.inl rfl | exact Or.inr rfl) (pe_op op_mod (pe_callTy call_int1 (by rfl) T.m_int (by decide +kernel) (pa_cons (pe_op op_mul (pv 4) (pe_op op_add (pe_op op_fdiv (pv 4) pe_int) pe_int)) pa_nil)) pe_int))
  (pss_cons (ps_set (i := 4) nd rfl (by first | exact Or.inl rfl | exact Or.inr rfl) (pe_op op_mod (pe_callTy call_int1 (by rfl) T.m_int (by decide +kernel) (pa_cons (pe_op op_mul (pv 4) (pe_op op_add (pe_op op_fdiv (pv 4) pe_int) pe_int)) pa_nil)) pe_int))
  (pss_one (ps_ret (pe_op op_mod (pe_callTy call_int1 (by rfl) T.m_int (by decide +kernel) (pa_cons (pe_op op_fdiv (pv 4) pe_int) pa_nil)) (pv 1))))))))))), ?_⟩
    simp only at ha hc hca
    walk_at "rds"
    rcases hal with rfl | ⟨m', rfl⟩
    · refine ⟨rfl, false, rfl, ?_⟩
      walk_at "rds"
      have k1 : SPE.KX (a, g) H H' := SPE.kx1 hk SPE.KX.refl
      have hc1 : H' g = some (.lst (cells.map V.int)) := by walk_at "hp"
      have ha1 := hv
      clear hk hv
      generalize H' = H1 at k1 hc1 ha1
      refine RD.ite_d (fun h0 => ?_) (fun _ => ?_)
      · cases cells with
        | nil => exact absurd h0 (by decide)
        | cons c0 rest =>
          have hat : ∀ (c : Int) (r : List Int), atI ((c :: r).map V.int) 0 = some (.int c) := fun c r => by
            unfold atI ixN
            rw [if_pos (by decide), if_pos (by rw [List.length_map, List.length_cons]; omega)]
            rfl
          have hix : ∀ (c : Int) (r : List Int), ixN ((c :: r).map V.int).length 0 = some 0 := fun c r => by
            unfold ixN
            rw [if_pos (by decide), if_pos (by rw [List.length_map, List.length_cons]; omega)]
            rfl
          walk_at "rds"
          refine RD.ixL (by walk_at "sq") (hat _ _) ?_
          walk_at "rds"
          refine RD.ixL (by walk_at "sq") (hat _ _) ?_
          walk_at "rds"
          refine RD.setL hc1 (hix _ _) fun H' hk hv => ?_
          have k2 : SPE.KX (a, g) H H' := SPE.kx2 hk k1
          have ha2 := hk _ _ (Ne.symm hca) ha1
          have hc2 : H' g = some (.lst ((c0 / m :: rest).map V.int)) := hv
          clear hk hv
          generalize H' = H2 at k2 hc2 ha2
          walk_at "rds"
          refine RD.ixL (by walk_at "sq") (hat _ _) ?_
          walk_at "rds"
          refine RD.ite_d (fun _ => ?_) (fun _ => ?_)
          · walk_at "rds"
            refine SPE.popAt hc2 ⟨by decide, by decide⟩ (k := 0) (ixN_seq (hix _ _)).1 rfl fun H3 k3 h3 => ?_
            walk_at "rds"
            exact q _ _ (Int.emod_nonneg _ (by omega)) (Int.emod_lt_of_pos _ hm0) (SPE.kx2 k3 k2) ⟨rest, _, _, _, k3 _ _ (Ne.symm hca) ha2, h3, hca, .inl rfl⟩
          · walk_at "rds"
            exact q _ _ (Int.emod_nonneg _ (by omega)) (Int.emod_lt_of_pos _ hm0) k2 ⟨_, _, _, _, ha2, hc2, hca, .inl rfl⟩
      · walk_at "rds"
        exact q _ _ (Int.emod_nonneg _ (by omega)) (Int.emod_lt_of_pos _ hm0) k1 ⟨_, _, _, _, ha1, hc1, hca, .inl rfl⟩
    · refine ⟨rfl, true, rfl, ?_⟩
      walk_at "rds"
      exact q _ _ (Int.emod_nonneg _ (by omega)) (Int.emod_lt_of_pos _ hm0) SPE.KX.refl ⟨cells, _, _, _, ha, hc, hca, .inr ⟨_, rfl⟩⟩
theorem ok_some (T : Txt P K mg) : FnOk P w K mg base CX0 2 T.a_some T.fd_some ["_law_bag_here", "_law_things"] (spSome K) := by
  have nd := sc_some.nd
  have G_pick : FnOk P w K mg base CX0 1 T.a_pick T.fd_pick ["_law_bag_here", "_law_many"] spPick := ok_pick T
  refine T.F_some.ok sc_some (fun vs H Q E h => ?_) (fun cdv A outer s H vs Q E hr h => ?_)
  · obtain ⟨x, y, zs, rfl, _⟩ := h
    rfl
  · obtain ⟨x, y, zs, rfl, hh, hi, h0, h1, q⟩ := h
    refine ⟨_, (pss_one (ps_ret (pe_ix ix_seq (pv 1) (pe_call G_pick hr (by rfl) T.g_pick T.F_pick.kp T.b_pick .nil pass0 (pa_cons (pv 0) (pa_cons (pe_callB call_len (by rfl) T.m_len PySem.boot_len (pa_cons (pv 1) pa_nil)) pa_nil))) (fun _ _ => rfl)))), ?_⟩
    walk_at "rds"
    refine ⟨y, zs.length, rfl, ?_, ?_⟩
    · cases hi with
      | lst n hx => exact .inl ⟨_, hx, rfl⟩
      | tup n hx => exact .inr ⟨_, hx, rfl⟩
      | str hz => exact ⟨hz, by rw [List.length_map]; rfl⟩
    · walk_at "rds"
      refine spPick.mk hh (by omega) (by omega) fun r H' hr0 hr1 k hh' => ?_
      obtain ⟨v, hat, hv⟩ := RD.at_lt (xs := zs) hr0 hr1
      have hm := List.mem_of_getElem? hv
      cases hi with
      | lst n hx => exact .inl ⟨_, _, _, _, rfl, rfl, k.seq n hx, hat, q _ _ hm k hh'⟩
      | tup n hx => exact .inr (.inl ⟨_, _, _, _, rfl, rfl, k.tup n hx, hat, q _ _ hm k hh'⟩)
      | @str z hz =>
        rw [List.length_map] at hr1
        obtain ⟨cp, hat2, hc⟩ := RD.at_lt (xs := z.cps.toList) hr0 hr1
        refine .inr (.inr ⟨z, r, cp, rfl, rfl, hz, hat2, q _ _ ?_ k hh'⟩)
        exact List.mem_map.mpr ⟨cp, List.mem_of_getElem? hc, rfl⟩
end


end K11

namespace K11
open PySem PySem.Spec PyProof.Rows L2
local macro_rules | `(tactic| walk_at "kd") => `(tactic| first | assumption | exact SPD.KdOf.int _ | exact SPD.KdOf.str _ | exact SPD.KdOf.bl _ | exact SPD.KdOf.non | exact SPD.KdOf.same (by assumption) (by walk_at "kd") | exact SPD.KdOf.tup (by walk_at "hp") | exact SPD.KdOf.lst (by walk_at "hp") | fail "no")
local macro_rules | `(tactic| walk_at "ne") => `(tactic| first | assumption | exact Ne.symm (by assumption) | fail "no")
local macro_rules | `(tactic| walk_at "hp") => `(tactic| first | assumption | exact RD.at_same (by assumption) (by walk_at "hp") | exact RD.at_kb (by assumption) (by walk_at "ne") (by walk_at "hp") | fail "no")
local macro_rules | `(tactic| walk_at "sq") => `(tactic| first | assumption | exact Or.inl (Or.inl (by walk_at "hp")) | exact Same.seq (by assumption) (by walk_at "sq") | exact RD.KB.seq (by assumption) (by walk_at "ne") (by walk_at "sq") | fail "no")
local macro_rules | `(tactic| walk_at "st") => `(tactic| first | assumption | exact Or.inl (Or.inl (by walk_at "hp")) | exact RD.Same.tup (by assumption) (by walk_at "st") | exact RD.KB.tup (by assumption) (by walk_at "ne") (by walk_at "st") | fail "no")
local macro_rules | `(tactic| walk_at "rd") => `(tactic| first
  | with_reducible refine RD.c ?_
  | ((with_reducible refine' RD.var ?rdE ?rdK); (case rdE => exact rfl))
  | with_reducible refine RD.op ?_
  | with_reducible refine RD.un ?_
  | with_reducible refine RD.nil ?_
  | with_reducible refine RD.cons ?_
  | with_reducible refine RD.cb ?_
  | with_reducible refine RD.call ?_
  | with_reducible refine RD.test ?_
  | with_reducible refine RD.tb' ?_
  | with_reducible refine RD.bl ?_
  | with_reducible refine RD.and' ?_
  | with_reducible refine RD.or' ?_
  | with_reducible refine RD.not' ?_
  | with_reducible refine RD.andV ?_
  | with_reducible refine RD.orV ?_
  | with_reducible refine RD.notV ?_
  | with_reducible refine RD.ife ?_
  | with_reducible refine RD.sl ?_
  | with_reducible refine RD.part ?_
  | with_reducible refine RD.noPart ?_
  | with_reducible refine RD.partI ?_
  | with_reducible refine RD.rd0 ?_
  | with_reducible refine RD.rdU ?_
  | ((with_reducible refine' RD.rdEq ?rdE ?rdK); (case rdE => rfl))
  | ((with_reducible refine' RD.rdNe ?rdE ?rdK); (case rdE => rfl))
  | ((with_reducible refine' RD.ixL ?rdH ?rdE ?rdK); (case rdH => walk_at "sq"); (case rdE => first | rfl | assumption))
  | ((with_reducible refine' RD.rdI ?rdC ?rdK); (case rdC => first | assumption | (show (0 : Int) < _; first | decide | omega) | exact ⟨by decide, by decide⟩ | exact ⟨by assumption, by assumption⟩ | exact .inr ⟨by decide, by decide⟩ | exact .inl ⟨by decide, by decide⟩ | exact ⟨by decide, by decide, by decide⟩ | exact .inl ⟨by omega, by omega⟩))
  | ((with_reducible refine' RD.setL ?rdH ?rdE ?rdK); (case rdH => walk_at "hp"); (case rdE => rfl); intro $(Lean.mkIdent `H'):ident $(Lean.mkIdent `hk):ident $(Lean.mkIdent `hv):ident)
  | ((with_reducible refine' RD.irng1V ?rdA ?rdB ?rdK); (case rdA => first | decide | omega); (case rdB => first | decide | omega))
  | with_reducible refine RD.int1 ?_
  | with_reducible refine RD.abs1 ?_
  | ((with_reducible refine' RD.len ?rdH ?rdK); (case rdH => first | exact Or.inl (by walk_at "sq") | exact Or.inr (by walk_at "st")))
  | with_reducible refine RD.tup ?_
  | with_reducible refine RD.lst ?_
  | with_reducible refine RD.ite1 ?_
  | with_reducible refine RD.ite0 ?_
  | with_reducible refine RD.ite1n ?_
  | with_reducible refine RD.ite0n ?_
  | with_reducible refine RD.seq ?_
  | with_reducible refine RD.asg ?_
  | with_reducible refine RD.name ?_
  | with_reducible refine RD.ret ?_
  | with_reducible refine RD.drop ?_
  | with_reducible refine RD.next ?_
  | with_reducible refine RD.ifs ?_
  | with_reducible refine RD.par ?_
  | with_reducible refine RD.par2 ?_
  | with_reducible refine RD.sub ?_
  | with_reducible refine RD.gcons ?_
  | with_reducible refine RD.gnil ?_
  | with_reducible refine RD.bm ?_
  | ((with_reducible refine' RD.bmL ?rdH ?rdK); (case rdH => walk_at "sq"))
  | ((with_reducible refine' RD.newZ ?rdH ?rdK); (case rdH => exact RD.sz _); intro $(Lean.mkIdent `p'):ident $(Lean.mkIdent `H'):ident $(Lean.mkIdent `hp):ident $(Lean.mkIdent `hs):ident $(Lean.mkIdent `hv):ident; (try have $(Lean.mkIdent `hn):ident := hand_ne $(Lean.mkIdent `hp):ident (by walk_at "hk")))
  | with_reducible refine RD.fors ?_
  | with_reducible refine RD.lc ?_
  | with_reducible refine RD.yes ?_
  | with_reducible refine RD.ilist ?_
  | ((with_reducible refine' RD.ilistV ?rdH ?rdK); (case rdH => walk_at "sq"))
  | with_reducible refine RD.itup ?_
  | ((with_reducible refine' RD.itupV ?rdH ?rdK); (case rdH => walk_at "st"))
  | with_reducible refine RD.irng1 ?_
  | with_reducible refine RD.irng2 ?_
  | ((with_reducible refine' RD.irng2V ?rdA ?rdK); (case rdA => first | decide | omega))
  | with_reducible refine RD.ienum ?_
  | ((with_reducible refine' RD.ienumV ?rdH ?rdK); (case rdH => walk_at "sq"))
  | with_reducible refine RD.izip ?_
  | ((with_reducible refine' RD.izipV ?rdH ?rdE ?rdK); (case rdH => walk_at "sq"); (case rdE => walk_at "sq"))
  | with_reducible refine SPD.izipA ?_
  | with_reducible refine RD.istr ?_
  | with_reducible refine RD.istrV ?_
  | ((with_reducible refine' RD.slL ?rdH ?rdK); (case rdH => walk_at "sq"); intro $(Lean.mkIdent `p'):ident $(Lean.mkIdent `H'):ident $(Lean.mkIdent `hp):ident $(Lean.mkIdent `hs):ident $(Lean.mkIdent `hv):ident; (try have $(Lean.mkIdent `hn):ident := hand_ne $(Lean.mkIdent `hp):ident (by walk_at "hk")))
  | ((with_reducible refine' RD.cat ?rdH ?rdE ?rdZ ?rdK); (case rdH => walk_at "hp"); (case rdE => walk_at "hp"); (case rdZ => exact RD.sz _); intro $(Lean.mkIdent `p'):ident $(Lean.mkIdent `H'):ident $(Lean.mkIdent `hp):ident $(Lean.mkIdent `hs):ident $(Lean.mkIdent `hv):ident; (try have $(Lean.mkIdent `hn):ident := hand_ne $(Lean.mkIdent `hp):ident (by walk_at "hk")))
  | ((with_reducible refine' RD.gtup ?rdH ?rdE ?rdK); (case rdH => walk_at "st"); (case rdE => rfl))
  | ((with_reducible refine' RD.app ?rdH ?rdZ ?rdK); (case rdH => walk_at "hp"); (case rdZ => first | assumption | (apply RD.szl; omega)); intro $(Lean.mkIdent `H'):ident $(Lean.mkIdent `hk):ident $(Lean.mkIdent `hv):ident)
  | ((with_reducible refine' RD.all1 ?rdH ?rdK); (case rdH => walk_at "sq"))
  | ((with_reducible refine' RD.any1 ?rdH ?rdK); (case rdH => walk_at "sq"))
  | ((with_reducible refine' SPD.dnew ?rdK); intro $(Lean.mkIdent `p'):ident $(Lean.mkIdent `H'):ident $(Lean.mkIdent `hp):ident $(Lean.mkIdent `hs):ident $(Lean.mkIdent `hv):ident; (try have $(Lean.mkIdent `hn):ident := hand_ne $(Lean.mkIdent `hp):ident (by walk_at "hk")))
  | ((with_reducible refine' SPD.disp1 ?rdK); intro $(Lean.mkIdent `p'):ident $(Lean.mkIdent `H'):ident $(Lean.mkIdent `hp):ident $(Lean.mkIdent `hs):ident $(Lean.mkIdent `hv):ident; (try have $(Lean.mkIdent `hn):ident := hand_ne $(Lean.mkIdent `hp):ident (by walk_at "hk")))
  | ((with_reducible refine' SPD.isSeq ?rdH ?rdE ?rdK); (case rdH => walk_at "hp"); (case rdE => walk_at "kd"))
  | ((with_reducible refine' SPD.isTup ?rdE ?rdK); (case rdE => walk_at "kd"))
  | ((with_reducible refine' SPD.isLst ?rdE ?rdK); (case rdE => walk_at "kd"))
  | ((with_reducible refine' SPD.isBool ?rdE ?rdK); (case rdE => walk_at "kd"))
  | ((with_reducible refine' SPD.isStr ?rdE ?rdK); (case rdE => walk_at "kd"))
  | ((with_reducible refine' SPD.isInt ?rdE ?rdK); (case rdE => walk_at "kd"))
  | dsimp only)
local macro_rules | `(tactic| walk_at "rds") => `(tactic| repeat walk_at "rd")
local macro_rules | `(tactic| walk_at "sm") => `(tactic| first | assumption | exact Same.refl _ | exact RD.sm_tr (by assumption) (by walk_at "sm") | fail "no")
local macro_rules | `(tactic| walk_at "kb") => `(tactic| first | assumption | exact RD.KB.refl | exact RD.kb_tr (by assumption) (by walk_at "kb") | exact RD.kb_trs (by assumption) (by walk_at "kb") | fail "no")
local macro_rules | `(tactic| walk_at "fr") => `(tactic| first | assumption | exact RD.fr_of (by assumption) (by walk_at "sm") | fail "no")
local macro_rules | `(tactic| walk_at "hk") => `(tactic| first | assumption | exact hand_same (by assumption) (by walk_at "hk") | exact hand_kb (by assumption) (by walk_at "fr") (by walk_at "hk") | fail "no")
local macro_rules | `(tactic| walk_at "na") => `(tactic| first | assumption | exact hand_ne (by assumption) (by walk_at "hk") | fail "no")
local macro_rules | `(tactic| walk_at "dqa") => `(tactic| first | exact SPD.DqA.nil | exact SPD.DqA.cons (by walk_at "dq") (by walk_at "dqa") | exact SPD.DqA.app (by walk_at "dqa") (by walk_at "dqa") | fail "no")
local macro_rules | `(tactic| walk_at "dq") => `(tactic| first | assumption | exact SPD.Dq.leaf rfl | exact SPD.dq_kb (by assumption) (by walk_at "kb") | exact SPD.dqTup (by walk_at "hp") (by walk_at "na") (by walk_at "dqa") | exact SPD.dqLst (by walk_at "hp") (by walk_at "na") (by walk_at "dqa") | exact SPD.dqNil (by walk_at "hp") (by walk_at "na") (by first | decide | simp) (by first | decide | simp) | fail "no")

local macro_rules | `(tactic| walk_at "rd") => `(tactic| first
  | with_reducible refine RB.chain ?_
  | with_reducible refine RB.m1 ?_
  | with_reducible refine RB.strE ?_
  | with_reducible refine RB.fld ?_
  | with_reducible refine RB.setF ?_
  | with_reducible refine RB.ss ?_
  | with_reducible refine RB.rev ?_
  | with_reducible refine RB.make ?_
  | with_reducible refine RB.makeS ?_
  | with_reducible refine RB.mkO ?_
  | with_reducible refine NR.ienumT ?_
  | with_reducible refine RB.inS ?_
  | with_reducible refine RB.bmS ?_
  | with_reducible refine RB.callS ?_
  | with_reducible refine RB.sw3 ?_
  | with_reducible refine RB.par3 ?_
  | with_reducible refine RB.par3V ?_
  | ((with_reducible refine' RB.slS ?rdH ?rdK); (case rdH => walk_at "sz"))
  | with_reducible refine RB.xf ?_
  | ((with_reducible refine' RB.xfV ?rdH ?rdE ?rdK); (case rdH => walk_at "hp"); (case rdE => rfl))
  | ((with_reducible refine' NR.ienumTV ?rdH ?rdK); (case rdH => walk_at "st"))
  | ((with_reducible refine' RB.lenL ?rdH ?rdK); (case rdH => walk_at "sq"))
  | ((with_reducible refine' RB.lenT ?rdH ?rdK); (case rdH => walk_at "st"))
  | ((with_reducible refine' RB.lenS ?rdH ?rdK); (case rdH => walk_at "sz"))
  | ((with_reducible refine' RD.lenS ?rdH ?rdK); (case rdH => walk_at "sz"))
  | ((with_reducible refine' RB.slT ?rdH ?rdK); (case rdH => walk_at "hp"); intro $(Lean.mkIdent `p'):ident $(Lean.mkIdent `H'):ident $(Lean.mkIdent `hs):ident $(Lean.mkIdent `hv):ident $(Lean.mkIdent `hp):ident; (try have $(Lean.mkIdent `hn):ident := two_ne $(Lean.mkIdent `hp):ident (by walk_at "na") (by walk_at "hk")))
  | ((with_reducible refine' RB.revV ?rdH ?rdK); (case rdH => walk_at "st"); intro $(Lean.mkIdent `p'):ident $(Lean.mkIdent `H'):ident $(Lean.mkIdent `hp):ident $(Lean.mkIdent `hs):ident $(Lean.mkIdent `hv):ident; (try have $(Lean.mkIdent `hn):ident := hand_ne $(Lean.mkIdent `hp):ident (by walk_at "hk")))
  | ((with_reducible refine' RB.listS ?rdH ?rdK); (case rdH => walk_at "sz"); intro $(Lean.mkIdent `p'):ident $(Lean.mkIdent `H'):ident $(Lean.mkIdent `hp):ident $(Lean.mkIdent `hs):ident $(Lean.mkIdent `hv):ident; (try have $(Lean.mkIdent `hn):ident := hand_ne $(Lean.mkIdent `hp):ident (by walk_at "hk")))
  | ((with_reducible refine' RB.listO ?rdH ?rdK); (case rdH => first | exact Or.inl (by walk_at "sq") | exact Or.inr (by walk_at "st")); intro $(Lean.mkIdent `p'):ident $(Lean.mkIdent `H'):ident $(Lean.mkIdent `hp):ident $(Lean.mkIdent `hs):ident $(Lean.mkIdent `hv):ident; (try have $(Lean.mkIdent `hn):ident := hand_ne $(Lean.mkIdent `hp):ident (by walk_at "hk")))
  | ((with_reducible refine' RB.tupL ?rdH ?rdK); (case rdH => walk_at "sq"); intro $(Lean.mkIdent `p'):ident $(Lean.mkIdent `H'):ident $(Lean.mkIdent `hp):ident $(Lean.mkIdent `hs):ident $(Lean.mkIdent `hv):ident; (try have $(Lean.mkIdent `hn):ident := hand_ne $(Lean.mkIdent `hp):ident (by walk_at "hk")))
  | ((with_reducible refine' RB.catT ?rdH ?rdE ?rdZ ?rdK); (case rdH => walk_at "hp"); (case rdE => walk_at "hp"); (case rdZ => exact RB.LN.sum (by walk_at "ln") (by walk_at "ln") rfl); intro $(Lean.mkIdent `p'):ident $(Lean.mkIdent `H'):ident $(Lean.mkIdent `hs):ident $(Lean.mkIdent `hv):ident $(Lean.mkIdent `hp):ident; (try have $(Lean.mkIdent `hn):ident := three_ne $(Lean.mkIdent `hp):ident (by walk_at "na") (by walk_at "na") (by walk_at "hk")))
  | fail "no")
local macro_rules | `(tactic| walk_at "ln") => `(tactic| first | with_reducible assumption | exact RB.LN.cut (by walk_at "ln") | exact RB.LN.app (by walk_at "ln") (by walk_at "ln") | exact RB.LN.rev (by walk_at "ln") | exact RB.LN.rep (by walk_at "ln") | exact RB.LN.lit rfl | fail "no")
local macro_rules | `(tactic| walk_at "sz") => `(tactic| first | assumption | exact RD.sz _ | fail "no")

/-! ### pieces, books -/
def lets : List Nat := ("abcdefgh" : Str).cps.toList
def logB (z : Str) : Bool := z.cps.toList.all fun c => decide (c ∈ lets)
def pieceB (z : Str) : Bool := logB z && (decide (1 ≤ z.cps.size) && decide (z.cps.size ≤ 8))
def logV : V → Bool
  | .str z => logB z
  | _ => false
def pieceV : V → Bool
  | .str z => pieceB z
  | _ => false
/-- the first place that is no piece, or one again -/
def dueL (acc : List Str) : List V → V
  | [] => .non
  | .str z :: r => if (pieceB z && !(acc.contains z)) = true then dueL (acc ++ [z]) r else .int (acc.length : Nat)
  | _ :: _ => .int (acc.length : Nat)
inductive DueR (K : PySem.W.Frag) (H : Hp) : V → V → Prop where
  | kind {v : V} {k : SPD.Kd} : SPD.KdOf K H v k → k ≠ .tup → DueR K H v (.str "pieces")
  | len {t : Addr} {xs : List V} : H t = some (.tup xs) → ¬ (1 ≤ xs.length ∧ xs.length ≤ 12) → DueR K H (.ref t) (.str "pieces")
  | due {t : Addr} {xs : List V} : H t = some (.tup xs) → 1 ≤ xs.length → xs.length ≤ 12 → DueR K H (.ref t) (dueL [] xs)
theorem DueR.same {K : PySem.W.Frag} {H H' : Hp} {v r : V} (s : Same H H') (h : DueR K H v r) : DueR K H' v r := by
  cases h with
  | kind a b => exact .kind (a.same s) b
  | len a b => exact .len (s _ _ a) b
  | due a b c => exact .due (s _ _ a) b c
def spLog : Sp := fun vs H Q _ => ∃ (x : Addr) (n : Nat) (v : V), vs = [v] ∧ SPD.Dq x H n v ∧ ∀ H', Same H H' → Q (.bl (logV v)) H'
def spPiece : Sp := fun vs H Q _ => ∃ (x : Addr) (n : Nat) (v : V), vs = [v] ∧ SPD.Dq x H n v ∧ ∀ H', Same H H' → Q (.bl (pieceV v)) H'
theorem str_small {x : Addr} {H : Hp} {n : Nat} {z : Str} (h : SPD.Dq x H n (.str z)) : z.cps.size ≤ 100000 := by
  cases h with
  | leaf e => exact Nat.le_of_ble_eq_true e
theorem small_len {z : Str} (h : z.cps.size ≤ 100000) : z.length ≤ sizeLine := by
  rw [sizeLine_eq]
  show z.cps.size ≤ 16777216
  omega
theorem log_list {z : Str} : (List.range z.cps.size).filterMap (fun i => (z.cps.toList[i]?).map fun c => V.bl (decide (c ∈ lets))) = (z.cps.toList.map fun c => decide (c ∈ lets)).map V.bl := by
  have e : z.cps.size = z.cps.toList.length := (Array.length_toList).symm
  rw [e, RD.range_get (fun c => V.bl (decide (c ∈ lets))) z.cps.toList, List.map_map]
  rfl
theorem log_all {z : Str} : (z.cps.toList.map fun c => decide (c ∈ lets)).all id = logB z := by
  rw [List.all_map]
  rfl
section
variable {P : Program} {w : World} {K : PySem.W.Frag} {mg : Str → Option Value} {base : Heap}
theorem ok_q_is_log (T : Txt P K mg) : FnOk P w K mg base CX0 1 T.a_q_is_log T.fd_q_is_log ["thing"] spLog := by
  have nd := sc_q_is_log.nd
  refine T.F_q_is_log.ok sc_q_is_log (fun vs H Q E h => ?_) (fun cdv A outer s H vs Q E hr h => ?_)
  · obtain ⟨x, n, v, rfl, _⟩ := h
    rfl
  · obtain ⟨x, n, v, rfl, hd, q⟩ := h
    obtain ⟨t_LETTERS, g_LETTERS⟩ := T.g_LETTERS
    refine ⟨_, (pss_one (ps_ret (pe_and (pe_callB call_isi (by rfl) T.m_isinstance (by decide +kernel) (pa_cons (pv 0) (pa_cons (pe_bltn (v := .ty "str") (by rfl) T.m_str (by decide +kernel) rfl) pa_nil))) (pe_one (pe_callB (cr_all rfl) (by rfl) T.m_all (by decide +kernel) (pa_cons (pe_lc (own := [("sign", 1)]) (g := (gName 1)) rfl nd (pi_str (pv 0)) (blkOk_by (own := [("sign", 1)]) (N := N_q_is_log) (sc := defScope s_q_is_log) (by decide +kernel)) (fun _ _ _ _ _ => (pg_name (i := 1) nd rfl (Or.inl rfl))) (fun _ _ _ _ _ => pts_nil) (fun _ _ _ _ _ => (pe_cmpR op_in_sign (pv 1) (pe_glob (v := .str "abcdefgh") (by rfl) g_LETTERS ⟨_, rfl⟩) (by first | rfl | exact nomark _)))) pa_nil)))))), ?_⟩
    obtain ⟨k, hk⟩ := hd.kd (K := K)
    walk_at "rds"
    refine RD.ite_d (fun e => ?_) (fun ne => ?_)
    · subst e
      cases hk with
      | str z =>
        have hz := str_small hd
        walk_at "rds"
        refine RD.lcF RB.w_str (by omega) (fun i => (z.cps.toList[i]?).map fun c => V.bl (decide (c ∈ lets))) (fun _ _ => trivial) (fun i x H' Z N hi hx s hZ hN => ?_) (fun D H' hD s hv => ?_)
        · rw [List.getElem?_map] at hx
          obtain ⟨c, hc, rfl⟩ := Option.map_eq_some_iff.mp hx
          walk_at "rds"
          refine ⟨rfl, ?_⟩
          walk_at "rds"
          exact hZ _ _ (by rw [hc]; rfl) (Same.refl _)
        · rw [log_list] at hv
          walk_at "rds"
          rw [log_all]
          exact q _ s
    · have e : logV v = false := by
        cases hk <;> first | rfl | exact absurd rfl ne
      rw [← e]
      exact q _ (Same.refl _)
end

theorem piece_of {z : Str} (h : logB z = true) (h1 : 1 ≤ (z.length : Int)) : pieceB z = decide ((z.length : Int) ≤ 8) := by
  have e : z.length = z.cps.size := rfl
  rw [e] at h1 ⊢
  unfold pieceB
  rw [h, decide_eq_true (show 1 ≤ z.cps.size by omega), Bool.true_and, Bool.true_and]
  exact decide_eq_decide.mpr (by omega)
theorem piece_short {z : Str} (h1 : ¬ 1 ≤ (z.length : Int)) : pieceB z = false := by
  have e : z.length = z.cps.size := rfl
  rw [e] at h1
  unfold pieceB
  rw [decide_eq_false (show ¬ 1 ≤ z.cps.size by omega), Bool.false_and, Bool.and_false]
theorem due_bad {acc : List Str} {y : V} {r : List V} (h : pieceV y = false) : dueL acc (y :: r) = .int (acc.length : Nat) := by
  cases y with
  | str z =>
    have h : pieceB z = false := h
    show (if (pieceB z && !(acc.contains z)) = true then _ else _) = _
    rw [h]
    rfl
  | _ => rfl
theorem due_twice {acc : List Str} {z : Str} {r : List V} (h : acc.contains z = true) : dueL acc (.str z :: r) = .int (acc.length : Nat) := by
  show (if (pieceB z && !(acc.contains z)) = true then _ else _) = _
  rw [h]
  simp
theorem due_good {acc : List Str} {z : Str} {r : List V} (h1 : pieceB z = true) (h : acc.contains z = false) : dueL acc (.str z :: r) = dueL (acc ++ [z]) r := by
  show (if (pieceB z && !(acc.contains z)) = true then _ else _) = _
  rw [h, h1]
  rfl
theorem inV_strs {z : Str} : ∀ acc : List Str, inV (.str z) (acc.map V.str) = acc.contains z
  | [] => rfl
  | a :: r => by
    have ih := inV_strs (z := z) r
    show (eqV (.str a) (.str z) || inV (.str z) (r.map V.str)) = _
    rw [ih, List.contains_cons]
    show ((a == z) || r.contains z) = ((z == a) || r.contains z)
    rw [show (a == z) = (z == a) from BEq.comm]
theorem flat_acc : ∀ acc : List Str, (acc.map V.str).all flatV = true
  | [] => rfl
  | _ :: r => flat_acc r
theorem cut_acc {acc : List Str} {rest : List V} {i : Nat} (hi : acc.length = i) (y : V) : cutV (acc.map V.str ++ y :: rest) none (some (i : Nat)) = acc.map V.str := by
  subst hi
  have hl : (acc.map V.str).length = acc.length := List.length_map ..
  unfold cutV
  rw [HT.sIx_none, show HT.sIx (acc.map V.str ++ y :: rest).length (acc.map V.str ++ y :: rest).length (some ((acc.length : Nat) : Int)) = min acc.length (acc.map V.str ++ y :: rest).length from HT.sIx_nat _ _ acc.length, List.drop_zero, Nat.sub_zero,
    Nat.min_eq_left (by rw [List.length_append, hl]; omega), ← hl]
  exact List.take_left ..
theorem rest_head {acc : List Str} {rest xs : List V} {i : Nat} {y : V} (e : xs = acc.map V.str ++ rest) (hi : acc.length = i) (hy : xs[i]? = some y) : ∃ r, rest = y :: r := by
  subst e hi
  rw [List.getElem?_append_right (by rw [List.length_map]; exact Nat.le_refl _), List.length_map, Nat.sub_self] at hy
  cases rest with
  | nil => cases hy
  | cons a r => exact ⟨r, by rw [Option.some.inj hy]⟩
def spBook (K : PySem.W.Frag) (C B : Addr) : Sp := fun vs H Q E => ∃ (x b dx : Addr) (n : Nat) (v : V), vs = [.ref b, v] ∧ H b = some (.ins C dx []) ∧ SPD.Dq x H n v ∧
  (∀ H', DueR K H v .non → RD.KB b H H' → H' b = some (.ins C dx [("pieces", v)]) → Q .non H') ∧
  (∀ r d H', DueR K H v r → r ≠ .non → H d = none → Same H H' → H' d = some (.xd [("part", r)]) → E (.ref B) (some d) H')
section
variable {P : Program} {w : World} {K : PySem.W.Frag} {mg : Str → Option Value} {base : Heap}
theorem ok_is_piece (T : Txt P K mg) : FnOk P w K mg base CX0 2 T.a_is_piece T.fd_is_piece ["thing"] spPiece := by
  have nd := sc_is_piece.nd
  have G_q_is_log : FnOk P w K mg base CX0 1 T.a_q_is_log T.fd_q_is_log ["thing"] spLog := ok_q_is_log T
  refine T.F_is_piece.ok sc_is_piece (fun vs H Q E h => ?_) (fun cdv A outer s H vs Q E hr h => ?_)
  · obtain ⟨x, n, v, rfl, _⟩ := h
    rfl
  · obtain ⟨x, n, v, rfl, hd, q⟩ := h
    obtain ⟨t_MOST_LONG, g_MOST_LONG⟩ := T.g_MOST_LONG
    refine ⟨_, (pss_one (ps_ret (pe_and (pe_call G_q_is_log hr (by rfl) T.g_q_is_log T.F_q_is_log.kp T.b_q_is_log .nil pass0 (pa_cons (pv 0) pa_nil)) (pe_one (pe_chain op_le op_le pe_int (pe_callB call_len_str (by rfl) T.m_len PySem.boot_len (pa_cons (pv 0) pa_nil)) (pe_glob (v := .int 8) (by rfl) g_MOST_LONG ⟨_, rfl⟩)))))), ?_⟩
    walk_at "rds"
    refine ⟨x, n, v, rfl, hd, fun H1 s1 => ?_⟩
    walk_at "rds"
    refine RD.ite_b (fun e => ?_) (fun e => ?_)
    · cases v with
      | str z =>
        have e : logB z = true := e
        have hz := small_len (str_small hd)
        walk_at "rds"
        refine RD.ite_d (fun h1 => ?_) (fun h1 => ?_)
        · walk_at "rds"
          rw [← piece_of e h1]
          exact q _ s1
        · have e2 : pieceV (.str z) = false := piece_short h1
          rw [e2] at q
          exact q _ s1
      | _ => cases e
    · have e2 : pieceV v = false := by
        cases v with
        | str z =>
          have e : logB z = false := e
          show pieceB z = false
          unfold pieceB
          rw [e]
          rfl
        | _ => rfl
      rw [e2] at q
      exact q _ s1
theorem ok_Book_init (T : Txt P K mg) : FnOk P w K mg base (L2.CX P w) 4 T.a_Book_init T.fd_Book_init ["self", "pieces"] (spBook K T.C_Book T.C_BadBook) := by
  have nd := sc_Book_init.nd
  have G_is_piece : FnOk P w K mg base CX0 2 T.a_is_piece T.fd_is_piece ["thing"] spPiece := ok_is_piece T
  have G_is_piece := G_is_piece.mono (show 2 ≤ 3 by decide)
  have G_BadBook_init : FnOk P w K mg base CX0 2 T.a_BadBook_init T.fd_BadBook_init _ (SPX.spSi T.C_BadBook _) := SPX.si_ok T.S_BadBook_init
  refine T.F_Book_init.okX sc_Book_init (fun vs H Q E h => ?_) (fun cdv A outer s H vs Q E hr h => ?_)
  · obtain ⟨x, b, dx, n, v, rfl, _⟩ := h
    rfl
  · obtain ⟨x, b, dx, n, v, rfl, hb, hd, q, qe⟩ := h
    obtain ⟨t_MOST_PIECES, g_MOST_PIECES⟩ := T.g_MOST_PIECES
    refine ⟨_, (pss_cons (ps_if (PW.pt (pw_or (pt_not (pt_val (pe_callB call_isi (by rfl) T.m_isinstance (by decide +kernel) (pa_cons (pv 1) (pa_cons (pe_bltn (v := .ty "tuple") (by rfl) T.m_tuple (by decide +kernel) rfl) pa_nil))))) (pw_or1 (pt_not (pt_chain op_le op_le pe_int (pe_callB call_len (by rfl) T.m_len PySem.boot_len (pa_cons (pv 1) pa_nil)) (pe_glob (v := .int 12) (by rfl) g_MOST_PIECES ⟨_, rfl⟩))))))
    (pss_one (ps_raise rfl (takes_of rfl rfl rfl rfl) (pmk_oex T.xc_BadBook T.ii_BadBook T.ti_BadBook G_BadBook_init hr T.b_BadBook_init .nil pass0 (by rfl) T.g_BadBook (pa_cons pe_str pa_nil))))
    pss_nil)
  (pss_cons (ps_for (passes_of rfl) rfl (NR.pi_enumT (by rfl) T.m_enumerate (pa_cons (pv 1) pa_nil)) (pg_tup rfl (pgs_cons (pg_name (i := 2) nd rfl (by first | exact Or.inl rfl | exact Or.inr rfl)) (pgs_cons (pg_name (i := 3) nd rfl (by first | exact Or.inl rfl | exact Or.inr rfl)) pgs_nil)))
    (pss_one (ps_if (PW.pt (pw_or (pt_not (pt_val (pe_call G_is_piece hr (by rfl) T.g_is_piece T.F_is_piece.kp T.b_is_piece .nil pass0 (pa_cons (pv 3) pa_nil)))) (pw_or1 (pt_cmpR op_in_seq (pv 3) (pe_slice sl_tupA (pv 1) po_none (po_some (pv 2))) (by first | rfl | exact nomark _)))))
    (pss_one (ps_raise rfl (takes_of rfl rfl rfl rfl) (pmk_oex T.xc_BadBook T.ii_BadBook T.ti_BadBook G_BadBook_init hr T.b_BadBook_init .nil pass0 (by rfl) T.g_BadBook (pa_cons (pv 2) pa_nil))))
    pss_nil)))
  (pss_one (ps_fld (pv 0) (pv 1) rfl)))), ?_⟩
    obtain ⟨k, hk⟩ := hd.kd (K := K)
    walk_at "rds"
    refine RD.ite_nd (fun ne => ?_) (fun e => ?_)
    · walk_at "rds"
      exact RB.mkOV fun d H' hd1 s1 hx => qe _ _ _ (.kind hk ne) (fun z => nomatch z) hd1 s1 hx
    · subst e
      cases hk with
      | @tup t xs ht =>
        have bad : ¬ (1 ≤ xs.length ∧ xs.length ≤ 12) → ∀ d H', H d = none → Same H H' → H' d = some (.xd [("part", .str "pieces")]) → E (.ref T.C_BadBook) (some d) H' := fun z d H' h1 h2 h3 => qe _ _ _ (.len ht z) (fun z => nomatch z) h1 h2 h3
        walk_at "rds"
        refine RD.ite_d (fun h1 => ?_) (fun h1 => ?_)
        · walk_at "rds"
          refine RD.ite_nd (fun h2 => ?_) (fun h2 => ?_)
          · walk_at "rds"
            exact RB.mkOV fun d H' hd1 s1 hx => bad (by omega) _ _ hd1 s1 hx
          · walk_at "rds"
            have hall : ∀ y, y ∈ xs → ∃ m, SPD.Dq x H m y := by
              cases hd with
              | leaf e => cases e
              | dct ne h0 _ _ =>
                rw [h0] at ht
                cases ht
              | tup ne h0 hl hall =>
                rw [h0] at ht
                cases ht
                exact fun y hy => ⟨_, hall y hy⟩
              | lst ne h0 hl hall =>
                rw [h0] at ht
                cases ht
            have told : ∀ r, dueL [] xs = r → DueR K H (.ref t) r := fun r e => e ▸ .due ht (by omega) (by omega)
            refine RD.forW (NR.w_enumT (xs := xs)) (fun i σ H' => ∃ acc rest x2 x3, σ = [some (.ref b), some (.ref t), x2, x3] ∧ xs = acc.map V.str ++ rest ∧ acc.length = i ∧ dueL [] xs = dueL acc rest ∧ Same H H')
              ⟨[], xs, _, _, rfl, rfl, rfl, rfl, Same.refl _⟩ (fun i σ H' _ ⟨acc, rest, x2, x3, _, _, _, _, s⟩ => by walk_at "st") (fun i y σ H2 H3 hi hp hy => ?_) (fun σ H2 hp => ?_)
            · obtain ⟨acc, rest, x2, x3, rfl, he, hl, hde, s2⟩ := hp
              obtain ⟨T1, x1, y1, rfl, hT, s3, hv3, hx1, hy1⟩ := hy
              obtain rfl : V.int (i : Nat) = x1 := Option.some.inj hx1
              have hy1 : xs[i]? = some y1 := hy1
              obtain ⟨r, rfl⟩ := rest_head he hl hy1
              obtain ⟨m, hdy⟩ := hall y1 (List.mem_of_getElem? hy1)
              have s23 := s2.trans s3
              have ht3 := s23 _ _ ht
              have hit : i < 9223372036854775807 := by omega
              clear hx1 hy1
              walk_at "rds"
              refine ⟨x, m, y1, rfl, hdy.same s23, fun H4 s4 => ?_⟩
              have s34 := s23.trans s4
              walk_at "rds"
              refine RD.ite_b (fun e => ?_) (fun e => ?_)
              · have e : pieceV y1 = false := by simpa using e
                walk_at "rds"
                exact RB.mkOV fun d H' hd1 s1 hx => qe (.int (i : Nat)) d H' (told _ (by rw [hde, due_bad e, hl])) (fun z => nomatch z) (s34.free hd1) (s34.trans s1) hx
              · have e : pieceV y1 = true := by simpa using e
                cases y1 with
                | str z =>
                  have e : pieceB z = true := e
                  walk_at "rds"
                  rw [he, cut_acc hl] at hv
                  refine RB.inT (.inr (by walk_at "st")) rfl (flat_acc acc) ?_
                  rw [inV_strs]
                  have s35 := s34.trans hs
                  walk_at "rds"
                  refine RD.ite_b (fun ec => ?_) (fun ec => ?_)
                  · walk_at "rds"
                    exact RB.mkOV fun d H' hd1 s1 hx => qe (.int (i : Nat)) d H' (told _ (by rw [hde, due_twice ec, hl])) (fun z => nomatch z) (s35.free hd1) (s35.trans s1) hx
                  · walk_at "rds"
                    exact ⟨acc ++ [z], r, _, _, rfl, by rw [he, List.map_append, List.append_assoc]; rfl, by rw [List.length_append, hl]; rfl, by rw [hde, due_good e ec], s35⟩
                | _ => cases e
            · obtain ⟨acc, rest, x2, x3, rfl, he, hl, hde, s2⟩ := hp
              have hr0 : rest = [] := by
                have z := congrArg List.length he
                rw [List.length_append, List.length_map] at z
                exact List.eq_nil_of_length_eq_zero (by omega)
              subst hr0
              have hb2 := s2 _ _ hb
              walk_at "rds"
              refine RB.setFV hb2 T.cl_Book T.no_Book_pieces (by decide) fun H' k' h' => ?_
              walk_at "rds"
              exact q _ (told _ hde) (fun c o n e => k' c o n (s2 c o e)) h'
        · walk_at "rds"
          exact RB.mkOV fun d H' hd1 s1 hx => bad (by omega) _ _ hd1 s1 hx
      | _ => exact absurd rfl (by assumption)
end

theorem joinL_nil : ∀ l : List (List Nat), TL.joinL [] l = l.flatten
  | [] => rfl
  | [p] => by simp [TL.joinL]
  | p :: q :: r => by
    have ih := joinL_nil (q :: r)
    show p ++ ([] ++ TL.joinL [] (q :: r)) = _
    rw [ih]
    simp
theorem join_cps (zs : List Str) : (Txt.join ("" : Str) zs).cps.toList = (zs.map fun z => z.cps.toList).flatten := by
  rw [TL.join_eq]
  have e := TL.tl_join ("" : Str) zs
  have e2 : TL.tl ("" : Str) = [] := rfl
  rw [e2, joinL_nil] at e
  exact e
theorem sum_le (k : Nat) : ∀ l : List Str, (∀ y, y ∈ l → y.length ≤ k) → (l.map (·.length)).sum ≤ k * l.length
  | [], _ => Nat.zero_le _
  | y :: r, h => by
    have ih := sum_le k r fun z hz => h z (List.mem_cons_of_mem _ hz)
    have h0 := h y List.mem_cons_self
    rw [List.map_cons, List.sum_cons, List.length_cons, Nat.mul_succ]
    omega
theorem join_size (zs : List Str) : (Txt.join ("" : Str) zs).cps.size = (zs.map (·.length)).sum := by
  rw [← Array.length_toList, join_cps, List.length_flatten, List.map_map]
  rfl
/-- pieces of a book -/
structure Good (zs : List Str) : Prop where
  some : 1 ≤ zs.length
  few : zs.length ≤ 12
  piece : ∀ z, z ∈ zs → pieceB z = true
  once : zs.Nodup
theorem piece_size {z : Str} (h : pieceB z = true) : 1 ≤ z.cps.size ∧ z.cps.size ≤ 8 := by
  unfold pieceB at h
  rw [Bool.and_eq_true, Bool.and_eq_true] at h
  exact ⟨of_decide_eq_true h.2.1, of_decide_eq_true h.2.2⟩
theorem Good.sum {zs : List Str} (g : Good zs) : (zs.map (·.length)).sum ≤ 96 := by
  have h := sum_le 8 zs fun y hy => (piece_size (g.piece y hy)).2
  have := g.few
  omega
theorem due_non : ∀ (xs : List V) (acc : List Str), dueL acc xs = .non → acc.Nodup → ∃ zs, xs = zs.map V.str ∧ (∀ z, z ∈ zs → pieceB z = true) ∧ (acc ++ zs).Nodup
  | [], acc, _, nd => ⟨[], rfl, fun _ h => (List.not_mem_nil h).elim, by rw [List.append_nil]; exact nd⟩
  | x :: r, acc, h, nd => by
    cases hx : pieceV x with
    | false =>
      rw [due_bad hx] at h
      cases h
    | true =>
      cases x with
      | str z =>
        have hx : pieceB z = true := hx
        cases hc : acc.contains z with
        | true =>
          rw [due_twice hc] at h
          cases h
        | false =>
          rw [due_good hx hc] at h
          have hz : z ∉ acc := fun m => by
            rw [List.contains_iff_mem.mpr m] at hc
            cases hc
          obtain ⟨zs, e, h1, h2⟩ := due_non r (acc ++ [z]) h (List.nodup_append.mpr ⟨nd, by simp, fun a ha b hb e => by
            rw [List.mem_singleton] at hb
            exact hz (by rw [← hb, ← e]; exact ha)⟩)
          refine ⟨z :: zs, by rw [e]; rfl, fun y hy => ?_, ?_⟩
          · rcases List.mem_cons.mp hy with e | hy
            · rw [e]; exact hx
            · exact h1 y hy
          · rw [List.append_assoc] at h2
            exact h2
      | _ => cases hx
theorem due_good_all : ∀ (zs acc : List Str), (∀ z, z ∈ zs → pieceB z = true) → (acc ++ zs).Nodup → dueL acc (zs.map V.str) = .non
  | [], _, _, _ => rfl
  | z :: r, acc, h, nd => by
    have hz : acc.contains z = false := by
      cases c : acc.contains z with
      | false => rfl
      | true => exact absurd rfl ((List.nodup_append.mp nd).2.2 z (List.contains_iff_mem.mp c) z List.mem_cons_self)
    show dueL acc (.str z :: r.map V.str) = .non
    rw [due_good (h z List.mem_cons_self) hz]
    exact due_good_all r (acc ++ [z]) (fun y hy => h y (List.mem_cons_of_mem _ hy)) (by rw [List.append_assoc]; exact nd)
theorem DueR.of {K : PySem.W.Frag} {H : Hp} {t : Addr} {zs : List Str} (ht : H t = some (.tup (zs.map V.str))) (g : Good zs) : DueR K H (.ref t) .non := by
  have h := DueR.due (K := K) ht (by rw [List.length_map]; exact g.some) (by rw [List.length_map]; exact g.few)
  rw [due_good_all zs [] g.piece (by rw [List.nil_append]; exact g.once)] at h
  exact h
theorem DueR.one {K : PySem.W.Frag} {H : Hp} {v r1 r2 : V} (h1 : DueR K H v r1) (h2 : DueR K H v r2) : r1 = r2 := by
  have tupK : ∀ {t : Addr} {xs : List V} {k : SPD.Kd}, H t = some (.tup xs) → SPD.KdOf K H (.ref t) k → k = .tup := fun ht hk => by
    cases hk with
    | dct h => rw [h] at ht; cases ht
    | lst h => rw [h] at ht; cases ht
    | tup h => rfl
  cases h1 with
  | kind a b =>
    cases h2 with
    | kind _ _ => rfl
    | len c _ => exact absurd (tupK c a) b
    | due c _ _ => exact absurd (tupK c a) b
  | len a b =>
    cases h2 with
    | kind _ _ => rfl
    | len _ _ => rfl
    | due c d e =>
      rw [c] at a
      cases a
      exact absurd ⟨d, e⟩ b
  | due a b c =>
    cases h2 with
    | kind d e => exact absurd (tupK a d) e
    | len d e =>
      rw [d] at a
      cases a
      exact absurd ⟨b, c⟩ e
    | due d e f =>
      rw [d] at a
      cases a
      rfl
/-- what is due is no list, no tuple -/
theorem due_kinds : ∀ (xs : List V) (acc : List Str), dueL acc xs = .non ∨ ∃ i : Nat, dueL acc xs = .int i
  | [], _ => .inl rfl
  | x :: r, acc => by
    cases x with
    | str z =>
      show (if (pieceB z && !(acc.contains z)) = true then dueL (acc ++ [z]) r else .int (acc.length : Nat)) = .non ∨ ∃ i : Nat, (if (pieceB z && !(acc.contains z)) = true then dueL (acc ++ [z]) r else .int (acc.length : Nat)) = .int i
      split
      · exact due_kinds r _
      · exact .inr ⟨_, rfl⟩
    | _ => exact .inr ⟨_, rfl⟩
theorem DueR.kinds {K : PySem.W.Frag} {H : Hp} {v r : V} (h : DueR K H v r) : r = .non ∨ r = .str "pieces" ∨ ∃ i : Nat, r = .int i := by
  cases h with
  | kind a b => exact .inr (.inl rfl)
  | len a b => exact .inr (.inl rfl)
  | due a b c => exact (due_kinds _ _).imp id .inr
/-- of None is due: the pieces -/
theorem DueR.good {K : PySem.W.Frag} {H : Hp} {v : V} (h : DueR K H v .non) : ∃ (t : Addr) (zs : List Str), v = .ref t ∧ H t = some (.tup (zs.map V.str)) ∧ Good zs := by
  generalize e : V.non = r at h
  cases h with
  | kind a b => cases e
  | len a b => cases e
  | due a b c =>
    obtain ⟨zs, rfl, h1, h2⟩ := due_non _ [] e.symm List.nodup_nil
    rw [List.length_map] at b c
    exact ⟨_, zs, rfl, a, b, c, h1, h2⟩
def spDue (K : PySem.W.Frag) : Sp := fun vs H Q _ => ∃ (x : Addr) (n : Nat) (v : V), vs = [v] ∧ SPD.Dq x H n v ∧ ∀ r H', DueR K H v r → Same H H' → Q r H'
/-- the signs of the pieces, each once, as one text -/
def spOwn : Sp := fun vs H Q _ => ∃ (t : Addr) (zs : List Str), vs = [.ref t] ∧ H t = some (.tup (zs.map V.str)) ∧ (zs.map (·.length)).sum ≤ 4000 ∧ ∀ ys H', SST.Own (Txt.join ("" : Str) zs) ys → Same H H' → Q (.str (Txt.join ("" : Str) ys)) H'
def BookAt (H : Hp) (C b t : Addr) : Prop := ∃ dx, H b = some (.ins C dx [("pieces", .ref t)])
theorem BookAt.same {H H' : Hp} {C b t : Addr} (s : Same H H') (h : BookAt H C b t) : BookAt H' C b t := h.imp fun _ h => s _ _ h
theorem own_small {x : Str} {ys : List Str} (h : SST.Own x ys) (hx : x.cps.size ≤ 4000) : (ys.map (·.length)).sum ≤ 4000 := by
  have h1 : ys.length ≤ 4000 := by
    rw [h.1.length_eq]
    exact Nat.le_trans (SST.mets_len _ _) hx
  have h2 := sum_le 1 ys fun y hy => by
    obtain ⟨j, _, rfl⟩ := (SST.mets_mem _ _ _).mp (h.1.mem_iff.mp hy)
    exact Nat.le_refl _
  omega
theorem same_of_kb {H H1 H2 : Hp} {b : Addr} (s : Same H H1) (hb : H b = none) (k : RD.KB b H1 H2) : Same H H2 := fun c o e => k c o (fun z => by subst z; rw [hb] at e; cases e) (s c o e)

/-! ### the own letters -/
section
variable {P : Program} {w : World} {K : PySem.W.Frag} {mg : Str → Option Value} {base : Heap}
theorem ok_own (T : Txt P K mg) : FnOk P w K mg base CX0 1 T.a_own T.fd_own ["_law_pieces"] spOwn := by
  have nd := sc_own.nd
  refine T.F_own.ok sc_own (fun vs H Q E h => ?_) (fun cdv A outer s H vs Q E hr h => ?_)
  · obtain ⟨t, zs, rfl, _⟩ := h
    rfl
  · obtain ⟨t, zs, rfl, ht, hz, q⟩ := h
    refine ⟨_, (pss_one (ps_ret (pe_join pe_str (SST.pe_ss (by rfl) T.m_sorted (by rfl) T.m_set (pe_join pe_str (pv 0)))))), ?_⟩
    walk_at "rds"
    refine RB.joinV (.inr (by walk_at "st")) (by show _ + _ * 0 ≤ _; omega) ?_
    refine RB.ssV (by rw [join_size]; exact hz) fun ys p H1 ho hp s1 hv => ?_
    walk_at "rds"
    refine RB.joinV (.inl (by walk_at "sq")) (by have := own_small ho (by rw [join_size]; exact hz); show _ + _ * 0 ≤ _; omega) ?_
    exact q _ _ ho s1
end

/-! ### texts -/
theorem str_ext {a b : Str} (h : a.cps.toList = b.cps.toList) : a = b := by
  cases a
  cases b
  exact congrArg Str.mk (Array.ext' h)
theorem app_list (a b : Str) : (a ++ b).cps.toList = a.cps.toList ++ b.cps.toList := Array.toList_append
theorem app_size (a b : Str) : (a ++ b).cps.size = a.cps.size + b.cps.size := by
  rw [← Array.length_toList, app_list, List.length_append, Array.length_toList, Array.length_toList]
theorem log_app (a b : Str) : logB (a ++ b) = (logB a && logB b) := by
  unfold logB
  rw [app_list, List.all_append]
theorem cut_list (z : Str) (lo hi : Option Int) : (cutS z lo hi).cps.toList = (z.cps.toList.drop (HT.sIx z.length 0 lo)).take (HT.sIx z.length z.length hi - HT.sIx z.length 0 lo) := rfl
theorem cut_size (z : Str) (lo hi : Option Int) : (cutS z lo hi).cps.size ≤ z.cps.size := by
  rw [← Array.length_toList, cut_list, List.length_take, List.length_drop, Array.length_toList]
  omega
theorem log_cut {z : Str} (lo hi : Option Int) (h : logB z = true) : logB (cutS z lo hi) = true := by
  unfold logB at *
  rw [cut_list, List.all_eq_true]
  exact fun c hc => List.all_eq_true.mp h c (List.mem_of_mem_drop (List.mem_of_mem_take hc))


end K11

namespace K11
open PySem PySem.Spec PyProof.Rows L2
local macro_rules | `(tactic| walk_at "kd") => `(tactic| first | assumption | exact SPD.KdOf.int _ | exact SPD.KdOf.str _ | exact SPD.KdOf.bl _ | exact SPD.KdOf.non | exact SPD.KdOf.same (by assumption) (by walk_at "kd") | exact SPD.KdOf.tup (by walk_at "hp") | exact SPD.KdOf.lst (by walk_at "hp") | fail "no")
local macro_rules | `(tactic| walk_at "ne") => `(tactic| first | assumption | exact Ne.symm (by assumption) | fail "no")
local macro_rules | `(tactic| walk_at "hp") => `(tactic| first | assumption | exact RD.at_same (by assumption) (by walk_at "hp") | exact RD.at_kb (by assumption) (by walk_at "ne") (by walk_at "hp") | fail "no")
local macro_rules | `(tactic| walk_at "sq") => `(tactic| first | assumption | exact Or.inl (Or.inl (by walk_at "hp")) | exact Same.seq (by assumption) (by walk_at "sq") | exact RD.KB.seq (by assumption) (by walk_at "ne") (by walk_at "sq") | fail "no")
local macro_rules | `(tactic| walk_at "st") => `(tactic| first | assumption | exact Or.inl (Or.inl (by walk_at "hp")) | exact RD.Same.tup (by assumption) (by walk_at "st") | exact RD.KB.tup (by assumption) (by walk_at "ne") (by walk_at "st") | fail "no")
local macro_rules | `(tactic| walk_at "rd") => `(tactic| first
  | with_reducible refine RD.c ?_
  | ((with_reducible refine' RD.var ?rdE ?rdK); (case rdE => exact rfl))
  | with_reducible refine RD.op ?_
  | with_reducible refine RD.un ?_
  | with_reducible refine RD.nil ?_
  | with_reducible refine RD.cons ?_
  | with_reducible refine RD.cb ?_
  | with_reducible refine RD.call ?_
  | with_reducible refine RD.test ?_
  | with_reducible refine RD.tb' ?_
  | with_reducible refine RD.bl ?_
  | with_reducible refine RD.and' ?_
  | with_reducible refine RD.or' ?_
  | with_reducible refine RD.not' ?_
  | with_reducible refine RD.andV ?_
  | with_reducible refine RD.orV ?_
  | with_reducible refine RD.notV ?_
  | with_reducible refine RD.ife ?_
  | with_reducible refine RD.sl ?_
  | with_reducible refine RD.part ?_
  | with_reducible refine RD.noPart ?_
  | with_reducible refine RD.partI ?_
  | with_reducible refine RD.rd0 ?_
  | with_reducible refine RD.rdU ?_
  | ((with_reducible refine' RD.rdEq ?rdE ?rdK); (case rdE => rfl))
  | ((with_reducible refine' RD.rdNe ?rdE ?rdK); (case rdE => rfl))
  | ((with_reducible refine' RD.ixL ?rdH ?rdE ?rdK); (case rdH => walk_at "sq"); (case rdE => first | rfl | assumption))
  | ((with_reducible refine' RD.rdI ?rdC ?rdK); (case rdC => first | assumption | (show (0 : Int) < _; first | decide | omega) | exact ⟨by decide, by decide⟩ | exact ⟨by assumption, by assumption⟩ | exact .inr ⟨by decide, by decide⟩ | exact .inl ⟨by decide, by decide⟩ | exact ⟨by decide, by decide, by decide⟩ | exact .inl ⟨by omega, by omega⟩))
  | ((with_reducible refine' RD.setL ?rdH ?rdE ?rdK); (case rdH => walk_at "hp"); (case rdE => rfl); intro $(Lean.mkIdent `H'):ident $(Lean.mkIdent `hk):ident $(Lean.mkIdent `hv):ident)
  | ((with_reducible refine' RD.irng1V ?rdA ?rdB ?rdK); (case rdA => first | decide | omega); (case rdB => first | decide | omega))
  | with_reducible refine RD.int1 ?_
  | with_reducible refine RD.abs1 ?_
  | ((with_reducible refine' RD.len ?rdH ?rdK); (case rdH => first | exact Or.inl (by walk_at "sq") | exact Or.inr (by walk_at "st")))
  | with_reducible refine RD.tup ?_
  | with_reducible refine RD.lst ?_
  | with_reducible refine RD.ite1 ?_
  | with_reducible refine RD.ite0 ?_
  | with_reducible refine RD.ite1n ?_
  | with_reducible refine RD.ite0n ?_
  | with_reducible refine RD.seq ?_
  | with_reducible refine RD.asg ?_
  | with_reducible refine RD.name ?_
  | with_reducible refine RD.ret ?_
  | with_reducible refine RD.drop ?_
  | with_reducible refine RD.next ?_
  | with_reducible refine RD.ifs ?_
  | with_reducible refine RD.par ?_
  | with_reducible refine RD.par2 ?_
  | with_reducible refine RD.sub ?_
  | with_reducible refine RD.gcons ?_
  | with_reducible refine RD.gnil ?_
  | with_reducible refine RD.bm ?_
  | ((with_reducible refine' RD.bmL ?rdH ?rdK); (case rdH => walk_at "sq"))
  | ((with_reducible refine' RD.newZ ?rdH ?rdK); (case rdH => exact RD.sz _); intro $(Lean.mkIdent `p'):ident $(Lean.mkIdent `H'):ident $(Lean.mkIdent `hp):ident $(Lean.mkIdent `hs):ident $(Lean.mkIdent `hv):ident; (try have $(Lean.mkIdent `hn):ident := hand_ne $(Lean.mkIdent `hp):ident (by walk_at "hk")))
  | with_reducible refine RD.fors ?_
  | with_reducible refine RD.lc ?_
  | with_reducible refine RD.yes ?_
  | with_reducible refine RD.ilist ?_
  | ((with_reducible refine' RD.ilistV ?rdH ?rdK); (case rdH => walk_at "sq"))
  | with_reducible refine RD.itup ?_
  | ((with_reducible refine' RD.itupV ?rdH ?rdK); (case rdH => walk_at "st"))
  | with_reducible refine RD.irng1 ?_
  | with_reducible refine RD.irng2 ?_
  | ((with_reducible refine' RD.irng2V ?rdA ?rdK); (case rdA => first | decide | omega))
  | with_reducible refine RD.ienum ?_
  | ((with_reducible refine' RD.ienumV ?rdH ?rdK); (case rdH => walk_at "sq"))
  | with_reducible refine RD.izip ?_
  | ((with_reducible refine' RD.izipV ?rdH ?rdE ?rdK); (case rdH => walk_at "sq"); (case rdE => walk_at "sq"))
  | with_reducible refine SPD.izipA ?_
  | with_reducible refine RD.istr ?_
  | with_reducible refine RD.istrV ?_
  | ((with_reducible refine' RD.slL ?rdH ?rdK); (case rdH => walk_at "sq"); intro $(Lean.mkIdent `p'):ident $(Lean.mkIdent `H'):ident $(Lean.mkIdent `hp):ident $(Lean.mkIdent `hs):ident $(Lean.mkIdent `hv):ident; (try have $(Lean.mkIdent `hn):ident := hand_ne $(Lean.mkIdent `hp):ident (by walk_at "hk")))
  | ((with_reducible refine' RD.cat ?rdH ?rdE ?rdZ ?rdK); (case rdH => walk_at "hp"); (case rdE => walk_at "hp"); (case rdZ => exact RD.sz _); intro $(Lean.mkIdent `p'):ident $(Lean.mkIdent `H'):ident $(Lean.mkIdent `hp):ident $(Lean.mkIdent `hs):ident $(Lean.mkIdent `hv):ident; (try have $(Lean.mkIdent `hn):ident := hand_ne $(Lean.mkIdent `hp):ident (by walk_at "hk")))
  | ((with_reducible refine' RD.gtup ?rdH ?rdE ?rdK); (case rdH => walk_at "st"); (case rdE => rfl))
  | ((with_reducible refine' RD.app ?rdH ?rdZ ?rdK); (case rdH => walk_at "hp"); (case rdZ => first | assumption | (apply RD.szl; omega)); intro $(Lean.mkIdent `H'):ident $(Lean.mkIdent `hk):ident $(Lean.mkIdent `hv):ident)
  | ((with_reducible refine' RD.all1 ?rdH ?rdK); (case rdH => walk_at "sq"))
  | ((with_reducible refine' RD.any1 ?rdH ?rdK); (case rdH => walk_at "sq"))
  | ((with_reducible refine' SPD.dnew ?rdK); intro $(Lean.mkIdent `p'):ident $(Lean.mkIdent `H'):ident $(Lean.mkIdent `hp):ident $(Lean.mkIdent `hs):ident $(Lean.mkIdent `hv):ident; (try have $(Lean.mkIdent `hn):ident := hand_ne $(Lean.mkIdent `hp):ident (by walk_at "hk")))
  | ((with_reducible refine' SPD.disp1 ?rdK); intro $(Lean.mkIdent `p'):ident $(Lean.mkIdent `H'):ident $(Lean.mkIdent `hp):ident $(Lean.mkIdent `hs):ident $(Lean.mkIdent `hv):ident; (try have $(Lean.mkIdent `hn):ident := hand_ne $(Lean.mkIdent `hp):ident (by walk_at "hk")))
  | ((with_reducible refine' SPD.isSeq ?rdH ?rdE ?rdK); (case rdH => walk_at "hp"); (case rdE => walk_at "kd"))
  | ((with_reducible refine' SPD.isTup ?rdE ?rdK); (case rdE => walk_at "kd"))
  | ((with_reducible refine' SPD.isLst ?rdE ?rdK); (case rdE => walk_at "kd"))
  | ((with_reducible refine' SPD.isBool ?rdE ?rdK); (case rdE => walk_at "kd"))
  | ((with_reducible refine' SPD.isStr ?rdE ?rdK); (case rdE => walk_at "kd"))
  | ((with_reducible refine' SPD.isInt ?rdE ?rdK); (case rdE => walk_at "kd"))
  | dsimp only)
local macro_rules | `(tactic| walk_at "rds") => `(tactic| repeat walk_at "rd")
local macro_rules | `(tactic| walk_at "sm") => `(tactic| first | assumption | exact Same.refl _ | exact RD.sm_tr (by assumption) (by walk_at "sm") | fail "no")
local macro_rules | `(tactic| walk_at "kb") => `(tactic| first | assumption | exact RD.KB.refl | exact RD.kb_tr (by assumption) (by walk_at "kb") | exact RD.kb_trs (by assumption) (by walk_at "kb") | fail "no")
local macro_rules | `(tactic| walk_at "fr") => `(tactic| first | assumption | exact RD.fr_of (by assumption) (by walk_at "sm") | fail "no")
local macro_rules | `(tactic| walk_at "hk") => `(tactic| first | assumption | exact hand_same (by assumption) (by walk_at "hk") | exact hand_kb (by assumption) (by walk_at "fr") (by walk_at "hk") | fail "no")
local macro_rules | `(tactic| walk_at "na") => `(tactic| first | assumption | exact hand_ne (by assumption) (by walk_at "hk") | fail "no")
local macro_rules | `(tactic| walk_at "dqa") => `(tactic| first | exact SPD.DqA.nil | exact SPD.DqA.cons (by walk_at "dq") (by walk_at "dqa") | exact SPD.DqA.app (by walk_at "dqa") (by walk_at "dqa") | fail "no")
local macro_rules | `(tactic| walk_at "dq") => `(tactic| first | assumption | exact SPD.Dq.leaf rfl | exact SPD.dq_kb (by assumption) (by walk_at "kb") | exact SPD.dqTup (by walk_at "hp") (by walk_at "na") (by walk_at "dqa") | exact SPD.dqLst (by walk_at "hp") (by walk_at "na") (by walk_at "dqa") | exact SPD.dqNil (by walk_at "hp") (by walk_at "na") (by first | decide | simp) (by first | decide | simp) | fail "no")

local macro_rules | `(tactic| walk_at "rd") => `(tactic| first
  | with_reducible refine RB.chain ?_
  | with_reducible refine RB.m1 ?_
  | with_reducible refine RB.strE ?_
  | with_reducible refine RB.fld ?_
  | with_reducible refine RB.setF ?_
  | with_reducible refine RB.ss ?_
  | with_reducible refine RB.rev ?_
  | with_reducible refine RB.make ?_
  | with_reducible refine RB.makeS ?_
  | with_reducible refine RB.mkO ?_
  | with_reducible refine NR.ienumT ?_
  | with_reducible refine RB.inS ?_
  | with_reducible refine RB.bmS ?_
  | with_reducible refine RB.callS ?_
  | with_reducible refine RB.sw3 ?_
  | with_reducible refine RB.par3 ?_
  | with_reducible refine RB.par3V ?_
  | ((with_reducible refine' RB.slS ?rdH ?rdK); (case rdH => walk_at "sz"))
  | with_reducible refine RB.xf ?_
  | ((with_reducible refine' RB.xfV ?rdH ?rdE ?rdK); (case rdH => walk_at "hp"); (case rdE => rfl))
  | ((with_reducible refine' NR.ienumTV ?rdH ?rdK); (case rdH => walk_at "st"))
  | ((with_reducible refine' RB.lenL ?rdH ?rdK); (case rdH => walk_at "sq"))
  | ((with_reducible refine' RB.lenT ?rdH ?rdK); (case rdH => walk_at "st"))
  | ((with_reducible refine' RB.lenS ?rdH ?rdK); (case rdH => walk_at "sz"))
  | ((with_reducible refine' RD.lenS ?rdH ?rdK); (case rdH => walk_at "sz"))
  | ((with_reducible refine' RB.slT ?rdH ?rdK); (case rdH => walk_at "hp"); intro $(Lean.mkIdent `p'):ident $(Lean.mkIdent `H'):ident $(Lean.mkIdent `hs):ident $(Lean.mkIdent `hv):ident $(Lean.mkIdent `hp):ident; (try have $(Lean.mkIdent `hn):ident := two_ne $(Lean.mkIdent `hp):ident (by walk_at "na") (by walk_at "hk")))
  | ((with_reducible refine' RB.revV ?rdH ?rdK); (case rdH => walk_at "st"); intro $(Lean.mkIdent `p'):ident $(Lean.mkIdent `H'):ident $(Lean.mkIdent `hp):ident $(Lean.mkIdent `hs):ident $(Lean.mkIdent `hv):ident; (try have $(Lean.mkIdent `hn):ident := hand_ne $(Lean.mkIdent `hp):ident (by walk_at "hk")))
  | ((with_reducible refine' RB.listS ?rdH ?rdK); (case rdH => walk_at "sz"); intro $(Lean.mkIdent `p'):ident $(Lean.mkIdent `H'):ident $(Lean.mkIdent `hp):ident $(Lean.mkIdent `hs):ident $(Lean.mkIdent `hv):ident; (try have $(Lean.mkIdent `hn):ident := hand_ne $(Lean.mkIdent `hp):ident (by walk_at "hk")))
  | ((with_reducible refine' RB.listO ?rdH ?rdK); (case rdH => first | exact Or.inl (by walk_at "sq") | exact Or.inr (by walk_at "st")); intro $(Lean.mkIdent `p'):ident $(Lean.mkIdent `H'):ident $(Lean.mkIdent `hp):ident $(Lean.mkIdent `hs):ident $(Lean.mkIdent `hv):ident; (try have $(Lean.mkIdent `hn):ident := hand_ne $(Lean.mkIdent `hp):ident (by walk_at "hk")))
  | ((with_reducible refine' RB.tupL ?rdH ?rdK); (case rdH => walk_at "sq"); intro $(Lean.mkIdent `p'):ident $(Lean.mkIdent `H'):ident $(Lean.mkIdent `hp):ident $(Lean.mkIdent `hs):ident $(Lean.mkIdent `hv):ident; (try have $(Lean.mkIdent `hn):ident := hand_ne $(Lean.mkIdent `hp):ident (by walk_at "hk")))
  | ((with_reducible refine' RB.catT ?rdH ?rdE ?rdZ ?rdK); (case rdH => walk_at "hp"); (case rdE => walk_at "hp"); (case rdZ => exact RB.LN.sum (by walk_at "ln") (by walk_at "ln") rfl); intro $(Lean.mkIdent `p'):ident $(Lean.mkIdent `H'):ident $(Lean.mkIdent `hs):ident $(Lean.mkIdent `hv):ident $(Lean.mkIdent `hp):ident; (try have $(Lean.mkIdent `hn):ident := three_ne $(Lean.mkIdent `hp):ident (by walk_at "na") (by walk_at "na") (by walk_at "hk")))
  | fail "no")
local macro_rules | `(tactic| walk_at "ln") => `(tactic| first | with_reducible assumption | exact RB.LN.cut (by walk_at "ln") | exact RB.LN.app (by walk_at "ln") (by walk_at "ln") | exact RB.LN.rev (by walk_at "ln") | exact RB.LN.rep (by walk_at "ln") | exact RB.LN.lit rfl | fail "no")
local macro_rules | `(tactic| walk_at "sz") => `(tactic| first | assumption | exact RD.sz _ | fail "no")

local macro_rules | `(tactic| walk_at "hp") => `(tactic| first | assumption | exact RD.at_same (by assumption) (by walk_at "hp") | exact SPE.at_kx (by assumption) (by walk_at "na") (by walk_at "hp") | exact RD.at_kb (by assumption) (by walk_at "ne") (by walk_at "hp") | fail "no")
local macro_rules | `(tactic| walk_at "sq") => `(tactic| first | assumption | exact Or.inl (Or.inl (by walk_at "hp")) | exact Same.seq (by assumption) (by walk_at "sq") | exact SPE.KX.seq (by assumption) (by walk_at "na") (by walk_at "sq") | exact RD.KB.seq (by assumption) (by walk_at "ne") (by walk_at "sq") | fail "no")
local macro_rules | `(tactic| walk_at "st") => `(tactic| first | assumption | exact Or.inl (Or.inl (by walk_at "hp")) | exact RD.Same.tup (by assumption) (by walk_at "st") | exact SPE.KX.tup (by assumption) (by walk_at "na") (by walk_at "st") | exact RD.KB.tup (by assumption) (by walk_at "ne") (by walk_at "st") | fail "no")
local macro_rules | `(tactic| walk_at "kx") => `(tactic| first | assumption | exact SPE.KX.refl | exact SPE.kx_tr (by assumption) (by walk_at "kx") | exact SPE.kx_trs (by assumption) (by walk_at "kx") | fail "no")
local macro_rules | `(tactic| walk_at "dqa") => `(tactic| first | exact SPE.DqA.nil | exact SPE.DqA.cons (by walk_at "dq") (by walk_at "dqa") | exact SPE.DqA.app (by walk_at "dqa") (by walk_at "dqa") | fail "no")
local macro_rules | `(tactic| walk_at "dq") => `(tactic| first | assumption | exact SPE.Dq.leaf rfl | exact SPE.dq_kx (by assumption) (by walk_at "kx") | exact SPE.dqTup (by walk_at "hp") (by walk_at "na") (by walk_at "dqa") | exact SPE.dqLst (by walk_at "hp") (by walk_at "na") (by walk_at "dqa") | exact SPE.dqNil (by walk_at "hp") (by walk_at "na") (by first | decide | simp) (by first | decide | simp) | fail "no")
local macro_rules | `(tactic| walk_at "dqx") => `(tactic| first | exact $(Lean.mkIdent `hdb):ident _ (by walk_at "kx") | exact SPE.DqA.cons (SPE.dq_kx (by assumption) (by walk_at "kx")) SPE.DqA.nil | exact SPE.DqA.cons (SPE.Dq.leaf rfl) SPE.DqA.nil | exact SPE.DqA.nil | (with_reducible refine SPE.dqa_cut ?_; walk_at "dqx") | (with_reducible refine SPE.dqa_rev ?_; walk_at "dqx") | (with_reducible refine SPE.DqA.app ?_ ?_ <;> walk_at "dqx") | fail "no")
local macro_rules | `(tactic| walk_at "dqz") => `(tactic| first | exact SPE.dqTupN (by walk_at "hp") (by walk_at "na") (by walk_at "dqx") (by walk_at "ln") rfl | exact SPE.dqLstN (by walk_at "hp") (by walk_at "na") (by walk_at "dqx") (by walk_at "ln") rfl | fail "no")
local macro_rules | `(tactic| walk_at "rd") => `(tactic| first
  | with_reducible refine SPE.revs ?_
  | ((with_reducible refine' SPE.revsV ?rdH ?rdK); (case rdH => walk_at "sz"))
  | ((with_reducible refine' SPE.sum1 ?rdH ?rdK); (case rdH => walk_at "sq"))
  | fail "no")

local macro_rules | `(tactic| walk_at "rd") => `(tactic| first
  | ((with_reducible refine' RB.listO ?rdH ?rdK); (case rdH => exact Or.inr (by walk_at "st")); intro $(Lean.mkIdent `p'):ident $(Lean.mkIdent `H'):ident $(Lean.mkIdent `hp):ident $(Lean.mkIdent `hs):ident $(Lean.mkIdent `hv):ident; (try have $(Lean.mkIdent `hn):ident := hand_ne $(Lean.mkIdent `hp):ident (by walk_at "hk")))
  | fail "no")

/-! ### pieces over a, b, c -/
def abc : List Nat := [97, 98, 99]
structure RawB (zs : List Str) : Prop where
  some : 1 ≤ zs.length
  few : zs.length ≤ 12
  size : ∀ z, z ∈ zs → 1 ≤ z.cps.size ∧ z.cps.size ≤ 8
  abc : ∀ z, z ∈ zs → ∀ c, c ∈ z.cps.toList → c ∈ abc
  once : zs.Nodup
theorem RawB.sum {zs : List Str} (g : RawB zs) : (zs.map (·.length)).sum ≤ 96 := by
  have h := sum_le 8 zs fun y hy => (g.size y hy).2
  have := g.few
  omega
theorem RawB.pos {zs : List Str} (g : RawB zs) : 1 ≤ (zs.map (·.length)).sum := by
  have h1 := g.some
  match zs, g, h1 with
  | z :: r, g, _ =>
    rw [List.map_cons, List.sum_cons]
    have := (g.size z List.mem_cons_self).1
    have e : z.length = z.cps.size := rfl
    omega
theorem mets_nodup (val : Nat → Str) : ∀ i, (SST.mets val i).Nodup
  | 0 => List.nodup_nil
  | i + 1 => by
    have ih := mets_nodup val i
    show (SST.met (val i) (SST.mets val i)).Nodup
    unfold SST.met
    split
    · exact ih
    · rename_i h
      exact List.nodup_cons.mpr ⟨h, ih⟩
/-- the own letters, one by one -/
theorem own_signs {z : Str} {ys : List Str} (ho : SST.Own z ys) : ∃ cs : List Nat, ys = cs.map (fun c => (⟨#[c]⟩ : Str)) ∧ cs.Nodup ∧ ∀ c, c ∈ cs ↔ c ∈ z.cps.toList := by
  have h1 : ∀ y, y ∈ ys ↔ ∃ j, j < z.cps.size ∧ SST.signs z j = y := fun y => ho.1.mem_iff.trans (SST.mets_mem _ _ _)
  have h2 : ys.Nodup := ho.1.nodup_iff.mpr (mets_nodup _ _)
  have h3 : ∀ (l : List Str), (∀ y, y ∈ l → ∃ j, j < z.cps.size ∧ SST.signs z j = y) → ∃ cs : List Nat, l = cs.map (fun c => (⟨#[c]⟩ : Str)) := by
    intro l
    induction l with
    | nil => exact fun _ => ⟨[], rfl⟩
    | cons y l ih =>
      intro h
      obtain ⟨j, _, e⟩ := h y List.mem_cons_self
      obtain ⟨cs, rfl⟩ := ih fun y hy => h y (List.mem_cons_of_mem _ hy)
      exact ⟨z.cps.getD j 0 :: cs, by rw [List.map_cons, ← e]; rfl⟩
  obtain ⟨cs, rfl⟩ := h3 ys fun y hy => (h1 y).mp hy
  refine ⟨cs, rfl, ?_, fun c => ⟨fun hc => ?_, fun hc => ?_⟩⟩
  · exact (List.pairwise_map.mp h2).imp fun {a b} h e => h (by rw [e])
  · obtain ⟨j, hj, e⟩ := (h1 ⟨#[c]⟩).mp (List.mem_map.mpr ⟨c, hc, rfl⟩)
    have e2 : z.cps.getD j 0 = c := by
      have := congrArg (fun s : Str => s.cps.toList) e
      simpa [SST.signs] using this
    rw [← e2, Array.getD_eq_getD_getElem?, Array.getElem?_eq_getElem hj]
    exact Array.mem_toList_iff.mpr (Array.getElem_mem hj)
  · obtain ⟨j, hj, e⟩ := List.mem_iff_getElem.mp hc
    have hm := (h1 (⟨#[c]⟩ : Str)).mpr ⟨j, by rw [← Array.length_toList]; exact hj, by
      show (⟨#[z.cps.getD j 0]⟩ : Str) = _
      rw [Array.getD_eq_getD_getElem?, Array.getElem?_eq_getElem (by rw [← Array.length_toList]; exact hj)]
      have : z.cps[j]'(by rw [← Array.length_toList]; exact hj) = c := by rw [← e]; simp
      show (⟨#[z.cps[j]'_]⟩ : Str) = _
      rw [this]⟩
    obtain ⟨d, hd, e2⟩ := List.mem_map.mp hm
    have : d = c := by
      have := congrArg (fun s : Str => s.cps.toList) e2
      simpa using this
    rw [← this]
    exact hd
def spMore : Sp := fun vs H Q _ => ∃ (x : SPE.AX) (t : Addr) (zs : List Str) (m : Nat), vs = [.ref x.1, .ref t, .int (m : Nat)] ∧ BagOk H x ∧ H t = some (.tup (zs.map V.str)) ∧ RawB zs ∧ m ≤ 10 ∧
  ∀ (u : Addr) (ws : List Str) H', SPE.KX x H H' → BagOk H' x → H' u = some (.tup (ws.map V.str)) → RawB ws → Q (.ref u) H'
theorem cs_join (cs : List Nat) : (Txt.join ("" : Str) (cs.map fun c => (⟨#[c]⟩ : Str))).cps.toList = cs := by
  rw [join_cps, List.map_map]
  induction cs with
  | nil => rfl
  | cons c cs ih => rw [List.map_cons, List.flatten_cons, ih]; rfl
theorem cs_sum (cs : List Nat) : ((cs.map fun c => (⟨#[c]⟩ : Str)).map (·.length)).sum = cs.length := by
  induction cs with
  | nil => rfl
  | cons a l ih => rw [List.map_cons, List.map_cons, List.sum_cons, ih, List.length_cons, Nat.add_comm]; rfl
section
variable {P : Program} {w : World} {K : PySem.W.Frag} {mg : Str → Option Value} {base : Heap}
theorem ok_more (T : Txt P K mg) : FnOk P w K mg base CX0 3 T.a_more T.fd_more ["_law_bag_here", "_law_pieces", "_law_most"] spMore := by
  have nd := sc_more.nd
  have G_pick : FnOk P w K mg base CX0 2 T.a_pick T.fd_pick ["_law_bag_here", "_law_many"] spPick := (ok_pick T).mono (by decide)
  have G_some : FnOk P w K mg base CX0 2 T.a_some T.fd_some ["_law_bag_here", "_law_things"] (spSome K) := ok_some T
  refine T.F_more.ok sc_more (fun vs H Q E h => ?_) (fun cdv A outer s H vs Q E hr h => ?_)
  · obtain ⟨x, t, zs, m, rfl, _⟩ := h
    rfl
  · obtain ⟨x, t, zs, m, rfl, hh, ht, g, hm, q⟩ := h
    refine ⟨_, (pss_cons (ps_asg (pe_tup (pa_cons (pe_callTy RB.call_listO (by rfl) T.m_list (by decide +kernel) (pa_cons (pv 1) pa_nil)) (pa_cons (SST.pe_ss (by rfl) T.m_sorted (by rfl) T.m_set (pe_join pe_str (pv 1))) pa_nil))) (pg_tup rfl (pgs_cons (pg_name (i := 3) nd rfl (by first | exact Or.inl rfl | exact Or.inr rfl)) (pgs_cons (pg_name (i := 4) nd rfl (by first | exact Or.inl rfl | exact Or.inr rfl)) pgs_nil))))
  (pss_cons (ps_for PassesOwn.never rfl (pi_range1 (by rfl) T.m_range (pa_cons (pe_call G_pick hr (by rfl) T.g_pick T.F_pick.kp T.b_pick .nil pass0 (pa_cons (pv 0) (pa_cons (pe_op op_add (pv 2) pe_int) pa_nil))) pa_nil)) (pg_name (i := 5) nd rfl (by first | exact Or.inl rfl | exact Or.inr rfl))
    (pss_cons (ps_set (i := 6) nd rfl (by first | exact Or.inl rfl | exact Or.inr rfl) (pe_join pe_str (pe_lc (own := [("_law_letter", 7)]) (g := (gName 7)) rfl nd (pi_range1 (by rfl) T.m_range (pa_cons (pe_op op_add pe_int (pe_call G_pick hr (by rfl) T.g_pick T.F_pick.kp T.b_pick .nil pass0 (pa_cons (pv 0) (pa_cons pe_int pa_nil)))) pa_nil)) (blkOk_by (own := [("_law_letter", 7)]) (N := N_more) (sc := defScope s_more) (by decide +kernel)) (fun _ _ _ _ _ => (pg_name (i := 7) nd rfl (Or.inl rfl))) (fun _ _ _ _ _ => pts_nil) (fun _ _ _ _ _ => (pe_call G_some hr (by rfl) T.g_some T.F_some.kp T.b_some .nil pass0 (pa_cons (pv 0) (pa_cons (pv 4) pa_nil)))))))
  (pss_one (ps_if (PW.pt (pw_and (pt_cmpR op_notIn_seq (pv 6) (pv 3) (by first | rfl | exact nomark _)) (pw_and1 (pt_cmpR op_lt (pe_callB call_len_seq (by rfl) T.m_len PySem.boot_len (pa_cons (pv 3) pa_nil)) pe_int (nomark _)))))
    (pss_one (ps_expr (pe_bm PySem.F.plainAttrs_list PySem.F.slot_list_append PySem.F.type_list_append mt_append (pv 3) (pa_cons (pv 6) pa_nil))))
    pss_nil))))
  (pss_one (ps_ret (pe_callTy RB.call_tupO (by rfl) T.m_tuple (by decide +kernel) (pa_cons (pv 3) pa_nil)))))), ?_⟩
    have hsum := g.sum
    have hpos := g.pos
    walk_at "rds"
    have hf0 := hv
    have of := hn
    have sf := hs
    clear hv hn hs
    generalize p' = f at hf0 of hp ⊢
    generalize H' = H1 at hf0 sf ⊢
    have ht1 := sf _ _ ht
    refine RB.joinV (.inr (.inl (.inl ht1))) (by show _ + _ * 0 ≤ _; omega) ?_
    refine RB.ssV (by rw [join_size]; omega) fun ys o H2 ho hpo s2 hvo => ?_
    obtain ⟨cs, rfl, hnd, hcs⟩ := own_signs ho
    have hf2 := s2 _ _ hf0
    have hh2 := (hh.same sf).same s2
    have oo : SPE.Off o x := hand_ne hpo (hh.same sf)
    have nof : f ≠ o := ne_of_none hf0 hpo
    have habc : ∀ c, c ∈ cs → c ∈ abc := fun c hc => by
      have := (hcs c).mp hc
      rw [join_cps] at this
      obtain ⟨l, hl, hcl⟩ := List.mem_flatten.mp this
      obtain ⟨y, hy, rfl⟩ := List.mem_map.mp hl
      exact g.abc y hy c hcl
    have hc1 : 1 ≤ cs.length := by
      have hj : 0 < (Txt.join ("" : Str) zs).cps.toList.length := by rw [Array.length_toList, join_size]; omega
      have := (hcs _).mpr (List.getElem_mem hj)
      exact List.length_pos_of_mem this
    have hc3 : cs.length ≤ 4000 := by
      have := own_small ho (by rw [join_size]; omega)
      rw [cs_sum] at this
      exact this
    have k2 : SPE.KX x H H2 := SPE.kx_of (sf.trans s2)
    have hHf : ∀ b o', H b = some o' → b ≠ f := fun b o' e z => by
      subst z
      rw [hp] at e
      cases e
    clear hp hpo ht1 hf0 sf s2
    walk_at "rds"
    have hh3 := hh2.same hs
    have k3 : SPE.KX x H H' := k2.trans (SPE.kx_of hs)
    have hf3 := hs _ _ hf2
    have ho3 := hs _ _ hvo
    clear hv hs hp hn hf2 hvo hh2 k2
    generalize H' = H3 at hh3 k3 hf3 ho3 ⊢
    refine spPick.mk (E := E0) hh3 (by omega) (by omega) fun n H4 hn0 hn1 k4 hh4 => ?_
    have hf4 := k4 _ _ of hf3
    have ho4 := k4 _ _ oo ho3
    have k04 := k3.trans k4
    clear hf3 ho3 k3 k4 hh3
    walk_at "rds"
    refine RD.forW (walk_range (lo := 0) (n := Int.toNat n)) (fun i σ H' => ∃ (acc : List Str) (x5 x6 x7 : Option V), σ = [some (.ref x.1), some (.ref t), some (.int (m : Nat)), some (.ref f), some (.ref o), x5, x6, x7] ∧ SPE.KX x H H' ∧ BagOk H' x ∧ H' f = some (.lst (acc.map V.str)) ∧ H' o = some (.lst ((cs.map fun c => (⟨#[c]⟩ : Str)).map V.str)) ∧ RawB acc)
      ⟨zs, _, _, _, rfl, k04, hh4, hf4, ho4, g⟩ (fun _ _ _ _ _ => trivial) (fun i v σ H5 H6 hi hp hy => ?_) (fun σ H5 hp => ?_)
    · obtain ⟨acc, x5, x6, x7, rfl, k5, hh5, hf5, ho5, ga⟩ := hp
      obtain ⟨rfl, rfl⟩ := hy
      clear k04 hh4 hf4 ho4
      walk_at "rds"
      refine spPick.mk (E := E0) hh5 (by decide) (by decide) fun r H7 hr0 hr1 k7 hh7 => ?_
      have hf7 := k7 _ _ of hf5
      have ho7 := k7 _ _ oo ho5
      have k07 := k5.trans k7
      clear hf5 ho5 k5 k7 hh5
      walk_at "rds"
      refine RD.lcW (walk_range (lo := 0) (n := Int.toNat (1 + r))) (by omega) fun D H8 hD s8 hv8 => ⟨fun j bs H' => ∃ ds : List Nat, bs = (ds.map fun c => (⟨#[c]⟩ : Str)).map V.str ∧ ds.length = j ∧ (∀ c, c ∈ ds → c ∈ abc) ∧ SPE.KX x H7 H' ∧ BagOk H' x ∧ H' o = some (.lst ((cs.map fun c => (⟨#[c]⟩ : Str)).map V.str)),
        ⟨[], rfl, rfl, fun z hz => (List.not_mem_nil hz).elim, SPE.kx_of s8, hh7.same s8, s8 _ _ ho7⟩, fun _ _ _ _ _ => trivial, fun j v bs H9 H10 Z N hj hp hDa hy hZ hN => ?_, fun bs H9 hp hDa => ?_⟩
      · obtain ⟨ds, rfl, hdl, hda, k9, hh9, ho9⟩ := hp
        obtain ⟨rfl, rfl⟩ := hy
        have nD : SPE.Off D x := hand_ne hD hh7
        have noD : o ≠ D := ne_of_none ho7 hD
        walk_at "rds"
        refine ⟨rfl, ?_⟩
        walk_at "rds"
        have hlc : ((cs.map fun c => (⟨#[c]⟩ : Str)).map V.str).length = cs.length := by rw [List.length_map, List.length_map]
        refine spSome.mk (E := E0) hh9 (.lst oo (.inl (.inl ho9))) (by rw [hlc]; omega) (by rw [hlc]; omega) fun v H11 hv k11 hh11 => ?_
        obtain ⟨y, hy, rfl⟩ := List.mem_map.mp hv
        obtain ⟨c, hc, rfl⟩ := List.mem_map.mp hy
        refine hZ _ _ (k11 _ _ nD hDa) fun H12 k12 hv12 => ⟨ds ++ [c], by rw [List.map_append, List.map_append]; rfl, by rw [List.length_append, hdl]; rfl, fun d hd => ?_, SPE.kx_mut k12 (k9.trans k11) hD, hh11.mut k12 nD, k12 _ _ noD (k11 _ _ oo ho9)⟩
        rcases List.mem_append.mp hd with h | h
        · exact hda d h
        · rw [List.mem_singleton.mp h]
          exact habc c hc
      · obtain ⟨ds, rfl, hdl, hda, k9, hh9, ho9⟩ := hp
        have hf9 := k9 _ _ of hf7
        have k09 := k07.trans k9
        have hjs := join_size (ds.map fun c => (⟨#[c]⟩ : Str))
        have hjl := cs_join ds
        have hsm := cs_sum ds
        clear hf7 ho7 k07 hh7 hD
        walk_at "rds"
        refine RB.joinV (.inl (.inl (.inl hDa))) (by show _ + _ * 0 ≤ _; omega) ?_
        have hz1 : 1 ≤ (Txt.join ("" : Str) (ds.map fun c => (⟨#[c]⟩ : Str))).cps.size ∧ (Txt.join ("" : Str) (ds.map fun c => (⟨#[c]⟩ : Str))).cps.size ≤ 8 := by omega
        generalize Txt.join ("" : Str) (ds.map fun c => (⟨#[c]⟩ : Str)) = z at hjs hjl hz1
        have hlm : (acc.map V.str).length = acc.length := List.length_map ..
        have g12 := ga.few
        have g1 := ga.some
        have hsz : (acc.map V.str).length < sizeLine := RD.szl (by omega)
        clear hDa
        walk_at "rds"
        refine RB.ninT (.inl (.inl (.inl hf9))) rfl (flat_acc acc) ?_
        rw [inV_strs]
        walk_at "rds"
        refine RD.ite_b (fun e => ?_) (fun e => ?_)
        · have e : acc.contains z = false := by simpa using e
          have hzn : z ∉ acc := fun m => by
            rw [List.contains_iff_mem.mpr m] at e
            cases e
          walk_at "rds"
          refine RD.ite_d (fun h2 => ?_) (fun _ => ?_)
          · walk_at "rds"
            refine ⟨acc ++ [z], _, _, _, rfl, fun b o' nb eb => hk b o' (hHf b o' eb) (k09 b o' nb eb), hh9.mut hk of, by rw [hv, List.map_append]; rfl, hk _ _ nof.symm ho9, ⟨by rw [List.length_append]; omega, by rw [List.length_append, List.length_singleton]; omega, fun y hy => ?_, fun y hy => ?_, ?_⟩⟩
            · rcases List.mem_append.mp hy with h | h
              · exact ga.size y h
              · rw [List.mem_singleton.mp h]
                exact hz1
            · rcases List.mem_append.mp hy with h | h
              · exact ga.abc y h
              · rw [List.mem_singleton.mp h, hjl]
                exact hda
            · exact List.nodup_append.mpr ⟨ga.once, by simp, fun a ha b hb e => by
                rw [List.mem_singleton] at hb
                exact hzn (by rw [← hb, ← e]; exact ha)⟩
          · walk_at "rds"
            exact ⟨acc, _, _, _, rfl, k09, hh9, hf9, ho9, ga⟩
        · walk_at "rds"
          exact ⟨acc, _, _, _, rfl, k09, hh9, hf9, ho9, ga⟩
    · obtain ⟨acc, x5, x6, x7, rfl, k5, hh5, hf5, ho5, ga⟩ := hp
      walk_at "rds"
      exact q _ acc _ (by walk_at "kx") (by walk_at "hk") hv ga
end


end K11

namespace K11
open PySem PySem.Spec PyProof.Rows L2
local macro_rules | `(tactic| walk_at "kd") => `(tactic| first | assumption | exact SPD.KdOf.int _ | exact SPD.KdOf.str _ | exact SPD.KdOf.bl _ | exact SPD.KdOf.non | exact SPD.KdOf.same (by assumption) (by walk_at "kd") | exact SPD.KdOf.tup (by walk_at "hp") | exact SPD.KdOf.lst (by walk_at "hp") | fail "no")
local macro_rules | `(tactic| walk_at "ne") => `(tactic| first | assumption | exact Ne.symm (by assumption) | fail "no")
local macro_rules | `(tactic| walk_at "hp") => `(tactic| first | assumption | exact RD.at_same (by assumption) (by walk_at "hp") | exact RD.at_kb (by assumption) (by walk_at "ne") (by walk_at "hp") | fail "no")
local macro_rules | `(tactic| walk_at "sq") => `(tactic| first | assumption | exact Or.inl (Or.inl (by walk_at "hp")) | exact Same.seq (by assumption) (by walk_at "sq") | exact RD.KB.seq (by assumption) (by walk_at "ne") (by walk_at "sq") | fail "no")
local macro_rules | `(tactic| walk_at "st") => `(tactic| first | assumption | exact Or.inl (Or.inl (by walk_at "hp")) | exact RD.Same.tup (by assumption) (by walk_at "st") | exact RD.KB.tup (by assumption) (by walk_at "ne") (by walk_at "st") | fail "no")
local macro_rules | `(tactic| walk_at "rd") => `(tactic| first
  | with_reducible refine RD.c ?_
  | ((with_reducible refine' RD.var ?rdE ?rdK); (case rdE => exact rfl))
  | with_reducible refine RD.op ?_
  | with_reducible refine RD.un ?_
  | with_reducible refine RD.nil ?_
  | with_reducible refine RD.cons ?_
  | with_reducible refine RD.cb ?_
  | with_reducible refine RD.call ?_
  | with_reducible refine RD.test ?_
  | with_reducible refine RD.tb' ?_
  | with_reducible refine RD.bl ?_
  | with_reducible refine RD.and' ?_
  | with_reducible refine RD.or' ?_
  | with_reducible refine RD.not' ?_
  | with_reducible refine RD.andV ?_
  | with_reducible refine RD.orV ?_
  | with_reducible refine RD.notV ?_
  | with_reducible refine RD.ife ?_
  | with_reducible refine RD.sl ?_
  | with_reducible refine RD.part ?_
  | with_reducible refine RD.noPart ?_
  | with_reducible refine RD.partI ?_
  | with_reducible refine RD.rd0 ?_
  | with_reducible refine RD.rdU ?_
  | ((with_reducible refine' RD.rdEq ?rdE ?rdK); (case rdE => rfl))
  | ((with_reducible refine' RD.rdNe ?rdE ?rdK); (case rdE => rfl))
  | ((with_reducible refine' RD.ixL ?rdH ?rdE ?rdK); (case rdH => walk_at "sq"); (case rdE => first | rfl | assumption))
  | ((with_reducible refine' RD.rdI ?rdC ?rdK); (case rdC => first | assumption | (show (0 : Int) < _; first | decide | omega) | exact ⟨by decide, by decide⟩ | exact ⟨by assumption, by assumption⟩ | exact .inr ⟨by decide, by decide⟩ | exact .inl ⟨by decide, by decide⟩ | exact ⟨by decide, by decide, by decide⟩ | exact .inl ⟨by omega, by omega⟩))
  | ((with_reducible refine' RD.setL ?rdH ?rdE ?rdK); (case rdH => walk_at "hp"); (case rdE => rfl); intro $(Lean.mkIdent `H'):ident $(Lean.mkIdent `hk):ident $(Lean.mkIdent `hv):ident)
  | ((with_reducible refine' RD.irng1V ?rdA ?rdB ?rdK); (case rdA => first | decide | omega); (case rdB => first | decide | omega))
  | with_reducible refine RD.int1 ?_
  | with_reducible refine RD.abs1 ?_
  | ((with_reducible refine' RD.len ?rdH ?rdK); (case rdH => first | exact Or.inl (by walk_at "sq") | exact Or.inr (by walk_at "st")))
  | with_reducible refine RD.tup ?_
  | with_reducible refine RD.lst ?_
  | with_reducible refine RD.ite1 ?_
  | with_reducible refine RD.ite0 ?_
  | with_reducible refine RD.ite1n ?_
  | with_reducible refine RD.ite0n ?_
  | with_reducible refine RD.seq ?_
  | with_reducible refine RD.asg ?_
  | with_reducible refine RD.name ?_
  | with_reducible refine RD.ret ?_
  | with_reducible refine RD.drop ?_
  | with_reducible refine RD.next ?_
  | with_reducible refine RD.ifs ?_
  | with_reducible refine RD.par ?_
  | with_reducible refine RD.par2 ?_
  | with_reducible refine RD.sub ?_
  | with_reducible refine RD.gcons ?_
  | with_reducible refine RD.gnil ?_
  | with_reducible refine RD.bm ?_
  | ((with_reducible refine' RD.bmL ?rdH ?rdK); (case rdH => walk_at "sq"))
  | ((with_reducible refine' RD.newZ ?rdH ?rdK); (case rdH => exact RD.sz _); intro $(Lean.mkIdent `p'):ident $(Lean.mkIdent `H'):ident $(Lean.mkIdent `hp):ident $(Lean.mkIdent `hs):ident $(Lean.mkIdent `hv):ident; (try have $(Lean.mkIdent `hn):ident := hand_ne $(Lean.mkIdent `hp):ident (by walk_at "hk")))
  | with_reducible refine RD.fors ?_
  | with_reducible refine RD.lc ?_
  | with_reducible refine RD.yes ?_
  | with_reducible refine RD.ilist ?_
  | ((with_reducible refine' RD.ilistV ?rdH ?rdK); (case rdH => walk_at "sq"))
  | with_reducible refine RD.itup ?_
  | ((with_reducible refine' RD.itupV ?rdH ?rdK); (case rdH => walk_at "st"))
  | with_reducible refine RD.irng1 ?_
  | with_reducible refine RD.irng2 ?_
  | ((with_reducible refine' RD.irng2V ?rdA ?rdK); (case rdA => first | decide | omega))
  | with_reducible refine RD.ienum ?_
  | ((with_reducible refine' RD.ienumV ?rdH ?rdK); (case rdH => walk_at "sq"))
  | with_reducible refine RD.izip ?_
  | ((with_reducible refine' RD.izipV ?rdH ?rdE ?rdK); (case rdH => walk_at "sq"); (case rdE => walk_at "sq"))
  | with_reducible refine SPD.izipA ?_
  | with_reducible refine RD.istr ?_
  | with_reducible refine RD.istrV ?_
  | ((with_reducible refine' RD.slL ?rdH ?rdK); (case rdH => walk_at "sq"); intro $(Lean.mkIdent `p'):ident $(Lean.mkIdent `H'):ident $(Lean.mkIdent `hp):ident $(Lean.mkIdent `hs):ident $(Lean.mkIdent `hv):ident; (try have $(Lean.mkIdent `hn):ident := hand_ne $(Lean.mkIdent `hp):ident (by walk_at "hk")))
  | ((with_reducible refine' RD.cat ?rdH ?rdE ?rdZ ?rdK); (case rdH => walk_at "hp"); (case rdE => walk_at "hp"); (case rdZ => exact RD.sz _); intro $(Lean.mkIdent `p'):ident $(Lean.mkIdent `H'):ident $(Lean.mkIdent `hp):ident $(Lean.mkIdent `hs):ident $(Lean.mkIdent `hv):ident; (try have $(Lean.mkIdent `hn):ident := hand_ne $(Lean.mkIdent `hp):ident (by walk_at "hk")))
  | ((with_reducible refine' RD.gtup ?rdH ?rdE ?rdK); (case rdH => walk_at "st"); (case rdE => rfl))
  | ((with_reducible refine' RD.app ?rdH ?rdZ ?rdK); (case rdH => walk_at "hp"); (case rdZ => first | assumption | (apply RD.szl; omega)); intro $(Lean.mkIdent `H'):ident $(Lean.mkIdent `hk):ident $(Lean.mkIdent `hv):ident)
  | ((with_reducible refine' RD.all1 ?rdH ?rdK); (case rdH => walk_at "sq"))
  | ((with_reducible refine' RD.any1 ?rdH ?rdK); (case rdH => walk_at "sq"))
  | ((with_reducible refine' SPD.dnew ?rdK); intro $(Lean.mkIdent `p'):ident $(Lean.mkIdent `H'):ident $(Lean.mkIdent `hp):ident $(Lean.mkIdent `hs):ident $(Lean.mkIdent `hv):ident; (try have $(Lean.mkIdent `hn):ident := hand_ne $(Lean.mkIdent `hp):ident (by walk_at "hk")))
  | ((with_reducible refine' SPD.disp1 ?rdK); intro $(Lean.mkIdent `p'):ident $(Lean.mkIdent `H'):ident $(Lean.mkIdent `hp):ident $(Lean.mkIdent `hs):ident $(Lean.mkIdent `hv):ident; (try have $(Lean.mkIdent `hn):ident := hand_ne $(Lean.mkIdent `hp):ident (by walk_at "hk")))
  | ((with_reducible refine' SPD.isSeq ?rdH ?rdE ?rdK); (case rdH => walk_at "hp"); (case rdE => walk_at "kd"))
  | ((with_reducible refine' SPD.isTup ?rdE ?rdK); (case rdE => walk_at "kd"))
  | ((with_reducible refine' SPD.isLst ?rdE ?rdK); (case rdE => walk_at "kd"))
  | ((with_reducible refine' SPD.isBool ?rdE ?rdK); (case rdE => walk_at "kd"))
  | ((with_reducible refine' SPD.isStr ?rdE ?rdK); (case rdE => walk_at "kd"))
  | ((with_reducible refine' SPD.isInt ?rdE ?rdK); (case rdE => walk_at "kd"))
  | dsimp only)
local macro_rules | `(tactic| walk_at "rds") => `(tactic| repeat walk_at "rd")
local macro_rules | `(tactic| walk_at "sm") => `(tactic| first | assumption | exact Same.refl _ | exact RD.sm_tr (by assumption) (by walk_at "sm") | fail "no")
local macro_rules | `(tactic| walk_at "kb") => `(tactic| first | assumption | exact RD.KB.refl | exact RD.kb_tr (by assumption) (by walk_at "kb") | exact RD.kb_trs (by assumption) (by walk_at "kb") | fail "no")
local macro_rules | `(tactic| walk_at "fr") => `(tactic| first | assumption | exact RD.fr_of (by assumption) (by walk_at "sm") | fail "no")
local macro_rules | `(tactic| walk_at "hk") => `(tactic| first | assumption | exact hand_same (by assumption) (by walk_at "hk") | exact hand_kb (by assumption) (by walk_at "fr") (by walk_at "hk") | fail "no")
local macro_rules | `(tactic| walk_at "na") => `(tactic| first | assumption | exact hand_ne (by assumption) (by walk_at "hk") | fail "no")
local macro_rules | `(tactic| walk_at "dqa") => `(tactic| first | exact SPD.DqA.nil | exact SPD.DqA.cons (by walk_at "dq") (by walk_at "dqa") | exact SPD.DqA.app (by walk_at "dqa") (by walk_at "dqa") | fail "no")
local macro_rules | `(tactic| walk_at "dq") => `(tactic| first | assumption | exact SPD.Dq.leaf rfl | exact SPD.dq_kb (by assumption) (by walk_at "kb") | exact SPD.dqTup (by walk_at "hp") (by walk_at "na") (by walk_at "dqa") | exact SPD.dqLst (by walk_at "hp") (by walk_at "na") (by walk_at "dqa") | exact SPD.dqNil (by walk_at "hp") (by walk_at "na") (by first | decide | simp) (by first | decide | simp) | fail "no")

local macro_rules | `(tactic| walk_at "rd") => `(tactic| first
  | with_reducible refine RB.chain ?_
  | with_reducible refine RB.m1 ?_
  | with_reducible refine RB.strE ?_
  | with_reducible refine RB.fld ?_
  | with_reducible refine RB.setF ?_
  | with_reducible refine RB.ss ?_
  | with_reducible refine RB.rev ?_
  | with_reducible refine RB.make ?_
  | with_reducible refine RB.makeS ?_
  | with_reducible refine RB.mkO ?_
  | with_reducible refine NR.ienumT ?_
  | with_reducible refine RB.inS ?_
  | with_reducible refine RB.bmS ?_
  | with_reducible refine RB.callS ?_
  | with_reducible refine RB.sw3 ?_
  | with_reducible refine RB.par3 ?_
  | with_reducible refine RB.par3V ?_
  | ((with_reducible refine' RB.slS ?rdH ?rdK); (case rdH => walk_at "sz"))
  | with_reducible refine RB.xf ?_
  | ((with_reducible refine' RB.xfV ?rdH ?rdE ?rdK); (case rdH => walk_at "hp"); (case rdE => rfl))
  | ((with_reducible refine' NR.ienumTV ?rdH ?rdK); (case rdH => walk_at "st"))
  | ((with_reducible refine' RB.lenL ?rdH ?rdK); (case rdH => walk_at "sq"))
  | ((with_reducible refine' RB.lenT ?rdH ?rdK); (case rdH => walk_at "st"))
  | ((with_reducible refine' RB.lenS ?rdH ?rdK); (case rdH => walk_at "sz"))
  | ((with_reducible refine' RD.lenS ?rdH ?rdK); (case rdH => walk_at "sz"))
  | ((with_reducible refine' RB.slT ?rdH ?rdK); (case rdH => walk_at "hp"); intro $(Lean.mkIdent `p'):ident $(Lean.mkIdent `H'):ident $(Lean.mkIdent `hs):ident $(Lean.mkIdent `hv):ident $(Lean.mkIdent `hp):ident; (try have $(Lean.mkIdent `hn):ident := two_ne $(Lean.mkIdent `hp):ident (by walk_at "na") (by walk_at "hk")))
  | ((with_reducible refine' RB.revV ?rdH ?rdK); (case rdH => walk_at "st"); intro $(Lean.mkIdent `p'):ident $(Lean.mkIdent `H'):ident $(Lean.mkIdent `hp):ident $(Lean.mkIdent `hs):ident $(Lean.mkIdent `hv):ident; (try have $(Lean.mkIdent `hn):ident := hand_ne $(Lean.mkIdent `hp):ident (by walk_at "hk")))
  | ((with_reducible refine' RB.listS ?rdH ?rdK); (case rdH => walk_at "sz"); intro $(Lean.mkIdent `p'):ident $(Lean.mkIdent `H'):ident $(Lean.mkIdent `hp):ident $(Lean.mkIdent `hs):ident $(Lean.mkIdent `hv):ident; (try have $(Lean.mkIdent `hn):ident := hand_ne $(Lean.mkIdent `hp):ident (by walk_at "hk")))
  | ((with_reducible refine' RB.listO ?rdH ?rdK); (case rdH => first | exact Or.inl (by walk_at "sq") | exact Or.inr (by walk_at "st")); intro $(Lean.mkIdent `p'):ident $(Lean.mkIdent `H'):ident $(Lean.mkIdent `hp):ident $(Lean.mkIdent `hs):ident $(Lean.mkIdent `hv):ident; (try have $(Lean.mkIdent `hn):ident := hand_ne $(Lean.mkIdent `hp):ident (by walk_at "hk")))
  | ((with_reducible refine' RB.tupL ?rdH ?rdK); (case rdH => walk_at "sq"); intro $(Lean.mkIdent `p'):ident $(Lean.mkIdent `H'):ident $(Lean.mkIdent `hp):ident $(Lean.mkIdent `hs):ident $(Lean.mkIdent `hv):ident; (try have $(Lean.mkIdent `hn):ident := hand_ne $(Lean.mkIdent `hp):ident (by walk_at "hk")))
  | ((with_reducible refine' RB.catT ?rdH ?rdE ?rdZ ?rdK); (case rdH => walk_at "hp"); (case rdE => walk_at "hp"); (case rdZ => exact RB.LN.sum (by walk_at "ln") (by walk_at "ln") rfl); intro $(Lean.mkIdent `p'):ident $(Lean.mkIdent `H'):ident $(Lean.mkIdent `hs):ident $(Lean.mkIdent `hv):ident $(Lean.mkIdent `hp):ident; (try have $(Lean.mkIdent `hn):ident := three_ne $(Lean.mkIdent `hp):ident (by walk_at "na") (by walk_at "na") (by walk_at "hk")))
  | fail "no")
local macro_rules | `(tactic| walk_at "ln") => `(tactic| first | with_reducible assumption | exact RB.LN.cut (by walk_at "ln") | exact RB.LN.app (by walk_at "ln") (by walk_at "ln") | exact RB.LN.rev (by walk_at "ln") | exact RB.LN.rep (by walk_at "ln") | exact RB.LN.lit rfl | fail "no")
local macro_rules | `(tactic| walk_at "sz") => `(tactic| first | assumption | exact RD.sz _ | fail "no")

local macro_rules | `(tactic| walk_at "hp") => `(tactic| first | assumption | exact RD.at_same (by assumption) (by walk_at "hp") | exact SPE.at_kx (by assumption) (by walk_at "na") (by walk_at "hp") | exact RD.at_kb (by assumption) (by walk_at "ne") (by walk_at "hp") | fail "no")
local macro_rules | `(tactic| walk_at "sq") => `(tactic| first | assumption | exact Or.inl (Or.inl (by walk_at "hp")) | exact Same.seq (by assumption) (by walk_at "sq") | exact SPE.KX.seq (by assumption) (by walk_at "na") (by walk_at "sq") | exact RD.KB.seq (by assumption) (by walk_at "ne") (by walk_at "sq") | fail "no")
local macro_rules | `(tactic| walk_at "st") => `(tactic| first | assumption | exact Or.inl (Or.inl (by walk_at "hp")) | exact RD.Same.tup (by assumption) (by walk_at "st") | exact SPE.KX.tup (by assumption) (by walk_at "na") (by walk_at "st") | exact RD.KB.tup (by assumption) (by walk_at "ne") (by walk_at "st") | fail "no")
local macro_rules | `(tactic| walk_at "kx") => `(tactic| first | assumption | exact SPE.KX.refl | exact SPE.kx_tr (by assumption) (by walk_at "kx") | exact SPE.kx_trs (by assumption) (by walk_at "kx") | fail "no")
local macro_rules | `(tactic| walk_at "dqa") => `(tactic| first | exact SPE.DqA.nil | exact SPE.DqA.cons (by walk_at "dq") (by walk_at "dqa") | exact SPE.DqA.app (by walk_at "dqa") (by walk_at "dqa") | fail "no")
local macro_rules | `(tactic| walk_at "dq") => `(tactic| first | assumption | exact SPE.Dq.leaf rfl | exact SPE.dq_kx (by assumption) (by walk_at "kx") | exact SPE.dqTup (by walk_at "hp") (by walk_at "na") (by walk_at "dqa") | exact SPE.dqLst (by walk_at "hp") (by walk_at "na") (by walk_at "dqa") | exact SPE.dqNil (by walk_at "hp") (by walk_at "na") (by first | decide | simp) (by first | decide | simp) | fail "no")
local macro_rules | `(tactic| walk_at "dqx") => `(tactic| first | exact $(Lean.mkIdent `hdb):ident _ (by walk_at "kx") | exact SPE.DqA.cons (SPE.dq_kx (by assumption) (by walk_at "kx")) SPE.DqA.nil | exact SPE.DqA.cons (SPE.Dq.leaf rfl) SPE.DqA.nil | exact SPE.DqA.nil | (with_reducible refine SPE.dqa_cut ?_; walk_at "dqx") | (with_reducible refine SPE.dqa_rev ?_; walk_at "dqx") | (with_reducible refine SPE.DqA.app ?_ ?_ <;> walk_at "dqx") | fail "no")
local macro_rules | `(tactic| walk_at "dqz") => `(tactic| first | exact SPE.dqTupN (by walk_at "hp") (by walk_at "na") (by walk_at "dqx") (by walk_at "ln") rfl | exact SPE.dqLstN (by walk_at "hp") (by walk_at "na") (by walk_at "dqx") (by walk_at "ln") rfl | fail "no")
local macro_rules | `(tactic| walk_at "rd") => `(tactic| first
  | with_reducible refine SPE.revs ?_
  | ((with_reducible refine' SPE.revsV ?rdH ?rdK); (case rdH => walk_at "sz"))
  | ((with_reducible refine' SPE.sum1 ?rdH ?rdK); (case rdH => walk_at "sq"))
  | fail "no")

local macro_rules | `(tactic| walk_at "rd") => `(tactic| first
  | ((with_reducible refine' RB.listO ?rdH ?rdK); (case rdH => exact Or.inr (by walk_at "st")); intro $(Lean.mkIdent `p'):ident $(Lean.mkIdent `H'):ident $(Lean.mkIdent `hp):ident $(Lean.mkIdent `hs):ident $(Lean.mkIdent `hv):ident; (try have $(Lean.mkIdent `hn):ident := hand_ne $(Lean.mkIdent `hp):ident (by walk_at "hk")))
  | fail "no")

local macro_rules | `(tactic| walk_at "dk") => `(tactic| first | exact FR.rd_of (by walk_at "hp") | exact Or.inr ⟨_, by walk_at "hp"⟩ | fail "no")
local macro_rules | `(tactic| walk_at "rd") => `(tactic| first
  | with_reducible refine FR.dget ?_
  | with_reducible refine FR.din ?_
  | with_reducible refine FR.dnotin ?_
  | with_reducible refine FR.dc ?_
  | with_reducible refine FR.ikeys ?_
  | with_reducible refine FR.ivals ?_
  | with_reducible refine FR.bm0 ?_
  | ((with_reducible refine' FR.dinS ?rdH ?rdK); (case rdH => walk_at "dk"))
  | ((with_reducible refine' FR.keysV ?rdH ?rdK); (case rdH => walk_at "hp"))
  | ((with_reducible refine' FR.valsV ?rdH ?rdK); (case rdH => walk_at "hp"))
  | ((with_reducible refine' FR.bmD ?rdH ?rdK); (case rdH => walk_at "hp"))
  | with_reducible refine FR.ckw ?_
  | ((with_reducible refine' FR.lenD ?rdH ?rdK); (case rdH => walk_at "hp"))
  | fail "no")

/-! ### letters called otherwise -/
/-- the new names, by the own letters -/
def nameOf (cs ns : List Nat) (c : Nat) : Nat := (ns[cs.idxOf c]?).getD 0
def mapS (cs ns : List Nat) (z : Str) : Str := ⟨(z.cps.toList.map (nameOf cs ns)).toArray⟩
def kvsOf (cs ns : List Nat) : List (Key × V) := (cs.zip ns).map fun p => (Sum.inr (⟨#[p.1]⟩ : Str), V.str ⟨#[p.2]⟩)
theorem valV_of {cs ns : List Nat} (h : cs.length = ns.length) {c : Nat} (hc : c ∈ cs) : valV (kvsOf cs ns) (Sum.inr (⟨#[c]⟩ : Str)) = some (.str ⟨#[nameOf cs ns c]⟩) := by
  induction cs generalizing ns with
  | nil => cases hc
  | cons a cs ih =>
    cases ns with
    | nil => cases h
    | cons n ns =>
      by_cases e : a = c
      · subst e
        show valV ((Sum.inr (⟨#[a]⟩ : Str), V.str ⟨#[n]⟩) :: _) _ = _
        rw [valV_pos rfl]
        unfold nameOf
        rw [List.idxOf_cons_self]
        rfl
      · have hc2 : c ∈ cs := by
          rcases List.mem_cons.mp hc with e2 | e2
          · exact absurd e2.symm e
          · exact e2
        have ih := ih (ns := ns) (by simpa using h) hc2
        have ek : (Sum.inr (⟨#[a]⟩ : Str) : Key) ≠ Sum.inr (⟨#[c]⟩ : Str) := fun z => e (by
          have z := Sum.inr.inj z
          have := congrArg (fun s : Str => s.cps.toList) z
          simpa using this)
        have e3 : valV (kvsOf (a :: cs) (n :: ns)) (Sum.inr (⟨#[c]⟩ : Str)) = valV (kvsOf cs ns) (Sum.inr (⟨#[c]⟩ : Str)) := by
          unfold valV kvsOf
          rw [List.zip_cons_cons, List.map_cons, List.find?_cons]
          simp only [ek, decide_false]
        rw [e3, ih]
        unfold nameOf
        have ei : (a :: cs).idxOf c = cs.idxOf c + 1 := by
          rw [List.idxOf_cons, show (a == c) = false by simpa using e]
          rfl
        rw [ei]
        rfl
theorem nameOf_mem {cs ns : List Nat} (h : cs.length = ns.length) {c : Nat} (hc : c ∈ cs) : nameOf cs ns c ∈ ns := by
  have hi := List.idxOf_lt_length_of_mem hc
  unfold nameOf
  rw [List.getElem?_eq_getElem (by omega)]
  exact List.getElem_mem _
theorem nameOf_inj {cs ns : List Nat} (h : cs.length = ns.length) (hn : ns.Nodup) {a b : Nat} (ha : a ∈ cs) (hb : b ∈ cs) (e : nameOf cs ns a = nameOf cs ns b) : a = b := by
  have hi := List.idxOf_lt_length_of_mem ha
  have hj := List.idxOf_lt_length_of_mem hb
  unfold nameOf at e
  rw [List.getElem?_eq_getElem (by omega), List.getElem?_eq_getElem (by omega)] at e
  have e : ns[cs.idxOf a] = ns[cs.idxOf b] := e
  have e2 : cs.idxOf a = cs.idxOf b := (List.getElem_inj hn).mp e
  have e3 : cs[cs.idxOf a] = cs[cs.idxOf b] := by simp only [e2]
  rwa [List.getElem_idxOf, List.getElem_idxOf] at e3
theorem mapS_inj {cs ns : List Nat} (h : cs.length = ns.length) (hn : ns.Nodup) {y z : Str} (hy : ∀ c, c ∈ y.cps.toList → c ∈ cs) (hz : ∀ c, c ∈ z.cps.toList → c ∈ cs) (e : mapS cs ns y = mapS cs ns z) : y = z := by
  have e : y.cps.toList.map (nameOf cs ns) = z.cps.toList.map (nameOf cs ns) := by
    have := congrArg (fun s : Str => s.cps.toList) e
    simpa [mapS] using this
  refine str_ext ?_
  generalize y.cps.toList = a at hy e
  generalize z.cps.toList = b at hz e
  induction a generalizing b with
  | nil => cases b with
    | nil => rfl
    | cons _ _ => cases e
  | cons p a ih =>
    cases b with
    | nil => cases e
    | cons q b =>
      rw [List.map_cons, List.map_cons] at e
      injection e with e1 e2
      rw [nameOf_inj h hn (hy p List.mem_cons_self) (hz q List.mem_cons_self) e1, ih (fun c hc => hy c (List.mem_cons_of_mem _ hc)) _ (fun c hc => hz c (List.mem_cons_of_mem _ hc)) e2]
theorem take_succ_kv {cs ns : List Nat} {i c n : Nat} (hc : cs[i]? = some c) (hn : ns.length = i) (nd : cs.Nodup) : putK (kvsOf (cs.take i) ns) (Sum.inr (⟨#[c]⟩ : Str)) (V.str ⟨#[n]⟩) = kvsOf (cs.take (i + 1)) (ns ++ [n]) := by
  have hi := (List.getElem?_eq_some_iff.mp hc).1
  have hno : c ∉ cs.take i := fun hm => by
    obtain ⟨j, hj, e⟩ := List.mem_iff_getElem.mp hm
    rw [List.length_take] at hj
    rw [List.getElem_take] at e
    have e2 := (List.getElem?_eq_some_iff.mp hc).2
    have := (List.getElem_inj (h₀ := by omega) (h₁ := hi) nd).mp (e.trans e2.symm)
    omega
  have hany : ((kvsOf (cs.take i) ns).any fun kv => decide (kv.1 = (Sum.inr (⟨#[c]⟩ : Str) : Key))) = false := by
    rw [List.any_eq_false]
    intro kv hkv
    unfold kvsOf at hkv
    obtain ⟨⟨a, b⟩, hp, rfl⟩ := List.mem_map.mp hkv
    have ha : a ∈ cs.take i := (List.of_mem_zip hp).1
    simp only [decide_eq_true_eq]
    intro e
    have e := Sum.inr.inj e
    have e : a = c := by
      have := congrArg (fun s : Str => s.cps.toList) e
      simpa using this
    exact hno (e ▸ ha)
  unfold putK
  rw [hany, if_neg (by decide)]
  unfold kvsOf
  rw [List.take_add_one, hc, List.zip_append (by rw [List.length_take]; omega), List.map_append]
  rfl
theorem erase_map {α β : Type} (f : α → β) : ∀ (l : List α) (k : Nat), (l.map f).eraseIdx k = (l.eraseIdx k).map f
  | [], _ => rfl
  | _ :: _, 0 => rfl
  | a :: l, k + 1 => by
    show f a :: (l.map f).eraseIdx k = f a :: (l.eraseIdx k).map f
    rw [erase_map f l k]
theorem erase_perm {α : Type} : ∀ {l : List α} {k : Nat} (h : k < l.length), (l[k] :: l.eraseIdx k).Perm l
  | a :: l, 0, _ => List.Perm.refl _
  | a :: l, k + 1, h => (List.Perm.swap _ _ _).trans ((erase_perm (l := l) (k := k) (by simpa using h)).cons a)
theorem pieceB_of {z : Str} (h1 : 1 ≤ z.cps.size) (h8 : z.cps.size ≤ 8) (hl : ∀ c, c ∈ z.cps.toList → c ∈ lets) : pieceB z = true := by
  unfold pieceB logB
  rw [Bool.and_eq_true, Bool.and_eq_true]
  exact ⟨List.all_eq_true.mpr fun c hc => decide_eq_true (hl c hc), decide_eq_true h1, decide_eq_true h8⟩
theorem le3 : ∀ cs : List Nat, cs.Nodup → (∀ c, c ∈ cs → c ∈ abc) → cs.length ≤ 3
  | [], _, _ => by simp
  | [_], _, _ => by simp
  | [_, _], _, _ => by simp
  | [_, _, _], _, _ => by simp
  | a :: b :: c :: d :: r, nd, h => by
    exfalso
    have ha := h a (by simp)
    have hb := h b (by simp)
    have hc := h c (by simp)
    have hd := h d (by simp)
    simp only [abc, List.mem_cons, List.not_mem_nil, or_false] at ha hb hc hd
    simp only [List.nodup_cons, List.mem_cons, not_or] at nd
    obtain ⟨⟨n1, n2, n3, _⟩, ⟨n4, n5, _⟩, ⟨n6, _⟩, _⟩ := nd
    omega
theorem kx_free {x : SPE.AX} {H H' : Hp} {p : Addr} (k : SPE.KX x H H') (o : SPE.Off p x) (n : H' p = none) : H p = none := by
  cases e : H p with
  | none => rfl
  | some u =>
    rw [k _ _ o e] at n
    cases n
theorem revS_list (z : Str) : (SPE.revS z).cps.toList = z.cps.toList.reverse := rfl
theorem revS_size (z : Str) : (SPE.revS z).cps.size = z.cps.size := by
  rw [← Array.length_toList, revS_list, List.length_reverse, Array.length_toList]
theorem good_rev {ws : List Str} (g : Good ws) : Good (ws.map SPE.revS) := by
  refine ⟨by rw [List.length_map]; exact g.some, by rw [List.length_map]; exact g.few, fun z hz => ?_, ?_⟩
  · obtain ⟨y, hy, rfl⟩ := List.mem_map.mp hz
    have hp := g.piece y hy
    have hs := piece_size hp
    refine pieceB_of (by rw [revS_size]; exact hs.1) (by rw [revS_size]; exact hs.2) fun c hc => ?_
    rw [revS_list, List.mem_reverse] at hc
    unfold pieceB logB at hp
    rw [Bool.and_eq_true] at hp
    exact of_decide_eq_true (List.all_eq_true.mp hp.1 c hc)
  · refine List.pairwise_map.mpr (g.once.imp fun {a b} hab e => hab (str_ext ?_))
    have := congrArg (fun s : Str => s.cps.toList) e
    simp only [revS_list] at this
    exact List.reverse_inj.mp this
theorem good_perm {rs ws : List Str} (p : rs.Perm ws) (g : Good ws) : Good rs :=
  ⟨by rw [p.length_eq]; exact g.some, by rw [p.length_eq]; exact g.few, fun z hz => g.piece z (p.mem_iff.mp hz), p.nodup_iff.mpr g.once⟩
def spNamed : Sp := fun vs H Q _ => ∃ (x : SPE.AX) (t : Addr) (zs : List Str), vs = [.ref x.1, .ref t] ∧ BagOk H x ∧ H t = some (.tup (zs.map V.str)) ∧ RawB zs ∧
  ∀ (u : Addr) (ws : List Str) H', SPE.KX x H H' → BagOk H' x → H' u = some (.tup (ws.map V.str)) → Good ws → Q (.ref u) H'
section
variable {P : Program} {w : World} {K : PySem.W.Frag} {mg : Str → Option Value} {base : Heap}
theorem ok_named (T : Txt P K mg) : FnOk P w K mg base CX0 3 T.a_named T.fd_named ["_law_bag_here", "_law_pieces"] spNamed := by
  have nd := sc_named.nd
  have G_pick : FnOk P w K mg base CX0 2 T.a_pick T.fd_pick ["_law_bag_here", "_law_many"] spPick := (ok_pick T).mono (by decide)
  refine T.F_named.ok sc_named (fun vs H Q E h => ?_) (fun cdv A outer s H vs Q E hr h => ?_)
  · obtain ⟨x, t, zs, rfl, _⟩ := h
    rfl
  · obtain ⟨x, t, zs, rfl, hh, ht, g, q⟩ := h
    refine ⟨_, (pss_cons (ps_asg (pe_tup (pa_cons (pe_callTy (RB.call_listS rfl) (by rfl) T.m_list (by decide +kernel) (pa_cons pe_str pa_nil)) (pa_cons pe_dnewK pa_nil))) (pg_tup rfl (pgs_cons (pg_name (i := 2) nd rfl (by first | exact Or.inl rfl | exact Or.inr rfl)) (pgs_cons (pg_name (i := 3) nd rfl (by first | exact Or.inl rfl | exact Or.inr rfl)) pgs_nil))))
  (pss_cons (ps_for PassesOwn.never rfl (pi_list (SST.pe_ss (by rfl) T.m_sorted (by rfl) T.m_set (pe_join pe_str (pv 1)))) (pg_name (i := 4) nd rfl (by first | exact Or.inl rfl | exact Or.inr rfl))
    (pss_one (ps_asg (pe_bm PySem.F.plainAttrs_list PySem.F.slot_list_pop PySem.F.type_list_pop mt_popAt (pv 2) (pa_cons (pe_call G_pick hr (by rfl) T.g_pick T.F_pick.kp T.b_pick .nil pass0 (pa_cons (pv 0) (pa_cons (pe_ifExp (pt_cmpR op_gt (pe_call G_pick hr (by rfl) T.g_pick T.F_pick.kp T.b_pick .nil pass0 (pa_cons (pv 0) (pa_cons pe_int pa_nil))) pe_int (nomark _)) pe_int (pe_callB call_len_seq (by rfl) T.m_len PySem.boot_len (pa_cons (pv 2) pa_nil))) pa_nil))) pa_nil)) (pg_sub (pv 3) (pv 4) (set_dict (SPE.room1 hr))))))
  (pss_cons (ps_setLc (i := 5) (own := [("_law_piece", 8)]) (g := (gName 8)) rfl nd rfl rfl (sw_true rfl rfl rfl (by decide +kernel)) (pi_tup (pv 1)) (blkOk_by (own := [("_law_piece", 8)]) (N := N_named) (sc := defScope s_named) (by decide +kernel)) (fun _ _ _ _ _ => (pg_name (i := 8) nd rfl (Or.inl rfl))) (fun _ _ _ _ _ => pts_nil) (fun _ _ _ _ _ => (SPE.pe_joinK (K := K) rfl pe_str (pe_lc (own := [("_law_letter", 4)]) (g := (gName 4)) rfl nd (pi_str (pv 8)) (blkOk_by (own := [("_law_letter", 4)]) (N := N_named) (sc := { kind := .function, names := [(".0", .local), ("_law_piece", .local), ("_law_names", .cell)], isGenerator := false, isCoroutine := false }) (by decide +kernel)) (fun _ _ _ _ _ => (pg_name (i := 4) nd rfl (Or.inl rfl))) (fun _ _ _ _ _ => pts_nil) (fun _ _ _ _ _ => (pe_dget (SPE.room1 hr) (pv 3) (pv 4) (fun _ _ => rfl)))))))
  (Evl.pss_cut (ps_if (pt_cmpR op_eq (pe_call G_pick hr (by rfl) T.g_pick T.F_pick.kp T.b_pick .nil pass0 (pa_cons (pv 0) (pa_cons pe_int pa_nil))) pe_int (nomark _))
    (pss_one (ps_setLc (i := 5) (own := [("_law_piece", 8)]) (g := (gName 8)) rfl nd rfl rfl (sw_true rfl rfl rfl (by decide +kernel)) (pi_list (pv 5)) (blkOk_by (own := [("_law_piece", 8)]) (N := N_named) (sc := defScope s_named) (by decide +kernel)) (fun _ _ _ _ _ => (pg_name (i := 8) nd rfl (Or.inl rfl))) (fun _ _ _ _ _ => pts_nil) (fun _ _ _ _ _ => (SPE.pe_revS (pv 8)))))
    pss_nil)
  (pss_cons (ps_set (i := 6) nd rfl (by first | exact Or.inl rfl | exact Or.inr rfl) (pe_lst pa_nil))
  (pss_cons (ps_for PassesOwn.never rfl (pi_range1 (by rfl) T.m_range (pa_cons (pe_callB call_len_seq (by rfl) T.m_len PySem.boot_len (pa_cons (pv 5) pa_nil)) pa_nil)) (pg_name (i := 7) nd rfl (by first | exact Or.inl rfl | exact Or.inr rfl))
    (pss_one (ps_expr (pe_bm PySem.F.plainAttrs_list PySem.F.slot_list_append PySem.F.type_list_append mt_append (pv 6) (pa_cons (pe_bm PySem.F.plainAttrs_list PySem.F.slot_list_pop PySem.F.type_list_pop mt_popAt (pv 5) (pa_cons (pe_call G_pick hr (by rfl) T.g_pick T.F_pick.kp T.b_pick .nil pass0 (pa_cons (pv 0) (pa_cons (pe_callB call_len_seq (by rfl) T.m_len PySem.boot_len (pa_cons (pv 5) pa_nil)) pa_nil))) pa_nil)) pa_nil)))))
  (pss_one (ps_ret (pe_callTy RB.call_tupO (by rfl) T.m_tuple (by decide +kernel) (pa_cons (pv 6) pa_nil)))))))))), ?_⟩
    have hsum := g.sum
    have hpos := g.pos
    have hl8 : ("abcdefgh" : Str).cps.size ≤ sizeLine := by
      rw [sizeLine_eq]
      decide
    walk_at "rds"
    rename_i lf G1 q1 e1 v1 o1 nm G2 q2 e2 v2 o2
    have s03 := e1.trans (e2.trans hs)
    have hlf := hs _ _ (e2 _ _ v1)
    have hnm := hs _ _ v2
    have nln : nm ≠ lf := (ne_of_none v1 q2).symm
    have nlt : lf ≠ t := (ne_of_none ht q1).symm
    have nnt : nm ≠ t := (ne_of_none (e1 _ _ ht) q2).symm
    have hh3 := hh.same s03
    have ht3 := s03 _ _ ht
    have hnlf : H lf = none := q1
    have hnnm : H nm = none := e1.free q2
    clear e1 e2 v1 v2 q1 q2 hv hs hp hn
    generalize H' = H3 at s03 hlf hnm hh3 ht3 ⊢
    refine RB.joinV (.inr (.inl (.inl ht3))) (by show _ + _ * 0 ≤ _; omega) ?_
    refine RB.ssV (by rw [join_size]; omega) fun ys o H4 ho hpo s4 hvo => ?_
    obtain ⟨cs, rfl, hnd, hcs⟩ := own_signs ho
    have habc : ∀ c, c ∈ cs → c ∈ abc := fun c hc => by
      have := (hcs c).mp hc
      rw [join_cps] at this
      obtain ⟨l, hl, hcl⟩ := List.mem_flatten.mp this
      obtain ⟨y, hy, rfl⟩ := List.mem_map.mp hl
      exact g.abc y hy c hcl
    have hall : ∀ z, z ∈ zs → ∀ c, c ∈ z.cps.toList → c ∈ cs := fun z hz c hc => (hcs c).mpr (by
      rw [join_cps]
      exact List.mem_flatten.mpr ⟨_, List.mem_map.mpr ⟨z, hz, rfl⟩, hc⟩)
    have hc3 := le3 cs hnd habc
    have hh4 := hh3.same s4
    have oo : SPE.Off o x := hand_ne hpo hh3
    have hlf4 := s4 _ _ hlf
    have hnm4 := s4 _ _ hnm
    have ht4 := s4 _ _ ht3
    have nol : lf ≠ o := ne_of_none hlf hpo
    have non : nm ≠ o := ne_of_none hnm hpo
    have k04 : SPE.KX x H H4 := SPE.kx_of (s03.trans s4)
    have kx_t : ∀ {H1 H2 : Hp}, SPE.KX x H1 H2 → BagOk H1 x → ∀ a xs, H1 a = some (.tup xs) → H2 a = some (.tup xs) := fun k hh a xs e => k a _ (hh.tupOff e) e
    clear hlf hnm ht3 hh3 s03 s4 hpo ho hcs
    walk_at "rds"
    have hlz : ("abcdefgh" : Str).cps.toList = lets := rfl
    rw [hlz] at hlf4
    refine RD.forW (walk_list (xs := (cs.map fun c => (⟨#[c]⟩ : Str)).map V.str)) (fun i σ H' => ∃ (ns ls : List Nat) (x4 x5 x6 x7 x8 : Option V), σ = [some (.ref x.1), some (.ref t), some (.ref lf), some (.ref nm), x4, x5, x6, x7, x8] ∧ SPE.KX x H H' ∧ BagOk H' x ∧ H' t = some (.tup (zs.map V.str)) ∧
      H' o = some (.lst ((cs.map fun c => (⟨#[c]⟩ : Str)).map V.str)) ∧ H' lf = some (.lst (ls.map fun c => V.str (⟨#[c]⟩ : Str))) ∧ H' nm = some (.dK (kvsOf (cs.take i) ns)) ∧ ns.length = i ∧ (ns ++ ls).Perm lets) ⟨[], lets, _, _, _, _, _, rfl, k04, hh4, ht4, hvo, hlf4, hnm4, rfl, List.Perm.refl _⟩ (fun i σ H' _ ⟨_, _, _, _, _, _, _, _, _, _, _, h, _⟩ => .inl (.inl h)) (fun i v σ H5 H6 hi hp hy => ?_) (fun σ H5 hp => ?_)
    · obtain ⟨ns, ls, x4, x5, x6, x7, x8, rfl, k5, hh5, ht5, ho5, hlf5, hnm5, hnl, hperm⟩ := hp
      obtain ⟨rfl, hx⟩ := hy
      rw [List.map_map, List.getElem?_map] at hx
      obtain ⟨c, hc, rfl⟩ := Option.map_eq_some_iff.mp hx
      have hi3 : i < cs.length := (List.getElem?_eq_some_iff.mp hc).1
      have hll : ls.length = 8 - i := by
        have := hperm.length_eq
        rw [List.length_append, hnl] at this
        have e8 : lets.length = 8 := rfl
        omega
      clear hlf4 hnm4 ht4 hh4 hvo k04
      walk_at "rds"
      refine spPick.mk (E := E0) hh5 (by decide) (by decide) fun r0 H7 _ _ k7 hh7 => ?_
      have hlf7 := k7 _ _ o1 hlf5
      have hnm7 := k7 _ _ o2 hnm5
      have ho7 := k7 _ _ oo ho5
      have ht7 := kx_t k7 hh5 _ _ ht5
      have k07 := k5.trans k7
      clear hlf5 hnm5 ho5 ht5 k5 k7 hh5
      walk_at "rds"
      refine RD.ite_d (fun _ => ?_) (fun _ => ?_)
      · walk_at "rds"
        refine spPick.mk (E := E0) hh7 (by decide) (by decide) fun r H8 hr0 hr1 k8 hh8 => ?_
        · have hr1 : r < (ls.length : Int) := by omega
          obtain ⟨k, rfl⟩ : ∃ k : Nat, r = (k : Int) := ⟨r.toNat, (Int.toNat_of_nonneg hr0).symm⟩
          have hk : k < ls.length := by omega
          have hlf8 := k8 _ _ o1 hlf7
          have hnm8 := k8 _ _ o2 hnm7
          have ho8 := k8 _ _ oo ho7
          have ht8 := kx_t k8 hh7 _ _ ht7
          have k08 := k07.trans k8
          have hkl : (ls.map fun c => V.str (⟨#[c]⟩ : Str)).length = ls.length := List.length_map ..
          have hix : seqIndex? (k : Int) (ls.map fun c => V.str (⟨#[c]⟩ : Str)).length = some k := by
            unfold seqIndex?
            rw [hkl]
            have e1 : ¬ ((k : Int) < 0) := by omega
            simp [e1, hk]
          walk_at "rds"
          refine SPE.popAt hlf8 ⟨by omega, by omega⟩ hix (by rw [List.getElem?_map, List.getElem?_eq_getElem hk]; rfl) fun H9 k9 h9 => ?_
          walk_at "rds"
          have hnm9 := k9 _ _ nln hnm8
          refine FR.dputS (z := ⟨#[c]⟩) hnm9 (RD.szl (by show (kvsOf _ _).length < _; unfold kvsOf; rw [List.length_map, List.length_zip]; omega)) fun H10 k10 h10 => ?_
          rw [take_succ_kv hc hnl hnd] at h10
          have e9 : ((ls.map fun c => V.str (⟨#[c]⟩ : Str)).eraseIdx k) = (ls.eraseIdx k).map fun c => V.str (⟨#[c]⟩ : Str) := erase_map _ _ _
          rw [e9] at h9
          refine ⟨ns ++ [ls[k]], ls.eraseIdx k, _, _, _, _, _, rfl, ?_, ?_, ?_, ?_, ?_, ?_, ?_, ?_⟩
          · exact SPE.kx_mut k10 (SPE.kx_mut k9 k08 hnlf) hnnm
          · exact (hh8.mut k9 o1).mut k10 o2
          · exact k10 _ _ nnt.symm (k9 _ _ nlt.symm ht8)
          · exact k10 _ _ non.symm (k9 _ _ nol.symm ho8)
          · exact k10 _ _ nln.symm h9
          · exact h10
          · rw [List.length_append, hnl]
            rfl
          · rw [List.append_assoc]
            exact ((erase_perm hk).append_left ns).trans hperm
      · walk_at "rds"
        refine spPick.mk (E := E0) hh7 (by rw [List.length_map]; omega) (by rw [List.length_map]; omega) fun r H8 hr0 hr1 k8 hh8 => ?_
        · have hr1 : r < (ls.length : Int) := by rw [List.length_map] at hr1; exact hr1
          obtain ⟨k, rfl⟩ : ∃ k : Nat, r = (k : Int) := ⟨r.toNat, (Int.toNat_of_nonneg hr0).symm⟩
          have hk : k < ls.length := by omega
          have hlf8 := k8 _ _ o1 hlf7
          have hnm8 := k8 _ _ o2 hnm7
          have ho8 := k8 _ _ oo ho7
          have ht8 := kx_t k8 hh7 _ _ ht7
          have k08 := k07.trans k8
          have hkl : (ls.map fun c => V.str (⟨#[c]⟩ : Str)).length = ls.length := List.length_map ..
          have hix : seqIndex? (k : Int) (ls.map fun c => V.str (⟨#[c]⟩ : Str)).length = some k := by
            unfold seqIndex?
            rw [hkl]
            have e1 : ¬ ((k : Int) < 0) := by omega
            simp [e1, hk]
          walk_at "rds"
          refine SPE.popAt hlf8 ⟨by omega, by omega⟩ hix (by rw [List.getElem?_map, List.getElem?_eq_getElem hk]; rfl) fun H9 k9 h9 => ?_
          walk_at "rds"
          have hnm9 := k9 _ _ nln hnm8
          refine FR.dputS (z := ⟨#[c]⟩) hnm9 (RD.szl (by show (kvsOf _ _).length < _; unfold kvsOf; rw [List.length_map, List.length_zip]; omega)) fun H10 k10 h10 => ?_
          rw [take_succ_kv hc hnl hnd] at h10
          have e9 : ((ls.map fun c => V.str (⟨#[c]⟩ : Str)).eraseIdx k) = (ls.eraseIdx k).map fun c => V.str (⟨#[c]⟩ : Str) := erase_map _ _ _
          rw [e9] at h9
          refine ⟨ns ++ [ls[k]], ls.eraseIdx k, _, _, _, _, _, rfl, ?_, ?_, ?_, ?_, ?_, ?_, ?_, ?_⟩
          · exact SPE.kx_mut k10 (SPE.kx_mut k9 k08 hnlf) hnnm
          · exact (hh8.mut k9 o1).mut k10 o2
          · exact k10 _ _ nnt.symm (k9 _ _ nlt.symm ht8)
          · exact k10 _ _ non.symm (k9 _ _ nol.symm ho8)
          · exact k10 _ _ nln.symm h9
          · exact h10
          · rw [List.length_append, hnl]
            rfl
          · rw [List.append_assoc]
            exact ((erase_perm hk).append_left ns).trans hperm
    · obtain ⟨ns, ls, x4, x5, x6, x7, x8, rfl, k5, hh5, ht5, ho5, hlf5, hnm5, hnl, hperm⟩ := hp
      have hcn : cs.length = ns.length := by
        rw [hnl, List.length_map, List.length_map]
      rw [List.length_map, List.length_map, List.take_length] at hnm5
      have hlnd : (ns ++ ls).Nodup := hperm.nodup_iff.mpr (by decide)
      have hnnd : ns.Nodup := (List.nodup_append.mp hlnd).1
      have hnls : ∀ c, c ∈ ns → c ∈ lets := fun c hc => hperm.mem_iff.mp (List.mem_append_left _ hc)
      clear hlf4 hnm4 ht4 hh4 hvo k04
      walk_at "rds"
      refine RD.lcF (walk_tup (xs := zs.map V.str)) (by rw [List.length_map]; have := g.few; omega) (fun i => (zs[i]?).map fun z => .str (mapS cs ns z)) (fun H' s => by walk_at "st") (fun i v H6 Z N hi hx s6 hZ hN => ?_) (fun D H6 hD s6 hv6 => ?_)
      · rw [List.getElem?_map] at hx
        obtain ⟨z, hz, rfl⟩ := Option.map_eq_some_iff.mp hx
        have hzm := List.mem_of_getElem? hz
        have hzs := (g.size z hzm).2
        walk_at "rds"
        refine ⟨rfl, ?_⟩
        walk_at "rds"
        refine RD.lcF RB.w_str (by omega) (fun j => (z.cps.toList[j]?).map fun c => .str ⟨#[nameOf cs ns c]⟩) (fun _ _ => trivial) (fun j v H7 Z2 N2 hj hx2 s7 hZ2 hN2 => ?_) (fun D2 H7 hD2 s7 hv7 => ?_)
        · rw [List.getElem?_map] at hx2
          obtain ⟨c, hc, rfl⟩ := Option.map_eq_some_iff.mp hx2
          have hnm7 := s7 _ _ (s6 _ _ hnm5)
          walk_at "rds"
          refine ⟨rfl, ?_⟩
          walk_at "rds"
          exact FR.dgetS (.inl hnm7) (valV_of hcn (hall z hzm c (List.mem_of_getElem? hc))) (hZ2 _ _ (by rw [hc]; rfl) (Same.refl _))
        · rw [show z.cps.size = z.cps.toList.length from Array.length_toList.symm, RD.range_get (fun c => V.str ⟨#[nameOf cs ns c]⟩)] at hv7
          refine RB.joinV (ys := (z.cps.toList.map (nameOf cs ns)).map fun c => (⟨#[c]⟩ : Str)) (.inl (.inl (.inl (by rw [List.map_map, List.map_map]; exact hv7)))) ?_ ?_
          · show _ + _ * 0 ≤ _
            rw [cs_sum, List.length_map, Array.length_toList]
            omega
          · refine hZ _ _ ?_ s7
            rw [hz]
            refine congrArg (fun s => some (V.str s)) (str_ext ?_)
            rw [cs_join]
            rfl
      · have k06 : SPE.KX x H H6 := k5.trans (SPE.kx_of s6)
        have hh6 := hh5.same s6
        rw [List.length_map, RD.range_get (fun z => V.str (mapS cs ns z))] at hv6
        have hws : ∃ ws : List Str, H6 D = some (.lst (ws.map V.str)) ∧ Good ws := ⟨zs.map (mapS cs ns), by rw [List.map_map]; exact hv6, by rw [List.length_map]; exact g.some, by rw [List.length_map]; exact g.few, fun z hz => by
          obtain ⟨y, hy, rfl⟩ := List.mem_map.mp hz
          have hsz := g.size y hy
          refine pieceB_of ?_ ?_ ?_
          · show 1 ≤ (List.map (nameOf cs ns) y.cps.toList).toArray.size
            rw [List.size_toArray, List.length_map, Array.length_toList]
            exact hsz.1
          · show (List.map (nameOf cs ns) y.cps.toList).toArray.size ≤ 8
            rw [List.size_toArray, List.length_map, Array.length_toList]
            exact hsz.2
          · intro c hc
            obtain ⟨d, hd, rfl⟩ := List.mem_map.mp (show c ∈ List.map (nameOf cs ns) y.cps.toList from hc)
            exact hnls _ (nameOf_mem hcn (hall y hy d hd)), by
          refine (List.pairwise_map.mpr (g.once.imp_of_mem fun {a b} ha hb hab e => hab (mapS_inj hcn hnnd (hall a ha) (hall b hb) e)))⟩
        have nD : SPE.Off D x := hand_ne hD hh5
        have hfrD : H D = none := kx_free k5 nD hD
        clear hlf5 hnm5 ho5 hh5 k5 ht5 hv6
        obtain ⟨ws, hD6, gw⟩ := hws
        have gws := gw.some
        refine ⟨fun σ' H' => ∃ (D : Addr) (ws : List Str) (x4 x6 x7 x8 : Option V), σ' = [some (.ref x.1), some (.ref t), some (.ref lf), some (.ref nm), x4, some (.ref D), x6, x7, x8] ∧ SPE.KX x H H' ∧ BagOk H' x ∧ H' D = some (.lst (ws.map V.str)) ∧ Good ws ∧ SPE.Off D x ∧ H D = none, ?_, ?_⟩
        · walk_at "rds"
          refine spPick.mk (E := E0) hh6 (by decide) (by decide) fun r H7 _ _ k7 hh7 => ?_
          have hD7 := k7 _ _ nD hD6
          have k07 := k06.trans k7
          clear hh6 hD6 k06 k7 s6
          walk_at "rds"
          refine RD.ite_d (fun _ => ?_) (fun _ => ?_)
          · walk_at "rds"
            refine RD.lcF (walk_list (xs := ws.map V.str)) (by rw [List.length_map]; have := gw.few; omega) (fun i => (ws[i]?).map fun z => .str (SPE.revS z)) (fun H' s => by walk_at "sq") (fun i v H8 Z N hi hx s8 hZ hN => ?_) (fun D2 H8 hD2 s8 hv8 => ?_)
            · rw [List.getElem?_map] at hx
              obtain ⟨z, hz, rfl⟩ := Option.map_eq_some_iff.mp hx
              have hps := piece_size (gw.piece z (List.mem_of_getElem? hz))
              have hzl : z.length ≤ sizeLine := RD.szo (by show z.cps.size ≤ _; omega)
              walk_at "rds"
              refine ⟨rfl, ?_⟩
              walk_at "rds"
              exact hZ _ _ (by rw [hz]; rfl) (Same.refl _)
            · rw [List.length_map, RD.range_get (fun z => V.str (SPE.revS z))] at hv8
              walk_at "rds"
              exact ⟨D2, ws.map SPE.revS, _, _, _, _, rfl, k07.trans (SPE.kx_of s8), hh7.same s8, by rw [List.map_map]; exact hv8, good_rev gw, hand_ne hD2 hh7, kx_free k07 (hand_ne hD2 hh7) hD2⟩
          · walk_at "rds"
            exact ⟨D, ws, _, _, _, _, rfl, k07, hh7, hD7, gw, nD, hfrD⟩
        · rintro σ' H' ⟨D, ws, x4, x6, x7, x8, rfl, k7, hh7, hD7, gw, nD, hfrD⟩
          clear hD6 k06 hh6
          walk_at "rds"
          have hml : (ws.map V.str).length = ws.length := List.length_map ..
          have gwf := gw.few
          refine ⟨by omega, by omega, ?_⟩
          have hfp : H p' = none := kx_free k7 hn hp
          have nDp : D ≠ p' := ne_of_none hD7 hp
          have hD8 := hs _ _ hD7
          have hh8 := hh7.same hs
          have k8 := k7.trans (SPE.kx_of hs)
          clear hD7 hh7 k7 hs hp
          refine RD.forW (walk_range (lo := 0) (n := ((ws.map V.str).length : Int).toNat)) (fun i σ H' => ∃ (rs fs : List Str) (x7 : Option V), σ = [some (.ref x.1), some (.ref t), some (.ref lf), some (.ref nm), x4, some (.ref D), some (.ref p'), x7, x8] ∧ SPE.KX x H H' ∧ BagOk H' x ∧ H' D = some (.lst (fs.map V.str)) ∧ H' p' = some (.lst (rs.map V.str)) ∧ rs.length = i ∧ (rs ++ fs).Perm ws)
            ⟨[], ws, _, rfl, k8, hh8, hD8, hv, rfl, List.Perm.refl _⟩ (fun _ _ _ _ _ => trivial) (fun i v σ H9 H10 hi hp hy => ?_) (fun σ H9 hp => ?_)
          · obtain ⟨rs, fs, x7, rfl, k9, hh9, hD9, hp9, hrl, hpm⟩ := hp
            obtain ⟨rfl, rfl⟩ := hy
            clear k8 hh8 hD8 hv
            have hfl : rs.length + fs.length = ws.length := by
              have := hpm.length_eq
              rwa [List.length_append] at this
            have hmf : (fs.map V.str).length = fs.length := List.length_map ..
            have hmr : (rs.map V.str).length = rs.length := List.length_map ..
            walk_at "rds"
            refine spPick.mk (E := E0) hh9 (by omega) (by omega) fun r H11 hr0 hr1 k11 hh11 => ?_
            obtain ⟨k, rfl⟩ : ∃ k : Nat, r = (k : Int) := ⟨r.toNat, (Int.toNat_of_nonneg hr0).symm⟩
            have hk : k < fs.length := by omega
            have hD11 := k11 _ _ nD hD9
            have hp11 := k11 _ _ hn hp9
            have hix : seqIndex? (k : Int) (fs.map V.str).length = some k := by
              unfold seqIndex?
              rw [hmf]
              have e1 : ¬ ((k : Int) < 0) := by omega
              simp [e1, hk]
            walk_at "rds"
            refine SPE.popAt hD11 ⟨by omega, by omega⟩ hix (by rw [List.getElem?_map, List.getElem?_eq_getElem hk]; rfl) fun H12 k12 h12 => ?_
            have hp12 := k12 _ _ nDp.symm hp11
            have hsz : (rs.map V.str).length < sizeLine := RD.szl (by omega)
            have k012 := SPE.kx_mut k12 (k9.trans k11) hfrD
            have hh12 := hh11.mut k12 nD
            clear k9 hh9 hD9 hp9 k11 hh11 hD11 hp11
            walk_at "rds"
            refine ⟨rs ++ [fs[k]], fs.eraseIdx k, _, rfl, SPE.kx_mut hk k012 hfp, hh12.mut hk hn, ?_, ?_, by rw [List.length_append, hrl]; rfl, ?_⟩
            · rw [← erase_map]
              exact hk _ _ nDp h12
            · rw [List.map_append]
              exact hv
            · rw [List.append_assoc]
              exact ((erase_perm (l := fs) (k := k) (by omega)).append_left rs).trans hpm
          · obtain ⟨rs, fs, x7, rfl, k9, hh9, hD9, hp9, hrl, hpm⟩ := hp
            clear k8 hh8 hD8 hv
            have hfl : rs.length + fs.length = ws.length := by
              have := hpm.length_eq
              rwa [List.length_append] at this
            have hfs : fs = [] := List.eq_nil_of_length_eq_zero (by rw [hml] at hrl; omega)
            subst hfs
            rw [List.append_nil] at hpm
            walk_at "rds"
            exact q _ rs _ (by walk_at "kx") (by walk_at "hk") hv (good_perm hpm gw)
end


end K11

namespace K11
open PySem PySem.Spec PyProof.Rows L2
local macro_rules | `(tactic| walk_at "kd") => `(tactic| first | assumption | exact SPD.KdOf.int _ | exact SPD.KdOf.str _ | exact SPD.KdOf.bl _ | exact SPD.KdOf.non | exact SPD.KdOf.same (by assumption) (by walk_at "kd") | exact SPD.KdOf.tup (by walk_at "hp") | exact SPD.KdOf.lst (by walk_at "hp") | fail "no")
local macro_rules | `(tactic| walk_at "ne") => `(tactic| first | assumption | exact Ne.symm (by assumption) | fail "no")
local macro_rules | `(tactic| walk_at "hp") => `(tactic| first | assumption | exact RD.at_same (by assumption) (by walk_at "hp") | exact RD.at_kb (by assumption) (by walk_at "ne") (by walk_at "hp") | fail "no")
local macro_rules | `(tactic| walk_at "sq") => `(tactic| first | assumption | exact Or.inl (Or.inl (by walk_at "hp")) | exact Same.seq (by assumption) (by walk_at "sq") | exact RD.KB.seq (by assumption) (by walk_at "ne") (by walk_at "sq") | fail "no")
local macro_rules | `(tactic| walk_at "st") => `(tactic| first | assumption | exact Or.inl (Or.inl (by walk_at "hp")) | exact RD.Same.tup (by assumption) (by walk_at "st") | exact RD.KB.tup (by assumption) (by walk_at "ne") (by walk_at "st") | fail "no")
local macro_rules | `(tactic| walk_at "rd") => `(tactic| first
  | with_reducible refine RD.c ?_
  | ((with_reducible refine' RD.var ?rdE ?rdK); (case rdE => exact rfl))
  | with_reducible refine RD.op ?_
  | with_reducible refine RD.un ?_
  | with_reducible refine RD.nil ?_
  | with_reducible refine RD.cons ?_
  | with_reducible refine RD.cb ?_
  | with_reducible refine RD.call ?_
  | with_reducible refine RD.test ?_
  | with_reducible refine RD.tb' ?_
  | with_reducible refine RD.bl ?_
  | with_reducible refine RD.and' ?_
  | with_reducible refine RD.or' ?_
  | with_reducible refine RD.not' ?_
  | with_reducible refine RD.andV ?_
  | with_reducible refine RD.orV ?_
  | with_reducible refine RD.notV ?_
  | with_reducible refine RD.ife ?_
  | with_reducible refine RD.sl ?_
  | with_reducible refine RD.part ?_
  | with_reducible refine RD.noPart ?_
  | with_reducible refine RD.partI ?_
  | with_reducible refine RD.rd0 ?_
  | with_reducible refine RD.rdU ?_
  | ((with_reducible refine' RD.rdEq ?rdE ?rdK); (case rdE => rfl))
  | ((with_reducible refine' RD.rdNe ?rdE ?rdK); (case rdE => rfl))
  | ((with_reducible refine' RD.ixL ?rdH ?rdE ?rdK); (case rdH => walk_at "sq"); (case rdE => first | rfl | assumption))
  | ((with_reducible refine' RD.rdI ?rdC ?rdK); (case rdC => first | assumption | (show (0 : Int) < _; first | decide | omega) | exact ⟨by decide, by decide⟩ | exact ⟨by assumption, by assumption⟩ | exact .inr ⟨by decide, by decide⟩ | exact .inl ⟨by decide, by decide⟩ | exact ⟨by decide, by decide, by decide⟩ | exact .inl ⟨by omega, by omega⟩))
  | ((with_reducible refine' RD.setL ?rdH ?rdE ?rdK); (case rdH => walk_at "hp"); (case rdE => rfl); intro $(Lean.mkIdent `H'):ident $(Lean.mkIdent `hk):ident $(Lean.mkIdent `hv):ident)
  | ((with_reducible refine' RD.irng1V ?rdA ?rdB ?rdK); (case rdA => first | decide | omega); (case rdB => first | decide | omega))
  | with_reducible refine RD.int1 ?_
  | with_reducible refine RD.abs1 ?_
  | ((with_reducible refine' RD.len ?rdH ?rdK); (case rdH => first | exact Or.inl (by walk_at "sq") | exact Or.inr (by walk_at "st")))
  | with_reducible refine RD.tup ?_
  | with_reducible refine RD.lst ?_
  | with_reducible refine RD.ite1 ?_
  | with_reducible refine RD.ite0 ?_
  | with_reducible refine RD.ite1n ?_
  | with_reducible refine RD.ite0n ?_
  | with_reducible refine RD.seq ?_
  | with_reducible refine RD.asg ?_
  | with_reducible refine RD.name ?_
  | with_reducible refine RD.ret ?_
  | with_reducible refine RD.drop ?_
  | with_reducible refine RD.next ?_
  | with_reducible refine RD.ifs ?_
  | with_reducible refine RD.par ?_
  | with_reducible refine RD.par2 ?_
  | with_reducible refine RD.sub ?_
  | with_reducible refine RD.gcons ?_
  | with_reducible refine RD.gnil ?_
  | with_reducible refine RD.bm ?_
  | ((with_reducible refine' RD.bmL ?rdH ?rdK); (case rdH => walk_at "sq"))
  | ((with_reducible refine' RD.newZ ?rdH ?rdK); (case rdH => exact RD.sz _); intro $(Lean.mkIdent `p'):ident $(Lean.mkIdent `H'):ident $(Lean.mkIdent `hp):ident $(Lean.mkIdent `hs):ident $(Lean.mkIdent `hv):ident; (try have $(Lean.mkIdent `hn):ident := hand_ne $(Lean.mkIdent `hp):ident (by walk_at "hk")))
  | with_reducible refine RD.fors ?_
  | with_reducible refine RD.lc ?_
  | with_reducible refine RD.yes ?_
  | with_reducible refine RD.ilist ?_
  | ((with_reducible refine' RD.ilistV ?rdH ?rdK); (case rdH => walk_at "sq"))
  | with_reducible refine RD.itup ?_
  | ((with_reducible refine' RD.itupV ?rdH ?rdK); (case rdH => walk_at "st"))
  | with_reducible refine RD.irng1 ?_
  | with_reducible refine RD.irng2 ?_
  | ((with_reducible refine' RD.irng2V ?rdA ?rdK); (case rdA => first | decide | omega))
  | with_reducible refine RD.ienum ?_
  | ((with_reducible refine' RD.ienumV ?rdH ?rdK); (case rdH => walk_at "sq"))
  | with_reducible refine RD.izip ?_
  | ((with_reducible refine' RD.izipV ?rdH ?rdE ?rdK); (case rdH => walk_at "sq"); (case rdE => walk_at "sq"))
  | with_reducible refine SPD.izipA ?_
  | with_reducible refine RD.istr ?_
  | with_reducible refine RD.istrV ?_
  | ((with_reducible refine' RD.slL ?rdH ?rdK); (case rdH => walk_at "sq"); intro $(Lean.mkIdent `p'):ident $(Lean.mkIdent `H'):ident $(Lean.mkIdent `hp):ident $(Lean.mkIdent `hs):ident $(Lean.mkIdent `hv):ident; (try have $(Lean.mkIdent `hn):ident := hand_ne $(Lean.mkIdent `hp):ident (by walk_at "hk")))
  | ((with_reducible refine' RD.cat ?rdH ?rdE ?rdZ ?rdK); (case rdH => walk_at "hp"); (case rdE => walk_at "hp"); (case rdZ => exact RD.sz _); intro $(Lean.mkIdent `p'):ident $(Lean.mkIdent `H'):ident $(Lean.mkIdent `hp):ident $(Lean.mkIdent `hs):ident $(Lean.mkIdent `hv):ident; (try have $(Lean.mkIdent `hn):ident := hand_ne $(Lean.mkIdent `hp):ident (by walk_at "hk")))
  | ((with_reducible refine' RD.gtup ?rdH ?rdE ?rdK); (case rdH => walk_at "st"); (case rdE => rfl))
  | ((with_reducible refine' RD.app ?rdH ?rdZ ?rdK); (case rdH => walk_at "hp"); (case rdZ => first | assumption | (apply RD.szl; omega)); intro $(Lean.mkIdent `H'):ident $(Lean.mkIdent `hk):ident $(Lean.mkIdent `hv):ident)
  | ((with_reducible refine' RD.all1 ?rdH ?rdK); (case rdH => walk_at "sq"))
  | ((with_reducible refine' RD.any1 ?rdH ?rdK); (case rdH => walk_at "sq"))
  | ((with_reducible refine' SPD.dnew ?rdK); intro $(Lean.mkIdent `p'):ident $(Lean.mkIdent `H'):ident $(Lean.mkIdent `hp):ident $(Lean.mkIdent `hs):ident $(Lean.mkIdent `hv):ident; (try have $(Lean.mkIdent `hn):ident := hand_ne $(Lean.mkIdent `hp):ident (by walk_at "hk")))
  | ((with_reducible refine' SPD.disp1 ?rdK); intro $(Lean.mkIdent `p'):ident $(Lean.mkIdent `H'):ident $(Lean.mkIdent `hp):ident $(Lean.mkIdent `hs):ident $(Lean.mkIdent `hv):ident; (try have $(Lean.mkIdent `hn):ident := hand_ne $(Lean.mkIdent `hp):ident (by walk_at "hk")))
  | ((with_reducible refine' SPD.isSeq ?rdH ?rdE ?rdK); (case rdH => walk_at "hp"); (case rdE => walk_at "kd"))
  | ((with_reducible refine' SPD.isTup ?rdE ?rdK); (case rdE => walk_at "kd"))
  | ((with_reducible refine' SPD.isLst ?rdE ?rdK); (case rdE => walk_at "kd"))
  | ((with_reducible refine' SPD.isBool ?rdE ?rdK); (case rdE => walk_at "kd"))
  | ((with_reducible refine' SPD.isStr ?rdE ?rdK); (case rdE => walk_at "kd"))
  | ((with_reducible refine' SPD.isInt ?rdE ?rdK); (case rdE => walk_at "kd"))
  | dsimp only)
local macro_rules | `(tactic| walk_at "rds") => `(tactic| repeat walk_at "rd")
local macro_rules | `(tactic| walk_at "sm") => `(tactic| first | assumption | exact Same.refl _ | exact RD.sm_tr (by assumption) (by walk_at "sm") | fail "no")
local macro_rules | `(tactic| walk_at "kb") => `(tactic| first | assumption | exact RD.KB.refl | exact RD.kb_tr (by assumption) (by walk_at "kb") | exact RD.kb_trs (by assumption) (by walk_at "kb") | fail "no")
local macro_rules | `(tactic| walk_at "fr") => `(tactic| first | assumption | exact RD.fr_of (by assumption) (by walk_at "sm") | fail "no")
local macro_rules | `(tactic| walk_at "hk") => `(tactic| first | assumption | exact hand_same (by assumption) (by walk_at "hk") | exact hand_kb (by assumption) (by walk_at "fr") (by walk_at "hk") | fail "no")
local macro_rules | `(tactic| walk_at "na") => `(tactic| first | assumption | exact hand_ne (by assumption) (by walk_at "hk") | fail "no")
local macro_rules | `(tactic| walk_at "dqa") => `(tactic| first | exact SPD.DqA.nil | exact SPD.DqA.cons (by walk_at "dq") (by walk_at "dqa") | exact SPD.DqA.app (by walk_at "dqa") (by walk_at "dqa") | fail "no")
local macro_rules | `(tactic| walk_at "dq") => `(tactic| first | assumption | exact SPD.Dq.leaf rfl | exact SPD.dq_kb (by assumption) (by walk_at "kb") | exact SPD.dqTup (by walk_at "hp") (by walk_at "na") (by walk_at "dqa") | exact SPD.dqLst (by walk_at "hp") (by walk_at "na") (by walk_at "dqa") | exact SPD.dqNil (by walk_at "hp") (by walk_at "na") (by first | decide | simp) (by first | decide | simp) | fail "no")

local macro_rules | `(tactic| walk_at "rd") => `(tactic| first
  | with_reducible refine RB.chain ?_
  | with_reducible refine RB.m1 ?_
  | with_reducible refine RB.strE ?_
  | with_reducible refine RB.fld ?_
  | with_reducible refine RB.setF ?_
  | with_reducible refine RB.ss ?_
  | with_reducible refine RB.rev ?_
  | with_reducible refine RB.make ?_
  | with_reducible refine RB.makeS ?_
  | with_reducible refine RB.mkO ?_
  | with_reducible refine NR.ienumT ?_
  | with_reducible refine RB.inS ?_
  | with_reducible refine RB.bmS ?_
  | with_reducible refine RB.callS ?_
  | with_reducible refine RB.sw3 ?_
  | with_reducible refine RB.par3 ?_
  | with_reducible refine RB.par3V ?_
  | ((with_reducible refine' RB.slS ?rdH ?rdK); (case rdH => walk_at "sz"))
  | with_reducible refine RB.xf ?_
  | ((with_reducible refine' RB.xfV ?rdH ?rdE ?rdK); (case rdH => walk_at "hp"); (case rdE => rfl))
  | ((with_reducible refine' NR.ienumTV ?rdH ?rdK); (case rdH => walk_at "st"))
  | ((with_reducible refine' RB.lenL ?rdH ?rdK); (case rdH => walk_at "sq"))
  | ((with_reducible refine' RB.lenT ?rdH ?rdK); (case rdH => walk_at "st"))
  | ((with_reducible refine' RB.lenS ?rdH ?rdK); (case rdH => walk_at "sz"))
  | ((with_reducible refine' RD.lenS ?rdH ?rdK); (case rdH => walk_at "sz"))
  | ((with_reducible refine' RB.slT ?rdH ?rdK); (case rdH => walk_at "hp"); intro $(Lean.mkIdent `p'):ident $(Lean.mkIdent `H'):ident $(Lean.mkIdent `hs):ident $(Lean.mkIdent `hv):ident $(Lean.mkIdent `hp):ident; (try have $(Lean.mkIdent `hn):ident := two_ne $(Lean.mkIdent `hp):ident (by walk_at "na") (by walk_at "hk")))
  | ((with_reducible refine' RB.revV ?rdH ?rdK); (case rdH => walk_at "st"); intro $(Lean.mkIdent `p'):ident $(Lean.mkIdent `H'):ident $(Lean.mkIdent `hp):ident $(Lean.mkIdent `hs):ident $(Lean.mkIdent `hv):ident; (try have $(Lean.mkIdent `hn):ident := hand_ne $(Lean.mkIdent `hp):ident (by walk_at "hk")))
  | ((with_reducible refine' RB.listS ?rdH ?rdK); (case rdH => walk_at "sz"); intro $(Lean.mkIdent `p'):ident $(Lean.mkIdent `H'):ident $(Lean.mkIdent `hp):ident $(Lean.mkIdent `hs):ident $(Lean.mkIdent `hv):ident; (try have $(Lean.mkIdent `hn):ident := hand_ne $(Lean.mkIdent `hp):ident (by walk_at "hk")))
  | ((with_reducible refine' RB.listO ?rdH ?rdK); (case rdH => first | exact Or.inl (by walk_at "sq") | exact Or.inr (by walk_at "st")); intro $(Lean.mkIdent `p'):ident $(Lean.mkIdent `H'):ident $(Lean.mkIdent `hp):ident $(Lean.mkIdent `hs):ident $(Lean.mkIdent `hv):ident; (try have $(Lean.mkIdent `hn):ident := hand_ne $(Lean.mkIdent `hp):ident (by walk_at "hk")))
  | ((with_reducible refine' RB.tupL ?rdH ?rdK); (case rdH => walk_at "sq"); intro $(Lean.mkIdent `p'):ident $(Lean.mkIdent `H'):ident $(Lean.mkIdent `hp):ident $(Lean.mkIdent `hs):ident $(Lean.mkIdent `hv):ident; (try have $(Lean.mkIdent `hn):ident := hand_ne $(Lean.mkIdent `hp):ident (by walk_at "hk")))
  | ((with_reducible refine' RB.catT ?rdH ?rdE ?rdZ ?rdK); (case rdH => walk_at "hp"); (case rdE => walk_at "hp"); (case rdZ => exact RB.LN.sum (by walk_at "ln") (by walk_at "ln") rfl); intro $(Lean.mkIdent `p'):ident $(Lean.mkIdent `H'):ident $(Lean.mkIdent `hs):ident $(Lean.mkIdent `hv):ident $(Lean.mkIdent `hp):ident; (try have $(Lean.mkIdent `hn):ident := three_ne $(Lean.mkIdent `hp):ident (by walk_at "na") (by walk_at "na") (by walk_at "hk")))
  | fail "no")
local macro_rules | `(tactic| walk_at "ln") => `(tactic| first | with_reducible assumption | exact RB.LN.cut (by walk_at "ln") | exact RB.LN.app (by walk_at "ln") (by walk_at "ln") | exact RB.LN.rev (by walk_at "ln") | exact RB.LN.rep (by walk_at "ln") | exact RB.LN.lit rfl | fail "no")
local macro_rules | `(tactic| walk_at "sz") => `(tactic| first | assumption | exact RD.sz _ | fail "no")

local macro_rules | `(tactic| walk_at "dk") => `(tactic| first | exact FR.rd_of (by walk_at "hp") | exact Or.inr ⟨_, by walk_at "hp"⟩ | fail "no")
local macro_rules | `(tactic| walk_at "rd") => `(tactic| first
  | with_reducible refine FR.dget ?_
  | with_reducible refine FR.din ?_
  | with_reducible refine FR.dnotin ?_
  | with_reducible refine FR.dc ?_
  | with_reducible refine FR.ikeys ?_
  | with_reducible refine FR.ivals ?_
  | with_reducible refine FR.bm0 ?_
  | ((with_reducible refine' FR.dinS ?rdH ?rdK); (case rdH => walk_at "dk"))
  | ((with_reducible refine' FR.keysV ?rdH ?rdK); (case rdH => walk_at "hp"))
  | ((with_reducible refine' FR.valsV ?rdH ?rdK); (case rdH => walk_at "hp"))
  | ((with_reducible refine' FR.bmD ?rdH ?rdK); (case rdH => walk_at "hp"))
  | with_reducible refine FR.ckw ?_
  | ((with_reducible refine' FR.lenD ?rdH ?rdK); (case rdH => walk_at "hp"))
  | fail "no")

/-! ### the program's free texts: letters, own texts, pieces held, fronts -/
abbrev toL (z : Str) : List Nat := z.cps.toList
def ofL (l : List Nat) : Str := ⟨l.toArray⟩
theorem toL_ofL (l : List Nat) : toL (ofL l) = l := rfl
theorem ofL_toL (z : Str) : ofL (toL z) = z := str_ext rfl
theorem toL_inj {a b : Str} (h : toL a = toL b) : a = b := str_ext h
def pl (zs : List Str) : List (List Nat) := zs.map toL
def lts (zs : List Str) : List Nat := (pl zs).flatten
theorem join_lts (zs : List Str) : toL (Txt.join ("" : Str) zs) = lts zs := join_cps zs
structure BK (C : Addr) (H : Hp) (b : Addr) (zs : List Str) : Prop where
  ex : ∃ t, BookAt H C b t ∧ H t = some (.tup (zs.map V.str))
  good : Good zs
theorem BK.same {C : Addr} {H H' : Hp} {b : Addr} {zs : List Str} (s : Same H H') (h : BK C H b zs) : BK C H' b zs := by
  obtain ⟨t, h1, h2⟩ := h.ex
  exact ⟨⟨t, h1.same s, s _ _ h2⟩, h.good⟩
/-- the own letters, ascending -/
def OwnW (zs : List Str) (o : Str) : Prop := ∃ ys, SST.Own (Txt.join ("" : Str) zs) ys ∧ o = Txt.join ("" : Str) ys
theorem OwnW.facts {zs : List Str} {o : Str} (h : OwnW zs o) : (toL o).Nodup ∧ ∀ c, c ∈ toL o ↔ c ∈ lts zs := by
  obtain ⟨ys, ho, rfl⟩ := h
  obtain ⟨cs, rfl, hn, hc⟩ := own_signs ho
  unfold toL
  rw [cs_join]
  exact ⟨hn, fun c => by rw [hc c]; show c ∈ toL _ ↔ _; rw [join_lts]⟩
theorem lts_lets {zs : List Str} (g : Good zs) {c : Nat} (h : c ∈ lts zs) : c ∈ lets := by
  obtain ⟨l, hl, hc⟩ := List.mem_flatten.mp h
  obtain ⟨z, hz, rfl⟩ := List.mem_map.mp hl
  have hp := g.piece z hz
  unfold pieceB logB at hp
  rw [Bool.and_eq_true] at hp
  exact of_decide_eq_true (List.all_eq_true.mp hp.1 c hc)
theorem few_lets {l : List Nat} (n : l.Nodup) (h : ∀ c, c ∈ l → c ∈ lets) : l.length ≤ 8 := by
  exact FL.sub_len n h
theorem OwnW.size {zs : List Str} {o : Str} (g : Good zs) (h : OwnW zs o) : o.cps.size ≤ 8 := by
  rw [← Array.length_toList]
  exact few_lets h.facts.1 fun c hc => lts_lets g ((h.facts.2 c).mp hc)
def ownV (zs : List Str) : V → Bool
  | .str z => (toL z).all fun c => decide (c ∈ lts zs)
  | _ => false
def holdsB (zs : List Str) (w : Str) : Bool := zs.any fun z => decide (toL z <:+: toL w)
def spLetters (C : Addr) : Sp := fun vs H Q _ => ∃ (b : Addr) (zs : List Str), vs = [.ref b] ∧ BK C H b zs ∧ ∀ o H', OwnW zs o → Same H H' → Q (.str o) H'
def spIsOwn (K : PySem.W.Frag) (C : Addr) : Sp := fun vs H Q _ => ∃ (b : Addr) (zs : List Str) (v : V) (k : SPD.Kd), vs = [.ref b, v] ∧ BK C H b zs ∧ SPD.KdOf K H v k ∧ (∀ z, v = .str z → z.cps.size ≤ 100000) ∧ ∀ H', Same H H' → Q (.bl (ownV zs v)) H'
def spHolds (C : Addr) : Sp := fun vs H Q _ => ∃ (b : Addr) (zs : List Str) (w : Str), vs = [.ref b, .str w] ∧ BK C H b zs ∧ ∀ H', Same H H' → Q (.bl (holdsB zs w)) H'
theorem spHolds.mk {C b : Addr} {zs : List Str} {w : Str} {H : Hp} {Q : VK} {E : XK} (h : BK C H b zs) (q : ∀ H', Same H H' → Q (.bl (holdsB zs w)) H') : spHolds C ([.ref b, .str w] ++ []) H Q E := ⟨b, zs, w, rfl, h, q⟩
theorem spLetters.mk {C b : Addr} {zs : List Str} {H : Hp} {Q : VK} {E : XK} (h : BK C H b zs) (q : ∀ o H', OwnW zs o → Same H H' → Q (.str o) H') : spLetters C ([.ref b] ++ []) H Q E := ⟨b, zs, rfl, h, q⟩
section
variable {P : Program} {w : World} {K : PySem.W.Frag} {mg : Str → Option Value} {base : Heap}
theorem ok_letters (T : Txt P K mg) : FnOk P w K mg base CX0 1 T.a_letters T.fd_letters ["book"] (spLetters T.C_Book) := by
  have nd := sc_letters.nd
  refine T.F_letters.ok sc_letters (fun vs H Q E h => ?_) (fun cdv A outer s H vs Q E hr h => ?_)
  · obtain ⟨b, zs, rfl, _⟩ := h
    rfl
  · obtain ⟨b, zs, rfl, ⟨⟨t, ⟨dx, hb⟩, ht⟩, g⟩, q⟩ := h
    refine ⟨_, (pss_one (ps_ret (pe_join pe_str (SST.pe_ss (by rfl) T.m_sorted (by rfl) T.m_set (pe_join pe_str (pe_fld (pv 0) rfl)))))), ?_⟩
    have hz := g.sum
    walk_at "rds"
    refine RB.fldV hb T.cl_Book T.no_Book_pieces rfl ?_
    walk_at "rds"
    refine RB.joinV (.inr (by walk_at "st")) (by show _ + _ * 0 ≤ _; omega) ?_
    refine RB.ssV (by rw [join_size]; omega) fun ys p H1 ho hp s1 hv => ?_
    walk_at "rds"
    refine RB.joinV (.inl (by walk_at "sq")) (by have := own_small ho (by rw [join_size]; omega); show _ + _ * 0 ≤ _; omega) ?_
    exact q _ _ ⟨ys, ho, rfl⟩ s1
theorem ok_is_own (T : Txt P K mg) : FnOk P w K mg base CX0 2 T.a_is_own T.fd_is_own ["book", "thing"] (spIsOwn K T.C_Book) := by
  have nd := sc_is_own.nd
  have G_letters : FnOk P w K mg base CX0 1 T.a_letters T.fd_letters ["book"] (spLetters T.C_Book) := ok_letters T
  refine T.F_is_own.ok sc_is_own (fun vs H Q E h => ?_) (fun cdv A outer s H vs Q E hr h => ?_)
  · obtain ⟨b, zs, v, k, rfl, _⟩ := h
    rfl
  · obtain ⟨b, zs, v, k, rfl, hb, hk, hz, q⟩ := h
    refine ⟨_, (pss_cons (ps_set (i := 2) nd rfl (by first | exact Or.inl rfl | exact Or.inr rfl) (pe_call G_letters hr (by rfl) T.g_letters T.F_letters.kp T.b_letters .nil pass0 (pa_cons (pv 0) pa_nil)))
  (pss_one (ps_ret (pe_and (pe_callB call_isi (by rfl) T.m_isinstance (by decide +kernel) (pa_cons (pv 1) (pa_cons (pe_bltn (v := .ty "str") (by rfl) T.m_str (by decide +kernel) rfl) pa_nil))) (pe_one (pe_callB (cr_all rfl) (by rfl) T.m_all (by decide +kernel) (pa_cons (pe_lc (own := [("sign", 3)]) (g := (gName 3)) rfl nd (pi_str (pv 1)) (blkOk_by (own := [("sign", 3)]) (N := N_is_own) (sc := defScope s_is_own) (by decide +kernel)) (fun _ _ _ _ _ => (pg_name (i := 3) nd rfl (Or.inl rfl))) (fun _ _ _ _ _ => pts_nil) (fun _ _ _ _ _ => (pe_cmpR op_in_sign (pv 3) (pv 2) (by first | rfl | exact nomark _)))) pa_nil))))))), ?_⟩
    walk_at "rds"
    refine spLetters.mk hb fun o H1 ho s1 => ?_
    have hk1 := SPD.KdOf.same s1 hk
    walk_at "rds"
    refine RD.ite_d (fun e => ?_) (fun e => ?_)
    · obtain ⟨z, rfl⟩ : ∃ z, v = .str z := by
        subst e
        cases hk
        exact ⟨_, rfl⟩
      have hz := hz z rfl
      walk_at "rds"
      refine RD.lcF RB.w_str (by omega) (fun i => ((toL z)[i]?).map fun c => .bl (decide (c ∈ lts zs))) (fun _ _ => trivial) (fun i v H6 Z N hi hx s6 hZ hN => ?_) (fun D H6 hD s6 hv6 => ?_)
      · rw [List.getElem?_map] at hx
        obtain ⟨c, hc, rfl⟩ := Option.map_eq_some_iff.mp hx
        walk_at "rds"
        refine ⟨rfl, ?_⟩
        walk_at "rds"
        exact hZ _ _ (by
          rw [show (toL z)[i]? = some c from hc]
          refine congrArg (fun b => some (V.bl b)) ?_
          rw [decide_eq_decide]
          exact (ho.facts.2 c).symm) (Same.refl _)
      · rw [show z.cps.size = (toL z).length from Array.length_toList.symm, RD.range_get (fun c => V.bl (decide (c ∈ lts zs))), show ((toL z).map fun c => V.bl (decide (c ∈ lts zs))) = ((toL z).map fun c => decide (c ∈ lts zs)).map V.bl by rw [List.map_map]; rfl] at hv6
        walk_at "rds"
        have e2 : ((toL z).map fun c => decide (c ∈ lts zs)).all id = ownV zs (.str z) := by
          unfold ownV
          rw [List.all_map]
          rfl
        rw [e2]
        exact q _ (s1.trans s6)
    · walk_at "rds"
      have e2 : ownV zs v = false := by
        cases v with
        | str z => exact absurd (by cases hk; rfl) e
        | _ => rfl
      rw [← e2]
      exact q _ s1
theorem ok_holds_piece (T : Txt P K mg) : FnOk P w K mg base CX0 1 T.a_holds_piece T.fd_holds_piece ["book", "text"] (spHolds T.C_Book) := by
  have nd := sc_holds_piece.nd
  refine T.F_holds_piece.ok sc_holds_piece (fun vs H Q E h => ?_) (fun cdv A outer s H vs Q E hr h => ?_)
  · obtain ⟨b, zs, w, rfl, _⟩ := h
    rfl
  · obtain ⟨b, zs, w, rfl, ⟨⟨t, ⟨dx, hb⟩, ht⟩, g⟩, q⟩ := h
    refine ⟨_, (pss_one (ps_ret (pe_callB (cr_any rfl) (by rfl) T.m_any (by decide +kernel) (pa_cons (pe_lc (own := [("piece", 2)]) (g := (gName 2)) rfl nd (pi_tup (pe_fld (pv 0) rfl)) (blkOk_by (own := [("piece", 2)]) (N := N_holds_piece) (sc := defScope s_holds_piece) (by decide +kernel)) (fun _ _ _ _ _ => (pg_name (i := 2) nd rfl (Or.inl rfl))) (fun _ _ _ _ _ => pts_nil) (fun _ _ _ _ _ => (pe_cmpR op_in_str (pv 2) (pv 1) (by first | rfl | exact nomark _)))) pa_nil)))), ?_⟩
    walk_at "rds"
    refine RB.fldV hb T.cl_Book T.no_Book_pieces rfl ?_
    walk_at "rds"
    refine RD.lcF (walk_tup (xs := zs.map V.str)) (by rw [List.length_map]; have := g.few; omega) (fun i => (zs[i]?).map fun z => .bl (decide (toL z <:+: toL w))) (fun H' s => by walk_at "st") (fun i v H6 Z N hi hx s6 hZ hN => ?_) (fun D H6 hD s6 hv6 => ?_)
    · rw [List.getElem?_map] at hx
      obtain ⟨z, hz, rfl⟩ := Option.map_eq_some_iff.mp hx
      walk_at "rds"
      refine ⟨rfl, ?_⟩
      walk_at "rds"
      refine ⟨z, w, rfl, rfl, ?_⟩
      exact hZ _ _ (by rw [hz, FL.in_iff]; rfl) (Same.refl _)
    · rw [List.length_map, RD.range_get (fun z => V.bl (decide (toL z <:+: toL w)))] at hv6
      walk_at "rds"
      have e : (zs.map fun z => V.bl (decide (toL z <:+: toL w))) = (zs.map fun z => decide (toL z <:+: toL w)).map V.bl := by rw [List.map_map]; rfl
      rw [e] at hv6
      walk_at "rds"
      have e2 : (zs.map fun z => decide (toL z <:+: toL w)).any id = holdsB zs w := by
        unfold holdsB
        rw [List.any_map]
        rfl
      rw [e2]
      exact q _ s6
end


end K11

namespace K11
open PySem PySem.Spec PyProof.Rows L2
local macro_rules | `(tactic| walk_at "kd") => `(tactic| first | assumption | exact SPD.KdOf.int _ | exact SPD.KdOf.str _ | exact SPD.KdOf.bl _ | exact SPD.KdOf.non | exact SPD.KdOf.same (by assumption) (by walk_at "kd") | exact SPD.KdOf.tup (by walk_at "hp") | exact SPD.KdOf.lst (by walk_at "hp") | fail "no")
local macro_rules | `(tactic| walk_at "ne") => `(tactic| first | assumption | exact Ne.symm (by assumption) | fail "no")
local macro_rules | `(tactic| walk_at "hp") => `(tactic| first | assumption | exact RD.at_same (by assumption) (by walk_at "hp") | exact RD.at_kb (by assumption) (by walk_at "ne") (by walk_at "hp") | fail "no")
local macro_rules | `(tactic| walk_at "sq") => `(tactic| first | assumption | exact Or.inl (Or.inl (by walk_at "hp")) | exact Same.seq (by assumption) (by walk_at "sq") | exact RD.KB.seq (by assumption) (by walk_at "ne") (by walk_at "sq") | fail "no")
local macro_rules | `(tactic| walk_at "st") => `(tactic| first | assumption | exact Or.inl (Or.inl (by walk_at "hp")) | exact RD.Same.tup (by assumption) (by walk_at "st") | exact RD.KB.tup (by assumption) (by walk_at "ne") (by walk_at "st") | fail "no")
local macro_rules | `(tactic| walk_at "rd") => `(tactic| first
  | with_reducible refine RD.c ?_
  | ((with_reducible refine' RD.var ?rdE ?rdK); (case rdE => exact rfl))
  | with_reducible refine RD.op ?_
  | with_reducible refine RD.un ?_
  | with_reducible refine RD.nil ?_
  | with_reducible refine RD.cons ?_
  | with_reducible refine RD.cb ?_
  | with_reducible refine RD.call ?_
  | with_reducible refine RD.test ?_
  | with_reducible refine RD.tb' ?_
  | with_reducible refine RD.bl ?_
  | with_reducible refine RD.and' ?_
  | with_reducible refine RD.or' ?_
  | with_reducible refine RD.not' ?_
  | with_reducible refine RD.andV ?_
  | with_reducible refine RD.orV ?_
  | with_reducible refine RD.notV ?_
  | with_reducible refine RD.ife ?_
  | with_reducible refine RD.sl ?_
  | with_reducible refine RD.part ?_
  | with_reducible refine RD.noPart ?_
  | with_reducible refine RD.partI ?_
  | with_reducible refine RD.rd0 ?_
  | with_reducible refine RD.rdU ?_
  | ((with_reducible refine' RD.rdEq ?rdE ?rdK); (case rdE => rfl))
  | ((with_reducible refine' RD.rdNe ?rdE ?rdK); (case rdE => rfl))
  | ((with_reducible refine' RD.ixL ?rdH ?rdE ?rdK); (case rdH => walk_at "sq"); (case rdE => first | rfl | assumption))
  | ((with_reducible refine' RD.rdI ?rdC ?rdK); (case rdC => first | assumption | (show (0 : Int) < _; first | decide | omega) | exact ⟨by decide, by decide⟩ | exact ⟨by assumption, by assumption⟩ | exact .inr ⟨by decide, by decide⟩ | exact .inl ⟨by decide, by decide⟩ | exact ⟨by decide, by decide, by decide⟩ | exact .inl ⟨by omega, by omega⟩))
  | ((with_reducible refine' RD.setL ?rdH ?rdE ?rdK); (case rdH => walk_at "hp"); (case rdE => rfl); intro $(Lean.mkIdent `H'):ident $(Lean.mkIdent `hk):ident $(Lean.mkIdent `hv):ident)
  | ((with_reducible refine' RD.irng1V ?rdA ?rdB ?rdK); (case rdA => first | decide | omega); (case rdB => first | decide | omega))
  | with_reducible refine RD.int1 ?_
  | with_reducible refine RD.abs1 ?_
  | ((with_reducible refine' RD.len ?rdH ?rdK); (case rdH => first | exact Or.inl (by walk_at "sq") | exact Or.inr (by walk_at "st")))
  | with_reducible refine RD.tup ?_
  | with_reducible refine RD.lst ?_
  | with_reducible refine RD.ite1 ?_
  | with_reducible refine RD.ite0 ?_
  | with_reducible refine RD.ite1n ?_
  | with_reducible refine RD.ite0n ?_
  | with_reducible refine RD.seq ?_
  | with_reducible refine RD.asg ?_
  | with_reducible refine RD.name ?_
  | with_reducible refine RD.ret ?_
  | with_reducible refine RD.drop ?_
  | with_reducible refine RD.next ?_
  | with_reducible refine RD.ifs ?_
  | with_reducible refine RD.par ?_
  | with_reducible refine RD.par2 ?_
  | with_reducible refine RD.sub ?_
  | with_reducible refine RD.gcons ?_
  | with_reducible refine RD.gnil ?_
  | with_reducible refine RD.bm ?_
  | ((with_reducible refine' RD.bmL ?rdH ?rdK); (case rdH => walk_at "sq"))
  | ((with_reducible refine' RD.newZ ?rdH ?rdK); (case rdH => exact RD.sz _); intro $(Lean.mkIdent `p'):ident $(Lean.mkIdent `H'):ident $(Lean.mkIdent `hp):ident $(Lean.mkIdent `hs):ident $(Lean.mkIdent `hv):ident; (try have $(Lean.mkIdent `hn):ident := hand_ne $(Lean.mkIdent `hp):ident (by walk_at "hk")))
  | with_reducible refine RD.fors ?_
  | with_reducible refine RD.lc ?_
  | with_reducible refine RD.yes ?_
  | with_reducible refine RD.ilist ?_
  | ((with_reducible refine' RD.ilistV ?rdH ?rdK); (case rdH => walk_at "sq"))
  | with_reducible refine RD.itup ?_
  | ((with_reducible refine' RD.itupV ?rdH ?rdK); (case rdH => walk_at "st"))
  | with_reducible refine RD.irng1 ?_
  | with_reducible refine RD.irng2 ?_
  | ((with_reducible refine' RD.irng2V ?rdA ?rdK); (case rdA => first | decide | omega))
  | with_reducible refine RD.ienum ?_
  | ((with_reducible refine' RD.ienumV ?rdH ?rdK); (case rdH => walk_at "sq"))
  | with_reducible refine RD.izip ?_
  | ((with_reducible refine' RD.izipV ?rdH ?rdE ?rdK); (case rdH => walk_at "sq"); (case rdE => walk_at "sq"))
  | with_reducible refine SPD.izipA ?_
  | with_reducible refine RD.istr ?_
  | with_reducible refine RD.istrV ?_
  | ((with_reducible refine' RD.slL ?rdH ?rdK); (case rdH => walk_at "sq"); intro $(Lean.mkIdent `p'):ident $(Lean.mkIdent `H'):ident $(Lean.mkIdent `hp):ident $(Lean.mkIdent `hs):ident $(Lean.mkIdent `hv):ident; (try have $(Lean.mkIdent `hn):ident := hand_ne $(Lean.mkIdent `hp):ident (by walk_at "hk")))
  | ((with_reducible refine' RD.cat ?rdH ?rdE ?rdZ ?rdK); (case rdH => walk_at "hp"); (case rdE => walk_at "hp"); (case rdZ => exact RD.sz _); intro $(Lean.mkIdent `p'):ident $(Lean.mkIdent `H'):ident $(Lean.mkIdent `hp):ident $(Lean.mkIdent `hs):ident $(Lean.mkIdent `hv):ident; (try have $(Lean.mkIdent `hn):ident := hand_ne $(Lean.mkIdent `hp):ident (by walk_at "hk")))
  | ((with_reducible refine' RD.gtup ?rdH ?rdE ?rdK); (case rdH => walk_at "st"); (case rdE => rfl))
  | ((with_reducible refine' RD.app ?rdH ?rdZ ?rdK); (case rdH => walk_at "hp"); (case rdZ => first | assumption | (apply RD.szl; omega)); intro $(Lean.mkIdent `H'):ident $(Lean.mkIdent `hk):ident $(Lean.mkIdent `hv):ident)
  | ((with_reducible refine' RD.all1 ?rdH ?rdK); (case rdH => walk_at "sq"))
  | ((with_reducible refine' RD.any1 ?rdH ?rdK); (case rdH => walk_at "sq"))
  | ((with_reducible refine' SPD.dnew ?rdK); intro $(Lean.mkIdent `p'):ident $(Lean.mkIdent `H'):ident $(Lean.mkIdent `hp):ident $(Lean.mkIdent `hs):ident $(Lean.mkIdent `hv):ident; (try have $(Lean.mkIdent `hn):ident := hand_ne $(Lean.mkIdent `hp):ident (by walk_at "hk")))
  | ((with_reducible refine' SPD.disp1 ?rdK); intro $(Lean.mkIdent `p'):ident $(Lean.mkIdent `H'):ident $(Lean.mkIdent `hp):ident $(Lean.mkIdent `hs):ident $(Lean.mkIdent `hv):ident; (try have $(Lean.mkIdent `hn):ident := hand_ne $(Lean.mkIdent `hp):ident (by walk_at "hk")))
  | ((with_reducible refine' SPD.isSeq ?rdH ?rdE ?rdK); (case rdH => walk_at "hp"); (case rdE => walk_at "kd"))
  | ((with_reducible refine' SPD.isTup ?rdE ?rdK); (case rdE => walk_at "kd"))
  | ((with_reducible refine' SPD.isLst ?rdE ?rdK); (case rdE => walk_at "kd"))
  | ((with_reducible refine' SPD.isBool ?rdE ?rdK); (case rdE => walk_at "kd"))
  | ((with_reducible refine' SPD.isStr ?rdE ?rdK); (case rdE => walk_at "kd"))
  | ((with_reducible refine' SPD.isInt ?rdE ?rdK); (case rdE => walk_at "kd"))
  | dsimp only)
local macro_rules | `(tactic| walk_at "rds") => `(tactic| repeat walk_at "rd")
local macro_rules | `(tactic| walk_at "sm") => `(tactic| first | assumption | exact Same.refl _ | exact RD.sm_tr (by assumption) (by walk_at "sm") | fail "no")
local macro_rules | `(tactic| walk_at "kb") => `(tactic| first | assumption | exact RD.KB.refl | exact RD.kb_tr (by assumption) (by walk_at "kb") | exact RD.kb_trs (by assumption) (by walk_at "kb") | fail "no")
local macro_rules | `(tactic| walk_at "fr") => `(tactic| first | assumption | exact RD.fr_of (by assumption) (by walk_at "sm") | fail "no")
local macro_rules | `(tactic| walk_at "hk") => `(tactic| first | assumption | exact hand_same (by assumption) (by walk_at "hk") | exact hand_kb (by assumption) (by walk_at "fr") (by walk_at "hk") | fail "no")
local macro_rules | `(tactic| walk_at "na") => `(tactic| first | assumption | exact hand_ne (by assumption) (by walk_at "hk") | fail "no")
local macro_rules | `(tactic| walk_at "dqa") => `(tactic| first | exact SPD.DqA.nil | exact SPD.DqA.cons (by walk_at "dq") (by walk_at "dqa") | exact SPD.DqA.app (by walk_at "dqa") (by walk_at "dqa") | fail "no")
local macro_rules | `(tactic| walk_at "dq") => `(tactic| first | assumption | exact SPD.Dq.leaf rfl | exact SPD.dq_kb (by assumption) (by walk_at "kb") | exact SPD.dqTup (by walk_at "hp") (by walk_at "na") (by walk_at "dqa") | exact SPD.dqLst (by walk_at "hp") (by walk_at "na") (by walk_at "dqa") | exact SPD.dqNil (by walk_at "hp") (by walk_at "na") (by first | decide | simp) (by first | decide | simp) | fail "no")

local macro_rules | `(tactic| walk_at "rd") => `(tactic| first
  | with_reducible refine RB.chain ?_
  | with_reducible refine RB.m1 ?_
  | with_reducible refine RB.strE ?_
  | with_reducible refine RB.fld ?_
  | with_reducible refine RB.setF ?_
  | with_reducible refine RB.ss ?_
  | with_reducible refine RB.rev ?_
  | with_reducible refine RB.make ?_
  | with_reducible refine RB.makeS ?_
  | with_reducible refine RB.mkO ?_
  | with_reducible refine NR.ienumT ?_
  | with_reducible refine RB.inS ?_
  | with_reducible refine RB.bmS ?_
  | with_reducible refine RB.callS ?_
  | with_reducible refine RB.sw3 ?_
  | with_reducible refine RB.par3 ?_
  | with_reducible refine RB.par3V ?_
  | ((with_reducible refine' RB.slS ?rdH ?rdK); (case rdH => walk_at "sz"))
  | with_reducible refine RB.xf ?_
  | ((with_reducible refine' RB.xfV ?rdH ?rdE ?rdK); (case rdH => walk_at "hp"); (case rdE => rfl))
  | ((with_reducible refine' NR.ienumTV ?rdH ?rdK); (case rdH => walk_at "st"))
  | ((with_reducible refine' RB.lenL ?rdH ?rdK); (case rdH => walk_at "sq"))
  | ((with_reducible refine' RB.lenT ?rdH ?rdK); (case rdH => walk_at "st"))
  | ((with_reducible refine' RB.lenS ?rdH ?rdK); (case rdH => walk_at "sz"))
  | ((with_reducible refine' RD.lenS ?rdH ?rdK); (case rdH => walk_at "sz"))
  | ((with_reducible refine' RB.slT ?rdH ?rdK); (case rdH => walk_at "hp"); intro $(Lean.mkIdent `p'):ident $(Lean.mkIdent `H'):ident $(Lean.mkIdent `hs):ident $(Lean.mkIdent `hv):ident $(Lean.mkIdent `hp):ident; (try have $(Lean.mkIdent `hn):ident := two_ne $(Lean.mkIdent `hp):ident (by walk_at "na") (by walk_at "hk")))
  | ((with_reducible refine' RB.revV ?rdH ?rdK); (case rdH => walk_at "st"); intro $(Lean.mkIdent `p'):ident $(Lean.mkIdent `H'):ident $(Lean.mkIdent `hp):ident $(Lean.mkIdent `hs):ident $(Lean.mkIdent `hv):ident; (try have $(Lean.mkIdent `hn):ident := hand_ne $(Lean.mkIdent `hp):ident (by walk_at "hk")))
  | ((with_reducible refine' RB.listS ?rdH ?rdK); (case rdH => walk_at "sz"); intro $(Lean.mkIdent `p'):ident $(Lean.mkIdent `H'):ident $(Lean.mkIdent `hp):ident $(Lean.mkIdent `hs):ident $(Lean.mkIdent `hv):ident; (try have $(Lean.mkIdent `hn):ident := hand_ne $(Lean.mkIdent `hp):ident (by walk_at "hk")))
  | ((with_reducible refine' RB.listO ?rdH ?rdK); (case rdH => first | exact Or.inl (by walk_at "sq") | exact Or.inr (by walk_at "st")); intro $(Lean.mkIdent `p'):ident $(Lean.mkIdent `H'):ident $(Lean.mkIdent `hp):ident $(Lean.mkIdent `hs):ident $(Lean.mkIdent `hv):ident; (try have $(Lean.mkIdent `hn):ident := hand_ne $(Lean.mkIdent `hp):ident (by walk_at "hk")))
  | ((with_reducible refine' RB.tupL ?rdH ?rdK); (case rdH => walk_at "sq"); intro $(Lean.mkIdent `p'):ident $(Lean.mkIdent `H'):ident $(Lean.mkIdent `hp):ident $(Lean.mkIdent `hs):ident $(Lean.mkIdent `hv):ident; (try have $(Lean.mkIdent `hn):ident := hand_ne $(Lean.mkIdent `hp):ident (by walk_at "hk")))
  | ((with_reducible refine' RB.catT ?rdH ?rdE ?rdZ ?rdK); (case rdH => walk_at "hp"); (case rdE => walk_at "hp"); (case rdZ => exact RB.LN.sum (by walk_at "ln") (by walk_at "ln") rfl); intro $(Lean.mkIdent `p'):ident $(Lean.mkIdent `H'):ident $(Lean.mkIdent `hs):ident $(Lean.mkIdent `hv):ident $(Lean.mkIdent `hp):ident; (try have $(Lean.mkIdent `hn):ident := three_ne $(Lean.mkIdent `hp):ident (by walk_at "na") (by walk_at "na") (by walk_at "hk")))
  | fail "no")
local macro_rules | `(tactic| walk_at "ln") => `(tactic| first | with_reducible assumption | exact RB.LN.cut (by walk_at "ln") | exact RB.LN.app (by walk_at "ln") (by walk_at "ln") | exact RB.LN.rev (by walk_at "ln") | exact RB.LN.rep (by walk_at "ln") | exact RB.LN.lit rfl | fail "no")
local macro_rules | `(tactic| walk_at "sz") => `(tactic| first | assumption | exact RD.sz _ | fail "no")

local macro_rules | `(tactic| walk_at "dk") => `(tactic| first | exact FR.rd_of (by walk_at "hp") | exact Or.inr ⟨_, by walk_at "hp"⟩ | fail "no")
local macro_rules | `(tactic| walk_at "rd") => `(tactic| first
  | with_reducible refine FR.dget ?_
  | with_reducible refine FR.din ?_
  | with_reducible refine FR.dnotin ?_
  | with_reducible refine FR.dc ?_
  | with_reducible refine FR.ikeys ?_
  | with_reducible refine FR.ivals ?_
  | with_reducible refine FR.bm0 ?_
  | ((with_reducible refine' FR.dinS ?rdH ?rdK); (case rdH => walk_at "dk"))
  | ((with_reducible refine' FR.keysV ?rdH ?rdK); (case rdH => walk_at "hp"))
  | ((with_reducible refine' FR.valsV ?rdH ?rdK); (case rdH => walk_at "hp"))
  | ((with_reducible refine' FR.bmD ?rdH ?rdK); (case rdH => walk_at "hp"))
  | with_reducible refine FR.ckw ?_
  | ((with_reducible refine' FR.lenD ?rdH ?rdK); (case rdH => walk_at "hp"))
  | fail "no")

/-! ### fronts -/
def tt (fs : List Str) : List (Key × V) := fs.map fun f => (Sum.inr f, V.bl true)
def putF1 (fs : List Str) (f : Str) : List Str := if f ∈ fs then fs else fs ++ [f]
theorem key_inj {a b : Str} : ((Sum.inr a : Key) = Sum.inr b) ↔ a = b := ⟨fun h => Sum.inr.inj h, fun h => by rw [h]⟩
theorem tt_val (fs : List Str) (f : Str) : (valV (tt fs) (Sum.inr f)).isSome = decide (f ∈ fs) := by
  induction fs with
  | nil => rfl
  | cons a fs ih =>
    by_cases e : a = f
    · subst e
      show (valV ((Sum.inr a, V.bl true) :: _) _).isSome = _
      rw [valV_pos rfl]
      simp
    · show (valV ((Sum.inr a, V.bl true) :: tt fs) _).isSome = _
      rw [valV_neg (fun z => e (key_inj.mp z)), ih]
      have : (f ∈ a :: fs) ↔ f ∈ fs := by
        rw [List.mem_cons]
        exact ⟨fun h => h.resolve_left (fun z => e z.symm), .inr⟩
      rw [decide_eq_decide, this]
theorem tt_put (fs : List Str) (f : Str) : putK (tt fs) (Sum.inr f) (V.bl true) = tt (putF1 fs f) := by
  unfold putK putF1
  have e : ((tt fs).any fun kv => decide (kv.1 = (Sum.inr f : Key))) = decide (f ∈ fs) := by
    rw [Bool.eq_iff_iff, List.any_eq_true, decide_eq_true_eq]
    constructor
    · rintro ⟨kv, hm, h⟩
      obtain ⟨a, ha, rfl⟩ := List.mem_map.mp hm
      have := key_inj.mp (of_decide_eq_true h)
      rw [← this]
      exact ha
    · intro h
      exact ⟨_, List.mem_map.mpr ⟨f, h, rfl⟩, decide_eq_true rfl⟩
  rw [e]
  by_cases h : f ∈ fs
  · rw [if_pos (decide_eq_true h), if_pos h]
    unfold tt
    rw [List.map_map]
    refine List.map_congr_left fun a _ => ?_
    show (if (Sum.inr a : Key) = Sum.inr f then ((Sum.inr a : Key), V.bl true) else (Sum.inr a, V.bl true)) = _
    split <;> rfl
  · rw [if_neg (by rw [decide_eq_false h]; decide), if_neg h]
    unfold tt
    rw [List.map_append]
    rfl
theorem tt_merge (gs : List Str) : ∀ fs, mergeK (tt fs) (tt gs) = tt (gs.foldl putF1 fs) := by
  induction gs with
  | nil => exact fun fs => rfl
  | cons g gs ih =>
    intro fs
    show mergeK (putK (tt fs) (Sum.inr g) (V.bl true)) (tt gs) = _
    rw [tt_put, ih]
    rfl
theorem fold_mem (gs : List Str) : ∀ fs f, f ∈ gs.foldl putF1 fs ↔ f ∈ fs ∨ f ∈ gs := by
  induction gs with
  | nil => exact fun fs f => by simp
  | cons g gs ih =>
    intro fs f
    rw [List.foldl_cons, ih, List.mem_cons]
    unfold putF1
    by_cases h : g ∈ fs
    · rw [if_pos h]
      constructor
      · rintro (a | a)
        · exact .inl a
        · exact .inr (.inr a)
      · rintro (a | a | a)
        · exact .inl a
        · exact .inl (a ▸ h)
        · exact .inr a
    · rw [if_neg h, List.mem_append, List.mem_singleton, or_assoc]
theorem fold_len (gs : List Str) : ∀ fs : List Str, (gs.foldl putF1 fs).length ≤ fs.length + gs.length := by
  induction gs with
  | nil => exact fun fs => Nat.le_refl _
  | cons g gs ih =>
    intro fs
    rw [List.foldl_cons]
    have h1 := ih (putF1 fs g)
    have h2 : (putF1 fs g).length ≤ fs.length + 1 := by
      unfold putF1
      split
      · omega
      · rw [List.length_append]; exact Nat.le_refl _
    rw [List.length_cons]
    omega
theorem tt_len (fs : List Str) : (tt fs).length = fs.length := List.length_map ..
/-- all fronts -/
structure Fronts (zs : List Str) (fs : List Str) : Prop where
  mem : ∀ f, f ∈ fs ↔ FL.Front (pl zs) (toL f)
  few : fs.length ≤ 97
def cuts (z : Str) : List Str := ((List.range z.cps.size).map fun i => cutS z none (some (i : Nat))).foldl putF1 []
def frOf (zs : List Str) : List Str := zs.foldl (fun fs z => (cuts z).foldl putF1 fs) [""]
theorem cut_take (z : Str) (i : Nat) : toL (cutS z none (some (i : Int))) = (toL z).take i := by
  show ((toL z).drop (HT.sIx z.length 0 none)).take (HT.sIx z.length z.length (some (i : Int)) - HT.sIx z.length 0 none) = _
  rw [HT.sIx_none, HT.sIx_nat, List.drop_zero, Nat.sub_zero]
  have e : z.length = (toL z).length := Array.length_toList.symm
  rw [e]
  rcases Nat.le_total i (toL z).length with h | h
  · rw [Nat.min_eq_left h]
  · rw [Nat.min_eq_right h, List.take_length, List.take_of_length_le h]
theorem cut_drop (z : Str) (i : Nat) : toL (cutS z (some (i : Int)) none) = (toL z).drop i := by
  show ((toL z).drop (HT.sIx z.length 0 (some (i : Int)))).take (HT.sIx z.length z.length none - HT.sIx z.length 0 (some (i : Int))) = _
  rw [HT.sIx_none, HT.sIx_nat]
  have e : z.length = (toL z).length := Array.length_toList.symm
  rw [e]
  rcases Nat.le_total i (toL z).length with h | h
  · rw [Nat.min_eq_left h]
    exact List.take_of_length_le (by rw [List.length_drop]; omega)
  · rw [Nat.min_eq_right h, List.drop_of_length_le h, List.drop_length, List.take_nil]
theorem cuts_mem (z f : Str) : f ∈ cuts z ↔ f ∈ (List.range z.cps.size).map fun i => cutS z none (some (i : Nat)) := by
  unfold cuts
  rw [fold_mem]
  simp
theorem cuts_len (z : Str) : (cuts z).length ≤ z.cps.size := by
  have := fold_len ((List.range z.cps.size).map fun i => cutS z none (some (i : Nat))) []
  rw [List.length_map, List.length_range, List.length_nil, Nat.zero_add] at this
  exact this
theorem frOf_mem : ∀ (zs : List Str) (fs : List Str) (f : Str), f ∈ zs.foldl (fun fs z => (cuts z).foldl putF1 fs) fs ↔ f ∈ fs ∨ ∃ p, p ∈ pl zs ∧ ∃ i, i < p.length ∧ toL f = p.take i
  | [], fs, f => by
    constructor
    · exact .inl
    · rintro (h | ⟨p, h, _⟩)
      · exact h
      · exact (List.not_mem_nil h).elim
  | z :: zs, fs, f => by
    rw [List.foldl_cons, frOf_mem zs, fold_mem, cuts_mem]
    have e : z.cps.size = (toL z).length := Array.length_toList.symm
    constructor
    · rintro ((h | h) | ⟨p, hp, r⟩)
      · exact .inl h
      · obtain ⟨i, hi, rfl⟩ := List.mem_map.mp h
        exact .inr ⟨toL z, List.mem_cons_self, i, by rw [← e]; exact List.mem_range.mp hi, cut_take z i⟩
      · exact .inr ⟨p, List.mem_cons_of_mem _ hp, r⟩
    · rintro (h | ⟨p, hp, i, hi, r⟩)
      · exact .inl (.inl h)
      · rcases List.mem_cons.mp hp with h | h
        · subst h
          exact .inl (.inr (List.mem_map.mpr ⟨i, List.mem_range.mpr (by rw [e]; exact hi), toL_inj (by rw [cut_take, r])⟩))
        · exact .inr ⟨p, h, i, hi, r⟩
theorem frOf_len : ∀ (zs : List Str) (fs : List Str), (zs.foldl (fun fs z => (cuts z).foldl putF1 fs) fs).length ≤ fs.length + (zs.map (·.length)).sum
  | [], fs => Nat.le_refl _
  | z :: zs, fs => by
    rw [List.foldl_cons, List.map_cons, List.sum_cons]
    have h1 := frOf_len zs ((cuts z).foldl putF1 fs)
    have h2 := fold_len (cuts z) fs
    have h3 := cuts_len z
    have e : z.length = z.cps.size := rfl
    omega
theorem fronts_ok {zs : List Str} (g : Good zs) : Fronts zs (frOf zs) := by
  refine ⟨fun f => ?_, ?_⟩
  · show f ∈ frOf zs ↔ _
    unfold frOf FL.Front
    rw [frOf_mem, List.mem_singleton]
    constructor
    · rintro (h | h)
      · exact .inl (by rw [h]; rfl)
      · exact .inr h
    · rintro (h | h)
      · exact .inl (toL_inj h)
      · exact .inr h
  · have h := frOf_len zs [""]
    have h2 := g.sum
    have e : ([("" : Str)] : List Str).length = 1 := rfl
    unfold frOf
    omega
def spFrontsOf (C : Addr) : Sp := fun vs H Q _ => ∃ (b : Addr) (zs : List Str), vs = [.ref b] ∧ BK C H b zs ∧ ∀ d H', H d = none → Same H H' → H' d = some (.dK (tt (frOf zs))) → Q (.ref d) H'
theorem spFrontsOf.mk {C b : Addr} {zs : List Str} {H : Hp} {Q : VK} {E : XK} (h : BK C H b zs) (q : ∀ d H', H d = none → Same H H' → H' d = some (.dK (tt (frOf zs))) → Q (.ref d) H') : spFrontsOf C ([.ref b] ++ []) H Q E := ⟨b, zs, rfl, h, q⟩
/-- the longest end that is a front -/
def lfS (fs : List Str) (w : Str) : Str := ofL (FL.lf (fs.map toL) (toL w))
def spLongest : Sp := fun vs H Q _ => ∃ (d : Addr) (fs : List Str) (w : Str), vs = [.ref d, .str w] ∧ H d = some (.dK (tt fs)) ∧ ("" : Str) ∈ fs ∧ w.cps.size ≤ 100000 ∧ Q (.str (lfS fs w)) H
theorem spLongest.mk {d : Addr} {fs : List Str} {w : Str} {H : Hp} {Q : VK} {E : XK} (h : H d = some (.dK (tt fs))) (h0 : ("" : Str) ∈ fs) (hw : w.cps.size ≤ 100000) (q : Q (.str (lfS fs w)) H) : spLongest ([.ref d, .str w] ++ []) H Q E := ⟨d, fs, w, rfl, h, h0, hw, q⟩
theorem mem_toL {fs : List Str} {w : Str} : toL w ∈ fs.map toL ↔ w ∈ fs := by
  constructor
  · intro h
    obtain ⟨y, hy, e⟩ := List.mem_map.mp h
    rw [← toL_inj e]
    exact hy
  · exact fun h => List.mem_map.mpr ⟨w, h, rfl⟩
theorem lfS_pos {fs : List Str} {w : Str} (h : w ∈ fs) : lfS fs w = w := by
  unfold lfS
  have h2 := mem_toL.mpr h
  cases e : toL w with
  | nil =>
    rw [← e]
    rw [show FL.lf (fs.map toL) (toL w) = toL w by rw [e]; rfl]
    exact ofL_toL w
  | cons a l =>
    rw [e] at h2
    unfold FL.lf
    rw [if_pos h2, ← e]
    exact ofL_toL w
theorem lfS_neg {fs : List Str} {w : Str} (h0 : ("" : Str) ∈ fs) (h : w ∉ fs) : lfS fs w = lfS fs (cutS w (some 1) none) ∧ 0 < w.cps.size := by
  have h2 : toL w ∉ fs.map toL := fun z => h (mem_toL.mp z)
  have e1 : toL (cutS w (some 1) none) = (toL w).drop 1 := cut_drop w 1
  unfold lfS
  rw [e1]
  cases e : toL w with
  | nil => exact absurd (by rw [toL_inj (a := w) (b := "") e]; exact h0) h
  | cons a l =>
    rw [e] at h2
    refine ⟨?_, by rw [← Array.length_toList, show w.cps.toList = a :: l from e]; simp⟩
    rw [show FL.lf (fs.map toL) (a :: l) = FL.lf (fs.map toL) l by rw [FL.lf, if_neg h2]]
    rfl
section
variable {P : Program} {w : World} {K : PySem.W.Frag} {mg : Str → Option Value} {base : Heap}
theorem ok_fronts_of (T : Txt P K mg) : FnOk P w K mg base CX0 1 T.a_fronts_of T.fd_fronts_of ["book"] (spFrontsOf T.C_Book) := by
  have nd := sc_fronts_of.nd
  refine T.F_fronts_of.ok sc_fronts_of (fun vs H Q E h => ?_) (fun cdv A outer s H vs Q E hr h => ?_)
  · obtain ⟨b, zs, rfl, _⟩ := h
    rfl
  · obtain ⟨b, zs, rfl, ⟨⟨t, ⟨dx, hb⟩, ht⟩, g⟩, q⟩ := h
    refine ⟨_, (pss_cons (ps_set (i := 1) nd rfl (by first | exact Or.inl rfl | exact Or.inr rfl) (pe_disp (pps_cons pe_str pe_bl pps_nil) (by rfl) (by rfl) (fun z => by cases z) (by decide)))
  (pss_cons (ps_for PassesOwn.never rfl (pi_tup (pe_fld (pv 0) rfl)) (pg_name (i := 2) nd rfl (by first | exact Or.inl rfl | exact Or.inr rfl))
    (pss_one (ps_expr (pe_bm PySem.F.plainAttrs_dict PySem.F.slot_dict_update PySem.F.type_dict_update FR.mt_updD (pv 1) (pa_cons (pe_dc (own := [("at", 3)]) (g := (gName 3)) rfl nd (pi_range1 (by rfl) T.m_range (pa_cons (pe_callB call_len_str (by rfl) T.m_len PySem.boot_len (pa_cons (pv 2) pa_nil)) pa_nil)) (blkOk_by (own := [("at", 3)]) (N := N_fronts_of) (sc := defScope s_fronts_of) (by decide +kernel)) (fun _ _ _ _ _ => (pg_name (i := 3) nd rfl (Or.inl rfl))) (fun _ _ _ _ _ => pts_nil) (fun _ _ _ _ _ => (pe_slice sl_str (pv 2) po_none (po_some (pv 3)))) (fun _ _ _ _ _ => pe_bl)) pa_nil)))))
  (pss_one (ps_ret (pv 1))))), ?_⟩
    walk_at "rds"
    refine RB.fldV (hs _ _ hb) T.cl_Book T.no_Book_pieces rfl ?_
    have ht1 := hs _ _ ht
    walk_at "rds"
    refine RD.forW (walk_tup (xs := zs.map V.str)) (fun i σ H' => ∃ (x2 x3 : Option V), σ = [some (.ref b), some (.ref p'), x2, x3] ∧ Same H H' ∧ H' p' = some (.dK (tt ((zs.take i).foldl (fun fs z => (cuts z).foldl putF1 fs) [""])))) ⟨_, _, rfl, hs, hv⟩ (fun i σ H' _ ⟨_, _, _, s, _⟩ => .inl (.inl (s _ _ ht))) (fun i v σ H2 H3 hi hp2 hy => ?_) (fun σ H2 hp2 => ?_)
    · obtain ⟨x2, x3, rfl, s2, hd2⟩ := hp2
      obtain ⟨rfl, hx⟩ := hy
      rw [List.getElem?_map] at hx
      obtain ⟨z, hz, rfl⟩ := Option.map_eq_some_iff.mp hx
      have hzs := piece_size (g.piece z (List.mem_of_getElem? hz))
      have hzl : z.length ≤ sizeLine := RD.szo (by show z.cps.size ≤ _; omega)
      have hz8 : (z.length : Int) ≤ 8 := by show ((z.cps.size : Nat) : Int) ≤ 8; omega
      clear hs hv ht1
      walk_at "rds"
      refine FR.dcW (walk_range (lo := 0) (n := (z.length : Int).toNat)) (by omega) fun D H4 hD s4 hv4 => ⟨fun j acc H' => Same H3 H' ∧ acc = tt (((List.range j).map fun i => cutS z none (some (i : Nat))).foldl putF1 []), ⟨s4, rfl⟩, fun _ _ _ _ _ => trivial, fun j v acc H5 H6 Z N hj hp3 hDa hy hZ hN => ?_, fun acc H5 hp3 hDa => ?_⟩
      · obtain ⟨s5, rfl⟩ := hp3
        obtain ⟨rfl, rfl⟩ := hy
        walk_at "rds"
        refine ⟨rfl, ?_⟩
        walk_at "rds"
        refine hZ (Sum.inr (cutS z none (some (0 + (j : Int))))) _ _ hDa fun H7 k7 h7 => ⟨RD.same_mut k7 s5 hD, ?_⟩
        rw [tt_put, List.range_succ, List.map_append, List.foldl_append, Int.zero_add]
        rfl
      · obtain ⟨s5, rfl⟩ := hp3
        have hp5 := s5 _ _ hd2
        walk_at "rds"
        have hl1 := frOf_len (zs.take i) [""]
        have hl2 := cuts_len z
        have hl3 : ((zs.take i).map (·.length)).sum ≤ 96 := by
          have h1 := g.sum
          rw [← List.take_append_drop i zs, List.map_append, List.sum_append] at h1
          omega
        have e1 : ([("" : Str)] : List Str).length = 1 := rfl
        have e2 : (cuts z).length = (((List.range (z.length : Int).toNat).map fun i => cutS z none (some (i : Nat))).foldl putF1 []).length := by
          unfold cuts
          rfl
        refine FR.upd1 hp5 hDa (ne_of_none hd2 hD) (by rw [tt_len, tt_len, sizeLine_eq]; omega) fun H7 k7 h7 => ⟨_, _, rfl, RD.same_mut k7 (s2.trans s5) hp, ?_⟩
        rw [h7, tt_merge, List.take_add_one, hz, List.foldl_append]
        rfl
    · obtain ⟨x2, x3, rfl, s2, hd2⟩ := hp2
      rw [List.length_map, List.take_length] at hd2
      walk_at "rds"
      exact q _ _ hp s2 hd2
theorem ok_longest_front (T : Txt P K mg) : FnOk P w K mg base CX0 1 T.a_longest_front T.fd_longest_front ["fronts", "text"] spLongest := by
  have nd := sc_longest_front.nd
  refine T.F_longest_front.ok sc_longest_front (fun vs H Q E h => ?_) (fun cdv A outer s H vs Q E hr h => ?_)
  · obtain ⟨d, fs, w, rfl, _⟩ := h
    rfl
  · obtain ⟨d, fs, w, rfl, hd, h0, hw, q⟩ := h
    refine ⟨_, (pss_cons (ps_while PassesOwn.never (pt_cmp (pc_dnotin (SPE.room1 hr) (pv 1) (pv 0)))
    (pss_one (ps_set (i := 1) nd rfl (by first | exact Or.inl rfl | exact Or.inr rfl) (pe_slice sl_str (pv 1) (po_some pe_int) po_none))))
  (pss_one (ps_ret (pv 1)))), ?_⟩
    walk_at "rds"
    refine FR.whileG (fun m σ H' => ∃ y : Str, σ = [some (.ref d), some (.str y)] ∧ H' = H ∧ y.cps.size = m ∧ y.cps.size ≤ 100000 ∧ lfS fs y = lfS fs w) w.cps.size ⟨w, rfl, rfl, rfl, hw, rfl⟩ (fun m σ H' p => ?_)
    obtain ⟨y, rfl, rfl, hm, hy, e⟩ := p
    walk_at "rds"
    rw [tt_val]
    refine RD.ite_nd (fun hn => ?_) (fun hn => ?_)
    · obtain ⟨e2, hpos⟩ := lfS_neg h0 hn
      refine FR.wnext ?_
      have hyl : y.length ≤ sizeLine := RD.szo (by show y.cps.size ≤ _; omega)
      walk_at "rds"
      have e3 : (cutS y (some 1) none).cps.size = y.cps.size - 1 := by
        have := congrArg List.length (cut_drop y 1)
        rw [List.length_drop] at this
        rw [← Array.length_toList, ← Array.length_toList]
        exact this
      exact ⟨y.cps.size - 1, by omega, _, rfl, rfl, e3, by omega, e2.symm.trans e⟩
    · rw [lfS_pos hn] at e
      subst e
      walk_at "rds"
      exact q
end


end K11

namespace K11
open PySem PySem.Spec PyProof.Rows L2
local macro_rules | `(tactic| walk_at "kd") => `(tactic| first | assumption | exact SPD.KdOf.int _ | exact SPD.KdOf.str _ | exact SPD.KdOf.bl _ | exact SPD.KdOf.non | exact SPD.KdOf.same (by assumption) (by walk_at "kd") | exact SPD.KdOf.tup (by walk_at "hp") | exact SPD.KdOf.lst (by walk_at "hp") | fail "no")
local macro_rules | `(tactic| walk_at "ne") => `(tactic| first | assumption | exact Ne.symm (by assumption) | fail "no")
local macro_rules | `(tactic| walk_at "hp") => `(tactic| first | assumption | exact RD.at_same (by assumption) (by walk_at "hp") | exact RD.at_kb (by assumption) (by walk_at "ne") (by walk_at "hp") | fail "no")
local macro_rules | `(tactic| walk_at "sq") => `(tactic| first | assumption | exact Or.inl (Or.inl (by walk_at "hp")) | exact Same.seq (by assumption) (by walk_at "sq") | exact RD.KB.seq (by assumption) (by walk_at "ne") (by walk_at "sq") | fail "no")
local macro_rules | `(tactic| walk_at "st") => `(tactic| first | assumption | exact Or.inl (Or.inl (by walk_at "hp")) | exact RD.Same.tup (by assumption) (by walk_at "st") | exact RD.KB.tup (by assumption) (by walk_at "ne") (by walk_at "st") | fail "no")
local macro_rules | `(tactic| walk_at "rd") => `(tactic| first
  | with_reducible refine RD.c ?_
  | ((with_reducible refine' RD.var ?rdE ?rdK); (case rdE => exact rfl))
  | with_reducible refine RD.op ?_
  | with_reducible refine RD.un ?_
  | with_reducible refine RD.nil ?_
  | with_reducible refine RD.cons ?_
  | with_reducible refine RD.cb ?_
  | with_reducible refine RD.call ?_
  | with_reducible refine RD.test ?_
  | with_reducible refine RD.tb' ?_
  | with_reducible refine RD.bl ?_
  | with_reducible refine RD.and' ?_
  | with_reducible refine RD.or' ?_
  | with_reducible refine RD.not' ?_
  | with_reducible refine RD.andV ?_
  | with_reducible refine RD.orV ?_
  | with_reducible refine RD.notV ?_
  | with_reducible refine RD.ife ?_
  | with_reducible refine RD.sl ?_
  | with_reducible refine RD.part ?_
  | with_reducible refine RD.noPart ?_
  | with_reducible refine RD.partI ?_
  | with_reducible refine RD.rd0 ?_
  | with_reducible refine RD.rdU ?_
  | ((with_reducible refine' RD.rdEq ?rdE ?rdK); (case rdE => rfl))
  | ((with_reducible refine' RD.rdNe ?rdE ?rdK); (case rdE => rfl))
  | ((with_reducible refine' RD.ixL ?rdH ?rdE ?rdK); (case rdH => walk_at "sq"); (case rdE => first | rfl | assumption))
  | ((with_reducible refine' RD.rdI ?rdC ?rdK); (case rdC => first | assumption | (show (0 : Int) < _; first | decide | omega) | exact ⟨by decide, by decide⟩ | exact ⟨by assumption, by assumption⟩ | exact .inr ⟨by decide, by decide⟩ | exact .inl ⟨by decide, by decide⟩ | exact ⟨by decide, by decide, by decide⟩ | exact .inl ⟨by omega, by omega⟩))
  | ((with_reducible refine' RD.setL ?rdH ?rdE ?rdK); (case rdH => walk_at "hp"); (case rdE => rfl); intro $(Lean.mkIdent `H'):ident $(Lean.mkIdent `hk):ident $(Lean.mkIdent `hv):ident)
  | ((with_reducible refine' RD.irng1V ?rdA ?rdB ?rdK); (case rdA => first | decide | omega); (case rdB => first | decide | omega))
  | with_reducible refine RD.int1 ?_
  | with_reducible refine RD.abs1 ?_
  | ((with_reducible refine' RD.len ?rdH ?rdK); (case rdH => first | exact Or.inl (by walk_at "sq") | exact Or.inr (by walk_at "st")))
  | with_reducible refine RD.tup ?_
  | with_reducible refine RD.lst ?_
  | with_reducible refine RD.ite1 ?_
  | with_reducible refine RD.ite0 ?_
  | with_reducible refine RD.ite1n ?_
  | with_reducible refine RD.ite0n ?_
  | with_reducible refine RD.seq ?_
  | with_reducible refine RD.asg ?_
  | with_reducible refine RD.name ?_
  | with_reducible refine RD.ret ?_
  | with_reducible refine RD.drop ?_
  | with_reducible refine RD.next ?_
  | with_reducible refine RD.ifs ?_
  | with_reducible refine RD.par ?_
  | with_reducible refine RD.par2 ?_
  | with_reducible refine RD.sub ?_
  | with_reducible refine RD.gcons ?_
  | with_reducible refine RD.gnil ?_
  | with_reducible refine RD.bm ?_
  | ((with_reducible refine' RD.bmL ?rdH ?rdK); (case rdH => walk_at "sq"))
  | ((with_reducible refine' RD.newZ ?rdH ?rdK); (case rdH => exact RD.sz _); intro $(Lean.mkIdent `p'):ident $(Lean.mkIdent `H'):ident $(Lean.mkIdent `hp):ident $(Lean.mkIdent `hs):ident $(Lean.mkIdent `hv):ident; (try have $(Lean.mkIdent `hn):ident := hand_ne $(Lean.mkIdent `hp):ident (by walk_at "hk")))
  | with_reducible refine RD.fors ?_
  | with_reducible refine RD.lc ?_
  | with_reducible refine RD.yes ?_
  | with_reducible refine RD.ilist ?_
  | ((with_reducible refine' RD.ilistV ?rdH ?rdK); (case rdH => walk_at "sq"))
  | with_reducible refine RD.itup ?_
  | ((with_reducible refine' RD.itupV ?rdH ?rdK); (case rdH => walk_at "st"))
  | with_reducible refine RD.irng1 ?_
  | with_reducible refine RD.irng2 ?_
  | ((with_reducible refine' RD.irng2V ?rdA ?rdK); (case rdA => first | decide | omega))
  | with_reducible refine RD.ienum ?_
  | ((with_reducible refine' RD.ienumV ?rdH ?rdK); (case rdH => walk_at "sq"))
  | with_reducible refine RD.izip ?_
  | ((with_reducible refine' RD.izipV ?rdH ?rdE ?rdK); (case rdH => walk_at "sq"); (case rdE => walk_at "sq"))
  | with_reducible refine SPD.izipA ?_
  | with_reducible refine RD.istr ?_
  | with_reducible refine RD.istrV ?_
  | ((with_reducible refine' RD.slL ?rdH ?rdK); (case rdH => walk_at "sq"); intro $(Lean.mkIdent `p'):ident $(Lean.mkIdent `H'):ident $(Lean.mkIdent `hp):ident $(Lean.mkIdent `hs):ident $(Lean.mkIdent `hv):ident; (try have $(Lean.mkIdent `hn):ident := hand_ne $(Lean.mkIdent `hp):ident (by walk_at "hk")))
  | ((with_reducible refine' RD.cat ?rdH ?rdE ?rdZ ?rdK); (case rdH => walk_at "hp"); (case rdE => walk_at "hp"); (case rdZ => exact RD.sz _); intro $(Lean.mkIdent `p'):ident $(Lean.mkIdent `H'):ident $(Lean.mkIdent `hp):ident $(Lean.mkIdent `hs):ident $(Lean.mkIdent `hv):ident; (try have $(Lean.mkIdent `hn):ident := hand_ne $(Lean.mkIdent `hp):ident (by walk_at "hk")))
  | ((with_reducible refine' RD.gtup ?rdH ?rdE ?rdK); (case rdH => walk_at "st"); (case rdE => rfl))
  | ((with_reducible refine' RD.app ?rdH ?rdZ ?rdK); (case rdH => walk_at "hp"); (case rdZ => first | assumption | (apply RD.szl; omega)); intro $(Lean.mkIdent `H'):ident $(Lean.mkIdent `hk):ident $(Lean.mkIdent `hv):ident)
  | ((with_reducible refine' RD.all1 ?rdH ?rdK); (case rdH => walk_at "sq"))
  | ((with_reducible refine' RD.any1 ?rdH ?rdK); (case rdH => walk_at "sq"))
  | ((with_reducible refine' SPD.dnew ?rdK); intro $(Lean.mkIdent `p'):ident $(Lean.mkIdent `H'):ident $(Lean.mkIdent `hp):ident $(Lean.mkIdent `hs):ident $(Lean.mkIdent `hv):ident; (try have $(Lean.mkIdent `hn):ident := hand_ne $(Lean.mkIdent `hp):ident (by walk_at "hk")))
  | ((with_reducible refine' SPD.disp1 ?rdK); intro $(Lean.mkIdent `p'):ident $(Lean.mkIdent `H'):ident $(Lean.mkIdent `hp):ident $(Lean.mkIdent `hs):ident $(Lean.mkIdent `hv):ident; (try have $(Lean.mkIdent `hn):ident := hand_ne $(Lean.mkIdent `hp):ident (by walk_at "hk")))
  | ((with_reducible refine' SPD.isSeq ?rdH ?rdE ?rdK); (case rdH => walk_at "hp"); (case rdE => walk_at "kd"))
  | ((with_reducible refine' SPD.isTup ?rdE ?rdK); (case rdE => walk_at "kd"))
  | ((with_reducible refine' SPD.isLst ?rdE ?rdK); (case rdE => walk_at "kd"))
  | ((with_reducible refine' SPD.isBool ?rdE ?rdK); (case rdE => walk_at "kd"))
  | ((with_reducible refine' SPD.isStr ?rdE ?rdK); (case rdE => walk_at "kd"))
  | ((with_reducible refine' SPD.isInt ?rdE ?rdK); (case rdE => walk_at "kd"))
  | dsimp only)
local macro_rules | `(tactic| walk_at "rds") => `(tactic| repeat walk_at "rd")
local macro_rules | `(tactic| walk_at "sm") => `(tactic| first | assumption | exact Same.refl _ | exact RD.sm_tr (by assumption) (by walk_at "sm") | fail "no")
local macro_rules | `(tactic| walk_at "kb") => `(tactic| first | assumption | exact RD.KB.refl | exact RD.kb_tr (by assumption) (by walk_at "kb") | exact RD.kb_trs (by assumption) (by walk_at "kb") | fail "no")
local macro_rules | `(tactic| walk_at "fr") => `(tactic| first | assumption | exact RD.fr_of (by assumption) (by walk_at "sm") | fail "no")
local macro_rules | `(tactic| walk_at "hk") => `(tactic| first | assumption | exact hand_same (by assumption) (by walk_at "hk") | exact hand_kb (by assumption) (by walk_at "fr") (by walk_at "hk") | fail "no")
local macro_rules | `(tactic| walk_at "na") => `(tactic| first | assumption | exact hand_ne (by assumption) (by walk_at "hk") | fail "no")
local macro_rules | `(tactic| walk_at "dqa") => `(tactic| first | exact SPD.DqA.nil | exact SPD.DqA.cons (by walk_at "dq") (by walk_at "dqa") | exact SPD.DqA.app (by walk_at "dqa") (by walk_at "dqa") | fail "no")
local macro_rules | `(tactic| walk_at "dq") => `(tactic| first | assumption | exact SPD.Dq.leaf rfl | exact SPD.dq_kb (by assumption) (by walk_at "kb") | exact SPD.dqTup (by walk_at "hp") (by walk_at "na") (by walk_at "dqa") | exact SPD.dqLst (by walk_at "hp") (by walk_at "na") (by walk_at "dqa") | exact SPD.dqNil (by walk_at "hp") (by walk_at "na") (by first | decide | simp) (by first | decide | simp) | fail "no")

local macro_rules | `(tactic| walk_at "rd") => `(tactic| first
  | with_reducible refine RB.chain ?_
  | with_reducible refine RB.m1 ?_
  | with_reducible refine RB.strE ?_
  | with_reducible refine RB.fld ?_
  | with_reducible refine RB.setF ?_
  | with_reducible refine RB.ss ?_
  | with_reducible refine RB.rev ?_
  | with_reducible refine RB.make ?_
  | with_reducible refine RB.makeS ?_
  | with_reducible refine RB.mkO ?_
  | with_reducible refine NR.ienumT ?_
  | with_reducible refine RB.inS ?_
  | with_reducible refine RB.bmS ?_
  | with_reducible refine RB.callS ?_
  | with_reducible refine RB.sw3 ?_
  | with_reducible refine RB.par3 ?_
  | with_reducible refine RB.par3V ?_
  | ((with_reducible refine' RB.slS ?rdH ?rdK); (case rdH => walk_at "sz"))
  | with_reducible refine RB.xf ?_
  | ((with_reducible refine' RB.xfV ?rdH ?rdE ?rdK); (case rdH => walk_at "hp"); (case rdE => rfl))
  | ((with_reducible refine' NR.ienumTV ?rdH ?rdK); (case rdH => walk_at "st"))
  | ((with_reducible refine' RB.lenL ?rdH ?rdK); (case rdH => walk_at "sq"))
  | ((with_reducible refine' RB.lenT ?rdH ?rdK); (case rdH => walk_at "st"))
  | ((with_reducible refine' RB.lenS ?rdH ?rdK); (case rdH => walk_at "sz"))
  | ((with_reducible refine' RD.lenS ?rdH ?rdK); (case rdH => walk_at "sz"))
  | ((with_reducible refine' RB.slT ?rdH ?rdK); (case rdH => walk_at "hp"); intro $(Lean.mkIdent `p'):ident $(Lean.mkIdent `H'):ident $(Lean.mkIdent `hs):ident $(Lean.mkIdent `hv):ident $(Lean.mkIdent `hp):ident; (try have $(Lean.mkIdent `hn):ident := two_ne $(Lean.mkIdent `hp):ident (by walk_at "na") (by walk_at "hk")))
  | ((with_reducible refine' RB.revV ?rdH ?rdK); (case rdH => walk_at "st"); intro $(Lean.mkIdent `p'):ident $(Lean.mkIdent `H'):ident $(Lean.mkIdent `hp):ident $(Lean.mkIdent `hs):ident $(Lean.mkIdent `hv):ident; (try have $(Lean.mkIdent `hn):ident := hand_ne $(Lean.mkIdent `hp):ident (by walk_at "hk")))
  | ((with_reducible refine' RB.listS ?rdH ?rdK); (case rdH => walk_at "sz"); intro $(Lean.mkIdent `p'):ident $(Lean.mkIdent `H'):ident $(Lean.mkIdent `hp):ident $(Lean.mkIdent `hs):ident $(Lean.mkIdent `hv):ident; (try have $(Lean.mkIdent `hn):ident := hand_ne $(Lean.mkIdent `hp):ident (by walk_at "hk")))
  | ((with_reducible refine' RB.listO ?rdH ?rdK); (case rdH => first | exact Or.inl (by walk_at "sq") | exact Or.inr (by walk_at "st")); intro $(Lean.mkIdent `p'):ident $(Lean.mkIdent `H'):ident $(Lean.mkIdent `hp):ident $(Lean.mkIdent `hs):ident $(Lean.mkIdent `hv):ident; (try have $(Lean.mkIdent `hn):ident := hand_ne $(Lean.mkIdent `hp):ident (by walk_at "hk")))
  | ((with_reducible refine' RB.tupL ?rdH ?rdK); (case rdH => walk_at "sq"); intro $(Lean.mkIdent `p'):ident $(Lean.mkIdent `H'):ident $(Lean.mkIdent `hp):ident $(Lean.mkIdent `hs):ident $(Lean.mkIdent `hv):ident; (try have $(Lean.mkIdent `hn):ident := hand_ne $(Lean.mkIdent `hp):ident (by walk_at "hk")))
  | ((with_reducible refine' RB.catT ?rdH ?rdE ?rdZ ?rdK); (case rdH => walk_at "hp"); (case rdE => walk_at "hp"); (case rdZ => exact RB.LN.sum (by walk_at "ln") (by walk_at "ln") rfl); intro $(Lean.mkIdent `p'):ident $(Lean.mkIdent `H'):ident $(Lean.mkIdent `hs):ident $(Lean.mkIdent `hv):ident $(Lean.mkIdent `hp):ident; (try have $(Lean.mkIdent `hn):ident := three_ne $(Lean.mkIdent `hp):ident (by walk_at "na") (by walk_at "na") (by walk_at "hk")))
  | fail "no")
local macro_rules | `(tactic| walk_at "ln") => `(tactic| first | with_reducible assumption | exact RB.LN.cut (by walk_at "ln") | exact RB.LN.app (by walk_at "ln") (by walk_at "ln") | exact RB.LN.rev (by walk_at "ln") | exact RB.LN.rep (by walk_at "ln") | exact RB.LN.lit rfl | fail "no")
local macro_rules | `(tactic| walk_at "sz") => `(tactic| first | assumption | exact RD.sz _ | fail "no")

local macro_rules | `(tactic| walk_at "dk") => `(tactic| first | exact FR.rd_of (by walk_at "hp") | exact Or.inr ⟨_, by walk_at "hp"⟩ | fail "no")
local macro_rules | `(tactic| walk_at "rd") => `(tactic| first
  | with_reducible refine FR.dget ?_
  | with_reducible refine FR.din ?_
  | with_reducible refine FR.dnotin ?_
  | with_reducible refine FR.dc ?_
  | with_reducible refine FR.ikeys ?_
  | with_reducible refine FR.ivals ?_
  | with_reducible refine FR.bm0 ?_
  | ((with_reducible refine' FR.dinS ?rdH ?rdK); (case rdH => walk_at "dk"))
  | ((with_reducible refine' FR.keysV ?rdH ?rdK); (case rdH => walk_at "hp"))
  | ((with_reducible refine' FR.valsV ?rdH ?rdK); (case rdH => walk_at "hp"))
  | ((with_reducible refine' FR.bmD ?rdH ?rdK); (case rdH => walk_at "hp"))
  | with_reducible refine FR.ckw ?_
  | ((with_reducible refine' FR.lenD ?rdH ?rdK); (case rdH => walk_at "hp"))
  | fail "no")

/-! ### the machine of fronts -/
abbrev ER := Str × Addr × List (Nat × Str)
def one (a : Nat) : Str := ⟨#[a]⟩
def inn (l : List (Nat × Str)) : List (Key × V) := FR.kvm (fun p : Nat × Str => one p.1) (fun p => .str p.2) l
def out (es : List ER) : List (Key × V) := FR.kvm (fun e : ER => e.1) (fun e => .ref e.2.1) es
def keys (es : List ER) : List Str := es.map (·.1)
def rowOf (zs : List Str) (f : Str) (l : List Nat) : List (Nat × Str) := l.filterMap fun a => if FL.ends (pl zs) (toL f ++ [a]) = true then none else some (a, lfS (frOf zs) (f ++ one a))
abbrev frL (zs : List Str) : List (List Nat) := (frOf zs).map toL
abbrev SP (zs : List Str) : List Nat → Nat → List Nat → Prop := FL.Stp (pl zs) (frL zs) (lts zs)
theorem one_inj {a b : Nat} (h : one a = one b) : a = b := by
  have := congrArg toL h
  simpa [one, toL] using this
theorem ones_nodup {l : List (Nat × Str)} (n : (l.map (·.1)).Nodup) : (l.map fun p : Nat × Str => one p.1).Nodup := by
  rw [show (l.map fun p : Nat × Str => one p.1) = (l.map (·.1)).map one by rw [List.map_map]; rfl]
  exact List.pairwise_map.mpr (n.imp fun h e => h (one_inj e))
theorem rowOf_fst (zs : List Str) (f : Str) : ∀ l : List Nat, ∃ m : List Nat, (rowOf zs f l).map (·.1) = m ∧ m.Sublist l
  | [] => ⟨[], rfl, List.Sublist.refl _⟩
  | a :: l => by
    obtain ⟨m, e, s⟩ := rowOf_fst zs f l
    unfold rowOf at e ⊢
    by_cases h : FL.ends (pl zs) (toL f ++ [a]) = true
    · rw [List.filterMap_cons_none (by rw [if_pos h])]
      exact ⟨m, e, s.cons _⟩
    · rw [List.filterMap_cons_some (by rw [if_neg h]), List.map_cons, e]
      exact ⟨_, rfl, s.cons₂ _⟩
theorem rowOf_nodup {zs : List Str} {f : Str} {l : List Nat} (n : l.Nodup) : ((rowOf zs f l).map (·.1)).Nodup := by
  obtain ⟨m, e, s⟩ := rowOf_fst zs f l
  rw [e]
  exact s.nodup n
theorem rowOf_mem {zs : List Str} {f : Str} {l : List Nat} {a : Nat} {r : Str} : (a, r) ∈ rowOf zs f l ↔ a ∈ l ∧ FL.ends (pl zs) (toL f ++ [a]) = false ∧ r = lfS (frOf zs) (f ++ one a) := by
  unfold rowOf
  rw [List.mem_filterMap]
  constructor
  · rintro ⟨b, hb, e⟩
    by_cases h : FL.ends (pl zs) (toL f ++ [b]) = true
    · rw [if_pos h] at e
      cases e
    · rw [if_neg h] at e
      injection e with e
      injection e with e1 e2
      subst e1
      exact ⟨hb, by simpa using h, e2.symm⟩
  · rintro ⟨hb, h, rfl⟩
    exact ⟨a, hb, by rw [if_neg (by rw [h]; decide)]⟩
theorem toL_app (a b : Str) : toL (a ++ b) = toL a ++ toL b := app_list a b
theorem toL_one (a : Nat) : toL (one a) = [a] := rfl
theorem lfS_toL (fs : List Str) (w : Str) : toL (lfS fs w) = FL.lf (fs.map toL) (toL w) := rfl
theorem empty_front (zs : List Str) : ("" : Str) ∈ frOf zs := (frOf_mem zs [""] "").mpr (.inl (by simp))
theorem lfS_mem (zs : List Str) (w : Str) : lfS (frOf zs) w ∈ frOf zs := by
  have h := FL.lf_mem (fs := frL zs) (by
    have := (mem_toL (fs := frOf zs) (w := "")).mpr (empty_front zs)
    exact this) (toL w)
  rw [← lfS_toL] at h
  exact mem_toL.mp h
theorem row_stp {zs : List Str} {f r : Str} {a : Nat} : SP zs (toL f) a (toL r) ↔ a ∈ lts zs ∧ FL.ends (pl zs) (toL f ++ [a]) = false ∧ r = lfS (frOf zs) (f ++ one a) := by
  unfold SP FL.Stp
  constructor
  · rintro ⟨h1, h2, h3⟩
    exact ⟨h1, h2, toL_inj (by rw [h3, lfS_toL, toL_app, toL_one])⟩
  · rintro ⟨h1, h2, h3⟩
    exact ⟨h1, h2, by rw [h3, lfS_toL, toL_app, toL_one]⟩
/-- what the machine of fronts keeps while it grows: ws still wait -/
structure Grow (zs : List Str) (es : List ER) (ws : List Str) : Prop where
  once : (keys es).Nodup
  fr : ∀ e, e ∈ es → e.1 ∈ frOf zs
  frw : ∀ f, f ∈ ws → f ∈ frOf zs
  row1 : ∀ e, e ∈ es → (e.2.2.map (·.1)).Nodup
  row : ∀ e, e ∈ es → ∀ a r, (a, r) ∈ e.2.2 ↔ SP zs (toL e.1) a (toL r)
  next : ∀ e, e ∈ es → ∀ a r, (a, r) ∈ e.2.2 → r ∈ keys es ∨ r ∈ ws
  first : ("" : Str) ∈ keys es ∨ ("" : Str) ∈ ws
  reach : ∀ f, f ∈ keys es ∨ f ∈ ws → ∃ w, FL.Run (SP zs) [] w (toL f)
theorem Grow.few {zs : List Str} {es : List ER} {ws : List Str} (g : Good zs) (h : Grow zs es ws) : es.length ≤ 97 := by
  have h1 := FL.sub_len h.once (m := frOf zs) fun f hf => by
    obtain ⟨e, he, rfl⟩ := List.mem_map.mp hf
    exact h.fr e he
  have h2 := (fronts_ok g).few
  unfold keys at h1
  rw [List.length_map] at h1
  omega
theorem Grow.skip {zs : List Str} {es : List ER} {ws : List Str} {f : Str} (h : Grow zs es (ws ++ [f])) (hf : f ∈ keys es) : Grow zs es ws where
  once := h.once
  fr := h.fr
  frw := fun y hy => h.frw y (List.mem_append_left _ hy)
  row1 := h.row1
  row := h.row
  next := fun e he a r har => by
    rcases h.next e he a r har with z | z
    · exact .inl z
    · rcases List.mem_append.mp z with z | z
      · exact .inr z
      · rw [List.mem_singleton.mp z]
        exact .inl hf
  first := by
    rcases h.first with z | z
    · exact .inl z
    · rcases List.mem_append.mp z with z | z
      · exact .inr z
      · rw [List.mem_singleton.mp z]
        exact .inl hf
  reach := fun y hy => h.reach y (hy.imp_right fun z => List.mem_append_left _ z)
theorem Grow.add {zs : List Str} {es : List ER} {ws : List Str} {f o : Str} {p : Addr} (h : Grow zs es (ws ++ [f])) (hf : f ∉ keys es) (ho : OwnW zs o) : Grow zs (es ++ [(f, p, rowOf zs f (toL o))]) (ws ++ (rowOf zs f (toL o)).map (·.2)) := by
  have hk : keys (es ++ [(f, p, rowOf zs f (toL o))]) = keys es ++ [f] := by
    unfold keys
    rw [List.map_append]
    rfl
  have hff : f ∈ frOf zs := h.frw f (by simp)
  have hrow : ∀ a r, (a, r) ∈ rowOf zs f (toL o) ↔ SP zs (toL f) a (toL r) := fun a r => by
    rw [rowOf_mem, row_stp, (ho.facts.2 a)]
  obtain ⟨w, hw⟩ := h.reach f (.inr (by simp))
  refine ⟨?_, ?_, ?_, ?_, ?_, ?_, ?_, ?_⟩
  · rw [hk]
    exact List.nodup_append.mpr ⟨h.once, by simp, fun a ha b hb e => by
      rw [List.mem_singleton] at hb
      subst hb e
      exact hf ha⟩
  · intro e he
    rcases List.mem_append.mp he with z | z
    · exact h.fr e z
    · rw [List.mem_singleton.mp z]
      exact hff
  · intro y hy
    rcases List.mem_append.mp hy with z | z
    · exact h.frw y (List.mem_append_left _ z)
    · obtain ⟨⟨a, r⟩, har, rfl⟩ := List.mem_map.mp z
      rw [(rowOf_mem.mp har).2.2]
      exact lfS_mem zs _
  · intro e he
    rcases List.mem_append.mp he with z | z
    · exact h.row1 e z
    · rw [List.mem_singleton.mp z]
      exact rowOf_nodup ho.facts.1
  · intro e he
    rcases List.mem_append.mp he with z | z
    · exact h.row e z
    · rw [List.mem_singleton.mp z]
      exact hrow
  · intro e he a r har
    rw [hk]
    rcases List.mem_append.mp he with z | z
    · rcases h.next e z a r har with y | y
      · exact .inl (List.mem_append_left _ y)
      · rcases List.mem_append.mp y with y | y
        · exact .inr (List.mem_append_left _ y)
        · rw [List.mem_singleton.mp y]
          exact .inl (by simp)
    · rw [List.mem_singleton.mp z] at har
      exact .inr (List.mem_append_right _ (List.mem_map.mpr ⟨_, har, rfl⟩))
  · rw [hk]
    rcases h.first with y | y
    · exact .inl (List.mem_append_left _ y)
    · rcases List.mem_append.mp y with y | y
      · exact .inr (List.mem_append_left _ y)
      · rw [← List.mem_singleton.mp y]
        exact .inl (by simp)
  · intro y hy
    rw [hk] at hy
    rcases hy with hy | hy
    · rcases List.mem_append.mp hy with z | z
      · exact h.reach y (.inl z)
      · exact h.reach y (.inr (List.mem_append_right _ z))
    · rcases List.mem_append.mp hy with z | z
      · exact h.reach y (.inr (List.mem_append_left _ z))
      · obtain ⟨⟨a, r⟩, har, rfl⟩ := List.mem_map.mp z
        exact ⟨_, .snoc hw ((hrow a r).mp har)⟩
theorem grow0 (zs : List Str) : Grow zs [] [""] where
  once := List.nodup_nil
  fr := fun e he => (List.not_mem_nil he).elim
  frw := fun f hf => by
    rw [List.mem_singleton.mp hf]
    exact empty_front zs
  row1 := fun e he => (List.not_mem_nil he).elim
  row := fun e he => (List.not_mem_nil he).elim
  next := fun e he => (List.not_mem_nil he).elim
  first := .inr (by simp)
  reach := fun f hf => by
    rcases hf with hf | hf
    · exact (List.not_mem_nil hf).elim
    · rw [List.mem_singleton.mp hf]
      exact ⟨[], .nil⟩
/-- how it lies -/
structure StepsAt (H : Hp) (d : Addr) (es : List ER) : Prop where
  at_ : H d = some (.dK (out es))
  rows : ∀ e, e ∈ es → H e.2.1 = some (.dK (inn e.2.2)) ∧ e.2.1 ≠ d
theorem StepsAt.same {H H' : Hp} {d : Addr} {es : List ER} (s : Same H H') (h : StepsAt H d es) : StepsAt H' d es := ⟨s _ _ h.at_, fun e he => ⟨s _ _ (h.rows e he).1, (h.rows e he).2⟩⟩
theorem StepsAt.get {H : Hp} {d : Addr} {es : List ER} (n : (keys es).Nodup) {e : ER} (he : e ∈ es) : valV (out es) (Sum.inr e.1) = some (.ref e.2.1) := FR.kvm_at n e he
theorem out_in (es : List ER) (f : Str) : (valV (out es) (Sum.inr f)).isSome = decide (f ∈ keys es) := FR.kvm_some _ _ f es
theorem out_put {es : List ER} {e : ER} (h : e.1 ∉ keys es) : putK (out es) (Sum.inr e.1) (.ref e.2.1) = out (es ++ [e]) := FR.kvm_put (l := es) (a := e) h
theorem inn_put {l : List (Nat × Str)} {a : Nat} {r : Str} (h : a ∉ l.map (·.1)) : putK (inn l) (Sum.inr (one a)) (.str r) = inn (l ++ [(a, r)]) :=
  FR.kvm_put (k := fun p : Nat × Str => one p.1) (v := fun p : Nat × Str => V.str p.2) (l := l) (a := (a, r)) fun z => by
    obtain ⟨p, hp, e⟩ := List.mem_map.mp z
    exact h (List.mem_map.mpr ⟨p, hp, one_inj e⟩)
theorem inn_at {l : List (Nat × Str)} (n : (l.map (·.1)).Nodup) {a : Nat} {r : Str} (h : (a, r) ∈ l) : valV (inn l) (Sum.inr (one a)) = some (.str r) :=
  FR.kvm_at (k := fun p : Nat × Str => one p.1) (v := fun p : Nat × Str => V.str p.2) (ones_nodup n) (a, r) h
theorem out_any (es : List ER) (f : Str) (p : Addr) (r r' : List (Nat × Str)) : out (es ++ [(f, p, r)]) = out (es ++ [(f, p, r')]) := by
  unfold out FR.kvm
  rw [List.map_append, List.map_append]
  rfl
theorem rowOf_add (zs : List Str) (f : Str) {l : List Nat} {i c : Nat} (h : l[i]? = some c) : rowOf zs f (l.take (i + 1)) = rowOf zs f (l.take i) ++ (if FL.ends (pl zs) (toL f ++ [c]) = true then [] else [(c, lfS (frOf zs) (f ++ one c))]) := by
  unfold rowOf
  rw [List.take_add_one, h, List.filterMap_append]
  by_cases e : FL.ends (pl zs) (toL f ++ [c]) = true
  · rw [if_pos e]
    rw [show (some c).toList = [c] from rfl, List.filterMap_cons_none (by rw [if_pos e])]
    rfl
  · rw [if_neg e]
    rw [show (some c).toList = [c] from rfl, List.filterMap_cons_some (by rw [if_neg e])]
    rfl
theorem row_new {zs : List Str} {f : Str} {l : List Nat} {i c : Nat} (n : l.Nodup) (h : l[i]? = some c) : c ∉ (rowOf zs f (l.take i)).map (·.1) := fun z => by
  obtain ⟨⟨a, r⟩, har, rfl⟩ := List.mem_map.mp z
  have hm := (rowOf_mem.mp har).1
  obtain ⟨j, hj, e⟩ := List.mem_iff_getElem.mp hm
  rw [List.length_take] at hj
  rw [List.getElem_take] at e
  obtain ⟨hi, e2⟩ := List.getElem?_eq_some_iff.mp h
  have := (List.getElem_inj (h₀ := by omega) (h₁ := hi) n).mp (e.trans e2.symm)
  omega
/-- the machine of fronts, whole -/
structure Steps (zs : List Str) (es : List ER) : Prop where
  grow : Grow zs es []
  good : Good zs
def spNext (C : Addr) : Sp := fun vs H Q _ => ∃ (b : Addr) (zs : List Str), vs = [.ref b] ∧ BK C H b zs ∧ ∀ d es H', Steps zs es → H d = none → StepsAt H' d es → Same H H' → Q (.ref d) H'
theorem spNext.mk {C b : Addr} {zs : List Str} {H : Hp} {Q : VK} {E : XK} (h : BK C H b zs) (q : ∀ d es H', Steps zs es → H d = none → StepsAt H' d es → Same H H' → Q (.ref d) H') : spNext C ([.ref b] ++ []) H Q E := ⟨b, zs, rfl, h, q⟩
theorem front_size {zs : List Str} (g : Good zs) {f : Str} (h : f ∈ frOf zs) : f.cps.size ≤ 8 := by
  rcases ((fronts_ok g).mem f).mp h with e | ⟨p, hp, i, hi, e⟩
  · rw [← Array.length_toList, show f.cps.toList = [] from e]
    exact Nat.zero_le _
  · obtain ⟨z, hz, rfl⟩ := List.mem_map.mp hp
    have h8 := (piece_size (g.piece z hz)).2
    rw [← Array.length_toList, show f.cps.toList = _ from e, List.length_take]
    rw [← Array.length_toList] at h8
    exact Nat.le_trans (Nat.min_le_right _ _) h8
section
variable {P : Program} {w : World} {K : PySem.W.Frag} {mg : Str → Option Value} {base : Heap}
theorem ok_next_fronts (T : Txt P K mg) : FnOk P w K mg base CX0 2 T.a_next_fronts T.fd_next_fronts ["book"] (spNext T.C_Book) := by
  have nd := sc_next_fronts.nd
  have G_fronts_of : FnOk P w K mg base CX0 1 T.a_fronts_of T.fd_fronts_of ["book"] (spFrontsOf T.C_Book) := ok_fronts_of T
  have G_letters : FnOk P w K mg base CX0 1 T.a_letters T.fd_letters ["book"] (spLetters T.C_Book) := ok_letters T
  have G_longest_front : FnOk P w K mg base CX0 1 T.a_longest_front T.fd_longest_front ["fronts", "text"] spLongest := ok_longest_front T
  refine T.F_next_fronts.ok sc_next_fronts (fun vs H Q E h => ?_) (fun cdv A outer s H vs Q E hr h => ?_)
  · obtain ⟨b, zs, rfl, _⟩ := h
    rfl
  · obtain ⟨b, zs, rfl, hB, q⟩ := h
    refine ⟨_, (pss_cons (ps_set (i := 1) nd rfl (by first | exact Or.inl rfl | exact Or.inr rfl) (pe_call G_fronts_of hr (by rfl) T.g_fronts_of T.F_fronts_of.kp T.b_fronts_of .nil pass0 (pa_cons (pv 0) pa_nil)))
  (pss_cons (ps_set (i := 2) nd rfl (by first | exact Or.inl rfl | exact Or.inr rfl) pe_dnewK)
  (pss_cons (ps_set (i := 3) nd rfl (by first | exact Or.inl rfl | exact Or.inr rfl) (pe_lst (pa_cons pe_str pa_nil)))
  (pss_cons (ps_while PassesOwn.never (pt_cmpR op_gt (pe_callB call_len_seq (by rfl) T.m_len PySem.boot_len (pa_cons (pv 3) pa_nil)) pe_int (nomark _))
    (pss_cons (ps_set (i := 4) nd rfl (by first | exact Or.inl rfl | exact Or.inr rfl) (pe_bm0 PySem.F.plainAttrs_list PySem.F.slot_list_pop PySem.F.type_list_pop mt_pop (pv 3)))
  (pss_one (ps_if (pt_cmp (pc_dnotin (SPE.room1 hr) (pv 4) (pv 2)))
    (pss_cons (ps_asg pe_dnewK (pg_sub (pv 2) (pv 4) (set_dict (SPE.room1 hr))))
  (pss_one (ps_for PassesOwn.never rfl (pi_str (pe_call G_letters hr (by rfl) T.g_letters T.F_letters.kp T.b_letters .nil pass0 (pa_cons (pv 0) pa_nil))) (pg_name (i := 5) nd rfl (by first | exact Or.inl rfl | exact Or.inr rfl))
    (pss_cons (ps_set (i := 6) nd rfl (by first | exact Or.inl rfl | exact Or.inr rfl) (pe_op op_add_str (pv 4) (pv 5)))
  (pss_one (ps_if (pt_not (pt_val (pe_callB (cr_any rfl) (by rfl) T.m_any (by decide +kernel) (pa_cons (pe_lc (own := [("piece", 7)]) (g := (gName 7)) rfl nd (pi_tup (pe_fld (pv 0) rfl)) (blkOk_by (own := [("piece", 7)]) (N := N_next_fronts) (sc := defScope s_next_fronts) (by decide +kernel)) (fun _ _ _ _ _ => (pg_name (i := 7) nd rfl (Or.inl rfl))) (fun _ _ _ _ _ => pts_nil) (fun _ _ _ _ _ => (RB.pe_bmK (K := K) rfl PySem.F.plainAttrs_str PySem.F.slot_str_endswith PySem.F.type_str_endswith mt_endswith (pv 6) (pa_cons (pv 7) pa_nil)))) pa_nil))))
    (pss_cons (ps_asg (pe_call G_longest_front hr (by rfl) T.g_longest_front T.F_longest_front.kp T.b_longest_front .nil pass0 (pa_cons (pv 1) (pa_cons (pv 6) pa_nil))) (pg_sub (pe_dget (SPE.room1 hr) (pv 2) (pv 4) (fun _ _ => rfl)) (pv 5) (set_dict (SPE.room1 hr))))
  (pss_one (ps_expr (pe_bm PySem.F.plainAttrs_list PySem.F.slot_list_append PySem.F.type_list_append mt_append (pv 3) (pa_cons (pe_dget (SPE.room1 hr) (pe_dget (SPE.room1 hr) (pv 2) (pv 4) (fun _ _ => rfl)) (pv 5) (fun _ _ => rfl)) pa_nil)))))
    pss_nil))))))
    pss_nil))))
  (pss_one (ps_ret (pv 2))))))), ?_⟩
    have g := hB.good
    walk_at "rds"
    refine spFrontsOf.mk hB fun d0 H1 hd0 s1 h1 => ?_
    have hB1 := hB.same s1
    walk_at "rds"
    rename_i d H2 hd s2 hd2
    have s03 : Same H H' := (s1.trans s2).trans hs
    have hq := hv
    have hd3 := hs _ _ hd2
    have h03 := hs _ _ (s2 _ _ h1)
    have hdH : H d = none := s1.free hd
    have hqH : H p' = none := s1.free (s2.free hp)
    have ndq : d ≠ p' := ne_of_none hd2 hp
    have n0d : d0 ≠ d := ne_of_none h1 hd
    have n0q : d0 ≠ p' := ne_of_none (s2 _ _ h1) hp
    clear hv hs hp hd2 s2 hd h1 s1 hB1 
    generalize p' = qa at hq hqH ndq n0q ⊢
    generalize H' = H3 at s03 hq hd3 h03 ⊢
    refine FR.whileG (fun m σ H' => ∃ (es : List ER) (ws : List Str) (x4 x5 x6 x7 : Option V), σ = [some (.ref b), some (.ref d0), some (.ref d), some (.ref qa), x4, x5, x6, x7] ∧ Same H H' ∧ H' d0 = some (.dK (tt (frOf zs))) ∧ StepsAt H' d es ∧ (∀ e, e ∈ es → e.2.1 ≠ d0 ∧ e.2.1 ≠ qa) ∧
      H' qa = some (.lst (ws.map V.str)) ∧ Grow zs es ws ∧ m ≤ 900 ∧ m = (97 - es.length) * 9 + ws.length) (97 * 9 + 1) ⟨[], [""], _, _, _, _, rfl, s03, h03, ⟨hd3, fun e he => (List.not_mem_nil he).elim⟩, fun e he => (List.not_mem_nil he).elim, hq, grow0 zs, by omega, rfl⟩ (fun m σ H4 p => ?_)
    obtain ⟨es, ws, x4, x5, x6, x7, rfl, s4, h04, hst, hne, hq4, hg, h900, rfl⟩ := p
    clear s03 hq hd3 h03
    have few := hg.few g
    walk_at "rds"
    refine RD.ite_d (fun hpos => ?_) (fun hpos => ?_)
    · rw [List.length_map] at hpos
      obtain ⟨ws, f, rfl⟩ : ∃ (ws' : List Str) (f : Str), ws = ws' ++ [f] := by
        rcases List.eq_nil_or_concat ws with e | ⟨r, a, e⟩
        · rw [e] at hpos
          exact absurd hpos (by decide)
        · exact ⟨r, a, by rw [e, List.concat_eq_append]⟩
      refine FR.wnext ?_
      have hf8 := front_size g (hg.frw f (by simp))
      rw [List.map_append] at hq4
      have hd4 := hst.at_
      walk_at "rds"
      refine FR.popV hq4 fun H5 k5 hq5 => ?_
      have hd5 := k5 _ _ ndq hd4
      have h05 := k5 _ _ n0q h04
      have s5 : Same H H5 := RD.same_mut k5 s4 hqH
      have hrows : ∀ e, e ∈ es → H5 e.2.1 = some (.dK (inn e.2.2)) ∧ e.2.1 ≠ d := fun e he => ⟨k5 _ _ (hne e he).2 (hst.rows e he).1, (hst.rows e he).2⟩
      clear hd4 h04 hst hq4 s4 k5
      walk_at "rds"
      rw [out_in]
      refine RD.ite_nd (fun hf => ?_) (fun hf => ?_)
      · walk_at "rds"
        have hep : H p' = none := s5.free hp
        have epd : p' ≠ d := (ne_of_none hd5 hp).symm
        have ep0 : p' ≠ d0 := (ne_of_none h05 hp).symm
        have epq : p' ≠ qa := (ne_of_none hq5 hp).symm
        have epr : ∀ e, e ∈ es → e.2.1 ≠ p' := fun e he => ne_of_none (hrows e he).1 hp
        refine FR.dputS (hs _ _ hd5) (RD.szl (by unfold out; rw [FR.kvm_len]; omega)) fun H6 k6 h6 => ?_
        rw [show putK (out es) (Sum.inr f) (V.ref p') = out (es ++ [(f, p', [])]) from out_put (e := (f, p', [])) hf] at h6
        have hp6 := k6 _ _ epd hv
        have h06 := k6 _ _ n0d (hs _ _ h05)
        have hq6 := k6 _ _ ndq.symm (hs _ _ hq5)
        have hr6 : ∀ e, e ∈ es → H6 e.2.1 = some (.dK (inn e.2.2)) := fun e he => k6 _ _ (hrows e he).2 (hs _ _ (hrows e he).1)
        have s6 : Same H H6 := RD.same_mut k6 (s5.trans hs) hdH
        have her : ∀ e, e ∈ es → e.2.1 ≠ d := fun e he => (hrows e he).2
        clear hv h05 hq5 hrows s5 hd5 hs hp k6
        walk_at "rds"
        refine spLetters.mk (hB.same s6) fun o H7 ho s7 => ?_
        have hp7 := s7 _ _ hp6
        have h07 := s7 _ _ h06
        have hq7 := s7 _ _ hq6
        have hd7 := s7 _ _ h6
        have hr7 : ∀ e, e ∈ es → H7 e.2.1 = some (.dK (inn e.2.2)) := fun e he => s7 _ _ (hr6 e he)
        have s07 := s6.trans s7
        have hg2 := hg.add (p := p') hf ho
        have few2 := hg2.few g
        have hon := ho.facts.1
        have ho8 := ho.size g
        rw [out_any es f p' [] (rowOf zs f (toL o))] at hd7
        clear hp6 h06 hq6 h6 hr6 s6 s7
        walk_at "rds"
        refine RD.forW RB.w_str (fun i σ H' => ∃ (x5 x6 x7 : Option V), σ = [some (.ref b), some (.ref d0), some (.ref d), some (.ref qa), some (.str f), x5, x6, x7] ∧ Same H H' ∧ H' d0 = some (.dK (tt (frOf zs))) ∧ H' d = some (.dK (out (es ++ [(f, p', rowOf zs f (toL o))]))) ∧
          (∀ e, e ∈ es → H' e.2.1 = some (.dK (inn e.2.2))) ∧ H' p' = some (.dK (inn (rowOf zs f ((toL o).take i)))) ∧ H' qa = some (.lst ((ws ++ (rowOf zs f ((toL o).take i)).map (·.2)).map V.str)))
          ⟨_, _, _, rfl, s07, h07, hd7, hr7, hp7, by rw [hq7]; rw [show (rowOf zs f ((toL o).take 0)) = [] from rfl, List.map_nil, List.append_nil]⟩ (fun _ _ _ _ _ => trivial) (fun i v σ H8 H9 hi p hy => ?_) (fun σ H8 p => ?_)
        · obtain ⟨x5, x6, x7, rfl, s8, h08, hd8, hr8, hp8, hq8⟩ := p
          obtain ⟨rfl, hx⟩ := hy
          rw [List.getElem?_map] at hx
          obtain ⟨c, hc, rfl⟩ := Option.map_eq_some_iff.mp hx
          clear s07 h07 hd7 hr7 hp7 hq7
          walk_at "rds"
          obtain ⟨⟨t, ⟨dx, hb⟩, ht⟩, _⟩ := hB.same s8
          have hc1 : ((⟨#[c]⟩ : Str)).length = 1 := rfl
          have hfl : f.length = f.cps.size := rfl
          refine RB.addS (RD.szo (by omega)) ?_
          walk_at "rds"
          refine RB.fldV hb T.cl_Book T.no_Book_pieces rfl ?_
          walk_at "rds"
          refine RD.lcF (walk_tup (xs := zs.map V.str)) (by rw [List.length_map]; have := g.few; omega) (fun j => (zs[j]?).map fun z => .bl ((toL z).isSuffixOf (toL f ++ [c]))) (fun H' s => by walk_at "st") (fun j v H10 Z N hj hx2 s10 hZ hN => ?_) (fun D H10 hD s10 hv10 => ?_)
          · rw [List.getElem?_map] at hx2
            obtain ⟨z, hz, rfl⟩ := Option.map_eq_some_iff.mp hx2
            walk_at "rds"
            refine ⟨rfl, ?_⟩
            walk_at "rds"
            refine ⟨_, _, rfl, rfl, ?_⟩
            rw [FL.ends_iff]
            exact hZ _ _ (by rw [hz]; refine congrArg (fun b => some (V.bl b)) ?_; rw [show (f ++ (⟨#[c]⟩ : Str)).cps.toList = toL f ++ [c] from app_list _ _]) (Same.refl _)
          · rw [List.length_map, RD.range_get (fun z => V.bl ((toL z).isSuffixOf (toL f ++ [c]))), show (zs.map fun z => V.bl ((toL z).isSuffixOf (toL f ++ [c]))) = (zs.map fun z => (toL z).isSuffixOf (toL f ++ [c])).map V.bl by rw [List.map_map]; rfl] at hv10
            have e2 : (zs.map fun z => (toL z).isSuffixOf (toL f ++ [c])).any id = FL.ends (pl zs) (toL f ++ [c]) := by
              unfold FL.ends pl
              rw [List.any_map, List.any_map]
              rfl
            have hd10 := s10 _ _ hd8
            have h010 := s10 _ _ h08
            have hp10 := s10 _ _ hp8
            have hq10 := s10 _ _ hq8
            have hr10 : ∀ e, e ∈ es → H10 e.2.1 = some (.dK (inn e.2.2)) := fun e he => s10 _ _ (hr8 e he)
            have sx := s8.trans s10
            have hadd := rowOf_add zs f (l := toL o) (i := i) (c := c) hc
            have hnew := row_new (zs := zs) (f := f) hon (i := i) (c := c) hc
            have hgo : valV (out (es ++ [(f, p', rowOf zs f (toL o))])) (Sum.inr f) = some (.ref p') := StepsAt.get (H := H10) (d := d) hg2.once (e := (f, p', rowOf zs f (toL o))) (by simp)
            clear hd8 h08 hp8 hq8 hr8 s8 s10 hb ht
            walk_at "rds"
            rw [e2]
            refine RD.ite_b (fun he => ?_) (fun he => ?_)
            · have he : FL.ends (pl zs) (toL f ++ [c]) = false := by simpa using he
              rw [if_neg (by rw [he]; decide)] at hadd
              walk_at "rds"
              refine spLongest.mk (E := E0) h010 (empty_front zs) (by show (f ++ (⟨#[c]⟩ : Str)).cps.size ≤ _; rw [app_size]; have e1 : (⟨#[c]⟩ : Str).cps.size = 1 := rfl; omega) ?_
              walk_at "rds"
              refine FR.dgetS (.inl hd10) hgo ?_
              walk_at "rds"
              have hrl : (rowOf zs f ((toL o).take i)).length ≤ 8 := by
                have h1 : (rowOf zs f ((toL o).take i)).length ≤ ((toL o).take i).length := List.length_filterMap_le _ _
                rw [List.length_take, show (toL o).length = o.cps.size from Array.length_toList] at h1
                omega
              refine FR.dputS (z := one c) hp10 (RD.szl (by unfold inn; rw [FR.kvm_len]; omega)) fun H11 k11 h11 => ?_
              rw [inn_put hnew] at h11
              have h11 : H11 p' = some (.dK (inn (rowOf zs f ((toL o).take (i + 1))))) := by
                rw [hadd]
                exact h11
              have hd11 := k11 _ _ epd.symm hd10
              have h011 := k11 _ _ ep0.symm h010
              have hq11 := k11 _ _ epq.symm hq10
              have hr11 : ∀ e, e ∈ es → H11 e.2.1 = some (.dK (inn e.2.2)) := fun e he => k11 _ _ (epr e he) (hr10 e he)
              have s11 := RD.same_mut k11 sx hep
              clear hd10 h010 hp10 hq10 hr10 sx hv10
              walk_at "rds"
              refine FR.dgetS (.inl hd11) hgo ?_
              walk_at "rds"
              refine FR.dgetS (z := one c) (.inl h11) (inn_at (rowOf_nodup ((List.take_sublist _ _).nodup hon)) (r := lfS (frOf zs) (f ++ one c)) (by rw [hadd]; simp)) ?_
              walk_at "rds"
              have hwl : ws.length ≤ 900 := by
                rw [List.length_append] at h900
                omega
              refine RD.app hq11 (RD.szl (by rw [List.length_map, List.length_append, List.length_map]; omega)) fun H12 k12 h12 => ⟨_, _, _, rfl, RD.same_mut k12 s11 hqH, k12 _ _ n0q h011, k12 _ _ ndq hd11, fun e he => k12 _ _ (hne e he).2 (hr11 e he), k12 _ _ epq h11, ?_⟩
              rw [h12, hadd]
              simp only [List.map_append, List.map_cons, List.map_nil, List.append_assoc]
            · have he : FL.ends (pl zs) (toL f ++ [c]) = true := by simpa using he
              rw [if_pos he, List.append_nil] at hadd
              walk_at "rds"
              refine ⟨_, _, _, rfl, sx, h010, hd10, hr10, ?_, ?_⟩
              · rw [hadd]
                exact hp10
              · rw [hadd]
                exact hq10
        · obtain ⟨x5, x6, x7, rfl, s8, h08, hd8, hr8, hp8, hq8⟩ := p
          rw [show o.cps.size = (toL o).length from Array.length_toList.symm, List.take_length] at hp8 hq8
          have hrl : (rowOf zs f (toL o)).length ≤ 8 := by
            have h1 : (rowOf zs f (toL o)).length ≤ (toL o).length := List.length_filterMap_le _ _
            rw [show (toL o).length = o.cps.size from Array.length_toList] at h1
            omega
          refine ⟨(97 - (es ++ [(f, p', rowOf zs f (toL o))]).length) * 9 + (ws ++ (rowOf zs f (toL o)).map (·.2)).length, ?_, es ++ [(f, p', rowOf zs f (toL o))], ws ++ (rowOf zs f (toL o)).map (·.2), _, _, _, _, rfl, s8, h08, ⟨hd8, fun e he => ?_⟩, fun e he => ?_, hq8, hg2, ?_, rfl⟩
          · rw [List.length_append, List.length_append, List.length_append, List.length_map, List.length_singleton, List.length_singleton] at *
            omega
          · rcases List.mem_append.mp he with z | z
            · exact ⟨hr8 e z, her e z⟩
            · rw [List.mem_singleton.mp z]
              exact ⟨hp8, epd⟩
          · rcases List.mem_append.mp he with z | z
            · exact hne e z
            · rw [List.mem_singleton.mp z]
              exact ⟨ep0, epq⟩
          · rw [List.length_append, List.length_singleton] at h900
            rw [List.length_append, List.length_append, List.length_map, List.length_singleton] at *
            omega
      · walk_at "rds"
        exact ⟨_, by rw [List.length_append]; exact Nat.lt_succ_self _, es, ws, _, _, _, _, rfl, s5, h05, ⟨hd5, hrows⟩, hne, hq5, hg.skip hf, by rw [List.length_append] at h900; omega, rfl⟩
    · have e : ws = [] := by
        rw [List.length_map] at hpos
        exact List.eq_nil_of_length_eq_zero (by omega)
      subst e
      walk_at "rds"
      exact q _ es _ ⟨hg, g⟩ hdH hst s4
end


end K11

namespace K11
open PySem PySem.Spec PyProof.Rows L2
local macro_rules | `(tactic| walk_at "kd") => `(tactic| first | assumption | exact SPD.KdOf.int _ | exact SPD.KdOf.str _ | exact SPD.KdOf.bl _ | exact SPD.KdOf.non | exact SPD.KdOf.same (by assumption) (by walk_at "kd") | exact SPD.KdOf.tup (by walk_at "hp") | exact SPD.KdOf.lst (by walk_at "hp") | fail "no")
local macro_rules | `(tactic| walk_at "ne") => `(tactic| first | assumption | exact Ne.symm (by assumption) | fail "no")
local macro_rules | `(tactic| walk_at "hp") => `(tactic| first | assumption | exact RD.at_same (by assumption) (by walk_at "hp") | exact RD.at_kb (by assumption) (by walk_at "ne") (by walk_at "hp") | fail "no")
local macro_rules | `(tactic| walk_at "sq") => `(tactic| first | assumption | exact Or.inl (Or.inl (by walk_at "hp")) | exact Same.seq (by assumption) (by walk_at "sq") | exact RD.KB.seq (by assumption) (by walk_at "ne") (by walk_at "sq") | fail "no")
local macro_rules | `(tactic| walk_at "st") => `(tactic| first | assumption | exact Or.inl (Or.inl (by walk_at "hp")) | exact RD.Same.tup (by assumption) (by walk_at "st") | exact RD.KB.tup (by assumption) (by walk_at "ne") (by walk_at "st") | fail "no")
local macro_rules | `(tactic| walk_at "rd") => `(tactic| first
  | with_reducible refine RD.c ?_
  | ((with_reducible refine' RD.var ?rdE ?rdK); (case rdE => exact rfl))
  | with_reducible refine RD.op ?_
  | with_reducible refine RD.un ?_
  | with_reducible refine RD.nil ?_
  | with_reducible refine RD.cons ?_
  | with_reducible refine RD.cb ?_
  | with_reducible refine RD.call ?_
  | with_reducible refine RD.test ?_
  | with_reducible refine RD.tb' ?_
  | with_reducible refine RD.bl ?_
  | with_reducible refine RD.and' ?_
  | with_reducible refine RD.or' ?_
  | with_reducible refine RD.not' ?_
  | with_reducible refine RD.andV ?_
  | with_reducible refine RD.orV ?_
  | with_reducible refine RD.notV ?_
  | with_reducible refine RD.ife ?_
  | with_reducible refine RD.sl ?_
  | with_reducible refine RD.part ?_
  | with_reducible refine RD.noPart ?_
  | with_reducible refine RD.partI ?_
  | with_reducible refine RD.rd0 ?_
  | with_reducible refine RD.rdU ?_
  | ((with_reducible refine' RD.rdEq ?rdE ?rdK); (case rdE => rfl))
  | ((with_reducible refine' RD.rdNe ?rdE ?rdK); (case rdE => rfl))
  | ((with_reducible refine' RD.ixL ?rdH ?rdE ?rdK); (case rdH => walk_at "sq"); (case rdE => first | rfl | assumption))
  | ((with_reducible refine' RD.rdI ?rdC ?rdK); (case rdC => first | assumption | (show (0 : Int) < _; first | decide | omega) | exact ⟨by decide, by decide⟩ | exact ⟨by assumption, by assumption⟩ | exact .inr ⟨by decide, by decide⟩ | exact .inl ⟨by decide, by decide⟩ | exact ⟨by decide, by decide, by decide⟩ | exact .inl ⟨by omega, by omega⟩))
  | ((with_reducible refine' RD.setL ?rdH ?rdE ?rdK); (case rdH => walk_at "hp"); (case rdE => rfl); intro $(Lean.mkIdent `H'):ident $(Lean.mkIdent `hk):ident $(Lean.mkIdent `hv):ident)
  | ((with_reducible refine' RD.irng1V ?rdA ?rdB ?rdK); (case rdA => first | decide | omega); (case rdB => first | decide | omega))
  | with_reducible refine RD.int1 ?_
  | with_reducible refine RD.abs1 ?_
  | ((with_reducible refine' RD.len ?rdH ?rdK); (case rdH => first | exact Or.inl (by walk_at "sq") | exact Or.inr (by walk_at "st")))
  | with_reducible refine RD.tup ?_
  | with_reducible refine RD.lst ?_
  | with_reducible refine RD.ite1 ?_
  | with_reducible refine RD.ite0 ?_
  | with_reducible refine RD.ite1n ?_
  | with_reducible refine RD.ite0n ?_
  | with_reducible refine RD.seq ?_
  | with_reducible refine RD.asg ?_
  | with_reducible refine RD.name ?_
  | with_reducible refine RD.ret ?_
  | with_reducible refine RD.drop ?_
  | with_reducible refine RD.next ?_
  | with_reducible refine RD.ifs ?_
  | with_reducible refine RD.par ?_
  | with_reducible refine RD.par2 ?_
  | with_reducible refine RD.sub ?_
  | with_reducible refine RD.gcons ?_
  | with_reducible refine RD.gnil ?_
  | with_reducible refine RD.bm ?_
  | ((with_reducible refine' RD.bmL ?rdH ?rdK); (case rdH => walk_at "sq"))
  | ((with_reducible refine' RD.newZ ?rdH ?rdK); (case rdH => exact RD.sz _); intro $(Lean.mkIdent `p'):ident $(Lean.mkIdent `H'):ident $(Lean.mkIdent `hp):ident $(Lean.mkIdent `hs):ident $(Lean.mkIdent `hv):ident; (try have $(Lean.mkIdent `hn):ident := hand_ne $(Lean.mkIdent `hp):ident (by walk_at "hk")))
  | with_reducible refine RD.fors ?_
  | with_reducible refine RD.lc ?_
  | with_reducible refine RD.yes ?_
  | with_reducible refine RD.ilist ?_
  | ((with_reducible refine' RD.ilistV ?rdH ?rdK); (case rdH => walk_at "sq"))
  | with_reducible refine RD.itup ?_
  | ((with_reducible refine' RD.itupV ?rdH ?rdK); (case rdH => walk_at "st"))
  | with_reducible refine RD.irng1 ?_
  | with_reducible refine RD.irng2 ?_
  | ((with_reducible refine' RD.irng2V ?rdA ?rdK); (case rdA => first | decide | omega))
  | with_reducible refine RD.ienum ?_
  | ((with_reducible refine' RD.ienumV ?rdH ?rdK); (case rdH => walk_at "sq"))
  | with_reducible refine RD.izip ?_
  | ((with_reducible refine' RD.izipV ?rdH ?rdE ?rdK); (case rdH => walk_at "sq"); (case rdE => walk_at "sq"))
  | with_reducible refine SPD.izipA ?_
  | with_reducible refine RD.istr ?_
  | with_reducible refine RD.istrV ?_
  | ((with_reducible refine' RD.slL ?rdH ?rdK); (case rdH => walk_at "sq"); intro $(Lean.mkIdent `p'):ident $(Lean.mkIdent `H'):ident $(Lean.mkIdent `hp):ident $(Lean.mkIdent `hs):ident $(Lean.mkIdent `hv):ident; (try have $(Lean.mkIdent `hn):ident := hand_ne $(Lean.mkIdent `hp):ident (by walk_at "hk")))
  | ((with_reducible refine' RD.cat ?rdH ?rdE ?rdZ ?rdK); (case rdH => walk_at "hp"); (case rdE => walk_at "hp"); (case rdZ => exact RD.sz _); intro $(Lean.mkIdent `p'):ident $(Lean.mkIdent `H'):ident $(Lean.mkIdent `hp):ident $(Lean.mkIdent `hs):ident $(Lean.mkIdent `hv):ident; (try have $(Lean.mkIdent `hn):ident := hand_ne $(Lean.mkIdent `hp):ident (by walk_at "hk")))
  | ((with_reducible refine' RD.gtup ?rdH ?rdE ?rdK); (case rdH => walk_at "st"); (case rdE => rfl))
  | ((with_reducible refine' RD.app ?rdH ?rdZ ?rdK); (case rdH => walk_at "hp"); (case rdZ => first | assumption | (apply RD.szl; omega)); intro $(Lean.mkIdent `H'):ident $(Lean.mkIdent `hk):ident $(Lean.mkIdent `hv):ident)
  | ((with_reducible refine' RD.all1 ?rdH ?rdK); (case rdH => walk_at "sq"))
  | ((with_reducible refine' RD.any1 ?rdH ?rdK); (case rdH => walk_at "sq"))
  | ((with_reducible refine' SPD.dnew ?rdK); intro $(Lean.mkIdent `p'):ident $(Lean.mkIdent `H'):ident $(Lean.mkIdent `hp):ident $(Lean.mkIdent `hs):ident $(Lean.mkIdent `hv):ident; (try have $(Lean.mkIdent `hn):ident := hand_ne $(Lean.mkIdent `hp):ident (by walk_at "hk")))
  | ((with_reducible refine' SPD.disp1 ?rdK); intro $(Lean.mkIdent `p'):ident $(Lean.mkIdent `H'):ident $(Lean.mkIdent `hp):ident $(Lean.mkIdent `hs):ident $(Lean.mkIdent `hv):ident; (try have $(Lean.mkIdent `hn):ident := hand_ne $(Lean.mkIdent `hp):ident (by walk_at "hk")))
  | ((with_reducible refine' SPD.isSeq ?rdH ?rdE ?rdK); (case rdH => walk_at "hp"); (case rdE => walk_at "kd"))
  | ((with_reducible refine' SPD.isTup ?rdE ?rdK); (case rdE => walk_at "kd"))
  | ((with_reducible refine' SPD.isLst ?rdE ?rdK); (case rdE => walk_at "kd"))
  | ((with_reducible refine' SPD.isBool ?rdE ?rdK); (case rdE => walk_at "kd"))
  | ((with_reducible refine' SPD.isStr ?rdE ?rdK); (case rdE => walk_at "kd"))
  | ((with_reducible refine' SPD.isInt ?rdE ?rdK); (case rdE => walk_at "kd"))
  | dsimp only)
local macro_rules | `(tactic| walk_at "rds") => `(tactic| repeat walk_at "rd")
local macro_rules | `(tactic| walk_at "sm") => `(tactic| first | assumption | exact Same.refl _ | exact RD.sm_tr (by assumption) (by walk_at "sm") | fail "no")
local macro_rules | `(tactic| walk_at "kb") => `(tactic| first | assumption | exact RD.KB.refl | exact RD.kb_tr (by assumption) (by walk_at "kb") | exact RD.kb_trs (by assumption) (by walk_at "kb") | fail "no")
local macro_rules | `(tactic| walk_at "fr") => `(tactic| first | assumption | exact RD.fr_of (by assumption) (by walk_at "sm") | fail "no")
local macro_rules | `(tactic| walk_at "hk") => `(tactic| first | assumption | exact hand_same (by assumption) (by walk_at "hk") | exact hand_kb (by assumption) (by walk_at "fr") (by walk_at "hk") | fail "no")
local macro_rules | `(tactic| walk_at "na") => `(tactic| first | assumption | exact hand_ne (by assumption) (by walk_at "hk") | fail "no")
local macro_rules | `(tactic| walk_at "dqa") => `(tactic| first | exact SPD.DqA.nil | exact SPD.DqA.cons (by walk_at "dq") (by walk_at "dqa") | exact SPD.DqA.app (by walk_at "dqa") (by walk_at "dqa") | fail "no")
local macro_rules | `(tactic| walk_at "dq") => `(tactic| first | assumption | exact SPD.Dq.leaf rfl | exact SPD.dq_kb (by assumption) (by walk_at "kb") | exact SPD.dqTup (by walk_at "hp") (by walk_at "na") (by walk_at "dqa") | exact SPD.dqLst (by walk_at "hp") (by walk_at "na") (by walk_at "dqa") | exact SPD.dqNil (by walk_at "hp") (by walk_at "na") (by first | decide | simp) (by first | decide | simp) | fail "no")

local macro_rules | `(tactic| walk_at "rd") => `(tactic| first
  | with_reducible refine RB.chain ?_
  | with_reducible refine RB.m1 ?_
  | with_reducible refine RB.strE ?_
  | with_reducible refine RB.fld ?_
  | with_reducible refine RB.setF ?_
  | with_reducible refine RB.ss ?_
  | with_reducible refine RB.rev ?_
  | with_reducible refine RB.make ?_
  | with_reducible refine RB.makeS ?_
  | with_reducible refine RB.mkO ?_
  | with_reducible refine NR.ienumT ?_
  | with_reducible refine RB.inS ?_
  | with_reducible refine RB.bmS ?_
  | with_reducible refine RB.callS ?_
  | with_reducible refine RB.sw3 ?_
  | with_reducible refine RB.par3 ?_
  | with_reducible refine RB.par3V ?_
  | ((with_reducible refine' RB.slS ?rdH ?rdK); (case rdH => walk_at "sz"))
  | with_reducible refine RB.xf ?_
  | ((with_reducible refine' RB.xfV ?rdH ?rdE ?rdK); (case rdH => walk_at "hp"); (case rdE => rfl))
  | ((with_reducible refine' NR.ienumTV ?rdH ?rdK); (case rdH => walk_at "st"))
  | ((with_reducible refine' RB.lenL ?rdH ?rdK); (case rdH => walk_at "sq"))
  | ((with_reducible refine' RB.lenT ?rdH ?rdK); (case rdH => walk_at "st"))
  | ((with_reducible refine' RB.lenS ?rdH ?rdK); (case rdH => walk_at "sz"))
  | ((with_reducible refine' RD.lenS ?rdH ?rdK); (case rdH => walk_at "sz"))
  | ((with_reducible refine' RB.slT ?rdH ?rdK); (case rdH => walk_at "hp"); intro $(Lean.mkIdent `p'):ident $(Lean.mkIdent `H'):ident $(Lean.mkIdent `hs):ident $(Lean.mkIdent `hv):ident $(Lean.mkIdent `hp):ident; (try have $(Lean.mkIdent `hn):ident := two_ne $(Lean.mkIdent `hp):ident (by walk_at "na") (by walk_at "hk")))
  | ((with_reducible refine' RB.revV ?rdH ?rdK); (case rdH => walk_at "st"); intro $(Lean.mkIdent `p'):ident $(Lean.mkIdent `H'):ident $(Lean.mkIdent `hp):ident $(Lean.mkIdent `hs):ident $(Lean.mkIdent `hv):ident; (try have $(Lean.mkIdent `hn):ident := hand_ne $(Lean.mkIdent `hp):ident (by walk_at "hk")))
  | ((with_reducible refine' RB.listS ?rdH ?rdK); (case rdH => walk_at "sz"); intro $(Lean.mkIdent `p'):ident $(Lean.mkIdent `H'):ident $(Lean.mkIdent `hp):ident $(Lean.mkIdent `hs):ident $(Lean.mkIdent `hv):ident; (try have $(Lean.mkIdent `hn):ident := hand_ne $(Lean.mkIdent `hp):ident (by walk_at "hk")))
  | ((with_reducible refine' RB.listO ?rdH ?rdK); (case rdH => first | exact Or.inl (by walk_at "sq") | exact Or.inr (by walk_at "st")); intro $(Lean.mkIdent `p'):ident $(Lean.mkIdent `H'):ident $(Lean.mkIdent `hp):ident $(Lean.mkIdent `hs):ident $(Lean.mkIdent `hv):ident; (try have $(Lean.mkIdent `hn):ident := hand_ne $(Lean.mkIdent `hp):ident (by walk_at "hk")))
  | ((with_reducible refine' RB.tupL ?rdH ?rdK); (case rdH => walk_at "sq"); intro $(Lean.mkIdent `p'):ident $(Lean.mkIdent `H'):ident $(Lean.mkIdent `hp):ident $(Lean.mkIdent `hs):ident $(Lean.mkIdent `hv):ident; (try have $(Lean.mkIdent `hn):ident := hand_ne $(Lean.mkIdent `hp):ident (by walk_at "hk")))
  | ((with_reducible refine' RB.catT ?rdH ?rdE ?rdZ ?rdK); (case rdH => walk_at "hp"); (case rdE => walk_at "hp"); (case rdZ => exact RB.LN.sum (by walk_at "ln") (by walk_at "ln") rfl); intro $(Lean.mkIdent `p'):ident $(Lean.mkIdent `H'):ident $(Lean.mkIdent `hs):ident $(Lean.mkIdent `hv):ident $(Lean.mkIdent `hp):ident; (try have $(Lean.mkIdent `hn):ident := three_ne $(Lean.mkIdent `hp):ident (by walk_at "na") (by walk_at "na") (by walk_at "hk")))
  | fail "no")
local macro_rules | `(tactic| walk_at "ln") => `(tactic| first | with_reducible assumption | exact RB.LN.cut (by walk_at "ln") | exact RB.LN.app (by walk_at "ln") (by walk_at "ln") | exact RB.LN.rev (by walk_at "ln") | exact RB.LN.rep (by walk_at "ln") | exact RB.LN.lit rfl | fail "no")
local macro_rules | `(tactic| walk_at "sz") => `(tactic| first | assumption | exact RD.sz _ | fail "no")

local macro_rules | `(tactic| walk_at "dk") => `(tactic| first | exact FR.rd_of (by walk_at "hp") | exact Or.inr ⟨_, by walk_at "hp"⟩ | fail "no")
local macro_rules | `(tactic| walk_at "rd") => `(tactic| first
  | with_reducible refine FR.dget ?_
  | with_reducible refine FR.din ?_
  | with_reducible refine FR.dnotin ?_
  | with_reducible refine FR.dc ?_
  | with_reducible refine FR.ikeys ?_
  | with_reducible refine FR.ivals ?_
  | with_reducible refine FR.bm0 ?_
  | ((with_reducible refine' FR.dinS ?rdH ?rdK); (case rdH => walk_at "dk"))
  | ((with_reducible refine' FR.keysV ?rdH ?rdK); (case rdH => walk_at "hp"))
  | ((with_reducible refine' FR.valsV ?rdH ?rdK); (case rdH => walk_at "hp"))
  | ((with_reducible refine' FR.bmD ?rdH ?rdK); (case rdH => walk_at "hp"))
  | with_reducible refine FR.ckw ?_
  | ((with_reducible refine' FR.lenD ?rdH ?rdK); (case rdH => walk_at "hp"))
  | fail "no")

/-! ### heights -/
abbrev HR := Str × Int
def hdk (hs : List HR) : List (Key × V) := FR.kvm (fun p : HR => p.1) (fun p => .int p.2) hs
def hks (hs : List HR) : List Str := hs.map (·.1)
def hOf (hs : List HR) (r : Str) : Int := match valV (hdk hs) (Sum.inr r) with
  | some (.int k) => k
  | _ => 0
theorem hdk_in (hs : List HR) (f : Str) : (valV (hdk hs) (Sum.inr f)).isSome = decide (f ∈ hks hs) := FR.kvm_some _ _ f hs
theorem hOf_at {hs : List HR} (n : (hks hs).Nodup) {r : Str} (h : r ∈ hks hs) : (r, hOf hs r) ∈ hs ∧ valV (hdk hs) (Sum.inr r) = some (.int (hOf hs r)) := by
  obtain ⟨⟨r', k⟩, hm, e⟩ := List.mem_map.mp h
  have e : r' = r := e
  subst e
  have h2 : valV (hdk hs) (Sum.inr r') = some (.int k) := FR.kvm_at (k := fun p : HR => p.1) (v := fun p : HR => V.int p.2) n (r', k) hm
  have h3 : hOf hs r' = k := by
    unfold hOf
    rw [h2]
  rw [h3]
  exact ⟨hm, h2⟩
theorem hOf_of {hs : List HR} (n : (hks hs).Nodup) {r : Str} {k : Int} (h : (r, k) ∈ hs) : hOf hs r = k := by
  have h2 : valV (hdk hs) (Sum.inr r) = some (.int k) := FR.kvm_at (k := fun p : HR => p.1) (v := fun p : HR => V.int p.2) n (r, k) h
  unfold hOf
  rw [h2]
/-- heights as far as they are found -/
structure HInc (es : List ER) (hs : List HR) : Prop where
  once : (hks hs).Nodup
  sub : ∀ f, f ∈ hks hs → f ∈ keys es
  pos : ∀ p, p ∈ hs → 0 ≤ p.2
  all : ∀ e, e ∈ es → e.1 ∈ hks hs → ∀ a r, (a, r) ∈ e.2.2 → r ∈ hks hs ∧ hOf hs r + 1 ≤ hOf hs e.1
  val : ∀ e, e ∈ es → e.1 ∈ hks hs → hOf hs e.1 = 0 ∨ ∃ a r, (a, r) ∈ e.2.2 ∧ hOf hs e.1 = hOf hs r + 1
def Fixed (es : List ER) (hs : List HR) : Prop := ∀ e, e ∈ es → e.1 ∉ hks hs → ∃ a r, (a, r) ∈ e.2.2 ∧ r ∉ hks hs
theorem HInc.few {es : List ER} {hs : List HR} (h : HInc es hs) : hs.length ≤ es.length := by
  have := FL.sub_len h.once h.sub
  unfold hks keys at this
  rwa [List.length_map, List.length_map] at this
theorem hinc0 (es : List ER) : HInc es [] := ⟨List.nodup_nil, fun f h => (List.not_mem_nil h).elim, fun p h => (List.not_mem_nil h).elim, fun e _ h => (List.not_mem_nil h).elim, fun e _ h => (List.not_mem_nil h).elim⟩
theorem hk_app (hs : List HR) (f : Str) (m : Int) : hks (hs ++ [(f, m)]) = hks hs ++ [f] := by
  unfold hks
  rw [List.map_append]
  rfl
theorem HInc.add {es : List ER} {hs : List HR} (h : HInc es hs) (hn : (keys es).Nodup) {e : ER} (he : e ∈ es) (hf : e.1 ∉ hks hs) (hall : ∀ a r, (a, r) ∈ e.2.2 → r ∈ hks hs) {m : Int}
    (hm : (e.2.2 = [] ∧ m = 0) ∨ ((∃ a r, (a, r) ∈ e.2.2 ∧ m = hOf hs r + 1) ∧ ∀ a r, (a, r) ∈ e.2.2 → hOf hs r + 1 ≤ m)) : HInc es (hs ++ [(e.1, m)]) := by
  have n2 : (hks (hs ++ [(e.1, m)])).Nodup := by
    rw [hk_app]
    exact List.nodup_append.mpr ⟨h.once, by simp, fun a ha b hb z => by
      rw [List.mem_singleton] at hb
      subst hb z
      exact hf ha⟩
  have old : ∀ r, r ∈ hks hs → hOf (hs ++ [(e.1, m)]) r = hOf hs r := fun r hr => hOf_of n2 (List.mem_append_left _ (hOf_at h.once hr).1)
  have new : hOf (hs ++ [(e.1, m)]) e.1 = m := hOf_of n2 (by simp)
  have same : ∀ e', e' ∈ es → e'.1 = e.1 → e' = e := fun e' he' z => by
    have := hn
    unfold keys at this
    obtain ⟨i, hi, e1⟩ := List.mem_iff_getElem.mp he'
    obtain ⟨j, hj, e2⟩ := List.mem_iff_getElem.mp he
    have z2 : (es.map (·.1))[i]'(by rw [List.length_map]; exact hi) = (es.map (·.1))[j]'(by rw [List.length_map]; exact hj) := by
      rw [List.getElem_map, List.getElem_map, e1, e2]
      exact z
    have := (List.getElem_inj this).mp z2
    subst this
    rw [← e1, ← e2]
  refine ⟨n2, fun f hm2 => ?_, fun p hp => ?_, fun e' he' hk' a r har => ?_, fun e' he' hk' => ?_⟩
  · rw [hk_app] at hm2
    rcases List.mem_append.mp hm2 with z | z
    · exact h.sub f z
    · rw [List.mem_singleton.mp z]
      exact List.mem_map.mpr ⟨e, he, rfl⟩
  · rcases List.mem_append.mp hp with z | z
    · exact h.pos p z
    · rw [List.mem_singleton.mp z]
      rcases hm with ⟨_, hm⟩ | ⟨⟨a, r, har, hm⟩, _⟩
      · rw [hm]; exact Int.le_refl _
      · have := h.pos _ (hOf_at h.once (hall a r har)).1
        show 0 ≤ m
        omega
  · rw [hk_app] at hk' ⊢
    rcases List.mem_append.mp hk' with z | z
    · obtain ⟨h1, h2⟩ := h.all e' he' z a r har
      exact ⟨List.mem_append_left _ h1, by rw [old _ h1, old _ z]; exact h2⟩
    · have := same e' he' (List.mem_singleton.mp z)
      subst this
      have h1 := hall a r har
      refine ⟨List.mem_append_left _ h1, ?_⟩
      rw [old _ h1, new]
      rcases hm with ⟨hm, _⟩ | ⟨_, hm⟩
      · rw [hm] at har
        exact (List.not_mem_nil har).elim
      · exact hm a r har
  · rw [hk_app] at hk'
    rcases List.mem_append.mp hk' with z | z
    · rcases h.val e' he' z with v | ⟨a, r, har, v⟩
      · exact .inl (by rw [old _ z]; exact v)
      · exact .inr ⟨a, r, har, by rw [old _ z, old _ (h.all e' he' z a r har).1]; exact v⟩
    · have := same e' he' (List.mem_singleton.mp z)
      subst this
      rw [new]
      rcases hm with ⟨_, hm⟩ | ⟨⟨a, r, har, hm⟩, _⟩
      · exact .inl hm
      · exact .inr ⟨a, r, har, by rw [old _ (hall a r har)]; exact hm⟩
theorem hdk_put {hs : List HR} {f : Str} {m : Int} (h : f ∉ hks hs) : putK (hdk hs) (Sum.inr f) (.int m) = hdk (hs ++ [(f, m)]) := FR.kvm_put (k := fun p : HR => p.1) (v := fun p : HR => V.int p.2) (l := hs) (a := (f, m)) h
theorem out_keys (es : List ER) : ((out es).map fun p => kV p.1) = es.map fun e => V.str e.1 := by
  unfold out FR.kvm
  rw [List.map_map]
  rfl
theorem inn_vals (l : List (Nat × Str)) : (inn l).map Prod.snd = l.map fun p => V.str p.2 := by
  unfold inn FR.kvm
  rw [List.map_map]
  rfl
theorem inn_len (l : List (Nat × Str)) : (inn l).length = l.length := FR.kvm_len _ _ l
def spHeights : Sp := fun vs H Q _ => ∃ (d : Addr) (es : List ER), vs = [.ref d] ∧ StepsAt H d es ∧ (keys es).Nodup ∧ (∀ e, e ∈ es → (e.2.2.map (·.1)).Nodup) ∧ (∀ e, e ∈ es → e.2.2.length ≤ 8) ∧ es.length ≤ 97 ∧
  ∀ h hs H', HInc es hs → Fixed es hs → H h = none → Same H H' → H' h = some (.dK (hdk hs)) → Q (.ref h) H'
section
variable {P : Program} {w : World} {K : PySem.W.Frag} {mg : Str → Option Value} {base : Heap}
theorem ok_heights (T : Txt P K mg) : FnOk P w K mg base CX0 1 T.a_heights T.fd_heights ["steps"] spHeights := by
  have nd := sc_heights.nd
  refine T.F_heights.ok sc_heights (fun vs H Q E h => ?_) (fun cdv A outer s H vs Q E hr h => ?_)
  · obtain ⟨d, es, rfl, _⟩ := h
    rfl
  · obtain ⟨d, es, rfl, hst, hn, hrn, hr8, hl, q⟩ := h
    refine ⟨_, (pss_cons (ps_set (i := 1) nd rfl (by first | exact Or.inl rfl | exact Or.inr rfl) pe_dnewK)
  (pss_cons (ps_set (i := 2) nd rfl (by first | exact Or.inl rfl | exact Or.inr rfl) pe_bl)
  (pss_cons (ps_while PassesOwn.never (pt_val (pv 2))
    (pss_cons (ps_set (i := 2) nd rfl (by first | exact Or.inl rfl | exact Or.inr rfl) pe_bl)
  (pss_one (ps_lock (ps_for PassesOwn.never rfl (pi_keys (pv 0)) (pg_name (i := 3) nd rfl (by first | exact Or.inl rfl | exact Or.inr rfl))
    (pss_one (ps_if (PW.pt (pw_and (pt_cmp (pc_dnotin (SPE.room1 hr) (pv 3) (pv 1))) (pw_and1 (pt_val (pe_callB (cr_all rfl) (by rfl) T.m_all (by decide +kernel) (pa_cons (pe_lock (pe_lc (own := [("later", 4)]) (g := (gName 4)) rfl nd (pi_values (pe_dget (SPE.room1 hr) (pv 0) (pv 3) (fun _ _ => rfl))) (blkOk_by (own := [("later", 4)]) (N := N_heights) (sc := defScope s_heights) (by decide +kernel)) (fun _ _ _ _ _ => (pg_name (i := 4) nd rfl (Or.inl rfl))) (fun _ _ _ _ _ => pts_nil) (fun _ _ _ _ _ => (pe_cmp (pc_din (SPE.room1 hr) (pv 4) (pv 1)))))) pa_nil))))))
    (pss_cons (ps_asg (pe_callBK (FR.cr_maxDef (X := _) rfl (SPE.room1 hr)) (by rfl) T.m_max (by decide +kernel) (pa_cons (pe_lock (pe_lc (own := [("later", 4)]) (g := (gName 4)) rfl nd (pi_values (pe_dget (SPE.room1 hr) (pv 0) (pv 3) (fun _ _ => rfl))) (blkOk_by (own := [("later", 4)]) (N := N_heights) (sc := defScope s_heights) (by decide +kernel)) (fun _ _ _ _ _ => (pg_name (i := 4) nd rfl (Or.inl rfl))) (fun _ _ _ _ _ => pts_nil) (fun _ _ _ _ _ => (pe_op op_add (pe_dget (SPE.room1 hr) (pv 1) (pv 4) (fun _ _ => rfl)) pe_int)))) pa_nil) (pk_cons pe_int pk_nil)) (pg_sub (pv 1) (pv 3) (set_dict (SPE.room1 hr))))
  (pss_one (ps_set (i := 2) nd rfl (by first | exact Or.inl rfl | exact Or.inr rfl) pe_bl)))
    pss_nil)))))))
  (pss_one (ps_ret (pv 1)))))), ?_⟩
    walk_at "rds"
    have hh := hp
    have s1 := hs
    have h1 := hv
    clear hp hs hv
    generalize p' = h at hh h1 ⊢
    generalize H' = H1 at s1 h1 ⊢
    have hd := hst.at_
    have ndh : d ≠ h := ne_of_none hd hh
    refine FR.whileG (fun m σ H' => ∃ (hs : List HR) (b : Bool) (x3 x4 : Option V), σ = [some (.ref d), some (.ref h), some (.bl b), x3, x4] ∧ Same H H' ∧ H' h = some (.dK (hdk hs)) ∧ HInc es hs ∧ (b = false → Fixed es hs) ∧ m = (es.length - hs.length) * 2 + (if b = true then 1 else 0)) _
      ⟨[], true, _, _, rfl, s1, h1, hinc0 es, fun z => (nomatch z), rfl⟩ (fun m σ H2 p => ?_)
    obtain ⟨hs, b, x3, x4, rfl, s2, h2, hi, hfx, rfl⟩ := p
    clear s1 h1
    walk_at "rds"
    refine RD.ite_b (fun eb => ?_) (fun eb => ?_)
    · subst eb
      refine FR.wnext ?_
      walk_at "rds"
      refine FR.lockS (s2 _ _ hd) fun od Hf kf hf => ?_
      walk_at "rds"
      have hrows : ∀ e, e ∈ es → H e.2.1 = some (.dK (inn e.2.2)) ∧ e.2.1 ≠ d ∧ e.2.1 ≠ h := fun e he => ⟨(hst.rows e he).1, (hst.rows e he).2, ne_of_none (hst.rows e he).1 hh⟩
      have hnat := hi.few
      refine RD.forW FR.w_keys (fun i σ H' => ∃ (hs' : List HR) (b' : Bool) (x3 x4 : Option V), σ = [some (.ref d), some (.ref h), some (.bl b'), x3, x4] ∧ RD.KB d H H' ∧ H' d = some (.frz od (.dK (out es))) ∧ H' h = some (.dK (hdk hs')) ∧ HInc es hs' ∧
        (b' = true → hs.length < hs'.length) ∧ (b' = false → hs' = hs ∧ ∀ j e, j < i → es[j]? = some e → e.1 ∉ hks hs → ∃ a r, (a, r) ∈ e.2.2 ∧ r ∉ hks hs))
        ⟨hs, false, _, _, rfl, fun a o ne e => kf _ _ ne (s2 _ _ e), hf, kf _ _ ndh.symm h2, hi, fun z => (nomatch z), fun _ => ⟨rfl, fun j e hj => absurd hj (Nat.not_lt_zero j)⟩⟩ (fun i σ H' _ ⟨_, _, _, _, _, _, z, _⟩ => z) (fun i v σ H3 H4 hil p hy => ?_) (fun σ H3 p => ?_)
      · obtain ⟨hs', b', x3, x4, rfl, k3, f3, h3, hi3, hb1, hb2⟩ := p
        obtain ⟨rfl, hx⟩ := hy
        rw [out_keys, List.getElem?_map] at hx
        obtain ⟨e, he, ev⟩ := Option.map_eq_some_iff.mp hx
        have ev : v = .str e.1 := ev.symm
        subst ev
        have hem := List.mem_of_getElem? he
        obtain ⟨he1, he2, he3⟩ := hrows e hem
        have h4 := k3 _ _ he2 he1
        have hil2 : i < es.length := (List.getElem?_eq_some_iff.mp he).1
        have h8 := hr8 e hem
        have hget := StepsAt.get (H := H) (d := d) hn hem
        walk_at "rds"
        rw [hdk_in]
        refine RD.ite_nd (fun hf => ?_) (fun hf => ?_)
        · walk_at "rds"
          refine FR.lockE h4 fun od2 Hf2 kf2 hf2 => ?_
          have hh2 := kf2 _ _ he3.symm h3
          have hd2 := kf2 _ _ he2.symm f3
          walk_at "rds"
          refine FR.dgetS (.inr ⟨_, hd2⟩) hget ?_
          walk_at "rds"
          refine RD.lcF FR.w_vals (by unfold inn; rw [FR.kvm_len]; omega) (fun i => (e.2.2[i]?).map fun p => .bl (decide (p.2 ∈ hks hs'))) (fun H' s => s _ _ hf2) (fun j v H5 Z N hj hx2 s5 hZ hN => ?_) (fun D H5 hD s5 hv5 => ?_)
          · rw [inn_vals, List.getElem?_map] at hx2
            obtain ⟨p, hp, ev⟩ := Option.map_eq_some_iff.mp hx2
            have ev : v = .str p.2 := ev.symm
            subst ev
            walk_at "rds"
            refine ⟨rfl, ?_⟩
            walk_at "rds"
            exact hZ _ _ (by rw [hp, hdk_in]; rfl) (Same.refl _)
          · rw [inn_len, RD.range_get (fun p : Nat × Str => V.bl (decide (p.2 ∈ hks hs'))), show (e.2.2.map fun p => V.bl (decide (p.2 ∈ hks hs'))) = (e.2.2.map fun p => decide (p.2 ∈ hks hs')).map V.bl by rw [List.map_map]; rfl] at hv5
            refine FR.ul (s5 _ _ hf2) fun H6 k6 e6 => ?_
            have s46 : Same H4 H6 := FR.unlock kf2 s5 k6 e6 h4
            have hv6 := k6 _ _ (ne_of_none hf2 hD).symm hv5
            have h6 := s46 _ _ h4
            have f6 := s46 _ _ f3
            have hh6 := s46 _ _ h3
            have k06 : RD.KB d H H6 := RD.kb_trs s46 k3
            clear hv5 s5 kf2 hf2 hh2 hd2 k6 e6 hD
            walk_at "rds"
            refine RD.ite_b (fun ha => ?_) (fun ha => ?_)
            · have hall : ∀ a r, (a, r) ∈ e.2.2 → r ∈ hks hs' := fun a r har => by
                rw [List.all_map, List.all_eq_true] at ha
                exact of_decide_eq_true (ha (a, r) har)
              clear hv6
              walk_at "rds"
              refine FR.lockE h6 fun od2 Hf2 kf2 hf2 => ?_
              have hh2 := kf2 _ _ he3.symm hh6
              have hd2 := kf2 _ _ he2.symm f6
              walk_at "rds"
              refine FR.dgetS (.inr ⟨_, hd2⟩) hget ?_
              walk_at "rds"
              refine RD.lcF FR.w_vals (by unfold inn; rw [FR.kvm_len]; omega) (fun i => (e.2.2[i]?).map fun p => .int (hOf hs' p.2 + 1)) (fun H' s => s _ _ hf2) (fun j v H7 Z N hj hx2 s7 hZ hN => ?_) (fun D H7 hD s7 hv7 => ?_)
              · rw [inn_vals, List.getElem?_map] at hx2
                obtain ⟨p, hp, ev⟩ := Option.map_eq_some_iff.mp hx2
                have ev : v = .str p.2 := ev.symm
                subst ev
                walk_at "rds"
                refine ⟨rfl, ?_⟩
                walk_at "rds"
                refine FR.dgetS (.inl (s7 _ _ hh2)) (hOf_at hi3.once (hall p.1 p.2 (List.mem_of_getElem? hp))).2 ?_
                walk_at "rds"
                exact hZ _ _ (by rw [hp]; rfl) (Same.refl _)
              · rw [inn_len, RD.range_get (fun p : Nat × Str => V.int (hOf hs' p.2 + 1)), show (e.2.2.map fun p => V.int (hOf hs' p.2 + 1)) = (e.2.2.map fun p => hOf hs' p.2 + 1).map V.int by rw [List.map_map]; rfl] at hv7
                refine FR.ul (s7 _ _ hf2) fun H8 k8 e8 => ?_
                have s68 : Same H6 H8 := FR.unlock kf2 s7 k8 e8 h6
                have hv8 := k8 _ _ (ne_of_none hf2 hD).symm hv7
                have f8 := s68 _ _ f6
                have hh8 := s68 _ _ hh6
                have k08 : RD.KB d H H8 := RD.kb_trs s68 k06
                have hfew3 := hi3.few
                clear hv7 s7 kf2 hf2 hh2 hd2 k8 e8 hD h6 f6 hh6 s46 k06
                walk_at "rds"
                have fin : ∀ (y3 y4 : Option V) (m : Int), ((e.2.2 = [] ∧ m = 0) ∨ ((∃ a r, (a, r) ∈ e.2.2 ∧ m = hOf hs' r + 1) ∧ ∀ a r, (a, r) ∈ e.2.2 → hOf hs' r + 1 ≤ m)) → ∀ H9, RD.KB h H8 H9 → H9 h = some (.dK (hdk (hs' ++ [(e.1, m)]))) → ∃ (hs'' : List HR) (b' : Bool) (x3 x4 : Option V), [some (.ref d), some (.ref h), some (.bl true), y3, y4] = [some (.ref d), some (.ref h), some (.bl b'), x3, x4] ∧ RD.KB d H H9 ∧ H9 d = some (.frz od (.dK (out es))) ∧ H9 h = some (.dK (hdk hs'')) ∧ HInc es hs'' ∧
                    (b' = true → hs.length < hs''.length) ∧ (b' = false → hs'' = hs ∧ ∀ j e, j < i + 1 → es[j]? = some e → e.1 ∉ hks hs → ∃ a r, (a, r) ∈ e.2.2 ∧ r ∉ hks hs) := fun y3 y4 m hm H9 k9 h9 =>
                  ⟨hs' ++ [(e.1, m)], true, _, _, rfl, fun b o nb eb => k9 _ _ (ne_of_none eb hh) (k08 _ _ nb eb), k9 _ _ ndh f8, h9, hi3.add hn hem hf hall hm, fun _ => by
                    rw [List.length_append, List.length_singleton]
                    cases b' with
                    | true => have := hb1 rfl; omega
                    | false => rw [(hb2 rfl).1]; omega, fun z => (nomatch z)⟩
                have hsl : (hdk hs').length < sizeLine := RD.szl (by unfold hdk; rw [FR.kvm_len]; omega)
                refine FR.maxDef (.inl (.inl hv8)) (fun h0 => ?_) (fun m hm1 hm2 => ?_)
                · have h0 : e.2.2 = [] := by simpa using h0
                  walk_at "rds"
                  refine FR.dputS hh8 hsl fun H9 k9 h9 => ?_
                  rw [hdk_put hf] at h9
                  walk_at "rds"
                  exact fin _ _ 0 (.inl ⟨h0, rfl⟩) H9 k9 h9
                · obtain ⟨⟨a, r⟩, har, hm⟩ := List.mem_map.mp hm1
                  walk_at "rds"
                  refine FR.dputS hh8 hsl fun H9 k9 h9 => ?_
                  rw [hdk_put hf] at h9
                  walk_at "rds"
                  exact fin _ _ m (.inr ⟨⟨a, r, har, hm.symm⟩, fun a r har => hm2 _ (List.mem_map.mpr ⟨(a, r), har, rfl⟩)⟩) H9 k9 h9
            · walk_at "rds"
              have hno : ∃ a r, (a, r) ∈ e.2.2 ∧ r ∉ hks hs' := by
                rw [List.all_map, List.all_eq_false] at ha
                obtain ⟨⟨a, r⟩, har, z⟩ := ha
                exact ⟨a, r, har, fun y => z (decide_eq_true y)⟩
              refine ⟨hs', b', _, _, rfl, k06, f6, hh6, hi3, hb1, fun z => ⟨(hb2 z).1, fun j e' hj he' hn' => ?_⟩⟩
              rcases Nat.lt_succ_iff_lt_or_eq.mp hj with z2 | z2
              · exact (hb2 z).2 j e' z2 he' hn'
              · subst z2
                rw [he] at he'
                cases he'
                rw [← (hb2 z).1]
                exact hno
        · walk_at "rds"
          refine ⟨hs', b', _, _, rfl, k3, f3, h3, hi3, hb1, fun z => ⟨(hb2 z).1, fun j e' hj he' hn' => ?_⟩⟩
          rcases Nat.lt_succ_iff_lt_or_eq.mp hj with z2 | z2
          · exact (hb2 z).2 j e' z2 he' hn'
          · subst z2
            rw [he] at he'
            cases he'
            rw [(hb2 z).1] at hf
            exact absurd hf hn'
      · obtain ⟨hs', b', x3, x4, rfl, k3, f3, h3, hi3, hb1, hb2⟩ := p
        dsimp only
        refine FR.ul f3 fun H4 k4 e4 => ⟨(es.length - hs'.length) * 2 + (if b' = true then 1 else 0), ?_, hs', b', _, _, rfl, FR.unlockK k3 k4 e4 hd, k4 _ _ ndh.symm h3, hi3, fun z e he hne => ?_, rfl⟩
        · have := hi3.few
          cases b' with
          | true =>
            have := hb1 rfl
            simp only [if_true]
            omega
          | false =>
            rw [(hb2 rfl).1]
            simp
        · obtain ⟨h5, h6⟩ := hb2 z
          subst h5
          obtain ⟨j, hj, ej⟩ := List.mem_iff_getElem.mp he
          exact h6 j e (by unfold out; rw [FR.kvm_len]; exact hj) (by rw [List.getElem?_eq_getElem hj, ej]) hne
    · walk_at "rds"
      exact q _ hs _ hi (hfx eb) hh s2 h2
end


end K11

namespace K11
open PySem PySem.Spec PyProof.Rows L2
local macro_rules | `(tactic| walk_at "kd") => `(tactic| first | assumption | exact SPD.KdOf.int _ | exact SPD.KdOf.str _ | exact SPD.KdOf.bl _ | exact SPD.KdOf.non | exact SPD.KdOf.same (by assumption) (by walk_at "kd") | exact SPD.KdOf.tup (by walk_at "hp") | exact SPD.KdOf.lst (by walk_at "hp") | fail "no")
local macro_rules | `(tactic| walk_at "ne") => `(tactic| first | assumption | exact Ne.symm (by assumption) | fail "no")
local macro_rules | `(tactic| walk_at "hp") => `(tactic| first | assumption | exact RD.at_same (by assumption) (by walk_at "hp") | exact RD.at_kb (by assumption) (by walk_at "ne") (by walk_at "hp") | fail "no")
local macro_rules | `(tactic| walk_at "sq") => `(tactic| first | assumption | exact Or.inl (Or.inl (by walk_at "hp")) | exact Same.seq (by assumption) (by walk_at "sq") | exact RD.KB.seq (by assumption) (by walk_at "ne") (by walk_at "sq") | fail "no")
local macro_rules | `(tactic| walk_at "st") => `(tactic| first | assumption | exact Or.inl (Or.inl (by walk_at "hp")) | exact RD.Same.tup (by assumption) (by walk_at "st") | exact RD.KB.tup (by assumption) (by walk_at "ne") (by walk_at "st") | fail "no")
local macro_rules | `(tactic| walk_at "rd") => `(tactic| first
  | with_reducible refine RD.c ?_
  | ((with_reducible refine' RD.var ?rdE ?rdK); (case rdE => exact rfl))
  | with_reducible refine RD.op ?_
  | with_reducible refine RD.un ?_
  | with_reducible refine RD.nil ?_
  | with_reducible refine RD.cons ?_
  | with_reducible refine RD.cb ?_
  | with_reducible refine RD.call ?_
  | with_reducible refine RD.test ?_
  | with_reducible refine RD.tb' ?_
  | with_reducible refine RD.bl ?_
  | with_reducible refine RD.and' ?_
  | with_reducible refine RD.or' ?_
  | with_reducible refine RD.not' ?_
  | with_reducible refine RD.andV ?_
  | with_reducible refine RD.orV ?_
  | with_reducible refine RD.notV ?_
  | with_reducible refine RD.ife ?_
  | with_reducible refine RD.sl ?_
  | with_reducible refine RD.part ?_
  | with_reducible refine RD.noPart ?_
  | with_reducible refine RD.partI ?_
  | with_reducible refine RD.rd0 ?_
  | with_reducible refine RD.rdU ?_
  | ((with_reducible refine' RD.rdEq ?rdE ?rdK); (case rdE => rfl))
  | ((with_reducible refine' RD.rdNe ?rdE ?rdK); (case rdE => rfl))
  | ((with_reducible refine' RD.ixL ?rdH ?rdE ?rdK); (case rdH => walk_at "sq"); (case rdE => first | rfl | assumption))
  | ((with_reducible refine' RD.rdI ?rdC ?rdK); (case rdC => first | assumption | (show (0 : Int) < _; first | decide | omega) | exact ⟨by decide, by decide⟩ | exact ⟨by assumption, by assumption⟩ | exact .inr ⟨by decide, by decide⟩ | exact .inl ⟨by decide, by decide⟩ | exact ⟨by decide, by decide, by decide⟩ | exact .inl ⟨by omega, by omega⟩))
  | ((with_reducible refine' RD.setL ?rdH ?rdE ?rdK); (case rdH => walk_at "hp"); (case rdE => rfl); intro $(Lean.mkIdent `H'):ident $(Lean.mkIdent `hk):ident $(Lean.mkIdent `hv):ident)
  | ((with_reducible refine' RD.irng1V ?rdA ?rdB ?rdK); (case rdA => first | decide | omega); (case rdB => first | decide | omega))
  | with_reducible refine RD.int1 ?_
  | with_reducible refine RD.abs1 ?_
  | ((with_reducible refine' RD.len ?rdH ?rdK); (case rdH => first | exact Or.inl (by walk_at "sq") | exact Or.inr (by walk_at "st")))
  | with_reducible refine RD.tup ?_
  | with_reducible refine RD.lst ?_
  | with_reducible refine RD.ite1 ?_
  | with_reducible refine RD.ite0 ?_
  | with_reducible refine RD.ite1n ?_
  | with_reducible refine RD.ite0n ?_
  | with_reducible refine RD.seq ?_
  | with_reducible refine RD.asg ?_
  | with_reducible refine RD.name ?_
  | with_reducible refine RD.ret ?_
  | with_reducible refine RD.drop ?_
  | with_reducible refine RD.next ?_
  | with_reducible refine RD.ifs ?_
  | with_reducible refine RD.par ?_
  | with_reducible refine RD.par2 ?_
  | with_reducible refine RD.sub ?_
  | with_reducible refine RD.gcons ?_
  | with_reducible refine RD.gnil ?_
  | with_reducible refine RD.bm ?_
  | ((with_reducible refine' RD.bmL ?rdH ?rdK); (case rdH => walk_at "sq"))
  | ((with_reducible refine' RD.newZ ?rdH ?rdK); (case rdH => exact RD.sz _); intro $(Lean.mkIdent `p'):ident $(Lean.mkIdent `H'):ident $(Lean.mkIdent `hp):ident $(Lean.mkIdent `hs):ident $(Lean.mkIdent `hv):ident; (try have $(Lean.mkIdent `hn):ident := hand_ne $(Lean.mkIdent `hp):ident (by walk_at "hk")))
  | with_reducible refine RD.fors ?_
  | with_reducible refine RD.lc ?_
  | with_reducible refine RD.yes ?_
  | with_reducible refine RD.ilist ?_
  | ((with_reducible refine' RD.ilistV ?rdH ?rdK); (case rdH => walk_at "sq"))
  | with_reducible refine RD.itup ?_
  | ((with_reducible refine' RD.itupV ?rdH ?rdK); (case rdH => walk_at "st"))
  | with_reducible refine RD.irng1 ?_
  | with_reducible refine RD.irng2 ?_
  | ((with_reducible refine' RD.irng2V ?rdA ?rdK); (case rdA => first | decide | omega))
  | with_reducible refine RD.ienum ?_
  | ((with_reducible refine' RD.ienumV ?rdH ?rdK); (case rdH => walk_at "sq"))
  | with_reducible refine RD.izip ?_
  | ((with_reducible refine' RD.izipV ?rdH ?rdE ?rdK); (case rdH => walk_at "sq"); (case rdE => walk_at "sq"))
  | with_reducible refine SPD.izipA ?_
  | with_reducible refine RD.istr ?_
  | with_reducible refine RD.istrV ?_
  | ((with_reducible refine' RD.slL ?rdH ?rdK); (case rdH => walk_at "sq"); intro $(Lean.mkIdent `p'):ident $(Lean.mkIdent `H'):ident $(Lean.mkIdent `hp):ident $(Lean.mkIdent `hs):ident $(Lean.mkIdent `hv):ident; (try have $(Lean.mkIdent `hn):ident := hand_ne $(Lean.mkIdent `hp):ident (by walk_at "hk")))
  | ((with_reducible refine' RD.cat ?rdH ?rdE ?rdZ ?rdK); (case rdH => walk_at "hp"); (case rdE => walk_at "hp"); (case rdZ => exact RD.sz _); intro $(Lean.mkIdent `p'):ident $(Lean.mkIdent `H'):ident $(Lean.mkIdent `hp):ident $(Lean.mkIdent `hs):ident $(Lean.mkIdent `hv):ident; (try have $(Lean.mkIdent `hn):ident := hand_ne $(Lean.mkIdent `hp):ident (by walk_at "hk")))
  | ((with_reducible refine' RD.gtup ?rdH ?rdE ?rdK); (case rdH => walk_at "st"); (case rdE => rfl))
  | ((with_reducible refine' RD.app ?rdH ?rdZ ?rdK); (case rdH => walk_at "hp"); (case rdZ => first | assumption | (apply RD.szl; omega)); intro $(Lean.mkIdent `H'):ident $(Lean.mkIdent `hk):ident $(Lean.mkIdent `hv):ident)
  | ((with_reducible refine' RD.all1 ?rdH ?rdK); (case rdH => walk_at "sq"))
  | ((with_reducible refine' RD.any1 ?rdH ?rdK); (case rdH => walk_at "sq"))
  | ((with_reducible refine' SPD.dnew ?rdK); intro $(Lean.mkIdent `p'):ident $(Lean.mkIdent `H'):ident $(Lean.mkIdent `hp):ident $(Lean.mkIdent `hs):ident $(Lean.mkIdent `hv):ident; (try have $(Lean.mkIdent `hn):ident := hand_ne $(Lean.mkIdent `hp):ident (by walk_at "hk")))
  | ((with_reducible refine' SPD.disp1 ?rdK); intro $(Lean.mkIdent `p'):ident $(Lean.mkIdent `H'):ident $(Lean.mkIdent `hp):ident $(Lean.mkIdent `hs):ident $(Lean.mkIdent `hv):ident; (try have $(Lean.mkIdent `hn):ident := hand_ne $(Lean.mkIdent `hp):ident (by walk_at "hk")))
  | ((with_reducible refine' SPD.isSeq ?rdH ?rdE ?rdK); (case rdH => walk_at "hp"); (case rdE => walk_at "kd"))
  | ((with_reducible refine' SPD.isTup ?rdE ?rdK); (case rdE => walk_at "kd"))
  | ((with_reducible refine' SPD.isLst ?rdE ?rdK); (case rdE => walk_at "kd"))
  | ((with_reducible refine' SPD.isBool ?rdE ?rdK); (case rdE => walk_at "kd"))
  | ((with_reducible refine' SPD.isStr ?rdE ?rdK); (case rdE => walk_at "kd"))
  | ((with_reducible refine' SPD.isInt ?rdE ?rdK); (case rdE => walk_at "kd"))
  | dsimp only)
local macro_rules | `(tactic| walk_at "rds") => `(tactic| repeat walk_at "rd")
local macro_rules | `(tactic| walk_at "sm") => `(tactic| first | assumption | exact Same.refl _ | exact RD.sm_tr (by assumption) (by walk_at "sm") | fail "no")
local macro_rules | `(tactic| walk_at "kb") => `(tactic| first | assumption | exact RD.KB.refl | exact RD.kb_tr (by assumption) (by walk_at "kb") | exact RD.kb_trs (by assumption) (by walk_at "kb") | fail "no")
local macro_rules | `(tactic| walk_at "fr") => `(tactic| first | assumption | exact RD.fr_of (by assumption) (by walk_at "sm") | fail "no")
local macro_rules | `(tactic| walk_at "hk") => `(tactic| first | assumption | exact hand_same (by assumption) (by walk_at "hk") | exact hand_kb (by assumption) (by walk_at "fr") (by walk_at "hk") | fail "no")
local macro_rules | `(tactic| walk_at "na") => `(tactic| first | assumption | exact hand_ne (by assumption) (by walk_at "hk") | fail "no")
local macro_rules | `(tactic| walk_at "dqa") => `(tactic| first | exact SPD.DqA.nil | exact SPD.DqA.cons (by walk_at "dq") (by walk_at "dqa") | exact SPD.DqA.app (by walk_at "dqa") (by walk_at "dqa") | fail "no")
local macro_rules | `(tactic| walk_at "dq") => `(tactic| first | assumption | exact SPD.Dq.leaf rfl | exact SPD.dq_kb (by assumption) (by walk_at "kb") | exact SPD.dqTup (by walk_at "hp") (by walk_at "na") (by walk_at "dqa") | exact SPD.dqLst (by walk_at "hp") (by walk_at "na") (by walk_at "dqa") | exact SPD.dqNil (by walk_at "hp") (by walk_at "na") (by first | decide | simp) (by first | decide | simp) | fail "no")

local macro_rules | `(tactic| walk_at "rd") => `(tactic| first
  | with_reducible refine RB.chain ?_
  | with_reducible refine RB.m1 ?_
  | with_reducible refine RB.strE ?_
  | with_reducible refine RB.fld ?_
  | with_reducible refine RB.setF ?_
  | with_reducible refine RB.ss ?_
  | with_reducible refine RB.rev ?_
  | with_reducible refine RB.make ?_
  | with_reducible refine RB.makeS ?_
  | with_reducible refine RB.mkO ?_
  | with_reducible refine NR.ienumT ?_
  | with_reducible refine RB.inS ?_
  | with_reducible refine RB.bmS ?_
  | with_reducible refine RB.callS ?_
  | with_reducible refine RB.sw3 ?_
  | with_reducible refine RB.par3 ?_
  | with_reducible refine RB.par3V ?_
  | ((with_reducible refine' RB.slS ?rdH ?rdK); (case rdH => walk_at "sz"))
  | with_reducible refine RB.xf ?_
  | ((with_reducible refine' RB.xfV ?rdH ?rdE ?rdK); (case rdH => walk_at "hp"); (case rdE => rfl))
  | ((with_reducible refine' NR.ienumTV ?rdH ?rdK); (case rdH => walk_at "st"))
  | ((with_reducible refine' RB.lenL ?rdH ?rdK); (case rdH => walk_at "sq"))
  | ((with_reducible refine' RB.lenT ?rdH ?rdK); (case rdH => walk_at "st"))
  | ((with_reducible refine' RB.lenS ?rdH ?rdK); (case rdH => walk_at "sz"))
  | ((with_reducible refine' RD.lenS ?rdH ?rdK); (case rdH => walk_at "sz"))
  | ((with_reducible refine' RB.slT ?rdH ?rdK); (case rdH => walk_at "hp"); intro $(Lean.mkIdent `p'):ident $(Lean.mkIdent `H'):ident $(Lean.mkIdent `hs):ident $(Lean.mkIdent `hv):ident $(Lean.mkIdent `hp):ident; (try have $(Lean.mkIdent `hn):ident := two_ne $(Lean.mkIdent `hp):ident (by walk_at "na") (by walk_at "hk")))
  | ((with_reducible refine' RB.revV ?rdH ?rdK); (case rdH => walk_at "st"); intro $(Lean.mkIdent `p'):ident $(Lean.mkIdent `H'):ident $(Lean.mkIdent `hp):ident $(Lean.mkIdent `hs):ident $(Lean.mkIdent `hv):ident; (try have $(Lean.mkIdent `hn):ident := hand_ne $(Lean.mkIdent `hp):ident (by walk_at "hk")))
  | ((with_reducible refine' RB.listS ?rdH ?rdK); (case rdH => walk_at "sz"); intro $(Lean.mkIdent `p'):ident $(Lean.mkIdent `H'):ident $(Lean.mkIdent `hp):ident $(Lean.mkIdent `hs):ident $(Lean.mkIdent `hv):ident; (try have $(Lean.mkIdent `hn):ident := hand_ne $(Lean.mkIdent `hp):ident (by walk_at "hk")))
  | ((with_reducible refine' RB.listO ?rdH ?rdK); (case rdH => first | exact Or.inl (by walk_at "sq") | exact Or.inr (by walk_at "st")); intro $(Lean.mkIdent `p'):ident $(Lean.mkIdent `H'):ident $(Lean.mkIdent `hp):ident $(Lean.mkIdent `hs):ident $(Lean.mkIdent `hv):ident; (try have $(Lean.mkIdent `hn):ident := hand_ne $(Lean.mkIdent `hp):ident (by walk_at "hk")))
  | ((with_reducible refine' RB.tupL ?rdH ?rdK); (case rdH => walk_at "sq"); intro $(Lean.mkIdent `p'):ident $(Lean.mkIdent `H'):ident $(Lean.mkIdent `hp):ident $(Lean.mkIdent `hs):ident $(Lean.mkIdent `hv):ident; (try have $(Lean.mkIdent `hn):ident := hand_ne $(Lean.mkIdent `hp):ident (by walk_at "hk")))
  | ((with_reducible refine' RB.catT ?rdH ?rdE ?rdZ ?rdK); (case rdH => walk_at "hp"); (case rdE => walk_at "hp"); (case rdZ => exact RB.LN.sum (by walk_at "ln") (by walk_at "ln") rfl); intro $(Lean.mkIdent `p'):ident $(Lean.mkIdent `H'):ident $(Lean.mkIdent `hs):ident $(Lean.mkIdent `hv):ident $(Lean.mkIdent `hp):ident; (try have $(Lean.mkIdent `hn):ident := three_ne $(Lean.mkIdent `hp):ident (by walk_at "na") (by walk_at "na") (by walk_at "hk")))
  | fail "no")
local macro_rules | `(tactic| walk_at "ln") => `(tactic| first | with_reducible assumption | exact RB.LN.cut (by walk_at "ln") | exact RB.LN.app (by walk_at "ln") (by walk_at "ln") | exact RB.LN.rev (by walk_at "ln") | exact RB.LN.rep (by walk_at "ln") | exact RB.LN.lit rfl | fail "no")
local macro_rules | `(tactic| walk_at "sz") => `(tactic| first | assumption | exact RD.sz _ | fail "no")

local macro_rules | `(tactic| walk_at "dk") => `(tactic| first | exact FR.rd_of (by walk_at "hp") | exact Or.inr ⟨_, by walk_at "hp"⟩ | fail "no")
local macro_rules | `(tactic| walk_at "rd") => `(tactic| first
  | with_reducible refine FR.dget ?_
  | with_reducible refine FR.din ?_
  | with_reducible refine FR.dnotin ?_
  | with_reducible refine FR.dc ?_
  | with_reducible refine FR.ikeys ?_
  | with_reducible refine FR.ivals ?_
  | with_reducible refine FR.bm0 ?_
  | ((with_reducible refine' FR.dinS ?rdH ?rdK); (case rdH => walk_at "dk"))
  | ((with_reducible refine' FR.keysV ?rdH ?rdK); (case rdH => walk_at "hp"))
  | ((with_reducible refine' FR.valsV ?rdH ?rdK); (case rdH => walk_at "hp"))
  | ((with_reducible refine' FR.bmD ?rdH ?rdK); (case rdH => walk_at "hp"))
  | with_reducible refine FR.ckw ?_
  | ((with_reducible refine' FR.lenD ?rdH ?rdK); (case rdH => walk_at "hp"))
  | fail "no")

/-! ### a front and a round without end -/
structure EndlessOk (zs : List Str) (u v : Str) : Prop where
  pos : 0 < v.cps.size
  small : u.cps.size + v.cps.size ≤ 97
  own : ∀ c, c ∈ toL u ++ toL v → c ∈ lts zs
  free : ∀ n, FL.Free (pl zs) (toL u ++ FL.rep n (toL v))
def spEndless (C : Addr) : Sp := fun vs H Q _ => ∃ (b : Addr) (zs : List Str), vs = [.ref b] ∧ BK C H b zs ∧ (∀ H', Same H H' → Q .non H') ∧ ∀ p u v H', EndlessOk zs u v → H p = none → Same H H' → H' p = some (.tup [.str u, .str v]) → Q (.ref p) H'
theorem row_few {zs : List Str} {es : List ER} {ws : List Str} (g : Good zs) (h : Grow zs es ws) : ∀ e, e ∈ es → e.2.2.length ≤ 8 := fun e he => by
  have := FL.sub_len (h.row1 e he) (m := lets) fun c hc => by
    obtain ⟨⟨a, r⟩, har, rfl⟩ := List.mem_map.mp hc
    exact lts_lets g ((row_stp.mp ((h.row e he a r).mp har)).1)
  rw [List.length_map] at this
  exact this
theorem fronts_pl (zs : List Str) (g : Good zs) : ∀ f, f ∈ frL zs ↔ FL.Front (pl zs) f := fun f => by
  have h := (fronts_ok g).mem (ofL f)
  rw [toL_ofL] at h
  rw [← h]
  constructor
  · intro hf
    obtain ⟨y, hy, rfl⟩ := List.mem_map.mp hf
    rw [ofL_toL]
    exact hy
  · intro hf
    exact List.mem_map.mpr ⟨_, hf, toL_ofL f⟩
theorem pieces_ne {zs : List Str} (g : Good zs) : ∀ p, p ∈ pl zs → p ≠ [] := fun p hp e => by
  obtain ⟨z, hz, rfl⟩ := List.mem_map.mp hp
  have := (piece_size (g.piece z hz)).1
  rw [← Array.length_toList, show z.cps.toList = [] from e] at this
  exact absurd this (by decide)
theorem key_of_mem {es : List ER} {f : Str} (h : f ∈ keys es) : ∃ e, e ∈ es ∧ e.1 = f := by
  obtain ⟨e, he, rfl⟩ := List.mem_map.mp h
  exact ⟨e, he, rfl⟩
/-- where the start has no height, not all have; where it has one, all have -/
theorem all_high {zs : List Str} {es : List ER} {hs : List HR} (st : Steps zs es) (hi : HInc es hs) (h0 : ("" : Str) ∈ hks hs) : hs.length = es.length := by
  have run : ∀ w q, FL.Run (SP zs) [] w q → ∃ f, toL f = q ∧ f ∈ hks hs := fun w q h => by
    induction h with
    | nil => exact ⟨"", rfl, h0⟩
    | @snoc w r s a _ stp ih =>
      obtain ⟨f, rfl, hf⟩ := ih
      obtain ⟨e, he, rfl⟩ := key_of_mem (hi.sub f hf)
      refine ⟨ofL s, toL_ofL s, (hi.all e he hf a (ofL s) ((st.grow.row e he a (ofL s)).mpr ?_)).1⟩
      rw [toL_ofL]
      exact stp
  have h1 := FL.sub_len st.grow.once (m := hks hs) fun f hf => by
    obtain ⟨w, hw⟩ := st.grow.reach f (.inl hf)
    obtain ⟨f', e, hf'⟩ := run w _ hw
    rw [← toL_inj e]
    exact hf'
  unfold keys hks at h1
  rw [List.length_map, List.length_map] at h1
  have h2 := hi.few
  omega
theorem inn_keys (l : List (Nat × Str)) : ((inn l).map fun p => kV p.1) = l.map fun p => V.str (one p.1) := by
  unfold inn FR.kvm
  rw [List.map_map]
  rfl
theorem filterMap_range {α β : Type} (f : α → Option β) : ∀ l : List α, ((List.range l.length).filterMap fun i => (l[i]?).bind f) = l.filterMap f
  | [] => rfl
  | a :: l => by
    have ih := filterMap_range f l
    rw [List.length_cons, List.range_succ_eq_map, List.filterMap_cons]
    have e : ((a :: l)[0]?).bind f = f a := rfl
    rw [e, List.filterMap_cons, List.filterMap_map]
    have e2 : (List.range l.length).filterMap ((fun i => ((a :: l)[i]?).bind f) ∘ Nat.succ) = l.filterMap f := by
      rw [← ih]
      rfl
    rw [e2]
theorem low_keys (hl : List HR) (l : List (Nat × Str)) : ∃ as : List Nat, ((List.range l.length).filterMap fun i => (l[i]?).bind fun p => if p.2 ∈ hks hl then none else some (V.str (one p.1))) = as.map (fun a => V.str (one a)) ∧ ∀ a, a ∈ as ↔ ∃ r, (a, r) ∈ l ∧ r ∉ hks hl := by
  refine ⟨l.filterMap fun p => if p.2 ∈ hks hl then none else some p.1, ?_, fun a => ?_⟩
  · rw [List.map_filterMap]
    have h := filterMap_range (fun p : Nat × Str => if p.2 ∈ hks hl then none else some (V.str (one p.1))) l
    rw [h]
    refine congrArg (fun f => List.filterMap f l) (funext fun p => ?_)
    by_cases z : p.2 ∈ hks hl
    · rw [if_pos z, if_pos z]
      rfl
    · rw [if_neg z, if_neg z]
      rfl
  · rw [List.mem_filterMap]
    constructor
    · rintro ⟨⟨b, r⟩, hm, e⟩
      by_cases z : r ∈ hks hl
      · rw [if_pos z] at e
        cases e
      · rw [if_neg z] at e
        cases e
        exact ⟨r, hm, z⟩
    · rintro ⟨r, hm, z⟩
      exact ⟨(a, r), hm, if_neg z⟩
/-- the places on the way -/
structure Way (zs : List Str) (es : List ER) (hs ps : List HR) (f t : Str) : Prop where
  key : f ∈ keys es
  low : f ∉ hks hs
  run : FL.Run (SP zs) [] (toL t) (toL f)
  size : t.cps.size = ps.length
  once : (hks ps).Nodup
  sub : ∀ g, g ∈ hks ps → g ∈ keys es
  back : ∀ g k, (g, k) ∈ ps → ∃ n : Nat, k = (n : Int) ∧ n < t.cps.size ∧ FL.Run (SP zs) [] ((toL t).take n) (toL g) ∧ FL.Run (SP zs) (toL g) ((toL t).drop n) (toL f)
theorem way0 {zs : List Str} {es : List ER} {hs : List HR} (st : Steps zs es) (h0 : ("" : Str) ∉ hks hs) : Way zs es hs [] "" "" where
  key := by
    rcases st.grow.first with h | h
    · exact h
    · exact (List.not_mem_nil h).elim
  low := h0
  run := .nil
  size := rfl
  once := List.nodup_nil
  sub := fun g h => (List.not_mem_nil h).elim
  back := fun g k h => (List.not_mem_nil h).elim
theorem Way.few {zs : List Str} {es : List ER} {hs ps : List HR} {f t : Str} (st : Steps zs es) (h : Way zs es hs ps f t) : ps.length ≤ 97 := by
  have h1 := FL.sub_len h.once h.sub
  unfold keys hks at h1
  rw [List.length_map, List.length_map] at h1
  have := st.grow.few st.good
  omega
theorem Way.more {zs : List Str} {es : List ER} {hs ps : List HR} {f t : Str} (st : Steps zs es) (h : Way zs es hs ps f t) (hf : f ∉ hks ps) {e : ER} (he : e ∈ es) (ef : e.1 = f) {a : Nat} {r : Str} (har : (a, r) ∈ e.2.2) (hr : r ∉ hks hs) :
    Way zs es hs (ps ++ [(f, (t.cps.size : Int))]) r (t ++ one a) := by
  subst ef
  have hstp := (st.grow.row e he a r).mp har
  have hl : (toL t).length = t.cps.size := Array.length_toList
  have hsz : (t ++ one a).cps.size = t.cps.size + 1 := by
    rw [app_size]
    rfl
  refine ⟨?_, hr, ?_, ?_, ?_, ?_, ?_⟩
  · rcases st.grow.next e he a r har with z | z
    · exact z
    · exact (List.not_mem_nil z).elim
  · rw [toL_app, toL_one]
    exact .snoc h.run hstp
  · rw [hsz, List.length_append, h.size]
    rfl
  · rw [hk_app]
    exact List.nodup_append.mpr ⟨h.once, by simp, fun a ha b hb z => by
      rw [List.mem_singleton] at hb
      subst hb z
      exact hf ha⟩
  · intro g hg
    rw [hk_app] at hg
    rcases List.mem_append.mp hg with z | z
    · exact h.sub g z
    · rw [List.mem_singleton.mp z]
      exact h.key
  · intro g k hg
    rcases List.mem_append.mp hg with z | z
    · obtain ⟨n, hn, hlt, r1, r2⟩ := h.back g k z
      refine ⟨n, hn, by omega, ?_, ?_⟩
      · rw [toL_app, List.take_append_of_le_length (by omega)]
        exact r1
      · rw [toL_app, List.drop_append_of_le_length (by omega), toL_one]
        exact .snoc r2 hstp
    · rw [List.mem_singleton] at z
      injection z with z1 z2
      subst z1 z2
      refine ⟨t.cps.size, rfl, by omega, ?_, ?_⟩
      · rw [toL_app, ← hl, List.take_left]
        exact h.run
      · rw [toL_app, ← hl, List.drop_left, toL_one]
        exact .snoc .nil hstp
theorem Way.done {zs : List Str} {es : List ER} {hs ps : List HR} {f t : Str} (st : Steps zs es) (h : Way zs es hs ps f t) (hf : f ∈ hks ps) : EndlessOk zs (cutS t none (some (hOf ps f))) (cutS t (some (hOf ps f)) none) := by
  obtain ⟨n, hn, hlt, r1, r2⟩ := h.back f _ (hOf_at h.once hf).1
  rw [hn]
  have g := st.good
  have hl : (toL t).length = t.cps.size := Array.length_toList
  have e1 := cut_take t n
  have e2 := cut_drop t n
  have s1 : (cutS t none (some (n : Int))).cps.size = n := by
    rw [← Array.length_toList, show (cutS t none (some (n : Int))).cps.toList = _ from e1, List.length_take]
    omega
  have s2 : (cutS t (some (n : Int)) none).cps.size = t.cps.size - n := by
    rw [← Array.length_toList, show (cutS t (some (n : Int)) none).cps.toList = _ from e2, List.length_drop]
    omega
  have h97 := h.few st
  have hsz := h.size
  refine ⟨by omega, by omega, ?_, fun m => ?_⟩
  · rw [e1, e2]
    exact (FL.rounds_free (fronts_pl zs g) (pieces_ne g) r1 r2 0).2
  · rw [e1, e2]
    exact (FL.rounds_free (fronts_pl zs g) (pieces_ne g) r1 r2 m).1
section
variable {P : Program} {w : World} {K : PySem.W.Frag} {mg : Str → Option Value} {base : Heap}
theorem ok_endless (T : Txt P K mg) : FnOk P w K mg base CX0 3 T.a_endless T.fd_endless ["book"] (spEndless T.C_Book) := by
  have nd := sc_endless.nd
  have G_next_fronts : FnOk P w K mg base CX0 2 T.a_next_fronts T.fd_next_fronts ["book"] (spNext T.C_Book) := ok_next_fronts T
  have G_heights : FnOk P w K mg base CX0 2 T.a_heights T.fd_heights ["steps"] spHeights := (ok_heights T).mono (by decide)
  refine T.F_endless.ok sc_endless (fun vs H Q E h => ?_) (fun cdv A outer s H vs Q E hr h => ?_)
  · obtain ⟨b, zs, rfl, _⟩ := h
    rfl
  · obtain ⟨b, zs, rfl, hB, q0, q1⟩ := h
    refine ⟨_, (pss_cons (ps_set (i := 1) nd rfl (by first | exact Or.inl rfl | exact Or.inr rfl) (pe_call G_next_fronts hr (by rfl) T.g_next_fronts T.F_next_fronts.kp T.b_next_fronts .nil pass0 (pa_cons (pv 0) pa_nil)))
  (pss_cons (ps_set (i := 2) nd rfl (by first | exact Or.inl rfl | exact Or.inr rfl) (pe_call G_heights hr (by rfl) T.g_heights T.F_heights.kp T.b_heights .nil pass0 (pa_cons (pv 1) pa_nil)))
  (pss_cons (ps_if (pt_cmpR op_eq (pe_callB call_lenD (by rfl) T.m_len PySem.boot_len (pa_cons (pv 2) pa_nil)) (pe_callB call_lenD (by rfl) T.m_len PySem.boot_len (pa_cons (pv 1) pa_nil)) (nomark _))
    (pss_one (ps_ret pe_non))
    pss_nil)
  (pss_cons (ps_set (i := 3) nd rfl (by first | exact Or.inl rfl | exact Or.inr rfl) pe_str)
  (pss_cons (ps_set (i := 4) nd rfl (by first | exact Or.inl rfl | exact Or.inr rfl) pe_str)
  (pss_cons (ps_set (i := 5) nd rfl (by first | exact Or.inl rfl | exact Or.inr rfl) pe_dnewK)
  (pss_cons (ps_while PassesOwn.never (pt_cmp (pc_dnotin (SPE.room1 hr) (pv 3) (pv 5)))
    (pss_cons (ps_asg (pe_callB call_len_str (by rfl) T.m_len PySem.boot_len (pa_cons (pv 4) pa_nil)) (pg_sub (pv 5) (pv 3) (set_dict (SPE.room1 hr))))
  (pss_cons (ps_set (i := 6) nd rfl (by first | exact Or.inl rfl | exact Or.inr rfl) (pe_callB (FR.cr_minS rfl (SPE.room1 hr)) (by rfl) T.m_min (by decide +kernel) (pa_cons (pe_lock (pe_lc (own := [("one", 7)]) (g := (gName 7)) rfl nd (pi_keys (pe_dget (SPE.room1 hr) (pv 1) (pv 3) (fun _ _ => rfl))) (blkOk_by (own := [("one", 7)]) (N := N_endless) (sc := defScope s_endless) (by decide +kernel)) (fun _ _ _ _ _ => (pg_name (i := 7) nd rfl (Or.inl rfl))) (fun _ _ _ _ _ => (pts_one (pt_cmp (pc_dnotin (SPE.room1 hr) (pe_dget (SPE.room1 hr) (pe_dget (SPE.room1 hr) (pv 1) (pv 3) (fun _ _ => rfl)) (pv 7) (fun _ _ => rfl)) (pv 2))))) (fun _ _ _ _ _ => (pv 7)))) pa_nil)))
  (pss_cons (ps_set (i := 4) nd rfl (by first | exact Or.inl rfl | exact Or.inr rfl) (pe_op op_add_str (pv 4) (pv 6)))
  (pss_one (ps_set (i := 3) nd rfl (by first | exact Or.inl rfl | exact Or.inr rfl) (pe_dget (SPE.room1 hr) (pe_dget (SPE.room1 hr) (pv 1) (pv 3) (fun _ _ => rfl)) (pv 6) (fun _ _ => rfl))))))))
  (pss_one (ps_ret (pe_tup (pa_cons (pe_slice sl_str (pv 4) po_none (po_some (pe_dget (SPE.room1 hr) (pv 5) (pv 3) (fun _ _ => rfl)))) (pa_cons (pe_slice sl_str (pv 4) (po_some (pe_dget (SPE.room1 hr) (pv 5) (pv 3) (fun _ _ => rfl))) po_none) pa_nil)))))))))))), ?_⟩
    walk_at "rds"
    refine spNext.mk hB fun d es H1 st hd hst s1 => ?_
    walk_at "rds"
    refine ⟨d, es, rfl, hst, st.grow.once, st.grow.row1, row_few st.good st.grow, st.grow.few st.good, fun h hl H2 hi hfx hh s2 h2 => ?_⟩
    have hst2 := hst.same s2
    have hd2 := hst2.at_
    have s02 := s1.trans s2
    walk_at "rds"
    refine RD.ite_d (fun _ => ?_) (fun hne => ?_)
    · walk_at "rds"
      exact q0 _ s02
    · have h0 : ("" : Str) ∉ hks hl := fun z => hne (by
        have := all_high st hi z
        unfold hdk out
        rw [FR.kvm_len, FR.kvm_len, this])
      have few := st.grow.few st.good
      have hrows : ∀ e, e ∈ es → H2 e.2.1 = some (.dK (inn e.2.2)) ∧ e.2.1 ≠ d := hst2.rows
      have neh : ∀ e, e ∈ es → e.2.1 ≠ h := fun e he => ne_of_none (hst.rows e he).1 hh
      clear hst hst2 s1 s2
      walk_at "rds"
      have hs' := hs
      have hpH : H p' = none := s02.free hp
      have hd3 := hs' _ _ hd2
      have h3 := hs' _ _ h2
      have hr3 : ∀ e, e ∈ es → H' e.2.1 = some (.dK (inn e.2.2)) := fun e he => hs' _ _ (hrows e he).1
      have s03 := s02.trans hs'
      have npd : d ≠ p' := ne_of_none hd2 hp
      have nph : h ≠ p' := ne_of_none h2 hp
      have npr : ∀ e, e ∈ es → e.2.1 ≠ p' := fun e he => ne_of_none (hrows e he).1 hp
      have ned : ∀ e, e ∈ es → e.2.1 ≠ d := fun e he => (hrows e he).2
      have hv' := hv
      clear hv hs' hp hrows hd2 h2 s02
      generalize p' = pa at hpH hv' npd nph npr ⊢
      generalize H' = H3 at hd3 h3 hr3 s03 hv' ⊢
      have hrow1 := st.grow.row1
      have hrow8 := row_few st.good st.grow
      refine FR.whileG (fun m σ H' => ∃ (ps : List HR) (f t : Str) (x6 x7 : Option V), σ = [some (.ref b), some (.ref d), some (.ref h), some (.str f), some (.str t), some (.ref pa), x6, x7] ∧ Same H H' ∧ H' d = some (.dK (out es)) ∧ H' h = some (.dK (hdk hl)) ∧ (∀ e, e ∈ es → H' e.2.1 = some (.dK (inn e.2.2))) ∧
        H' pa = some (.dK (hdk ps)) ∧ Way zs es hl ps f t ∧ m = 98 - ps.length) 98 ⟨[], "", "", _, _, rfl, s03, hd3, h3, hr3, hv', way0 st h0, rfl⟩ (fun m σ H4 p => ?_)
      obtain ⟨ps, f, t, x6, x7, rfl, s4, hd4, h4, hr4, hp4, wy, rfl⟩ := p
      clear s03 hd3 h3 hr3 hv'
      have few3 := wy.few st
      have tsz := wy.size
      walk_at "rds"
      rw [hdk_in]
      refine RD.ite_nd (fun hf => ?_) (fun hf => ?_)
      · refine FR.wnext ?_
        obtain ⟨e, he, ef⟩ := key_of_mem wy.key
        have h8 := hrow8 e he
        have he1 := hr4 e he
        have hget := StepsAt.get (H := H4) (d := d) st.grow.once he
        rw [ef] at hget
        have htl : t.length ≤ sizeLine := RD.szo (by show t.cps.size ≤ _; omega)
        walk_at "rds"
        have hpl : (hdk ps).length < sizeLine := RD.szl (by unfold hdk; rw [FR.kvm_len]; omega)
        refine FR.dputS hp4 hpl fun H5 k5 h5 => ?_
        rw [show (V.int (t.length : Int)) = V.int (t.cps.size : Int) from rfl, hdk_put hf] at h5
        have hd5 := k5 _ _ npd hd4
        have hh5 := k5 _ _ nph h4
        have hr5 : ∀ e, e ∈ es → H5 e.2.1 = some (.dK (inn e.2.2)) := fun e he => k5 _ _ (npr e he) (hr4 e he)
        have he5 := hr5 e he
        have s5 := RD.same_mut k5 s4 hpH
        clear hd4 h4 hr4 hp4 s4 k5 he1
        walk_at "rds"
        refine FR.lockE he5 fun od Hf kf hf2 => ?_
        have hdf := kf _ _ (ned e he).symm hd5
        have hhf := kf _ _ (neh e he).symm hh5
        walk_at "rds"
        refine FR.dgetS (.inl hdf) hget ?_
        walk_at "rds"
        refine RD.lcF FR.w_keys (by rw [inn_len]; omega) (fun i => (e.2.2[i]?).bind fun p => if p.2 ∈ hks hl then none else some (.str (one p.1))) (fun H' s => s _ _ hf2) (fun j v H6 Z N hj hx2 s6 hZ hN => ?_) (fun D H6 hD s6 hv6 => ?_)
        · rw [inn_keys, List.getElem?_map] at hx2
          obtain ⟨p, hp, ev⟩ := Option.map_eq_some_iff.mp hx2
          have ev : v = .str (one p.1) := ev.symm
          subst ev
          walk_at "rds"
          refine ⟨rfl, ?_⟩
          walk_at "rds"
          refine FR.dgetS (.inl (s6 _ _ hdf)) hget ?_
          walk_at "rds"
          refine FR.dgetS (.inr ⟨_, s6 _ _ hf2⟩) (inn_at (hrow1 e he) (List.mem_of_getElem? hp)) ?_
          walk_at "rds"
          rw [hdk_in]
          refine RD.ite_nd (fun hn => ?_) (fun hn => ?_)
          · walk_at "rds"
            exact hZ _ _ (by rw [hp]; exact if_neg hn) (Same.refl _)
          · exact hN _ (by rw [hp]; exact if_pos hn) (Same.refl _)
        · rw [inn_len] at hv6
          obtain ⟨as, has, hmem⟩ := low_keys hl e.2.2
          rw [has] at hv6
          have hpos : 0 < as.length := by
            obtain ⟨a, r, har, hr⟩ := hfx e he (by rw [ef]; exact wy.low)
            exact List.length_pos_of_mem ((hmem a).mpr ⟨r, har, hr⟩)
          refine FR.ul (s6 _ _ hf2) fun H7 k7 e7 => ?_
          have s57 : Same H5 H7 := FR.unlock kf s6 k7 e7 he5
          have hv7 := k7 _ _ (ne_of_none hf2 hD).symm hv6
          have hd7 := s57 _ _ hd5
          have hh7 := s57 _ _ hh5
          have hr7 : ∀ e, e ∈ es → H7 e.2.1 = some (.dK (inn e.2.2)) := fun e he => s57 _ _ (hr5 e he)
          have he7 := hr7 e he
          have h7 := s57 _ _ h5
          have s7 := s5.trans s57
          clear hv6 s6 kf hf2 hdf hhf k7 e7 hD hd5 hh5 hr5 h5 s5 s57
          walk_at "rds"
          refine FR.minS (ss := as.map one) (.inl (.inl (by rw [List.map_map]; exact hv7))) (by rw [List.length_map]; exact hpos) fun m hm => ?_
          obtain ⟨a, ha, rfl⟩ := List.mem_map.mp hm
          obtain ⟨r, har, hr⟩ := (hmem a).mp ha
          walk_at "rds"
          have ho1 : (one a).length = 1 := rfl
          have htl2 : t.length = t.cps.size := rfl
          refine RB.addS (RD.szo (by omega)) ?_
          walk_at "rds"
          refine FR.dgetS (.inl hd7) hget ?_
          walk_at "rds"
          refine FR.dgetS (.inl he7) (inn_at (hrow1 e he) har) ?_
          walk_at "rds"
          refine ⟨98 - (ps ++ [(f, (t.cps.size : Int))]).length, ?_, ps ++ [(f, (t.cps.size : Int))], r, t ++ one a, _, _, rfl, s7, hd7, hh7, hr7, h7, wy.more st hf he ef har hr, rfl⟩
          rw [List.length_append, List.length_singleton]
          omega
      · have hH := (hOf_at wy.once hf).2
        have htl : t.length ≤ sizeLine := RD.szo (by show t.cps.size ≤ _; omega)
        walk_at "rds"
        refine FR.dgetS (.inl hp4) hH ?_
        walk_at "rds"
        refine FR.dgetS (.inl hp4) hH ?_
        walk_at "rds"
        exact q1 _ _ _ _ (wy.done st hf) (s4.free hp) (s4.trans hs) hv
end


end K11

namespace K11
open PySem PySem.Spec PyProof.Rows L2
local macro_rules | `(tactic| walk_at "kd") => `(tactic| first | assumption | exact SPD.KdOf.int _ | exact SPD.KdOf.str _ | exact SPD.KdOf.bl _ | exact SPD.KdOf.non | exact SPD.KdOf.same (by assumption) (by walk_at "kd") | exact SPD.KdOf.tup (by walk_at "hp") | exact SPD.KdOf.lst (by walk_at "hp") | fail "no")
local macro_rules | `(tactic| walk_at "ne") => `(tactic| first | assumption | exact Ne.symm (by assumption) | fail "no")
local macro_rules | `(tactic| walk_at "hp") => `(tactic| first | assumption | exact RD.at_same (by assumption) (by walk_at "hp") | exact RD.at_kb (by assumption) (by walk_at "ne") (by walk_at "hp") | fail "no")
local macro_rules | `(tactic| walk_at "sq") => `(tactic| first | assumption | exact Or.inl (Or.inl (by walk_at "hp")) | exact Same.seq (by assumption) (by walk_at "sq") | exact RD.KB.seq (by assumption) (by walk_at "ne") (by walk_at "sq") | fail "no")
local macro_rules | `(tactic| walk_at "st") => `(tactic| first | assumption | exact Or.inl (Or.inl (by walk_at "hp")) | exact RD.Same.tup (by assumption) (by walk_at "st") | exact RD.KB.tup (by assumption) (by walk_at "ne") (by walk_at "st") | fail "no")
local macro_rules | `(tactic| walk_at "rd") => `(tactic| first
  | with_reducible refine RD.c ?_
  | ((with_reducible refine' RD.var ?rdE ?rdK); (case rdE => exact rfl))
  | with_reducible refine RD.op ?_
  | with_reducible refine RD.un ?_
  | with_reducible refine RD.nil ?_
  | with_reducible refine RD.cons ?_
  | with_reducible refine RD.cb ?_
  | with_reducible refine RD.call ?_
  | with_reducible refine RD.test ?_
  | with_reducible refine RD.tb' ?_
  | with_reducible refine RD.bl ?_
  | with_reducible refine RD.and' ?_
  | with_reducible refine RD.or' ?_
  | with_reducible refine RD.not' ?_
  | with_reducible refine RD.andV ?_
  | with_reducible refine RD.orV ?_
  | with_reducible refine RD.notV ?_
  | with_reducible refine RD.ife ?_
  | with_reducible refine RD.sl ?_
  | with_reducible refine RD.part ?_
  | with_reducible refine RD.noPart ?_
  | with_reducible refine RD.partI ?_
  | with_reducible refine RD.rd0 ?_
  | with_reducible refine RD.rdU ?_
  | ((with_reducible refine' RD.rdEq ?rdE ?rdK); (case rdE => rfl))
  | ((with_reducible refine' RD.rdNe ?rdE ?rdK); (case rdE => rfl))
  | ((with_reducible refine' RD.ixL ?rdH ?rdE ?rdK); (case rdH => walk_at "sq"); (case rdE => first | rfl | assumption))
  | ((with_reducible refine' RD.rdI ?rdC ?rdK); (case rdC => first | assumption | (show (0 : Int) < _; first | decide | omega) | exact ⟨by decide, by decide⟩ | exact ⟨by assumption, by assumption⟩ | exact .inr ⟨by decide, by decide⟩ | exact .inl ⟨by decide, by decide⟩ | exact ⟨by decide, by decide, by decide⟩ | exact .inl ⟨by omega, by omega⟩))
  | ((with_reducible refine' RD.setL ?rdH ?rdE ?rdK); (case rdH => walk_at "hp"); (case rdE => rfl); intro $(Lean.mkIdent `H'):ident $(Lean.mkIdent `hk):ident $(Lean.mkIdent `hv):ident)
  | ((with_reducible refine' RD.irng1V ?rdA ?rdB ?rdK); (case rdA => first | decide | omega); (case rdB => first | decide | omega))
  | with_reducible refine RD.int1 ?_
  | with_reducible refine RD.abs1 ?_
  | ((with_reducible refine' RD.len ?rdH ?rdK); (case rdH => first | exact Or.inl (by walk_at "sq") | exact Or.inr (by walk_at "st")))
  | with_reducible refine RD.tup ?_
  | with_reducible refine RD.lst ?_
  | with_reducible refine RD.ite1 ?_
  | with_reducible refine RD.ite0 ?_
  | with_reducible refine RD.ite1n ?_
  | with_reducible refine RD.ite0n ?_
  | with_reducible refine RD.seq ?_
  | with_reducible refine RD.asg ?_
  | with_reducible refine RD.name ?_
  | with_reducible refine RD.ret ?_
  | with_reducible refine RD.drop ?_
  | with_reducible refine RD.next ?_
  | with_reducible refine RD.ifs ?_
  | with_reducible refine RD.par ?_
  | with_reducible refine RD.par2 ?_
  | with_reducible refine RD.sub ?_
  | with_reducible refine RD.gcons ?_
  | with_reducible refine RD.gnil ?_
  | with_reducible refine RD.bm ?_
  | ((with_reducible refine' RD.bmL ?rdH ?rdK); (case rdH => walk_at "sq"))
  | ((with_reducible refine' RD.newZ ?rdH ?rdK); (case rdH => exact RD.sz _); intro $(Lean.mkIdent `p'):ident $(Lean.mkIdent `H'):ident $(Lean.mkIdent `hp):ident $(Lean.mkIdent `hs):ident $(Lean.mkIdent `hv):ident; (try have $(Lean.mkIdent `hn):ident := hand_ne $(Lean.mkIdent `hp):ident (by walk_at "hk")))
  | with_reducible refine RD.fors ?_
  | with_reducible refine RD.lc ?_
  | with_reducible refine RD.yes ?_
  | with_reducible refine RD.ilist ?_
  | ((with_reducible refine' RD.ilistV ?rdH ?rdK); (case rdH => walk_at "sq"))
  | with_reducible refine RD.itup ?_
  | ((with_reducible refine' RD.itupV ?rdH ?rdK); (case rdH => walk_at "st"))
  | with_reducible refine RD.irng1 ?_
  | with_reducible refine RD.irng2 ?_
  | ((with_reducible refine' RD.irng2V ?rdA ?rdK); (case rdA => first | decide | omega))
  | with_reducible refine RD.ienum ?_
  | ((with_reducible refine' RD.ienumV ?rdH ?rdK); (case rdH => walk_at "sq"))
  | with_reducible refine RD.izip ?_
  | ((with_reducible refine' RD.izipV ?rdH ?rdE ?rdK); (case rdH => walk_at "sq"); (case rdE => walk_at "sq"))
  | with_reducible refine SPD.izipA ?_
  | with_reducible refine RD.istr ?_
  | with_reducible refine RD.istrV ?_
  | ((with_reducible refine' RD.slL ?rdH ?rdK); (case rdH => walk_at "sq"); intro $(Lean.mkIdent `p'):ident $(Lean.mkIdent `H'):ident $(Lean.mkIdent `hp):ident $(Lean.mkIdent `hs):ident $(Lean.mkIdent `hv):ident; (try have $(Lean.mkIdent `hn):ident := hand_ne $(Lean.mkIdent `hp):ident (by walk_at "hk")))
  | ((with_reducible refine' RD.cat ?rdH ?rdE ?rdZ ?rdK); (case rdH => walk_at "hp"); (case rdE => walk_at "hp"); (case rdZ => exact RD.sz _); intro $(Lean.mkIdent `p'):ident $(Lean.mkIdent `H'):ident $(Lean.mkIdent `hp):ident $(Lean.mkIdent `hs):ident $(Lean.mkIdent `hv):ident; (try have $(Lean.mkIdent `hn):ident := hand_ne $(Lean.mkIdent `hp):ident (by walk_at "hk")))
  | ((with_reducible refine' RD.gtup ?rdH ?rdE ?rdK); (case rdH => walk_at "st"); (case rdE => rfl))
  | ((with_reducible refine' RD.app ?rdH ?rdZ ?rdK); (case rdH => walk_at "hp"); (case rdZ => first | assumption | (apply RD.szl; omega)); intro $(Lean.mkIdent `H'):ident $(Lean.mkIdent `hk):ident $(Lean.mkIdent `hv):ident)
  | ((with_reducible refine' RD.all1 ?rdH ?rdK); (case rdH => walk_at "sq"))
  | ((with_reducible refine' RD.any1 ?rdH ?rdK); (case rdH => walk_at "sq"))
  | ((with_reducible refine' SPD.dnew ?rdK); intro $(Lean.mkIdent `p'):ident $(Lean.mkIdent `H'):ident $(Lean.mkIdent `hp):ident $(Lean.mkIdent `hs):ident $(Lean.mkIdent `hv):ident; (try have $(Lean.mkIdent `hn):ident := hand_ne $(Lean.mkIdent `hp):ident (by walk_at "hk")))
  | ((with_reducible refine' SPD.disp1 ?rdK); intro $(Lean.mkIdent `p'):ident $(Lean.mkIdent `H'):ident $(Lean.mkIdent `hp):ident $(Lean.mkIdent `hs):ident $(Lean.mkIdent `hv):ident; (try have $(Lean.mkIdent `hn):ident := hand_ne $(Lean.mkIdent `hp):ident (by walk_at "hk")))
  | ((with_reducible refine' SPD.isSeq ?rdH ?rdE ?rdK); (case rdH => walk_at "hp"); (case rdE => walk_at "kd"))
  | ((with_reducible refine' SPD.isTup ?rdE ?rdK); (case rdE => walk_at "kd"))
  | ((with_reducible refine' SPD.isLst ?rdE ?rdK); (case rdE => walk_at "kd"))
  | ((with_reducible refine' SPD.isBool ?rdE ?rdK); (case rdE => walk_at "kd"))
  | ((with_reducible refine' SPD.isStr ?rdE ?rdK); (case rdE => walk_at "kd"))
  | ((with_reducible refine' SPD.isInt ?rdE ?rdK); (case rdE => walk_at "kd"))
  | dsimp only)
local macro_rules | `(tactic| walk_at "rds") => `(tactic| repeat walk_at "rd")
local macro_rules | `(tactic| walk_at "sm") => `(tactic| first | assumption | exact Same.refl _ | exact RD.sm_tr (by assumption) (by walk_at "sm") | fail "no")
local macro_rules | `(tactic| walk_at "kb") => `(tactic| first | assumption | exact RD.KB.refl | exact RD.kb_tr (by assumption) (by walk_at "kb") | exact RD.kb_trs (by assumption) (by walk_at "kb") | fail "no")
local macro_rules | `(tactic| walk_at "fr") => `(tactic| first | assumption | exact RD.fr_of (by assumption) (by walk_at "sm") | fail "no")
local macro_rules | `(tactic| walk_at "hk") => `(tactic| first | assumption | exact hand_same (by assumption) (by walk_at "hk") | exact hand_kb (by assumption) (by walk_at "fr") (by walk_at "hk") | fail "no")
local macro_rules | `(tactic| walk_at "na") => `(tactic| first | assumption | exact hand_ne (by assumption) (by walk_at "hk") | fail "no")
local macro_rules | `(tactic| walk_at "dqa") => `(tactic| first | exact SPD.DqA.nil | exact SPD.DqA.cons (by walk_at "dq") (by walk_at "dqa") | exact SPD.DqA.app (by walk_at "dqa") (by walk_at "dqa") | fail "no")
local macro_rules | `(tactic| walk_at "dq") => `(tactic| first | assumption | exact SPD.Dq.leaf rfl | exact SPD.dq_kb (by assumption) (by walk_at "kb") | exact SPD.dqTup (by walk_at "hp") (by walk_at "na") (by walk_at "dqa") | exact SPD.dqLst (by walk_at "hp") (by walk_at "na") (by walk_at "dqa") | exact SPD.dqNil (by walk_at "hp") (by walk_at "na") (by first | decide | simp) (by first | decide | simp) | fail "no")

local macro_rules | `(tactic| walk_at "rd") => `(tactic| first
  | with_reducible refine RB.chain ?_
  | with_reducible refine RB.m1 ?_
  | with_reducible refine RB.strE ?_
  | with_reducible refine RB.fld ?_
  | with_reducible refine RB.setF ?_
  | with_reducible refine RB.ss ?_
  | with_reducible refine RB.rev ?_
  | with_reducible refine RB.make ?_
  | with_reducible refine RB.makeS ?_
  | with_reducible refine RB.mkO ?_
  | with_reducible refine NR.ienumT ?_
  | with_reducible refine RB.inS ?_
  | with_reducible refine RB.bmS ?_
  | with_reducible refine RB.callS ?_
  | with_reducible refine RB.sw3 ?_
  | with_reducible refine RB.par3 ?_
  | with_reducible refine RB.par3V ?_
  | ((with_reducible refine' RB.slS ?rdH ?rdK); (case rdH => walk_at "sz"))
  | with_reducible refine RB.xf ?_
  | ((with_reducible refine' RB.xfV ?rdH ?rdE ?rdK); (case rdH => walk_at "hp"); (case rdE => rfl))
  | ((with_reducible refine' NR.ienumTV ?rdH ?rdK); (case rdH => walk_at "st"))
  | ((with_reducible refine' RB.lenL ?rdH ?rdK); (case rdH => walk_at "sq"))
  | ((with_reducible refine' RB.lenT ?rdH ?rdK); (case rdH => walk_at "st"))
  | ((with_reducible refine' RB.lenS ?rdH ?rdK); (case rdH => walk_at "sz"))
  | ((with_reducible refine' RD.lenS ?rdH ?rdK); (case rdH => walk_at "sz"))
  | ((with_reducible refine' RB.slT ?rdH ?rdK); (case rdH => walk_at "hp"); intro $(Lean.mkIdent `p'):ident $(Lean.mkIdent `H'):ident $(Lean.mkIdent `hs):ident $(Lean.mkIdent `hv):ident $(Lean.mkIdent `hp):ident; (try have $(Lean.mkIdent `hn):ident := two_ne $(Lean.mkIdent `hp):ident (by walk_at "na") (by walk_at "hk")))
  | ((with_reducible refine' RB.revV ?rdH ?rdK); (case rdH => walk_at "st"); intro $(Lean.mkIdent `p'):ident $(Lean.mkIdent `H'):ident $(Lean.mkIdent `hp):ident $(Lean.mkIdent `hs):ident $(Lean.mkIdent `hv):ident; (try have $(Lean.mkIdent `hn):ident := hand_ne $(Lean.mkIdent `hp):ident (by walk_at "hk")))
  | ((with_reducible refine' RB.listS ?rdH ?rdK); (case rdH => walk_at "sz"); intro $(Lean.mkIdent `p'):ident $(Lean.mkIdent `H'):ident $(Lean.mkIdent `hp):ident $(Lean.mkIdent `hs):ident $(Lean.mkIdent `hv):ident; (try have $(Lean.mkIdent `hn):ident := hand_ne $(Lean.mkIdent `hp):ident (by walk_at "hk")))
  | ((with_reducible refine' RB.listO ?rdH ?rdK); (case rdH => first | exact Or.inl (by walk_at "sq") | exact Or.inr (by walk_at "st")); intro $(Lean.mkIdent `p'):ident $(Lean.mkIdent `H'):ident $(Lean.mkIdent `hp):ident $(Lean.mkIdent `hs):ident $(Lean.mkIdent `hv):ident; (try have $(Lean.mkIdent `hn):ident := hand_ne $(Lean.mkIdent `hp):ident (by walk_at "hk")))
  | ((with_reducible refine' RB.tupL ?rdH ?rdK); (case rdH => walk_at "sq"); intro $(Lean.mkIdent `p'):ident $(Lean.mkIdent `H'):ident $(Lean.mkIdent `hp):ident $(Lean.mkIdent `hs):ident $(Lean.mkIdent `hv):ident; (try have $(Lean.mkIdent `hn):ident := hand_ne $(Lean.mkIdent `hp):ident (by walk_at "hk")))
  | ((with_reducible refine' RB.catT ?rdH ?rdE ?rdZ ?rdK); (case rdH => walk_at "hp"); (case rdE => walk_at "hp"); (case rdZ => exact RB.LN.sum (by walk_at "ln") (by walk_at "ln") rfl); intro $(Lean.mkIdent `p'):ident $(Lean.mkIdent `H'):ident $(Lean.mkIdent `hs):ident $(Lean.mkIdent `hv):ident $(Lean.mkIdent `hp):ident; (try have $(Lean.mkIdent `hn):ident := three_ne $(Lean.mkIdent `hp):ident (by walk_at "na") (by walk_at "na") (by walk_at "hk")))
  | fail "no")
local macro_rules | `(tactic| walk_at "ln") => `(tactic| first | with_reducible assumption | exact RB.LN.cut (by walk_at "ln") | exact RB.LN.app (by walk_at "ln") (by walk_at "ln") | exact RB.LN.rev (by walk_at "ln") | exact RB.LN.rep (by walk_at "ln") | exact RB.LN.lit rfl | fail "no")
local macro_rules | `(tactic| walk_at "sz") => `(tactic| first | assumption | exact RD.sz _ | fail "no")

local macro_rules | `(tactic| walk_at "dk") => `(tactic| first | exact FR.rd_of (by walk_at "hp") | exact Or.inr ⟨_, by walk_at "hp"⟩ | fail "no")
local macro_rules | `(tactic| walk_at "rd") => `(tactic| first
  | with_reducible refine FR.dget ?_
  | with_reducible refine FR.din ?_
  | with_reducible refine FR.dnotin ?_
  | with_reducible refine FR.dc ?_
  | with_reducible refine FR.ikeys ?_
  | with_reducible refine FR.ivals ?_
  | with_reducible refine FR.bm0 ?_
  | ((with_reducible refine' FR.dinS ?rdH ?rdK); (case rdH => walk_at "dk"))
  | ((with_reducible refine' FR.keysV ?rdH ?rdK); (case rdH => walk_at "hp"))
  | ((with_reducible refine' FR.valsV ?rdH ?rdK); (case rdH => walk_at "hp"))
  | ((with_reducible refine' FR.bmD ?rdH ?rdK); (case rdH => walk_at "hp"))
  | with_reducible refine FR.ckw ?_
  | ((with_reducible refine' FR.lenD ?rdH ?rdK); (case rdH => walk_at "hp"))
  | fail "no")

/-! ### rounds judged -/
theorem foldl_app : ∀ (l : List (Array Nat)) (acc : Array Nat), (l.foldl (· ++ ·) acc).toList = acc.toList ++ (l.map Array.toList).flatten
  | [], acc => by simp
  | x :: r, acc => by
    rw [List.foldl_cons, foldl_app r (acc ++ x), Array.toList_append, List.map_cons, List.flatten_cons, List.append_assoc]
theorem mul_rep (z : Str) (n : Nat) : toL (Txt.mul z (n : Int)) = FL.rep n (toL z) := by
  unfold Txt.mul FL.rep
  by_cases h1 : (n : Int) < 1
  · have : n = 0 := by omega
    subst this
    rfl
  · rw [if_neg h1]
    by_cases h2 : ((n : Int) == 1 || z.length == 0) = true
    · rw [if_pos h2]
      rcases Bool.or_eq_true _ _ ▸ h2 with e | e
      · have : n = 1 := by
          have := of_decide_eq_true (by simpa using e : decide ((n : Int) = 1) = true)
          omega
        subst this
        simp
      · have e3 : z.cps.size = 0 := beq_iff_eq.mp e
        have : toL z = [] := List.eq_nil_of_length_eq_zero (by rw [show (toL z).length = z.cps.size from Array.length_toList]; exact e3)
        rw [this, List.flatten_eq_nil_iff.mpr]
        intro l hl
        exact (List.mem_replicate.mp hl).2
    · rw [if_neg h2]
      show ((List.replicate (n : Int).toNat z.cps).foldl (· ++ ·) #[]).toList = _
      rw [foldl_app, List.map_replicate, Int.toNat_natCast]
      rfl
theorem mul_fine {z : Str} {n : Nat} (hz : z.cps.size ≤ 100000) (h : z.cps.size * n ≤ 1000000) (hn : n ≤ 1000) : MulOk z (n : Int) := by
  have e : z.length = z.cps.size := rfl
  refine ⟨?_, fun h1 _ => ?_, fun _ _ => ?_⟩
  · rw [Bool.or_eq_false_iff]
    exact ⟨decide_eq_false (by omega), decide_eq_false (by omega)⟩
  · have h2 : (1000000 : Int) ≤ (2 ^ 63 - 1) / (n : Int) := by
      rw [Int.le_ediv_iff_mul_le (by omega)]
      have : (n : Int) ≤ 1000 := by omega
      omega
    omega
  · unfold PySem.Builtin.Str.tooLong
    rw [sizeLine_eq, e, Int.toNat_natCast]
    exact decide_eq_false (by omega)
def freeD (zs : List Str) (w : List Nat) : Bool := !(pl zs).any fun p => decide (p <:+: w)
theorem freeD_iff {zs : List Str} {w : List Nat} : freeD zs w = true ↔ FL.Free (pl zs) w := by
  unfold freeD FL.Free
  rw [Bool.not_eq_true', List.any_eq_false]
  constructor
  · exact fun h p hp z => h p hp (decide_eq_true z)
  · exact fun h p hp z => h p hp (of_decide_eq_true z)
theorem holds_free (zs : List Str) (w : Str) : holdsB zs w = !freeD zs (toL w) := by
  unfold holdsB freeD pl
  rw [List.any_map, Bool.not_not]
  rfl
/-- a front and a round that are free without end -/
def longB (zs : List Str) (p q : Str) : Bool := freeD zs (toL p ++ FL.rep (2 + 16 / q.cps.size) (toL q))
def pairB (zs : List Str) (p q : Str) : Bool := ownV zs (.str p) && ownV zs (.str q) && (decide (0 < q.cps.size) && longB zs p q)
theorem longB_eq {zs : List Str} {p q : Str} {m : Nat} (hq : 0 < q.cps.size) (hm : ∀ z, z ∈ zs → z.cps.size ≤ m) (h8 : m ≤ 16) : (freeD zs (toL p) && freeD zs (toL p ++ FL.rep (m / q.cps.size + 2) (toL q))) = longB zs p q := by
  have e : (toL q).length = q.cps.size := Array.length_toList
  rw [Bool.eq_iff_iff, Bool.and_eq_true]
  unfold longB
  rw [freeD_iff, freeD_iff, freeD_iff, ← e]
  refine FL.looks (by omega) (fun y hy => ?_) h8
  obtain ⟨z, hz, rfl⟩ := List.mem_map.mp hy
  rw [show (toL z).length = z.cps.size from Array.length_toList]
  exact hm z hz
def spStays (C : Addr) : Sp := fun vs H Q _ => ∃ (b : Addr) (zs : List Str) (p q : Str), vs = [.ref b, .str p, .str q] ∧ BK C H b zs ∧ p.cps.size ≤ 100000 ∧ q.cps.size ≤ 100000 ∧ 0 < q.cps.size ∧ ∀ H', Same H H' → Q (.bl (longB zs p q)) H'
def twoOf (x y : V) : Option (Str × Str) := match x, y with
  | .str p, .str q => some (p, q)
  | _, _ => none
/-- what a thing is -/
inductive Th (K : PySem.W.Frag) (H : Hp) : V → Option (Str × Str) → Prop where
  | kind {v : V} {k : SPD.Kd} : SPD.KdOf K H v k → k ≠ .tup → Th K H v none
  | len {a : Addr} {xs : List V} : H a = some (.tup xs) → xs.length ≠ 2 → Th K H (.ref a) none
  | two {a : Addr} {x y : V} {j k : SPD.Kd} : H a = some (.tup [x, y]) → SPD.KdOf K H x j → SPD.KdOf K H y k → (∀ z, x = .str z → z.cps.size ≤ 100000) → (∀ z, y = .str z → z.cps.size ≤ 100000) → Th K H (.ref a) (twoOf x y)
theorem Th.same {K : PySem.W.Frag} {H H' : Hp} {v : V} {o : Option (Str × Str)} (s : Same H H') (h : Th K H v o) : Th K H' v o := by
  cases h with
  | kind a b => exact .kind (a.same s) b
  | len a b => exact .len (s _ _ a) b
  | two a b c d e => exact .two (s _ _ a) (b.same s) (c.same s) d e
def judged (zs : List Str) : Option (Str × Str) → Bool
  | none => false
  | some (p, q) => pairB zs p q
theorem judged_not {zs : List Str} {x y : V} (h : (ownV zs x && ownV zs y) = false) : judged zs (twoOf x y) = false := by
  cases x with
  | str p =>
    cases y with
    | str q =>
      show (ownV zs (.str p) && ownV zs (.str q) && _) = false
      rw [h]
      rfl
    | _ => rfl
  | _ => rfl
def spIsEndless (K : PySem.W.Frag) (C : Addr) : Sp := fun vs H Q _ => ∃ (b : Addr) (zs : List Str) (v : V) (o : Option (Str × Str)), vs = [.ref b, v] ∧ BK C H b zs ∧ Th K H v o ∧ ∀ H', Same H H' → Q (.bl (judged zs o)) H'
section
variable {P : Program} {w : World} {K : PySem.W.Frag} {mg : Str → Option Value} {base : Heap}
theorem ok_stays_free (T : Txt P K mg) : FnOk P w K mg base CX0 2 T.a_stays_free T.fd_stays_free ["book", "front", "turned"] (spStays T.C_Book) := by
  have nd := sc_stays_free.nd
  have G_holds_piece : FnOk P w K mg base CX0 1 T.a_holds_piece T.fd_holds_piece ["book", "text"] (spHolds T.C_Book) := ok_holds_piece T
  refine T.F_stays_free.ok sc_stays_free (fun vs H Q E h => ?_) (fun cdv A outer s H vs Q E hr h => ?_)
  · obtain ⟨b, zs, p, q, rfl, _⟩ := h
    rfl
  · obtain ⟨b, zs, p, q, rfl, hB, hp, hq, hq0, qq⟩ := h
    refine ⟨_, (pss_cons (ps_if (pt_val (pe_call G_holds_piece hr (by rfl) T.g_holds_piece T.F_holds_piece.kp T.b_holds_piece .nil pass0 (pa_cons (pv 0) (pa_cons (pv 1) pa_nil))))
    (pss_one (ps_ret pe_bl))
    pss_nil)
  (pss_cons (ps_set (i := 3) nd rfl (by first | exact Or.inl rfl | exact Or.inr rfl) (pe_op op_add (pe_op op_fdivN (pe_callB (cr_max rfl) (by rfl) T.m_max (by decide +kernel) (pa_cons (pe_lc (own := [("piece", 4)]) (g := (gName 4)) rfl nd (pi_tup (pe_fld (pv 0) rfl)) (blkOk_by (own := [("piece", 4)]) (N := N_stays_free) (sc := defScope s_stays_free) (by decide +kernel)) (fun _ _ _ _ _ => (pg_name (i := 4) nd rfl (Or.inl rfl))) (fun _ _ _ _ _ => pts_nil) (fun _ _ _ _ _ => (pe_callB call_len_str (by rfl) T.m_len PySem.boot_len (pa_cons (pv 4) pa_nil)))) pa_nil)) (pe_callB call_len_str (by rfl) T.m_len PySem.boot_len (pa_cons (pv 2) pa_nil))) pe_int))
  (pss_one (ps_ret (pe_not (pe_call G_holds_piece hr (by rfl) T.g_holds_piece T.F_holds_piece.kp T.b_holds_piece .nil pass0 (pa_cons (pv 0) (pa_cons (pe_op op_add_str (pv 1) (pe_op RB.op_mulS (pv 2) (pv 3))) pa_nil)))))))), ?_⟩
    have g := hB.good
    walk_at "rds"
    refine spHolds.mk hB fun H1 s1 => ?_
    rw [holds_free]
    walk_at "rds"
    refine RD.ite_b (fun e => ?_) (fun e => ?_)
    · have e : freeD zs (toL p) = false := by simpa using e
      have e2 : longB zs p q = false := by
        rw [← longB_eq (m := 8) hq0 (fun z hz => (piece_size (g.piece z hz)).2) (by decide), e]
        rfl
      walk_at "rds"
      rw [← e2]
      exact qq _ s1
    · have e : freeD zs (toL p) = true := by simpa using e
      have hB1 := hB.same s1
      obtain ⟨⟨t, ⟨dx, hb⟩, ht⟩, _⟩ := id hB1
      walk_at "rds"
      refine RB.fldV hb T.cl_Book T.no_Book_pieces rfl ?_
      walk_at "rds"
      refine RD.lcF (walk_tup (xs := zs.map V.str)) (by rw [List.length_map]; have := g.few; omega) (fun j => (zs[j]?).map fun z => .int (z.cps.size : Int)) (fun H' s => by walk_at "st") (fun j v H10 Z N hj hx2 s10 hZ hN => ?_) (fun D H10 hD s10 hv10 => ?_)
      · rw [List.getElem?_map] at hx2
        obtain ⟨z, hz, rfl⟩ := Option.map_eq_some_iff.mp hx2
        have hps := piece_size (g.piece z (List.mem_of_getElem? hz))
        have hzl : z.length ≤ sizeLine := RD.szo (by show z.cps.size ≤ _; omega)
        walk_at "rds"
        refine ⟨rfl, ?_⟩
        walk_at "rds"
        exact hZ _ _ (by rw [hz]; rfl) (Same.refl _)
      · rw [List.length_map, RD.range_get (fun z : Str => V.int (z.cps.size : Int)), show (zs.map fun z => V.int (z.cps.size : Int)) = (zs.map fun z => (z.cps.size : Int)).map V.int by rw [List.map_map]; rfl] at hv10
        have hql : q.length ≤ sizeLine := RD.szo (by show q.cps.size ≤ _; omega)
        have hqe : q.length = q.cps.size := rfl
        walk_at "rds"
        have g1 := g.some
        refine ⟨D, _, rfl, .inl (.inl hv10), by rw [List.length_map]; omega, fun m hm hle => ?_⟩
        obtain ⟨z0, hz0, rfl⟩ := List.mem_map.mp hm
        have hM : ∀ z, z ∈ zs → z.cps.size ≤ z0.cps.size := fun z hz => by
          have := hle _ (List.mem_map.mpr ⟨z, hz, rfl⟩)
          omega
        have h08 := (piece_size (g.piece z0 hz0)).2
        have hB10 := hB1.same s10
        have key := longB_eq (zs := zs) (p := p) (q := q) hq0 hM (by omega)
        rw [e, Bool.true_and] at key
        generalize z0.cps.size = M at *
        walk_at "rds"
        refine RD.rdI ⟨by omega, by omega⟩ ?_
        have hdiv : ((M : Nat) : Int).fdiv (q.length : Int) + 2 = ((M / q.cps.size + 2 : Nat) : Int) := by
          rw [Int.fdiv_eq_ediv_of_nonneg _ (by omega), hqe]
          rfl
        have hmq : M / q.cps.size ≤ 8 := Nat.le_trans (Nat.div_le_self _ _) h08
        have hmm : q.cps.size * (M / q.cps.size + 2) ≤ 1000000 := by
          have h1 := Nat.mul_div_le M q.cps.size
          rw [Nat.mul_add]
          omega
        walk_at "rds"
        rw [hdiv]
        refine RB.mulS (mul_fine hq hmm (by omega)) ?_
        have hms : (Txt.mul q ((M / q.cps.size + 2 : Nat) : Int)).cps.size = (M / q.cps.size + 2) * q.cps.size := by
          have := congrArg List.length (mul_rep q (M / q.cps.size + 2))
          rw [FL.rep_length, show (toL q).length = q.cps.size from Array.length_toList] at this
          rw [← Array.length_toList]
          exact this
        refine RB.addS (RD.szo (by show p.cps.size + (Txt.mul q _).cps.size ≤ _; rw [hms, Nat.mul_comm]; omega)) ?_
        walk_at "rds"
        refine spHolds.mk hB10 fun H11 s11 => ?_
        rw [holds_free, toL_app, mul_rep, key]
        walk_at "rds"
        rw [Bool.not_not]
        exact qq _ ((s1.trans s10).trans s11)
theorem ok_is_endless (T : Txt P K mg) : FnOk P w K mg base CX0 3 T.a_is_endless T.fd_is_endless ["book", "thing"] (spIsEndless K T.C_Book) := by
  have nd := sc_is_endless.nd
  have G_stays_free : FnOk P w K mg base CX0 2 T.a_stays_free T.fd_stays_free ["book", "front", "turned"] (spStays T.C_Book) := ok_stays_free T
  have G_is_own : FnOk P w K mg base CX0 2 T.a_is_own T.fd_is_own ["book", "thing"] (spIsOwn K T.C_Book) := ok_is_own T
  refine T.F_is_endless.ok sc_is_endless (fun vs H Q E h => ?_) (fun cdv A outer s H vs Q E hr h => ?_)
  · obtain ⟨b, zs, v, o, rfl, _⟩ := h
    rfl
  · obtain ⟨b, zs, v, o, rfl, hB, ht, qq⟩ := h
    refine ⟨_, (pss_cons (ps_if (PW.pt (pw_or (pt_not (pt_val (pe_callB call_isi (by rfl) T.m_isinstance (by decide +kernel) (pa_cons (pv 1) (pa_cons (pe_bltn (v := .ty "tuple") (by rfl) T.m_tuple (by decide +kernel) rfl) pa_nil))))) (pw_or (pt_cmpR op_ne (pe_callB call_len_seq (by rfl) T.m_len PySem.boot_len (pa_cons (pv 1) pa_nil)) pe_int (nomark _)) (pw_or1 (pt_not (pt_val (pe_callB (cr_all rfl) (by rfl) T.m_all (by decide +kernel) (pa_cons (pe_lc (own := [("part", 2)]) (g := (gName 2)) rfl nd (pi_tup (pv 1)) (blkOk_by (own := [("part", 2)]) (N := N_is_endless) (sc := defScope s_is_endless) (by decide +kernel)) (fun _ _ _ _ _ => (pg_name (i := 2) nd rfl (Or.inl rfl))) (fun _ _ _ _ _ => pts_nil) (fun _ _ _ _ _ => (pe_call G_is_own hr (by rfl) T.g_is_own T.F_is_own.kp T.b_is_own .nil pass0 (pa_cons (pv 0) (pa_cons (pv 2) pa_nil))))) pa_nil))))))))
    (pss_one (ps_ret pe_bl))
    pss_nil)
  (pss_one (ps_ret (pe_and (pe_cmpR op_gt (pe_callB call_len_str (by rfl) T.m_len PySem.boot_len (pa_cons (pe_ix ix_tup (pv 1) pe_int (fun _ _ => rfl)) pa_nil)) pe_int (nomark _)) (pe_one (pe_call G_stays_free hr (by rfl) T.g_stays_free T.F_stays_free.kp T.b_stays_free .nil pass0 (pa_cons (pv 0) (pa_cons (pe_ix ix_tup (pv 1) pe_int (fun _ _ => rfl)) (pa_cons (pe_ix ix_tup (pv 1) pe_int (fun _ _ => rfl)) pa_nil))))))))), ?_⟩
    cases ht with
    | @kind _ k hk hne =>
      walk_at "rds"
      refine RD.ite_nd (fun _ => ?_) (fun z => absurd z hne)
      walk_at "rds"
      exact qq _ (Same.refl _)
    | @len a xs ha hl =>
      walk_at "rds"
      refine RD.ite_nd (fun z => absurd rfl z) (fun _ => ?_)
      walk_at "rds"
      refine RD.ite_nd (fun _ => ?_) (fun z => absurd (by injection z with z; omega) hl)
      walk_at "rds"
      exact qq _ (Same.refl _)
    | @two a x y j k ha hx hy hxs hys =>
      walk_at "rds"
      refine RD.ite_nd (fun z => absurd rfl z) (fun _ => ?_)
      walk_at "rds"
      refine RD.ite_nd (fun z => absurd rfl z) (fun _ => ?_)
      walk_at "rds"
      refine RD.lcF (walk_tup (xs := [x, y])) (by show 2 ≤ _; decide) (fun i => ([x, y][i]?).map fun v => .bl (ownV zs v)) (fun H' s => by walk_at "st") (fun i v H6 Z N hi hx2 s6 hZ hN => ?_) (fun D H6 hD s6 hv6 => ?_)
      · have hv : ∃ l, SPD.KdOf K H v l ∧ ∀ z, v = .str z → z.cps.size ≤ 100000 := by
          have hm := List.mem_of_getElem? hx2
          rcases List.mem_cons.mp hm with e | e
          · rw [e]
            exact ⟨j, hx, hxs⟩
          · rw [List.mem_singleton.mp e]
            exact ⟨k, hy, hys⟩
        obtain ⟨l, hl, hls⟩ := hv
        walk_at "rds"
        refine ⟨rfl, ?_⟩
        walk_at "rds"
        refine ⟨b, zs, v, l, rfl, hB.same s6, hl.same s6, hls, fun H7 s7 => ?_⟩
        exact hZ _ _ (by rw [hx2]; rfl) s7
      · have e1 : (List.range [x, y].length).filterMap (fun i => ([x, y][i]?).map fun v => V.bl (ownV zs v)) = [ownV zs x, ownV zs y].map V.bl := RD.range_get (fun v => V.bl (ownV zs v)) [x, y]
        rw [e1] at hv6
        have e2 : [ownV zs x, ownV zs y].all id = (ownV zs x && ownV zs y) := by simp
        have ha6 := s6 _ _ ha
        walk_at "rds"
        rw [e2]
        refine RD.ite_b (fun h => ?_) (fun h => ?_)
        · have h : (ownV zs x && ownV zs y) = false := by
            rw [← Bool.not_eq_true']
            exact h
          have e3 := judged_not h
          rw [e3] at qq
          walk_at "rds"
          exact qq _ s6
        · have h : (ownV zs x && ownV zs y) = true := by
            rw [← Bool.not_eq_false']
            exact h
          rw [Bool.and_eq_true] at h
          obtain ⟨p, rfl⟩ : ∃ p, x = .str p := by
            cases x with
            | str p => exact ⟨p, rfl⟩
            | _ => exact absurd (show false = true from h.1) (by decide)
          obtain ⟨q, rfl⟩ : ∃ q, y = .str q := by
            cases y with
            | str p => exact ⟨p, rfl⟩
            | _ => exact absurd (show false = true from h.2) (by decide)
          have hq := hys q rfl
          have hp := hxs p rfl
          have hql : q.length ≤ sizeLine := RD.szo (by show q.cps.size ≤ _; omega)
          have at0 : atI [V.str p, V.str q] 0 = some (.str p) := rfl
          have at1 : atI [V.str p, V.str q] 1 = some (.str q) := rfl
          have fin : ∀ b : Bool, judged zs (twoOf (.str p) (.str q)) = (decide (0 < q.cps.size) && longB zs p q) := fun _ => by
            show (ownV zs (.str p) && ownV zs (.str q) && _) = _
            rw [h.1, h.2]
            rfl
          rw [fin true] at qq
          walk_at "rds"
          refine RD.ixT (.inl (.inl ha6)) at1 ?_
          walk_at "rds"
          refine RD.ite_d (fun h0 => ?_) (fun h0 => ?_)
          · have h0 : 0 < q.cps.size := by
              have : (0 : Int) < (q.cps.size : Int) := h0
              omega
            rw [decide_eq_true h0, Bool.true_and] at qq
            walk_at "rds"
            refine RD.ixT (.inl (.inl ha6)) at0 ?_
            walk_at "rds"
            refine RD.ixT (.inl (.inl ha6)) at1 ?_
            walk_at "rds"
            exact ⟨b, zs, p, q, rfl, hB.same s6, hp, hq, h0, fun H7 s7 => qq _ (s6.trans s7)⟩
          · have h0 : ¬ 0 < q.cps.size := fun z => h0 (by show (0 : Int) < (q.cps.size : Int); omega)
            rw [decide_eq_false h0, Bool.false_and] at qq
            walk_at "rds"
            exact qq _ s6
end


end K11

namespace K11
open PySem PySem.Spec PyProof.Rows L2
local macro_rules | `(tactic| walk_at "kd") => `(tactic| first | assumption | exact SPD.KdOf.int _ | exact SPD.KdOf.str _ | exact SPD.KdOf.bl _ | exact SPD.KdOf.non | exact SPD.KdOf.same (by assumption) (by walk_at "kd") | exact SPD.KdOf.tup (by walk_at "hp") | exact SPD.KdOf.lst (by walk_at "hp") | fail "no")
local macro_rules | `(tactic| walk_at "ne") => `(tactic| first | assumption | exact Ne.symm (by assumption) | fail "no")
local macro_rules | `(tactic| walk_at "hp") => `(tactic| first | assumption | exact RD.at_same (by assumption) (by walk_at "hp") | exact RD.at_kb (by assumption) (by walk_at "ne") (by walk_at "hp") | fail "no")
local macro_rules | `(tactic| walk_at "sq") => `(tactic| first | assumption | exact Or.inl (Or.inl (by walk_at "hp")) | exact Same.seq (by assumption) (by walk_at "sq") | exact RD.KB.seq (by assumption) (by walk_at "ne") (by walk_at "sq") | fail "no")
local macro_rules | `(tactic| walk_at "st") => `(tactic| first | assumption | exact Or.inl (Or.inl (by walk_at "hp")) | exact RD.Same.tup (by assumption) (by walk_at "st") | exact RD.KB.tup (by assumption) (by walk_at "ne") (by walk_at "st") | fail "no")
local macro_rules | `(tactic| walk_at "rd") => `(tactic| first
  | with_reducible refine RD.c ?_
  | ((with_reducible refine' RD.var ?rdE ?rdK); (case rdE => exact rfl))
  | with_reducible refine RD.op ?_
  | with_reducible refine RD.un ?_
  | with_reducible refine RD.nil ?_
  | with_reducible refine RD.cons ?_
  | with_reducible refine RD.cb ?_
  | with_reducible refine RD.call ?_
  | with_reducible refine RD.test ?_
  | with_reducible refine RD.tb' ?_
  | with_reducible refine RD.bl ?_
  | with_reducible refine RD.and' ?_
  | with_reducible refine RD.or' ?_
  | with_reducible refine RD.not' ?_
  | with_reducible refine RD.andV ?_
  | with_reducible refine RD.orV ?_
  | with_reducible refine RD.notV ?_
  | with_reducible refine RD.ife ?_
  | with_reducible refine RD.sl ?_
  | with_reducible refine RD.part ?_
  | with_reducible refine RD.noPart ?_
  | with_reducible refine RD.partI ?_
  | with_reducible refine RD.rd0 ?_
  | with_reducible refine RD.rdU ?_
  | ((with_reducible refine' RD.rdEq ?rdE ?rdK); (case rdE => rfl))
  | ((with_reducible refine' RD.rdNe ?rdE ?rdK); (case rdE => rfl))
  | ((with_reducible refine' RD.ixL ?rdH ?rdE ?rdK); (case rdH => walk_at "sq"); (case rdE => first | rfl | assumption))
  | ((with_reducible refine' RD.rdI ?rdC ?rdK); (case rdC => first | assumption | (show (0 : Int) < _; first | decide | omega) | exact ⟨by decide, by decide⟩ | exact ⟨by assumption, by assumption⟩ | exact .inr ⟨by decide, by decide⟩ | exact .inl ⟨by decide, by decide⟩ | exact ⟨by decide, by decide, by decide⟩ | exact .inl ⟨by omega, by omega⟩))
  | ((with_reducible refine' RD.setL ?rdH ?rdE ?rdK); (case rdH => walk_at "hp"); (case rdE => rfl); intro $(Lean.mkIdent `H'):ident $(Lean.mkIdent `hk):ident $(Lean.mkIdent `hv):ident)
  | ((with_reducible refine' RD.irng1V ?rdA ?rdB ?rdK); (case rdA => first | decide | omega); (case rdB => first | decide | omega))
  | with_reducible refine RD.int1 ?_
  | with_reducible refine RD.abs1 ?_
  | ((with_reducible refine' RD.len ?rdH ?rdK); (case rdH => first | exact Or.inl (by walk_at "sq") | exact Or.inr (by walk_at "st")))
  | with_reducible refine RD.tup ?_
  | with_reducible refine RD.lst ?_
  | with_reducible refine RD.ite1 ?_
  | with_reducible refine RD.ite0 ?_
  | with_reducible refine RD.ite1n ?_
  | with_reducible refine RD.ite0n ?_
  | with_reducible refine RD.seq ?_
  | with_reducible refine RD.asg ?_
  | with_reducible refine RD.name ?_
  | with_reducible refine RD.ret ?_
  | with_reducible refine RD.drop ?_
  | with_reducible refine RD.next ?_
  | with_reducible refine RD.ifs ?_
  | with_reducible refine RD.par ?_
  | with_reducible refine RD.par2 ?_
  | with_reducible refine RD.sub ?_
  | with_reducible refine RD.gcons ?_
  | with_reducible refine RD.gnil ?_
  | with_reducible refine RD.bm ?_
  | ((with_reducible refine' RD.bmL ?rdH ?rdK); (case rdH => walk_at "sq"))
  | ((with_reducible refine' RD.newZ ?rdH ?rdK); (case rdH => exact RD.sz _); intro $(Lean.mkIdent `p'):ident $(Lean.mkIdent `H'):ident $(Lean.mkIdent `hp):ident $(Lean.mkIdent `hs):ident $(Lean.mkIdent `hv):ident; (try have $(Lean.mkIdent `hn):ident := hand_ne $(Lean.mkIdent `hp):ident (by walk_at "hk")))
  | with_reducible refine RD.fors ?_
  | with_reducible refine RD.lc ?_
  | with_reducible refine RD.yes ?_
  | with_reducible refine RD.ilist ?_
  | ((with_reducible refine' RD.ilistV ?rdH ?rdK); (case rdH => walk_at "sq"))
  | with_reducible refine RD.itup ?_
  | ((with_reducible refine' RD.itupV ?rdH ?rdK); (case rdH => walk_at "st"))
  | with_reducible refine RD.irng1 ?_
  | with_reducible refine RD.irng2 ?_
  | ((with_reducible refine' RD.irng2V ?rdA ?rdK); (case rdA => first | decide | omega))
  | with_reducible refine RD.ienum ?_
  | ((with_reducible refine' RD.ienumV ?rdH ?rdK); (case rdH => walk_at "sq"))
  | with_reducible refine RD.izip ?_
  | ((with_reducible refine' RD.izipV ?rdH ?rdE ?rdK); (case rdH => walk_at "sq"); (case rdE => walk_at "sq"))
  | with_reducible refine SPD.izipA ?_
  | with_reducible refine RD.istr ?_
  | with_reducible refine RD.istrV ?_
  | ((with_reducible refine' RD.slL ?rdH ?rdK); (case rdH => walk_at "sq"); intro $(Lean.mkIdent `p'):ident $(Lean.mkIdent `H'):ident $(Lean.mkIdent `hp):ident $(Lean.mkIdent `hs):ident $(Lean.mkIdent `hv):ident; (try have $(Lean.mkIdent `hn):ident := hand_ne $(Lean.mkIdent `hp):ident (by walk_at "hk")))
  | ((with_reducible refine' RD.cat ?rdH ?rdE ?rdZ ?rdK); (case rdH => walk_at "hp"); (case rdE => walk_at "hp"); (case rdZ => exact RD.sz _); intro $(Lean.mkIdent `p'):ident $(Lean.mkIdent `H'):ident $(Lean.mkIdent `hp):ident $(Lean.mkIdent `hs):ident $(Lean.mkIdent `hv):ident; (try have $(Lean.mkIdent `hn):ident := hand_ne $(Lean.mkIdent `hp):ident (by walk_at "hk")))
  | ((with_reducible refine' RD.gtup ?rdH ?rdE ?rdK); (case rdH => walk_at "st"); (case rdE => rfl))
  | ((with_reducible refine' RD.app ?rdH ?rdZ ?rdK); (case rdH => walk_at "hp"); (case rdZ => first | assumption | (apply RD.szl; omega)); intro $(Lean.mkIdent `H'):ident $(Lean.mkIdent `hk):ident $(Lean.mkIdent `hv):ident)
  | ((with_reducible refine' RD.all1 ?rdH ?rdK); (case rdH => walk_at "sq"))
  | ((with_reducible refine' RD.any1 ?rdH ?rdK); (case rdH => walk_at "sq"))
  | ((with_reducible refine' SPD.dnew ?rdK); intro $(Lean.mkIdent `p'):ident $(Lean.mkIdent `H'):ident $(Lean.mkIdent `hp):ident $(Lean.mkIdent `hs):ident $(Lean.mkIdent `hv):ident; (try have $(Lean.mkIdent `hn):ident := hand_ne $(Lean.mkIdent `hp):ident (by walk_at "hk")))
  | ((with_reducible refine' SPD.disp1 ?rdK); intro $(Lean.mkIdent `p'):ident $(Lean.mkIdent `H'):ident $(Lean.mkIdent `hp):ident $(Lean.mkIdent `hs):ident $(Lean.mkIdent `hv):ident; (try have $(Lean.mkIdent `hn):ident := hand_ne $(Lean.mkIdent `hp):ident (by walk_at "hk")))
  | ((with_reducible refine' SPD.isSeq ?rdH ?rdE ?rdK); (case rdH => walk_at "hp"); (case rdE => walk_at "kd"))
  | ((with_reducible refine' SPD.isTup ?rdE ?rdK); (case rdE => walk_at "kd"))
  | ((with_reducible refine' SPD.isLst ?rdE ?rdK); (case rdE => walk_at "kd"))
  | ((with_reducible refine' SPD.isBool ?rdE ?rdK); (case rdE => walk_at "kd"))
  | ((with_reducible refine' SPD.isStr ?rdE ?rdK); (case rdE => walk_at "kd"))
  | ((with_reducible refine' SPD.isInt ?rdE ?rdK); (case rdE => walk_at "kd"))
  | dsimp only)
local macro_rules | `(tactic| walk_at "rds") => `(tactic| repeat walk_at "rd")
local macro_rules | `(tactic| walk_at "sm") => `(tactic| first | assumption | exact Same.refl _ | exact RD.sm_tr (by assumption) (by walk_at "sm") | fail "no")
local macro_rules | `(tactic| walk_at "kb") => `(tactic| first | assumption | exact RD.KB.refl | exact RD.kb_tr (by assumption) (by walk_at "kb") | exact RD.kb_trs (by assumption) (by walk_at "kb") | fail "no")
local macro_rules | `(tactic| walk_at "fr") => `(tactic| first | assumption | exact RD.fr_of (by assumption) (by walk_at "sm") | fail "no")
local macro_rules | `(tactic| walk_at "hk") => `(tactic| first | assumption | exact hand_same (by assumption) (by walk_at "hk") | exact hand_kb (by assumption) (by walk_at "fr") (by walk_at "hk") | fail "no")
local macro_rules | `(tactic| walk_at "na") => `(tactic| first | assumption | exact hand_ne (by assumption) (by walk_at "hk") | fail "no")
local macro_rules | `(tactic| walk_at "dqa") => `(tactic| first | exact SPD.DqA.nil | exact SPD.DqA.cons (by walk_at "dq") (by walk_at "dqa") | exact SPD.DqA.app (by walk_at "dqa") (by walk_at "dqa") | fail "no")
local macro_rules | `(tactic| walk_at "dq") => `(tactic| first | assumption | exact SPD.Dq.leaf rfl | exact SPD.dq_kb (by assumption) (by walk_at "kb") | exact SPD.dqTup (by walk_at "hp") (by walk_at "na") (by walk_at "dqa") | exact SPD.dqLst (by walk_at "hp") (by walk_at "na") (by walk_at "dqa") | exact SPD.dqNil (by walk_at "hp") (by walk_at "na") (by first | decide | simp) (by first | decide | simp) | fail "no")

local macro_rules | `(tactic| walk_at "rd") => `(tactic| first
  | with_reducible refine RB.chain ?_
  | with_reducible refine RB.m1 ?_
  | with_reducible refine RB.strE ?_
  | with_reducible refine RB.fld ?_
  | with_reducible refine RB.setF ?_
  | with_reducible refine RB.ss ?_
  | with_reducible refine RB.rev ?_
  | with_reducible refine RB.make ?_
  | with_reducible refine RB.makeS ?_
  | with_reducible refine RB.mkO ?_
  | with_reducible refine NR.ienumT ?_
  | with_reducible refine RB.inS ?_
  | with_reducible refine RB.bmS ?_
  | with_reducible refine RB.callS ?_
  | with_reducible refine RB.sw3 ?_
  | with_reducible refine RB.par3 ?_
  | with_reducible refine RB.par3V ?_
  | ((with_reducible refine' RB.slS ?rdH ?rdK); (case rdH => walk_at "sz"))
  | with_reducible refine RB.xf ?_
  | ((with_reducible refine' RB.xfV ?rdH ?rdE ?rdK); (case rdH => walk_at "hp"); (case rdE => rfl))
  | ((with_reducible refine' NR.ienumTV ?rdH ?rdK); (case rdH => walk_at "st"))
  | ((with_reducible refine' RB.lenL ?rdH ?rdK); (case rdH => walk_at "sq"))
  | ((with_reducible refine' RB.lenT ?rdH ?rdK); (case rdH => walk_at "st"))
  | ((with_reducible refine' RB.lenS ?rdH ?rdK); (case rdH => walk_at "sz"))
  | ((with_reducible refine' RD.lenS ?rdH ?rdK); (case rdH => walk_at "sz"))
  | ((with_reducible refine' RB.slT ?rdH ?rdK); (case rdH => walk_at "hp"); intro $(Lean.mkIdent `p'):ident $(Lean.mkIdent `H'):ident $(Lean.mkIdent `hs):ident $(Lean.mkIdent `hv):ident $(Lean.mkIdent `hp):ident; (try have $(Lean.mkIdent `hn):ident := two_ne $(Lean.mkIdent `hp):ident (by walk_at "na") (by walk_at "hk")))
  | ((with_reducible refine' RB.revV ?rdH ?rdK); (case rdH => walk_at "st"); intro $(Lean.mkIdent `p'):ident $(Lean.mkIdent `H'):ident $(Lean.mkIdent `hp):ident $(Lean.mkIdent `hs):ident $(Lean.mkIdent `hv):ident; (try have $(Lean.mkIdent `hn):ident := hand_ne $(Lean.mkIdent `hp):ident (by walk_at "hk")))
  | ((with_reducible refine' RB.listS ?rdH ?rdK); (case rdH => walk_at "sz"); intro $(Lean.mkIdent `p'):ident $(Lean.mkIdent `H'):ident $(Lean.mkIdent `hp):ident $(Lean.mkIdent `hs):ident $(Lean.mkIdent `hv):ident; (try have $(Lean.mkIdent `hn):ident := hand_ne $(Lean.mkIdent `hp):ident (by walk_at "hk")))
  | ((with_reducible refine' RB.listO ?rdH ?rdK); (case rdH => first | exact Or.inl (by walk_at "sq") | exact Or.inr (by walk_at "st")); intro $(Lean.mkIdent `p'):ident $(Lean.mkIdent `H'):ident $(Lean.mkIdent `hp):ident $(Lean.mkIdent `hs):ident $(Lean.mkIdent `hv):ident; (try have $(Lean.mkIdent `hn):ident := hand_ne $(Lean.mkIdent `hp):ident (by walk_at "hk")))
  | ((with_reducible refine' RB.tupL ?rdH ?rdK); (case rdH => walk_at "sq"); intro $(Lean.mkIdent `p'):ident $(Lean.mkIdent `H'):ident $(Lean.mkIdent `hp):ident $(Lean.mkIdent `hs):ident $(Lean.mkIdent `hv):ident; (try have $(Lean.mkIdent `hn):ident := hand_ne $(Lean.mkIdent `hp):ident (by walk_at "hk")))
  | ((with_reducible refine' RB.catT ?rdH ?rdE ?rdZ ?rdK); (case rdH => walk_at "hp"); (case rdE => walk_at "hp"); (case rdZ => exact RB.LN.sum (by walk_at "ln") (by walk_at "ln") rfl); intro $(Lean.mkIdent `p'):ident $(Lean.mkIdent `H'):ident $(Lean.mkIdent `hs):ident $(Lean.mkIdent `hv):ident $(Lean.mkIdent `hp):ident; (try have $(Lean.mkIdent `hn):ident := three_ne $(Lean.mkIdent `hp):ident (by walk_at "na") (by walk_at "na") (by walk_at "hk")))
  | fail "no")
local macro_rules | `(tactic| walk_at "ln") => `(tactic| first | with_reducible assumption | exact RB.LN.cut (by walk_at "ln") | exact RB.LN.app (by walk_at "ln") (by walk_at "ln") | exact RB.LN.rev (by walk_at "ln") | exact RB.LN.rep (by walk_at "ln") | exact RB.LN.lit rfl | fail "no")
local macro_rules | `(tactic| walk_at "sz") => `(tactic| first | assumption | exact RD.sz _ | fail "no")

local macro_rules | `(tactic| walk_at "hp") => `(tactic| first | assumption | exact RD.at_same (by assumption) (by walk_at "hp") | exact SPE.at_kx (by assumption) (by walk_at "na") (by walk_at "hp") | exact RD.at_kb (by assumption) (by walk_at "ne") (by walk_at "hp") | fail "no")
local macro_rules | `(tactic| walk_at "sq") => `(tactic| first | assumption | exact Or.inl (Or.inl (by walk_at "hp")) | exact Same.seq (by assumption) (by walk_at "sq") | exact SPE.KX.seq (by assumption) (by walk_at "na") (by walk_at "sq") | exact RD.KB.seq (by assumption) (by walk_at "ne") (by walk_at "sq") | fail "no")
local macro_rules | `(tactic| walk_at "st") => `(tactic| first | assumption | exact Or.inl (Or.inl (by walk_at "hp")) | exact RD.Same.tup (by assumption) (by walk_at "st") | exact SPE.KX.tup (by assumption) (by walk_at "na") (by walk_at "st") | exact RD.KB.tup (by assumption) (by walk_at "ne") (by walk_at "st") | fail "no")
local macro_rules | `(tactic| walk_at "kx") => `(tactic| first | assumption | exact SPE.KX.refl | exact SPE.kx_tr (by assumption) (by walk_at "kx") | exact SPE.kx_trs (by assumption) (by walk_at "kx") | fail "no")
local macro_rules | `(tactic| walk_at "dqa") => `(tactic| first | exact SPE.DqA.nil | exact SPE.DqA.cons (by walk_at "dq") (by walk_at "dqa") | exact SPE.DqA.app (by walk_at "dqa") (by walk_at "dqa") | fail "no")
local macro_rules | `(tactic| walk_at "dq") => `(tactic| first | assumption | exact SPE.Dq.leaf rfl | exact SPE.dq_kx (by assumption) (by walk_at "kx") | exact SPE.dqTup (by walk_at "hp") (by walk_at "na") (by walk_at "dqa") | exact SPE.dqLst (by walk_at "hp") (by walk_at "na") (by walk_at "dqa") | exact SPE.dqNil (by walk_at "hp") (by walk_at "na") (by first | decide | simp) (by first | decide | simp) | fail "no")
local macro_rules | `(tactic| walk_at "dqx") => `(tactic| first | exact $(Lean.mkIdent `hdb):ident _ (by walk_at "kx") | exact SPE.DqA.cons (SPE.dq_kx (by assumption) (by walk_at "kx")) SPE.DqA.nil | exact SPE.DqA.cons (SPE.Dq.leaf rfl) SPE.DqA.nil | exact SPE.DqA.nil | (with_reducible refine SPE.dqa_cut ?_; walk_at "dqx") | (with_reducible refine SPE.dqa_rev ?_; walk_at "dqx") | (with_reducible refine SPE.DqA.app ?_ ?_ <;> walk_at "dqx") | fail "no")
local macro_rules | `(tactic| walk_at "dqz") => `(tactic| first | exact SPE.dqTupN (by walk_at "hp") (by walk_at "na") (by walk_at "dqx") (by walk_at "ln") rfl | exact SPE.dqLstN (by walk_at "hp") (by walk_at "na") (by walk_at "dqx") (by walk_at "ln") rfl | fail "no")
local macro_rules | `(tactic| walk_at "rd") => `(tactic| first
  | with_reducible refine SPE.revs ?_
  | ((with_reducible refine' SPE.revsV ?rdH ?rdK); (case rdH => walk_at "sz"))
  | ((with_reducible refine' SPE.sum1 ?rdH ?rdK); (case rdH => walk_at "sq"))
  | fail "no")

local macro_rules | `(tactic| walk_at "rd") => `(tactic| first
  | ((with_reducible refine' RB.listO ?rdH ?rdK); (case rdH => exact Or.inr (by walk_at "st")); intro $(Lean.mkIdent `p'):ident $(Lean.mkIdent `H'):ident $(Lean.mkIdent `hp):ident $(Lean.mkIdent `hs):ident $(Lean.mkIdent `hv):ident; (try have $(Lean.mkIdent `hn):ident := hand_ne $(Lean.mkIdent `hp):ident (by walk_at "hk")))
  | fail "no")

local macro_rules | `(tactic| walk_at "dk") => `(tactic| first | exact FR.rd_of (by walk_at "hp") | exact Or.inr ⟨_, by walk_at "hp"⟩ | fail "no")
local macro_rules | `(tactic| walk_at "rd") => `(tactic| first
  | with_reducible refine FR.dget ?_
  | with_reducible refine FR.din ?_
  | with_reducible refine FR.dnotin ?_
  | with_reducible refine FR.dc ?_
  | with_reducible refine FR.ikeys ?_
  | with_reducible refine FR.ivals ?_
  | with_reducible refine FR.bm0 ?_
  | ((with_reducible refine' FR.dinS ?rdH ?rdK); (case rdH => walk_at "dk"))
  | ((with_reducible refine' FR.keysV ?rdH ?rdK); (case rdH => walk_at "hp"))
  | ((with_reducible refine' FR.valsV ?rdH ?rdK); (case rdH => walk_at "hp"))
  | ((with_reducible refine' FR.bmD ?rdH ?rdK); (case rdH => walk_at "hp"))
  | with_reducible refine FR.ckw ?_
  | ((with_reducible refine' FR.lenD ?rdH ?rdK); (case rdH => walk_at "hp"))
  | fail "no")

/-! ### the law's own parts: free, pairs, texts, drawn books -/
def spIsFree : Sp := fun vs H Q _ => ∃ (t : Addr) (zs : List Str) (w : Str), vs = [.ref t, .str w] ∧ H t = some (.tup (zs.map V.str)) ∧ zs.length ≤ 12 ∧ ∀ H', Same H H' → Q (.bl (freeD zs (toL w))) H'
def spText : Sp := fun vs H Q _ => ∃ (x : SPE.AX) (o : Str) (m : Int), vs = [.ref x.1, .str o, .int m] ∧ BagOk H x ∧ 0 < o.cps.size ∧ o.cps.size ≤ 8 ∧ 0 ≤ m ∧ m ≤ 100 ∧
  ∀ (z : Str) H', z.cps.size ≤ m.toNat → (∀ c, c ∈ toL z → c ∈ toL o) → SPE.KX x H H' → BagOk H' x → Q (.str z) H'
def spIsPair (K : PySem.W.Frag) : Sp := fun vs H Q _ => ∃ (t : Addr) (zs : List Str) (v : V) (o : Option (Str × Str)), vs = [.ref t, v] ∧ H t = some (.tup (zs.map V.str)) ∧ Good zs ∧ Th K H v o ∧ ∀ H', Same H H' → Q (.bl (judged zs o)) H'
def spDrawn : Sp := fun vs H Q _ => ∃ (x : SPE.AX), vs = [.ref x.1] ∧ BagOk H x ∧ ∀ (u : Addr) (ws : List Str) H', SPE.KX x H H' → BagOk H' x → H' u = some (.tup (ws.map V.str)) → Good ws → Q (.ref u) H'
def Raw (H : Hp) (v : V) : Prop := ∃ t zs, v = .ref t ∧ H t = some (.tup (zs.map V.str)) ∧ RawB zs
def strsOf : List V → Option (List Str)
  | [] => some []
  | .str z :: r => (strsOf r).map (z :: ·)
  | _ :: _ => none
theorem strsOf_eq : ∀ (vs : List V) (zs : List Str), strsOf vs = some zs → vs = zs.map V.str
  | [], zs, h => by cases h; rfl
  | v :: r, zs, h => by
    cases v with
    | str z =>
      obtain ⟨ys, hy, rfl⟩ := Option.map_eq_some_iff.mp (show (strsOf r).map (z :: ·) = some zs from h)
      rw [strsOf_eq r ys hy]
      rfl
    | _ => cases h
def rawV (vs : List V) : Bool := match strsOf vs with
  | some zs => decide (1 ≤ zs.length) && decide (zs.length ≤ 12) && zs.all (fun z => decide (1 ≤ z.cps.size) && decide (z.cps.size ≤ 8) && z.cps.toList.all fun c => decide (c ∈ abc)) && decide zs.Nodup
  | none => false
theorem raw_of {H : Hp} {t : Addr} {vs : List V} (h : H t = some (.tup vs)) (e : rawV vs = true) : Raw H (.ref t) := by
  unfold rawV at e
  cases hz : strsOf vs with
  | none =>
    rw [hz] at e
    cases e
  | some zs =>
    rw [hz] at e
    simp only [Bool.and_eq_true, decide_eq_true_eq, List.all_eq_true] at e
    obtain ⟨⟨⟨e1, e2⟩, e3⟩, e4⟩ := e
    have e5 := strsOf_eq vs zs hz
    subst e5
    exact ⟨t, zs, rfl, h, e1, e2, fun z hz => (e3 z hz).1, fun z hz c hc => (e3 z hz).2 c hc, e4⟩
inductive RawA (H : Hp) : List V → Prop where
  | nil : RawA H []
  | cons {v : V} {vs : List V} : Raw H v → RawA H vs → RawA H (v :: vs)
theorem RawA.app {H : Hp} {vs ws : List V} (h : RawA H vs) (g : RawA H ws) : RawA H (vs ++ ws) := by
  induction h with
  | nil => exact g
  | cons a _ ih => exact .cons a ih
theorem RawA.mem {H : Hp} {vs : List V} (h : RawA H vs) : ∀ v, v ∈ vs → Raw H v := by
  induction h with
  | nil => exact fun v hv => (List.not_mem_nil hv).elim
  | cons a _ ih =>
    intro v hv
    rcases List.mem_cons.mp hv with e | e
    · rw [e]; exact a
    · exact ih v e
local macro_rules | `(tactic| walk_at "rwa") => `(tactic| first | exact RawA.nil | exact RawA.cons (raw_of (by walk_at "hp") (by decide +kernel)) (by walk_at "rwa") | exact RawA.app (by walk_at "rwa") (by walk_at "rwa") | fail "no")
theorem spMore.mk {x : SPE.AX} {t : Addr} {zs : List Str} {m : Nat} {H : Hp} {Q : VK} {E : XK} (h : BagOk H x) (ht : H t = some (.tup (zs.map V.str))) (g : RawB zs) (hm : m ≤ 10)
    (q : ∀ (u : Addr) (ws : List Str) H', SPE.KX x H H' → BagOk H' x → H' u = some (.tup (ws.map V.str)) → RawB ws → Q (.ref u) H') : spMore ([.ref x.1, .ref t, .int (m : Nat)] ++ []) H Q E := ⟨x, t, zs, m, rfl, h, ht, g, hm, q⟩
theorem spNamed.mk {x : SPE.AX} {t : Addr} {zs : List Str} {H : Hp} {Q : VK} {E : XK} (h : BagOk H x) (ht : H t = some (.tup (zs.map V.str))) (g : RawB zs)
    (q : ∀ (u : Addr) (ws : List Str) H', SPE.KX x H H' → BagOk H' x → H' u = some (.tup (ws.map V.str)) → Good ws → Q (.ref u) H') : spNamed ([.ref x.1, .ref t] ++ []) H Q E := ⟨x, t, zs, rfl, h, ht, g, q⟩
section
variable {P : Program} {w : World} {K : PySem.W.Frag} {mg : Str → Option Value} {base : Heap}
theorem ok_is_free (T : Txt P K mg) : FnOk P w K mg base CX0 1 T.a_is_free T.fd_is_free ["_law_pieces", "_law_text_here"] spIsFree := by
  have nd := sc_is_free.nd
  refine T.F_is_free.ok sc_is_free (fun vs H Q E h => ?_) (fun cdv A outer s H vs Q E hr h => ?_)
  · obtain ⟨t, zs, w, rfl, _⟩ := h
    rfl
  · obtain ⟨t, zs, w, rfl, ht, g, q⟩ := h
    refine ⟨_, (pss_one (ps_ret (pe_not (pe_callB (cr_any rfl) (by rfl) T.m_any (by decide +kernel) (pa_cons (pe_lc (own := [("_law_piece", 2)]) (g := (gName 2)) rfl nd (pi_tup (pv 0)) (blkOk_by (own := [("_law_piece", 2)]) (N := N_is_free) (sc := defScope s_is_free) (by decide +kernel)) (fun _ _ _ _ _ => (pg_name (i := 2) nd rfl (Or.inl rfl))) (fun _ _ _ _ _ => pts_nil) (fun _ _ _ _ _ => (pe_cmpR op_in_str (pv 2) (pv 1) (by first | rfl | exact nomark _)))) pa_nil))))), ?_⟩
    walk_at "rds"
    refine RD.lcF (walk_tup (xs := zs.map V.str)) (by rw [List.length_map]; omega) (fun i => (zs[i]?).map fun z => .bl (decide (toL z <:+: toL w))) (fun H' s => by walk_at "st") (fun i v H6 Z N hi hx s6 hZ hN => ?_) (fun D H6 hD s6 hv6 => ?_)
    · rw [List.getElem?_map] at hx
      obtain ⟨z, hz, rfl⟩ := Option.map_eq_some_iff.mp hx
      walk_at "rds"
      refine ⟨rfl, ?_⟩
      walk_at "rds"
      refine ⟨z, w, rfl, rfl, ?_⟩
      exact hZ _ _ (by rw [hz, FL.in_iff]; rfl) (Same.refl _)
    · rw [List.length_map, RD.range_get (fun z => V.bl (decide (toL z <:+: toL w))), show (zs.map fun z => V.bl (decide (toL z <:+: toL w))) = (zs.map fun z => decide (toL z <:+: toL w)).map V.bl by rw [List.map_map]; rfl] at hv6
      have e2 : (!(zs.map fun z => decide (toL z <:+: toL w)).any id) = freeD zs (toL w) := by
        unfold freeD pl
        rw [List.any_map, List.any_map]
        rfl
      walk_at "rds"
      rw [e2]
      exact q _ s6
theorem ok_text (T : Txt P K mg) : FnOk P w K mg base CX0 3 T.a_text T.fd_text ["_law_bag_here", "_law_own_here", "_law_most"] spText := by
  have nd := sc_text.nd
  have G_pick : FnOk P w K mg base CX0 2 T.a_pick T.fd_pick ["_law_bag_here", "_law_many"] spPick := (ok_pick T).mono (by decide)
  have G_some : FnOk P w K mg base CX0 2 T.a_some T.fd_some ["_law_bag_here", "_law_things"] (spSome K) := ok_some T
  refine T.F_text.ok sc_text (fun vs H Q E h => ?_) (fun cdv A outer s H vs Q E hr h => ?_)
  · obtain ⟨x, o, m, rfl, _⟩ := h
    rfl
  · obtain ⟨x, o, m, rfl, hh, ho0, ho8, hm0, hm1, q⟩ := h
    refine ⟨_, (pss_one (ps_ret (pe_join pe_str (pe_lc (own := [("_law_letter", 3)]) (g := (gName 3)) rfl nd (pi_range1 (by rfl) T.m_range (pa_cons (pe_call G_pick hr (by rfl) T.g_pick T.F_pick.kp T.b_pick .nil pass0 (pa_cons (pv 0) (pa_cons (pe_op op_add (pv 2) pe_int) pa_nil))) pa_nil)) (blkOk_by (own := [("_law_letter", 3)]) (N := N_text) (sc := defScope s_text) (by decide +kernel)) (fun _ _ _ _ _ => (pg_name (i := 3) nd rfl (Or.inl rfl))) (fun _ _ _ _ _ => pts_nil) (fun _ _ _ _ _ => (pe_call G_some hr (by rfl) T.g_some T.F_some.kp T.b_some .nil pass0 (pa_cons (pv 0) (pa_cons (pv 1) pa_nil)))))))), ?_⟩
    walk_at "rds"
    refine spPick.mk (E := E0) hh (by omega) (by omega) fun n H1 hn0 hn1 k1 hh1 => ?_
    walk_at "rds"
    refine RD.lcW (walk_range (lo := 0) (n := Int.toNat n)) (by omega) fun D H2 hD s2 hv2 => ⟨fun j bs H' => ∃ ds : List Nat, bs = (ds.map fun c => (⟨#[c]⟩ : Str)).map V.str ∧ ds.length = j ∧ (∀ c, c ∈ ds → c ∈ toL o) ∧ SPE.KX x H1 H' ∧ BagOk H' x,
      ⟨[], rfl, rfl, fun z hz => (List.not_mem_nil hz).elim, SPE.kx_of s2, hh1.same s2⟩, fun _ _ _ _ _ => trivial, fun j v bs H9 H10 Z N hj hp hDa hy hZ hN => ?_, fun bs H9 hp hDa => ?_⟩
    · obtain ⟨ds, rfl, hdl, hda, k9, hh9⟩ := hp
      obtain ⟨rfl, rfl⟩ := hy
      have nD : SPE.Off D x := hand_ne hD hh1
      walk_at "rds"
      refine ⟨rfl, ?_⟩
      walk_at "rds"
      have hlc : (o.cps.toList.map fun c => V.str ⟨#[c]⟩).length = o.cps.size := by rw [List.length_map, Array.length_toList]
      refine spSome.mk (E := E0) hh9 (.str (RD.szo (by show o.cps.size ≤ _; omega))) (by rw [hlc]; exact ho0) (by rw [hlc]; omega) fun v H11 hv k11 hh11 => ?_
      obtain ⟨c, hc, rfl⟩ := List.mem_map.mp hv
      refine hZ _ _ (k11 _ _ nD hDa) fun H12 k12 hv12 => ⟨ds ++ [c], by rw [List.map_append, List.map_append]; rfl, by rw [List.length_append, hdl]; rfl, fun d hd => ?_, SPE.kx_mut k12 (k9.trans k11) hD, hh11.mut k12 nD⟩
      rcases List.mem_append.mp hd with h | h
      · exact hda d h
      · rw [List.mem_singleton.mp h]
        exact hc
    · obtain ⟨ds, rfl, hdl, hda, k9, hh9⟩ := hp
      refine RB.joinV (.inl (.inl (.inl hDa))) (by show _ + _ * 0 ≤ _; rw [cs_sum]; omega) ?_
      walk_at "rds"
      refine q _ _ ?_ ?_ (k1.trans k9) hh9
      · rw [← Array.length_toList, cs_join]
        omega
      · intro c hc
        rw [show toL (Txt.join ("" : Str) (ds.map fun c => (⟨#[c]⟩ : Str))) = ds from cs_join ds] at hc
        exact hda c hc
theorem ok_full (T : Txt P K mg) : FnOk P w K mg base CX0 4 T.a_full T.fd_full ["_law_bag_here"] spDrawn := by
  have nd := sc_full.nd
  have G_some : FnOk P w K mg base CX0 3 T.a_some T.fd_some ["_law_bag_here", "_law_things"] (spSome K) := (ok_some T).mono (by decide)
  have G_more : FnOk P w K mg base CX0 3 T.a_more T.fd_more ["_law_bag_here", "_law_pieces", "_law_most"] spMore := ok_more T
  have G_named : FnOk P w K mg base CX0 3 T.a_named T.fd_named ["_law_bag_here", "_law_pieces"] spNamed := ok_named T
  refine T.F_full.ok sc_full (fun vs H Q E h => ?_) (fun cdv A outer s H vs Q E hr h => ?_)
  · obtain ⟨x, rfl, _⟩ := h
    rfl
  · obtain ⟨x, rfl, hh, q⟩ := h
    refine ⟨_, (pss_cons (ps_set (i := 1) nd rfl (by first | exact Or.inl rfl | exact Or.inr rfl) (pe_lst (pa_cons (pe_tup (pa_cons pe_str pa_nil)) (pa_cons (pe_tup (pa_cons pe_str pa_nil)) (pa_cons (pe_tup (pa_cons pe_str (pa_cons pe_str pa_nil))) (pa_cons (pe_tup (pa_cons pe_str (pa_cons pe_str pa_nil))) (pa_cons (pe_tup (pa_cons pe_str (pa_cons pe_str (pa_cons pe_str pa_nil)))) (pa_cons (pe_tup (pa_cons pe_str (pa_cons pe_str (pa_cons pe_str pa_nil)))) (pa_cons (pe_tup (pa_cons pe_str (pa_cons pe_str (pa_cons pe_str pa_nil)))) pa_nil)))))))))
  (pss_cons (ps_set (i := 1) nd rfl (by first | exact Or.inl rfl | exact Or.inr rfl) (pe_op op_cat (pv 1) (pe_lst (pa_cons (pe_tup (pa_cons pe_str (pa_cons pe_str (pa_cons pe_str pa_nil)))) (pa_cons (pe_tup (pa_cons pe_str (pa_cons pe_str (pa_cons pe_str pa_nil)))) (pa_cons (pe_tup (pa_cons pe_str (pa_cons pe_str (pa_cons pe_str (pa_cons pe_str pa_nil))))) (pa_cons (pe_tup (pa_cons pe_str (pa_cons pe_str (pa_cons pe_str pa_nil)))) pa_nil)))))))
  (pss_cons (ps_set (i := 1) nd rfl (by first | exact Or.inl rfl | exact Or.inr rfl) (pe_op op_cat (pv 1) (pe_lst (pa_cons (pe_tup (pa_cons pe_str (pa_cons pe_str (pa_cons pe_str (pa_cons pe_str (pa_cons pe_str (pa_cons pe_str pa_nil))))))) (pa_cons (pe_tup (pa_cons pe_str (pa_cons pe_str (pa_cons pe_str pa_nil)))) pa_nil)))))
  (pss_one (ps_ret (pe_call G_named hr (by rfl) T.g_named T.F_named.kp T.b_named .nil pass0 (pa_cons (pv 0) (pa_cons (pe_call G_more hr (by rfl) T.g_more T.F_more.kp T.b_more .nil pass0 (pa_cons (pv 0) (pa_cons (pe_call G_some hr (by rfl) T.g_some T.F_some.kp T.b_some .nil pass0 (pa_cons (pv 0) (pa_cons (pv 1) pa_nil))) (pa_cons pe_int pa_nil)))) pa_nil)))))))), ?_⟩
    walk_at "rds"
    have hbag : BagOk H' x := by walk_at "hk"
    have hsame : SPE.KX x H H' := by walk_at "kx"
    have hoff : SPE.Off p' x := by walk_at "na"
    obtain ⟨L, hlst, hraw, hl0, hl1⟩ : ∃ L, H' p' = some (.lst L) ∧ RawA H' L ∧ Nat.ble 1 L.length = true ∧ Nat.ble L.length 1000 = true := ⟨_, hv, by walk_at "rwa", rfl, rfl⟩
    have hl0 := Nat.le_of_ble_eq_true hl0
    have hl1 := Nat.le_of_ble_eq_true hl1
    refine spSome.mk (E := E0) hbag (.lst hoff (.inl (.inl hlst))) hl0 (by omega) fun v H1 hm k1 hh1 => ?_
    obtain ⟨t, zs, rfl, ht, g⟩ := hraw.mem v hm
    have ht1 := k1 _ _ (hbag.tupOff ht) ht
    have k01 := hsame.trans k1
    clear hm ht
    walk_at "rds"
    refine spMore.mk (m := 2) hh1 ht1 g (by decide) fun u ws H2 k2 hh2 hu gw => ?_
    walk_at "rds"
    exact spNamed.mk hh2 hu gw fun u ws H3 k3 hh3 hu gw => q u ws H3 ((k01.trans k2).trans k3) hh3 hu gw
theorem raw_a {z : Str} (h : z ∈ [("b" : Str), "bc", "bb", "ab"]) : RawB [("a" : Str) ++ z] := by
  simp only [List.mem_cons, List.not_mem_nil, or_false] at h
  rcases h with rfl | rfl | rfl | rfl
  · exact ⟨by decide, by decide, by decide +kernel, by decide +kernel, by decide +kernel⟩
  · exact ⟨by decide, by decide, by decide +kernel, by decide +kernel, by decide +kernel⟩
  · exact ⟨by decide, by decide, by decide +kernel, by decide +kernel, by decide +kernel⟩
  · exact ⟨by decide, by decide, by decide +kernel, by decide +kernel, by decide +kernel⟩
theorem ok_scant (T : Txt P K mg) : FnOk P w K mg base CX0 4 T.a_scant T.fd_scant ["_law_bag_here"] spDrawn := by
  have nd := sc_scant.nd
  have G_pick : FnOk P w K mg base CX0 3 T.a_pick T.fd_pick ["_law_bag_here", "_law_many"] spPick := (ok_pick T).mono (by decide)
  have G_some : FnOk P w K mg base CX0 3 T.a_some T.fd_some ["_law_bag_here", "_law_things"] (spSome K) := (ok_some T).mono (by decide)
  have G_more : FnOk P w K mg base CX0 3 T.a_more T.fd_more ["_law_bag_here", "_law_pieces", "_law_most"] spMore := ok_more T
  have G_named : FnOk P w K mg base CX0 3 T.a_named T.fd_named ["_law_bag_here", "_law_pieces"] spNamed := ok_named T
  refine T.F_scant.ok sc_scant (fun vs H Q E h => ?_) (fun cdv A outer s H vs Q E hr h => ?_)
  · obtain ⟨x, rfl, _⟩ := h
    rfl
  · obtain ⟨x, rfl, hh, q⟩ := h
    refine ⟨_, (pss_cons (ps_set (i := 1) nd rfl (by first | exact Or.inl rfl | exact Or.inr rfl) (pe_lst (pa_cons (pe_tup (pa_cons pe_str pa_nil)) (pa_cons (pe_tup (pa_cons pe_str (pa_cons pe_str pa_nil))) (pa_cons (pe_tup (pa_cons pe_str (pa_cons pe_str pa_nil))) (pa_cons (pe_tup (pa_cons pe_str (pa_cons pe_str pa_nil))) (pa_cons (pe_tup (pa_cons pe_str (pa_cons pe_str (pa_cons pe_str pa_nil)))) (pa_cons (pe_tup (pa_cons pe_str (pa_cons pe_str pa_nil))) (pa_cons (pe_tup (pa_cons pe_str pa_nil)) pa_nil)))))))))
  (pss_cons (ps_set (i := 1) nd rfl (by first | exact Or.inl rfl | exact Or.inr rfl) (pe_op op_cat (pv 1) (pe_lst (pa_cons (pe_tup (pa_cons pe_str (pa_cons pe_str (pa_cons pe_str (pa_cons pe_str pa_nil))))) (pa_cons (pe_tup (pa_cons pe_str (pa_cons pe_str (pa_cons pe_str pa_nil)))) (pa_cons (pe_tup (pa_cons pe_str pa_nil)) (pa_cons (pe_tup (pa_cons pe_str (pa_cons pe_str (pa_cons pe_str pa_nil)))) pa_nil)))))))
  (pss_cons (ps_if (pt_cmpR op_eq (pe_call G_pick hr (by rfl) T.g_pick T.F_pick.kp T.b_pick .nil pass0 (pa_cons (pv 0) (pa_cons pe_int pa_nil))) pe_int (nomark _))
    (pss_one (ps_ret (pe_call G_named hr (by rfl) T.g_named T.F_named.kp T.b_named .nil pass0 (pa_cons (pv 0) (pa_cons (pe_call G_more hr (by rfl) T.g_more T.F_more.kp T.b_more .nil pass0 (pa_cons (pv 0) (pa_cons (pe_tup (pa_cons (pe_op op_add_str pe_str (pe_call G_some hr (by rfl) T.g_some T.F_some.kp T.b_some .nil pass0 (pa_cons (pv 0) (pa_cons (pe_lst (pa_cons pe_str (pa_cons pe_str (pa_cons pe_str (pa_cons pe_str pa_nil))))) pa_nil)))) pa_nil)) (pa_cons pe_int pa_nil)))) pa_nil)))))
    pss_nil)
  (pss_one (ps_ret (pe_call G_named hr (by rfl) T.g_named T.F_named.kp T.b_named .nil pass0 (pa_cons (pv 0) (pa_cons (pe_call G_more hr (by rfl) T.g_more T.F_more.kp T.b_more .nil pass0 (pa_cons (pv 0) (pa_cons (pe_call G_some hr (by rfl) T.g_some T.F_some.kp T.b_some .nil pass0 (pa_cons (pv 0) (pa_cons (pv 1) pa_nil))) (pa_cons pe_int pa_nil)))) pa_nil)))))))), ?_⟩
    walk_at "rds"
    have hbag : BagOk H' x := by walk_at "hk"
    have hsame : SPE.KX x H H' := by walk_at "kx"
    have hoff : SPE.Off p' x := by walk_at "na"
    obtain ⟨L, hlst, hraw, hl0, hl1⟩ : ∃ L, H' p' = some (.lst L) ∧ RawA H' L ∧ Nat.ble 1 L.length = true ∧ Nat.ble L.length 1000 = true := ⟨_, hv, by walk_at "rwa", rfl, rfl⟩
    have hl0 := Nat.le_of_ble_eq_true hl0
    have hl1 := Nat.le_of_ble_eq_true hl1
    refine spPick.mk (E := E0) hbag (by decide) (by decide) fun r H1 _ _ k1 hh1 => ?_
    have hlst1 := k1 _ _ hoff hlst
    have hraw1 : ∀ v, v ∈ L → Raw H1 v := fun v hv => by
      obtain ⟨t, zs, e, ht, g⟩ := hraw.mem v hv
      exact ⟨t, zs, e, k1 _ _ (hbag.tupOff ht) ht, g⟩
    have k01 := hsame.trans k1
    generalize hb : p' = pl0 at hoff hlst1 ⊢
    clear hlst hraw hsame hbag hb
    walk_at "rds"
    refine RD.ite_d (fun _ => ?_) (fun _ => ?_)
    · walk_at "rds"
      have hbag2 : BagOk H' x := by walk_at "hk"
      have hs2 : SPE.KX x H1 H' := by walk_at "kx"
      refine spSome.mk (E := E0) hbag2 (.lst (by walk_at "na") (.inl (.inl (by walk_at "hp")))) (by show 0 < 4; decide) (by show 4 < _; decide) fun v H2 hm k2 hh2 => ?_
      obtain ⟨z, hz, rfl⟩ : ∃ z, z ∈ [("b" : Str), "bc", "bb", "ab"] ∧ v = .str z := by
        simp only [List.mem_cons, List.not_mem_nil, or_false] at hm
        rcases hm with rfl | rfl | rfl | rfl
        · exact ⟨_, by simp, rfl⟩
        · exact ⟨_, by simp, rfl⟩
        · exact ⟨_, by simp, rfl⟩
        · exact ⟨_, by simp, rfl⟩
      have gr := raw_a hz
      have hsz := (gr.size _ (List.mem_singleton.mpr rfl)).2
      have k02 := (k01.trans hs2).trans k2
      walk_at "rds"
      refine RB.addS (RD.szo (by have := app_size ("a" : Str) z; have e1 : ("a" : Str).length = ("a" : Str).cps.size := rfl; have e2 : z.length = z.cps.size := rfl; omega)) ?_
      walk_at "rds"
      refine spMore.mk (m := 4) (zs := [("a" : Str) ++ z]) (hh2.same (by assumption)) (by walk_at "hp") gr (by decide) fun u ws H5 k5 hh5 hu gw => ?_
      walk_at "rds"
      exact spNamed.mk hh5 hu gw fun u ws H6 k6 hh6 hu gw => q u ws H6 (((k02.trans (SPE.kx_of (by assumption))).trans k5).trans k6) hh6 hu gw
    · walk_at "rds"
      refine spSome.mk (E := E0) hh1 (.lst hoff (.inl (.inl hlst1))) hl0 (by omega) fun v H2 hm k2 hh2 => ?_
      obtain ⟨t, zs, rfl, ht, g⟩ := hraw1 v hm
      have ht2 := k2 _ _ (hh1.tupOff ht) ht
      have k02 := k01.trans k2
      clear hm ht
      walk_at "rds"
      refine spMore.mk (m := 1) hh2 ht2 g (by decide) fun u ws H3 k3 hh3 hu gw => ?_
      walk_at "rds"
      exact spNamed.mk hh3 hu gw fun u ws H4 k4 hh4 hu gw => q u ws H4 ((k02.trans k3).trans k4) hh4 hu gw
end


end K11

namespace K11
open PySem PySem.Spec PyProof.Rows L2
local macro_rules | `(tactic| walk_at "kd") => `(tactic| first | assumption | exact SPD.KdOf.int _ | exact SPD.KdOf.str _ | exact SPD.KdOf.bl _ | exact SPD.KdOf.non | exact SPD.KdOf.same (by assumption) (by walk_at "kd") | exact SPD.KdOf.tup (by walk_at "hp") | exact SPD.KdOf.lst (by walk_at "hp") | fail "no")
local macro_rules | `(tactic| walk_at "ne") => `(tactic| first | assumption | exact Ne.symm (by assumption) | fail "no")
local macro_rules | `(tactic| walk_at "hp") => `(tactic| first | assumption | exact RD.at_same (by assumption) (by walk_at "hp") | exact RD.at_kb (by assumption) (by walk_at "ne") (by walk_at "hp") | fail "no")
local macro_rules | `(tactic| walk_at "sq") => `(tactic| first | assumption | exact Or.inl (Or.inl (by walk_at "hp")) | exact Same.seq (by assumption) (by walk_at "sq") | exact RD.KB.seq (by assumption) (by walk_at "ne") (by walk_at "sq") | fail "no")
local macro_rules | `(tactic| walk_at "st") => `(tactic| first | assumption | exact Or.inl (Or.inl (by walk_at "hp")) | exact RD.Same.tup (by assumption) (by walk_at "st") | exact RD.KB.tup (by assumption) (by walk_at "ne") (by walk_at "st") | fail "no")
local macro_rules | `(tactic| walk_at "rd") => `(tactic| first
  | with_reducible refine RD.c ?_
  | ((with_reducible refine' RD.var ?rdE ?rdK); (case rdE => exact rfl))
  | with_reducible refine RD.op ?_
  | with_reducible refine RD.un ?_
  | with_reducible refine RD.nil ?_
  | with_reducible refine RD.cons ?_
  | with_reducible refine RD.cb ?_
  | with_reducible refine RD.call ?_
  | with_reducible refine RD.test ?_
  | with_reducible refine RD.tb' ?_
  | with_reducible refine RD.bl ?_
  | with_reducible refine RD.and' ?_
  | with_reducible refine RD.or' ?_
  | with_reducible refine RD.not' ?_
  | with_reducible refine RD.andV ?_
  | with_reducible refine RD.orV ?_
  | with_reducible refine RD.notV ?_
  | with_reducible refine RD.ife ?_
  | with_reducible refine RD.sl ?_
  | with_reducible refine RD.part ?_
  | with_reducible refine RD.noPart ?_
  | with_reducible refine RD.partI ?_
  | with_reducible refine RD.rd0 ?_
  | with_reducible refine RD.rdU ?_
  | ((with_reducible refine' RD.rdEq ?rdE ?rdK); (case rdE => rfl))
  | ((with_reducible refine' RD.rdNe ?rdE ?rdK); (case rdE => rfl))
  | ((with_reducible refine' RD.ixL ?rdH ?rdE ?rdK); (case rdH => walk_at "sq"); (case rdE => first | rfl | assumption))
  | ((with_reducible refine' RD.rdI ?rdC ?rdK); (case rdC => first | assumption | (show (0 : Int) < _; first | decide | omega) | exact ⟨by decide, by decide⟩ | exact ⟨by assumption, by assumption⟩ | exact .inr ⟨by decide, by decide⟩ | exact .inl ⟨by decide, by decide⟩ | exact ⟨by decide, by decide, by decide⟩ | exact .inl ⟨by omega, by omega⟩))
  | ((with_reducible refine' RD.setL ?rdH ?rdE ?rdK); (case rdH => walk_at "hp"); (case rdE => rfl); intro $(Lean.mkIdent `H'):ident $(Lean.mkIdent `hk):ident $(Lean.mkIdent `hv):ident)
  | ((with_reducible refine' RD.irng1V ?rdA ?rdB ?rdK); (case rdA => first | decide | omega); (case rdB => first | decide | omega))
  | with_reducible refine RD.int1 ?_
  | with_reducible refine RD.abs1 ?_
  | ((with_reducible refine' RD.len ?rdH ?rdK); (case rdH => first | exact Or.inl (by walk_at "sq") | exact Or.inr (by walk_at "st")))
  | with_reducible refine RD.tup ?_
  | with_reducible refine RD.lst ?_
  | with_reducible refine RD.ite1 ?_
  | with_reducible refine RD.ite0 ?_
  | with_reducible refine RD.ite1n ?_
  | with_reducible refine RD.ite0n ?_
  | with_reducible refine RD.seq ?_
  | with_reducible refine RD.asg ?_
  | with_reducible refine RD.name ?_
  | with_reducible refine RD.ret ?_
  | with_reducible refine RD.drop ?_
  | with_reducible refine RD.next ?_
  | with_reducible refine RD.ifs ?_
  | with_reducible refine RD.par ?_
  | with_reducible refine RD.par2 ?_
  | with_reducible refine RD.sub ?_
  | with_reducible refine RD.gcons ?_
  | with_reducible refine RD.gnil ?_
  | with_reducible refine RD.bm ?_
  | ((with_reducible refine' RD.bmL ?rdH ?rdK); (case rdH => walk_at "sq"))
  | ((with_reducible refine' RD.newZ ?rdH ?rdK); (case rdH => exact RD.sz _); intro $(Lean.mkIdent `p'):ident $(Lean.mkIdent `H'):ident $(Lean.mkIdent `hp):ident $(Lean.mkIdent `hs):ident $(Lean.mkIdent `hv):ident; (try have $(Lean.mkIdent `hn):ident := hand_ne $(Lean.mkIdent `hp):ident (by walk_at "hk")))
  | with_reducible refine RD.fors ?_
  | with_reducible refine RD.lc ?_
  | with_reducible refine RD.yes ?_
  | with_reducible refine RD.ilist ?_
  | ((with_reducible refine' RD.ilistV ?rdH ?rdK); (case rdH => walk_at "sq"))
  | with_reducible refine RD.itup ?_
  | ((with_reducible refine' RD.itupV ?rdH ?rdK); (case rdH => walk_at "st"))
  | with_reducible refine RD.irng1 ?_
  | with_reducible refine RD.irng2 ?_
  | ((with_reducible refine' RD.irng2V ?rdA ?rdK); (case rdA => first | decide | omega))
  | with_reducible refine RD.ienum ?_
  | ((with_reducible refine' RD.ienumV ?rdH ?rdK); (case rdH => walk_at "sq"))
  | with_reducible refine RD.izip ?_
  | ((with_reducible refine' RD.izipV ?rdH ?rdE ?rdK); (case rdH => walk_at "sq"); (case rdE => walk_at "sq"))
  | with_reducible refine SPD.izipA ?_
  | with_reducible refine RD.istr ?_
  | with_reducible refine RD.istrV ?_
  | ((with_reducible refine' RD.slL ?rdH ?rdK); (case rdH => walk_at "sq"); intro $(Lean.mkIdent `p'):ident $(Lean.mkIdent `H'):ident $(Lean.mkIdent `hp):ident $(Lean.mkIdent `hs):ident $(Lean.mkIdent `hv):ident; (try have $(Lean.mkIdent `hn):ident := hand_ne $(Lean.mkIdent `hp):ident (by walk_at "hk")))
  | ((with_reducible refine' RD.cat ?rdH ?rdE ?rdZ ?rdK); (case rdH => walk_at "hp"); (case rdE => walk_at "hp"); (case rdZ => exact RD.sz _); intro $(Lean.mkIdent `p'):ident $(Lean.mkIdent `H'):ident $(Lean.mkIdent `hp):ident $(Lean.mkIdent `hs):ident $(Lean.mkIdent `hv):ident; (try have $(Lean.mkIdent `hn):ident := hand_ne $(Lean.mkIdent `hp):ident (by walk_at "hk")))
  | ((with_reducible refine' RD.gtup ?rdH ?rdE ?rdK); (case rdH => walk_at "st"); (case rdE => rfl))
  | ((with_reducible refine' RD.app ?rdH ?rdZ ?rdK); (case rdH => walk_at "hp"); (case rdZ => first | assumption | (apply RD.szl; omega)); intro $(Lean.mkIdent `H'):ident $(Lean.mkIdent `hk):ident $(Lean.mkIdent `hv):ident)
  | ((with_reducible refine' RD.all1 ?rdH ?rdK); (case rdH => walk_at "sq"))
  | ((with_reducible refine' RD.any1 ?rdH ?rdK); (case rdH => walk_at "sq"))
  | ((with_reducible refine' SPD.dnew ?rdK); intro $(Lean.mkIdent `p'):ident $(Lean.mkIdent `H'):ident $(Lean.mkIdent `hp):ident $(Lean.mkIdent `hs):ident $(Lean.mkIdent `hv):ident; (try have $(Lean.mkIdent `hn):ident := hand_ne $(Lean.mkIdent `hp):ident (by walk_at "hk")))
  | ((with_reducible refine' SPD.disp1 ?rdK); intro $(Lean.mkIdent `p'):ident $(Lean.mkIdent `H'):ident $(Lean.mkIdent `hp):ident $(Lean.mkIdent `hs):ident $(Lean.mkIdent `hv):ident; (try have $(Lean.mkIdent `hn):ident := hand_ne $(Lean.mkIdent `hp):ident (by walk_at "hk")))
  | ((with_reducible refine' SPD.isSeq ?rdH ?rdE ?rdK); (case rdH => walk_at "hp"); (case rdE => walk_at "kd"))
  | ((with_reducible refine' SPD.isTup ?rdE ?rdK); (case rdE => walk_at "kd"))
  | ((with_reducible refine' SPD.isLst ?rdE ?rdK); (case rdE => walk_at "kd"))
  | ((with_reducible refine' SPD.isBool ?rdE ?rdK); (case rdE => walk_at "kd"))
  | ((with_reducible refine' SPD.isStr ?rdE ?rdK); (case rdE => walk_at "kd"))
  | ((with_reducible refine' SPD.isInt ?rdE ?rdK); (case rdE => walk_at "kd"))
  | dsimp only)
local macro_rules | `(tactic| walk_at "rds") => `(tactic| repeat walk_at "rd")
local macro_rules | `(tactic| walk_at "sm") => `(tactic| first | assumption | exact Same.refl _ | exact RD.sm_tr (by assumption) (by walk_at "sm") | fail "no")
local macro_rules | `(tactic| walk_at "kb") => `(tactic| first | assumption | exact RD.KB.refl | exact RD.kb_tr (by assumption) (by walk_at "kb") | exact RD.kb_trs (by assumption) (by walk_at "kb") | fail "no")
local macro_rules | `(tactic| walk_at "fr") => `(tactic| first | assumption | exact RD.fr_of (by assumption) (by walk_at "sm") | fail "no")
local macro_rules | `(tactic| walk_at "hk") => `(tactic| first | assumption | exact hand_same (by assumption) (by walk_at "hk") | exact hand_kb (by assumption) (by walk_at "fr") (by walk_at "hk") | fail "no")
local macro_rules | `(tactic| walk_at "na") => `(tactic| first | assumption | exact hand_ne (by assumption) (by walk_at "hk") | fail "no")
local macro_rules | `(tactic| walk_at "dqa") => `(tactic| first | exact SPD.DqA.nil | exact SPD.DqA.cons (by walk_at "dq") (by walk_at "dqa") | exact SPD.DqA.app (by walk_at "dqa") (by walk_at "dqa") | fail "no")
local macro_rules | `(tactic| walk_at "dq") => `(tactic| first | assumption | exact SPD.Dq.leaf rfl | exact SPD.dq_kb (by assumption) (by walk_at "kb") | exact SPD.dqTup (by walk_at "hp") (by walk_at "na") (by walk_at "dqa") | exact SPD.dqLst (by walk_at "hp") (by walk_at "na") (by walk_at "dqa") | exact SPD.dqNil (by walk_at "hp") (by walk_at "na") (by first | decide | simp) (by first | decide | simp) | fail "no")

local macro_rules | `(tactic| walk_at "rd") => `(tactic| first
  | with_reducible refine RB.chain ?_
  | with_reducible refine RB.m1 ?_
  | with_reducible refine RB.strE ?_
  | with_reducible refine RB.fld ?_
  | with_reducible refine RB.setF ?_
  | with_reducible refine RB.ss ?_
  | with_reducible refine RB.rev ?_
  | with_reducible refine RB.make ?_
  | with_reducible refine RB.makeS ?_
  | with_reducible refine RB.mkO ?_
  | with_reducible refine NR.ienumT ?_
  | with_reducible refine RB.inS ?_
  | with_reducible refine RB.bmS ?_
  | with_reducible refine RB.callS ?_
  | with_reducible refine RB.sw3 ?_
  | with_reducible refine RB.par3 ?_
  | with_reducible refine RB.par3V ?_
  | ((with_reducible refine' RB.slS ?rdH ?rdK); (case rdH => walk_at "sz"))
  | with_reducible refine RB.xf ?_
  | ((with_reducible refine' RB.xfV ?rdH ?rdE ?rdK); (case rdH => walk_at "hp"); (case rdE => rfl))
  | ((with_reducible refine' NR.ienumTV ?rdH ?rdK); (case rdH => walk_at "st"))
  | ((with_reducible refine' RB.lenL ?rdH ?rdK); (case rdH => walk_at "sq"))
  | ((with_reducible refine' RB.lenT ?rdH ?rdK); (case rdH => walk_at "st"))
  | ((with_reducible refine' RB.lenS ?rdH ?rdK); (case rdH => walk_at "sz"))
  | ((with_reducible refine' RD.lenS ?rdH ?rdK); (case rdH => walk_at "sz"))
  | ((with_reducible refine' RB.slT ?rdH ?rdK); (case rdH => walk_at "hp"); intro $(Lean.mkIdent `p'):ident $(Lean.mkIdent `H'):ident $(Lean.mkIdent `hs):ident $(Lean.mkIdent `hv):ident $(Lean.mkIdent `hp):ident; (try have $(Lean.mkIdent `hn):ident := two_ne $(Lean.mkIdent `hp):ident (by walk_at "na") (by walk_at "hk")))
  | ((with_reducible refine' RB.revV ?rdH ?rdK); (case rdH => walk_at "st"); intro $(Lean.mkIdent `p'):ident $(Lean.mkIdent `H'):ident $(Lean.mkIdent `hp):ident $(Lean.mkIdent `hs):ident $(Lean.mkIdent `hv):ident; (try have $(Lean.mkIdent `hn):ident := hand_ne $(Lean.mkIdent `hp):ident (by walk_at "hk")))
  | ((with_reducible refine' RB.listS ?rdH ?rdK); (case rdH => walk_at "sz"); intro $(Lean.mkIdent `p'):ident $(Lean.mkIdent `H'):ident $(Lean.mkIdent `hp):ident $(Lean.mkIdent `hs):ident $(Lean.mkIdent `hv):ident; (try have $(Lean.mkIdent `hn):ident := hand_ne $(Lean.mkIdent `hp):ident (by walk_at "hk")))
  | ((with_reducible refine' RB.listO ?rdH ?rdK); (case rdH => first | exact Or.inl (by walk_at "sq") | exact Or.inr (by walk_at "st")); intro $(Lean.mkIdent `p'):ident $(Lean.mkIdent `H'):ident $(Lean.mkIdent `hp):ident $(Lean.mkIdent `hs):ident $(Lean.mkIdent `hv):ident; (try have $(Lean.mkIdent `hn):ident := hand_ne $(Lean.mkIdent `hp):ident (by walk_at "hk")))
  | ((with_reducible refine' RB.tupL ?rdH ?rdK); (case rdH => walk_at "sq"); intro $(Lean.mkIdent `p'):ident $(Lean.mkIdent `H'):ident $(Lean.mkIdent `hp):ident $(Lean.mkIdent `hs):ident $(Lean.mkIdent `hv):ident; (try have $(Lean.mkIdent `hn):ident := hand_ne $(Lean.mkIdent `hp):ident (by walk_at "hk")))
  | ((with_reducible refine' RB.catT ?rdH ?rdE ?rdZ ?rdK); (case rdH => walk_at "hp"); (case rdE => walk_at "hp"); (case rdZ => exact RB.LN.sum (by walk_at "ln") (by walk_at "ln") rfl); intro $(Lean.mkIdent `p'):ident $(Lean.mkIdent `H'):ident $(Lean.mkIdent `hs):ident $(Lean.mkIdent `hv):ident $(Lean.mkIdent `hp):ident; (try have $(Lean.mkIdent `hn):ident := three_ne $(Lean.mkIdent `hp):ident (by walk_at "na") (by walk_at "na") (by walk_at "hk")))
  | fail "no")
local macro_rules | `(tactic| walk_at "ln") => `(tactic| first | with_reducible assumption | exact RB.LN.cut (by walk_at "ln") | exact RB.LN.app (by walk_at "ln") (by walk_at "ln") | exact RB.LN.rev (by walk_at "ln") | exact RB.LN.rep (by walk_at "ln") | exact RB.LN.lit rfl | fail "no")
local macro_rules | `(tactic| walk_at "sz") => `(tactic| first | assumption | exact RD.sz _ | fail "no")

local macro_rules | `(tactic| walk_at "hp") => `(tactic| first | assumption | exact RD.at_same (by assumption) (by walk_at "hp") | exact SPE.at_kx (by assumption) (by walk_at "na") (by walk_at "hp") | exact RD.at_kb (by assumption) (by walk_at "ne") (by walk_at "hp") | fail "no")
local macro_rules | `(tactic| walk_at "sq") => `(tactic| first | assumption | exact Or.inl (Or.inl (by walk_at "hp")) | exact Same.seq (by assumption) (by walk_at "sq") | exact SPE.KX.seq (by assumption) (by walk_at "na") (by walk_at "sq") | exact RD.KB.seq (by assumption) (by walk_at "ne") (by walk_at "sq") | fail "no")
local macro_rules | `(tactic| walk_at "st") => `(tactic| first | assumption | exact Or.inl (Or.inl (by walk_at "hp")) | exact RD.Same.tup (by assumption) (by walk_at "st") | exact SPE.KX.tup (by assumption) (by walk_at "na") (by walk_at "st") | exact RD.KB.tup (by assumption) (by walk_at "ne") (by walk_at "st") | fail "no")
local macro_rules | `(tactic| walk_at "kx") => `(tactic| first | assumption | exact SPE.KX.refl | exact SPE.kx_tr (by assumption) (by walk_at "kx") | exact SPE.kx_trs (by assumption) (by walk_at "kx") | fail "no")
local macro_rules | `(tactic| walk_at "dqa") => `(tactic| first | exact SPE.DqA.nil | exact SPE.DqA.cons (by walk_at "dq") (by walk_at "dqa") | exact SPE.DqA.app (by walk_at "dqa") (by walk_at "dqa") | fail "no")
local macro_rules | `(tactic| walk_at "dq") => `(tactic| first | assumption | exact SPE.Dq.leaf rfl | exact SPE.dq_kx (by assumption) (by walk_at "kx") | exact SPE.dqTup (by walk_at "hp") (by walk_at "na") (by walk_at "dqa") | exact SPE.dqLst (by walk_at "hp") (by walk_at "na") (by walk_at "dqa") | exact SPE.dqNil (by walk_at "hp") (by walk_at "na") (by first | decide | simp) (by first | decide | simp) | fail "no")
local macro_rules | `(tactic| walk_at "dqx") => `(tactic| first | exact $(Lean.mkIdent `hdb):ident _ (by walk_at "kx") | exact SPE.DqA.cons (SPE.dq_kx (by assumption) (by walk_at "kx")) SPE.DqA.nil | exact SPE.DqA.cons (SPE.Dq.leaf rfl) SPE.DqA.nil | exact SPE.DqA.nil | (with_reducible refine SPE.dqa_cut ?_; walk_at "dqx") | (with_reducible refine SPE.dqa_rev ?_; walk_at "dqx") | (with_reducible refine SPE.DqA.app ?_ ?_ <;> walk_at "dqx") | fail "no")
local macro_rules | `(tactic| walk_at "dqz") => `(tactic| first | exact SPE.dqTupN (by walk_at "hp") (by walk_at "na") (by walk_at "dqx") (by walk_at "ln") rfl | exact SPE.dqLstN (by walk_at "hp") (by walk_at "na") (by walk_at "dqx") (by walk_at "ln") rfl | fail "no")
local macro_rules | `(tactic| walk_at "rd") => `(tactic| first
  | with_reducible refine SPE.revs ?_
  | ((with_reducible refine' SPE.revsV ?rdH ?rdK); (case rdH => walk_at "sz"))
  | ((with_reducible refine' SPE.sum1 ?rdH ?rdK); (case rdH => walk_at "sq"))
  | fail "no")

local macro_rules | `(tactic| walk_at "rd") => `(tactic| first
  | ((with_reducible refine' RB.listO ?rdH ?rdK); (case rdH => exact Or.inr (by walk_at "st")); intro $(Lean.mkIdent `p'):ident $(Lean.mkIdent `H'):ident $(Lean.mkIdent `hp):ident $(Lean.mkIdent `hs):ident $(Lean.mkIdent `hv):ident; (try have $(Lean.mkIdent `hn):ident := hand_ne $(Lean.mkIdent `hp):ident (by walk_at "hk")))
  | fail "no")

local macro_rules | `(tactic| walk_at "dk") => `(tactic| first | exact FR.rd_of (by walk_at "hp") | exact Or.inr ⟨_, by walk_at "hp"⟩ | fail "no")
local macro_rules | `(tactic| walk_at "rd") => `(tactic| first
  | with_reducible refine FR.dget ?_
  | with_reducible refine FR.din ?_
  | with_reducible refine FR.dnotin ?_
  | with_reducible refine FR.dc ?_
  | with_reducible refine FR.ikeys ?_
  | with_reducible refine FR.ivals ?_
  | with_reducible refine FR.bm0 ?_
  | ((with_reducible refine' FR.dinS ?rdH ?rdK); (case rdH => walk_at "dk"))
  | ((with_reducible refine' FR.keysV ?rdH ?rdK); (case rdH => walk_at "hp"))
  | ((with_reducible refine' FR.valsV ?rdH ?rdK); (case rdH => walk_at "hp"))
  | ((with_reducible refine' FR.bmD ?rdH ?rdK); (case rdH => walk_at "hp"))
  | with_reducible refine FR.ckw ?_
  | ((with_reducible refine' FR.lenD ?rdH ?rdK); (case rdH => walk_at "hp"))
  | fail "no")

/-! ### pairs judged by the law, flags -/
def isS : V → Bool
  | .str _ => true
  | _ => false
theorem isS_kd {K : PySem.W.Frag} {H : Hp} {v : V} {k : SPD.Kd} (h : SPD.KdOf K H v k) : decide (k = .str) = isS v := by
  cases h <;> rfl
def spFlag : Sp := fun vs H Q _ => ∃ b c : Bool, vs = [.bl b, .bl c] ∧ Q (.bl (decide (V.bl b = V.bl c))) H
section
variable {P : Program} {w : World} {K : PySem.W.Frag} {mg : Str → Option Value} {base : Heap}
theorem ok_flag (T : Txt P K mg) : FnOk P w K mg base CX0 1 T.a_flag T.fd_flag ["_law_told", "_law_due"] spFlag := by
  have nd := sc_flag.nd
  refine T.F_flag.ok sc_flag (fun vs H Q E h => ?_) (fun cdv A outer s H vs Q E hr h => ?_)
  · obtain ⟨b, c, rfl, _⟩ := h
    rfl
  · obtain ⟨b, c, rfl, q⟩ := h
    refine ⟨_, (pss_one (ps_ret (pe_and (pe_callB call_isi (by rfl) T.m_isinstance (by decide +kernel) (pa_cons (pv 0) (pa_cons (pe_bltn (v := .ty "bool") (by rfl) T.m_bool (by decide +kernel) rfl) pa_nil))) (pe_one (pe_cmpR op_eq (pv 0) (pv 1) (nomark _)))))), ?_⟩
    walk_at "rds"
    refine RD.ite_d (fun _ => ?_) (fun n => absurd rfl n)
    walk_at "rds"
    exact q
theorem own_all {zs : List Str} {p q : Str} : ((toL p ++ toL q).map fun c => decide (c ∈ lts zs)).all id = (ownV zs (.str p) && ownV zs (.str q)) := by
  rw [List.map_append, List.all_append, List.all_map, List.all_map]
  rfl
theorem ok_is_pair (T : Txt P K mg) : FnOk P w K mg base CX0 2 T.a_is_pair T.fd_is_pair ["_law_pieces", "_law_thing"] (spIsPair K) := by
  have nd := sc_is_pair.nd
  have G_is_free : FnOk P w K mg base CX0 1 T.a_is_free T.fd_is_free ["_law_pieces", "_law_text_here"] spIsFree := ok_is_free T
  have G_own : FnOk P w K mg base CX0 1 T.a_own T.fd_own ["_law_pieces"] spOwn := ok_own T
  refine T.F_is_pair.ok sc_is_pair (fun vs H Q E h => ?_) (fun cdv A outer s H vs Q E hr h => ?_)
  · obtain ⟨t, zs, v, o, rfl, _⟩ := h
    rfl
  · obtain ⟨t, zs, v, o, rfl, ht0, g, hth, qq⟩ := h
    refine ⟨_, (pss_cons (ps_set (i := 2) nd rfl (by first | exact Or.inl rfl | exact Or.inr rfl) (pe_call G_own hr (by rfl) T.g_own T.F_own.kp T.b_own .nil pass0 (pa_cons (pv 0) pa_nil)))
  (pss_cons (ps_if (PW.pt (pw_or (pt_not (pt_val (pe_callB call_isi (by rfl) T.m_isinstance (by decide +kernel) (pa_cons (pv 1) (pa_cons (pe_bltn (v := .ty "tuple") (by rfl) T.m_tuple (by decide +kernel) rfl) pa_nil))))) (pw_or (pt_cmpR op_ne (pe_callB call_len_seq (by rfl) T.m_len PySem.boot_len (pa_cons (pv 1) pa_nil)) pe_int (nomark _)) (pw_or1 (pt_not (pt_val (pe_callB (cr_all rfl) (by rfl) T.m_all (by decide +kernel) (pa_cons (pe_lc (own := [("_law_part", 3)]) (g := (gName 3)) rfl nd (pi_tup (pv 1)) (blkOk_by (own := [("_law_part", 3)]) (N := N_is_pair) (sc := defScope s_is_pair) (by decide +kernel)) (fun _ _ _ _ _ => (pg_name (i := 3) nd rfl (Or.inl rfl))) (fun _ _ _ _ _ => pts_nil) (fun _ _ _ _ _ => (pe_callB (r := rIsi K) call_isi (by rfl) T.m_isinstance (by decide +kernel) (pa_cons (pv 3) (pa_cons (pe_bltn (v := .ty "str") (by rfl) T.m_str (by decide +kernel) rfl) pa_nil))))) pa_nil))))))))
    (pss_one (ps_ret pe_bl))
    pss_nil)
  (pss_cons (ps_if (PW.pt (pw_or (pt_cmpR op_eq (pe_ix ix_tup (pv 1) pe_int (fun _ _ => rfl)) pe_str (nomark _)) (pw_or1 (pt_not (pt_val (pe_callB (cr_all rfl) (by rfl) T.m_all (by decide +kernel) (pa_cons (pe_lc (own := [("_law_letter", 4)]) (g := (gName 4)) rfl nd (pi_str (pe_op op_add_str (pe_ix ix_tup (pv 1) pe_int (fun _ _ => rfl)) (pe_ix ix_tup (pv 1) pe_int (fun _ _ => rfl)))) (blkOk_by (own := [("_law_letter", 4)]) (N := N_is_pair) (sc := defScope s_is_pair) (by decide +kernel)) (fun _ _ _ _ _ => (pg_name (i := 4) nd rfl (Or.inl rfl))) (fun _ _ _ _ _ => pts_nil) (fun _ _ _ _ _ => (pe_cmpR op_in_sign (pv 4) (pv 2) (by first | rfl | exact nomark _)))) pa_nil)))))))
    (pss_one (ps_ret pe_bl))
    pss_nil)
  (pss_one (ps_ret (pe_call G_is_free hr (by rfl) T.g_is_free T.F_is_free.kp T.b_is_free .nil pass0 (pa_cons (pv 0) (pa_cons (pe_op op_add_str (pe_ix ix_tup (pv 1) pe_int (fun _ _ => rfl)) (pe_op RB.op_mulS (pe_ix ix_tup (pv 1) pe_int (fun _ _ => rfl)) (pe_op op_add pe_int (pe_op op_fdivN pe_int (pe_callB call_len_str (by rfl) T.m_len PySem.boot_len (pa_cons (pe_ix ix_tup (pv 1) pe_int (fun _ _ => rfl)) pa_nil)))))) pa_nil)))))))), ?_⟩
    walk_at "rds"
    refine ⟨t, zs, rfl, ht0, by have := g.sum; omega, fun ys H1 ho s1 => ?_⟩
    have how : OwnW zs (Txt.join ("" : Str) ys) := ⟨ys, ho, rfl⟩
    generalize Txt.join ("" : Str) ys = w0 at how ⊢
    have ht1 := s1 _ _ ht0
    have hth1 := hth.same s1
    replace qq : ∀ H', Same H1 H' → Q (.bl (judged zs o)) H' := fun H' s => qq H' (s1.trans s)
    clear hth ht0 s1
    cases hth1 with
    | @kind _ k hk hne =>
      walk_at "rds"
      refine RD.ite_nd (fun _ => ?_) (fun z => absurd z hne)
      walk_at "rds"
      exact qq _ (Same.refl _)
    | @len a xs ha hl =>
      walk_at "rds"
      refine RD.ite_nd (fun z => absurd rfl z) (fun _ => ?_)
      walk_at "rds"
      refine RD.ite_nd (fun _ => ?_) (fun z => absurd (by injection z with z; omega) hl)
      walk_at "rds"
      exact qq _ (Same.refl _)
    | @two a x y j k ha hx hy hxs hys =>
      walk_at "rds"
      refine RD.ite_nd (fun z => absurd rfl z) (fun _ => ?_)
      walk_at "rds"
      refine RD.ite_nd (fun z => absurd rfl z) (fun _ => ?_)
      walk_at "rds"
      refine RD.lcF (walk_tup (xs := [x, y])) (by show 2 ≤ _; decide) (fun i => ([x, y][i]?).map fun v => .bl (isS v)) (fun H' s => by walk_at "st") (fun i v H6 Z N hi hx2 s6 hZ hN => ?_) (fun D H6 hD s6 hv6 => ?_)
      · have hv : ∃ l, SPD.KdOf K H1 v l := by
          have hm := List.mem_of_getElem? hx2
          rcases List.mem_cons.mp hm with e | e
          · rw [e]
            exact ⟨j, hx⟩
          · rw [List.mem_singleton.mp e]
            exact ⟨k, hy⟩
        obtain ⟨l, hl⟩ := hv
        have hl6 := hl.same s6
        walk_at "rds"
        refine ⟨rfl, ?_⟩
        walk_at "rds"
        exact hZ _ _ (by rw [hx2, isS_kd hl]; rfl) (Same.refl _)
      · have e1 : (List.range [x, y].length).filterMap (fun i => ([x, y][i]?).map fun v => V.bl (isS v)) = [isS x, isS y].map V.bl := RD.range_get (fun v => V.bl (isS v)) [x, y]
        rw [e1] at hv6
        have e2 : [isS x, isS y].all id = (isS x && isS y) := by simp
        have ha6 := s6 _ _ ha
        have ht6 := s6 _ _ ht1
        walk_at "rds"
        rw [e2]
        refine RD.ite_b (fun h => ?_) (fun h => ?_)
        · have h : (isS x && isS y) = false := by
            rw [← Bool.not_eq_true']
            exact h
          have e3 : judged zs (twoOf x y) = false := by
            cases x with
            | str p =>
              cases y with
              | str q => cases h
              | _ => rfl
            | _ => rfl
          rw [e3] at qq
          walk_at "rds"
          exact qq _ s6
        · have h : (isS x && isS y) = true := by
            rw [← Bool.not_eq_false']
            exact h
          rw [Bool.and_eq_true] at h
          obtain ⟨p, rfl⟩ : ∃ p, x = .str p := by
            cases x with
            | str p => exact ⟨p, rfl⟩
            | _ => exact absurd (show false = true from h.1) (by decide)
          obtain ⟨q, rfl⟩ : ∃ q, y = .str q := by
            cases y with
            | str p => exact ⟨p, rfl⟩
            | _ => exact absurd (show false = true from h.2) (by decide)
          have hq := hys q rfl
          have hp := hxs p rfl
          have hql : q.length ≤ sizeLine := RD.szo (by show q.cps.size ≤ _; omega)
          have at0 : atI [V.str p, V.str q] 0 = some (.str p) := rfl
          have at1 : atI [V.str p, V.str q] 1 = some (.str q) := rfl
          have fin : judged zs (twoOf (.str p) (.str q)) = (ownV zs (.str p) && ownV zs (.str q) && (decide (0 < q.cps.size) && longB zs p q)) := rfl
          rw [fin] at qq
          walk_at "rds"
          refine RD.ixT (.inl (.inl ha6)) at1 ?_
          walk_at "rds"
          refine RD.ite_d (fun hq0 => ?_) (fun hq0 => ?_)
          · injection hq0 with hq0
            rw [hq0] at qq
            have e3 : decide (0 < ("" : Str).cps.size) = false := by decide
            rw [e3, Bool.false_and, Bool.and_false] at qq
            walk_at "rds"
            exact qq _ s6
          · have hqp : 0 < q.cps.size := by
              rcases Nat.eq_zero_or_pos q.cps.size with z | z
              · exact absurd (congrArg V.str (toL_inj (a := q) (b := "") (List.eq_nil_of_length_eq_zero (by rw [show (toL q).length = q.cps.size from Array.length_toList]; exact z)))) hq0
              · exact z
            rw [decide_eq_true hqp, Bool.true_and] at qq
            have hqe : q.length = q.cps.size := rfl
            have hpe : p.length = p.cps.size := rfl
            walk_at "rds"
            refine RD.ixT (.inl (.inl ha6)) at0 ?_
            walk_at "rds"
            refine RD.ixT (.inl (.inl ha6)) at1 ?_
            refine RB.addS (RD.szo (by omega)) ?_
            walk_at "rds"
            have hls := app_size p q
            refine RD.lcF RB.w_str (by omega) (fun i => ((toL p ++ toL q)[i]?).map fun c => .bl (decide (c ∈ lts zs))) (fun _ _ => trivial) (fun i v H7 Z N hi hx s7 hZ hN => ?_) (fun D2 H7 hD2 s7 hv7 => ?_)
            · rw [List.getElem?_map] at hx
              obtain ⟨c, hc, rfl⟩ := Option.map_eq_some_iff.mp hx
              walk_at "rds"
              refine ⟨rfl, ?_⟩
              walk_at "rds"
              exact hZ _ _ (by
                rw [show (toL p ++ toL q)[i]? = some c by rw [← toL_app]; exact hc]
                refine congrArg (fun b => some (V.bl b)) ?_
                rw [decide_eq_decide]
                exact (how.facts.2 c).symm) (Same.refl _)
            · rw [show (p ++ q).cps.size = (toL p ++ toL q).length by rw [← toL_app]; exact Array.length_toList.symm, RD.range_get (fun c => V.bl (decide (c ∈ lts zs))), show ((toL p ++ toL q).map fun c => V.bl (decide (c ∈ lts zs))) = ((toL p ++ toL q).map fun c => decide (c ∈ lts zs)).map V.bl by rw [List.map_map]; rfl] at hv7
              have ha7 := s7 _ _ ha6
              have ht7 := s7 _ _ ht6
              have s17 := s6.trans s7
              clear hv6 ha6 ht6 s6 s7
              walk_at "rds"
              rw [own_all]
              refine RD.ite_b (fun h => ?_) (fun h => ?_)
              · have h : (ownV zs (.str p) && ownV zs (.str q)) = false := by
                  rw [← Bool.not_eq_true']
                  exact h
                rw [h, Bool.false_and] at qq
                walk_at "rds"
                exact qq _ s17
              · have h : (ownV zs (.str p) && ownV zs (.str q)) = true := by
                  rw [← Bool.not_eq_false']
                  exact h
                rw [h, Bool.true_and] at qq
                have hdv : (16 : Int).fdiv (q.length : Int) = ((16 / q.cps.size : Nat) : Int) := by
                  rw [Int.fdiv_eq_ediv_of_nonneg _ (by omega), hqe]
                  rfl
                have hd16 : 16 / q.cps.size ≤ 16 := Nat.div_le_self _ _
                have hmm : q.cps.size * (2 + 16 / q.cps.size) ≤ 1000000 := by
                  have h1 := Nat.mul_div_le 16 q.cps.size
                  rw [Nat.mul_add]
                  omega
                walk_at "rds"
                refine RD.ixT (.inl (.inl ha7)) at0 ?_
                walk_at "rds"
                refine RD.ixT (.inl (.inl ha7)) at1 ?_
                walk_at "rds"
                refine RD.ixT (.inl (.inl ha7)) at1 ?_
                walk_at "rds"
                refine RD.rdI ⟨by omega, by omega⟩ ?_
                rw [hdv]
                walk_at "rds"
                rw [show (2 : Int) + ((16 / q.cps.size : Nat) : Int) = ((2 + 16 / q.cps.size : Nat) : Int) by omega]
                refine RB.mulS (mul_fine hq hmm (by omega)) ?_
                have hms : (Txt.mul q ((2 + 16 / q.cps.size : Nat) : Int)).cps.size = (2 + 16 / q.cps.size) * q.cps.size := by
                  have := congrArg List.length (mul_rep q (2 + 16 / q.cps.size))
                  rw [FL.rep_length, show (toL q).length = q.cps.size from Array.length_toList] at this
                  rw [← Array.length_toList]
                  exact this
                refine RB.addS (RD.szo (by show p.cps.size + (Txt.mul q _).cps.size ≤ _; rw [hms, Nat.mul_comm]; omega)) ?_
                walk_at "rds"
                refine ⟨t, zs, _, rfl, ht7, g.few, fun H8 s8 => ?_⟩
                rw [toL_app, mul_rep]
                exact qq _ (s17.trans s8)
end


end K11

namespace K11
open PySem PySem.Spec PyProof.Rows L2
local macro_rules | `(tactic| walk_at "kd") => `(tactic| first | assumption | exact SPD.KdOf.int _ | exact SPD.KdOf.str _ | exact SPD.KdOf.bl _ | exact SPD.KdOf.non | exact SPD.KdOf.same (by assumption) (by walk_at "kd") | exact SPD.KdOf.tup (by walk_at "hp") | exact SPD.KdOf.lst (by walk_at "hp") | fail "no")
local macro_rules | `(tactic| walk_at "ne") => `(tactic| first | assumption | exact Ne.symm (by assumption) | fail "no")
local macro_rules | `(tactic| walk_at "hp") => `(tactic| first | assumption | exact RD.at_same (by assumption) (by walk_at "hp") | exact RD.at_kb (by assumption) (by walk_at "ne") (by walk_at "hp") | fail "no")
local macro_rules | `(tactic| walk_at "sq") => `(tactic| first | assumption | exact Or.inl (Or.inl (by walk_at "hp")) | exact Same.seq (by assumption) (by walk_at "sq") | exact RD.KB.seq (by assumption) (by walk_at "ne") (by walk_at "sq") | fail "no")
local macro_rules | `(tactic| walk_at "st") => `(tactic| first | assumption | exact Or.inl (Or.inl (by walk_at "hp")) | exact RD.Same.tup (by assumption) (by walk_at "st") | exact RD.KB.tup (by assumption) (by walk_at "ne") (by walk_at "st") | fail "no")
local macro_rules | `(tactic| walk_at "rd") => `(tactic| first
  | with_reducible refine RD.c ?_
  | ((with_reducible refine' RD.var ?rdE ?rdK); (case rdE => exact rfl))
  | with_reducible refine RD.op ?_
  | with_reducible refine RD.un ?_
  | with_reducible refine RD.nil ?_
  | with_reducible refine RD.cons ?_
  | with_reducible refine RD.cb ?_
  | with_reducible refine RD.call ?_
  | with_reducible refine RD.test ?_
  | with_reducible refine RD.tb' ?_
  | with_reducible refine RD.bl ?_
  | with_reducible refine RD.and' ?_
  | with_reducible refine RD.or' ?_
  | with_reducible refine RD.not' ?_
  | with_reducible refine RD.andV ?_
  | with_reducible refine RD.orV ?_
  | with_reducible refine RD.notV ?_
  | with_reducible refine RD.ife ?_
  | with_reducible refine RD.sl ?_
  | with_reducible refine RD.part ?_
  | with_reducible refine RD.noPart ?_
  | with_reducible refine RD.partI ?_
  | with_reducible refine RD.rd0 ?_
  | with_reducible refine RD.rdU ?_
  | ((with_reducible refine' RD.rdEq ?rdE ?rdK); (case rdE => rfl))
  | ((with_reducible refine' RD.rdNe ?rdE ?rdK); (case rdE => rfl))
  | ((with_reducible refine' RD.ixL ?rdH ?rdE ?rdK); (case rdH => walk_at "sq"); (case rdE => first | rfl | assumption))
  | ((with_reducible refine' RD.rdI ?rdC ?rdK); (case rdC => first | assumption | (show (0 : Int) < _; first | decide | omega) | exact ⟨by decide, by decide⟩ | exact ⟨by assumption, by assumption⟩ | exact .inr ⟨by decide, by decide⟩ | exact .inl ⟨by decide, by decide⟩ | exact ⟨by decide, by decide, by decide⟩ | exact .inl ⟨by omega, by omega⟩))
  | ((with_reducible refine' RD.setL ?rdH ?rdE ?rdK); (case rdH => walk_at "hp"); (case rdE => rfl); intro $(Lean.mkIdent `H'):ident $(Lean.mkIdent `hk):ident $(Lean.mkIdent `hv):ident)
  | ((with_reducible refine' RD.irng1V ?rdA ?rdB ?rdK); (case rdA => first | decide | omega); (case rdB => first | decide | omega))
  | with_reducible refine RD.int1 ?_
  | with_reducible refine RD.abs1 ?_
  | ((with_reducible refine' RD.len ?rdH ?rdK); (case rdH => first | exact Or.inl (by walk_at "sq") | exact Or.inr (by walk_at "st")))
  | with_reducible refine RD.tup ?_
  | with_reducible refine RD.lst ?_
  | with_reducible refine RD.ite1 ?_
  | with_reducible refine RD.ite0 ?_
  | with_reducible refine RD.ite1n ?_
  | with_reducible refine RD.ite0n ?_
  | with_reducible refine RD.seq ?_
  | with_reducible refine RD.asg ?_
  | with_reducible refine RD.name ?_
  | with_reducible refine RD.ret ?_
  | with_reducible refine RD.drop ?_
  | with_reducible refine RD.next ?_
  | with_reducible refine RD.ifs ?_
  | with_reducible refine RD.par ?_
  | with_reducible refine RD.par2 ?_
  | with_reducible refine RD.sub ?_
  | with_reducible refine RD.gcons ?_
  | with_reducible refine RD.gnil ?_
  | with_reducible refine RD.bm ?_
  | ((with_reducible refine' RD.bmL ?rdH ?rdK); (case rdH => walk_at "sq"))
  | ((with_reducible refine' RD.newZ ?rdH ?rdK); (case rdH => exact RD.sz _); intro $(Lean.mkIdent `p'):ident $(Lean.mkIdent `H'):ident $(Lean.mkIdent `hp):ident $(Lean.mkIdent `hs):ident $(Lean.mkIdent `hv):ident; (try have $(Lean.mkIdent `hn):ident := hand_ne $(Lean.mkIdent `hp):ident (by walk_at "hk")))
  | with_reducible refine RD.fors ?_
  | with_reducible refine RD.lc ?_
  | with_reducible refine RD.yes ?_
  | with_reducible refine RD.ilist ?_
  | ((with_reducible refine' RD.ilistV ?rdH ?rdK); (case rdH => walk_at "sq"))
  | with_reducible refine RD.itup ?_
  | ((with_reducible refine' RD.itupV ?rdH ?rdK); (case rdH => walk_at "st"))
  | with_reducible refine RD.irng1 ?_
  | with_reducible refine RD.irng2 ?_
  | ((with_reducible refine' RD.irng2V ?rdA ?rdK); (case rdA => first | decide | omega))
  | with_reducible refine RD.ienum ?_
  | ((with_reducible refine' RD.ienumV ?rdH ?rdK); (case rdH => walk_at "sq"))
  | with_reducible refine RD.izip ?_
  | ((with_reducible refine' RD.izipV ?rdH ?rdE ?rdK); (case rdH => walk_at "sq"); (case rdE => walk_at "sq"))
  | with_reducible refine SPD.izipA ?_
  | with_reducible refine RD.istr ?_
  | with_reducible refine RD.istrV ?_
  | ((with_reducible refine' RD.slL ?rdH ?rdK); (case rdH => walk_at "sq"); intro $(Lean.mkIdent `p'):ident $(Lean.mkIdent `H'):ident $(Lean.mkIdent `hp):ident $(Lean.mkIdent `hs):ident $(Lean.mkIdent `hv):ident; (try have $(Lean.mkIdent `hn):ident := hand_ne $(Lean.mkIdent `hp):ident (by walk_at "hk")))
  | ((with_reducible refine' RD.cat ?rdH ?rdE ?rdZ ?rdK); (case rdH => walk_at "hp"); (case rdE => walk_at "hp"); (case rdZ => exact RD.sz _); intro $(Lean.mkIdent `p'):ident $(Lean.mkIdent `H'):ident $(Lean.mkIdent `hp):ident $(Lean.mkIdent `hs):ident $(Lean.mkIdent `hv):ident; (try have $(Lean.mkIdent `hn):ident := hand_ne $(Lean.mkIdent `hp):ident (by walk_at "hk")))
  | ((with_reducible refine' RD.gtup ?rdH ?rdE ?rdK); (case rdH => walk_at "st"); (case rdE => rfl))
  | ((with_reducible refine' RD.app ?rdH ?rdZ ?rdK); (case rdH => walk_at "hp"); (case rdZ => first | assumption | (apply RD.szl; omega)); intro $(Lean.mkIdent `H'):ident $(Lean.mkIdent `hk):ident $(Lean.mkIdent `hv):ident)
  | ((with_reducible refine' RD.all1 ?rdH ?rdK); (case rdH => walk_at "sq"))
  | ((with_reducible refine' RD.any1 ?rdH ?rdK); (case rdH => walk_at "sq"))
  | ((with_reducible refine' SPD.dnew ?rdK); intro $(Lean.mkIdent `p'):ident $(Lean.mkIdent `H'):ident $(Lean.mkIdent `hp):ident $(Lean.mkIdent `hs):ident $(Lean.mkIdent `hv):ident; (try have $(Lean.mkIdent `hn):ident := hand_ne $(Lean.mkIdent `hp):ident (by walk_at "hk")))
  | ((with_reducible refine' SPD.disp1 ?rdK); intro $(Lean.mkIdent `p'):ident $(Lean.mkIdent `H'):ident $(Lean.mkIdent `hp):ident $(Lean.mkIdent `hs):ident $(Lean.mkIdent `hv):ident; (try have $(Lean.mkIdent `hn):ident := hand_ne $(Lean.mkIdent `hp):ident (by walk_at "hk")))
  | ((with_reducible refine' SPD.isSeq ?rdH ?rdE ?rdK); (case rdH => walk_at "hp"); (case rdE => walk_at "kd"))
  | ((with_reducible refine' SPD.isTup ?rdE ?rdK); (case rdE => walk_at "kd"))
  | ((with_reducible refine' SPD.isLst ?rdE ?rdK); (case rdE => walk_at "kd"))
  | ((with_reducible refine' SPD.isBool ?rdE ?rdK); (case rdE => walk_at "kd"))
  | ((with_reducible refine' SPD.isStr ?rdE ?rdK); (case rdE => walk_at "kd"))
  | ((with_reducible refine' SPD.isInt ?rdE ?rdK); (case rdE => walk_at "kd"))
  | dsimp only)
local macro_rules | `(tactic| walk_at "rds") => `(tactic| repeat walk_at "rd")
local macro_rules | `(tactic| walk_at "sm") => `(tactic| first | assumption | exact Same.refl _ | exact RD.sm_tr (by assumption) (by walk_at "sm") | fail "no")
local macro_rules | `(tactic| walk_at "kb") => `(tactic| first | assumption | exact RD.KB.refl | exact RD.kb_tr (by assumption) (by walk_at "kb") | exact RD.kb_trs (by assumption) (by walk_at "kb") | fail "no")
local macro_rules | `(tactic| walk_at "fr") => `(tactic| first | assumption | exact RD.fr_of (by assumption) (by walk_at "sm") | fail "no")
local macro_rules | `(tactic| walk_at "hk") => `(tactic| first | assumption | exact hand_same (by assumption) (by walk_at "hk") | exact hand_kb (by assumption) (by walk_at "fr") (by walk_at "hk") | fail "no")
local macro_rules | `(tactic| walk_at "na") => `(tactic| first | assumption | exact hand_ne (by assumption) (by walk_at "hk") | fail "no")
local macro_rules | `(tactic| walk_at "dqa") => `(tactic| first | exact SPD.DqA.nil | exact SPD.DqA.cons (by walk_at "dq") (by walk_at "dqa") | exact SPD.DqA.app (by walk_at "dqa") (by walk_at "dqa") | fail "no")
local macro_rules | `(tactic| walk_at "dq") => `(tactic| first | assumption | exact SPD.Dq.leaf rfl | exact SPD.dq_kb (by assumption) (by walk_at "kb") | exact SPD.dqTup (by walk_at "hp") (by walk_at "na") (by walk_at "dqa") | exact SPD.dqLst (by walk_at "hp") (by walk_at "na") (by walk_at "dqa") | exact SPD.dqNil (by walk_at "hp") (by walk_at "na") (by first | decide | simp) (by first | decide | simp) | fail "no")

local macro_rules | `(tactic| walk_at "rd") => `(tactic| first
  | with_reducible refine RB.chain ?_
  | with_reducible refine RB.m1 ?_
  | with_reducible refine RB.strE ?_
  | with_reducible refine RB.fld ?_
  | with_reducible refine RB.setF ?_
  | with_reducible refine RB.ss ?_
  | with_reducible refine RB.rev ?_
  | with_reducible refine RB.make ?_
  | with_reducible refine RB.makeS ?_
  | with_reducible refine RB.mkO ?_
  | with_reducible refine NR.ienumT ?_
  | with_reducible refine RB.inS ?_
  | with_reducible refine RB.bmS ?_
  | with_reducible refine RB.callS ?_
  | with_reducible refine RB.sw3 ?_
  | with_reducible refine RB.par3 ?_
  | with_reducible refine RB.par3V ?_
  | ((with_reducible refine' RB.slS ?rdH ?rdK); (case rdH => walk_at "sz"))
  | with_reducible refine RB.xf ?_
  | ((with_reducible refine' RB.xfV ?rdH ?rdE ?rdK); (case rdH => walk_at "hp"); (case rdE => rfl))
  | ((with_reducible refine' NR.ienumTV ?rdH ?rdK); (case rdH => walk_at "st"))
  | ((with_reducible refine' RB.lenL ?rdH ?rdK); (case rdH => walk_at "sq"))
  | ((with_reducible refine' RB.lenT ?rdH ?rdK); (case rdH => walk_at "st"))
  | ((with_reducible refine' RB.lenS ?rdH ?rdK); (case rdH => walk_at "sz"))
  | ((with_reducible refine' RD.lenS ?rdH ?rdK); (case rdH => walk_at "sz"))
  | ((with_reducible refine' RB.slT ?rdH ?rdK); (case rdH => walk_at "hp"); intro $(Lean.mkIdent `p'):ident $(Lean.mkIdent `H'):ident $(Lean.mkIdent `hs):ident $(Lean.mkIdent `hv):ident $(Lean.mkIdent `hp):ident; (try have $(Lean.mkIdent `hn):ident := two_ne $(Lean.mkIdent `hp):ident (by walk_at "na") (by walk_at "hk")))
  | ((with_reducible refine' RB.revV ?rdH ?rdK); (case rdH => walk_at "st"); intro $(Lean.mkIdent `p'):ident $(Lean.mkIdent `H'):ident $(Lean.mkIdent `hp):ident $(Lean.mkIdent `hs):ident $(Lean.mkIdent `hv):ident; (try have $(Lean.mkIdent `hn):ident := hand_ne $(Lean.mkIdent `hp):ident (by walk_at "hk")))
  | ((with_reducible refine' RB.listS ?rdH ?rdK); (case rdH => walk_at "sz"); intro $(Lean.mkIdent `p'):ident $(Lean.mkIdent `H'):ident $(Lean.mkIdent `hp):ident $(Lean.mkIdent `hs):ident $(Lean.mkIdent `hv):ident; (try have $(Lean.mkIdent `hn):ident := hand_ne $(Lean.mkIdent `hp):ident (by walk_at "hk")))
  | ((with_reducible refine' RB.listO ?rdH ?rdK); (case rdH => first | exact Or.inl (by walk_at "sq") | exact Or.inr (by walk_at "st")); intro $(Lean.mkIdent `p'):ident $(Lean.mkIdent `H'):ident $(Lean.mkIdent `hp):ident $(Lean.mkIdent `hs):ident $(Lean.mkIdent `hv):ident; (try have $(Lean.mkIdent `hn):ident := hand_ne $(Lean.mkIdent `hp):ident (by walk_at "hk")))
  | ((with_reducible refine' RB.tupL ?rdH ?rdK); (case rdH => walk_at "sq"); intro $(Lean.mkIdent `p'):ident $(Lean.mkIdent `H'):ident $(Lean.mkIdent `hp):ident $(Lean.mkIdent `hs):ident $(Lean.mkIdent `hv):ident; (try have $(Lean.mkIdent `hn):ident := hand_ne $(Lean.mkIdent `hp):ident (by walk_at "hk")))
  | ((with_reducible refine' RB.catT ?rdH ?rdE ?rdZ ?rdK); (case rdH => walk_at "hp"); (case rdE => walk_at "hp"); (case rdZ => exact RB.LN.sum (by walk_at "ln") (by walk_at "ln") rfl); intro $(Lean.mkIdent `p'):ident $(Lean.mkIdent `H'):ident $(Lean.mkIdent `hs):ident $(Lean.mkIdent `hv):ident $(Lean.mkIdent `hp):ident; (try have $(Lean.mkIdent `hn):ident := three_ne $(Lean.mkIdent `hp):ident (by walk_at "na") (by walk_at "na") (by walk_at "hk")))
  | fail "no")
local macro_rules | `(tactic| walk_at "ln") => `(tactic| first | with_reducible assumption | exact RB.LN.cut (by walk_at "ln") | exact RB.LN.app (by walk_at "ln") (by walk_at "ln") | exact RB.LN.rev (by walk_at "ln") | exact RB.LN.rep (by walk_at "ln") | exact RB.LN.lit rfl | fail "no")
local macro_rules | `(tactic| walk_at "sz") => `(tactic| first | assumption | exact RD.sz _ | fail "no")

local macro_rules | `(tactic| walk_at "hp") => `(tactic| first | assumption | exact RD.at_same (by assumption) (by walk_at "hp") | exact SPE.at_kx (by assumption) (by walk_at "na") (by walk_at "hp") | exact RD.at_kb (by assumption) (by walk_at "ne") (by walk_at "hp") | fail "no")
local macro_rules | `(tactic| walk_at "sq") => `(tactic| first | assumption | exact Or.inl (Or.inl (by walk_at "hp")) | exact Same.seq (by assumption) (by walk_at "sq") | exact SPE.KX.seq (by assumption) (by walk_at "na") (by walk_at "sq") | exact RD.KB.seq (by assumption) (by walk_at "ne") (by walk_at "sq") | fail "no")
local macro_rules | `(tactic| walk_at "st") => `(tactic| first | assumption | exact Or.inl (Or.inl (by walk_at "hp")) | exact RD.Same.tup (by assumption) (by walk_at "st") | exact SPE.KX.tup (by assumption) (by walk_at "na") (by walk_at "st") | exact RD.KB.tup (by assumption) (by walk_at "ne") (by walk_at "st") | fail "no")
local macro_rules | `(tactic| walk_at "kx") => `(tactic| first | assumption | exact SPE.KX.refl | exact SPE.kx_tr (by assumption) (by walk_at "kx") | exact SPE.kx_trs (by assumption) (by walk_at "kx") | fail "no")
local macro_rules | `(tactic| walk_at "dqa") => `(tactic| first | exact SPE.DqA.nil | exact SPE.DqA.cons (by walk_at "dq") (by walk_at "dqa") | exact SPE.DqA.app (by walk_at "dqa") (by walk_at "dqa") | fail "no")
local macro_rules | `(tactic| walk_at "dq") => `(tactic| first | assumption | exact SPE.Dq.leaf rfl | exact SPE.dq_kx (by assumption) (by walk_at "kx") | exact SPE.dqTup (by walk_at "hp") (by walk_at "na") (by walk_at "dqa") | exact SPE.dqLst (by walk_at "hp") (by walk_at "na") (by walk_at "dqa") | exact SPE.dqNil (by walk_at "hp") (by walk_at "na") (by first | decide | simp) (by first | decide | simp) | fail "no")
local macro_rules | `(tactic| walk_at "dqx") => `(tactic| first | exact $(Lean.mkIdent `hdb):ident _ (by walk_at "kx") | exact SPE.DqA.cons (SPE.dq_kx (by assumption) (by walk_at "kx")) SPE.DqA.nil | exact SPE.DqA.cons (SPE.Dq.leaf rfl) SPE.DqA.nil | exact SPE.DqA.nil | (with_reducible refine SPE.dqa_cut ?_; walk_at "dqx") | (with_reducible refine SPE.dqa_rev ?_; walk_at "dqx") | (with_reducible refine SPE.DqA.app ?_ ?_ <;> walk_at "dqx") | fail "no")
local macro_rules | `(tactic| walk_at "dqz") => `(tactic| first | exact SPE.dqTupN (by walk_at "hp") (by walk_at "na") (by walk_at "dqx") (by walk_at "ln") rfl | exact SPE.dqLstN (by walk_at "hp") (by walk_at "na") (by walk_at "dqx") (by walk_at "ln") rfl | fail "no")
local macro_rules | `(tactic| walk_at "rd") => `(tactic| first
  | with_reducible refine SPE.revs ?_
  | ((with_reducible refine' SPE.revsV ?rdH ?rdK); (case rdH => walk_at "sz"))
  | ((with_reducible refine' SPE.sum1 ?rdH ?rdK); (case rdH => walk_at "sq"))
  | fail "no")

local macro_rules | `(tactic| walk_at "rd") => `(tactic| first
  | ((with_reducible refine' RB.listO ?rdH ?rdK); (case rdH => exact Or.inr (by walk_at "st")); intro $(Lean.mkIdent `p'):ident $(Lean.mkIdent `H'):ident $(Lean.mkIdent `hp):ident $(Lean.mkIdent `hs):ident $(Lean.mkIdent `hv):ident; (try have $(Lean.mkIdent `hn):ident := hand_ne $(Lean.mkIdent `hp):ident (by walk_at "hk")))
  | fail "no")

local macro_rules | `(tactic| walk_at "dk") => `(tactic| first | exact FR.rd_of (by walk_at "hp") | exact Or.inr ⟨_, by walk_at "hp"⟩ | fail "no")
local macro_rules | `(tactic| walk_at "rd") => `(tactic| first
  | with_reducible refine FR.dget ?_
  | with_reducible refine FR.din ?_
  | with_reducible refine FR.dnotin ?_
  | with_reducible refine FR.dc ?_
  | with_reducible refine FR.ikeys ?_
  | with_reducible refine FR.ivals ?_
  | with_reducible refine FR.bm0 ?_
  | ((with_reducible refine' FR.dinS ?rdH ?rdK); (case rdH => walk_at "dk"))
  | ((with_reducible refine' FR.keysV ?rdH ?rdK); (case rdH => walk_at "hp"))
  | ((with_reducible refine' FR.valsV ?rdH ?rdK); (case rdH => walk_at "hp"))
  | ((with_reducible refine' FR.bmD ?rdH ?rdK); (case rdH => walk_at "hp"))
  | with_reducible refine FR.ckw ?_
  | ((with_reducible refine' FR.lenD ?rdH ?rdK); (case rdH => walk_at "hp"))
  | fail "no")

/-! ### pairs with one thing otherwise -/
def SZ (m : Nat) (z : Str) : Prop := z.cps.size ≤ m
theorem SZ.app {m k : Nat} {y z : Str} (h : SZ m y) (g : SZ k z) : SZ (m + k) (y ++ z) := by
  unfold SZ at *
  rw [app_size]
  omega
theorem SZ.cut {m : Nat} {z : Str} {lo hi : Option Int} (h : SZ m z) : SZ m (cutS z lo hi) := Nat.le_trans (cut_size z lo hi) h
theorem SZ.rev {m : Nat} {z : Str} (h : SZ m z) : SZ m (SPE.revS z) := by
  unfold SZ
  rw [revS_size]
  exact h
theorem SZ.sum {m k : Nat} {y z : Str} (h : SZ m y) (g : SZ k z) (e : Nat.ble (m + k) 16777216 = true) : y.length + z.length ≤ sizeLine := RD.szo (Nat.le_trans (Nat.add_le_add h g) (Nat.le_of_ble_eq_true e))
theorem SZ.line {m : Nat} {z : Str} (h : SZ m z) (e : Nat.ble m 16777216 = true) : z.length ≤ sizeLine := RD.szo (Nat.le_trans h (Nat.le_of_ble_eq_true e))
theorem SZ.lit {m : Nat} {z : Str} (e : z.cps.size = m) : SZ m z := Nat.le_of_eq e
theorem SZ.dq {x : SPE.AX} {H : Hp} {n m : Nat} {z : Str} (h : SZ m z) (e : Nat.ble m 100000 = true) : SPE.Dq x H n (.str z) := .leaf (Nat.ble_eq_true_of_le (Nat.le_trans h (Nat.le_of_ble_eq_true e)))
local macro_rules | `(tactic| walk_at "zz") => `(tactic| first | with_reducible assumption | exact SZ.app (by walk_at "zz") (by walk_at "zz") | exact SZ.cut (by walk_at "zz") | exact SZ.rev (by walk_at "zz") | exact SZ.lit rfl | fail "no")
local macro_rules | `(tactic| walk_at "sz") => `(tactic| first | assumption | exact SZ.line (by walk_at "zz") rfl | exact RD.sz _ | fail "no")
local macro_rules | `(tactic| walk_at "rd") => `(tactic| first
  | ((with_reducible refine' RB.addS ?rdH ?rdK); (case rdH => exact SZ.sum (by walk_at "zz") (by walk_at "zz") rfl))
  | fail "no")
local macro_rules | `(tactic| walk_at "dq") => `(tactic| first | assumption | exact SZ.dq (by walk_at "zz") rfl | exact SPE.Dq.leaf rfl | exact SPE.dq_kx (by assumption) (by walk_at "kx") | exact SPE.dqTup (by walk_at "hp") (by walk_at "na") (by walk_at "dqa") | exact SPE.dqLst (by walk_at "hp") (by walk_at "na") (by walk_at "dqa") | exact SPE.dqNil (by walk_at "hp") (by walk_at "na") (by first | decide | simp) (by first | decide | simp) | fail "no")
def spBent : Sp := fun vs H Q _ => ∃ (x : SPE.AX) (t pr : Addr) (zs : List Str) (u v : Str), vs = [.ref x.1, .ref t, .ref pr] ∧ BagOk H x ∧ H t = some (.tup (zs.map V.str)) ∧ Good zs ∧ H pr = some (.tup [.str u, .str v]) ∧ SZ 200 u ∧ SZ 200 v ∧
  ∀ v H', SPE.KX x H H' → BagOk H' x → SPE.Dq x H' 42 v → Q v H'
def MidB (x : SPE.AX) (H : Hp) (t pr : Addr) (u v o l : Str) (at_ : Int) (n : Nat) (σ' : L2.St) (H' : Hp) : Prop := ∃ (p : Addr) (L : List V), σ' = [some (.ref x.1), some (.ref t), some (.ref pr), some (.str u), some (.str v), some (.str o), some (.int at_), some (.str l), some (.ref p)] ∧ SPE.KX x H H' ∧ BagOk H' x ∧ SPE.Off p x ∧ H' p = some (.lst L) ∧ SPE.DqA x H' 42 L ∧ L.length ≤ n ∧ 1 ≤ L.length
section
variable {P : Program} {w : World} {K : PySem.W.Frag} {mg : Str → Option Value} {base : Heap}
theorem ok_bent (T : Txt P K mg) : FnOk P w K mg base CX0 4 T.a_bent T.fd_bent ["_law_bag_here", "_law_pieces", "_law_pair"] spBent := by
  have nd := sc_bent.nd
  have G_pick : FnOk P w K mg base CX0 3 T.a_pick T.fd_pick ["_law_bag_here", "_law_many"] spPick := (ok_pick T).mono (by decide)
  have G_some : FnOk P w K mg base CX0 3 T.a_some T.fd_some ["_law_bag_here", "_law_things"] (spSome K) := (ok_some T).mono (by decide)
  have G_own : FnOk P w K mg base CX0 3 T.a_own T.fd_own ["_law_pieces"] spOwn := (ok_own T).mono (by decide)
  have G_nested : FnOk P w K mg base CX0 3 T.a_nested T.fd_nested [] spNested := (ok_nested T).mono (by decide)
  refine T.F_bent.ok sc_bent (fun vs H Q E h => ?_) (fun cdv A outer s H vs Q E hr h => ?_)
  · obtain ⟨x, t, pr, zs, u, v, rfl, _⟩ := h
    rfl
  · obtain ⟨x, t, pr, zs, u, v, rfl, hh, ht, g, hpr, hu, hv0, q⟩ := h
    refine ⟨_, (pss_cons (ps_asg (pv 2) (pg_tup rfl (pgs_cons (pg_name (i := 3) nd rfl (by first | exact Or.inl rfl | exact Or.inr rfl)) (pgs_cons (pg_name (i := 4) nd rfl (by first | exact Or.inl rfl | exact Or.inr rfl)) pgs_nil))))
  (pss_cons (ps_par (i := 5) (j := 6) rfl nd rfl rfl (by decide) rfl rfl (pa_cons (pe_call G_own hr (by rfl) T.g_own T.F_own.kp T.b_own .nil pass0 (pa_cons (pv 1) pa_nil)) (pa_cons (pe_call G_pick hr (by rfl) T.g_pick T.F_pick.kp T.b_pick .nil pass0 (pa_cons (pv 0) (pa_cons (pe_op op_add (pe_callB call_len_str (by rfl) T.m_len PySem.boot_len (pa_cons (pv 4) pa_nil)) pe_int) pa_nil))) pa_nil)) (by rfl))
  (pss_cons (ps_set (i := 7) nd rfl (by first | exact Or.inl rfl | exact Or.inr rfl) (pe_call G_some hr (by rfl) T.g_some T.F_some.kp T.b_some .nil pass0 (pa_cons (pv 0) (pa_cons (pe_op op_cat (pe_callTy (RB.call_listS rfl) (by rfl) T.m_list (by decide +kernel) (pa_cons (pv 5) pa_nil)) (pe_lst (pa_cons pe_str (pa_cons pe_str (pa_cons pe_str pa_nil))))) pa_nil))))
  (Evl.pss_cut (ps_set (i := 8) nd rfl (by first | exact Or.inl rfl | exact Or.inr rfl) (pe_lst (pa_cons (pe_tup (pa_cons (pv 3) (pa_cons (pe_op op_add_str (pe_op op_add_str (pe_slice sl_str (pv 4) po_none (po_some (pv 6))) (pv 7)) (pe_slice sl_str (pv 4) (po_some (pv 6)) po_none)) pa_nil))) (pa_cons (pe_tup (pa_cons (pv 3) (pa_cons (pe_op op_add_str (pe_op op_add_str (pe_slice sl_str (pv 4) po_none (po_some (pv 6))) (pv 7)) (pe_slice sl_str (pv 4) (po_some (pe_op op_add (pv 6) pe_int)) po_none)) pa_nil))) (pa_cons (pe_tup (pa_cons (pv 3) (pa_cons (pe_slice sl_str (pv 4) (po_some pe_int) po_none) pa_nil))) pa_nil)))))
  (Evl.pss_cut (ps_set (i := 8) nd rfl (by first | exact Or.inl rfl | exact Or.inr rfl) (pe_op op_cat (pv 8) (pe_lst (pa_cons (pe_tup (pa_cons (pe_op op_add_str (pv 3) (pv 7)) (pa_cons (pv 4) pa_nil))) (pa_cons (pe_tup (pa_cons (pe_op op_add_str (pv 7) (pv 3)) (pa_cons (pv 4) pa_nil))) (pa_cons (pe_tup (pa_cons (SPE.pe_revS (pv 3)) (pa_cons (pv 4) pa_nil))) pa_nil))))))
  (Evl.pss_cut (ps_set (i := 8) nd rfl (by first | exact Or.inl rfl | exact Or.inr rfl) (pe_op op_cat (pv 8) (pe_lst (pa_cons (pe_tup (pa_cons (pv 3) (pa_cons (SPE.pe_revS (pv 4)) pa_nil))) (pa_cons (pe_tup (pa_cons pe_str (pa_cons (pv 4) pa_nil))) pa_nil)))))
  (Evl.pss_cut (ps_set (i := 8) nd rfl (by first | exact Or.inl rfl | exact Or.inr rfl) (pe_op op_cat (pv 8) (pe_lst (pa_cons (pe_tup (pa_cons (pe_op op_add_str (pv 3) (pv 4)) (pa_cons (pv 4) pa_nil))) (pa_cons (pe_tup (pa_cons (pv 3) (pa_cons (pe_op op_add_str (pv 4) (pv 4)) pa_nil))) (pa_cons (pe_tup (pa_cons (pv 4) (pa_cons (pv 3) pa_nil))) (pa_cons (pe_tup (pa_cons (pv 3) (pa_cons pe_str pa_nil))) (pa_cons (pe_lst (pa_cons (pv 3) (pa_cons (pv 4) pa_nil))) pa_nil))))))))
  (Evl.pss_cut (ps_set (i := 8) nd rfl (by first | exact Or.inl rfl | exact Or.inr rfl) (pe_op op_cat (pv 8) (pe_lst (pa_cons (pe_tup (pa_cons (pv 3) (pa_cons (pv 4) (pa_cons pe_str pa_nil)))) (pa_cons (pe_tup (pa_cons (pv 3) pa_nil)) (pa_cons (pe_op op_add_str (pv 3) (pv 4)) (pa_cons pe_non (pa_cons pe_dnewK (pa_cons pe_int (pa_cons (pe_tup (pa_cons pe_non (pa_cons (pv 4) pa_nil))) (pa_cons (pe_tup (pa_cons (pv 3) (pa_cons pe_int pa_nil))) pa_nil)))))))))))
  (Evl.pss_cut (ps_set (i := 8) nd rfl (by first | exact Or.inl rfl | exact Or.inr rfl) (pe_op op_cat (pv 8) (pe_lst (pa_cons (pe_tup (pa_cons (pv 3) (pa_cons (pe_tup (pa_cons (pv 4) pa_nil)) pa_nil))) (pa_cons (pe_call0 G_nested hr (by rfl) T.g_nested T.F_nested.kp T.b_nested .nil pass0) pa_nil)))))
  (pss_one (ps_ret (pe_call G_some hr (by rfl) T.g_some T.F_some.kp T.b_some .nil pass0 (pa_cons (pv 0) (pa_cons (pv 8) pa_nil)))))))))))))), ?_⟩
    have hvl : v.length ≤ 200 := hv0
    walk_at "rds"
    refine ⟨t, zs, rfl, ht, by have := g.sum; omega, fun ys H1 ho s1 => ?_⟩
    have how : OwnW zs (Txt.join ("" : Str) ys) := ⟨ys, ho, rfl⟩
    have ho8 := how.size g
    generalize Txt.join ("" : Str) ys = o at how ho8 ⊢
    have hh1 := hh.same s1
    have k1 : SPE.KX x H H1 := SPE.kx_of s1
    clear ht hpr hh ho
    walk_at "rds"
    refine spPick.mk (E := E0) hh1 (by omega) (by omega) fun r H2 hr0 hr1 k2 hh2 => ?_
    have k02 := k1.trans k2
    clear k1 k2 hh1 s1
    walk_at "rds"
    have hos : SZ 8 o := ho8
    walk_at "rds"
    rename_i pa Ha hpa sa hva oa
    have hma : (o.cps.toList.map fun c => V.str ⟨#[c]⟩).length = o.cps.size := by rw [List.length_map, Array.length_toList]
    refine RD.cat (by walk_at "hp") (by walk_at "hp") (RD.szo (by rw [hma]; show _ + 3 ≤ _; omega)) fun pc H3 hpc sc hvc => ?_
    have hh3 : BagOk H3 x := ((hh2.same sa).same hs).same sc
    have k03 : SPE.KX x H H3 := ((k02.trans (SPE.kx_of sa)).trans (SPE.kx_of hs)).trans (SPE.kx_of sc)
    have oc : SPE.Off pc x := hand_ne hpc ((hh2.same sa).same hs)
    clear hpa sa hva oa hs hv hp hn sc hpc k02 hh2
    walk_at "rds"
    refine spSome.mk (E := E0) hh3 (.lst oc (.inl (.inl hvc))) (by rw [List.length_append, hma]; show 0 < _ + 3; omega) (by rw [List.length_append, hma]; show _ + 3 < _; omega) fun l0 H4 hm k4 hh4 => ?_
    obtain ⟨l, hl, rfl⟩ : ∃ l : Str, SZ 1 l ∧ l0 = .str l := by
      rcases List.mem_append.mp hm with z | z
      · obtain ⟨c, _, rfl⟩ := List.mem_map.mp z
        exact ⟨⟨#[c]⟩, SZ.lit rfl, rfl⟩
      · simp only [List.mem_cons, List.not_mem_nil, or_false] at z
        rcases z with rfl | rfl | rfl
        · exact ⟨_, SZ.lit rfl, rfl⟩
        · exact ⟨_, SZ.lit rfl, rfl⟩
        · exact ⟨_, SZ.lit rfl, rfl⟩
    have k04 := k03.trans k4
    clear hm k4 hh3 k03 hvc oc
    walk_at "rds"
    refine ⟨MidB x H t pr u v o l r 3, ?_, ?_⟩
    · walk_at "rds"
      exact ⟨_, _, rfl, by walk_at "kx", by walk_at "hk", by walk_at "na", hv, by walk_at "dqa", by show 3 ≤ _; decide, by show 1 ≤ 3; decide⟩
    · rintro σ' H5 ⟨p0, L, rfl, k5, hh5, o5, hp5, hd5, hl5, hl1⟩
      clear hh4 k04
      refine ⟨MidB x H t pr u v o l r 6, ?_, ?_⟩
      · walk_at "rds"
        have hp6 : H' p0 = some (.lst L) := by walk_at "hp"
        have k6 : SPE.KX x H5 H' := by walk_at "kx"
        have hh6 : BagOk H' x := by walk_at "hk"
        have hd6 : SPE.DqA x H' 42 _ := hd5.kx k6
        refine RD.cat hp6 (by walk_at "hp") (RD.szo (by show _ + 3 ≤ _; omega)) fun pc H7 hpc sc hvc => ?_
        have hx7 : SPE.KX x H' H7 := SPE.kx_of sc
        walk_at "rds"
        exact ⟨pc, _, rfl, (k5.trans k6).trans hx7, hh6.same sc, hand_ne hpc hh6, hvc, (SPE.DqA.app hd6 (by walk_at "dqa")).kx hx7, by rw [List.length_append]; show _ + 3 ≤ _; omega, by rw [List.length_append]; omega⟩
      · rintro σ' H5 ⟨p0, L, rfl, k5, hh5, o5, hp5, hd5, hl5, hl1⟩
        skip
        refine ⟨MidB x H t pr u v o l r 8, ?_, ?_⟩
        · walk_at "rds"
          have hp6 : H' p0 = some (.lst L) := by walk_at "hp"
          have k6 : SPE.KX x H5 H' := by walk_at "kx"
          have hh6 : BagOk H' x := by walk_at "hk"
          have hd6 : SPE.DqA x H' 42 _ := hd5.kx k6
          refine RD.cat hp6 (by walk_at "hp") (RD.szo (by show _ + 2 ≤ _; omega)) fun pc H7 hpc sc hvc => ?_
          have hx7 : SPE.KX x H' H7 := SPE.kx_of sc
          walk_at "rds"
          exact ⟨pc, _, rfl, (k5.trans k6).trans hx7, hh6.same sc, hand_ne hpc hh6, hvc, (SPE.DqA.app hd6 (by walk_at "dqa")).kx hx7, by rw [List.length_append]; show _ + 2 ≤ _; omega, by rw [List.length_append]; omega⟩
        · rintro σ' H5 ⟨p0, L, rfl, k5, hh5, o5, hp5, hd5, hl5, hl1⟩
          skip
          refine ⟨MidB x H t pr u v o l r 13, ?_, ?_⟩
          · walk_at "rds"
            have hp6 : H' p0 = some (.lst L) := by walk_at "hp"
            have k6 : SPE.KX x H5 H' := by walk_at "kx"
            have hh6 : BagOk H' x := by walk_at "hk"
            have hd6 : SPE.DqA x H' 42 _ := hd5.kx k6
            refine RD.cat hp6 (by walk_at "hp") (RD.szo (by show _ + 5 ≤ _; omega)) fun pc H7 hpc sc hvc => ?_
            have hx7 : SPE.KX x H' H7 := SPE.kx_of sc
            walk_at "rds"
            exact ⟨pc, _, rfl, (k5.trans k6).trans hx7, hh6.same sc, hand_ne hpc hh6, hvc, (SPE.DqA.app hd6 (by walk_at "dqa")).kx hx7, by rw [List.length_append]; show _ + 5 ≤ _; omega, by rw [List.length_append]; omega⟩
          · rintro σ' H5 ⟨p0, L, rfl, k5, hh5, o5, hp5, hd5, hl5, hl1⟩
            skip
            refine ⟨MidB x H t pr u v o l r 21, ?_, ?_⟩
            · walk_at "rds"
              have hp6 : H' p0 = some (.lst L) := by walk_at "hp"
              have k6 : SPE.KX x H5 H' := by walk_at "kx"
              have hh6 : BagOk H' x := by walk_at "hk"
              have hd6 : SPE.DqA x H' 42 _ := hd5.kx k6
              refine RD.cat hp6 (by walk_at "hp") (RD.szo (by show _ + 8 ≤ _; omega)) fun pc H7 hpc sc hvc => ?_
              have hx7 : SPE.KX x H' H7 := SPE.kx_of sc
              walk_at "rds"
              exact ⟨pc, _, rfl, (k5.trans k6).trans hx7, hh6.same sc, hand_ne hpc hh6, hvc, (SPE.DqA.app hd6 (by walk_at "dqa")).kx hx7, by rw [List.length_append]; show _ + 8 ≤ _; omega, by rw [List.length_append]; omega⟩
            · rintro σ' H5 ⟨p0, L, rfl, k5, hh5, o5, hp5, hd5, hl5, hl1⟩
              refine ⟨MidB x H t pr u v o l r 23, ?_, ?_⟩
              · walk_at "rds"
                have k6 : SPE.KX x H5 H' := by walk_at "kx"
                have hh6 : BagOk H' x := by walk_at "hk"
                have hd6 : SPE.DqA x H' 42 _ := hd5.kx k6
                have hp6 : H' p0 = some (.lst L) := by walk_at "hp"
                have ht6 : SPE.Dq x H' 42 (.ref p') := by walk_at "dq"
                have k06 := k5.trans k6
                refine ⟨rfl, fun v0 H7 s7 hn7 => ?_⟩
                have hd7 : SPE.Dq x H7 42 v0 := (hn7 x hh6).mono 42 (by decide)
                have hp7 := s7 _ _ hp6
                have hh7 := hh6.same s7
                have ht7 := ht6.same s7
                have hL7 := hd6.kx (SPE.kx_of s7)
                have k07 := k06.trans (SPE.kx_of s7)
                generalize p' = pq at ht7 ⊢
                clear ht6 hd6 hd5 hp6 hp5 k5 k6 k06 hh5 hh6 hn7 s7
                walk_at "rds"
                refine RD.cat (hs _ _ hp7) hv (RD.szo (by show _ + 2 ≤ _; omega)) fun pc H8 hpc sc hvc => ?_
                have hx8 : SPE.KX x H7 H8 := (SPE.kx_of hs).trans (SPE.kx_of sc)
                walk_at "rds"
                exact ⟨pc, _, rfl, k07.trans hx8, (hh7.same hs).same sc, hand_ne hpc (hh7.same hs), hvc, SPE.DqA.app (hL7.kx hx8) (.cons (ht7.kx hx8) (.cons (hd7.kx hx8) .nil)), by rw [List.length_append]; show _ + 2 ≤ _; omega, by rw [List.length_append]; omega⟩
              · rintro σ' H5 ⟨p0, L, rfl, k5, hh5, o5, hp5, hd5, hl5, hl1⟩
                walk_at "rds"
                refine spSome.mk (E := E0) hh5 (.lst o5 (.inl (.inl hp5))) hl1 (by omega) fun w0 H6 hm k6 hh6 => ?_
                exact q w0 H6 (k5.trans k6) hh6 ((hd5.mem w0 hm).kx k6)
end


end K11

namespace K11
open PySem PySem.Spec PyProof.Rows L2
local macro_rules | `(tactic| walk_at "kd") => `(tactic| first | assumption | exact SPD.KdOf.int _ | exact SPD.KdOf.str _ | exact SPD.KdOf.bl _ | exact SPD.KdOf.non | exact SPD.KdOf.same (by assumption) (by walk_at "kd") | exact SPD.KdOf.tup (by walk_at "hp") | exact SPD.KdOf.lst (by walk_at "hp") | fail "no")
local macro_rules | `(tactic| walk_at "ne") => `(tactic| first | assumption | exact Ne.symm (by assumption) | fail "no")
local macro_rules | `(tactic| walk_at "hp") => `(tactic| first | assumption | exact RD.at_same (by assumption) (by walk_at "hp") | exact RD.at_kb (by assumption) (by walk_at "ne") (by walk_at "hp") | fail "no")
local macro_rules | `(tactic| walk_at "sq") => `(tactic| first | assumption | exact Or.inl (Or.inl (by walk_at "hp")) | exact Same.seq (by assumption) (by walk_at "sq") | exact RD.KB.seq (by assumption) (by walk_at "ne") (by walk_at "sq") | fail "no")
local macro_rules | `(tactic| walk_at "st") => `(tactic| first | assumption | exact Or.inl (Or.inl (by walk_at "hp")) | exact RD.Same.tup (by assumption) (by walk_at "st") | exact RD.KB.tup (by assumption) (by walk_at "ne") (by walk_at "st") | fail "no")
local macro_rules | `(tactic| walk_at "rd") => `(tactic| first
  | with_reducible refine RD.c ?_
  | ((with_reducible refine' RD.var ?rdE ?rdK); (case rdE => exact rfl))
  | with_reducible refine RD.op ?_
  | with_reducible refine RD.un ?_
  | with_reducible refine RD.nil ?_
  | with_reducible refine RD.cons ?_
  | with_reducible refine RD.cb ?_
  | with_reducible refine RD.call ?_
  | with_reducible refine RD.test ?_
  | with_reducible refine RD.tb' ?_
  | with_reducible refine RD.bl ?_
  | with_reducible refine RD.and' ?_
  | with_reducible refine RD.or' ?_
  | with_reducible refine RD.not' ?_
  | with_reducible refine RD.andV ?_
  | with_reducible refine RD.orV ?_
  | with_reducible refine RD.notV ?_
  | with_reducible refine RD.ife ?_
  | with_reducible refine RD.sl ?_
  | with_reducible refine RD.part ?_
  | with_reducible refine RD.noPart ?_
  | with_reducible refine RD.partI ?_
  | with_reducible refine RD.rd0 ?_
  | with_reducible refine RD.rdU ?_
  | ((with_reducible refine' RD.rdEq ?rdE ?rdK); (case rdE => rfl))
  | ((with_reducible refine' RD.rdNe ?rdE ?rdK); (case rdE => rfl))
  | ((with_reducible refine' RD.ixL ?rdH ?rdE ?rdK); (case rdH => walk_at "sq"); (case rdE => first | rfl | assumption))
  | ((with_reducible refine' RD.rdI ?rdC ?rdK); (case rdC => first | assumption | (show (0 : Int) < _; first | decide | omega) | exact ⟨by decide, by decide⟩ | exact ⟨by assumption, by assumption⟩ | exact .inr ⟨by decide, by decide⟩ | exact .inl ⟨by decide, by decide⟩ | exact ⟨by decide, by decide, by decide⟩ | exact .inl ⟨by omega, by omega⟩))
  | ((with_reducible refine' RD.setL ?rdH ?rdE ?rdK); (case rdH => walk_at "hp"); (case rdE => rfl); intro $(Lean.mkIdent `H'):ident $(Lean.mkIdent `hk):ident $(Lean.mkIdent `hv):ident)
  | ((with_reducible refine' RD.irng1V ?rdA ?rdB ?rdK); (case rdA => first | decide | omega); (case rdB => first | decide | omega))
  | with_reducible refine RD.int1 ?_
  | with_reducible refine RD.abs1 ?_
  | ((with_reducible refine' RD.len ?rdH ?rdK); (case rdH => first | exact Or.inl (by walk_at "sq") | exact Or.inr (by walk_at "st")))
  | with_reducible refine RD.tup ?_
  | with_reducible refine RD.lst ?_
  | with_reducible refine RD.ite1 ?_
  | with_reducible refine RD.ite0 ?_
  | with_reducible refine RD.ite1n ?_
  | with_reducible refine RD.ite0n ?_
  | with_reducible refine RD.seq ?_
  | with_reducible refine RD.asg ?_
  | with_reducible refine RD.name ?_
  | with_reducible refine RD.ret ?_
  | with_reducible refine RD.drop ?_
  | with_reducible refine RD.next ?_
  | with_reducible refine RD.ifs ?_
  | with_reducible refine RD.par ?_
  | with_reducible refine RD.par2 ?_
  | with_reducible refine RD.sub ?_
  | with_reducible refine RD.gcons ?_
  | with_reducible refine RD.gnil ?_
  | with_reducible refine RD.bm ?_
  | ((with_reducible refine' RD.bmL ?rdH ?rdK); (case rdH => walk_at "sq"))
  | ((with_reducible refine' RD.newZ ?rdH ?rdK); (case rdH => exact RD.sz _); intro $(Lean.mkIdent `p'):ident $(Lean.mkIdent `H'):ident $(Lean.mkIdent `hp):ident $(Lean.mkIdent `hs):ident $(Lean.mkIdent `hv):ident; (try have $(Lean.mkIdent `hn):ident := hand_ne $(Lean.mkIdent `hp):ident (by walk_at "hk")))
  | with_reducible refine RD.fors ?_
  | with_reducible refine RD.lc ?_
  | with_reducible refine RD.yes ?_
  | with_reducible refine RD.ilist ?_
  | ((with_reducible refine' RD.ilistV ?rdH ?rdK); (case rdH => walk_at "sq"))
  | with_reducible refine RD.itup ?_
  | ((with_reducible refine' RD.itupV ?rdH ?rdK); (case rdH => walk_at "st"))
  | with_reducible refine RD.irng1 ?_
  | with_reducible refine RD.irng2 ?_
  | ((with_reducible refine' RD.irng2V ?rdA ?rdK); (case rdA => first | decide | omega))
  | with_reducible refine RD.ienum ?_
  | ((with_reducible refine' RD.ienumV ?rdH ?rdK); (case rdH => walk_at "sq"))
  | with_reducible refine RD.izip ?_
  | ((with_reducible refine' RD.izipV ?rdH ?rdE ?rdK); (case rdH => walk_at "sq"); (case rdE => walk_at "sq"))
  | with_reducible refine SPD.izipA ?_
  | with_reducible refine RD.istr ?_
  | with_reducible refine RD.istrV ?_
  | ((with_reducible refine' RD.slL ?rdH ?rdK); (case rdH => walk_at "sq"); intro $(Lean.mkIdent `p'):ident $(Lean.mkIdent `H'):ident $(Lean.mkIdent `hp):ident $(Lean.mkIdent `hs):ident $(Lean.mkIdent `hv):ident; (try have $(Lean.mkIdent `hn):ident := hand_ne $(Lean.mkIdent `hp):ident (by walk_at "hk")))
  | ((with_reducible refine' RD.cat ?rdH ?rdE ?rdZ ?rdK); (case rdH => walk_at "hp"); (case rdE => walk_at "hp"); (case rdZ => exact RD.sz _); intro $(Lean.mkIdent `p'):ident $(Lean.mkIdent `H'):ident $(Lean.mkIdent `hp):ident $(Lean.mkIdent `hs):ident $(Lean.mkIdent `hv):ident; (try have $(Lean.mkIdent `hn):ident := hand_ne $(Lean.mkIdent `hp):ident (by walk_at "hk")))
  | ((with_reducible refine' RD.gtup ?rdH ?rdE ?rdK); (case rdH => walk_at "st"); (case rdE => rfl))
  | ((with_reducible refine' RD.app ?rdH ?rdZ ?rdK); (case rdH => walk_at "hp"); (case rdZ => first | assumption | (apply RD.szl; omega)); intro $(Lean.mkIdent `H'):ident $(Lean.mkIdent `hk):ident $(Lean.mkIdent `hv):ident)
  | ((with_reducible refine' RD.all1 ?rdH ?rdK); (case rdH => walk_at "sq"))
  | ((with_reducible refine' RD.any1 ?rdH ?rdK); (case rdH => walk_at "sq"))
  | ((with_reducible refine' SPD.dnew ?rdK); intro $(Lean.mkIdent `p'):ident $(Lean.mkIdent `H'):ident $(Lean.mkIdent `hp):ident $(Lean.mkIdent `hs):ident $(Lean.mkIdent `hv):ident; (try have $(Lean.mkIdent `hn):ident := hand_ne $(Lean.mkIdent `hp):ident (by walk_at "hk")))
  | ((with_reducible refine' SPD.disp1 ?rdK); intro $(Lean.mkIdent `p'):ident $(Lean.mkIdent `H'):ident $(Lean.mkIdent `hp):ident $(Lean.mkIdent `hs):ident $(Lean.mkIdent `hv):ident; (try have $(Lean.mkIdent `hn):ident := hand_ne $(Lean.mkIdent `hp):ident (by walk_at "hk")))
  | ((with_reducible refine' SPD.isSeq ?rdH ?rdE ?rdK); (case rdH => walk_at "hp"); (case rdE => walk_at "kd"))
  | ((with_reducible refine' SPD.isTup ?rdE ?rdK); (case rdE => walk_at "kd"))
  | ((with_reducible refine' SPD.isLst ?rdE ?rdK); (case rdE => walk_at "kd"))
  | ((with_reducible refine' SPD.isBool ?rdE ?rdK); (case rdE => walk_at "kd"))
  | ((with_reducible refine' SPD.isStr ?rdE ?rdK); (case rdE => walk_at "kd"))
  | ((with_reducible refine' SPD.isInt ?rdE ?rdK); (case rdE => walk_at "kd"))
  | dsimp only)
local macro_rules | `(tactic| walk_at "rds") => `(tactic| repeat walk_at "rd")
local macro_rules | `(tactic| walk_at "sm") => `(tactic| first | assumption | exact Same.refl _ | exact RD.sm_tr (by assumption) (by walk_at "sm") | fail "no")
local macro_rules | `(tactic| walk_at "kb") => `(tactic| first | assumption | exact RD.KB.refl | exact RD.kb_tr (by assumption) (by walk_at "kb") | exact RD.kb_trs (by assumption) (by walk_at "kb") | fail "no")
local macro_rules | `(tactic| walk_at "fr") => `(tactic| first | assumption | exact RD.fr_of (by assumption) (by walk_at "sm") | fail "no")
local macro_rules | `(tactic| walk_at "hk") => `(tactic| first | assumption | exact hand_same (by assumption) (by walk_at "hk") | exact hand_kb (by assumption) (by walk_at "fr") (by walk_at "hk") | fail "no")
local macro_rules | `(tactic| walk_at "na") => `(tactic| first | assumption | exact hand_ne (by assumption) (by walk_at "hk") | fail "no")
local macro_rules | `(tactic| walk_at "dqa") => `(tactic| first | exact SPD.DqA.nil | exact SPD.DqA.cons (by walk_at "dq") (by walk_at "dqa") | exact SPD.DqA.app (by walk_at "dqa") (by walk_at "dqa") | fail "no")
local macro_rules | `(tactic| walk_at "dq") => `(tactic| first | assumption | exact SPD.Dq.leaf rfl | exact SPD.dq_kb (by assumption) (by walk_at "kb") | exact SPD.dqTup (by walk_at "hp") (by walk_at "na") (by walk_at "dqa") | exact SPD.dqLst (by walk_at "hp") (by walk_at "na") (by walk_at "dqa") | exact SPD.dqNil (by walk_at "hp") (by walk_at "na") (by first | decide | simp) (by first | decide | simp) | fail "no")

local macro_rules | `(tactic| walk_at "rd") => `(tactic| first
  | with_reducible refine RB.chain ?_
  | with_reducible refine RB.m1 ?_
  | with_reducible refine RB.strE ?_
  | with_reducible refine RB.fld ?_
  | with_reducible refine RB.setF ?_
  | with_reducible refine RB.ss ?_
  | with_reducible refine RB.rev ?_
  | with_reducible refine RB.make ?_
  | with_reducible refine RB.makeS ?_
  | with_reducible refine RB.mkO ?_
  | with_reducible refine NR.ienumT ?_
  | with_reducible refine RB.inS ?_
  | with_reducible refine RB.bmS ?_
  | with_reducible refine RB.callS ?_
  | with_reducible refine RB.sw3 ?_
  | with_reducible refine RB.par3 ?_
  | with_reducible refine RB.par3V ?_
  | ((with_reducible refine' RB.slS ?rdH ?rdK); (case rdH => walk_at "sz"))
  | with_reducible refine RB.xf ?_
  | ((with_reducible refine' RB.xfV ?rdH ?rdE ?rdK); (case rdH => walk_at "hp"); (case rdE => rfl))
  | ((with_reducible refine' NR.ienumTV ?rdH ?rdK); (case rdH => walk_at "st"))
  | ((with_reducible refine' RB.lenL ?rdH ?rdK); (case rdH => walk_at "sq"))
  | ((with_reducible refine' RB.lenT ?rdH ?rdK); (case rdH => walk_at "st"))
  | ((with_reducible refine' RB.lenS ?rdH ?rdK); (case rdH => walk_at "sz"))
  | ((with_reducible refine' RD.lenS ?rdH ?rdK); (case rdH => walk_at "sz"))
  | ((with_reducible refine' RB.slT ?rdH ?rdK); (case rdH => walk_at "hp"); intro $(Lean.mkIdent `p'):ident $(Lean.mkIdent `H'):ident $(Lean.mkIdent `hs):ident $(Lean.mkIdent `hv):ident $(Lean.mkIdent `hp):ident; (try have $(Lean.mkIdent `hn):ident := two_ne $(Lean.mkIdent `hp):ident (by walk_at "na") (by walk_at "hk")))
  | ((with_reducible refine' RB.revV ?rdH ?rdK); (case rdH => walk_at "st"); intro $(Lean.mkIdent `p'):ident $(Lean.mkIdent `H'):ident $(Lean.mkIdent `hp):ident $(Lean.mkIdent `hs):ident $(Lean.mkIdent `hv):ident; (try have $(Lean.mkIdent `hn):ident := hand_ne $(Lean.mkIdent `hp):ident (by walk_at "hk")))
  | ((with_reducible refine' RB.listS ?rdH ?rdK); (case rdH => walk_at "sz"); intro $(Lean.mkIdent `p'):ident $(Lean.mkIdent `H'):ident $(Lean.mkIdent `hp):ident $(Lean.mkIdent `hs):ident $(Lean.mkIdent `hv):ident; (try have $(Lean.mkIdent `hn):ident := hand_ne $(Lean.mkIdent `hp):ident (by walk_at "hk")))
  | ((with_reducible refine' RB.listO ?rdH ?rdK); (case rdH => first | exact Or.inl (by walk_at "sq") | exact Or.inr (by walk_at "st")); intro $(Lean.mkIdent `p'):ident $(Lean.mkIdent `H'):ident $(Lean.mkIdent `hp):ident $(Lean.mkIdent `hs):ident $(Lean.mkIdent `hv):ident; (try have $(Lean.mkIdent `hn):ident := hand_ne $(Lean.mkIdent `hp):ident (by walk_at "hk")))
  | ((with_reducible refine' RB.tupL ?rdH ?rdK); (case rdH => walk_at "sq"); intro $(Lean.mkIdent `p'):ident $(Lean.mkIdent `H'):ident $(Lean.mkIdent `hp):ident $(Lean.mkIdent `hs):ident $(Lean.mkIdent `hv):ident; (try have $(Lean.mkIdent `hn):ident := hand_ne $(Lean.mkIdent `hp):ident (by walk_at "hk")))
  | ((with_reducible refine' RB.catT ?rdH ?rdE ?rdZ ?rdK); (case rdH => walk_at "hp"); (case rdE => walk_at "hp"); (case rdZ => exact RB.LN.sum (by walk_at "ln") (by walk_at "ln") rfl); intro $(Lean.mkIdent `p'):ident $(Lean.mkIdent `H'):ident $(Lean.mkIdent `hs):ident $(Lean.mkIdent `hv):ident $(Lean.mkIdent `hp):ident; (try have $(Lean.mkIdent `hn):ident := three_ne $(Lean.mkIdent `hp):ident (by walk_at "na") (by walk_at "na") (by walk_at "hk")))
  | fail "no")
local macro_rules | `(tactic| walk_at "ln") => `(tactic| first | with_reducible assumption | exact RB.LN.cut (by walk_at "ln") | exact RB.LN.app (by walk_at "ln") (by walk_at "ln") | exact RB.LN.rev (by walk_at "ln") | exact RB.LN.rep (by walk_at "ln") | exact RB.LN.lit rfl | fail "no")
local macro_rules | `(tactic| walk_at "sz") => `(tactic| first | assumption | exact RD.sz _ | fail "no")

local macro_rules | `(tactic| walk_at "hp") => `(tactic| first | assumption | exact RD.at_same (by assumption) (by walk_at "hp") | exact SPE.at_kx (by assumption) (by walk_at "na") (by walk_at "hp") | exact RD.at_kb (by assumption) (by walk_at "ne") (by walk_at "hp") | fail "no")
local macro_rules | `(tactic| walk_at "sq") => `(tactic| first | assumption | exact Or.inl (Or.inl (by walk_at "hp")) | exact Same.seq (by assumption) (by walk_at "sq") | exact SPE.KX.seq (by assumption) (by walk_at "na") (by walk_at "sq") | exact RD.KB.seq (by assumption) (by walk_at "ne") (by walk_at "sq") | fail "no")
local macro_rules | `(tactic| walk_at "st") => `(tactic| first | assumption | exact Or.inl (Or.inl (by walk_at "hp")) | exact RD.Same.tup (by assumption) (by walk_at "st") | exact SPE.KX.tup (by assumption) (by walk_at "na") (by walk_at "st") | exact RD.KB.tup (by assumption) (by walk_at "ne") (by walk_at "st") | fail "no")
local macro_rules | `(tactic| walk_at "kx") => `(tactic| first | assumption | exact SPE.KX.refl | exact SPE.kx_tr (by assumption) (by walk_at "kx") | exact SPE.kx_trs (by assumption) (by walk_at "kx") | fail "no")
local macro_rules | `(tactic| walk_at "dqa") => `(tactic| first | exact SPE.DqA.nil | exact SPE.DqA.cons (by walk_at "dq") (by walk_at "dqa") | exact SPE.DqA.app (by walk_at "dqa") (by walk_at "dqa") | fail "no")
local macro_rules | `(tactic| walk_at "dq") => `(tactic| first | assumption | exact SPE.Dq.leaf rfl | exact SPE.dq_kx (by assumption) (by walk_at "kx") | exact SPE.dqTup (by walk_at "hp") (by walk_at "na") (by walk_at "dqa") | exact SPE.dqLst (by walk_at "hp") (by walk_at "na") (by walk_at "dqa") | exact SPE.dqNil (by walk_at "hp") (by walk_at "na") (by first | decide | simp) (by first | decide | simp) | fail "no")
local macro_rules | `(tactic| walk_at "dqx") => `(tactic| first | exact $(Lean.mkIdent `hdb):ident _ (by walk_at "kx") | exact SPE.DqA.cons (SPE.dq_kx (by assumption) (by walk_at "kx")) SPE.DqA.nil | exact SPE.DqA.cons (SPE.Dq.leaf rfl) SPE.DqA.nil | exact SPE.DqA.nil | (with_reducible refine SPE.dqa_cut ?_; walk_at "dqx") | (with_reducible refine SPE.dqa_rev ?_; walk_at "dqx") | (with_reducible refine SPE.DqA.app ?_ ?_ <;> walk_at "dqx") | fail "no")
local macro_rules | `(tactic| walk_at "dqz") => `(tactic| first | exact SPE.dqTupN (by walk_at "hp") (by walk_at "na") (by walk_at "dqx") (by walk_at "ln") rfl | exact SPE.dqLstN (by walk_at "hp") (by walk_at "na") (by walk_at "dqx") (by walk_at "ln") rfl | fail "no")
local macro_rules | `(tactic| walk_at "rd") => `(tactic| first
  | with_reducible refine SPE.revs ?_
  | ((with_reducible refine' SPE.revsV ?rdH ?rdK); (case rdH => walk_at "sz"))
  | ((with_reducible refine' SPE.sum1 ?rdH ?rdK); (case rdH => walk_at "sq"))
  | fail "no")

local macro_rules | `(tactic| walk_at "rd") => `(tactic| first
  | ((with_reducible refine' RB.listO ?rdH ?rdK); (case rdH => exact Or.inr (by walk_at "st")); intro $(Lean.mkIdent `p'):ident $(Lean.mkIdent `H'):ident $(Lean.mkIdent `hp):ident $(Lean.mkIdent `hs):ident $(Lean.mkIdent `hv):ident; (try have $(Lean.mkIdent `hn):ident := hand_ne $(Lean.mkIdent `hp):ident (by walk_at "hk")))
  | fail "no")

local macro_rules | `(tactic| walk_at "dk") => `(tactic| first | exact FR.rd_of (by walk_at "hp") | exact Or.inr ⟨_, by walk_at "hp"⟩ | fail "no")
local macro_rules | `(tactic| walk_at "rd") => `(tactic| first
  | with_reducible refine FR.dget ?_
  | with_reducible refine FR.din ?_
  | with_reducible refine FR.dnotin ?_
  | with_reducible refine FR.dc ?_
  | with_reducible refine FR.ikeys ?_
  | with_reducible refine FR.ivals ?_
  | with_reducible refine FR.bm0 ?_
  | ((with_reducible refine' FR.dinS ?rdH ?rdK); (case rdH => walk_at "dk"))
  | ((with_reducible refine' FR.keysV ?rdH ?rdK); (case rdH => walk_at "hp"))
  | ((with_reducible refine' FR.valsV ?rdH ?rdK); (case rdH => walk_at "hp"))
  | ((with_reducible refine' FR.bmD ?rdH ?rdK); (case rdH => walk_at "hp"))
  | with_reducible refine FR.ckw ?_
  | ((with_reducible refine' FR.lenD ?rdH ?rdK); (case rdH => walk_at "hp"))
  | fail "no")

/-! ### the law -/
def spLaw (K : PySem.W.Frag) : Sp := fun vs H Q _ => ∃ (a : Addr) (ns : List Int), vs = [.ref a] ∧ SqL K H a (ns.map V.int) ∧ ns.length ≤ 63 ∧ ∀ H', Q (.bl true) H'
theorem th_of {K : PySem.W.Frag} {x : SPE.AX} {H : Hp} {n : Nat} {v : V} (h : SPE.Dq x H n v) : ∃ o, Th K H v o := by
  have str : ∀ {n : Nat} {y : V}, SPE.Dq x H n y → ∀ z, y = .str z → z.cps.size ≤ 100000 := fun {n y} hd z e => by
    subst e
    cases hd with
    | leaf e => exact Nat.le_of_ble_eq_true e
  obtain ⟨k, hk⟩ := h.kd (K := K)
  cases hk with
  | @tup a xs ha =>
    by_cases hl : xs.length = 2
    · match xs, hl with
      | [y, z], _ =>
        cases h with
        | leaf e => cases e
        | dct _ e _ _ => rw [ha] at e; cases e
        | lst _ e _ _ => rw [ha] at e; cases e
        | tup _ e _ hm =>
          rw [ha] at e
          cases e
          have hy := hm y (by simp)
          have hz := hm z (by simp)
          obtain ⟨j, hj⟩ := hy.kd (K := K)
          obtain ⟨l, hl⟩ := hz.kd (K := K)
          exact ⟨_, .two ha hj hl (str hy) (str hz)⟩
    · exact ⟨_, .len ha hl⟩
  | non => exact ⟨_, .kind .non (fun z => nomatch z)⟩
  | bl b => exact ⟨_, .kind (.bl b) (fun z => nomatch z)⟩
  | int i => exact ⟨_, .kind (.int i) (fun z => nomatch z)⟩
  | str z => exact ⟨_, .kind (.str z) (fun z => nomatch z)⟩
  | dct e => exact ⟨_, .kind (.dct e) (fun z => nomatch z)⟩
  | lst e => exact ⟨_, .kind (.lst e) (fun z => nomatch z)⟩
theorem kx_tup {x : SPE.AX} {H1 H2 : Hp} (k : SPE.KX x H1 H2) (hh : BagOk H1 x) {a : Addr} {xs : List V} (e : H1 a = some (.tup xs)) : H2 a = some (.tup xs) := k a _ (hh.tupOff e) e
/-- what was told -/
def Told (zs : List Str) (H : Hp) (tv : V) : Prop := tv = .non ∨ ∃ p u v, tv = .ref p ∧ H p = some (.tup [.str u, .str v]) ∧ EndlessOk zs u v
structure LW (C : Addr) (x : SPE.AX) (t b : Addr) (zs : List Str) (tv : V) (H : Hp) : Prop where
  bag : BagOk H x
  at_ : H t = some (.tup (zs.map V.str))
  book : BookAt H C b t
  good : Good zs
  told : Told zs H tv
theorem LW.same {C : Addr} {x : SPE.AX} {t b : Addr} {zs : List Str} {tv : V} {H H' : Hp} (s : Same H H') (h : LW C x t b zs tv H) : LW C x t b zs tv H' :=
  ⟨h.bag.same s, s _ _ h.at_, h.book.same s, h.good, h.told.imp_right fun ⟨p, u, v, e, hp, g⟩ => ⟨p, u, v, e, s _ _ hp, g⟩⟩
theorem LW.kx {C : Addr} {x : SPE.AX} {t b : Addr} {zs : List Str} {tv : V} {H H' : Hp} (k : SPE.KX x H H') (hh : BagOk H' x) (h : LW C x t b zs tv H) : LW C x t b zs tv H' := by
  obtain ⟨dx, hb⟩ := h.book
  exact ⟨hh, kx_tup k h.bag h.at_, ⟨dx, k _ _ (h.bag.insOff hb) hb⟩, h.good, h.told.imp_right fun ⟨p, u, v, e, hp, g⟩ => ⟨p, u, v, e, kx_tup k h.bag hp, g⟩⟩
theorem LW.bk {C : Addr} {x : SPE.AX} {t b : Addr} {zs : List Str} {tv : V} {H : Hp} (h : LW C x t b zs tv H) : BK C H b zs := ⟨⟨t, h.book, h.at_⟩, h.good⟩
def PairAt (H : Hp) (w : V) : Prop := ∃ p u v, w = .ref p ∧ H p = some (.tup [.str u, .str v]) ∧ SZ 200 u ∧ SZ 200 v
theorem PairAt.kx {x : SPE.AX} {H H' : Hp} {w : V} (k : SPE.KX x H H') (hh : BagOk H x) (h : PairAt H w) : PairAt H' w := by
  obtain ⟨p, u, v, e, hp, hu, hv⟩ := h
  exact ⟨p, u, v, e, kx_tup k hh hp, hu, hv⟩
theorem PairAt.kb {D : Addr} {H H' : Hp} {w : V} {l : List V} (k : RD.KB D H H') (hD : H D = some (.lst l)) (h : PairAt H w) : PairAt H' w := by
  obtain ⟨p, u, v, e, hp, hu, hv⟩ := h
  exact ⟨p, u, v, e, k _ _ (fun z => by rw [z, hD] at hp; cases hp) hp, hu, hv⟩
theorem PairAt.same {H H' : Hp} {w : V} (s : Same H H') (h : PairAt H w) : PairAt H' w := by
  obtain ⟨p, u, v, e, hp, hu, hv⟩ := h
  exact ⟨p, u, v, e, s _ _ hp, hu, hv⟩
theorem PairAt.dq {x : SPE.AX} {H : Hp} {w : V} (hh : BagOk H x) (h : PairAt H w) : SPE.Dq x H 42 w := by
  obtain ⟨p, u, v, rfl, hp, hu, hv⟩ := h
  exact SPE.dqTup (n := 41) hp (hh.tupOff hp) (.cons (SZ.dq hu rfl) (.cons (SZ.dq hv rfl) .nil))
theorem endless_judged {zs : List Str} {u v : Str} (h : EndlessOk zs u v) : judged zs (some (u, v)) = true := by
  show (ownV zs (.str u) && ownV zs (.str v) && (decide (0 < v.cps.size) && longB zs u v)) = true
  rw [Bool.and_eq_true, Bool.and_eq_true, Bool.and_eq_true]
  refine ⟨⟨List.all_eq_true.mpr fun c hc => decide_eq_true (h.own c (List.mem_append_left _ hc)), List.all_eq_true.mpr fun c hc => decide_eq_true (h.own c (List.mem_append_right _ hc))⟩, decide_eq_true h.pos, ?_⟩
  unfold longB
  rw [freeD_iff]
  exact h.free _
theorem dq_pieces {x : Addr} {H : Hp} {t : Addr} {zs : List Str} (g : Good zs) (ht : H t = some (.tup (zs.map V.str))) (ne : t ≠ x) : SPD.Dq x H 1 (.ref t) :=
  RB.dqTupN (n := 0) (m := 12) ht ne (RB.dqa_strs fun z hz => by have := (piece_size (g.piece z hz)).2; omega) (by show (zs.map V.str).length ≤ 12; rw [List.length_map]; exact g.few) rfl
section
variable {P : Program} {w : World} {K : PySem.W.Frag} {mg : Str → Option Value} {base : Heap}
theorem ok_law (T : Txt P K mg) : FnOk P w K mg base CX0 31 T.a_law T.fd_law ["_law_script"] (spLaw K) := by
  have nd := sc_law.nd
  have G_bag : FnOk P w K mg base CX0 30 T.a_bag T.fd_bag ["_law_script"] (spBag K) := (ok_bag T).mono (by decide)
  have G_pick : FnOk P w K mg base CX0 30 T.a_pick T.fd_pick ["_law_bag_here", "_law_many"] spPick := (ok_pick T).mono (by decide)
  have G_full : FnOk P w K mg base CX0 30 T.a_full T.fd_full ["_law_bag_here"] spDrawn := (ok_full T).mono (by decide)
  have G_scant : FnOk P w K mg base CX0 30 T.a_scant T.fd_scant ["_law_bag_here"] spDrawn := (ok_scant T).mono (by decide)
  have G_own : FnOk P w K mg base CX0 30 T.a_own T.fd_own ["_law_pieces"] spOwn := (ok_own T).mono (by decide)
  have G_endless : FnOk P w K mg base CX0 30 T.a_endless T.fd_endless ["book"] (spEndless T.C_Book) := (ok_endless T).mono (by decide)
  have G_text : FnOk P w K mg base CX0 30 T.a_text T.fd_text ["_law_bag_here", "_law_own_here", "_law_most"] spText := (ok_text T).mono (by decide)
  have G_bent : FnOk P w K mg base CX0 30 T.a_bent T.fd_bent ["_law_bag_here", "_law_pieces", "_law_pair"] spBent := (ok_bent T).mono (by decide)
  have G_flag : FnOk P w K mg base CX0 30 T.a_flag T.fd_flag ["_law_told", "_law_due"] spFlag := (ok_flag T).mono (by decide)
  have G_is_endless : FnOk P w K mg base CX0 30 T.a_is_endless T.fd_is_endless ["book", "thing"] (spIsEndless K T.C_Book) := (ok_is_endless T).mono (by decide)
  have G_is_pair : FnOk P w K mg base CX0 30 T.a_is_pair T.fd_is_pair ["_law_pieces", "_law_thing"] (spIsPair K) := (ok_is_pair T).mono (by decide)
  have G_Book_init : FnOk P w K mg base (L2.CX P w) 29 T.a_Book_init T.fd_Book_init ["self", "pieces"] (spBook K T.C_Book T.C_BadBook) := (ok_Book_init T).mono (by decide)
  refine T.F_law.ok sc_law (fun vs H Q E h => ?_) (fun cdv A outer s H vs Q E hr h => ?_)
  · obtain ⟨a, ns, rfl, _⟩ := h
    rfl
  · obtain ⟨s0, ns, rfl, hS, hl, q⟩ := h
    refine ⟨_, (pss_cons (ps_set (i := 1) nd rfl (by first | exact Or.inl rfl | exact Or.inr rfl) (pe_call G_bag hr (by rfl) T.g_bag T.F_bag.kp T.b_bag .nil pass0 (pa_cons (pv 0) pa_nil)))
  (pss_cons (ps_for PassesOwn.never rfl (pi_range1 (by rfl) T.m_range (pa_cons pe_int pa_nil)) (pg_name (i := 2) nd rfl (by first | exact Or.inl rfl | exact Or.inr rfl))
    (Evl.pss_cut (ps_set (i := 3) nd rfl (by first | exact Or.inl rfl | exact Or.inr rfl) (pe_ifExp (pt_cmpR op_eq (pe_call G_pick hr (by rfl) T.g_pick T.F_pick.kp T.b_pick .nil pass0 (pa_cons (pv 1) (pa_cons pe_int pa_nil))) pe_int (nomark _)) (pe_call G_full hr (by rfl) T.g_full T.F_full.kp T.b_full .nil pass0 (pa_cons (pv 1) pa_nil)) (pe_call G_scant hr (by rfl) T.g_scant T.F_scant.kp T.b_scant .nil pass0 (pa_cons (pv 1) pa_nil))))
  (pss_cons (ps_asg (pe_tup (pa_cons (pe_make T.M_Book G_Book_init hr (by rfl) T.g_Book T.b_Book_init .nil NR.passN (pa_cons (pv 3) pa_nil)) (pa_cons (pe_call G_own hr (by rfl) T.g_own T.F_own.kp T.b_own .nil pass0 (pa_cons (pv 3) pa_nil)) pa_nil))) (pg_tup rfl (pgs_cons (pg_name (i := 4) nd rfl (by first | exact Or.inl rfl | exact Or.inr rfl)) (pgs_cons (pg_name (i := 5) nd rfl (by first | exact Or.inl rfl | exact Or.inr rfl)) pgs_nil))))
  (Evl.pss_cut (ps_set (i := 6) nd rfl (by first | exact Or.inl rfl | exact Or.inr rfl) (pe_call G_endless hr (by rfl) T.g_endless T.F_endless.kp T.b_endless .nil pass0 (pa_cons (pv 4) pa_nil)))
  (pss_cons (ps_setLc (i := 7) (own := [("_law_again", 10)]) (g := (gName 10)) rfl nd rfl rfl (sw_true rfl rfl rfl (by decide +kernel)) (pi_range1 (by rfl) T.m_range (pa_cons pe_int pa_nil)) (blkOk_by (own := [("_law_again", 10)]) (N := N_law) (sc := defScope s_law) (by decide +kernel)) (fun _ _ _ _ _ => (pg_name (i := 10) nd rfl (Or.inl rfl))) (fun _ _ _ _ _ => pts_nil) (fun _ _ _ _ _ => (pe_tup (pa_cons (pe_call G_text hr (by rfl) T.g_text T.F_text.kp T.b_text .nil pass0 (pa_cons (pv 1) (pa_cons (pv 5) (pa_cons pe_int pa_nil)))) (pa_cons (pe_call G_text hr (by rfl) T.g_text T.F_text.kp T.b_text .nil pass0 (pa_cons (pv 1) (pa_cons (pv 5) (pa_cons pe_int pa_nil)))) pa_nil)))))
  (Evl.pss_cut (ps_if (pt_cmpR op_notN (pv 6) pe_non (nomark _))
    (pss_one (ps_set (i := 7) nd rfl (by first | exact Or.inl rfl | exact Or.inr rfl) (pe_op op_cat (pv 7) (pe_op op_rep (pe_lst (pa_cons (pv 6) pa_nil)) pe_int))))
    pss_nil)
  (pss_cons (ps_for PassesOwn.never rfl (pi_list (pv 7)) (pg_name (i := 8) nd rfl (by first | exact Or.inl rfl | exact Or.inr rfl))
    (pss_one (ps_for PassesOwn.never rfl (pi_list (pe_lst (pa_cons (pv 8) (pa_cons (pe_call G_bent hr (by rfl) T.g_bent T.F_bent.kp T.b_bent .nil pass0 (pa_cons (pv 1) (pa_cons (pv 3) (pa_cons (pv 8) pa_nil)))) pa_nil)))) (pg_name (i := 9) nd rfl (by first | exact Or.inl rfl | exact Or.inr rfl))
    (pss_one (ps_if (pt_not (pt_val (pe_call G_flag hr (by rfl) T.g_flag T.F_flag.kp T.b_flag .nil pass0 (pa_cons (pe_call G_is_endless hr (by rfl) T.g_is_endless T.F_is_endless.kp T.b_is_endless .nil pass0 (pa_cons (pv 4) (pa_cons (pv 9) pa_nil))) (pa_cons (pe_call G_is_pair hr (by rfl) T.g_is_pair T.F_is_pair.kp T.b_is_pair .nil pass0 (pa_cons (pv 3) (pa_cons (pv 9) pa_nil))) pa_nil)))))
    (pss_one (ps_ret pe_bl))
    pss_nil)))))
  (pss_one (ps_if (PW.pt (pw_and (pt_cmpR op_notN (pv 6) pe_non (nomark _)) (pw_and1 (pt_not (pt_val (pe_call G_is_pair hr (by rfl) T.g_is_pair T.F_is_pair.kp T.b_is_pair .nil pass0 (pa_cons (pv 3) (pa_cons (pv 6) pa_nil))))))))
    (pss_one (ps_ret pe_bl))
    pss_nil)))))))))
  (pss_one (ps_ret pe_bl)))), ?_⟩
    walk_at "rds"
    refine ⟨s0, ns, rfl, hS, hl, fun x H1 s1 ha hh1 => ?_⟩
    walk_at "rds"
    refine RD.forW (walk_range (lo := 0) (n := Int.toNat 3)) (fun i σ H' => ∃ x2 x3 x4 x5 x6 x7 x8 x9 x10, σ = [some (.ref s0), some (.ref x.1), x2, x3, x4, x5, x6, x7, x8, x9, x10] ∧ BagOk H' x) ⟨_, _, _, _, _, _, _, _, _, rfl, hh1⟩ (fun _ _ _ _ _ => trivial) (fun i v σ H2 H3 hi hp hy => ?_) (fun σ H2 hp => ?_)
    · obtain ⟨x2, x3, x4, x5, x6, x7, x8, x9, x10, rfl, hh2⟩ := hp
      obtain ⟨rfl, rfl⟩ := hy
      clear hh1 s1 ha hS
      walk_at "rds"
      refine ⟨fun σ' H' => ∃ (t : Addr) (zs : List Str), σ' = [some (.ref s0), some (.ref x.1), some (.int (0 + (i : Int))), some (.ref t), x4, x5, x6, x7, x8, x9, x10] ∧ BagOk H' x ∧ H' t = some (.tup (zs.map V.str)) ∧ Good zs, ?_, fun σ1 H6 hm => ?_⟩
      · walk_at "rds"
        refine spPick.mk (E := E0) hh2 (by decide) (by decide) fun r H7 _ _ k7 hh7 => ?_
        walk_at "rds"
        refine RD.ite_d (fun _ => ?_) (fun _ => ?_)
        · walk_at "rds"
          refine ⟨x, rfl, hh7, fun u ws H8 k8 hh8 hu gw => ?_⟩
          walk_at "rds"
          exact ⟨u, ws, rfl, hh8, hu, gw⟩
        · walk_at "rds"
          refine ⟨x, rfl, hh7, fun u ws H8 k8 hh8 hu gw => ?_⟩
          walk_at "rds"
          exact ⟨u, ws, rfl, hh8, hu, gw⟩
      obtain ⟨t, zs, rfl, hh6, ht6, g⟩ := hm
      clear hh2
      walk_at "rds"
      refine RB.made fun b H7 dx hb s7 hb7 => ?_
      refine ⟨x.1, b, dx, 1, .ref t, rfl, hb7, dq_pieces g (s7 _ _ ht6) (hh6.tupOff ht6).1, fun H8 _ k8 h8 => ⟨rfl, ?_⟩, fun r d H' hr ne _ _ _ => absurd (hr.one (DueR.of (s7 _ _ ht6) g)) ne⟩
      have s8 := same_of_kb s7 hb k8
      have ht8 := s8 _ _ ht6
      have hh8 := hh6.same s8
      have hbk8 : BookAt H8 T.C_Book b t := ⟨dx, h8⟩
      clear s7 hb7 k8 s8 ht6 hh6 h8
      walk_at "rds"
      refine ⟨t, zs, rfl, ht8, by have := g.sum; omega, fun ys H9 ho s9 => ?_⟩
      have how : OwnW zs (Txt.join ("" : Str) ys) := ⟨ys, ho, rfl⟩
      generalize Txt.join ("" : Str) ys = o at how ⊢
      have ho8 := how.size g
      have ho0 : 0 < o.cps.size := by
        obtain ⟨z, hz⟩ : ∃ z, z ∈ zs := ⟨zs[0]'(by have := g.some; omega), List.getElem_mem _⟩
        have hp := (piece_size (g.piece z hz)).1
        rw [← Array.length_toList] at hp ⊢
        obtain ⟨c, hc⟩ : ∃ c, c ∈ z.cps.toList := ⟨z.cps.toList[0]'(by omega), List.getElem_mem _⟩
        exact List.length_pos_of_mem ((how.facts.2 c).mpr (List.mem_flatten.mpr ⟨_, List.mem_map.mpr ⟨z, hz, rfl⟩, hc⟩))
      have lw0 : LW T.C_Book x t b zs .non H9 := ⟨hh8.same s9, s9 _ _ ht8, hbk8.same s9, g, .inl rfl⟩
      clear ht8 hh8 hbk8 s9 ho
      walk_at "rds"
      have lw1 := lw0.same hs
      clear lw0 hv hs hp
      generalize H' = H10 at lw1 ⊢
      refine ⟨fun σ' H' => ∃ tv : V, σ' = [some (.ref s0), some (.ref x.1), some (.int (0 + (i : Int))), some (.ref t), some (.ref b), some (.str o), some tv, x7, x8, x9, x10] ∧ LW T.C_Book x t b zs tv H', ?_, fun σ1 H11 hm => ?_⟩
      · walk_at "rds"
        refine ⟨b, zs, rfl, lw1.bk, fun H11 s11 => ?_, fun p u v H11 hok _ s11 hp11 => ?_⟩
        · walk_at "rds"
          exact ⟨.non, rfl, lw1.same s11⟩
        · have lw := lw1.same s11
          walk_at "rds"
          exact ⟨.ref p, rfl, lw.bag, lw.at_, lw.book, lw.good, .inr ⟨p, u, v, rfl, hp11, hok⟩⟩
      obtain ⟨tv, rfl, lw2⟩ := hm
      clear lw1
      walk_at "rds"
      refine RD.lcW (walk_range (lo := 0) (n := Int.toNat 3)) (by decide) fun D H12 hD s12 hv12 => ⟨fun j acc H' => (∀ w, w ∈ acc → PairAt H' w) ∧ acc.length ≤ j ∧ LW T.C_Book x t b zs tv H' ∧ SPE.KX x H11 H', ⟨fun w hw => (List.not_mem_nil hw).elim, Nat.le_refl _, lw2.same s12, SPE.kx_of s12⟩, fun _ _ _ _ _ => trivial, fun j v acc H13 H14 Z N hj hp hDa hy hZ hN => ?_, fun acc H13 hp hDa => ?_⟩
      · obtain ⟨hpa, hal, lw, k13⟩ := hp
        obtain ⟨rfl, rfl⟩ := hy
        have nD : SPE.Off D x := hand_ne hD lw2.bag
        walk_at "rds"
        refine ⟨rfl, ?_⟩
        walk_at "rds"
        refine ⟨x, o, 4, rfl, lw.bag, ho0, ho8, by decide, by decide, fun z1 H15 hz1 _ k15 hh15 => ?_⟩
        have lw5 := lw.kx k15 hh15
        walk_at "rds"
        refine ⟨x, o, 4, rfl, hh15, ho0, ho8, by decide, by decide, fun z2 H16 hz2 _ k16 hh16 => ?_⟩
        have lw6 := lw5.kx k16 hh16
        have hD16 := k16 _ _ nD (k15 _ _ nD hDa)
        have k016 := (k13.trans k15).trans k16
        have hpa6 : ∀ w, w ∈ acc → PairAt H16 w := fun w hw => ((hpa w hw).kx k15 lw.bag).kx k16 hh15
        clear lw lw5 k15 k16 hpa hDa k13
        walk_at "rds"
        refine hZ _ _ (hs _ _ hD16) fun H17 k17 h17 => ?_
        have hpn : H11 p' = none := kx_free k016 hn hp
        have npD : p' ≠ D := (ne_of_none hD16 hp).symm
        have k17' := SPE.kx_mut k17 (k016.trans (SPE.kx_of hs)) hD
        have hh17 : BagOk H17 x := (hh16.same hs).mut k17 nD
        have hDs := hs _ _ hD16
        refine ⟨fun w hw => ?_, by rw [List.length_append]; show _ + 1 ≤ _; omega, lw2.kx k17' hh17, k17'⟩
        rcases List.mem_append.mp hw with z | z
        · exact ((hpa6 w z).same hs).kb k17 hDs
        · rw [List.mem_singleton.mp z]
          have e4 : Int.toNat 4 = 4 := rfl
          exact ⟨p', z1, z2, rfl, k17 _ _ npD hv, by unfold SZ; omega, by unfold SZ; omega⟩
      · obtain ⟨hpa, hal, lw3, k13⟩ := hp
        have hal : acc.length ≤ 3 := hal
        have nD2 : SPE.Off D x := hand_ne hD lw2.bag
        clear lw2 k13 hD hv12 s12
        walk_at "rds"
        refine ⟨fun σ' H' => ∃ (D : Addr) (L : List V), σ' = [some (.ref s0), some (.ref x.1), some (.int (0 + (i : Int))), some (.ref t), some (.ref b), some (.str o), some tv, some (.ref D), x8, x9, x10] ∧ LW T.C_Book x t b zs tv H' ∧ H' D = some (.lst L) ∧ SPE.Off D x ∧ ∀ w, w ∈ L → PairAt H' w, ?_, fun σ1 H14 hm => ?_⟩
        · walk_at "rds"
          refine ⟨rfl, RD.bl ?_⟩
          refine RD.ite_nd (fun ne => ?_) (fun _ => ?_)
          · walk_at "rds"
            have hDs := hs _ _ hDa
            have lw4 := lw3.same hs
            refine RB.repL hv ⟨⟨by decide, by decide⟩, RD.szo (by show 1 * 5 ≤ _; decide)⟩ fun pr H15 hpr sr hvr => ?_
            have lw5 := lw4.same sr
            refine RD.cat (sr _ _ hDs) hvr (RD.szo (by show _ + 5 ≤ _; omega)) fun pc H16 hpc sc hvc => ?_
            have lw6 := lw5.same sc
            have s16 := (hs.trans sr).trans sc
            walk_at "rds"
            refine ⟨pc, _, rfl, lw6, hvc, hand_ne hpc lw5.bag, fun w hw => ?_⟩
            rcases List.mem_append.mp hw with z | z
            · exact (hpa w z).same s16
            · obtain ⟨l, hl, hw2⟩ := List.mem_flatten.mp z
              rw [(List.mem_replicate.mp hl).2, List.mem_singleton] at hw2
              rw [hw2]
              rcases lw6.told with e | ⟨p, u, v, e, hp, hok⟩
              · exact absurd e ne
              · have := hok.small
                exact ⟨p, u, v, e, hp, by unfold SZ; omega, by unfold SZ; omega⟩
          · walk_at "rds"
            exact ⟨D, acc, rfl, lw3, hDa, nD2, hpa⟩
        · obtain ⟨D, L, rfl, lw4, hD4, nD4, hpa4⟩ := hm
          clear lw3 hDa hpa
          walk_at "rds"
          refine RD.forW (walk_list (xs := L)) (fun i' σ H' => ∃ x8 x9 x10, σ = [some (.ref s0), some (.ref x.1), some (.int (0 + (i : Int))), some (.ref t), some (.ref b), some (.str o), some tv, some (.ref D), x8, x9, x10] ∧ LW T.C_Book x t b zs tv H' ∧ H' D = some (.lst L) ∧ ∀ w, w ∈ L → PairAt H' w)
            ⟨_, _, _, rfl, lw4, hD4, hpa4⟩ (fun i' σ H' _ ⟨_, _, _, _, _, h, _⟩ => .inl (.inl h)) (fun i' w σ H15 H16 hi' hp hy => ?_) (fun σ H15 hp => ?_)
          · obtain ⟨x8, x9, x10, rfl, lw5, hD5, hpa5⟩ := hp
            obtain ⟨rfl, hx⟩ := hy
            have hw := hpa5 w (List.mem_of_getElem? hx)
            have hbg := lw5.bag
            have hdq0 := hw.dq hbg
            obtain ⟨pr, u, v, rfl, hpr, hu, hv⟩ := id hw
            clear lw4 hD4 hpa4
            walk_at "rds"
            refine ⟨x, t, pr, zs, u, v, rfl, hbg, lw5.at_, lw5.good, hpr, hu, hv, fun w1 H17 k17 hh17 hdq => ?_⟩
            have lw6 := lw5.kx k17 hh17
            have hD6 := k17 _ _ nD4 hD5
            have hpa6 : ∀ w, w ∈ L → PairAt H17 w := fun w hw => (hpa5 w hw).kx k17 hbg
            have hdq1 := hdq0.kx k17
            clear lw5 hD5 hpa5 hdq0 hw hpr k17 hbg
            walk_at "rds"
            refine RD.forW (walk_list (xs := [.ref pr, w1])) (fun j σ H2 => ∃ x9 x10, σ = [some (.ref s0), some (.ref x.1), some (.int (0 + (i : Int))), some (.ref t), some (.ref b), some (.str o), some tv, some (.ref D), some (.ref pr), x9, x10] ∧ Same H' H2) ⟨_, _, rfl, Same.refl _⟩ (fun j σ H2 _ ⟨_, _, _, s⟩ => .inl (.inl (s _ _ hv))) (fun j w2 σ H18 H19 hj hp2 hy2 => ?_) (fun σ H18 hp2 => ?_)
            · obtain ⟨x9, x10, rfl, s18⟩ := hp2
              obtain ⟨rfl, hx2⟩ := hy2
              have hd2 : SPE.Dq x H19 42 w2 := by
                have hm := List.mem_of_getElem? hx2
                rcases List.mem_cons.mp hm with e | e
                · rw [e]
                  exact (hdq1.same hs).same s18
                · rw [List.mem_singleton.mp e]
                  exact (hdq.same hs).same s18
              obtain ⟨oo, hth⟩ := th_of (K := K) hd2
              have lw8 := (lw6.same hs).same s18
              walk_at "rds"
              refine ⟨b, zs, w2, oo, rfl, lw8.bk, hth, fun H20 s20 => ?_⟩
              walk_at "rds"
              refine ⟨t, zs, w2, oo, rfl, (lw8.same s20).at_, lw8.good, hth.same s20, fun H21 s21 => ?_⟩
              walk_at "rds"
              refine ⟨_, _, rfl, ?_⟩
              rw [decide_eq_true rfl]
              walk_at "rds"
              exact ⟨_, _, rfl, (s18.trans s20).trans s21⟩
            · obtain ⟨x9, x10, rfl, s18⟩ := hp2
              have s178 := hs.trans s18
              exact ⟨_, _, _, rfl, lw6.same s178, s178 _ _ hD6, fun w hw => (hpa6 w hw).same s178⟩
          · obtain ⟨x8, x9, x10, rfl, lw5, hD5, hpa5⟩ := hp
            clear lw4 hD4 hpa4
            have fin : BagOk H15 x := lw5.bag
            walk_at "rds"
            refine ⟨rfl, RD.bl ?_⟩
            refine RD.ite_nd (fun ne => ?_) (fun _ => ?_)
            · rcases lw5.told with e | ⟨p, u, v, rfl, hp, hok⟩
              · exact absurd e ne
              · have hsm := hok.small
                walk_at "rds"
                refine ⟨t, zs, _, _, rfl, lw5.at_, lw5.good, Th.two hp (.str u) (.str v) (fun z e => by cases e; omega) (fun z e => by cases e; omega), fun H16 s16 => ?_⟩
                rw [show judged zs (twoOf (.str u) (.str v)) = true from endless_judged hok]
                walk_at "rds"
                exact ⟨_, _, _, _, _, _, _, _, _, rfl, lw5.bag.same s16⟩
            · walk_at "rds"
              exact ⟨_, _, _, _, _, _, _, _, _, rfl, fin⟩
    · obtain ⟨x2, x3, x4, x5, x6, x7, x8, x9, x10, rfl, hh2⟩ := hp
      walk_at "rds"
      exact q _
end


end K11

namespace K11
open PySem PySem.Spec PyProof.Rows L2
abbrev Pg : Program := (PySem.Challenge.rw_struckpieces_k11_whole_endless_pairs_jud).prog
abbrev Rw : PySem.W.OpenRow := PySem.W.OpenLaw.row PySem.Challenge.rw_struckpieces_k11_whole_endless_pairs_jud

def dfn : List HX.DefS := [⟨("BadBook", some "__init__"), "__init__", "BadBook.__init__", s_BadBook_init⟩,
  ⟨("is_log", none), "is_log", "is_log", s_q_is_log⟩,
  ⟨("is_piece", none), "is_piece", "is_piece", s_is_piece⟩,
  ⟨("Book", some "__init__"), "__init__", "Book.__init__", s_Book_init⟩,
  ⟨("Book", some "__eq__"), "__eq__", "Book.__eq__", s_Book_eq⟩,
  ⟨("letters", none), "letters", "letters", s_letters⟩,
  ⟨("is_own", none), "is_own", "is_own", s_is_own⟩,
  ⟨("fronts_of", none), "fronts_of", "fronts_of", s_fronts_of⟩,
  ⟨("holds_piece", none), "holds_piece", "holds_piece", s_holds_piece⟩,
  ⟨("next_fronts", none), "next_fronts", "next_fronts", s_next_fronts⟩,
  ⟨("longest_front", none), "longest_front", "longest_front", s_longest_front⟩,
  ⟨("heights", none), "heights", "heights", s_heights⟩,
  ⟨("endless", none), "endless", "endless", s_endless⟩,
  ⟨("stays_free", none), "stays_free", "stays_free", s_stays_free⟩,
  ⟨("is_endless", none), "is_endless", "is_endless", s_is_endless⟩,
  ⟨("_law_bag", none), "_law_bag", "_law_bag", s_bag⟩,
  ⟨("_law_pick", none), "_law_pick", "_law_pick", s_pick⟩,
  ⟨("_law_some", none), "_law_some", "_law_some", s_some⟩,
  ⟨("_law_nested", none), "_law_nested", "_law_nested", s_nested⟩,
  ⟨("_law_own", none), "_law_own", "_law_own", s_own⟩,
  ⟨("_law_named", none), "_law_named", "_law_named", s_named⟩,
  ⟨("_law_more", none), "_law_more", "_law_more", s_more⟩,
  ⟨("_law_full", none), "_law_full", "_law_full", s_full⟩,
  ⟨("_law_scant", none), "_law_scant", "_law_scant", s_scant⟩,
  ⟨("_law_is_free", none), "_law_is_free", "_law_is_free", s_is_free⟩,
  ⟨("_law_text", none), "_law_text", "_law_text", s_text⟩,
  ⟨("_law_is_pair", none), "_law_is_pair", "_law_is_pair", s_is_pair⟩,
  ⟨("_law_bent", none), "_law_bent", "_law_bent", s_bent⟩,
  ⟨("_law_flag", none), "_law_flag", "_law_flag", s_flag⟩,
  ⟨("law", none), "law", "law", s_law⟩]
def dck : List (PySem.W.Frag → Bool) := [fun K => HX.plB K ("is_log", none) "is_log",
  fun K => (He.Fa.glo "is_log").ok K,
  fun K => HX.plB K ("is_piece", none) "is_piece",
  fun K => (He.Fa.glo "is_piece").ok K,
  fun K => HX.plB K ("Book", some "__init__") "Book.__init__",
  fun K => HX.plB K ("Book", some "__eq__") "Book.__eq__",
  fun K => HX.plB K ("letters", none) "letters",
  fun K => (He.Fa.glo "letters").ok K,
  fun K => HX.plB K ("is_own", none) "is_own",
  fun K => (He.Fa.glo "is_own").ok K,
  fun K => HX.plB K ("fronts_of", none) "fronts_of",
  fun K => (He.Fa.glo "fronts_of").ok K,
  fun K => HX.plB K ("holds_piece", none) "holds_piece",
  fun K => (He.Fa.glo "holds_piece").ok K,
  fun K => HX.plB K ("next_fronts", none) "next_fronts",
  fun K => (He.Fa.glo "next_fronts").ok K,
  fun K => HX.plB K ("longest_front", none) "longest_front",
  fun K => (He.Fa.glo "longest_front").ok K,
  fun K => HX.plB K ("heights", none) "heights",
  fun K => (He.Fa.glo "heights").ok K,
  fun K => HX.plB K ("endless", none) "endless",
  fun K => (He.Fa.glo "endless").ok K,
  fun K => HX.plB K ("stays_free", none) "stays_free",
  fun K => (He.Fa.glo "stays_free").ok K,
  fun K => HX.plB K ("is_endless", none) "is_endless",
  fun K => (He.Fa.glo "is_endless").ok K,
  fun K => HX.plB K ("_law_bag", none) "_law_bag",
  fun K => (He.Fa.glo "_law_bag").ok K,
  fun K => HX.plB K ("_law_pick", none) "_law_pick",
  fun K => (He.Fa.glo "_law_pick").ok K,
  fun K => HX.plB K ("_law_some", none) "_law_some",
  fun K => (He.Fa.glo "_law_some").ok K,
  fun K => HX.plB K ("_law_nested", none) "_law_nested",
  fun K => (He.Fa.glo "_law_nested").ok K,
  fun K => HX.plB K ("_law_own", none) "_law_own",
  fun K => (He.Fa.glo "_law_own").ok K,
  fun K => HX.plB K ("_law_named", none) "_law_named",
  fun K => (He.Fa.glo "_law_named").ok K,
  fun K => HX.plB K ("_law_more", none) "_law_more",
  fun K => (He.Fa.glo "_law_more").ok K,
  fun K => HX.plB K ("_law_full", none) "_law_full",
  fun K => (He.Fa.glo "_law_full").ok K,
  fun K => HX.plB K ("_law_scant", none) "_law_scant",
  fun K => (He.Fa.glo "_law_scant").ok K,
  fun K => HX.plB K ("_law_is_free", none) "_law_is_free",
  fun K => (He.Fa.glo "_law_is_free").ok K,
  fun K => HX.plB K ("_law_text", none) "_law_text",
  fun K => (He.Fa.glo "_law_text").ok K,
  fun K => HX.plB K ("_law_is_pair", none) "_law_is_pair",
  fun K => (He.Fa.glo "_law_is_pair").ok K,
  fun K => HX.plB K ("_law_bent", none) "_law_bent",
  fun K => (He.Fa.glo "_law_bent").ok K,
  fun K => HX.plB K ("_law_flag", none) "_law_flag",
  fun K => (He.Fa.glo "_law_flag").ok K,
  fun K => HX.plB K ("law", none) "law",
  fun K => (He.Fa.glo "law").ok K,
  fun K => (He.Fa.glo "LogError").ok K,
  fun K => HX.oexB K (He.ga K "LogError"),
  fun K => HX.excB K (He.ga K "LogError"),
  fun K => decide (PySem.W.subIn K (.ref (He.ga K "LogError")) (.type "BaseException") = some true),
  fun K => decide (PySem.W.typeIn K (.ref (He.ga K "LogError")) = some (.type "type")),
  fun K => PySem.W.excIn K (He.ga K "LogError") He.veBase "ValueError.__new__",
  fun K => PySem.W.keepIn K (.ref (He.ga K "LogError")),
  fun K => (He.Fa.glo "BadBook").ok K,
  fun K => HX.oexB K (He.ga K "BadBook"),
  fun K => HX.excB K (He.ga K "BadBook"),
  fun K => decide (PySem.W.subIn K (.ref (He.ga K "BadBook")) (.type "BaseException") = some true),
  fun K => decide (PySem.W.typeIn K (.ref (He.ga K "BadBook")) = some (.type "type")),
  fun K => HX.sicB K (He.ga K "BadBook") "part",
  fun K => HX.spB K ("BadBook", some "__init__") "BadBook.__init__" Pg.main.file (He.ga K "BadBook"),
  fun K => (He.Fa.free "super").ok K,
  fun K => He.eqO (PySem.W.findIn K (.ref (He.ga K "BadBook")) "part") (some none),
  fun K => He.eqO (PySem.W.findIn K (.ref (He.ga K "BadBook")) "__init__") (some (some (.ref (He.ma K (He.ga K "BadBook") "__init__")))),
  fun K => decide (PySem.W.typeIn K (.ref (He.ma K (He.ga K "BadBook") "__init__")) = some (.type "function")),
  fun K => (He.Fa.glo "Book").ok K,
  fun K => (He.Fa.cls "Book").ok K,
  fun K => (He.Fa.mkr "Book").ok K,
  fun K => He.eqO (PySem.W.findIn K (.ref (He.ga K "Book")) "__eq__") (some (some (.ref (He.ma K (He.ga K "Book") "__eq__")))),
  fun K => PySem.W.isFn K (.ref (He.ma K (He.ga K "Book") "__eq__")),
  fun K => He.eqO (PySem.W.findIn K (.ref (He.ga K "Book")) "__ne__") (some (some (.builtin "object.__ne__"))),
  fun K => decide (PySem.W.subIn K (.ref (He.ga K "Book")) (.type "object") = some true),
  fun K => ["tuple", "int", "str", "list", "bool", "NoneType", "dict"].all fun t => PySem.W.notFirst K (He.ga K "Book") (.type t),
  fun K => He.eqO (PySem.W.findIn K (.ref (He.ga K "Book")) "__class__") (some (some (.builtin "object.__class__"))),
  fun K => He.eqO (PySem.W.specialIn K (.builtin "object.__class__") "__get__") (some (some (.builtin "getset_descriptor.__get__"))),
  fun K => decide (PySem.W.takesIn K (.builtin "object.__class__") = some true),
  fun K => decide (PySem.W.mroIn K (He.ga K "Book") (.type "object") = some true),
  fun K => ["tuple", "int", "str", "list", "bool", "NoneType", "dict"].all fun t => PySem.W.kitOne K (.type t) (.ref (He.ga K "Book")) == some false,
  fun K => (He.Fa.noat "Book" "pieces").ok K,
  fun K => (He.Fa.str "LETTERS" "abcdefgh").ok K,
  fun K => (He.Fa.int "MOST_PIECES" (12)).ok K,
  fun K => (He.Fa.int "MOST_LONG" (8)).ok K,
  fun K => (He.Fa.free "abs").ok K,
  fun K => (He.Fa.free "all").ok K,
  fun K => (He.Fa.free "any").ok K,
  fun K => (He.Fa.free "bool").ok K,
  fun K => (He.Fa.free "enumerate").ok K,
  fun K => (He.Fa.free "int").ok K,
  fun K => (He.Fa.free "isinstance").ok K,
  fun K => (He.Fa.free "len").ok K,
  fun K => (He.Fa.free "list").ok K,
  fun K => (He.Fa.free "max").ok K,
  fun K => (He.Fa.free "min").ok K,
  fun K => (He.Fa.free "range").ok K,
  fun K => (He.Fa.free "set").ok K,
  fun K => (He.Fa.free "sorted").ok K,
  fun K => (He.Fa.free "str").ok K,
  fun K => (He.Fa.free "sum").ok K,
  fun K => (He.Fa.free "tuple").ok K]
abbrev hk : PySem.W.Hook := HX.hookX 5 dck dfn
def ob (s : PySem.W.SharedT) : HX.AlX := HX.obsXG 5 dck dfn (HandSHeadRun.getT s)
theorem ob_eq (s : PySem.W.SharedT) : ob s = hk.obs s.abs := HX.obsXG_eq (HandSHeadRun.getT_eq s)
def loose : List Str := (["is_log", "is_piece", "letters", "is_own", "fronts_of", "holds_piece", "next_fronts", "longest_front", "heights", "endless", "stays_free", "is_endless", "_law_bag", "_law_pick", "_law_some", "_law_nested", "_law_own", "_law_named", "_law_more", "_law_full"] : List Str) ++ (["_law_scant", "_law_is_free", "_law_text", "_law_is_pair", "_law_bent", "_law_flag", "LogError", "BadBook", "Book", "LETTERS", "MOST_PIECES", "MOST_LONG"] : List Str)
theorem run (w : World) : HandSHeadRun.RunEq Rw (PySem.W.view Rw.prog [36]) hk ob 60000 loose w := by
  intro os
  kernel_rfl
theorem txt {K : PySem.W.Frag} {h : Heap} {mg : Str → Option Value} (X : K.In h) (G : h.Ns mainGlobals mg) (c : HX.SaysX dck dfn K) : ∃ T : Txt Pg K mg, T.a_law = He.ga K "law" ∧ (True) := by
  obtain ⟨fd_q_is_log, F_q_is_log⟩ := HX.plB_ok (d := ⟨("is_log", none), "is_log", "is_log", s_q_is_log⟩) (c.fn_ 1 rfl) (c.fact 0 rfl)
  obtain ⟨fd_is_piece, F_is_piece⟩ := HX.plB_ok (d := ⟨("is_piece", none), "is_piece", "is_piece", s_is_piece⟩) (c.fn_ 2 rfl) (c.fact 2 rfl)
  obtain ⟨fd_Book_init, F_Book_init⟩ := HX.plB_ok (d := ⟨("Book", some "__init__"), "__init__", "Book.__init__", s_Book_init⟩) (c.fn_ 3 rfl) (c.fact 4 rfl)
  obtain ⟨fd_Book_eq, F_Book_eq⟩ := HX.plB_ok (d := ⟨("Book", some "__eq__"), "__eq__", "Book.__eq__", s_Book_eq⟩) (c.fn_ 4 rfl) (c.fact 5 rfl)
  obtain ⟨fd_letters, F_letters⟩ := HX.plB_ok (d := ⟨("letters", none), "letters", "letters", s_letters⟩) (c.fn_ 5 rfl) (c.fact 6 rfl)
  obtain ⟨fd_is_own, F_is_own⟩ := HX.plB_ok (d := ⟨("is_own", none), "is_own", "is_own", s_is_own⟩) (c.fn_ 6 rfl) (c.fact 8 rfl)
  obtain ⟨fd_fronts_of, F_fronts_of⟩ := HX.plB_ok (d := ⟨("fronts_of", none), "fronts_of", "fronts_of", s_fronts_of⟩) (c.fn_ 7 rfl) (c.fact 10 rfl)
  obtain ⟨fd_holds_piece, F_holds_piece⟩ := HX.plB_ok (d := ⟨("holds_piece", none), "holds_piece", "holds_piece", s_holds_piece⟩) (c.fn_ 8 rfl) (c.fact 12 rfl)
  obtain ⟨fd_next_fronts, F_next_fronts⟩ := HX.plB_ok (d := ⟨("next_fronts", none), "next_fronts", "next_fronts", s_next_fronts⟩) (c.fn_ 9 rfl) (c.fact 14 rfl)
  obtain ⟨fd_longest_front, F_longest_front⟩ := HX.plB_ok (d := ⟨("longest_front", none), "longest_front", "longest_front", s_longest_front⟩) (c.fn_ 10 rfl) (c.fact 16 rfl)
  obtain ⟨fd_heights, F_heights⟩ := HX.plB_ok (d := ⟨("heights", none), "heights", "heights", s_heights⟩) (c.fn_ 11 rfl) (c.fact 18 rfl)
  obtain ⟨fd_endless, F_endless⟩ := HX.plB_ok (d := ⟨("endless", none), "endless", "endless", s_endless⟩) (c.fn_ 12 rfl) (c.fact 20 rfl)
  obtain ⟨fd_stays_free, F_stays_free⟩ := HX.plB_ok (d := ⟨("stays_free", none), "stays_free", "stays_free", s_stays_free⟩) (c.fn_ 13 rfl) (c.fact 22 rfl)
  obtain ⟨fd_is_endless, F_is_endless⟩ := HX.plB_ok (d := ⟨("is_endless", none), "is_endless", "is_endless", s_is_endless⟩) (c.fn_ 14 rfl) (c.fact 24 rfl)
  obtain ⟨fd_bag, F_bag⟩ := HX.plB_ok (d := ⟨("_law_bag", none), "_law_bag", "_law_bag", s_bag⟩) (c.fn_ 15 rfl) (c.fact 26 rfl)
  obtain ⟨fd_pick, F_pick⟩ := HX.plB_ok (d := ⟨("_law_pick", none), "_law_pick", "_law_pick", s_pick⟩) (c.fn_ 16 rfl) (c.fact 28 rfl)
  obtain ⟨fd_some, F_some⟩ := HX.plB_ok (d := ⟨("_law_some", none), "_law_some", "_law_some", s_some⟩) (c.fn_ 17 rfl) (c.fact 30 rfl)
  obtain ⟨fd_nested, F_nested⟩ := HX.plB_ok (d := ⟨("_law_nested", none), "_law_nested", "_law_nested", s_nested⟩) (c.fn_ 18 rfl) (c.fact 32 rfl)
  obtain ⟨fd_own, F_own⟩ := HX.plB_ok (d := ⟨("_law_own", none), "_law_own", "_law_own", s_own⟩) (c.fn_ 19 rfl) (c.fact 34 rfl)
  obtain ⟨fd_named, F_named⟩ := HX.plB_ok (d := ⟨("_law_named", none), "_law_named", "_law_named", s_named⟩) (c.fn_ 20 rfl) (c.fact 36 rfl)
  obtain ⟨fd_more, F_more⟩ := HX.plB_ok (d := ⟨("_law_more", none), "_law_more", "_law_more", s_more⟩) (c.fn_ 21 rfl) (c.fact 38 rfl)
  obtain ⟨fd_full, F_full⟩ := HX.plB_ok (d := ⟨("_law_full", none), "_law_full", "_law_full", s_full⟩) (c.fn_ 22 rfl) (c.fact 40 rfl)
  obtain ⟨fd_scant, F_scant⟩ := HX.plB_ok (d := ⟨("_law_scant", none), "_law_scant", "_law_scant", s_scant⟩) (c.fn_ 23 rfl) (c.fact 42 rfl)
  obtain ⟨fd_is_free, F_is_free⟩ := HX.plB_ok (d := ⟨("_law_is_free", none), "_law_is_free", "_law_is_free", s_is_free⟩) (c.fn_ 24 rfl) (c.fact 44 rfl)
  obtain ⟨fd_text, F_text⟩ := HX.plB_ok (d := ⟨("_law_text", none), "_law_text", "_law_text", s_text⟩) (c.fn_ 25 rfl) (c.fact 46 rfl)
  obtain ⟨fd_is_pair, F_is_pair⟩ := HX.plB_ok (d := ⟨("_law_is_pair", none), "_law_is_pair", "_law_is_pair", s_is_pair⟩) (c.fn_ 26 rfl) (c.fact 48 rfl)
  obtain ⟨fd_bent, F_bent⟩ := HX.plB_ok (d := ⟨("_law_bent", none), "_law_bent", "_law_bent", s_bent⟩) (c.fn_ 27 rfl) (c.fact 50 rfl)
  obtain ⟨fd_flag, F_flag⟩ := HX.plB_ok (d := ⟨("_law_flag", none), "_law_flag", "_law_flag", s_flag⟩) (c.fn_ 28 rfl) (c.fact 52 rfl)
  obtain ⟨fd_law, F_law⟩ := HX.plB_ok (d := ⟨("law", none), "law", "law", s_law⟩) (c.fn_ 29 rfl) (c.fact 54 rfl)
  have ST_BadBook_init : HX.SiT Pg s_BadBook_init "BadBook.__init__" "part" "part" := ⟨NdefX.nscope_by (by decide +kernel), by decide +kernel, ⟨_, _, _, _, _, _, _, _, _, _, rfl, _, fun _ _ _ _ => rfl⟩, by decide +kernel, by decide +kernel, by decide +kernel, by decide +kernel⟩
  obtain ⟨fd_BadBook_init, Z_BadBook_init, B_BadBook_init⟩ := HX.sic_ok (x := "BadBook") (mg := mg) ST_BadBook_init (c.fact 64 rfl) (c.fact 68 rfl) (c.fact 69 rfl) (c.fn_ 0 rfl) (He.free_ok X G (x := "super") (c.fact 70 rfl)) (fun _ _ _ _ _ _ _ us hl => match us, hl with | [_, _], _ => rfl)
  exact ⟨{ a_q_is_log := _, fd_q_is_log := fd_q_is_log, F_q_is_log := F_q_is_log, b_q_is_log := F_q_is_log.binds (ps := ["thing"]) (fun _ _ _ _ _ _ us hl => match us, hl with | [_], _ => rfl), g_q_is_log := He.glo_ok X G (x := "is_log") (c.fact 1 rfl), a_is_piece := _, fd_is_piece := fd_is_piece, F_is_piece := F_is_piece, b_is_piece := F_is_piece.binds (ps := ["thing"]) (fun _ _ _ _ _ _ us hl => match us, hl with | [_], _ => rfl), g_is_piece := He.glo_ok X G (x := "is_piece") (c.fact 3 rfl), a_Book_init := _, fd_Book_init := fd_Book_init, F_Book_init := F_Book_init, b_Book_init := F_Book_init.binds (ps := ["self", "pieces"]) (fun _ _ _ _ _ _ us hl => match us, hl with | [_, _], _ => rfl), a_Book_eq := _, fd_Book_eq := fd_Book_eq, F_Book_eq := F_Book_eq, b_Book_eq := F_Book_eq.binds (ps := ["self", "other"]) (fun _ _ _ _ _ _ us hl => match us, hl with | [_, _], _ => rfl), a_letters := _, fd_letters := fd_letters, F_letters := F_letters, b_letters := F_letters.binds (ps := ["book"]) (fun _ _ _ _ _ _ us hl => match us, hl with | [_], _ => rfl), g_letters := He.glo_ok X G (x := "letters") (c.fact 7 rfl), a_is_own := _, fd_is_own := fd_is_own, F_is_own := F_is_own, b_is_own := F_is_own.binds (ps := ["book", "thing"]) (fun _ _ _ _ _ _ us hl => match us, hl with | [_, _], _ => rfl), g_is_own := He.glo_ok X G (x := "is_own") (c.fact 9 rfl), a_fronts_of := _, fd_fronts_of := fd_fronts_of, F_fronts_of := F_fronts_of, b_fronts_of := F_fronts_of.binds (ps := ["book"]) (fun _ _ _ _ _ _ us hl => match us, hl with | [_], _ => rfl), g_fronts_of := He.glo_ok X G (x := "fronts_of") (c.fact 11 rfl), a_holds_piece := _, fd_holds_piece := fd_holds_piece, F_holds_piece := F_holds_piece, b_holds_piece := F_holds_piece.binds (ps := ["book", "text"]) (fun _ _ _ _ _ _ us hl => match us, hl with | [_, _], _ => rfl), g_holds_piece := He.glo_ok X G (x := "holds_piece") (c.fact 13 rfl), a_next_fronts := _, fd_next_fronts := fd_next_fronts, F_next_fronts := F_next_fronts, b_next_fronts := F_next_fronts.binds (ps := ["book"]) (fun _ _ _ _ _ _ us hl => match us, hl with | [_], _ => rfl), g_next_fronts := He.glo_ok X G (x := "next_fronts") (c.fact 15 rfl), a_longest_front := _, fd_longest_front := fd_longest_front, F_longest_front := F_longest_front, b_longest_front := F_longest_front.binds (ps := ["fronts", "text"]) (fun _ _ _ _ _ _ us hl => match us, hl with | [_, _], _ => rfl), g_longest_front := He.glo_ok X G (x := "longest_front") (c.fact 17 rfl), a_heights := _, fd_heights := fd_heights, F_heights := F_heights, b_heights := F_heights.binds (ps := ["steps"]) (fun _ _ _ _ _ _ us hl => match us, hl with | [_], _ => rfl), g_heights := He.glo_ok X G (x := "heights") (c.fact 19 rfl), a_endless := _, fd_endless := fd_endless, F_endless := F_endless, b_endless := F_endless.binds (ps := ["book"]) (fun _ _ _ _ _ _ us hl => match us, hl with | [_], _ => rfl), g_endless := He.glo_ok X G (x := "endless") (c.fact 21 rfl), a_stays_free := _, fd_stays_free := fd_stays_free, F_stays_free := F_stays_free, b_stays_free := F_stays_free.binds (ps := ["book", "front", "turned"]) (fun _ _ _ _ _ _ us hl => match us, hl with | [_, _, _], _ => rfl), g_stays_free := He.glo_ok X G (x := "stays_free") (c.fact 23 rfl), a_is_endless := _, fd_is_endless := fd_is_endless, F_is_endless := F_is_endless, b_is_endless := F_is_endless.binds (ps := ["book", "thing"]) (fun _ _ _ _ _ _ us hl => match us, hl with | [_, _], _ => rfl), g_is_endless := He.glo_ok X G (x := "is_endless") (c.fact 25 rfl), a_bag := _, fd_bag := fd_bag, F_bag := F_bag, b_bag := F_bag.binds (ps := ["_law_script"]) (fun _ _ _ _ _ _ us hl => match us, hl with | [_], _ => rfl), g_bag := He.glo_ok X G (x := "_law_bag") (c.fact 27 rfl), a_pick := _, fd_pick := fd_pick, F_pick := F_pick, b_pick := F_pick.binds (ps := ["_law_bag_here", "_law_many"]) (fun _ _ _ _ _ _ us hl => match us, hl with | [_, _], _ => rfl), g_pick := He.glo_ok X G (x := "_law_pick") (c.fact 29 rfl), a_some := _, fd_some := fd_some, F_some := F_some, b_some := F_some.binds (ps := ["_law_bag_here", "_law_things"]) (fun _ _ _ _ _ _ us hl => match us, hl with | [_, _], _ => rfl), g_some := He.glo_ok X G (x := "_law_some") (c.fact 31 rfl), a_nested := _, fd_nested := fd_nested, F_nested := F_nested, b_nested := F_nested.binds (ps := []) (fun _ _ _ _ _ _ us hl => match us, hl with | [], _ => rfl), g_nested := He.glo_ok X G (x := "_law_nested") (c.fact 33 rfl), a_own := _, fd_own := fd_own, F_own := F_own, b_own := F_own.binds (ps := ["_law_pieces"]) (fun _ _ _ _ _ _ us hl => match us, hl with | [_], _ => rfl), g_own := He.glo_ok X G (x := "_law_own") (c.fact 35 rfl), a_named := _, fd_named := fd_named, F_named := F_named, b_named := F_named.binds (ps := ["_law_bag_here", "_law_pieces"]) (fun _ _ _ _ _ _ us hl => match us, hl with | [_, _], _ => rfl), g_named := He.glo_ok X G (x := "_law_named") (c.fact 37 rfl), a_more := _, fd_more := fd_more, F_more := F_more, b_more := F_more.binds (ps := ["_law_bag_here", "_law_pieces", "_law_most"]) (fun _ _ _ _ _ _ us hl => match us, hl with | [_, _, _], _ => rfl), g_more := He.glo_ok X G (x := "_law_more") (c.fact 39 rfl), a_full := _, fd_full := fd_full, F_full := F_full, b_full := F_full.binds (ps := ["_law_bag_here"]) (fun _ _ _ _ _ _ us hl => match us, hl with | [_], _ => rfl), g_full := He.glo_ok X G (x := "_law_full") (c.fact 41 rfl), a_scant := _, fd_scant := fd_scant, F_scant := F_scant, b_scant := F_scant.binds (ps := ["_law_bag_here"]) (fun _ _ _ _ _ _ us hl => match us, hl with | [_], _ => rfl), g_scant := He.glo_ok X G (x := "_law_scant") (c.fact 43 rfl), a_is_free := _, fd_is_free := fd_is_free, F_is_free := F_is_free, b_is_free := F_is_free.binds (ps := ["_law_pieces", "_law_text_here"]) (fun _ _ _ _ _ _ us hl => match us, hl with | [_, _], _ => rfl), g_is_free := He.glo_ok X G (x := "_law_is_free") (c.fact 45 rfl), a_text := _, fd_text := fd_text, F_text := F_text, b_text := F_text.binds (ps := ["_law_bag_here", "_law_own_here", "_law_most"]) (fun _ _ _ _ _ _ us hl => match us, hl with | [_, _, _], _ => rfl), g_text := He.glo_ok X G (x := "_law_text") (c.fact 47 rfl), a_is_pair := _, fd_is_pair := fd_is_pair, F_is_pair := F_is_pair, b_is_pair := F_is_pair.binds (ps := ["_law_pieces", "_law_thing"]) (fun _ _ _ _ _ _ us hl => match us, hl with | [_, _], _ => rfl), g_is_pair := He.glo_ok X G (x := "_law_is_pair") (c.fact 49 rfl), a_bent := _, fd_bent := fd_bent, F_bent := F_bent, b_bent := F_bent.binds (ps := ["_law_bag_here", "_law_pieces", "_law_pair"]) (fun _ _ _ _ _ _ us hl => match us, hl with | [_, _, _], _ => rfl), g_bent := He.glo_ok X G (x := "_law_bent") (c.fact 51 rfl), a_flag := _, fd_flag := fd_flag, F_flag := F_flag, b_flag := F_flag.binds (ps := ["_law_told", "_law_due"]) (fun _ _ _ _ _ _ us hl => match us, hl with | [_, _], _ => rfl), g_flag := He.glo_ok X G (x := "_law_flag") (c.fact 53 rfl), a_law := _, fd_law := fd_law, F_law := F_law, b_law := F_law.binds (ps := ["_law_script"]) (fun _ _ _ _ _ _ us hl => match us, hl with | [_], _ => rfl), g_law := He.glo_ok X G (x := "law") (c.fact 55 rfl), C_LogError := He.ga K "LogError", g_LogError := He.glo_ok X G (x := "LogError") (c.fact 56 rfl), xc_LogError := HX.oexB_ok (c.fact 57 rfl), ic_LogError := HX.excB_ok (c.fact 58 rfl), bx_LogError := of_decide_eq_true (c.fact 59 rfl), tx_LogError := of_decide_eq_true (c.fact 60 rfl), k_LogError := (c.fact 61 rfl), kp_LogError := (c.fact 62 rfl), C_BadBook := He.ga K "BadBook", g_BadBook := He.glo_ok X G (x := "BadBook") (c.fact 63 rfl), xc_BadBook := HX.oexB_ok (c.fact 64 rfl), ic_BadBook := HX.excB_ok (c.fact 65 rfl), bx_BadBook := of_decide_eq_true (c.fact 66 rfl), tx_BadBook := of_decide_eq_true (c.fact 67 rfl), fi_BadBook := He.eqO_ok (c.fact 71 rfl), a_BadBook_init := _, fd_BadBook_init := fd_BadBook_init, S_BadBook_init := Z_BadBook_init, b_BadBook_init := B_BadBook_init, ii_BadBook := He.eqO_ok (c.fact 72 rfl), ti_BadBook := of_decide_eq_true (c.fact 73 rfl), C_Book := He.ga K "Book", g_Book := He.glo_ok X G (x := "Book") (c.fact 74 rfl), cl_Book := He.cls_ok (x := "Book") (c.fact 75 rfl), M_Book := He.mkr_ok (x := "Book") (c.fact 76 rfl), eqc_Book := ⟨He.eqO_ok (c.fact 77 rfl), (c.fact 78 rfl), He.eqO_ok (c.fact 79 rfl), of_decide_eq_true (c.fact 80 rfl)⟩, nf_Book := (c.fact 81 rfl), ty_Book := ⟨He.eqO_ok (c.fact 82 rfl), He.eqO_ok (c.fact 83 rfl), of_decide_eq_true (c.fact 84 rfl), of_decide_eq_true (c.fact 85 rfl)⟩, kc_Book := (c.fact 86 rfl), no_Book_pieces := He.noat_ok (x := "Book") (f := "pieces") (c.fact 87 rfl), g_LETTERS := He.str_ok X G (x := "LETTERS") (c.fact 88 rfl), g_MOST_PIECES := He.int_ok X G (x := "MOST_PIECES") (c.fact 89 rfl), g_MOST_LONG := He.int_ok X G (x := "MOST_LONG") (c.fact 90 rfl), m_abs := He.free_ok X G (x := "abs") (c.fact 91 rfl), m_all := He.free_ok X G (x := "all") (c.fact 92 rfl), m_any := He.free_ok X G (x := "any") (c.fact 93 rfl), m_bool := He.free_ok X G (x := "bool") (c.fact 94 rfl), m_enumerate := He.free_ok X G (x := "enumerate") (c.fact 95 rfl), m_int := He.free_ok X G (x := "int") (c.fact 96 rfl), m_isinstance := He.free_ok X G (x := "isinstance") (c.fact 97 rfl), m_len := He.free_ok X G (x := "len") (c.fact 98 rfl), m_list := He.free_ok X G (x := "list") (c.fact 99 rfl), m_max := He.free_ok X G (x := "max") (c.fact 100 rfl), m_min := He.free_ok X G (x := "min") (c.fact 101 rfl), m_range := He.free_ok X G (x := "range") (c.fact 102 rfl), m_set := He.free_ok X G (x := "set") (c.fact 103 rfl), m_sorted := He.free_ok X G (x := "sorted") (c.fact 104 rfl), m_str := He.free_ok X G (x := "str") (c.fact 105 rfl), m_sum := He.free_ok X G (x := "sum") (c.fact 106 rfl), m_super := He.free_ok X G (x := "super") (c.fact 70 rfl), m_tuple := He.free_ok X G (x := "tuple") (c.fact 107 rfl) }, rfl, trivial⟩


end K11
open PySem PySem.W PySem.Calls PyProof.Rows
theorem PySem.Challenge.cw_struckpieces_k11_whole_endless_pairs_jud_holds : PySem.Challenge.rw_struckpieces_k11_whole_endless_pairs_jud.Holds := by
  w_on; o_law
  refine HandSHeadRun.head_any (r := OpenLaw.row PySem.Challenge.rw_struckpieces_k11_whole_endless_pairs_jud) (q := view (OpenLaw.row PySem.Challenge.rw_struckpieces_k11_whole_endless_pairs_jud).prog [36]) (H := K11.hk) (ob := K11.ob) (M := 60000) (loose := K11.loose) (d := HandSHeadRun.topDef (OpenLaw.row PySem.Challenge.rw_struckpieces_k11_whole_endless_pairs_jud).prog 36) (kwd := []) K11.ob_eq
    (by kernel_rfl) (fun s => by kernel_rfl) K11.run (by kernel_rfl) (by kernel_rfl) (by kernel_rfl) (by rfl) (by first | assumption | decide +kernel) (by decide +kernel) ⟨rfl, rfl, rfl, rfl, rfl, by decide +kernel⟩ ?hw ?hc
  case hw => w_witness2
  case hc =>
    refine L2.walk_ofE (l := PySem.Challenge.rw_struckpieces_k11_whole_endless_pairs_jud) (n := 63) (k := 31) (x := "_law_script") (CX := L2.CX0) rfl (by decide) (by kernel_rfl) ⟨rfl, by decide, by decide⟩ ?F (fun _ _ _ _ z => z)
    intro w mg fa h Y G hmg0
    obtain ⟨K, KX, c⟩ := Y
    have hmg : mg ("law" : PySem.Str) = some (.ref fa) := by
      have e : (HandSHeadRun.topDef (OpenLaw.row PySem.Challenge.rw_struckpieces_k11_whole_endless_pairs_jud).prog 36).name = ("law" : PySem.Str) := by kernel_rfl
      rw [← e]
      exact hmg0
    obtain ⟨T, ea, X⟩ := K11.txt KX G c
    have e := hmg.symm.trans T.g_law
    cases e
    exact ⟨K, T.fd_law, K11.spLaw K, KX, fun s u => by obtain ⟨_, _, _, _, _, _, _, _, _, e2, _⟩ := T.F_law.ex; rw [e2]; exact .of_eq rfl, fun H a ns hl _ hS => ⟨a, ns, rfl, hS, hl, fun _ => rfl⟩, fun base _ _ => K11.ok_law T⟩
