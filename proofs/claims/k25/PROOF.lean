import PyProof.Rows.All
import Wide.All
import OpenK.AllK
import Wide.FinOn
import KE.KStateDown
import HandS.ForMost
import HandS.Codes
import HandS.Flow
import HandS.Conv
import HandS.Style
import HandS.IsInst
import HandS.SortInts
import HandS.Lambda
import HandS.EndTab
import HandS.HeadWalk
import HandS.Head2
import HandS.HeadHook4
import KE.SortKeyHeap
import KE.KDictItemsList
import HandS.DictTup
import HandS.SortKw
import HandS.SetKeys
import HandS.RaiseMore
import PySem.Challenge.RW_whokeeps_k25_whole_a_leak_is_shown
set_option Elab.async false
set_option linter.all false
set_option maxRecDepth 100000
set_option maxHeartbeats 4000000
namespace Wk
open PySem PySem.Spec PyProof.Rows L2 C8

theorem small9000 {n : Nat} (h : n ≤ 9000) : n < PySem.sizeLine := Nat.lt_of_le_of_lt h (by decide)
/-! ### readings, step by step: each rule takes the reading's head away -/
section
variable {K : PySem.W.Frag} {σ : L2.St} {H : Hp} {Q : VK} {i : Nat} {v x y z : V} {ta tb tc te tv td ty : TE} {t u : TS} {n b c : L2.St → Hp → Prop} {r : VK} {g : TG} {tt tu : TT} {QB : Bool → Hp → Prop} {QS : L2.St → Hp → Prop}
  {a C dx p : Addr} {fs : List (Str × V)} {f m : Str} {tl tr : TA} {QA : List V → Hp → Prop} {k : Bool} {kvs : List (Key × V)} {xs ys : List V}
theorem x_seq (h : t ⟨u ⟨n, r, b, c⟩, r, b, c⟩ σ H) : tSeq t u ⟨n, r, b, c⟩ σ H := h
theorem x_next (h : n σ H) : tNext ⟨n, r, b, c⟩ σ H := h
theorem x_brk (h : b σ H) : tBreak ⟨n, r, b, c⟩ σ H := h
theorem x_cont (h : c σ H) : tCont ⟨n, r, b, c⟩ σ H := h
theorem x_asg (h : te σ H fun x H1 => g x σ H1 n) : tAsg te g ⟨n, r, b, c⟩ σ H := h
theorem x_name (h : QS (σ.set i (some v)) H) : gName i v σ H QS := h
theorem x_drop (h : te σ H fun _ H1 => n σ H1) : tDrop te ⟨n, r, b, c⟩ σ H := h
theorem x_ret (h : te σ H r) : tRet te ⟨n, r, b, c⟩ σ H := h
theorem x_retN (h : r .non H) : tRetN ⟨n, r, b, c⟩ σ H := h
theorem x_if (h : tt σ H fun k H1 => if k = true then t ⟨n, r, b, c⟩ σ H1 else u ⟨n, r, b, c⟩ σ H1) : tIfS tt t u ⟨n, r, b, c⟩ σ H := h
theorem x_var (e : σ[i]? = some (some v)) (h : Q v H) : tVar i σ H Q := ⟨v, e, h⟩
theorem x_c (h : Q v H) : tC v σ H Q := h
theorem x_op {o : R2} (h : ta σ H fun x H1 => tb σ H1 fun y H2 => o x y H2 Q) : tOp o ta tb σ H Q := h
theorem x_un {o : V → Hp → VK → Prop} (h : ta σ H fun x H1 => o x H1 Q) : tUn o ta σ H Q := h
theorem x_ifx (h : tt σ H fun k H1 => if k = true then ta σ H1 Q else tb σ H1 Q) : tIf tt ta tb σ H Q := h
theorem x_B (h : te σ H fun x H1 => ∃ c, x = .bl c ∧ QB c H1) : tB te σ H QB := h
theorem x_test (h : te σ H fun x H1 => ∃ c, x = .bl c ∧ QB c H1) : tTest te σ H QB := h
theorem y_bl (h : QB k H) : ∃ c, V.bl k = .bl c ∧ QB c H := ⟨k, rfl, h⟩
theorem x_and (h : tt σ H fun k H1 => if k = true then tu σ H1 QB else QB false H1) : tAnd tt tu σ H QB := h
theorem x_or (h : tt σ H fun k H1 => if k = true then QB true H1 else tu σ H1 QB) : tOr tt tu σ H QB := h
theorem x_not (h : tt σ H fun k H1 => QB (!k) H1) : tNot tt σ H QB := h
theorem x_andV (h : ta σ H fun x H1 => ∃ c, x = .bl c ∧ if c = true then tb σ H1 Q else Q (.bl false) H1) : tAndV ta tb σ H Q := h
theorem x_orV (h : ta σ H fun x H1 => ∃ c, x = .bl c ∧ if c = true then Q (.bl true) H1 else tb σ H1 Q) : tOrV ta tb σ H Q := h
theorem x_notV (h : ta σ H fun x H1 => ∃ c, x = .bl c ∧ Q (.bl (!c)) H1) : tNotV ta σ H Q := h
theorem y_blE {R : Bool → Prop} (h : R k) : ∃ c, V.bl k = .bl c ∧ R c := ⟨k, rfl, h⟩
theorem y_and {A B : Prop} (h : if k = true then A else B) : ∃ c, V.bl k = .bl c ∧ if c = true then A else B := ⟨k, rfl, h⟩
theorem x_nil (h : QA [] H) : tNil σ H QA := h
theorem x_cons (h : te σ H fun x H1 => tr σ H1 fun xs H2 => QA (x :: xs) H2) : tCons te tr σ H QA := h
theorem x_tup (h : tl σ H fun xs H1 => xs.length ≤ sizeLine ∧ ∀ p, H1 p = none → Q (.ref p) (upd H1 p (.tup xs))) : tTup tl σ H Q := h
theorem x_lst (h : tl σ H fun xs H1 => xs.length ≤ sizeLine ∧ ∀ p, H1 p = none → Q (.ref p) (upd H1 p (.lst xs))) : tLst tl σ H Q := h
theorem y_tup {R : Addr → Prop} (h1 : xs.length ≤ 9000) (h : ∀ p, H p = none → R p) : xs.length ≤ sizeLine ∧ ∀ p, H p = none → R p := ⟨Nat.le_of_lt (small9000 h1), h⟩
/-- attributes -/
def rFld (K : PySem.W.Frag) (f : Str) (x : V) (H : Hp) (Q : VK) : Prop := ∃ a C dx fs v, x = .ref a ∧ H a = some (.ins C dx fs) ∧ Cls K C ∧ NoAttr K C f ∧ fs.lookup f = some v ∧ Q v H
theorem x_fld (h : ta σ H fun x H1 => rFld K f x H1 Q) : tFld K ta f σ H Q := h
theorem y_fld (ho : H a = some (.ins C dx fs)) (hc : Cls K C) (hn : NoAttr K C f) (hl : fs.lookup f = some v) (q : Q v H) : rFld K f (.ref a) H Q := ⟨a, C, dx, fs, v, rfl, ho, hc, hn, hl, q⟩
def rSFld (K : PySem.W.Frag) (f : Str) (y x : V) (σ : L2.St) (H : Hp) (n : L2.St → Hp → Prop) : Prop := ∃ a C dx fs, x = .ref a ∧ H a = some (.ins C dx fs) ∧ Cls K C ∧ NoAttr K C f ∧ fs.length < 1000 ∧ n σ (upd H a (.ins C dx (putF f y fs)))
theorem x_sfld (h : tv σ H fun y H1 => ta σ H1 fun x H2 => rSFld K f y x σ H2 n) : sFld K ta tv f ⟨n, r, b, c⟩ σ H := h
theorem y_sfld {fs' : List (Str × V)} (ho : H a = some (.ins C dx fs)) (hc : Cls K C) (hn : NoAttr K C f) (hl : fs.length < 1000) (hp : putF f y fs = fs') (q : n σ (upd H a (.ins C dx fs'))) : rSFld K f y (.ref a) σ H n :=
  ⟨a, C, dx, fs, rfl, ho, hc, hn, hl, by rw [hp]; exact q⟩
/-- calls -/
def rMeth (m : Str) (C : Addr) (sp : Sp) (dvs : List V) (E : XK) (tl : TA) (σ : L2.St) (x : V) (H : Hp) (Q : VK) : Prop := ∃ a dx fs, x = .ref a ∧ H a = some (.ins C dx fs) ∧ fs.lookup m = none ∧ tl σ H fun vs H2 => sp (x :: (vs ++ dvs)) H2 Q E
theorem x_meth {sp : Sp} {dvs : List V} {E : XK} (h : ta σ H fun x H1 => rMeth m C sp dvs E tl σ x H1 Q) : tMeth C m sp dvs E ta tl σ H Q := h
theorem y_meth {sp : Sp} {dvs : List V} {E : XK} (ho : H a = some (.ins C dx fs)) (hl : fs.lookup m = none) (q : tl σ H fun vs H2 => sp (.ref a :: (vs ++ dvs)) H2 Q E) : rMeth m C sp dvs E tl σ (.ref a) H Q := ⟨a, dx, fs, rfl, ho, hl, q⟩
theorem x_call {sp : Sp} {dvs : List V} {E : XK} (h : tl σ H fun vs H1 => sp (vs ++ dvs) H1 Q E) : tCall sp dvs E tl σ H Q := h
theorem x_make {sp : Sp} {dvs : List V} {E : XK} (h : tl σ H fun vs H1 => ∀ x dx, H1 x = none → H1 dx = none → dx ≠ x → sp (.ref x :: (vs ++ dvs)) (upd (upd H1 dx (.own x)) x (.ins C dx [])) (fun v H2 => v = .non ∧ Q (.ref x) H2) E) :
    tMake C sp dvs E tl σ H Q := h
theorem x_cb {o : List V → Hp → VK → Prop} (h : tl σ H fun vs H1 => o vs H1 Q) : tCB o tl σ H Q := h
/-- dicts -/
theorem dget_rd {k : Key} {o : Option V} (e : Rd H a (.dK kvs)) (hy : y = kV k) (hl : valV kvs k = o) : DGet H a y o := .inl ⟨kvs, k, e, hy, hl.symm⟩
def rDGet (y : V) (x : V) (H : Hp) (Q : VK) : Prop := ∃ a v, x = .ref a ∧ DGet H a y (some v) ∧ Q v H
theorem x_dget (h : td σ H fun x H1 => ty σ H1 fun y H2 => rDGet y x H2 Q) : tDGet td ty σ H Q := h
theorem y_dgetS {s : Str} (hd : H a = some (.dK kvs)) (hl : valV kvs (Sum.inr s) = some v) (q : Q v H) : rDGet (.str s) (.ref a) H Q := ⟨a, v, rfl, dget_rd (k := Sum.inr s) (.inl hd) rfl hl, q⟩
theorem y_dgetI {j : Int} (hd : H a = some (.dK kvs)) (hl : valV kvs (Sum.inl j) = some v) (q : Q v H) : rDGet (.int j) (.ref a) H Q := ⟨a, v, rfl, dget_rd (k := Sum.inl j) (.inl hd) rfl hl, q⟩
theorem y_dgetK {j : Key} (hd : H a = some (.dK kvs)) (hl : valV kvs j = some v) (q : Q v H) : rDGet (kV j) (.ref a) H Q := ⟨a, v, rfl, dget_rd (k := j) (.inl hd) rfl hl, q⟩
theorem y_dgetR {j : Key} (hd : Rd H a (.dK kvs)) (hy : y = kV j) (hl : valV kvs j = some v) (q : Q v H) : rDGet y (.ref a) H Q := ⟨a, v, rfl, dget_rd (k := j) hd hy hl, q⟩
def rDIn (y : V) (x : V) (H : Hp) (Q : VK) : Prop := ∃ a o, x = .ref a ∧ DGet H a y o ∧ Q (.bl o.isSome) H
def rDNotIn (y : V) (x : V) (H : Hp) (Q : VK) : Prop := ∃ a o, x = .ref a ∧ DGet H a y o ∧ Q (.bl (!o.isSome)) H
theorem x_din (h : ty σ H fun y H1 => td σ H1 fun x H2 => rDIn y x H2 Q) : tDIn ty td σ H Q := h
theorem x_dnotin (h : ty σ H fun y H1 => td σ H1 fun x H2 => rDNotIn y x H2 Q) : tDNotIn ty td σ H Q := h
theorem y_din {j : Key} (hd : Rd H a (.dK kvs)) (hy : y = kV j) (q : Q (.bl (valV kvs j).isSome) H) : rDIn y (.ref a) H Q := ⟨a, _, rfl, dget_rd (k := j) hd hy rfl, q⟩
theorem y_dnotin {j : Key} (hd : Rd H a (.dK kvs)) (hy : y = kV j) (q : Q (.bl (!(valV kvs j).isSome)) H) : rDNotIn y (.ref a) H Q := ⟨a, _, rfl, dget_rd (k := j) hd hy rfl, q⟩
def rSDPut (v y x : V) (σ : L2.St) (H : Hp) (n : L2.St → Hp → Prop) : Prop := ∃ a H4, x = .ref a ∧ DPut H a y v H4 ∧ n σ H4
theorem x_dput (h : tv σ H fun v H1 => td σ H1 fun x H2 => ty σ H2 fun y H3 => rSDPut v y x σ H3 n) : sDPut td ty tv ⟨n, r, b, c⟩ σ H := h
theorem y_dput {j : Key} {kvs' : List (Key × V)} (hd : H a = some (.dK kvs)) (hy : y = kV j) (hz : kvs.length < sizeLine) (hp : putK kvs j v = kvs') (q : n σ (upd H a (.dK kvs'))) : rSDPut v y (.ref a) σ H n :=
  ⟨a, _, rfl, by rw [hy]; exact DPut.k hd hz, by rw [hp]; exact q⟩
theorem x_dnew (h : ∀ p, H p = none → Q (.ref p) (upd H p (.dK []))) : tDNewK σ H Q := h
def rDGet1 (y x : V) (H : Hp) (Q : VK) : Prop := ∃ a o, x = .ref a ∧ DGet H a y o ∧ Q (o.getD .non) H
/-- operators on values -/
theorem y_add {i j : Int} (q : Q (.int (i + j)) H) : rI0 (fun i j => .int (i + j)) (.int i) (.int j) H Q := ⟨i, j, rfl, rfl, q⟩
theorem y_I0 {G : Int → Int → V} {i j : Int} (q : Q (G i j) H) : rI0 G (.int i) (.int j) H Q := ⟨i, j, rfl, rfl, q⟩
theorem y_I {G : Int → Int → V} {P : Int → Int → Prop} {i j : Int} (hp : P i j) (q : Q (G i j) H) : rI P G (.int i) (.int j) H Q := ⟨i, j, rfl, rfl, hp, q⟩
theorem y_eq (hs : scal x y = true) (q : Q (.bl (decide (x = y))) H) : rEq x y H Q := ⟨hs, q⟩
theorem y_ne (hs : scal x y = true) (q : Q (.bl (!decide (x = y))) H) : rNe x y H Q := ⟨hs, q⟩
/-- lists, tuples -/
theorem sqL (h : H p = some (.lst xs)) : SqL K H p xs := .inl (.inl h)
theorem sqT (h : H p = some (.tup xs)) : SqT K H p xs := .inl (.inl h)
theorem y_ixL {i : Int} (h : H p = some (.lst xs)) (ha : atI xs i = some v) (q : Q v H) : rIxL K (.ref p) (.int i) H Q := ⟨p, xs, i, v, rfl, rfl, sqL h, ha, q⟩
theorem y_ixT {i : Int} (h : H p = some (.tup xs)) (ha : atI xs i = some v) (q : Q v H) : rIxT K (.ref p) (.int i) H Q := ⟨p, xs, i, v, rfl, rfl, sqT h, ha, q⟩
theorem x_bm {T : String} {o : V → List V → Hp → VK → Prop} (h : ta σ H fun x H1 => tyV K T x H1 ∧ tl σ H1 fun xs H2 => o x xs H2 Q) : tBM K T o ta tl σ H Q := h
theorem x_bm0 {T : String} {o : V → List V → Hp → VK → Prop} (h : ta σ H fun x H1 => tyV K T x H1 ∧ o x [] H1 Q) : tBM0 K T o ta σ H Q := h
theorem y_bmL {R : Prop} (h : H p = some (.lst xs)) (q : R) : tyV K "list" (.ref p) H ∧ R := ⟨.inl ⟨rfl, _, sqL h⟩, q⟩
theorem y_append (h : H p = some (.lst xs)) (hz : xs.length < sizeLine) (q : Q .non (upd H p (.lst (xs ++ [y])))) : rAppend (.ref p) [y] H Q := ⟨p, xs, y, rfl, rfl, h, hz, q⟩
theorem y_extend {l : Addr} (h : H p = some (.lst xs)) (h2 : H l = some (.lst ys)) (hz : xs.length + ys.length ≤ sizeLine) (q : Q .non (upd H p (.lst (xs ++ ys)))) : rExtend (.ref p) [.ref l] H Q := ⟨p, l, xs, ys, rfl, rfl, h, h2, hz, q⟩
theorem y_pop (h : H p = some (.lst xs)) (hl : xs[xs.length - 1]? = some y) (q : Q y (upd H p (.lst xs.dropLast))) : rPop (.ref p) [] H Q := ⟨p, xs, y, rfl, rfl, h, hl, q⟩
theorem x_gSub {to ti : TE} {o : V → V → V → Hp → (Hp → Prop) → Prop} (h : to σ H fun a H1 => ti σ H1 fun i H2 => o a i v H2 fun H3 => QS σ H3) : gSub to ti o v σ H QS := h
theorem y_setL {j : Int} {k : Nat} {QH : Hp → Prop} (h : H p = some (.lst xs)) (hk : ixN xs.length j = some k) (q : QH (upd H p (.lst (xs.set k v)))) : rSetL (.ref p) (.int j) v H QH := ⟨p, xs, j, k, rfl, rfl, h, hk, q⟩
theorem x_par {i j : Nat} (h : tl σ H fun vs H1 => ∃ v w, vs = [v, w] ∧ n ((σ.set i (some v)).set j (some w)) H1) : tPar i j tl ⟨n, r, b, c⟩ σ H := h
theorem y_par {R : V → V → Prop} (h : R x y) : ∃ v w, [x, y] = [v, w] ∧ R v w := ⟨x, y, rfl, h⟩
/-- tests -/
theorem y_dec {P : Prop} [Decidable P] {A B : Prop} (h1 : P → A) (h2 : ¬ P → B) : if decide P = true then A else B := by
  by_cases h : P
  · rw [if_pos (decide_eq_true h)]; exact h1 h
  · rw [if_neg (by simp [h])]; exact h2 h
theorem y_ndec {P : Prop} [Decidable P] {A B : Prop} (h1 : ¬ P → A) (h2 : P → B) : if (!decide P) = true then A else B := by
  by_cases h : P
  · rw [if_neg (by simp [h])]; exact h2 h
  · rw [if_pos (by simp [h])]; exact h1 h
theorem y_b {A B : Prop} (h1 : k = true → A) (h2 : k = false → B) : if k = true then A else B := by
  cases k with
  | true => rw [if_pos rfl]; exact h1 rfl
  | false => rw [if_neg Bool.false_ne_true]; exact h2 rfl
theorem y_nb {A B : Prop} (h1 : k = false → A) (h2 : k = true → B) : if (!k) = true then A else B := by
  cases k with
  | true => exact (if_neg (by decide : ¬ (!true) = true)).mpr (h2 rfl)
  | false => exact (if_pos (by decide : (!false) = true)).mpr (h1 rfl)
theorem y_T {P : Prop} [Decidable P] {A B : Prop} (hp : P) (h : A) : if decide P = true then A else B := by rw [if_pos (decide_eq_true hp)]; exact h
theorem y_F {P : Prop} [Decidable P] {A B : Prop} (hp : ¬ P) (h : B) : if decide P = true then A else B := by rw [if_neg (by simp [hp])]; exact h
theorem y_nT {P : Prop} [Decidable P] {A B : Prop} (hp : ¬ P) (h : A) : if (!decide P) = true then A else B := by rw [if_pos (by simp [hp])]; exact h
theorem y_nF {P : Prop} [Decidable P] {A B : Prop} (hp : P) (h : B) : if (!decide P) = true then A else B := by rw [if_neg (by simp [hp])]; exact h
theorem dec_congr {P P' : Prop} [Decidable P] [Decidable P'] (h : P ↔ P') : decide P = decide P' := by
  by_cases q : P
  · rw [decide_eq_true q, decide_eq_true (h.mp q)]
  · rw [decide_eq_false q, decide_eq_false fun z => q (h.mpr z)]
theorem v_int {i j : Int} : (V.int i = V.int j) = (i = j) := propext ⟨fun h => V.int.inj h, fun h => congrArg V.int h⟩
theorem v_str {i j : Str} : (V.str i = V.str j) = (i = j) := propext ⟨fun h => V.str.inj h, fun h => congrArg V.str h⟩
theorem at_all {α : Type} {P : α → Prop} {xs : List α} {i : Int} (h0 : 0 ≤ i) (h1 : i < (xs.length : Int)) (h : ∀ v ∈ xs, P v) : ∃ v, atI xs i = some v ∧ P v := by
  obtain ⟨j, rfl⟩ := Int.eq_ofNat_of_zero_le h0
  have hj : j < xs.length := by omega
  exact ⟨xs[j], atI_nat (List.getElem?_eq_getElem hj), h _ (List.getElem_mem hj)⟩
theorem at_get {α : Type} {xs : List α} {i : Int} {j : Nat} {v : α} (e : i = (j : Int)) (h : xs[j]? = some v) : atI xs i = some v := by rw [e]; exact atI_nat h
end
section
variable {K : PySem.W.Frag} {σ : L2.St} {H : Hp} {n b c : L2.St → Hp → Prop} {r : VK} {g : TG} {t : TS} {tl : TA} {tt : TT} {te td : TE} {Q : VK} {xs : List V} {a : Addr} {vs : List Nat}
/-! ### loops -/
/-- a for over what J walks -/
def rFor (g : TG) (t : TS) (n : L2.St → Hp → Prop) (r : VK) (J : It) (σ : L2.St) (H : Hp) : Prop := ∃ W : Nat → Nat → L2.St → Hp → Prop, (∃ m, W 0 m σ H) ∧ ∀ i m σ H, W i m σ H →
  (J.stop i H ∧ n σ H) ∨ (J.go i H ∧ ∃ N : L2.St → Hp → Prop, (∀ σ' H', N σ' H' → ∃ m', m' < m ∧ W (i + 1) m' σ' H') ∧ ∀ x H', J.yld i H x H' → g x σ H' fun σ2 H2 => t ⟨N, r, n, N⟩ σ2 H2)
theorem x_for {wi : TI} (h : wi σ H fun J H1 => rFor g t n r J σ H1) : tFor wi g t ⟨n, r, b, c⟩ σ H := h
theorem x_iL {R : It → Hp → Prop} (h : te σ H fun x H1 => ∃ a, x = .ref a ∧ (∃ xs, SqL K H1 a xs) ∧ R (Itl K a) H1) : iList K te σ H R := h
theorem x_iT {R : It → Hp → Prop} (h : te σ H fun x H1 => ∃ a, x = .ref a ∧ (∃ xs, SqT K H1 a xs) ∧ R (Itt K a) H1) : iTup K te σ H R := h
theorem x_iR {R : It → Hp → Prop} (h : tl σ H fun vs H1 => ∃ j : Int, vs = [.int j] ∧ -(2 ^ 62) ≤ j ∧ j < 2 ^ 62 ∧ R (Itr 0 j.toNat) H1) : iRng1 tl σ H R := h
theorem x_iR2 {R : It → Hp → Prop} (h : tl σ H fun vs H1 => ∃ i j : Int, vs = [.int i, .int j] ∧ (-(2 ^ 62) ≤ i ∧ i < 2 ^ 62 ∧ -(2 ^ 62) ≤ j ∧ j < 2 ^ 62) ∧ R (Itr i (j - i).toNat) H1) : iRng2 tl σ H R := h
theorem x_iS {R : It → Hp → Prop} (h : te σ H fun v H1 => ∃ x, v = .str x ∧ R (Its x) H1) : iStr te σ H R := h
theorem y_iL {R : Addr → Prop} (h : SqL K H a xs) (q : R a) : ∃ a', V.ref a = .ref a' ∧ (∃ xs, SqL K H a' xs) ∧ R a' := ⟨a, rfl, ⟨xs, h⟩, q⟩
theorem y_iT {R : Addr → Prop} (h : SqT K H a xs) (q : R a) : ∃ a', V.ref a = .ref a' ∧ (∃ xs, SqT K H a' xs) ∧ R a' := ⟨a, rfl, ⟨xs, h⟩, q⟩
theorem y_iR {R : Int → Prop} {j : Int} (h1 : -(2 ^ 62) ≤ j) (h2 : j < 2 ^ 62) (q : R j) : ∃ j' : Int, [V.int j] = [.int j'] ∧ -(2 ^ 62) ≤ j' ∧ j' < 2 ^ 62 ∧ R j' := ⟨j, rfl, h1, h2, q⟩
theorem y_iS {R : Str → Prop} {z : Str} (q : R z) : ∃ x, V.str z = .str x ∧ R x := ⟨z, rfl, q⟩
theorem y_forL (Pv : Nat → L2.St → Hp → Prop) (h0 : Pv 0 σ H) (hl : ∀ i σ H, i ≤ xs.length → Pv i σ H → SqL K H a xs)
    (hs : ∀ i x σ H, xs[i]? = some x → Pv i σ H → g x σ H fun σ2 H2 => t ⟨Pv (i + 1), r, n, Pv (i + 1)⟩ σ2 H2) (hd : ∀ σ H, Pv xs.length σ H → n σ H) : rFor g t n r (Itl K a) σ H :=
  for_list (D := ⟨n, r, n, n⟩) Pv h0 hl hs hd
theorem y_forT (Pv : Nat → L2.St → Hp → Prop) (h0 : Pv 0 σ H) (hl : ∀ i σ H, i ≤ xs.length → Pv i σ H → SqT K H a xs)
    (hs : ∀ i x σ H, xs[i]? = some x → Pv i σ H → g x σ H fun σ2 H2 => t ⟨Pv (i + 1), r, n, Pv (i + 1)⟩ σ2 H2) (hd : ∀ σ H, Pv xs.length σ H → n σ H) : rFor g t n r (Itt K a) σ H :=
  for_tup (D := ⟨n, r, n, n⟩) Pv h0 hl hs hd
theorem y_forR {lo : Int} {m : Nat} (Pv : Nat → L2.St → Hp → Prop) (h0 : Pv 0 σ H) (hs : ∀ i σ H, i < m → Pv i σ H → g (.int (lo + i)) σ H fun σ2 H2 => t ⟨Pv (i + 1), r, n, Pv (i + 1)⟩ σ2 H2)
    (hd : ∀ σ H, Pv m σ H → n σ H) : rFor g t n r (Itr lo m) σ H := for_range (D := ⟨n, r, n, n⟩) Pv h0 hs hd
theorem y_forS {z : Str} (Pv : Nat → L2.St → Hp → Prop) (h0 : Pv 0 σ H) (hs : ∀ i k σ H, z.cps[i]? = some k → Pv i σ H → g (.str ⟨#[k]⟩) σ H fun σ2 H2 => t ⟨Pv (i + 1), r, n, Pv (i + 1)⟩ σ2 H2)
    (hd : ∀ σ H, Pv z.cps.size σ H → n σ H) : rFor g t n r (Its z) σ H := by
  refine ⟨fun i m σ H => m = z.cps.size - i ∧ i ≤ z.cps.size ∧ Pv i σ H, ⟨z.cps.size, by simp, Nat.zero_le _, h0⟩, ?_⟩
  rintro i m σ H ⟨rfl, hi, p⟩
  by_cases hlt : i < z.cps.size
  · refine .inr ⟨hlt, Pv (i + 1), fun σ' H' p' => ⟨z.cps.size - (i + 1), by omega, rfl, hlt, p'⟩, fun x H' ye => ?_⟩
    obtain ⟨e, k, hk, ex⟩ := ye
    subst e ex
    exact hs i k σ _ hk p
  · have e : i = z.cps.size := by omega
    subst e
    exact .inl ⟨Nat.le_refl _, hd σ H p⟩
/-- the keys of a locked dict -/
theorem y_forK {d : Addr} {o : Obj} {kvs : List (Key × V)} (Pv : Nat → L2.St → Hp → Prop) (h0 : Pv 0 σ H) (hl : ∀ i σ H, i ≤ kvs.length → Pv i σ H → H d = some (.frz o (.dK kvs)))
    (hs : ∀ i k v σ H, kvs[i]? = some (k, v) → Pv i σ H → g (kV k) σ H fun σ2 H2 => t ⟨Pv (i + 1), r, n, Pv (i + 1)⟩ σ2 H2) (hd : ∀ σ H, Pv kvs.length σ H → n σ H) : rFor g t n r (Itk d o kvs) σ H := by
  refine ⟨fun i m σ H => m = kvs.length - i ∧ i ≤ kvs.length ∧ Pv i σ H, ⟨kvs.length, by simp, Nat.zero_le _, h0⟩, ?_⟩
  rintro i m σ H ⟨rfl, hi, p⟩
  by_cases hlt : i < kvs.length
  · refine .inr ⟨⟨hl i σ H hi p, hlt⟩, Pv (i + 1), fun σ' H' p' => ⟨kvs.length - (i + 1), by omega, rfl, hlt, p'⟩, fun x H' ye => ?_⟩
    obtain ⟨e, k, v, hk, ex⟩ := ye
    subst e ex
    exact hs i k v σ _ hk p
  · have e : i = kvs.length := by omega
    subst e
    exact .inl ⟨⟨hl _ σ H (Nat.le_refl _) p, Nat.le_refl _⟩, hd σ H p⟩
/-- while -/
def rW (t : TS) (n : L2.St → Hp → Prop) (r : VK) (W : Nat → L2.St → Hp → Prop) (m : Nat) (σ : L2.St) (k : Bool) (H1 : Hp) : Prop :=
  if k = true then ∃ N : L2.St → Hp → Prop, (∀ σ' H', N σ' H' → ∃ m', m' < m ∧ W m' σ' H') ∧ t ⟨N, r, n, N⟩ σ H1 else n σ H1
theorem x_while (W : Nat → L2.St → Hp → Prop) (m : Nat) (h0 : W m σ H) (hs : ∀ m σ H, W m σ H → tt σ H (rW t n r W m σ)) : tWhile tt t ⟨n, r, b, c⟩ σ H := ⟨W, ⟨m, h0⟩, hs⟩
theorem y_w {W : Nat → L2.St → Hp → Prop} {m : Nat} {k : Bool} (h1 : k = true → t ⟨fun σ' H' => ∃ m', m' < m ∧ W m' σ' H', r, n, fun σ' H' => ∃ m', m' < m ∧ W m' σ' H'⟩ σ H) (h2 : k = false → n σ H) : rW t n r W m σ k H := by
  unfold rW
  cases k with
  | true => rw [if_pos rfl]; exact ⟨_, fun _ _ z => z, h1 rfl⟩
  | false => rw [if_neg Bool.false_ne_true]; exact h2 rfl
/-! ### comprehensions -/
def rLc (g : TG) (tt : TT) (te : TE) (vs : List Nat) (Q : VK) (J : It) (σ : L2.St) (H : Hp) : Prop := ∀ D, H D = none → ∃ W : Nat → Nat → Hp → Prop, (∃ m, W 0 m (upd H D (.lst []))) ∧ ∀ i m H, W i m H →
  (J.stop i H ∧ Q (.ref D) H) ∨ (J.go i H ∧ ∃ Nx : Hp → Prop, (∀ H', Nx H' → ∃ m', m' < m ∧ W (i + 1) m' H') ∧ ∀ x H', J.yld i H x H' → g x (wipe σ vs) H' fun σ2 H2 => wipe σ2 vs = wipe σ vs ∧ tt σ2 H2 fun b H3 =>
    if b = true then te σ2 H3 fun y H4 => ∃ acc, H4 D = some (.lst acc) ∧ acc.length < sizeLine ∧ Nx (upd H4 D (.lst (acc ++ [y]))) else Nx H3)
theorem x_lc {wi : TI} (h : wi σ H fun J H1 => rLc g tt te vs Q J σ H1) : tLc wi g tt te vs σ H Q := h
/-- what a comprehension's turn is to reach -/
def LcP (P : Addr → Nat → List V → Hp → Prop) (D : Addr) (i : Nat) (H : Hp) : Prop := ∃ acc, H D = some (.lst acc) ∧ acc.length ≤ i ∧ P D i acc H
def rAdd (D : Addr) (Nx : Hp → Prop) (y : V) (H4 : Hp) : Prop := ∃ acc, H4 D = some (.lst acc) ∧ acc.length < sizeLine ∧ Nx (upd H4 D (.lst (acc ++ [y])))
def rTurn (g : TG) (tt : TT) (te : TE) (vs : List Nat) (σ : L2.St) (D : Addr) (Nx : Hp → Prop) (x : V) (H : Hp) : Prop :=
  g x (wipe σ vs) H fun σ2 H2 => wipe σ2 vs = wipe σ vs ∧ tt σ2 H2 fun b H3 => if b = true then te σ2 H3 (rAdd D Nx) else Nx H3
theorem y_turn {D : Addr} {Nx : Hp → Prop} {x : V} (h : g x (wipe σ vs) H fun σ2 H2 => wipe σ2 vs = wipe σ vs ∧ tt σ2 H2 fun b H3 => if b = true then te σ2 H3 (rAdd D Nx) else Nx H3) : rTurn g tt te vs σ D Nx x H := h
theorem y_put {P : Addr → Nat → List V → Hp → Prop} {D : Addr} {i : Nat} {acc : List V} {y : V} (hD : H D = some (.lst acc)) (hl : acc.length ≤ i) (hi : i < 90000) (hp : P D (i + 1) (acc ++ [y]) (upd H D (.lst (acc ++ [y])))) : rAdd D (LcP P D (i + 1)) y H :=
  ⟨acc, hD, Nat.lt_of_le_of_lt hl (Nat.lt_of_lt_of_le hi (by decide)), acc ++ [y], upd_same, by rw [List.length_append, List.length_singleton]; omega, hp⟩
theorem y_skip {P : Addr → Nat → List V → Hp → Prop} {D : Addr} {i : Nat} {acc : List V} (hD : H D = some (.lst acc)) (hl : acc.length ≤ i) (hp : P D (i + 1) acc H) : LcP P D (i + 1) H := ⟨acc, hD, Nat.le_succ_of_le hl, hp⟩
theorem y_yes {x : Bool → Hp → Prop} (h : x true H) : tYes σ H x := h
theorem y_lcL (P : Addr → Nat → List V → Hp → Prop) (h0 : ∀ D, H D = none → P D 0 [] (upd H D (.lst []))) (hl : ∀ D i acc H', H D = none → i ≤ xs.length → P D i acc H' → SqL K H' a xs)
    (hs : ∀ D i x acc H', H D = none → xs[i]? = some x → H' D = some (.lst acc) → acc.length ≤ i → P D i acc H' → rTurn g tt te vs σ D (LcP P D (i + 1)) x H')
    (hd : ∀ D acc H', H D = none → H' D = some (.lst acc) → P D xs.length acc H' → Q (.ref D) H') : rLc g tt te vs Q (Itl K a) σ H := by
  intro D hD
  refine lc_list (K := K) (a := a) (xs := xs) (Qd := Q (.ref D)) (LcP P D) ⟨[], upd_same, Nat.zero_le _, h0 D hD⟩ (fun i H' hi ⟨acc, _, _, p⟩ => hl D i acc H' hD hi p) (fun i x H' hx ⟨acc, e, l, p⟩ => ?_) fun H' ⟨acc, e, _, p⟩ => hd D acc H' hD e p
  exact hs D i x acc H' hD hx e l p
theorem y_lcT (P : Addr → Nat → List V → Hp → Prop) (h0 : ∀ D, H D = none → P D 0 [] (upd H D (.lst []))) (hl : ∀ D i acc H', H D = none → i ≤ xs.length → P D i acc H' → SqT K H' a xs)
    (hs : ∀ D i x acc H', H D = none → xs[i]? = some x → H' D = some (.lst acc) → acc.length ≤ i → P D i acc H' → rTurn g tt te vs σ D (LcP P D (i + 1)) x H')
    (hd : ∀ D acc H', H D = none → H' D = some (.lst acc) → P D xs.length acc H' → Q (.ref D) H') : rLc g tt te vs Q (Itt K a) σ H := by
  intro D hD
  refine lc_tup (K := K) (a := a) (xs := xs) (Qd := Q (.ref D)) (LcP P D) ⟨[], upd_same, Nat.zero_le _, h0 D hD⟩ (fun i H' hi ⟨acc, _, _, p⟩ => hl D i acc H' hD hi p) (fun i x H' hx ⟨acc, e, l, p⟩ => ?_) fun H' ⟨acc, e, _, p⟩ => hd D acc H' hD e p
  exact hs D i x acc H' hD hx e l p
theorem y_lcR {m : Nat} (P : Addr → Nat → List V → Hp → Prop) (h0 : ∀ D, H D = none → P D 0 [] (upd H D (.lst [])))
    (hs : ∀ D i acc H', H D = none → i < m → H' D = some (.lst acc) → acc.length ≤ i → P D i acc H' → rTurn g tt te vs σ D (LcP P D (i + 1)) (.int (i : Int)) H')
    (hd : ∀ D acc H', H D = none → H' D = some (.lst acc) → P D m acc H' → Q (.ref D) H') : rLc g tt te vs Q (Itr 0 m) σ H := by
  intro D hD
  refine lc_range (lo := 0) (n := m) (Qd := Q (.ref D)) (LcP P D) ⟨[], upd_same, Nat.zero_le _, h0 D hD⟩ (fun i H' hi ⟨acc, e, l, p⟩ => ?_) fun H' ⟨acc, e, _, p⟩ => hd D acc H' hD e p
  have e0 : (0 : Int) + (i : Int) = (i : Int) := Int.zero_add _
  rw [e0]
  exact hs D i acc H' hD hi e l p
theorem y_lcS {z : Str} (P : Addr → Nat → List V → Hp → Prop) (h0 : ∀ D, H D = none → P D 0 [] (upd H D (.lst [])))
    (hs : ∀ D i k acc H', H D = none → z.cps[i]? = some k → H' D = some (.lst acc) → acc.length ≤ i → P D i acc H' → rTurn g tt te vs σ D (LcP P D (i + 1)) (.str ⟨#[k]⟩) H')
    (hd : ∀ D acc H', H D = none → H' D = some (.lst acc) → P D z.cps.size acc H' → Q (.ref D) H') : rLc g tt te vs Q (Its z) σ H := by
  intro D hD
  refine ⟨fun i m H' => m = z.cps.size - i ∧ i ≤ z.cps.size ∧ LcP P D i H', ⟨z.cps.size, by simp, Nat.zero_le _, ⟨[], upd_same, Nat.zero_le _, h0 D hD⟩⟩, ?_⟩
  rintro i m H' ⟨rfl, hi, acc, e, l, p⟩
  by_cases hlt : i < z.cps.size
  · refine .inr ⟨hlt, LcP P D (i + 1), fun H'' p' => ⟨z.cps.size - (i + 1), by omega, rfl, hlt, p'⟩, fun x H'' ye => ?_⟩
    obtain ⟨eh, k, hk, ex⟩ := ye
    subst eh ex
    exact hs D i k acc _ hD hk e l p
  · have ei : i = z.cps.size := by omega
    subst ei
    exact .inl ⟨Nat.le_refl _, hd D acc H' hD e p⟩
theorem y_lcK {d : Addr} {o : Obj} {kvs : List (Key × V)} (P : Addr → Nat → List V → Hp → Prop) (h0 : ∀ D, H D = none → P D 0 [] (upd H D (.lst []))) (hl : ∀ D i acc H', H D = none → i ≤ kvs.length → P D i acc H' → H' d = some (.frz o (.dK kvs)))
    (hs : ∀ D i k v acc H', H D = none → kvs[i]? = some (k, v) → H' D = some (.lst acc) → acc.length ≤ i → P D i acc H' → rTurn g tt te vs σ D (LcP P D (i + 1)) (kV k) H')
    (hd : ∀ D acc H', H D = none → H' D = some (.lst acc) → P D kvs.length acc H' → Q (.ref D) H') : rLc g tt te vs Q (Itk d o kvs) σ H := by
  intro D hD
  refine ⟨fun i m H' => m = kvs.length - i ∧ i ≤ kvs.length ∧ LcP P D i H', ⟨kvs.length, by simp, Nat.zero_le _, ⟨[], upd_same, Nat.zero_le _, h0 D hD⟩⟩, ?_⟩
  rintro i m H' ⟨rfl, hi, acc, e, l, p⟩
  by_cases hlt : i < kvs.length
  · refine .inr ⟨⟨hl D i acc H' hD hi p, hlt⟩, LcP P D (i + 1), fun H'' p' => ⟨kvs.length - (i + 1), by omega, rfl, hlt, p'⟩, fun x H'' ye => ?_⟩
    obtain ⟨eh, k, v, hk, ex⟩ := ye
    subst eh ex
    exact hs D i k v acc _ hD hk e l p
  · have ei : i = kvs.length := by omega
    subst ei
    exact .inl ⟨⟨hl D _ acc H' hD (Nat.le_refl _) p, Nat.le_refl _⟩, hd D acc H' hD e p⟩
end
/-! ### calls without arguments -/
section
variable {X : Cx} {k j : Nat} {C : Addr} {x : Str} {sp : Sp} {dvs : List V} {p pos : Pos}
theorem pe_c0 (c : C8.Cal X.prog X.w X.K X.mg X.base k x sp dvs) (hr : Room j X.A) (hk : k ≤ j) (hg : Gl X x) (hd : (x == ("__debug__" : Str)) = false := by decide) : PE X (.Call (.Name x p) [] [] pos) (tCall sp dvs C8.E0 tNil) := by
  obtain ⟨f, fd, ps, ds, F, hm, kp, b, d⟩ := c.ex
  exact pe_call0 F (hr.mono hk) hg hm kp b d C8.pass0 (hdb := hd)
theorem pe_mk0 (c : C8.Mak X.prog X.w X.K X.mg X.base k x C sp dvs) (hr : Room j X.A) (hk : k + 1 ≤ j) (hg : Gl X x) (hd : (x == ("__debug__" : Str)) = false := by decide) : PE X (.Call (.Name x p) [] [] pos) (tMake C sp dvs C8.E0 tNil) := by
  obtain ⟨f, fd, ps, ds, M, F, hm, b, d⟩ := c.ex
  exact pe_make0 M F (hr.mono hk) hg hm b d C8.pass0 (hdb := hd)
end
/-! ### promises by their arguments -/
@[reducible] def Sp0 (F : Hp → VK → Prop) : Sp := fun vs H Q _ => vs = [] ∧ F H Q
@[reducible] def Sp1 (F : V → Hp → VK → Prop) : Sp := fun vs H Q _ => ∃ a, vs = [a] ∧ F a H Q
@[reducible] def Sp2 (F : V → V → Hp → VK → Prop) : Sp := fun vs H Q _ => ∃ a b, vs = [a, b] ∧ F a b H Q
@[reducible] def Sp3 (F : V → V → V → Hp → VK → Prop) : Sp := fun vs H Q _ => ∃ a b c, vs = [a, b, c] ∧ F a b c H Q
@[reducible] def Sp4 (F : V → V → V → V → Hp → VK → Prop) : Sp := fun vs H Q _ => ∃ a b c d, vs = [a, b, c, d] ∧ F a b c d H Q
section
variable {a b c d : V} {H : Hp} {Q : VK} {E : XK} {vs : List V}
theorem Sp0.len {F : Hp → VK → Prop} (h : Sp0 F vs H Q E) : vs.length = 0 := by obtain ⟨rfl, _⟩ := h; rfl
theorem Sp1.len {F : V → Hp → VK → Prop} (h : Sp1 F vs H Q E) : vs.length = 1 := by obtain ⟨_, rfl, _⟩ := h; rfl
theorem Sp2.len {F : V → V → Hp → VK → Prop} (h : Sp2 F vs H Q E) : vs.length = 2 := by obtain ⟨_, _, rfl, _⟩ := h; rfl
theorem Sp3.len {F : V → V → V → Hp → VK → Prop} (h : Sp3 F vs H Q E) : vs.length = 3 := by obtain ⟨_, _, _, rfl, _⟩ := h; rfl
theorem Sp4.len {F : V → V → V → V → Hp → VK → Prop} (h : Sp4 F vs H Q E) : vs.length = 4 := by obtain ⟨_, _, _, _, rfl, _⟩ := h; rfl
theorem x_sp0 {F : Hp → VK → Prop} (h : F H Q) : Sp0 F ([] ++ []) H Q E := ⟨rfl, h⟩
theorem x_sp1 {F : V → Hp → VK → Prop} (h : F a H Q) : Sp1 F ([a] ++ []) H Q E := ⟨a, rfl, h⟩
theorem x_sp2 {F : V → V → Hp → VK → Prop} (h : F a b H Q) : Sp2 F ([a, b] ++ []) H Q E := ⟨a, b, rfl, h⟩
theorem x_sp3 {F : V → V → V → Hp → VK → Prop} (h : F a b c H Q) : Sp3 F ([a, b, c] ++ []) H Q E := ⟨a, b, c, rfl, h⟩
theorem x_sp4 {F : V → V → V → V → Hp → VK → Prop} (h : F a b c d H Q) : Sp4 F ([a, b, c, d] ++ []) H Q E := ⟨a, b, c, d, rfl, h⟩
theorem x_sm0 {F : V → Hp → VK → Prop} (h : F a H Q) : Sp1 F (a :: ([] ++ [])) H Q E := ⟨a, rfl, h⟩
theorem x_sm1 {F : V → V → Hp → VK → Prop} (h : F a b H Q) : Sp2 F (a :: ([b] ++ [])) H Q E := ⟨a, b, rfl, h⟩
theorem x_sm2 {F : V → V → V → Hp → VK → Prop} (h : F a b c H Q) : Sp3 F (a :: ([b, c] ++ [])) H Q E := ⟨a, b, c, rfl, h⟩
theorem x_sm3 {F : V → V → V → V → Hp → VK → Prop} (h : F a b c d H Q) : Sp4 F (a :: ([b, c, d] ++ [])) H Q E := ⟨a, b, c, d, rfl, h⟩
end
theorem cx_K {CX : CXT} {P : Program} {w : World} {K : PySem.W.Frag} {mg : Str → Option Value} {base : Heap} {N : List Str} {qual : Str} {scope : Scope} {f : Addr} {cd : Value} {A : Around} {outer : List Env} {s : Shared} {H : Hp} {E : XK} : (cxOf CX P w K mg base N qual scope f cd A outer s H E).nox.K = K := rfl
theorem cx_w {CX : CXT} {P : Program} {w : World} {K : PySem.W.Frag} {mg : Str → Option Value} {base : Heap} {N : List Str} {qual : Str} {scope : Scope} {f : Addr} {cd : Value} {A : Around} {outer : List Env} {s : Shared} {H : Hp} {E : XK} : (cxOf CX P w K mg base N qual scope f cd A outer s H E).nox.w = w := rfl
theorem Same.new {H : Hp} {a : Addr} {o : HO} (h : H a = none) : Same H (upd H a o) := fun b u e => by rw [upd_ne (ne_of_none e h)]; exact e
theorem y_listof {K : PySem.W.Frag} {H : Hp} {a : Addr} {xs : List V} {R : Addr → List V → Prop} (h : SqL K H a xs) (q : ∀ l, H l = none → R l xs) : ∃ p ys, [V.ref a] = [V.ref p] ∧ (SqL K H p ys ∨ SqT K H p ys) ∧ ∀ l, H l = none → R l ys := ⟨a, xs, rfl, .inl h, q⟩
theorem y_lenL {K : PySem.W.Frag} {H : Hp} {a : Addr} {xs : List V} {R : List V → Prop} (h : SqL K H a xs) (q : R xs) : ∃ p ys, [V.ref a] = [V.ref p] ∧ (SqL K H p ys ∨ SqT K H p ys) ∧ R ys := ⟨a, xs, rfl, .inl h, q⟩
theorem y_lenT {K : PySem.W.Frag} {H : Hp} {a : Addr} {xs : List V} {R : List V → Prop} (h : SqT K H a xs) (q : R xs) : ∃ p ys, [V.ref a] = [V.ref p] ∧ (SqL K H p ys ∨ SqT K H p ys) ∧ R ys := ⟨a, xs, rfl, .inr h, q⟩
theorem y_lenD {H : Hp} {a : Addr} {kvs : List (Key × V)} {R : List (Key × V) → Prop} (h : H a = some (.dK kvs)) (q : R kvs) : ∃ p ys, [V.ref a] = [V.ref p] ∧ H p = some (.dK ys) ∧ R ys := ⟨a, kvs, rfl, h, q⟩
theorem y_2I {i j : Int} {R : Int → Int → Prop} (q : R i j) : ∃ i' j', [V.int i, V.int j] = [.int i', .int j'] ∧ R i' j' := ⟨i, j, rfl, q⟩

def top (i : Nat) : Stmt := PySem.Challenge.pw_whokeeps_k25_whole_a_leak_is_shown.main.body.getD i (.Pass ⟨0, 0, 0, 0⟩)
abbrev s_is_name : Stmt := top 15
abbrev N_is_name : List Str := ["part"]
theorem sc_is_name : FnScope N_is_name ["part"] (fnScope s_is_name) := fnScope_by (by decide +kernel)
def d_is_name : He.DefD := ⟨("is_name", none), "is_name", "is_name", fnArgs s_is_name, fnBody s_is_name, fnScope s_is_name, [], []⟩
abbrev s_is_number : Stmt := top 16
abbrev N_is_number : List Str := ["part", "most"]
theorem sc_is_number : FnScope N_is_number ["part", "most"] (fnScope s_is_number) := fnScope_by (by decide +kernel)
def d_is_number : He.DefD := ⟨("is_number", none), "is_number", "is_number", fnArgs s_is_number, fnBody s_is_number, fnScope s_is_number, [], []⟩
abbrev s_is_part : Stmt := top 17
abbrev N_is_part : List Str := ["part"]
theorem sc_is_part : FnScope N_is_part ["part"] (fnScope s_is_part) := fnScope_by (by decide +kernel)
def d_is_part : He.DefD := ⟨("is_part", none), "is_part", "is_part", fnArgs s_is_part, fnBody s_is_part, fnScope s_is_part, [], []⟩
abbrev s_is_of : Stmt := top 18
abbrev N_is_of : List Str := ["part", "shape"]
theorem sc_is_of : FnScope N_is_of ["part", "shape"] (fnScope s_is_of) := fnScope_by (by decide +kernel)
def d_is_of : He.DefD := ⟨("is_of", none), "is_of", "is_of", fnArgs s_is_of, fnBody s_is_of, fnScope s_is_of, [], []⟩
abbrev s_is_deed : Stmt := top 19
abbrev N_is_deed : List Str := ["deed", "shapes", "k"]
theorem sc_is_deed : FnScope N_is_deed ["deed"] (fnScope s_is_deed) := fnScope_by (by decide +kernel)
def d_is_deed : He.DefD := ⟨("is_deed", none), "is_deed", "is_deed", fnArgs s_is_deed, fnBody s_is_deed, fnScope s_is_deed, [], []⟩
abbrev s_need_deed : Stmt := top 20
abbrev N_need_deed : List Str := ["deed"]
theorem sc_need_deed : FnScope N_need_deed ["deed"] (fnScope s_need_deed) := fnScope_by (by decide +kernel)
def d_need_deed : He.DefD := ⟨("need_deed", none), "need_deed", "need_deed", fnArgs s_need_deed, fnBody s_need_deed, fnScope s_need_deed, [], []⟩
abbrev s_need_program : Stmt := top 21
abbrev N_need_program : List Str := ["program", "place", "deed"]
theorem sc_need_program : FnScope N_need_program ["program"] (fnScope s_need_program) := fnScope_by (by decide +kernel)
def d_need_program : He.DefD := ⟨("need_program", none), "need_program", "need_program", fnArgs s_need_program, fnBody s_need_program, fnScope s_need_program, [], []⟩
abbrev s_number_of : Stmt := top 24
abbrev N_number_of : List Str := ["value"]
theorem sc_number_of : FnScope N_number_of ["value"] (fnScope s_number_of) := fnScope_by (by decide +kernel)
def d_number_of : He.DefD := ⟨("number_of", none), "number_of", "number_of", fnArgs s_number_of, fnBody s_number_of, fnScope s_number_of, [], []⟩
abbrev s_Graph_init : Stmt := (clsBody (top 25)).getD 0 (.Pass ⟨0, 0, 0, 0⟩)
abbrev N_Graph_init : List Str := ["self", "photo", "names", "things", "k", "number", "kind", "parts", "size", "part", "value"]
theorem sc_Graph_init : FnScope N_Graph_init ["self", "photo"] (fnScope s_Graph_init) := fnScope_by (by decide +kernel)
def d_Graph_init : He.DefD := ⟨("Graph", some "__init__"), "__init__", "Graph.__init__", fnArgs s_Graph_init, fnBody s_Graph_init, fnScope s_Graph_init, [], []⟩
abbrev s_Graph_need : Stmt := (clsBody (top 25)).getD 1 (.Pass ⟨0, 0, 0, 0⟩)
abbrev N_Graph_need : List Str := ["self", "number"]
theorem sc_Graph_need : FnScope N_Graph_need ["self", "number"] (fnScope s_Graph_need) := fnScope_by (by decide +kernel)
def d_Graph_need : He.DefD := ⟨("Graph", some "need"), "need", "Graph.need", fnArgs s_Graph_need, fnBody s_Graph_need, fnScope s_Graph_need, [], []⟩
abbrev s_Graph_order : Stmt := (clsBody (top 25)).getD 3 (.Pass ⟨0, 0, 0, 0⟩)
abbrev N_Graph_order : List Str := ["self", "met", "found", "left", "number", "place", "other"]
theorem sc_Graph_order : FnScope N_Graph_order ["self"] (fnScope s_Graph_order) := fnScope_by (by decide +kernel)
def d_Graph_order : He.DefD := ⟨("Graph", some "order"), "order", "Graph.order", fnArgs s_Graph_order, fnBody s_Graph_order, fnScope s_Graph_order, [], []⟩
abbrev s_Graph_from_where : Stmt := (clsBody (top 25)).getD 4 (.Pass ⟨0, 0, 0, 0⟩)
abbrev N_Graph_from_where : List Str := ["self", "found", "number", "text", "other"]
theorem sc_Graph_from_where : FnScope N_Graph_from_where ["self"] (fnScope s_Graph_from_where) := fnScope_by (by decide +kernel)
def d_Graph_from_where : He.DefD := ⟨("Graph", some "from_where"), "from_where", "Graph.from_where", fnArgs s_Graph_from_where, fnBody s_Graph_from_where, fnScope s_Graph_from_where, [], []⟩
abbrev s_Graph_masters : Stmt := (clsBody (top 25)).getD 5 (.Pass ⟨0, 0, 0, 0⟩)
abbrev N_Graph_masters : List Str := ["self", "order", "ranks", "holders", "found", "turned", "number", "some", "best", "one", "k"]
theorem sc_Graph_masters : FnScope N_Graph_masters ["self"] (fnScope s_Graph_masters) := fnScope_by (by decide +kernel)
def d_Graph_masters : He.DefD := ⟨("Graph", some "masters"), "masters", "Graph.masters", fnArgs s_Graph_masters, fnBody s_Graph_masters, fnScope s_Graph_masters, [], []⟩
abbrev s_Graph_totals : Stmt := (clsBody (top 25)).getD 6 (.Pass ⟨0, 0, 0, 0⟩)
abbrev N_Graph_totals : List Str := ["self", "masters", "found", "number"]
theorem sc_Graph_totals : FnScope N_Graph_totals ["self"] (fnScope s_Graph_totals) := fnScope_by (by decide +kernel)
def d_Graph_totals : He.DefD := ⟨("Graph", some "totals"), "totals", "Graph.totals", fnArgs s_Graph_totals, fnBody s_Graph_totals, fnScope s_Graph_totals, [], []⟩
abbrev s_nearest : Stmt := top 26
abbrev N_nearest : List Str := ["masters", "ranks", "one", "other"]
theorem sc_nearest : FnScope N_nearest ["masters", "ranks", "one", "other"] (fnScope s_nearest) := fnScope_by (by decide +kernel)
def d_nearest : He.DefD := ⟨("nearest", none), "nearest", "nearest", fnArgs s_nearest, fnBody s_nearest, fnScope s_nearest, [], []⟩
abbrev s_keeps : Stmt := top 27
abbrev N_keeps : List Str := ["photo", "number", "graph", "masters", "found", "other", "here"]
theorem sc_keeps : FnScope N_keeps ["photo", "number"] (fnScope s_keeps) := fnScope_by (by decide +kernel)
def d_keeps : He.DefD := ⟨("keeps", none), "keeps", "keeps", fnArgs s_keeps, fnBody s_keeps, fnScope s_keeps, [], []⟩
abbrev s_totals : Stmt := top 28
abbrev N_totals : List Str := ["photo", "found", "number"]
theorem sc_totals : FnScope N_totals ["photo"] (fnScope s_totals) := fnScope_by (by decide +kernel)
def d_totals : He.DefD := ⟨("totals", none), "totals", "totals", fnArgs s_totals, fnBody s_totals, fnScope s_totals, [], []⟩
abbrev s_Ref_init : Stmt := (clsBody (top 35)).getD 0 (.Pass ⟨0, 0, 0, 0⟩)
abbrev N_Ref_init : List Str := ["self", "number"]
theorem sc_Ref_init : FnScope N_Ref_init ["self", "number"] (fnScope s_Ref_init) := fnScope_by (by decide +kernel)
def d_Ref_init : He.DefD := ⟨("Ref", some "__init__"), "__init__", "Ref.__init__", fnArgs s_Ref_init, fnBody s_Ref_init, fnScope s_Ref_init, [], []⟩
abbrev s_value_told : Stmt := top 36
abbrev N_value_told : List Str := ["value"]
theorem sc_value_told : FnScope N_value_told ["value"] (fnScope s_value_told) := fnScope_by (by decide +kernel)
def d_value_told : He.DefD := ⟨("value_told", none), "value_told", "value_told", fnArgs s_value_told, fnBody s_value_told, fnScope s_value_told, [], []⟩
abbrev s_Thing_init : Stmt := (clsBody (top 37)).getD 0 (.Pass ⟨0, 0, 0, 0⟩)
abbrev N_Thing_init : List Str := ["self", "kind", "letter"]
theorem sc_Thing_init : FnScope N_Thing_init ["self", "kind"] (fnScope s_Thing_init) := fnScope_by (by decide +kernel)
def d_Thing_init : He.DefD := ⟨("Thing", some "__init__"), "__init__", "Thing.__init__", fnArgs s_Thing_init, fnBody s_Thing_init, fnScope s_Thing_init, [], []⟩
abbrev s_Thing_has : Stmt := (clsBody (top 37)).getD 1 (.Pass ⟨0, 0, 0, 0⟩)
abbrev N_Thing_has : List Str := ["self", "part"]
theorem sc_Thing_has : FnScope N_Thing_has ["self", "part"] (fnScope s_Thing_has) := fnScope_by (by decide +kernel)
def d_Thing_has : He.DefD := ⟨("Thing", some "has"), "has", "Thing.has", fnArgs s_Thing_has, fnBody s_Thing_has, fnScope s_Thing_has, [], []⟩
abbrev s_Thing_may_get : Stmt := (clsBody (top 37)).getD 2 (.Pass ⟨0, 0, 0, 0⟩)
abbrev N_Thing_may_get : List Str := ["self", "part"]
theorem sc_Thing_may_get : FnScope N_Thing_may_get ["self", "part"] (fnScope s_Thing_may_get) := fnScope_by (by decide +kernel)
def d_Thing_may_get : He.DefD := ⟨("Thing", some "may_get"), "may_get", "Thing.may_get", fnArgs s_Thing_may_get, fnBody s_Thing_may_get, fnScope s_Thing_may_get, [], []⟩
abbrev s_Thing_cut : Stmt := (clsBody (top 37)).getD 3 (.Pass ⟨0, 0, 0, 0⟩)
abbrev N_Thing_cut : List Str := ["self", "part", "value", "values_left", "place"]
theorem sc_Thing_cut : FnScope N_Thing_cut ["self", "part"] (fnScope s_Thing_cut) := fnScope_by (by decide +kernel)
def d_Thing_cut : He.DefD := ⟨("Thing", some "cut"), "cut", "Thing.cut", fnArgs s_Thing_cut, fnBody s_Thing_cut, fnScope s_Thing_cut, [], []⟩
abbrev s_Thing_parts : Stmt := (clsBody (top 37)).getD 4 (.Pass ⟨0, 0, 0, 0⟩)
abbrev N_Thing_parts : List Str := ["self", "part"]
theorem sc_Thing_parts : FnScope N_Thing_parts ["self"] (fnScope s_Thing_parts) := fnScope_by (by decide +kernel)
def d_Thing_parts : He.DefD := ⟨("Thing", some "parts"), "parts", "Thing.parts", fnArgs s_Thing_parts, fnBody s_Thing_parts, fnScope s_Thing_parts, [], []⟩
abbrev s_Thing_holds : Stmt := (clsBody (top 37)).getD 5 (.Pass ⟨0, 0, 0, 0⟩)
abbrev N_Thing_holds : List Str := ["self", "part", "value"]
theorem sc_Thing_holds : FnScope N_Thing_holds ["self"] (fnScope s_Thing_holds) := fnScope_by (by decide +kernel)
def d_Thing_holds : He.DefD := ⟨("Thing", some "holds"), "holds", "Thing.holds", fnArgs s_Thing_holds, fnBody s_Thing_holds, fnScope s_Thing_holds, [], []⟩
abbrev s_Thing_size : Stmt := (clsBody (top 37)).getD 6 (.Pass ⟨0, 0, 0, 0⟩)
abbrev N_Thing_size : List Str := ["self"]
theorem sc_Thing_size : FnScope N_Thing_size ["self"] (fnScope s_Thing_size) := fnScope_by (by decide +kernel)
def d_Thing_size : He.DefD := ⟨("Thing", some "size"), "size", "Thing.size", fnArgs s_Thing_size, fnBody s_Thing_size, fnScope s_Thing_size, [], []⟩
abbrev s_Heap_init : Stmt := (clsBody (top 38)).getD 0 (.Pass ⟨0, 0, 0, 0⟩)
abbrev N_Heap_init : List Str := ["self", "name"]
theorem sc_Heap_init : FnScope N_Heap_init ["self"] (fnScope s_Heap_init) := fnScope_by (by decide +kernel)
def d_Heap_init : He.DefD := ⟨("Heap", some "__init__"), "__init__", "Heap.__init__", fnArgs s_Heap_init, fnBody s_Heap_init, fnScope s_Heap_init, [], []⟩
abbrev s_Heap_make : Stmt := (clsBody (top 38)).getD 1 (.Pass ⟨0, 0, 0, 0⟩)
abbrev N_Heap_make : List Str := ["self", "kind"]
theorem sc_Heap_make : FnScope N_Heap_make ["self", "kind"] (fnScope s_Heap_make) := fnScope_by (by decide +kernel)
def d_Heap_make : He.DefD := ⟨("Heap", some "make"), "make", "Heap.make", fnArgs s_Heap_make, fnBody s_Heap_make, fnScope s_Heap_make, [], []⟩
abbrev s_Heap_thing_of : Stmt := (clsBody (top 38)).getD 2 (.Pass ⟨0, 0, 0, 0⟩)
abbrev N_Heap_thing_of : List Str := ["self", "name", "value"]
theorem sc_Heap_thing_of : FnScope N_Heap_thing_of ["self", "name"] (fnScope s_Heap_thing_of) := fnScope_by (by decide +kernel)
def d_Heap_thing_of : He.DefD := ⟨("Heap", some "thing_of"), "thing_of", "Heap.thing_of", fnArgs s_Heap_thing_of, fnBody s_Heap_thing_of, fnScope s_Heap_thing_of, [], []⟩
abbrev s_Heap_of_names : Stmt := (clsBody (top 38)).getD 3 (.Pass ⟨0, 0, 0, 0⟩)
abbrev N_Heap_of_names : List Str := ["self", "name"]
theorem sc_Heap_of_names : FnScope N_Heap_of_names ["self"] (fnScope s_Heap_of_names) := fnScope_by (by decide +kernel)
def d_Heap_of_names : He.DefD := ⟨("Heap", some "of_names"), "of_names", "Heap.of_names", fnArgs s_Heap_of_names, fnBody s_Heap_of_names, fnScope s_Heap_of_names, [], []⟩
abbrev s_Heap_due : Stmt := (clsBody (top 38)).getD 4 (.Pass ⟨0, 0, 0, 0⟩)
abbrev N_Heap_due : List Str := ["self", "number"]
theorem sc_Heap_due : FnScope N_Heap_due ["self"] (fnScope s_Heap_due) := fnScope_by (by decide +kernel)
def d_Heap_due : He.DefD := ⟨("Heap", some "due"), "due", "Heap.due", fnArgs s_Heap_due, fnBody s_Heap_due, fnScope s_Heap_due, [], []⟩
abbrev s_Heap_closed : Stmt := (clsBody (top 38)).getD 5 (.Pass ⟨0, 0, 0, 0⟩)
abbrev N_Heap_closed : List Str := ["self", "numbers", "found", "left", "number"]
theorem sc_Heap_closed : FnScope N_Heap_closed ["self", "numbers"] (fnScope s_Heap_closed) := fnScope_by (by decide +kernel)
def d_Heap_closed : He.DefD := ⟨("Heap", some "closed"), "closed", "Heap.closed", fnArgs s_Heap_closed, fnBody s_Heap_closed, fnScope s_Heap_closed, [], []⟩
abbrev s_Heap_reach : Stmt := (clsBody (top 38)).getD 6 (.Pass ⟨0, 0, 0, 0⟩)
abbrev N_Heap_reach : List Str := ["self"]
theorem sc_Heap_reach : FnScope N_Heap_reach ["self"] (fnScope s_Heap_reach) := fnScope_by (by decide +kernel)
def d_Heap_reach : He.DefD := ⟨("Heap", some "reach"), "reach", "Heap.reach", fnArgs s_Heap_reach, fnBody s_Heap_reach, fnScope s_Heap_reach, [], []⟩
abbrev s_Doer_init : Stmt := (clsBody (top 41)).getD 0 (.Pass ⟨0, 0, 0, 0⟩)
abbrev N_Doer_init : List Str := ["self"]
theorem sc_Doer_init : FnScope N_Doer_init ["self"] (fnScope s_Doer_init) := fnScope_by (by decide +kernel)
def d_Doer_init : He.DefD := ⟨("Doer", some "__init__"), "__init__", "Doer.__init__", fnArgs s_Doer_init, fnBody s_Doer_init, fnScope s_Doer_init, [], []⟩
abbrev s_Doer_do : Stmt := (clsBody (top 41)).getD 1 (.Pass ⟨0, 0, 0, 0⟩)
abbrev N_Doer_do : List Str := ["self", "deed", "word"]
theorem sc_Doer_do : FnScope N_Doer_do ["self", "deed"] (fnScope s_Doer_do) := fnScope_by (by decide +kernel)
def d_Doer_do : He.DefD := ⟨("Doer", some "do"), "do", "Doer.do", fnArgs s_Doer_do, fnBody s_Doer_do, fnScope s_Doer_do, [], []⟩
abbrev s_Doer_hold : Stmt := (clsBody (top 41)).getD 2 (.Pass ⟨0, 0, 0, 0⟩)
abbrev N_Doer_hold : List Str := ["self", "name", "value"]
theorem sc_Doer_hold : FnScope N_Doer_hold ["self", "name", "value"] (fnScope s_Doer_hold) := fnScope_by (by decide +kernel)
def d_Doer_hold : He.DefD := ⟨("Doer", some "hold"), "hold", "Doer.hold", fnArgs s_Doer_hold, fnBody s_Doer_hold, fnScope s_Doer_hold, [], []⟩
abbrev s_Doer_do_make : Stmt := (clsBody (top 41)).getD 3 (.Pass ⟨0, 0, 0, 0⟩)
abbrev N_Doer_do_make : List Str := ["self", "deed", "value"]
theorem sc_Doer_do_make : FnScope N_Doer_do_make ["self", "deed"] (fnScope s_Doer_do_make) := fnScope_by (by decide +kernel)
def d_Doer_do_make : He.DefD := ⟨("Doer", some "do_make"), "do_make", "Doer.do_make", fnArgs s_Doer_do_make, fnBody s_Doer_do_make, fnScope s_Doer_do_make, [], []⟩
abbrev s_Doer_do_name : Stmt := (clsBody (top 41)).getD 4 (.Pass ⟨0, 0, 0, 0⟩)
abbrev N_Doer_do_name : List Str := ["self", "deed", "value"]
theorem sc_Doer_do_name : FnScope N_Doer_do_name ["self", "deed"] (fnScope s_Doer_do_name) := fnScope_by (by decide +kernel)
def d_Doer_do_name : He.DefD := ⟨("Doer", some "do_name"), "do_name", "Doer.do_name", fnArgs s_Doer_do_name, fnBody s_Doer_do_name, fnScope s_Doer_do_name, [], []⟩
abbrev s_Doer_do_part : Stmt := (clsBody (top 41)).getD 5 (.Pass ⟨0, 0, 0, 0⟩)
abbrev N_Doer_do_part : List Str := ["self", "deed", "name", "part", "thing", "number", "old"]
theorem sc_Doer_do_part : FnScope N_Doer_do_part ["self", "deed"] (fnScope s_Doer_do_part) := fnScope_by (by decide +kernel)
def d_Doer_do_part : He.DefD := ⟨("Doer", some "do_part"), "do_part", "Doer.do_part", fnArgs s_Doer_do_part, fnBody s_Doer_do_part, fnScope s_Doer_do_part, [], []⟩
abbrev s_Doer_do_last : Stmt := (clsBody (top 41)).getD 6 (.Pass ⟨0, 0, 0, 0⟩)
abbrev N_Doer_do_last : List Str := ["self", "deed", "thing"]
theorem sc_Doer_do_last : FnScope N_Doer_do_last ["self", "deed"] (fnScope s_Doer_do_last) := fnScope_by (by decide +kernel)
def d_Doer_do_last : He.DefD := ⟨("Doer", some "do_last"), "do_last", "Doer.do_last", fnArgs s_Doer_do_last, fnBody s_Doer_do_last, fnScope s_Doer_do_last, [], []⟩
abbrev s_Doer_tell_watches : Stmt := (clsBody (top 41)).getD 7 (.Pass ⟨0, 0, 0, 0⟩)
abbrev N_Doer_tell_watches : List Str := ["self", "found", "number", "thing"]
theorem sc_Doer_tell_watches : FnScope N_Doer_tell_watches ["self"] (fnScope s_Doer_tell_watches) := fnScope_by (by decide +kernel)
def d_Doer_tell_watches : He.DefD := ⟨("Doer", some "tell_watches"), "tell_watches", "Doer.tell_watches", fnArgs s_Doer_tell_watches, fnBody s_Doer_tell_watches, fnScope s_Doer_tell_watches, [], []⟩
abbrev s_Doer_do_ask : Stmt := (clsBody (top 41)).getD 8 (.Pass ⟨0, 0, 0, 0⟩)
abbrev N_Doer_do_ask : List Str := ["self", "deed", "thing"]
theorem sc_Doer_do_ask : FnScope N_Doer_do_ask ["self", "deed"] (fnScope s_Doer_do_ask) := fnScope_by (by decide +kernel)
def d_Doer_do_ask : He.DefD := ⟨("Doer", some "do_ask"), "do_ask", "Doer.do_ask", fnArgs s_Doer_do_ask, fnBody s_Doer_do_ask, fnScope s_Doer_do_ask, [], []⟩
abbrev s_Doer_settle : Stmt := (clsBody (top 41)).getD 9 (.Pass ⟨0, 0, 0, 0⟩)
abbrev N_Doer_settle : List Str := ["self", "done", "found", "some", "number", "thing"]
theorem sc_Doer_settle : FnScope N_Doer_settle ["self"] (fnScope s_Doer_settle) := fnScope_by (by decide +kernel)
def d_Doer_settle : He.DefD := ⟨("Doer", some "settle"), "settle", "Doer.settle", fnArgs s_Doer_settle, fnBody s_Doer_settle, fnScope s_Doer_settle, [], []⟩
abbrev s_names_told : Stmt := top 42
abbrev N_names_told : List Str := ["heap", "name"]
theorem sc_names_told : FnScope N_names_told ["heap"] (fnScope s_names_told) := fnScope_by (by decide +kernel)
def d_names_told : He.DefD := ⟨("names_told", none), "names_told", "names_told", fnArgs s_names_told, fnBody s_names_told, fnScope s_names_told, [], []⟩
abbrev s_parts_told : Stmt := top 44
abbrev N_parts_told : List Str := ["thing", "part", "value"]
theorem sc_parts_told : FnScope N_parts_told ["thing"] (fnScope s_parts_told) := fnScope_by (by decide +kernel)
def d_parts_told : He.DefD := ⟨("parts_told", none), "parts_told", "parts_told", fnArgs s_parts_told, fnBody s_parts_told, fnScope s_parts_told, [], []⟩
abbrev s_photo_of : Stmt := top 45
abbrev N_photo_of : List Str := ["heap", "rows", "number", "thing"]
theorem sc_photo_of : FnScope N_photo_of ["heap"] (fnScope s_photo_of) := fnScope_by (by decide +kernel)
def d_photo_of : He.DefD := ⟨("photo_of", none), "photo_of", "photo_of", fnArgs s_photo_of, fnBody s_photo_of, fnScope s_photo_of, [], []⟩
abbrev s_Plain_init : Stmt := (clsBody (top 47)).getD 0 (.Pass ⟨0, 0, 0, 0⟩)
abbrev N_Plain_init : List Str := ["self"]
theorem sc_Plain_init : FnScope N_Plain_init ["self"] (fnScope s_Plain_init) := fnScope_by (by decide +kernel)
def d_Plain_init : He.DefD := ⟨("Plain", some "__init__"), "__init__", "Plain.__init__", fnArgs s_Plain_init, fnBody s_Plain_init, fnScope s_Plain_init, [], []⟩
abbrev s_Plain_do : Stmt := (clsBody (top 47)).getD 1 (.Pass ⟨0, 0, 0, 0⟩)
abbrev N_Plain_do : List Str := ["self", "deed"]
theorem sc_Plain_do : FnScope N_Plain_do ["self", "deed"] (fnScope s_Plain_do) := fnScope_by (by decide +kernel)
def d_Plain_do : He.DefD := ⟨("Plain", some "do"), "do", "Plain.do", fnArgs s_Plain_do, fnBody s_Plain_do, fnScope s_Plain_do, [], []⟩
abbrev s_Plain_reach : Stmt := (clsBody (top 47)).getD 2 (.Pass ⟨0, 0, 0, 0⟩)
abbrev N_Plain_reach : List Str := ["self"]
theorem sc_Plain_reach : FnScope N_Plain_reach ["self"] (fnScope s_Plain_reach) := fnScope_by (by decide +kernel)
def d_Plain_reach : He.DefD := ⟨("Plain", some "reach"), "reach", "Plain.reach", fnArgs s_Plain_reach, fnBody s_Plain_reach, fnScope s_Plain_reach, [], []⟩
abbrev s_Plain_photo : Stmt := (clsBody (top 47)).getD 4 (.Pass ⟨0, 0, 0, 0⟩)
abbrev N_Plain_photo : List Str := ["self"]
theorem sc_Plain_photo : FnScope N_Plain_photo ["self"] (fnScope s_Plain_photo) := fnScope_by (by decide +kernel)
def d_Plain_photo : He.DefD := ⟨("Plain", some "photo"), "photo", "Plain.photo", fnArgs s_Plain_photo, fnBody s_Plain_photo, fnScope s_Plain_photo, [], []⟩
abbrev s_compared : Stmt := top 51
abbrev N_compared : List Str := ["before", "after", "first", "second", "new", "gone", "both", "number"]
theorem sc_compared : FnScope N_compared ["before", "after"] (fnScope s_compared) := fnScope_by (by decide +kernel)
def d_compared : He.DefD := ⟨("compared", none), "compared", "compared", fnArgs s_compared, fnBody s_compared, fnScope s_compared, [], []⟩
abbrev s_growing : Stmt := top 52
abbrev N_growing : List Str := ["first", "again", "many", "plain", "deed", "found", "turn"]
theorem sc_growing : FnScope N_growing ["first", "again", "many"] (fnScope s_growing) := fnScope_by (by decide +kernel)
def d_growing : He.DefD := ⟨("growing", none), "growing", "growing", fnArgs s_growing, fnBody s_growing, fnScope s_growing, [], []⟩
abbrev s_leak : Stmt := top 53
abbrev N_leak : List Str := ["photos", "rows", "some", "number", "sizes", "photo", "row", "k", "one"]
theorem sc_leak : FnScope N_leak ["photos"] (fnScope s_leak) := fnScope_by (by decide +kernel)
def d_leak : He.DefD := ⟨("leak", none), "leak", "leak", fnArgs s_leak, fnBody s_leak, fnScope s_leak, [], []⟩
abbrev s__law_mix : Stmt := top 55
abbrev N__law_mix : List Str := ["_law_script", "_law_seed", "_law_mixed", "_law_cell"]
theorem sc__law_mix : FnScope N__law_mix ["_law_script", "_law_seed"] (fnScope s__law_mix) := fnScope_by (by decide +kernel)
def d__law_mix : He.DefD := ⟨("_law_mix", none), "_law_mix", "_law_mix", fnArgs s__law_mix, fnBody s__law_mix, fnScope s__law_mix, [], []⟩
abbrev s__law_next : Stmt := top 56
abbrev N__law_next : List Str := ["_law_h", "_law_many", "_law_at", "_law_cell"]
theorem sc__law_next : FnScope N__law_next ["_law_h", "_law_many"] (fnScope s__law_next) := fnScope_by (by decide +kernel)
def d__law_next : He.DefD := ⟨("_law_next", none), "_law_next", "_law_next", fnArgs s__law_next, fnBody s__law_next, fnScope s__law_next, [], []⟩
abbrev s__law_first : Stmt := top 57
abbrev N__law_first : List Str := ["_law_h", "_law_deep", "_law_found", "_law_k", "_law_kind", "_law_part"]
theorem sc__law_first : FnScope N__law_first ["_law_h", "_law_deep"] (fnScope s__law_first) := fnScope_by (by decide +kernel)
def d__law_first : He.DefD := ⟨("_law_first", none), "_law_first", "_law_first", fnArgs s__law_first, fnBody s__law_first, fnScope s__law_first, [], []⟩
abbrev s__law_down : Stmt := top 58
abbrev N__law_down : List Str := ["_law_h", "_law_first_here", "_law_found", "_law_deed"]
theorem sc__law_down : FnScope N__law_down ["_law_h", "_law_first_here"] (fnScope s__law_down) := fnScope_by (by decide +kernel)
def d__law_down : He.DefD := ⟨("_law_down", none), "_law_down", "_law_down", fnArgs s__law_down, fnBody s__law_down, fnScope s__law_down, [], []⟩
abbrev s_law : Stmt := top 59
abbrev N_law : List Str := ["_law_script", "_law_h", "_law_deep", "_law_first_here", "_law_down_here", "_law_kind", "_law_part", "_law_again", "_law_many", "_law_photos", "_law_new", "_law_gone", "_law_grown", "_law_other", "_law_number", "_law_by", "_law_deed"]
theorem sc_law : FnScope N_law ["_law_script"] (fnScope s_law) := fnScope_by (by decide +kernel)
def d_law : He.DefD := ⟨("law", none), "law", "law", fnArgs s_law, fnBody s_law, fnScope s_law, [], []⟩
def fs_Graph (v0 v1 : V) : List (Str × V) := [("sizes", v0), ("ways", v1)]
theorem get_Graph_sizes {v0 v1 : V} : (fs_Graph v0 v1).lookup ("sizes" : Str) = some v0 := by kernel_rfl
theorem put_Graph_sizes {v0 v1 y : V} : putF "sizes" y (fs_Graph v0 v1) = fs_Graph y v1 := by kernel_rfl
theorem get_Graph_ways {v0 v1 : V} : (fs_Graph v0 v1).lookup ("ways" : Str) = some v1 := by kernel_rfl
theorem put_Graph_ways {v0 v1 y : V} : putF "ways" y (fs_Graph v0 v1) = fs_Graph v0 y := by kernel_rfl
theorem len_Graph {v0 v1 : V} : (fs_Graph v0 v1).length < 1000 := by show 2 < 1000; decide
theorem no_Graph_need {v0 v1 : V} : (fs_Graph v0 v1).lookup ("need" : Str) = none := by kernel_rfl
theorem no_Graph_order {v0 v1 : V} : (fs_Graph v0 v1).lookup ("order" : Str) = none := by kernel_rfl
theorem no_Graph_from_where {v0 v1 : V} : (fs_Graph v0 v1).lookup ("from_where" : Str) = none := by kernel_rfl
theorem no_Graph_masters {v0 v1 : V} : (fs_Graph v0 v1).lookup ("masters" : Str) = none := by kernel_rfl
theorem no_Graph_totals {v0 v1 : V} : (fs_Graph v0 v1).lookup ("totals" : Str) = none := by kernel_rfl
theorem ini_Graph_0 {v0 : V} : putF ("sizes" : Str) v0 ([] : List (Str × V)) = [(("sizes" : Str), v0)] := by kernel_rfl
theorem ini_Graph_1 {v0 v1 : V} : putF ("ways" : Str) v1 ([(("sizes" : Str), v0)] : List (Str × V)) = fs_Graph v0 v1 := by kernel_rfl
theorem ing_Graph_1_0 {v0 : V} : ([(("sizes" : Str), v0)] : List (Str × V)).lookup ("sizes" : Str) = some v0 := by kernel_rfl
def fs_Ref (v0 : V) : List (Str × V) := [("number", v0)]
theorem get_Ref_number {v0 : V} : (fs_Ref v0).lookup ("number" : Str) = some v0 := by kernel_rfl
theorem put_Ref_number {v0 y : V} : putF "number" y (fs_Ref v0) = fs_Ref y := by kernel_rfl
theorem len_Ref {v0 : V} : (fs_Ref v0).length < 1000 := by show 1 < 1000; decide
theorem ini_Ref_0 {v0 : V} : putF ("number" : Str) v0 ([] : List (Str × V)) = fs_Ref v0 := by kernel_rfl
def fs_Thing (v0 v1 v2 v3 v4 v5 v6 : V) : List (Str × V) := [("kind", v0), ("held", v1), ("sees", v2), ("is_told", v3), ("waits", v4), ("is_given", v5), ("goal", v6)]
theorem get_Thing_kind {v0 v1 v2 v3 v4 v5 v6 : V} : (fs_Thing v0 v1 v2 v3 v4 v5 v6).lookup ("kind" : Str) = some v0 := by kernel_rfl
theorem put_Thing_kind {v0 v1 v2 v3 v4 v5 v6 y : V} : putF "kind" y (fs_Thing v0 v1 v2 v3 v4 v5 v6) = fs_Thing y v1 v2 v3 v4 v5 v6 := by kernel_rfl
theorem get_Thing_held {v0 v1 v2 v3 v4 v5 v6 : V} : (fs_Thing v0 v1 v2 v3 v4 v5 v6).lookup ("held" : Str) = some v1 := by kernel_rfl
theorem put_Thing_held {v0 v1 v2 v3 v4 v5 v6 y : V} : putF "held" y (fs_Thing v0 v1 v2 v3 v4 v5 v6) = fs_Thing v0 y v2 v3 v4 v5 v6 := by kernel_rfl
theorem get_Thing_sees {v0 v1 v2 v3 v4 v5 v6 : V} : (fs_Thing v0 v1 v2 v3 v4 v5 v6).lookup ("sees" : Str) = some v2 := by kernel_rfl
theorem put_Thing_sees {v0 v1 v2 v3 v4 v5 v6 y : V} : putF "sees" y (fs_Thing v0 v1 v2 v3 v4 v5 v6) = fs_Thing v0 v1 y v3 v4 v5 v6 := by kernel_rfl
theorem get_Thing_is_told {v0 v1 v2 v3 v4 v5 v6 : V} : (fs_Thing v0 v1 v2 v3 v4 v5 v6).lookup ("is_told" : Str) = some v3 := by kernel_rfl
theorem put_Thing_is_told {v0 v1 v2 v3 v4 v5 v6 y : V} : putF "is_told" y (fs_Thing v0 v1 v2 v3 v4 v5 v6) = fs_Thing v0 v1 v2 y v4 v5 v6 := by kernel_rfl
theorem get_Thing_waits {v0 v1 v2 v3 v4 v5 v6 : V} : (fs_Thing v0 v1 v2 v3 v4 v5 v6).lookup ("waits" : Str) = some v4 := by kernel_rfl
theorem put_Thing_waits {v0 v1 v2 v3 v4 v5 v6 y : V} : putF "waits" y (fs_Thing v0 v1 v2 v3 v4 v5 v6) = fs_Thing v0 v1 v2 v3 y v5 v6 := by kernel_rfl
theorem get_Thing_is_given {v0 v1 v2 v3 v4 v5 v6 : V} : (fs_Thing v0 v1 v2 v3 v4 v5 v6).lookup ("is_given" : Str) = some v5 := by kernel_rfl
theorem put_Thing_is_given {v0 v1 v2 v3 v4 v5 v6 y : V} : putF "is_given" y (fs_Thing v0 v1 v2 v3 v4 v5 v6) = fs_Thing v0 v1 v2 v3 v4 y v6 := by kernel_rfl
theorem get_Thing_goal {v0 v1 v2 v3 v4 v5 v6 : V} : (fs_Thing v0 v1 v2 v3 v4 v5 v6).lookup ("goal" : Str) = some v6 := by kernel_rfl
theorem put_Thing_goal {v0 v1 v2 v3 v4 v5 v6 y : V} : putF "goal" y (fs_Thing v0 v1 v2 v3 v4 v5 v6) = fs_Thing v0 v1 v2 v3 v4 v5 y := by kernel_rfl
theorem len_Thing {v0 v1 v2 v3 v4 v5 v6 : V} : (fs_Thing v0 v1 v2 v3 v4 v5 v6).length < 1000 := by show 7 < 1000; decide
theorem no_Thing_has {v0 v1 v2 v3 v4 v5 v6 : V} : (fs_Thing v0 v1 v2 v3 v4 v5 v6).lookup ("has" : Str) = none := by kernel_rfl
theorem no_Thing_may_get {v0 v1 v2 v3 v4 v5 v6 : V} : (fs_Thing v0 v1 v2 v3 v4 v5 v6).lookup ("may_get" : Str) = none := by kernel_rfl
theorem no_Thing_cut {v0 v1 v2 v3 v4 v5 v6 : V} : (fs_Thing v0 v1 v2 v3 v4 v5 v6).lookup ("cut" : Str) = none := by kernel_rfl
theorem no_Thing_parts {v0 v1 v2 v3 v4 v5 v6 : V} : (fs_Thing v0 v1 v2 v3 v4 v5 v6).lookup ("parts" : Str) = none := by kernel_rfl
theorem no_Thing_holds {v0 v1 v2 v3 v4 v5 v6 : V} : (fs_Thing v0 v1 v2 v3 v4 v5 v6).lookup ("holds" : Str) = none := by kernel_rfl
theorem no_Thing_size {v0 v1 v2 v3 v4 v5 v6 : V} : (fs_Thing v0 v1 v2 v3 v4 v5 v6).lookup ("size" : Str) = none := by kernel_rfl
theorem ini_Thing_0 {v0 : V} : putF ("kind" : Str) v0 ([] : List (Str × V)) = [(("kind" : Str), v0)] := by kernel_rfl
theorem ini_Thing_1 {v0 v1 : V} : putF ("held" : Str) v1 ([(("kind" : Str), v0)] : List (Str × V)) = [(("kind" : Str), v0), (("held" : Str), v1)] := by kernel_rfl
theorem ing_Thing_1_0 {v0 : V} : ([(("kind" : Str), v0)] : List (Str × V)).lookup ("kind" : Str) = some v0 := by kernel_rfl
theorem ini_Thing_2 {v0 v1 v2 : V} : putF ("sees" : Str) v2 ([(("kind" : Str), v0), (("held" : Str), v1)] : List (Str × V)) = [(("kind" : Str), v0), (("held" : Str), v1), (("sees" : Str), v2)] := by kernel_rfl
theorem ing_Thing_2_0 {v0 v1 : V} : ([(("kind" : Str), v0), (("held" : Str), v1)] : List (Str × V)).lookup ("kind" : Str) = some v0 := by kernel_rfl
theorem ing_Thing_2_1 {v0 v1 : V} : ([(("kind" : Str), v0), (("held" : Str), v1)] : List (Str × V)).lookup ("held" : Str) = some v1 := by kernel_rfl
theorem ini_Thing_3 {v0 v1 v2 v3 : V} : putF ("is_told" : Str) v3 ([(("kind" : Str), v0), (("held" : Str), v1), (("sees" : Str), v2)] : List (Str × V)) = [(("kind" : Str), v0), (("held" : Str), v1), (("sees" : Str), v2), (("is_told" : Str), v3)] := by kernel_rfl
theorem ing_Thing_3_0 {v0 v1 v2 : V} : ([(("kind" : Str), v0), (("held" : Str), v1), (("sees" : Str), v2)] : List (Str × V)).lookup ("kind" : Str) = some v0 := by kernel_rfl
theorem ing_Thing_3_1 {v0 v1 v2 : V} : ([(("kind" : Str), v0), (("held" : Str), v1), (("sees" : Str), v2)] : List (Str × V)).lookup ("held" : Str) = some v1 := by kernel_rfl
theorem ing_Thing_3_2 {v0 v1 v2 : V} : ([(("kind" : Str), v0), (("held" : Str), v1), (("sees" : Str), v2)] : List (Str × V)).lookup ("sees" : Str) = some v2 := by kernel_rfl
theorem ini_Thing_4 {v0 v1 v2 v3 v4 : V} : putF ("waits" : Str) v4 ([(("kind" : Str), v0), (("held" : Str), v1), (("sees" : Str), v2), (("is_told" : Str), v3)] : List (Str × V)) = [(("kind" : Str), v0), (("held" : Str), v1), (("sees" : Str), v2), (("is_told" : Str), v3), (("waits" : Str), v4)] := by kernel_rfl
theorem ing_Thing_4_0 {v0 v1 v2 v3 : V} : ([(("kind" : Str), v0), (("held" : Str), v1), (("sees" : Str), v2), (("is_told" : Str), v3)] : List (Str × V)).lookup ("kind" : Str) = some v0 := by kernel_rfl
theorem ing_Thing_4_1 {v0 v1 v2 v3 : V} : ([(("kind" : Str), v0), (("held" : Str), v1), (("sees" : Str), v2), (("is_told" : Str), v3)] : List (Str × V)).lookup ("held" : Str) = some v1 := by kernel_rfl
theorem ing_Thing_4_2 {v0 v1 v2 v3 : V} : ([(("kind" : Str), v0), (("held" : Str), v1), (("sees" : Str), v2), (("is_told" : Str), v3)] : List (Str × V)).lookup ("sees" : Str) = some v2 := by kernel_rfl
theorem ing_Thing_4_3 {v0 v1 v2 v3 : V} : ([(("kind" : Str), v0), (("held" : Str), v1), (("sees" : Str), v2), (("is_told" : Str), v3)] : List (Str × V)).lookup ("is_told" : Str) = some v3 := by kernel_rfl
theorem ini_Thing_5 {v0 v1 v2 v3 v4 v5 : V} : putF ("is_given" : Str) v5 ([(("kind" : Str), v0), (("held" : Str), v1), (("sees" : Str), v2), (("is_told" : Str), v3), (("waits" : Str), v4)] : List (Str × V)) = [(("kind" : Str), v0), (("held" : Str), v1), (("sees" : Str), v2), (("is_told" : Str), v3), (("waits" : Str), v4), (("is_given" : Str), v5)] := by kernel_rfl
theorem ing_Thing_5_0 {v0 v1 v2 v3 v4 : V} : ([(("kind" : Str), v0), (("held" : Str), v1), (("sees" : Str), v2), (("is_told" : Str), v3), (("waits" : Str), v4)] : List (Str × V)).lookup ("kind" : Str) = some v0 := by kernel_rfl
theorem ing_Thing_5_1 {v0 v1 v2 v3 v4 : V} : ([(("kind" : Str), v0), (("held" : Str), v1), (("sees" : Str), v2), (("is_told" : Str), v3), (("waits" : Str), v4)] : List (Str × V)).lookup ("held" : Str) = some v1 := by kernel_rfl
theorem ing_Thing_5_2 {v0 v1 v2 v3 v4 : V} : ([(("kind" : Str), v0), (("held" : Str), v1), (("sees" : Str), v2), (("is_told" : Str), v3), (("waits" : Str), v4)] : List (Str × V)).lookup ("sees" : Str) = some v2 := by kernel_rfl
theorem ing_Thing_5_3 {v0 v1 v2 v3 v4 : V} : ([(("kind" : Str), v0), (("held" : Str), v1), (("sees" : Str), v2), (("is_told" : Str), v3), (("waits" : Str), v4)] : List (Str × V)).lookup ("is_told" : Str) = some v3 := by kernel_rfl
theorem ing_Thing_5_4 {v0 v1 v2 v3 v4 : V} : ([(("kind" : Str), v0), (("held" : Str), v1), (("sees" : Str), v2), (("is_told" : Str), v3), (("waits" : Str), v4)] : List (Str × V)).lookup ("waits" : Str) = some v4 := by kernel_rfl
theorem ini_Thing_6 {v0 v1 v2 v3 v4 v5 v6 : V} : putF ("goal" : Str) v6 ([(("kind" : Str), v0), (("held" : Str), v1), (("sees" : Str), v2), (("is_told" : Str), v3), (("waits" : Str), v4), (("is_given" : Str), v5)] : List (Str × V)) = fs_Thing v0 v1 v2 v3 v4 v5 v6 := by kernel_rfl
theorem ing_Thing_6_0 {v0 v1 v2 v3 v4 v5 : V} : ([(("kind" : Str), v0), (("held" : Str), v1), (("sees" : Str), v2), (("is_told" : Str), v3), (("waits" : Str), v4), (("is_given" : Str), v5)] : List (Str × V)).lookup ("kind" : Str) = some v0 := by kernel_rfl
theorem ing_Thing_6_1 {v0 v1 v2 v3 v4 v5 : V} : ([(("kind" : Str), v0), (("held" : Str), v1), (("sees" : Str), v2), (("is_told" : Str), v3), (("waits" : Str), v4), (("is_given" : Str), v5)] : List (Str × V)).lookup ("held" : Str) = some v1 := by kernel_rfl
theorem ing_Thing_6_2 {v0 v1 v2 v3 v4 v5 : V} : ([(("kind" : Str), v0), (("held" : Str), v1), (("sees" : Str), v2), (("is_told" : Str), v3), (("waits" : Str), v4), (("is_given" : Str), v5)] : List (Str × V)).lookup ("sees" : Str) = some v2 := by kernel_rfl
theorem ing_Thing_6_3 {v0 v1 v2 v3 v4 v5 : V} : ([(("kind" : Str), v0), (("held" : Str), v1), (("sees" : Str), v2), (("is_told" : Str), v3), (("waits" : Str), v4), (("is_given" : Str), v5)] : List (Str × V)).lookup ("is_told" : Str) = some v3 := by kernel_rfl
theorem ing_Thing_6_4 {v0 v1 v2 v3 v4 v5 : V} : ([(("kind" : Str), v0), (("held" : Str), v1), (("sees" : Str), v2), (("is_told" : Str), v3), (("waits" : Str), v4), (("is_given" : Str), v5)] : List (Str × V)).lookup ("waits" : Str) = some v4 := by kernel_rfl
theorem ing_Thing_6_5 {v0 v1 v2 v3 v4 v5 : V} : ([(("kind" : Str), v0), (("held" : Str), v1), (("sees" : Str), v2), (("is_told" : Str), v3), (("waits" : Str), v4), (("is_given" : Str), v5)] : List (Str × V)).lookup ("is_given" : Str) = some v5 := by kernel_rfl
def fs_Heap (v0 v1 v2 : V) : List (Str × V) := [("names", v0), ("things", v1), ("made", v2)]
theorem get_Heap_names {v0 v1 v2 : V} : (fs_Heap v0 v1 v2).lookup ("names" : Str) = some v0 := by kernel_rfl
theorem put_Heap_names {v0 v1 v2 y : V} : putF "names" y (fs_Heap v0 v1 v2) = fs_Heap y v1 v2 := by kernel_rfl
theorem get_Heap_things {v0 v1 v2 : V} : (fs_Heap v0 v1 v2).lookup ("things" : Str) = some v1 := by kernel_rfl
theorem put_Heap_things {v0 v1 v2 y : V} : putF "things" y (fs_Heap v0 v1 v2) = fs_Heap v0 y v2 := by kernel_rfl
theorem get_Heap_made {v0 v1 v2 : V} : (fs_Heap v0 v1 v2).lookup ("made" : Str) = some v2 := by kernel_rfl
theorem put_Heap_made {v0 v1 v2 y : V} : putF "made" y (fs_Heap v0 v1 v2) = fs_Heap v0 v1 y := by kernel_rfl
theorem len_Heap {v0 v1 v2 : V} : (fs_Heap v0 v1 v2).length < 1000 := by show 3 < 1000; decide
theorem no_Heap_make {v0 v1 v2 : V} : (fs_Heap v0 v1 v2).lookup ("make" : Str) = none := by kernel_rfl
theorem no_Heap_thing_of {v0 v1 v2 : V} : (fs_Heap v0 v1 v2).lookup ("thing_of" : Str) = none := by kernel_rfl
theorem no_Heap_of_names {v0 v1 v2 : V} : (fs_Heap v0 v1 v2).lookup ("of_names" : Str) = none := by kernel_rfl
theorem no_Heap_due {v0 v1 v2 : V} : (fs_Heap v0 v1 v2).lookup ("due" : Str) = none := by kernel_rfl
theorem no_Heap_closed {v0 v1 v2 : V} : (fs_Heap v0 v1 v2).lookup ("closed" : Str) = none := by kernel_rfl
theorem no_Heap_reach {v0 v1 v2 : V} : (fs_Heap v0 v1 v2).lookup ("reach" : Str) = none := by kernel_rfl
theorem ini_Heap_0 {v0 : V} : putF ("names" : Str) v0 ([] : List (Str × V)) = [(("names" : Str), v0)] := by kernel_rfl
theorem ini_Heap_1 {v0 v1 : V} : putF ("things" : Str) v1 ([(("names" : Str), v0)] : List (Str × V)) = [(("names" : Str), v0), (("things" : Str), v1)] := by kernel_rfl
theorem ing_Heap_1_0 {v0 : V} : ([(("names" : Str), v0)] : List (Str × V)).lookup ("names" : Str) = some v0 := by kernel_rfl
theorem ini_Heap_2 {v0 v1 v2 : V} : putF ("made" : Str) v2 ([(("names" : Str), v0), (("things" : Str), v1)] : List (Str × V)) = fs_Heap v0 v1 v2 := by kernel_rfl
theorem ing_Heap_2_0 {v0 v1 : V} : ([(("names" : Str), v0), (("things" : Str), v1)] : List (Str × V)).lookup ("names" : Str) = some v0 := by kernel_rfl
theorem ing_Heap_2_1 {v0 v1 : V} : ([(("names" : Str), v0), (("things" : Str), v1)] : List (Str × V)).lookup ("things" : Str) = some v1 := by kernel_rfl
def fs_Doer (v0 v1 v2 : V) : List (Str × V) := [("heap", v0), ("made", v1), ("written", v2)]
theorem get_Doer_heap {v0 v1 v2 : V} : (fs_Doer v0 v1 v2).lookup ("heap" : Str) = some v0 := by kernel_rfl
theorem put_Doer_heap {v0 v1 v2 y : V} : putF "heap" y (fs_Doer v0 v1 v2) = fs_Doer y v1 v2 := by kernel_rfl
theorem get_Doer_made {v0 v1 v2 : V} : (fs_Doer v0 v1 v2).lookup ("made" : Str) = some v1 := by kernel_rfl
theorem put_Doer_made {v0 v1 v2 y : V} : putF "made" y (fs_Doer v0 v1 v2) = fs_Doer v0 y v2 := by kernel_rfl
theorem get_Doer_written {v0 v1 v2 : V} : (fs_Doer v0 v1 v2).lookup ("written" : Str) = some v2 := by kernel_rfl
theorem put_Doer_written {v0 v1 v2 y : V} : putF "written" y (fs_Doer v0 v1 v2) = fs_Doer v0 v1 y := by kernel_rfl
theorem len_Doer {v0 v1 v2 : V} : (fs_Doer v0 v1 v2).length < 1000 := by show 3 < 1000; decide
theorem no_Doer_do {v0 v1 v2 : V} : (fs_Doer v0 v1 v2).lookup ("do" : Str) = none := by kernel_rfl
theorem no_Doer_hold {v0 v1 v2 : V} : (fs_Doer v0 v1 v2).lookup ("hold" : Str) = none := by kernel_rfl
theorem no_Doer_do_make {v0 v1 v2 : V} : (fs_Doer v0 v1 v2).lookup ("do_make" : Str) = none := by kernel_rfl
theorem no_Doer_do_name {v0 v1 v2 : V} : (fs_Doer v0 v1 v2).lookup ("do_name" : Str) = none := by kernel_rfl
theorem no_Doer_do_part {v0 v1 v2 : V} : (fs_Doer v0 v1 v2).lookup ("do_part" : Str) = none := by kernel_rfl
theorem no_Doer_do_last {v0 v1 v2 : V} : (fs_Doer v0 v1 v2).lookup ("do_last" : Str) = none := by kernel_rfl
theorem no_Doer_tell_watches {v0 v1 v2 : V} : (fs_Doer v0 v1 v2).lookup ("tell_watches" : Str) = none := by kernel_rfl
theorem no_Doer_do_ask {v0 v1 v2 : V} : (fs_Doer v0 v1 v2).lookup ("do_ask" : Str) = none := by kernel_rfl
theorem no_Doer_settle {v0 v1 v2 : V} : (fs_Doer v0 v1 v2).lookup ("settle" : Str) = none := by kernel_rfl
theorem ini_Doer_0 {v0 : V} : putF ("heap" : Str) v0 ([] : List (Str × V)) = [(("heap" : Str), v0)] := by kernel_rfl
theorem ini_Doer_1 {v0 v1 : V} : putF ("made" : Str) v1 ([(("heap" : Str), v0)] : List (Str × V)) = [(("heap" : Str), v0), (("made" : Str), v1)] := by kernel_rfl
theorem ing_Doer_1_0 {v0 : V} : ([(("heap" : Str), v0)] : List (Str × V)).lookup ("heap" : Str) = some v0 := by kernel_rfl
theorem ini_Doer_2 {v0 v1 v2 : V} : putF ("written" : Str) v2 ([(("heap" : Str), v0), (("made" : Str), v1)] : List (Str × V)) = fs_Doer v0 v1 v2 := by kernel_rfl
theorem ing_Doer_2_0 {v0 v1 : V} : ([(("heap" : Str), v0), (("made" : Str), v1)] : List (Str × V)).lookup ("heap" : Str) = some v0 := by kernel_rfl
theorem ing_Doer_2_1 {v0 v1 : V} : ([(("heap" : Str), v0), (("made" : Str), v1)] : List (Str × V)).lookup ("made" : Str) = some v1 := by kernel_rfl
def fs_Plain (v0 : V) : List (Str × V) := [("doer", v0)]
theorem get_Plain_doer {v0 : V} : (fs_Plain v0).lookup ("doer" : Str) = some v0 := by kernel_rfl
theorem put_Plain_doer {v0 y : V} : putF "doer" y (fs_Plain v0) = fs_Plain y := by kernel_rfl
theorem len_Plain {v0 : V} : (fs_Plain v0).length < 1000 := by show 1 < 1000; decide
theorem no_Plain_do {v0 : V} : (fs_Plain v0).lookup ("do" : Str) = none := by kernel_rfl
theorem no_Plain_reach {v0 : V} : (fs_Plain v0).lookup ("reach" : Str) = none := by kernel_rfl
theorem no_Plain_photo {v0 : V} : (fs_Plain v0).lookup ("photo" : Str) = none := by kernel_rfl
theorem ini_Plain_0 {v0 : V} : putF ("doer" : Str) v0 ([] : List (Str × V)) = fs_Plain v0 := by kernel_rfl
def kv_T (v0 v1 v2 v3 v4 v5 : V) : List (Key × V) := [(Sum.inr "kind", v0), (Sum.inr "held", v1), (Sum.inr "sees", v2), (Sum.inr "gone", v3), (Sum.inr "last", v4), (Sum.inr "goal", v5)]
theorem mk_T {v0 v1 v2 v3 v4 v5 : V} : mergeK [] [((Sum.inr ("kind" : Str) : Key), v0), ((Sum.inr ("held" : Str) : Key), v1), ((Sum.inr ("sees" : Str) : Key), v2), ((Sum.inr ("gone" : Str) : Key), v3), ((Sum.inr ("last" : Str) : Key), v4), ((Sum.inr ("goal" : Str) : Key), v5)] = kv_T v0 v1 v2 v3 v4 v5 := by kernel_rfl
theorem len_kv_T {v0 v1 v2 v3 v4 v5 : V} : (kv_T v0 v1 v2 v3 v4 v5).length < sizeLine := by show 6 < sizeLine; decide
theorem kget_T_kind {v0 v1 v2 v3 v4 v5 : V} : valV (kv_T v0 v1 v2 v3 v4 v5) (Sum.inr ("kind" : Str)) = some v0 := by kernel_rfl
theorem kput_T_kind {v0 v1 v2 v3 v4 v5 y : V} : putK (kv_T v0 v1 v2 v3 v4 v5) (Sum.inr ("kind" : Str)) y = kv_T y v1 v2 v3 v4 v5 := by kernel_rfl
theorem kget_T_held {v0 v1 v2 v3 v4 v5 : V} : valV (kv_T v0 v1 v2 v3 v4 v5) (Sum.inr ("held" : Str)) = some v1 := by kernel_rfl
theorem kput_T_held {v0 v1 v2 v3 v4 v5 y : V} : putK (kv_T v0 v1 v2 v3 v4 v5) (Sum.inr ("held" : Str)) y = kv_T v0 y v2 v3 v4 v5 := by kernel_rfl
theorem kget_T_sees {v0 v1 v2 v3 v4 v5 : V} : valV (kv_T v0 v1 v2 v3 v4 v5) (Sum.inr ("sees" : Str)) = some v2 := by kernel_rfl
theorem kput_T_sees {v0 v1 v2 v3 v4 v5 y : V} : putK (kv_T v0 v1 v2 v3 v4 v5) (Sum.inr ("sees" : Str)) y = kv_T v0 v1 y v3 v4 v5 := by kernel_rfl
theorem kget_T_gone {v0 v1 v2 v3 v4 v5 : V} : valV (kv_T v0 v1 v2 v3 v4 v5) (Sum.inr ("gone" : Str)) = some v3 := by kernel_rfl
theorem kput_T_gone {v0 v1 v2 v3 v4 v5 y : V} : putK (kv_T v0 v1 v2 v3 v4 v5) (Sum.inr ("gone" : Str)) y = kv_T v0 v1 v2 y v4 v5 := by kernel_rfl
theorem kget_T_last {v0 v1 v2 v3 v4 v5 : V} : valV (kv_T v0 v1 v2 v3 v4 v5) (Sum.inr ("last" : Str)) = some v4 := by kernel_rfl
theorem kput_T_last {v0 v1 v2 v3 v4 v5 y : V} : putK (kv_T v0 v1 v2 v3 v4 v5) (Sum.inr ("last" : Str)) y = kv_T v0 v1 v2 v3 y v5 := by kernel_rfl
theorem kget_T_goal {v0 v1 v2 v3 v4 v5 : V} : valV (kv_T v0 v1 v2 v3 v4 v5) (Sum.inr ("goal" : Str)) = some v5 := by kernel_rfl
theorem kput_T_goal {v0 v1 v2 v3 v4 v5 y : V} : putK (kv_T v0 v1 v2 v3 v4 v5) (Sum.inr ("goal" : Str)) y = kv_T v0 v1 v2 v3 v4 y := by kernel_rfl
def kv_M (v0 v1 : V) : List (Key × V) := [(Sum.inr "names", v0), (Sum.inr "things", v1)]
theorem mk_M {v0 v1 : V} : mergeK [] [((Sum.inr ("names" : Str) : Key), v0), ((Sum.inr ("things" : Str) : Key), v1)] = kv_M v0 v1 := by kernel_rfl
theorem len_kv_M {v0 v1 : V} : (kv_M v0 v1).length < sizeLine := by show 2 < sizeLine; decide
theorem kget_M_names {v0 v1 : V} : valV (kv_M v0 v1) (Sum.inr ("names" : Str)) = some v0 := by kernel_rfl
theorem kput_M_names {v0 v1 y : V} : putK (kv_M v0 v1) (Sum.inr ("names" : Str)) y = kv_M y v1 := by kernel_rfl
theorem kget_M_things {v0 v1 : V} : valV (kv_M v0 v1) (Sum.inr ("things" : Str)) = some v1 := by kernel_rfl
theorem kput_M_things {v0 v1 y : V} : putK (kv_M v0 v1) (Sum.inr ("things" : Str)) y = kv_M v0 y := by kernel_rfl
def fn0 : List He.DefD := [d_is_name, d_is_number, d_is_part, d_is_of, d_is_deed, d_need_deed, d_need_program, d_number_of, d_Graph_init, d_Graph_need, d_Graph_order, d_Graph_from_where, d_Graph_masters, d_Graph_totals, d_nearest, d_keeps, d_totals, d_Ref_init, d_value_told, d_Thing_init, d_Thing_has, d_Thing_may_get, d_Thing_cut, d_Thing_parts, d_Thing_holds]
def fn1 : List He.DefD := [d_Thing_size, d_Heap_init, d_Heap_make, d_Heap_thing_of, d_Heap_of_names, d_Heap_due, d_Heap_closed, d_Heap_reach, d_Doer_init, d_Doer_do, d_Doer_hold, d_Doer_do_make, d_Doer_do_name, d_Doer_do_part, d_Doer_do_last, d_Doer_tell_watches, d_Doer_do_ask, d_Doer_settle, d_names_told, d_parts_told, d_photo_of, d_Plain_init, d_Plain_do, d_Plain_reach, d_Plain_photo]
def fn2 : List He.DefD := [d_compared, d_growing, d_leak, d__law_mix, d__law_next, d__law_first, d__law_down, d_law]
def fn : List He.DefD := fn0 ++ fn1 ++ fn2
def fa0 : List He.Fa := [.glo "is_name", .glo "is_number", .glo "is_part", .glo "is_of", .glo "is_deed", .glo "need_deed", .glo "need_program", .glo "number_of", .glo "nearest", .glo "keeps", .glo "totals", .glo "value_told", .glo "names_told", .glo "parts_told", .glo "photo_of", .glo "compared", .glo "growing", .glo "leak", .glo "_law_mix", .glo "_law_next", .glo "_law_first", .glo "_law_down", .glo "law", .free "bool", .free "dict"]
def fa1 : List He.Fa := [.free "enumerate", .free "int", .free "isinstance", .free "len", .free "list", .free "max", .free "range", .free "set", .free "sorted", .free "str", .free "tuple", .glo "Graph", .cls "Graph", .mkr "Graph", .noat "Graph" "sizes", .noat "Graph" "ways", .meth "Graph" "need", .meth "Graph" "order", .meth "Graph" "from_where", .meth "Graph" "masters", .meth "Graph" "totals", .glo "Ref", .cls "Ref", .mkr "Ref", .noat "Ref" "number"]
def fa2 : List He.Fa := [.glo "Thing", .cls "Thing", .mkr "Thing", .noat "Thing" "kind", .noat "Thing" "held", .noat "Thing" "sees", .noat "Thing" "is_told", .noat "Thing" "waits", .noat "Thing" "is_given", .noat "Thing" "goal", .meth "Thing" "has", .meth "Thing" "may_get", .meth "Thing" "cut", .meth "Thing" "parts", .meth "Thing" "holds", .meth "Thing" "size", .glo "Heap", .cls "Heap", .mkr "Heap", .noat "Heap" "names", .noat "Heap" "things", .noat "Heap" "made", .meth "Heap" "make", .meth "Heap" "thing_of", .meth "Heap" "of_names"]
def fa3 : List He.Fa := [.meth "Heap" "due", .meth "Heap" "closed", .meth "Heap" "reach", .glo "Doer", .cls "Doer", .mkr "Doer", .noat "Doer" "heap", .noat "Doer" "made", .noat "Doer" "written", .meth "Doer" "do", .meth "Doer" "hold", .meth "Doer" "do_make", .meth "Doer" "do_name", .meth "Doer" "do_part", .meth "Doer" "do_last", .meth "Doer" "tell_watches", .meth "Doer" "do_ask", .meth "Doer" "settle", .glo "Plain", .cls "Plain", .mkr "Plain", .noat "Plain" "doer", .meth "Plain" "do", .meth "Plain" "reach", .meth "Plain" "photo"]
def fa4 : List He.Fa := [.str "NAMES" "pqrstuvw", .glo "KINDS", .str "LETTERS" "abcd", .int "MOST_NUMBER" 99, .int "MOST_KEY" 9, .int "MOST_DEEDS" 120, .glo "SHAPES", .int "TOP" (-1), .int "MOST_ROW" 8, .int "MOST_BOOK" 6, .str "WATCH" "watch", .str "RECORD" "record", .str "ROW" "row", .str "NO" "no", .int "LEAST" 2, .int "MOST" 8]
def fa : List He.Fa := fa0 ++ fa1 ++ fa2 ++ fa3 ++ fa4
def insB (K : PySem.W.Frag) (C : Str) : Bool := decide (PySem.W.findIn K (.ref (He.ga K C)) "__class__" = some (some (.builtin "object.__class__"))) && (decide (PySem.W.specialIn K (.builtin "object.__class__") "__get__" = some (some (.builtin "getset_descriptor.__get__"))) && (decide (PySem.W.takesIn K (.builtin "object.__class__") = some true) && (decide (PySem.W.mroIn K (He.ga K C) (.type "object") = some true) && decide (PySem.W.kitOne K (.ref (He.ga K C)) (.ref (He.ga K C)) = some true))))
/-- the tuple of texts under a key of a written dict -/
def shpA (K : PySem.W.Frag) (d z : Str) : Addr := match PySem.W.nsIn K (He.ga K d) z with
  | some (some (.ref a)) => a
  | _ => 0
def shpB (K : PySem.W.Frag) (d z : Str) (xs : List Str) : Bool := (match PySem.W.nsIn K (He.ga K d) z with
  | some (some (.ref a)) => decide (a = shpA K d z)
  | _ => false) && (match K.lookup (shpA K d z) with
  | some ⟨.type c, _, .seq its _, _⟩ => decide (c = "tuple") && (decide (its.size ≤ sizeLine) && He.relAll (xs.map V.str) its.toList)
  | _ => false)
def exL (K : PySem.W.Frag) : List Bool := [insB K "Ref", He.tupB K "KINDS" [.str "record", .str "row", .str "book"], shpB K "SHAPES" "make" ["name", "kind"], shpB K "SHAPES" "num" ["name", "number"], shpB K "SHAPES" "copy" ["name", "name"], shpB K "SHAPES" "drop" ["name"], shpB K "SHAPES" "put" ["name", "part", "name"], shpB K "SHAPES" "take" ["name", "name", "part"], shpB K "SHAPES" "cut" ["name", "part"], shpB K "SHAPES" "watch" ["name", "name"], shpB K "SHAPES" "last" ["name", "goal"], shpB K "SHAPES" "ask" ["name", "name"], shpB K "SHAPES" "settle" [], shpB K "SHAPES" "say" ["name"], decide (PySem.W.kitOne K (.type "NoneType") (.ref (He.ga K "Ref")) = some false), decide (PySem.W.kitOne K (.type "int") (.ref (He.ga K "Ref")) = some false), decide (He.ga K "Thing" ≠ He.ga K "Ref"), decide (He.ga K "Heap" ≠ He.ga K "Ref"), decide (He.ga K "Doer" ≠ He.ga K "Ref"), decide (He.ga K "Plain" ≠ He.ga K "Ref"), decide (He.ga K "Graph" ≠ He.ga K "Ref")]
def ex (K : PySem.W.Frag) : Bool := (exL K).all fun b => b
def ts : List He.Tab := [(fun K => He.ga K "SHAPES", ["make", "num", "copy", "drop", "put", "take", "cut", "watch", "last", "ask", "settle", "say"])]
def tf : List He.Defn := []
/-- the tables of code objects of the defs that make lambdas -/
def TTs (K : PySem.W.Frag) : List (Addr × Str) := tf.map fun p => ((He.cT K p).2, (p.1 ++ ".<locals>.") ++ "<lambda>")
abbrev spLaw (K : PySem.W.Frag) : Sp := fun vs H Q _ => ∃ (a : Addr) (ns : List Int), vs = [.ref a] ∧ SqL K H a (ns.map V.int) ∧ ns.length ≤ 63 ∧ (∀ z ∈ ns, Builtin.Int.intBits z ≤ 1048576) ∧ LamX.Tabs (TTs K) H ∧ ∀ H', Q (.bl true) H'

/-- what the top has left, and the tables of code objects over the base -/
structure Tx (w : World) (K : PySem.W.Frag) (mg : Str → Option Value) (base : Heap) : Prop where
  says : ∃ h, He.SaysX fa fn ts tf ex w h K ∧ K.In h ∧ h.Ns mainGlobals mg
  tb : ∀ p ∈ tf, LamX.TabB base mg (He.cT K p).1 (He.cT K p).2
section
variable {P : Program} {w : World} {K : PySem.W.Frag} {mg : Str → Option Value} {base : Heap}
theorem Tx.fact (T : Tx w K mg base) (i : Nat) {f : He.Fa} (h : fa[i]? = some f := by rfl) : f.ok K = true := by
  obtain ⟨_, c, _⟩ := T.says
  exact c.t.d.fact i h
theorem Tx.glo (T : Tx w K mg base) (i : Nat) {x : Str} (h : fa[i]? = some (.glo x) := by rfl) : mg x = some (.ref (He.ga K x)) := by
  obtain ⟨_, c, X, G⟩ := T.says
  exact He.glo_ok X G (c.t.d.fact i h)
theorem Tx.free (T : Tx w K mg base) (i : Nat) {x : Str} (h : fa[i]? = some (.free x) := by rfl) : mg x = none := by
  obtain ⟨_, c, X, G⟩ := T.says
  exact He.free_ok X G (c.t.d.fact i h)
theorem Tx.kstr (T : Tx w K mg base) (i : Nat) {x z : Str} (h : fa[i]? = some (.str x z) := by rfl) : ∃ u, mg x = some u ∧ RelV (.str z) u := by
  obtain ⟨_, c, X, G⟩ := T.says
  obtain ⟨t, e⟩ := He.str_ok X G (c.t.d.fact i h)
  exact ⟨_, e, t, rfl⟩
theorem Tx.kint (T : Tx w K mg base) (i : Nat) {x : Str} {z : Int} (h : fa[i]? = some (.int x z) := by rfl) : ∃ u, mg x = some u ∧ RelV (.int z) u := by
  obtain ⟨_, c, X, G⟩ := T.says
  obtain ⟨t, e⟩ := He.int_ok X G (c.t.d.fact i h)
  exact ⟨_, e, t, rfl⟩
theorem Tx.def_ (T : Tx w K mg base) (i : Nat) {d : He.DefD} (h : fn[i]? = some d := by rfl) : ∃ fd, FunD K d.name d.qual d.params d.body d.scope (d.dvs K) (d.kws K) (He.fAd K d.at_) fd := by
  obtain ⟨_, c, _⟩ := T.says
  exact c.t.d.def_ i h
theorem Tx.more (T : Tx w K mg base) (i : Nat) {b : Bool} (h : (exL K)[i]? = some b := by rfl) : b = true := by
  obtain ⟨_, c, _⟩ := T.says
  exact List.all_eq_true.mp c.more b (List.mem_of_getElem? h)
theorem insB_ok {C : Str} (c : Cls K (He.ga K C)) (h : insB K C = true) : InsC K (He.ga K C) := by
  unfold insB at h
  simp only [Bool.and_eq_true, decide_eq_true_eq] at h
  obtain ⟨h1, h2, h3, h4, h5⟩ := h
  exact ⟨c, h1, h2, h3, h4, h5⟩
/-- a def of the module, by its body -/
theorem cal_of {x : Str} {st : Stmt} {f : Addr} {fd : FuncData} {N ps : List Str} {k : Nat} {sp : Sp} (F : FunD K x x (fnArgs st) (fnBody st) (fnScope st) [] [] f fd) (hm : mg x = some (.ref f)) (S : FnScope N ps (fnScope st)) (hb : Binds K fd ps [])
    (len : ∀ vs H Q E, sp vs H Q E → vs.length = ps.length)
    (hbody : ∀ (cdv : Value) (A : Around) (outer : List Env) (s : Shared) (H : Hp) (vs : List V) (Q : VK) (E : XK), Room k (A.deeper (envOfC x (fnScope st) s.heap.objs.size f cdv)) → sp vs H Q E →
      ∃ t, PSs (cxOf C8.CX0 P w K mg base N x (fnScope st) f cdv A outer s H E).nox (fnBody st) t ∧ t ⟨fun _ H' => Q .non H', Q, fun _ _ => False, fun _ _ => False⟩ (start N vs) H) : Cal P w K mg base (k + 1) x sp [] :=
  ⟨f, fd, ps, [], F.ok S len (fun cdv A outer s H vs Q E hr h => let ⟨t, h1, h2⟩ := hbody cdv A outer s H vs Q E hr h; ⟨t, h1.nox, h2⟩), hm, F.kp, hb, .nil⟩
/-- a method -/
theorem met_of {m qual : Str} {C : Addr} {st : Stmt} {f : Addr} {fd : FuncData} {N ps : List Str} {k : Nat} {sp : Sp} (c : Cls K C) (me : Meth K C m f) (F : FunD K m qual (fnArgs st) (fnBody st) (fnScope st) [] [] f fd) (S : FnScope N ps (fnScope st)) (hb : Binds K fd ps [])
    (len : ∀ vs H Q E, sp vs H Q E → vs.length = ps.length)
    (hbody : ∀ (cdv : Value) (A : Around) (outer : List Env) (s : Shared) (H : Hp) (vs : List V) (Q : VK) (E : XK), Room k (A.deeper (envOfC qual (fnScope st) s.heap.objs.size f cdv)) → sp vs H Q E →
      ∃ t, PSs (cxOf C8.CX0 P w K mg base N qual (fnScope st) f cdv A outer s H E).nox (fnBody st) t ∧ t ⟨fun _ H' => Q .non H', Q, fun _ _ => False, fun _ _ => False⟩ (start N vs) H) : Met P w K mg base (k + 1) C m sp [] :=
  ⟨f, fd, ps, [], c, me, F.ok S len (fun cdv A outer s H vs Q E hr h => let ⟨t, h1, h2⟩ := hbody cdv A outer s H vs Q E hr h; ⟨t, h1.nox, h2⟩), hb, .nil⟩
/-- a class that is made by its __init__ -/
theorem mak_of {x qual : Str} {C : Addr} {st : Stmt} {f : Addr} {fd : FuncData} {N ps : List Str} {k : Nat} {sp : Sp} (M : Mk K C f) (hm : mg x = some (.ref C)) (F : FunD K "__init__" qual (fnArgs st) (fnBody st) (fnScope st) [] [] f fd) (S : FnScope N ps (fnScope st)) (hb : Binds K fd ps [])
    (len : ∀ vs H Q E, sp vs H Q E → vs.length = ps.length)
    (hbody : ∀ (cdv : Value) (A : Around) (outer : List Env) (s : Shared) (H : Hp) (vs : List V) (Q : VK) (E : XK), Room k (A.deeper (envOfC qual (fnScope st) s.heap.objs.size f cdv)) → sp vs H Q E →
      ∃ t, PSs (cxOf C8.CX0 P w K mg base N qual (fnScope st) f cdv A outer s H E).nox (fnBody st) t ∧ t ⟨fun _ H' => Q .non H', Q, fun _ _ => False, fun _ _ => False⟩ (start N vs) H) : Mak P w K mg base (k + 1) x C sp [] :=
  ⟨f, fd, ps, [], M, F.ok S len (fun cdv A outer s H vs Q E hr h => let ⟨t, h1, h2⟩ := hbody cdv A outer s H vs Q E hr h; ⟨t, h1.nox, h2⟩), hm, hb, .nil⟩
theorem Tx.g_is_name (T : Tx w K mg base) : mg "is_name" = some (.ref (He.ga K "is_name")) := T.glo 0
theorem Tx.g_is_number (T : Tx w K mg base) : mg "is_number" = some (.ref (He.ga K "is_number")) := T.glo 1
theorem Tx.g_is_part (T : Tx w K mg base) : mg "is_part" = some (.ref (He.ga K "is_part")) := T.glo 2
theorem Tx.g_is_of (T : Tx w K mg base) : mg "is_of" = some (.ref (He.ga K "is_of")) := T.glo 3
theorem Tx.g_is_deed (T : Tx w K mg base) : mg "is_deed" = some (.ref (He.ga K "is_deed")) := T.glo 4
theorem Tx.g_need_deed (T : Tx w K mg base) : mg "need_deed" = some (.ref (He.ga K "need_deed")) := T.glo 5
theorem Tx.g_need_program (T : Tx w K mg base) : mg "need_program" = some (.ref (He.ga K "need_program")) := T.glo 6
theorem Tx.g_number_of (T : Tx w K mg base) : mg "number_of" = some (.ref (He.ga K "number_of")) := T.glo 7
theorem Tx.g_nearest (T : Tx w K mg base) : mg "nearest" = some (.ref (He.ga K "nearest")) := T.glo 8
theorem Tx.g_keeps (T : Tx w K mg base) : mg "keeps" = some (.ref (He.ga K "keeps")) := T.glo 9
theorem Tx.g_totals (T : Tx w K mg base) : mg "totals" = some (.ref (He.ga K "totals")) := T.glo 10
theorem Tx.g_value_told (T : Tx w K mg base) : mg "value_told" = some (.ref (He.ga K "value_told")) := T.glo 11
theorem Tx.g_names_told (T : Tx w K mg base) : mg "names_told" = some (.ref (He.ga K "names_told")) := T.glo 12
theorem Tx.g_parts_told (T : Tx w K mg base) : mg "parts_told" = some (.ref (He.ga K "parts_told")) := T.glo 13
theorem Tx.g_photo_of (T : Tx w K mg base) : mg "photo_of" = some (.ref (He.ga K "photo_of")) := T.glo 14
theorem Tx.g_compared (T : Tx w K mg base) : mg "compared" = some (.ref (He.ga K "compared")) := T.glo 15
theorem Tx.g_growing (T : Tx w K mg base) : mg "growing" = some (.ref (He.ga K "growing")) := T.glo 16
theorem Tx.g_leak (T : Tx w K mg base) : mg "leak" = some (.ref (He.ga K "leak")) := T.glo 17
theorem Tx.g__law_mix (T : Tx w K mg base) : mg "_law_mix" = some (.ref (He.ga K "_law_mix")) := T.glo 18
theorem Tx.g__law_next (T : Tx w K mg base) : mg "_law_next" = some (.ref (He.ga K "_law_next")) := T.glo 19
theorem Tx.g__law_first (T : Tx w K mg base) : mg "_law_first" = some (.ref (He.ga K "_law_first")) := T.glo 20
theorem Tx.g__law_down (T : Tx w K mg base) : mg "_law_down" = some (.ref (He.ga K "_law_down")) := T.glo 21
theorem Tx.g_law (T : Tx w K mg base) : mg "law" = some (.ref (He.ga K "law")) := T.glo 22
theorem Tx.n_bool (T : Tx w K mg base) : mg "bool" = none := T.free 23
theorem Tx.n_dict (T : Tx w K mg base) : mg "dict" = none := T.free 24
theorem Tx.n_enumerate (T : Tx w K mg base) : mg "enumerate" = none := T.free 25
theorem Tx.n_int (T : Tx w K mg base) : mg "int" = none := T.free 26
theorem Tx.n_isinstance (T : Tx w K mg base) : mg "isinstance" = none := T.free 27
theorem Tx.n_len (T : Tx w K mg base) : mg "len" = none := T.free 28
theorem Tx.n_list (T : Tx w K mg base) : mg "list" = none := T.free 29
theorem Tx.n_max (T : Tx w K mg base) : mg "max" = none := T.free 30
theorem Tx.n_range (T : Tx w K mg base) : mg "range" = none := T.free 31
theorem Tx.n_set (T : Tx w K mg base) : mg "set" = none := T.free 32
theorem Tx.n_sorted (T : Tx w K mg base) : mg "sorted" = none := T.free 33
theorem Tx.n_str (T : Tx w K mg base) : mg "str" = none := T.free 34
theorem Tx.n_tuple (T : Tx w K mg base) : mg "tuple" = none := T.free 35
theorem Tx.g_Graph (T : Tx w K mg base) : mg "Graph" = some (.ref (He.ga K "Graph")) := T.glo 36
theorem Tx.k_Graph (T : Tx w K mg base) : ∃ u, mg "Graph" = some u ∧ RelV (.ref (He.ga K "Graph")) u := ⟨_, T.g_Graph, rfl⟩
theorem Tx.cl_Graph (T : Tx w K mg base) : Cls K (He.ga K "Graph") := He.cls_ok (T.fact 37)
theorem Tx.mk_Graph (T : Tx w K mg base) : Mk K (He.ga K "Graph") (He.ma K (He.ga K "Graph") "__init__") := He.mkr_ok (T.fact 38)
theorem Tx.na_Graph_sizes (T : Tx w K mg base) : NoAttr K (He.ga K "Graph") "sizes" := He.noat_ok (T.fact 39)
theorem Tx.na_Graph_ways (T : Tx w K mg base) : NoAttr K (He.ga K "Graph") "ways" := He.noat_ok (T.fact 40)
theorem Tx.me_Graph_need (T : Tx w K mg base) : Meth K (He.ga K "Graph") "need" (He.ma K (He.ga K "Graph") "need") := He.meth_ok (T.fact 41)
theorem Tx.me_Graph_order (T : Tx w K mg base) : Meth K (He.ga K "Graph") "order" (He.ma K (He.ga K "Graph") "order") := He.meth_ok (T.fact 42)
theorem Tx.me_Graph_from_where (T : Tx w K mg base) : Meth K (He.ga K "Graph") "from_where" (He.ma K (He.ga K "Graph") "from_where") := He.meth_ok (T.fact 43)
theorem Tx.me_Graph_masters (T : Tx w K mg base) : Meth K (He.ga K "Graph") "masters" (He.ma K (He.ga K "Graph") "masters") := He.meth_ok (T.fact 44)
theorem Tx.me_Graph_totals (T : Tx w K mg base) : Meth K (He.ga K "Graph") "totals" (He.ma K (He.ga K "Graph") "totals") := He.meth_ok (T.fact 45)
theorem Tx.g_Ref (T : Tx w K mg base) : mg "Ref" = some (.ref (He.ga K "Ref")) := T.glo 46
theorem Tx.k_Ref (T : Tx w K mg base) : ∃ u, mg "Ref" = some u ∧ RelV (.ref (He.ga K "Ref")) u := ⟨_, T.g_Ref, rfl⟩
theorem Tx.cl_Ref (T : Tx w K mg base) : Cls K (He.ga K "Ref") := He.cls_ok (T.fact 47)
theorem Tx.mk_Ref (T : Tx w K mg base) : Mk K (He.ga K "Ref") (He.ma K (He.ga K "Ref") "__init__") := He.mkr_ok (T.fact 48)
theorem Tx.na_Ref_number (T : Tx w K mg base) : NoAttr K (He.ga K "Ref") "number" := He.noat_ok (T.fact 49)
theorem Tx.g_Thing (T : Tx w K mg base) : mg "Thing" = some (.ref (He.ga K "Thing")) := T.glo 50
theorem Tx.k_Thing (T : Tx w K mg base) : ∃ u, mg "Thing" = some u ∧ RelV (.ref (He.ga K "Thing")) u := ⟨_, T.g_Thing, rfl⟩
theorem Tx.cl_Thing (T : Tx w K mg base) : Cls K (He.ga K "Thing") := He.cls_ok (T.fact 51)
theorem Tx.mk_Thing (T : Tx w K mg base) : Mk K (He.ga K "Thing") (He.ma K (He.ga K "Thing") "__init__") := He.mkr_ok (T.fact 52)
theorem Tx.na_Thing_kind (T : Tx w K mg base) : NoAttr K (He.ga K "Thing") "kind" := He.noat_ok (T.fact 53)
theorem Tx.na_Thing_held (T : Tx w K mg base) : NoAttr K (He.ga K "Thing") "held" := He.noat_ok (T.fact 54)
theorem Tx.na_Thing_sees (T : Tx w K mg base) : NoAttr K (He.ga K "Thing") "sees" := He.noat_ok (T.fact 55)
theorem Tx.na_Thing_is_told (T : Tx w K mg base) : NoAttr K (He.ga K "Thing") "is_told" := He.noat_ok (T.fact 56)
theorem Tx.na_Thing_waits (T : Tx w K mg base) : NoAttr K (He.ga K "Thing") "waits" := He.noat_ok (T.fact 57)
theorem Tx.na_Thing_is_given (T : Tx w K mg base) : NoAttr K (He.ga K "Thing") "is_given" := He.noat_ok (T.fact 58)
theorem Tx.na_Thing_goal (T : Tx w K mg base) : NoAttr K (He.ga K "Thing") "goal" := He.noat_ok (T.fact 59)
theorem Tx.me_Thing_has (T : Tx w K mg base) : Meth K (He.ga K "Thing") "has" (He.ma K (He.ga K "Thing") "has") := He.meth_ok (T.fact 60)
theorem Tx.me_Thing_may_get (T : Tx w K mg base) : Meth K (He.ga K "Thing") "may_get" (He.ma K (He.ga K "Thing") "may_get") := He.meth_ok (T.fact 61)
theorem Tx.me_Thing_cut (T : Tx w K mg base) : Meth K (He.ga K "Thing") "cut" (He.ma K (He.ga K "Thing") "cut") := He.meth_ok (T.fact 62)
theorem Tx.me_Thing_parts (T : Tx w K mg base) : Meth K (He.ga K "Thing") "parts" (He.ma K (He.ga K "Thing") "parts") := He.meth_ok (T.fact 63)
theorem Tx.me_Thing_holds (T : Tx w K mg base) : Meth K (He.ga K "Thing") "holds" (He.ma K (He.ga K "Thing") "holds") := He.meth_ok (T.fact 64)
theorem Tx.me_Thing_size (T : Tx w K mg base) : Meth K (He.ga K "Thing") "size" (He.ma K (He.ga K "Thing") "size") := He.meth_ok (T.fact 65)
theorem Tx.g_Heap (T : Tx w K mg base) : mg "Heap" = some (.ref (He.ga K "Heap")) := T.glo 66
theorem Tx.k_Heap (T : Tx w K mg base) : ∃ u, mg "Heap" = some u ∧ RelV (.ref (He.ga K "Heap")) u := ⟨_, T.g_Heap, rfl⟩
theorem Tx.cl_Heap (T : Tx w K mg base) : Cls K (He.ga K "Heap") := He.cls_ok (T.fact 67)
theorem Tx.mk_Heap (T : Tx w K mg base) : Mk K (He.ga K "Heap") (He.ma K (He.ga K "Heap") "__init__") := He.mkr_ok (T.fact 68)
theorem Tx.na_Heap_names (T : Tx w K mg base) : NoAttr K (He.ga K "Heap") "names" := He.noat_ok (T.fact 69)
theorem Tx.na_Heap_things (T : Tx w K mg base) : NoAttr K (He.ga K "Heap") "things" := He.noat_ok (T.fact 70)
theorem Tx.na_Heap_made (T : Tx w K mg base) : NoAttr K (He.ga K "Heap") "made" := He.noat_ok (T.fact 71)
theorem Tx.me_Heap_make (T : Tx w K mg base) : Meth K (He.ga K "Heap") "make" (He.ma K (He.ga K "Heap") "make") := He.meth_ok (T.fact 72)
theorem Tx.me_Heap_thing_of (T : Tx w K mg base) : Meth K (He.ga K "Heap") "thing_of" (He.ma K (He.ga K "Heap") "thing_of") := He.meth_ok (T.fact 73)
theorem Tx.me_Heap_of_names (T : Tx w K mg base) : Meth K (He.ga K "Heap") "of_names" (He.ma K (He.ga K "Heap") "of_names") := He.meth_ok (T.fact 74)
theorem Tx.me_Heap_due (T : Tx w K mg base) : Meth K (He.ga K "Heap") "due" (He.ma K (He.ga K "Heap") "due") := He.meth_ok (T.fact 75)
theorem Tx.me_Heap_closed (T : Tx w K mg base) : Meth K (He.ga K "Heap") "closed" (He.ma K (He.ga K "Heap") "closed") := He.meth_ok (T.fact 76)
theorem Tx.me_Heap_reach (T : Tx w K mg base) : Meth K (He.ga K "Heap") "reach" (He.ma K (He.ga K "Heap") "reach") := He.meth_ok (T.fact 77)
theorem Tx.g_Doer (T : Tx w K mg base) : mg "Doer" = some (.ref (He.ga K "Doer")) := T.glo 78
theorem Tx.k_Doer (T : Tx w K mg base) : ∃ u, mg "Doer" = some u ∧ RelV (.ref (He.ga K "Doer")) u := ⟨_, T.g_Doer, rfl⟩
theorem Tx.cl_Doer (T : Tx w K mg base) : Cls K (He.ga K "Doer") := He.cls_ok (T.fact 79)
theorem Tx.mk_Doer (T : Tx w K mg base) : Mk K (He.ga K "Doer") (He.ma K (He.ga K "Doer") "__init__") := He.mkr_ok (T.fact 80)
theorem Tx.na_Doer_heap (T : Tx w K mg base) : NoAttr K (He.ga K "Doer") "heap" := He.noat_ok (T.fact 81)
theorem Tx.na_Doer_made (T : Tx w K mg base) : NoAttr K (He.ga K "Doer") "made" := He.noat_ok (T.fact 82)
theorem Tx.na_Doer_written (T : Tx w K mg base) : NoAttr K (He.ga K "Doer") "written" := He.noat_ok (T.fact 83)
theorem Tx.me_Doer_do (T : Tx w K mg base) : Meth K (He.ga K "Doer") "do" (He.ma K (He.ga K "Doer") "do") := He.meth_ok (T.fact 84)
theorem Tx.me_Doer_hold (T : Tx w K mg base) : Meth K (He.ga K "Doer") "hold" (He.ma K (He.ga K "Doer") "hold") := He.meth_ok (T.fact 85)
theorem Tx.me_Doer_do_make (T : Tx w K mg base) : Meth K (He.ga K "Doer") "do_make" (He.ma K (He.ga K "Doer") "do_make") := He.meth_ok (T.fact 86)
theorem Tx.me_Doer_do_name (T : Tx w K mg base) : Meth K (He.ga K "Doer") "do_name" (He.ma K (He.ga K "Doer") "do_name") := He.meth_ok (T.fact 87)
theorem Tx.me_Doer_do_part (T : Tx w K mg base) : Meth K (He.ga K "Doer") "do_part" (He.ma K (He.ga K "Doer") "do_part") := He.meth_ok (T.fact 88)
theorem Tx.me_Doer_do_last (T : Tx w K mg base) : Meth K (He.ga K "Doer") "do_last" (He.ma K (He.ga K "Doer") "do_last") := He.meth_ok (T.fact 89)
theorem Tx.me_Doer_tell_watches (T : Tx w K mg base) : Meth K (He.ga K "Doer") "tell_watches" (He.ma K (He.ga K "Doer") "tell_watches") := He.meth_ok (T.fact 90)
theorem Tx.me_Doer_do_ask (T : Tx w K mg base) : Meth K (He.ga K "Doer") "do_ask" (He.ma K (He.ga K "Doer") "do_ask") := He.meth_ok (T.fact 91)
theorem Tx.me_Doer_settle (T : Tx w K mg base) : Meth K (He.ga K "Doer") "settle" (He.ma K (He.ga K "Doer") "settle") := He.meth_ok (T.fact 92)
theorem Tx.g_Plain (T : Tx w K mg base) : mg "Plain" = some (.ref (He.ga K "Plain")) := T.glo 93
theorem Tx.k_Plain (T : Tx w K mg base) : ∃ u, mg "Plain" = some u ∧ RelV (.ref (He.ga K "Plain")) u := ⟨_, T.g_Plain, rfl⟩
theorem Tx.cl_Plain (T : Tx w K mg base) : Cls K (He.ga K "Plain") := He.cls_ok (T.fact 94)
theorem Tx.mk_Plain (T : Tx w K mg base) : Mk K (He.ga K "Plain") (He.ma K (He.ga K "Plain") "__init__") := He.mkr_ok (T.fact 95)
theorem Tx.na_Plain_doer (T : Tx w K mg base) : NoAttr K (He.ga K "Plain") "doer" := He.noat_ok (T.fact 96)
theorem Tx.me_Plain_do (T : Tx w K mg base) : Meth K (He.ga K "Plain") "do" (He.ma K (He.ga K "Plain") "do") := He.meth_ok (T.fact 97)
theorem Tx.me_Plain_reach (T : Tx w K mg base) : Meth K (He.ga K "Plain") "reach" (He.ma K (He.ga K "Plain") "reach") := He.meth_ok (T.fact 98)
theorem Tx.me_Plain_photo (T : Tx w K mg base) : Meth K (He.ga K "Plain") "photo" (He.ma K (He.ga K "Plain") "photo") := He.meth_ok (T.fact 99)
theorem Tx.k_NAMES (T : Tx w K mg base) : ∃ u, mg "NAMES" = some u ∧ RelV (.str "pqrstuvw") u := T.kstr 100
theorem Tx.k_LETTERS (T : Tx w K mg base) : ∃ u, mg "LETTERS" = some u ∧ RelV (.str "abcd") u := T.kstr 102
theorem Tx.k_WATCH (T : Tx w K mg base) : ∃ u, mg "WATCH" = some u ∧ RelV (.str "watch") u := T.kstr 110
theorem Tx.k_RECORD (T : Tx w K mg base) : ∃ u, mg "RECORD" = some u ∧ RelV (.str "record") u := T.kstr 111
theorem Tx.k_ROW (T : Tx w K mg base) : ∃ u, mg "ROW" = some u ∧ RelV (.str "row") u := T.kstr 112
theorem Tx.k_NO (T : Tx w K mg base) : ∃ u, mg "NO" = some u ∧ RelV (.str "no") u := T.kstr 113
theorem Tx.k_MOST_NUMBER (T : Tx w K mg base) : ∃ u, mg "MOST_NUMBER" = some u ∧ RelV (.int 99) u := T.kint 103
theorem Tx.k_MOST_KEY (T : Tx w K mg base) : ∃ u, mg "MOST_KEY" = some u ∧ RelV (.int 9) u := T.kint 104
theorem Tx.k_MOST_DEEDS (T : Tx w K mg base) : ∃ u, mg "MOST_DEEDS" = some u ∧ RelV (.int 120) u := T.kint 105
theorem Tx.k_TOP (T : Tx w K mg base) : ∃ u, mg "TOP" = some u ∧ RelV (.int (-1)) u := T.kint 107
theorem Tx.k_MOST_ROW (T : Tx w K mg base) : ∃ u, mg "MOST_ROW" = some u ∧ RelV (.int 8) u := T.kint 108
theorem Tx.k_MOST_BOOK (T : Tx w K mg base) : ∃ u, mg "MOST_BOOK" = some u ∧ RelV (.int 6) u := T.kint 109
theorem Tx.k_LEAST (T : Tx w K mg base) : ∃ u, mg "LEAST" = some u ∧ RelV (.int 2) u := T.kint 114
theorem Tx.k_MOST (T : Tx w K mg base) : ∃ u, mg "MOST" = some u ∧ RelV (.int 8) u := T.kint 115
theorem Tx.ins_Ref (T : Tx w K mg base) : InsC K (He.ga K "Ref") := insB_ok T.cl_Ref (T.more 0)
theorem Tx.isR_NoneType (T : Tx w K mg base) : PySem.W.kitOne K (.type "NoneType") (.ref (He.ga K "Ref")) = some false := of_decide_eq_true (T.more 14)
theorem Tx.isR_int (T : Tx w K mg base) : PySem.W.kitOne K (.type "int") (.ref (He.ga K "Ref")) = some false := of_decide_eq_true (T.more 15)
theorem Tx.ne_Thing (T : Tx w K mg base) : He.ga K "Thing" ≠ He.ga K "Ref" := of_decide_eq_true (T.more 16)
theorem Tx.ne_Heap (T : Tx w K mg base) : He.ga K "Heap" ≠ He.ga K "Ref" := of_decide_eq_true (T.more 17)
theorem Tx.ne_Doer (T : Tx w K mg base) : He.ga K "Doer" ≠ He.ga K "Ref" := of_decide_eq_true (T.more 18)
theorem Tx.ne_Plain (T : Tx w K mg base) : He.ga K "Plain" ≠ He.ga K "Ref" := of_decide_eq_true (T.more 19)
theorem Tx.ne_Graph (T : Tx w K mg base) : He.ga K "Graph" ≠ He.ga K "Ref" := of_decide_eq_true (T.more 20)
theorem Tx.k_KINDS (T : Tx w K mg base) : ∃ u, mg "KINDS" = some u ∧ RelV (.ref (He.ga K "KINDS")) u := ⟨_, T.glo 101, rfl⟩
theorem Tx.t_KINDS (T : Tx w K mg base) (H : Hp) : SqT K H (He.ga K "KINDS") [.str "record", .str "row", .str "book"] := He.tupB_ok (T.more 1) H
theorem Tx.k_SHAPES (T : Tx w K mg base) : ∃ u, mg "SHAPES" = some u ∧ RelV (.ref (He.ga K "SHAPES")) u := ⟨_, T.glo 106, rfl⟩
theorem Tx.fn_is_name (T : Tx w K mg base) : ∃ fd, FunD K "is_name" "is_name" (fnArgs s_is_name) (fnBody s_is_name) (fnScope s_is_name) [] [] (He.ga K "is_name") fd := T.def_ 0 (d := d_is_name)
theorem Tx.fn_is_number (T : Tx w K mg base) : ∃ fd, FunD K "is_number" "is_number" (fnArgs s_is_number) (fnBody s_is_number) (fnScope s_is_number) [] [] (He.ga K "is_number") fd := T.def_ 1 (d := d_is_number)
theorem Tx.fn_is_part (T : Tx w K mg base) : ∃ fd, FunD K "is_part" "is_part" (fnArgs s_is_part) (fnBody s_is_part) (fnScope s_is_part) [] [] (He.ga K "is_part") fd := T.def_ 2 (d := d_is_part)
theorem Tx.fn_is_of (T : Tx w K mg base) : ∃ fd, FunD K "is_of" "is_of" (fnArgs s_is_of) (fnBody s_is_of) (fnScope s_is_of) [] [] (He.ga K "is_of") fd := T.def_ 3 (d := d_is_of)
theorem Tx.fn_is_deed (T : Tx w K mg base) : ∃ fd, FunD K "is_deed" "is_deed" (fnArgs s_is_deed) (fnBody s_is_deed) (fnScope s_is_deed) [] [] (He.ga K "is_deed") fd := T.def_ 4 (d := d_is_deed)
theorem Tx.fn_need_deed (T : Tx w K mg base) : ∃ fd, FunD K "need_deed" "need_deed" (fnArgs s_need_deed) (fnBody s_need_deed) (fnScope s_need_deed) [] [] (He.ga K "need_deed") fd := T.def_ 5 (d := d_need_deed)
theorem Tx.fn_need_program (T : Tx w K mg base) : ∃ fd, FunD K "need_program" "need_program" (fnArgs s_need_program) (fnBody s_need_program) (fnScope s_need_program) [] [] (He.ga K "need_program") fd := T.def_ 6 (d := d_need_program)
theorem Tx.fn_number_of (T : Tx w K mg base) : ∃ fd, FunD K "number_of" "number_of" (fnArgs s_number_of) (fnBody s_number_of) (fnScope s_number_of) [] [] (He.ga K "number_of") fd := T.def_ 7 (d := d_number_of)
theorem Tx.fn_Graph_init (T : Tx w K mg base) : ∃ fd, FunD K "__init__" "Graph.__init__" (fnArgs s_Graph_init) (fnBody s_Graph_init) (fnScope s_Graph_init) [] [] (He.ma K (He.ga K "Graph") "__init__") fd := T.def_ 8 (d := d_Graph_init)
theorem Tx.fn_Graph_need (T : Tx w K mg base) : ∃ fd, FunD K "need" "Graph.need" (fnArgs s_Graph_need) (fnBody s_Graph_need) (fnScope s_Graph_need) [] [] (He.ma K (He.ga K "Graph") "need") fd := T.def_ 9 (d := d_Graph_need)
theorem Tx.fn_Graph_order (T : Tx w K mg base) : ∃ fd, FunD K "order" "Graph.order" (fnArgs s_Graph_order) (fnBody s_Graph_order) (fnScope s_Graph_order) [] [] (He.ma K (He.ga K "Graph") "order") fd := T.def_ 10 (d := d_Graph_order)
theorem Tx.fn_Graph_from_where (T : Tx w K mg base) : ∃ fd, FunD K "from_where" "Graph.from_where" (fnArgs s_Graph_from_where) (fnBody s_Graph_from_where) (fnScope s_Graph_from_where) [] [] (He.ma K (He.ga K "Graph") "from_where") fd := T.def_ 11 (d := d_Graph_from_where)
theorem Tx.fn_Graph_masters (T : Tx w K mg base) : ∃ fd, FunD K "masters" "Graph.masters" (fnArgs s_Graph_masters) (fnBody s_Graph_masters) (fnScope s_Graph_masters) [] [] (He.ma K (He.ga K "Graph") "masters") fd := T.def_ 12 (d := d_Graph_masters)
theorem Tx.fn_Graph_totals (T : Tx w K mg base) : ∃ fd, FunD K "totals" "Graph.totals" (fnArgs s_Graph_totals) (fnBody s_Graph_totals) (fnScope s_Graph_totals) [] [] (He.ma K (He.ga K "Graph") "totals") fd := T.def_ 13 (d := d_Graph_totals)
theorem Tx.fn_nearest (T : Tx w K mg base) : ∃ fd, FunD K "nearest" "nearest" (fnArgs s_nearest) (fnBody s_nearest) (fnScope s_nearest) [] [] (He.ga K "nearest") fd := T.def_ 14 (d := d_nearest)
theorem Tx.fn_keeps (T : Tx w K mg base) : ∃ fd, FunD K "keeps" "keeps" (fnArgs s_keeps) (fnBody s_keeps) (fnScope s_keeps) [] [] (He.ga K "keeps") fd := T.def_ 15 (d := d_keeps)
theorem Tx.fn_totals (T : Tx w K mg base) : ∃ fd, FunD K "totals" "totals" (fnArgs s_totals) (fnBody s_totals) (fnScope s_totals) [] [] (He.ga K "totals") fd := T.def_ 16 (d := d_totals)
theorem Tx.fn_Ref_init (T : Tx w K mg base) : ∃ fd, FunD K "__init__" "Ref.__init__" (fnArgs s_Ref_init) (fnBody s_Ref_init) (fnScope s_Ref_init) [] [] (He.ma K (He.ga K "Ref") "__init__") fd := T.def_ 17 (d := d_Ref_init)
theorem Tx.fn_value_told (T : Tx w K mg base) : ∃ fd, FunD K "value_told" "value_told" (fnArgs s_value_told) (fnBody s_value_told) (fnScope s_value_told) [] [] (He.ga K "value_told") fd := T.def_ 18 (d := d_value_told)
theorem Tx.fn_Thing_init (T : Tx w K mg base) : ∃ fd, FunD K "__init__" "Thing.__init__" (fnArgs s_Thing_init) (fnBody s_Thing_init) (fnScope s_Thing_init) [] [] (He.ma K (He.ga K "Thing") "__init__") fd := T.def_ 19 (d := d_Thing_init)
theorem Tx.fn_Thing_has (T : Tx w K mg base) : ∃ fd, FunD K "has" "Thing.has" (fnArgs s_Thing_has) (fnBody s_Thing_has) (fnScope s_Thing_has) [] [] (He.ma K (He.ga K "Thing") "has") fd := T.def_ 20 (d := d_Thing_has)
theorem Tx.fn_Thing_may_get (T : Tx w K mg base) : ∃ fd, FunD K "may_get" "Thing.may_get" (fnArgs s_Thing_may_get) (fnBody s_Thing_may_get) (fnScope s_Thing_may_get) [] [] (He.ma K (He.ga K "Thing") "may_get") fd := T.def_ 21 (d := d_Thing_may_get)
theorem Tx.fn_Thing_cut (T : Tx w K mg base) : ∃ fd, FunD K "cut" "Thing.cut" (fnArgs s_Thing_cut) (fnBody s_Thing_cut) (fnScope s_Thing_cut) [] [] (He.ma K (He.ga K "Thing") "cut") fd := T.def_ 22 (d := d_Thing_cut)
theorem Tx.fn_Thing_parts (T : Tx w K mg base) : ∃ fd, FunD K "parts" "Thing.parts" (fnArgs s_Thing_parts) (fnBody s_Thing_parts) (fnScope s_Thing_parts) [] [] (He.ma K (He.ga K "Thing") "parts") fd := T.def_ 23 (d := d_Thing_parts)
theorem Tx.fn_Thing_holds (T : Tx w K mg base) : ∃ fd, FunD K "holds" "Thing.holds" (fnArgs s_Thing_holds) (fnBody s_Thing_holds) (fnScope s_Thing_holds) [] [] (He.ma K (He.ga K "Thing") "holds") fd := T.def_ 24 (d := d_Thing_holds)
theorem Tx.fn_Thing_size (T : Tx w K mg base) : ∃ fd, FunD K "size" "Thing.size" (fnArgs s_Thing_size) (fnBody s_Thing_size) (fnScope s_Thing_size) [] [] (He.ma K (He.ga K "Thing") "size") fd := T.def_ 25 (d := d_Thing_size)
theorem Tx.fn_Heap_init (T : Tx w K mg base) : ∃ fd, FunD K "__init__" "Heap.__init__" (fnArgs s_Heap_init) (fnBody s_Heap_init) (fnScope s_Heap_init) [] [] (He.ma K (He.ga K "Heap") "__init__") fd := T.def_ 26 (d := d_Heap_init)
theorem Tx.fn_Heap_make (T : Tx w K mg base) : ∃ fd, FunD K "make" "Heap.make" (fnArgs s_Heap_make) (fnBody s_Heap_make) (fnScope s_Heap_make) [] [] (He.ma K (He.ga K "Heap") "make") fd := T.def_ 27 (d := d_Heap_make)
theorem Tx.fn_Heap_thing_of (T : Tx w K mg base) : ∃ fd, FunD K "thing_of" "Heap.thing_of" (fnArgs s_Heap_thing_of) (fnBody s_Heap_thing_of) (fnScope s_Heap_thing_of) [] [] (He.ma K (He.ga K "Heap") "thing_of") fd := T.def_ 28 (d := d_Heap_thing_of)
theorem Tx.fn_Heap_of_names (T : Tx w K mg base) : ∃ fd, FunD K "of_names" "Heap.of_names" (fnArgs s_Heap_of_names) (fnBody s_Heap_of_names) (fnScope s_Heap_of_names) [] [] (He.ma K (He.ga K "Heap") "of_names") fd := T.def_ 29 (d := d_Heap_of_names)
theorem Tx.fn_Heap_due (T : Tx w K mg base) : ∃ fd, FunD K "due" "Heap.due" (fnArgs s_Heap_due) (fnBody s_Heap_due) (fnScope s_Heap_due) [] [] (He.ma K (He.ga K "Heap") "due") fd := T.def_ 30 (d := d_Heap_due)
theorem Tx.fn_Heap_closed (T : Tx w K mg base) : ∃ fd, FunD K "closed" "Heap.closed" (fnArgs s_Heap_closed) (fnBody s_Heap_closed) (fnScope s_Heap_closed) [] [] (He.ma K (He.ga K "Heap") "closed") fd := T.def_ 31 (d := d_Heap_closed)
theorem Tx.fn_Heap_reach (T : Tx w K mg base) : ∃ fd, FunD K "reach" "Heap.reach" (fnArgs s_Heap_reach) (fnBody s_Heap_reach) (fnScope s_Heap_reach) [] [] (He.ma K (He.ga K "Heap") "reach") fd := T.def_ 32 (d := d_Heap_reach)
theorem Tx.fn_Doer_init (T : Tx w K mg base) : ∃ fd, FunD K "__init__" "Doer.__init__" (fnArgs s_Doer_init) (fnBody s_Doer_init) (fnScope s_Doer_init) [] [] (He.ma K (He.ga K "Doer") "__init__") fd := T.def_ 33 (d := d_Doer_init)
theorem Tx.fn_Doer_do (T : Tx w K mg base) : ∃ fd, FunD K "do" "Doer.do" (fnArgs s_Doer_do) (fnBody s_Doer_do) (fnScope s_Doer_do) [] [] (He.ma K (He.ga K "Doer") "do") fd := T.def_ 34 (d := d_Doer_do)
theorem Tx.fn_Doer_hold (T : Tx w K mg base) : ∃ fd, FunD K "hold" "Doer.hold" (fnArgs s_Doer_hold) (fnBody s_Doer_hold) (fnScope s_Doer_hold) [] [] (He.ma K (He.ga K "Doer") "hold") fd := T.def_ 35 (d := d_Doer_hold)
theorem Tx.fn_Doer_do_make (T : Tx w K mg base) : ∃ fd, FunD K "do_make" "Doer.do_make" (fnArgs s_Doer_do_make) (fnBody s_Doer_do_make) (fnScope s_Doer_do_make) [] [] (He.ma K (He.ga K "Doer") "do_make") fd := T.def_ 36 (d := d_Doer_do_make)
theorem Tx.fn_Doer_do_name (T : Tx w K mg base) : ∃ fd, FunD K "do_name" "Doer.do_name" (fnArgs s_Doer_do_name) (fnBody s_Doer_do_name) (fnScope s_Doer_do_name) [] [] (He.ma K (He.ga K "Doer") "do_name") fd := T.def_ 37 (d := d_Doer_do_name)
theorem Tx.fn_Doer_do_part (T : Tx w K mg base) : ∃ fd, FunD K "do_part" "Doer.do_part" (fnArgs s_Doer_do_part) (fnBody s_Doer_do_part) (fnScope s_Doer_do_part) [] [] (He.ma K (He.ga K "Doer") "do_part") fd := T.def_ 38 (d := d_Doer_do_part)
theorem Tx.fn_Doer_do_last (T : Tx w K mg base) : ∃ fd, FunD K "do_last" "Doer.do_last" (fnArgs s_Doer_do_last) (fnBody s_Doer_do_last) (fnScope s_Doer_do_last) [] [] (He.ma K (He.ga K "Doer") "do_last") fd := T.def_ 39 (d := d_Doer_do_last)
theorem Tx.fn_Doer_tell_watches (T : Tx w K mg base) : ∃ fd, FunD K "tell_watches" "Doer.tell_watches" (fnArgs s_Doer_tell_watches) (fnBody s_Doer_tell_watches) (fnScope s_Doer_tell_watches) [] [] (He.ma K (He.ga K "Doer") "tell_watches") fd := T.def_ 40 (d := d_Doer_tell_watches)
theorem Tx.fn_Doer_do_ask (T : Tx w K mg base) : ∃ fd, FunD K "do_ask" "Doer.do_ask" (fnArgs s_Doer_do_ask) (fnBody s_Doer_do_ask) (fnScope s_Doer_do_ask) [] [] (He.ma K (He.ga K "Doer") "do_ask") fd := T.def_ 41 (d := d_Doer_do_ask)
theorem Tx.fn_Doer_settle (T : Tx w K mg base) : ∃ fd, FunD K "settle" "Doer.settle" (fnArgs s_Doer_settle) (fnBody s_Doer_settle) (fnScope s_Doer_settle) [] [] (He.ma K (He.ga K "Doer") "settle") fd := T.def_ 42 (d := d_Doer_settle)
theorem Tx.fn_names_told (T : Tx w K mg base) : ∃ fd, FunD K "names_told" "names_told" (fnArgs s_names_told) (fnBody s_names_told) (fnScope s_names_told) [] [] (He.ga K "names_told") fd := T.def_ 43 (d := d_names_told)
theorem Tx.fn_parts_told (T : Tx w K mg base) : ∃ fd, FunD K "parts_told" "parts_told" (fnArgs s_parts_told) (fnBody s_parts_told) (fnScope s_parts_told) [] [] (He.ga K "parts_told") fd := T.def_ 44 (d := d_parts_told)
theorem Tx.fn_photo_of (T : Tx w K mg base) : ∃ fd, FunD K "photo_of" "photo_of" (fnArgs s_photo_of) (fnBody s_photo_of) (fnScope s_photo_of) [] [] (He.ga K "photo_of") fd := T.def_ 45 (d := d_photo_of)
theorem Tx.fn_Plain_init (T : Tx w K mg base) : ∃ fd, FunD K "__init__" "Plain.__init__" (fnArgs s_Plain_init) (fnBody s_Plain_init) (fnScope s_Plain_init) [] [] (He.ma K (He.ga K "Plain") "__init__") fd := T.def_ 46 (d := d_Plain_init)
theorem Tx.fn_Plain_do (T : Tx w K mg base) : ∃ fd, FunD K "do" "Plain.do" (fnArgs s_Plain_do) (fnBody s_Plain_do) (fnScope s_Plain_do) [] [] (He.ma K (He.ga K "Plain") "do") fd := T.def_ 47 (d := d_Plain_do)
theorem Tx.fn_Plain_reach (T : Tx w K mg base) : ∃ fd, FunD K "reach" "Plain.reach" (fnArgs s_Plain_reach) (fnBody s_Plain_reach) (fnScope s_Plain_reach) [] [] (He.ma K (He.ga K "Plain") "reach") fd := T.def_ 48 (d := d_Plain_reach)
theorem Tx.fn_Plain_photo (T : Tx w K mg base) : ∃ fd, FunD K "photo" "Plain.photo" (fnArgs s_Plain_photo) (fnBody s_Plain_photo) (fnScope s_Plain_photo) [] [] (He.ma K (He.ga K "Plain") "photo") fd := T.def_ 49 (d := d_Plain_photo)
theorem Tx.fn_compared (T : Tx w K mg base) : ∃ fd, FunD K "compared" "compared" (fnArgs s_compared) (fnBody s_compared) (fnScope s_compared) [] [] (He.ga K "compared") fd := T.def_ 50 (d := d_compared)
theorem Tx.fn_growing (T : Tx w K mg base) : ∃ fd, FunD K "growing" "growing" (fnArgs s_growing) (fnBody s_growing) (fnScope s_growing) [] [] (He.ga K "growing") fd := T.def_ 51 (d := d_growing)
theorem Tx.fn_leak (T : Tx w K mg base) : ∃ fd, FunD K "leak" "leak" (fnArgs s_leak) (fnBody s_leak) (fnScope s_leak) [] [] (He.ga K "leak") fd := T.def_ 52 (d := d_leak)
theorem Tx.fn__law_mix (T : Tx w K mg base) : ∃ fd, FunD K "_law_mix" "_law_mix" (fnArgs s__law_mix) (fnBody s__law_mix) (fnScope s__law_mix) [] [] (He.ga K "_law_mix") fd := T.def_ 53 (d := d__law_mix)
theorem Tx.fn__law_next (T : Tx w K mg base) : ∃ fd, FunD K "_law_next" "_law_next" (fnArgs s__law_next) (fnBody s__law_next) (fnScope s__law_next) [] [] (He.ga K "_law_next") fd := T.def_ 54 (d := d__law_next)
theorem Tx.fn__law_first (T : Tx w K mg base) : ∃ fd, FunD K "_law_first" "_law_first" (fnArgs s__law_first) (fnBody s__law_first) (fnScope s__law_first) [] [] (He.ga K "_law_first") fd := T.def_ 55 (d := d__law_first)
theorem Tx.fn__law_down (T : Tx w K mg base) : ∃ fd, FunD K "_law_down" "_law_down" (fnArgs s__law_down) (fnBody s__law_down) (fnScope s__law_down) [] [] (He.ga K "_law_down") fd := T.def_ 56 (d := d__law_down)
theorem Tx.fn_law (T : Tx w K mg base) : ∃ fd, FunD K "law" "law" (fnArgs s_law) (fnBody s_law) (fnScope s_law) [] [] (He.ga K "law") fd := T.def_ 57 (d := d_law)
end
/-! ### frames: all that stood but the objects F stays; tuples, Refs and the tables' facts stay anyway -/
def notTbl : HO → Prop
  | .tbl _ => False
  | _ => True
/-- what may be changed: a list, a dict, an own object that is no Ref, what is new -/
def Chg (K : PySem.W.Frag) : Option HO → Prop
  | some (.lst _) => True
  | some (.dK _) => True
  | some (.ins C _ _) => C ≠ He.ga K "Ref"
  | some (.frz _ _) => True
  | none => True
  | _ => False
structure Fr (K : PySem.W.Frag) (F : Addr → Prop) (H H' : Hp) : Prop where
  k : ∀ b o, H b = some o → ¬ F b → notTbl o → H' b = some o
  i : ∀ b xs, H b = some (.tup xs) → H' b = some (.tup xs)
  r : ∀ b dx fs, H b = some (.ins (He.ga K "Ref") dx fs) → H' b = some (.ins (He.ga K "Ref") dx fs)
  t : LamX.Tabs (TTs K) H → LamX.Tabs (TTs K) H'
def NoF (_ : Addr) : Prop := False
theorem Same.ap {H H' : Hp} {b : Addr} {o : HO} (s : Same H H') (e : H b = some o) : H' b = some o := s b o e
section
variable {K : PySem.W.Frag} {F G : Addr → Prop} {H H1 H2 : Hp} {a b : Addr} {o : HO}
theorem Fr.refl : Fr K F H H := ⟨fun _ _ e _ _ => e, fun _ _ e => e, fun _ _ _ e => e, fun t => t⟩
theorem Fr.mono (f : Fr K F H H1) (s : ∀ b, F b → G b) : Fr K G H H1 := ⟨fun b o e n t => f.k b o e (fun z => n (s b z)) t, f.i, f.r, f.t⟩
/-- what changes later is F's, or new -/
theorem Fr.trans (f : Fr K F H H1) (g : Fr K G H1 H2) (s : ∀ b, G b → F b ∨ H b = none) : Fr K F H H2 :=
  ⟨fun b o e n t => g.k b o (f.k b o e n t) (fun z => (s b z).elim n fun q => by rw [e] at q; cases q) t, fun b xs e => g.i b xs (f.i b xs e), fun b dx fs e => g.r b dx fs (f.r b dx fs e), fun t => g.t (f.t t)⟩
theorem Fr.tr (f : Fr K F H H1) (g : Fr K F H1 H2) : Fr K F H H2 := f.trans g fun _ z => .inl z
theorem Fr.same (s : Same H H1) : Fr K F H H1 := ⟨fun b o e _ _ => s b o e, fun b xs e => s b _ e, fun b dx fs e => s b _ e, fun t => t.ext s⟩
theorem Fr.upd (hF : F a) (ha : Chg K (H a)) : Fr K F H (upd H a o) := by
  have nx : ∀ b φ, H b = some (.ext φ) → b ≠ a := fun b φ e z => by rw [← z, e] at ha; exact ha
  have nt : ∀ b ps, H b = some (.tbl ps) → b ≠ a := fun b ps e z => by rw [← z, e] at ha; exact ha
  refine ⟨fun b u e n _ => by rw [upd_ne fun z => n (by rw [z]; exact hF)]; exact e, fun b xs e => by rw [upd_ne fun z => by rw [← z, e] at ha; exact ha]; exact e, fun b dx fs e => by rw [upd_ne fun z => by rw [← z, e] at ha; exact ha rfl]; exact e, fun t p hp => ?_⟩
  obtain ⟨ps, h1, h2, h3⟩ := t p hp
  refine ⟨ps, by rw [upd_ne (nt _ _ h1)]; exact h1, h2, fun pos cv hc => ?_⟩
  obtain ⟨c, e1, e2⟩ := h3 pos cv hc
  exact ⟨c, e1, by rw [upd_ne (nx _ _ e2)]; exact e2⟩
theorem Fr.lst {xs : List V} (f : Fr K F H H1) (e : H b = some (.lst xs)) (n : ¬ F b) : H1 b = some (.lst xs) := f.k b _ e n trivial
theorem Fr.dK {kvs : List (Key × V)} (f : Fr K F H H1) (e : H b = some (.dK kvs)) (n : ¬ F b) : H1 b = some (.dK kvs) := f.k b _ e n trivial
theorem Fr.ins {C dx : Addr} {fs : List (Str × V)} (f : Fr K F H H1) (e : H b = some (.ins C dx fs)) (n : ¬ F b) : H1 b = some (.ins C dx fs) := f.k b _ e n trivial
theorem Fr.no (f : Fr K F H H1) (e : H b ≠ none) (n : ¬ F b) (t : ∀ o, H b = some o → notTbl o) : H1 b ≠ none := by
  cases q : H b with
  | none => exact absurd q e
  | some o => rw [f.k b o q n (t o q)]; exact fun z => by cases z
theorem Fr.sqL {xs : List V} (f : Fr K F H H1) (e : SqL K H b xs) (n : ¬ F b) : SqL K H1 b xs := by
  rcases e with (e | ⟨o, e⟩) | e
  · exact .inl (.inl (f.k b _ e n trivial))
  · exact .inl (.inr ⟨o, f.k b _ e n trivial⟩)
  · exact .inr e
theorem Fr.none (f : Fr K NoF H H1) (h : H1 a = none) (t : ∀ ps, H a ≠ some (.tbl ps)) : H a = none := by
  cases q : H a with
  | none => rfl
  | some o =>
    have := f.k a o q (fun z => z) (by cases o <;> first | trivial | exact (t _ q).elim)
    rw [this] at h
    cases h
end
theorem fr0_dK {K : PySem.W.Frag} {H H' : Hp} {b : Addr} {kvs : List (Key × V)} (f : Fr K NoF H H') (e : H b = some (.dK kvs)) : H' b = some (.dK kvs) := f.k b _ e (fun z => z) trivial
theorem fr0_lst {K : PySem.W.Frag} {H H' : Hp} {b : Addr} {xs : List V} (f : Fr K NoF H H') (e : H b = some (.lst xs)) : H' b = some (.lst xs) := f.k b _ e (fun z => z) trivial
theorem fr0_ins {K : PySem.W.Frag} {H H' : Hp} {b C dx : Addr} {fs : List (Str × V)} (f : Fr K NoF H H') (e : H b = some (.ins C dx fs)) : H' b = some (.ins C dx fs) := f.k b _ e (fun z => z) trivial

/-! ### what a heap is: names, things by their numbers -/
inductive AV where
  | non | num (i : Int) | th (k : Nat)
  deriving DecidableEq
structure Th where
  kind : Str
  held : List (Key × AV)
  sees : Option Nat
  told : Bool
  given : Bool
  due : Bool
  goal : Option Str
structure HM where
  names : Str → AV
  things : Nat → Option Th
  made : Nat
def NMS : List Str := ["p", "q", "r", "s", "t", "u", "v", "w"]
def LTS : List Str := ["a", "b", "c", "d"]
def KDS : List Str := ["record", "row", "book"]
theorem NMS_nd : NMS.Nodup := by decide +kernel
/-- dicts by a list of texts -/
def kvL (l : List Str) (f : Str → V) : List (Key × V) := l.map fun n => (Sum.inr n, f n)
theorem valV_kvL {f : Str → V} {m : Str} : ∀ {l : List Str}, m ∈ l → valV (kvL l f) (Sum.inr m) = some (f m)
  | [], h => by cases h
  | a :: l, h => by
    show valV ((Sum.inr a, f a) :: kvL l f) (Sum.inr m) = some (f m)
    by_cases e : a = m
    · rw [valV_pos (by rw [e]), e]
    · rw [valV_neg (fun z => e (Sum.inr.inj z))]
      exact valV_kvL ((List.mem_cons.mp h).resolve_left fun z => e z.symm)
theorem valV_kvL_no {f : Str → V} {m : Str} : ∀ {l : List Str}, m ∉ l → valV (kvL l f) (Sum.inr m) = none
  | [], _ => rfl
  | a :: l, h => by
    show valV ((Sum.inr a, f a) :: kvL l f) (Sum.inr m) = none
    rw [valV_neg (fun z => h (by rw [← Sum.inr.inj z]; exact List.mem_cons_self))]
    exact valV_kvL_no fun z => h (List.mem_cons_of_mem _ z)
theorem putK_old {kvs : List (Key × V)} {k : Key} {v x : V} (h : valV kvs k = some x) : putK kvs k v = kvs.map fun kv => if kv.1 = k then (kv.1, v) else kv := by
  unfold putK
  rw [if_pos]
  rw [valV_any, h]
  rfl
theorem putK_kvL {l : List Str} {f : Str → V} {m : Str} {v : V} (h : m ∈ l) : putK (kvL l f) (Sum.inr m) v = kvL l (fun n => if n = m then v else f n) := by
  rw [putK_old (valV_kvL h)]
  unfold kvL
  rw [List.map_map]
  refine List.map_congr_left fun n _ => ?_
  show (if (Sum.inr n : Key) = Sum.inr m then ((Sum.inr n : Key), v) else (Sum.inr n, f n)) = (Sum.inr n, if n = m then v else f n)
  by_cases e : n = m
  · rw [if_pos (by rw [e]), if_pos e]
  · rw [if_neg (fun z => e (Sum.inr.inj z)), if_neg e]
/-! ### parts: what a thing holds, by parts -/
def hget (h : List (Key × AV)) (k : Key) : Option AV := (h.find? fun kv => decide (kv.1 = k)).map (·.2)
def hput (h : List (Key × AV)) (k : Key) (v : AV) : List (Key × AV) := if (hget h k).isSome then h.map fun kv => if kv.1 = k then (kv.1, v) else kv else h ++ [(k, v)]
def hdrop (h : List (Key × AV)) (k : Key) : List (Key × AV) := h.filter fun kv => decide (kv.1 ≠ k)
/-- a row of values at their places -/
def rowOf (vs : List AV) : List (Key × AV) := vs.mapIdx fun i v => (Sum.inl (i : Int), v)
/-- a dict's pairs and what is held -/
def HR (VV : V → AV → Prop) : List (Key × V) → List (Key × AV) → Prop := Paired fun (p : Key × V) (q : Key × AV) => p.1 = q.1 ∧ VV p.2 q.2
section
variable {VV WW : V → AV → Prop} {kvs : List (Key × V)} {h : List (Key × AV)} {k : Key}
theorem HR.mono (r : HR VV kvs h) (f : ∀ v a, VV v a → WW v a) : HR WW kvs h := Paired.mapP r fun _ _ z => ⟨z.1, f _ _ z.2⟩
theorem HR.len (r : HR VV kvs h) : kvs.length = h.length := Paired.length r
theorem HR.get : ∀ {kvs : List (Key × V)} {h : List (Key × AV)}, HR VV kvs h → ∀ k, (∀ a, hget h k = some a → ∃ v, valV kvs k = some v ∧ VV v a) ∧ (hget h k = none → valV kvs k = none)
  | _, _, .nil, k => ⟨fun a e => (by cases e), fun _ => rfl⟩
  | (k1, v) :: kvs, (k2, a) :: h, .cons ⟨e1, e2⟩ r, k => by
    have e1 : k1 = k2 := e1
    subst e1
    by_cases e : k1 = k
    · subst e
      refine ⟨fun a' e' => ⟨v, valV_pos rfl, ?_⟩, fun e' => ?_⟩
      · have : hget ((k1, a) :: h) k1 = some a := by simp [hget]
        rw [this] at e'
        cases e'
        exact e2
      · have : hget ((k1, a) :: h) k1 = some a := by simp [hget]
        rw [this] at e'
        cases e'
    · have h1 : hget ((k1, a) :: h) k = hget h k := by simp [hget, e]
      rw [h1, valV_neg e]
      exact HR.get r k
theorem HR.some (r : HR VV kvs h) {a : AV} (e : hget h k = some a) : ∃ v, valV kvs k = some v ∧ VV v a := (r.get k).1 a e
theorem HR.none (r : HR VV kvs h) (e : hget h k = none) : valV kvs k = none := (r.get k).2 e
theorem HR.isSome (r : HR VV kvs h) : (valV kvs k).isSome = (hget h k).isSome := by
  cases e : hget h k with
  | none => rw [r.none e]; rfl
  | some a => obtain ⟨v, e', _⟩ := r.some e; rw [e']; rfl
theorem HR.put (r : HR VV kvs h) {v : V} {a : AV} (va : VV v a) : HR VV (putK kvs k v) (hput h k a) := by
  unfold hput
  cases e : hget h k with
  | none =>
    rw [putK_new _ (r.none e)]
    have app : ∀ {kvs : List (Key × V)} {h : List (Key × AV)}, HR VV kvs h → HR VV (kvs ++ [(k, v)]) (h ++ [(k, a)]) := by
      intro kvs h r
      induction r with
      | nil => exact .cons ⟨rfl, va⟩ .nil
      | cons p _ ih => exact .cons p ih
    exact app r
  | some b =>
    obtain ⟨x, e', _⟩ := r.some e
    rw [putK_old e']
    have rep : ∀ {kvs : List (Key × V)} {h : List (Key × AV)}, HR VV kvs h → HR VV (kvs.map fun kv => if kv.1 = k then (kv.1, v) else kv) (h.map fun kv => if kv.1 = k then (kv.1, a) else kv) := by
      intro kvs h r
      induction r with
      | nil => exact .nil
      | @cons p q ps qs z _ ih =>
        refine .cons ?_ ih
        show (if p.1 = k then (p.1, v) else p).1 = (if q.1 = k then (q.1, a) else q).1 ∧ VV (if p.1 = k then (p.1, v) else p).2 (if q.1 = k then (q.1, a) else q).2
        by_cases c : p.1 = k
        · rw [if_pos c, if_pos (z.1 ▸ c)]
          exact ⟨z.1, va⟩
        · rw [if_neg c, if_neg (fun y => c (z.1 ▸ y))]
          exact z
    exact rep r
theorem HR.drop (r : HR VV kvs h) : HR VV (dropK kvs k) (hdrop h k) := by
  induction r with
  | nil => exact .nil
  | @cons p q ps qs z _ ih =>
    unfold dropK hdrop
    by_cases c : p.1 = k
    · rw [List.filter_cons, List.filter_cons, if_neg (by simp [c]), if_neg (by simp [← z.1, c])]
      exact ih
    · rw [List.filter_cons, List.filter_cons, if_pos (by simp [c]), if_pos (by simp [← z.1, c])]
      exact .cons z ih
end
/-! ### what a name holds, what is in reach -/
def HM.hold (M : HM) (n : Str) (v : AV) : HM := { M with names := fun m => if m = n then v else M.names m }
def HM.setTh (M : HM) (k : Nat) (t : Th) : HM := { M with things := fun j => if j = k then some t else M.things j }
def HM.holds (M : HM) (k j : Nat) : Prop := ∃ t, M.things k = some t ∧ ∃ p, (p, AV.th j) ∈ t.held
inductive HM.RC (M : HM) (R : Nat → Prop) : Nat → Prop where
  | base {k : Nat} (h : R k) : HM.RC M R k
  | step {k j : Nat} (h : HM.RC M R k) (e : M.holds k j) : HM.RC M R j
def HM.root (M : HM) (k : Nat) : Prop := ∃ n ∈ NMS, M.names n = .th k
def HM.isDue (M : HM) (k : Nat) : Prop := ∃ t, M.things k = some t ∧ t.due = true
def HM.reach (M : HM) : Nat → Prop := M.RC M.root
def HM.kept (M : HM) : Nat → Prop := M.RC fun k => M.root k ∨ M.isDue k

def loose0 : List Str := ["_wall", "WhoError", "BadProgram", "NoThing", "BadTimes", "BadPhotos", "NAMES", "KINDS", "LETTERS", "MOST_NUMBER", "MOST_KEY", "MOST_DEEDS", "SHAPES", "is_name", "is_number", "is_part", "is_of", "is_deed", "need_deed", "need_program", "TOP", "number_of", "Graph", "nearest", "keeps"]
def loose1 : List Str := ["totals", "MOST_ROW", "MOST_BOOK", "WATCH", "RECORD", "ROW", "Ref", "value_told", "Thing", "Heap", "NO", "Doer", "names_told", "parts_told", "photo_of", "Plain", "LEAST", "MOST", "compared", "growing", "leak", "_law_mix", "_law_next", "_law_first", "_law_down"]
def loose : List Str := loose0 ++ loose1
abbrev R : PySem.W.OpenRow := PySem.W.OpenLaw.row PySem.Challenge.rw_whokeeps_k25_whole_a_leak_is_shown
/-- the places that the head looks at: the module's names first, then all that the top made, in its order -/
def asW : List Addr := 3 :: List.range' 4 2000
abbrev frW (g : Addr → Option Obj) : PySem.W.Frag := He.frT g asW
def obW (g : Addr → Option Obj) : He.AlX := (He.obsT fa fn ts (frW g), ex (frW g) && He.tabsB g tf (frW g))
theorem obW_says {w : World} {h : Heap} (e : obW h.get? = He.valX fn ts w) : He.SaysX fa fn ts tf ex w h (frW h.get?) := by
  have eo : ex (frW h.get?) = true ∧ He.tabsB h.get? tf (frW h.get?) = true := Bool.and_eq_true_iff.mp (congrArg (fun (z : He.AlX) => z.2) e)
  have et : ∀ p ∈ tf, PySem.W.codeHdIn (frW h.get?) (He.cT (frW h.get?) p).1 (He.cT (frW h.get?) p).2 = true ∧ ∃ o : Obj, h.get? (He.cT (frW h.get?) p).2 = some o ∧ He.emptyTab o = true := by
    intro p hp
    have e1 := Bool.and_eq_true_iff.mp (List.all_eq_true.mp eo.2 p hp)
    refine ⟨e1.1, ?_⟩
    have e2 := e1.2
    cases hq : h.get? (He.cT (frW h.get?) p).2 with
    | none => simp only [hq] at e2; cases e2
    | some o => simp only [hq] at e2; exact ⟨o, rfl, e2⟩
  refine ⟨congrArg (fun (z : He.AlX) => z.1) e, eo.1, fun p hp => (et p hp).1, ?_, ?_⟩
  · intro p hp
    obtain ⟨o, ho, hz⟩ := (et p hp).2
    exact He.frT_none ho hz
  · intro p hp
    obtain ⟨o, ho, hz⟩ := (et p hp).2
    rw [ho, He.emptyTab_eq hz]
def hk : PySem.W.Hook where
  α := He.AlX
  obs s := obW s.heap.get?
  val w := He.valX fn ts w
  says w h := ∃ K : PySem.W.Frag, K.In h ∧ He.SaysX fa fn ts tf ex w h K
  of _ h e := ⟨frW h.heap.get?, He.frT_in, obW_says e⟩
  keeps _ _ _ c k := match c with
    | ⟨K, i, z⟩ => ⟨K, PySem.W.Frag.In.keeps i k, ⟨z.t, z.more, z.hd, z.out, fun p hp => k _ _ (z.empty p hp)⟩⟩
def ob (s : PySem.W.SharedT) : He.AlX := obW (HandSHeadRun.getT s)
theorem ob_eq (s : PySem.W.SharedT) : ob s = hk.obs s.abs := congrArg obW (funext fun a => HandSHeadRun.getT_eq s a)
theorem run0 (w : World) : HandSHeadRun.RunEq R (PySem.W.view R.prog [59]) hk ob 8000 loose (w.withFollow "special-get-raises" false) := by
  intro os
  kernel_rfl
theorem run1 (w : World) : HandSHeadRun.RunEq R (PySem.W.view R.prog [59]) hk ob 8000 loose (w.withFollow "special-get-raises" true) := by
  intro os
  kernel_rfl
theorem run (w : World) : HandSHeadRun.RunEq R (PySem.W.view R.prog [59]) hk ob 8000 loose w :=
  PySem.W.byRow2 "special-get-raises" run0 run1 w
end Wk
section
open PySem PySem.W PySem.Calls PyProof.Rows
set_option maxRecDepth 100000 in
set_option maxHeartbeats 0 in
/-- all that looks at the row itself, ahead of the long part of the file (memory) -/
theorem Wk.holdsOf (law : ∀ {w : World} {mg : Str → Option Value} {fa0 : Addr} {h : Heap}, Wk.hk.says w h → h.Ns mainGlobals mg → mg "law" = some (.ref fa0) → ∃ K : PySem.W.Frag, K.In h ∧ LamX.LawAtS PySem.Challenge.rw_whokeeps_k25_whole_a_leak_is_shown w K C8.CX0 11 63 "_law_script" mg fa0 h) : PySem.Challenge.rw_whokeeps_k25_whole_a_leak_is_shown.Holds := by
  w_on; o_law
  refine HandSHeadRun.head_any (r := OpenLaw.row PySem.Challenge.rw_whokeeps_k25_whole_a_leak_is_shown) (q := view (OpenLaw.row PySem.Challenge.rw_whokeeps_k25_whole_a_leak_is_shown).prog [59]) (H := Wk.hk) (ob := Wk.ob) (M := 8000) (loose := Wk.loose) (d := HandSHeadRun.topDef (OpenLaw.row PySem.Challenge.rw_whokeeps_k25_whole_a_leak_is_shown).prog 59) (kwd := []) Wk.ob_eq
    (by kernel_rfl) (fun s => by kernel_rfl) Wk.run (by kernel_rfl) (by kernel_rfl) (by kernel_rfl) (by rfl) (by first | assumption | decide +kernel) (by decide +kernel) ⟨rfl, rfl, rfl, rfl, rfl, by decide +kernel⟩ ?hw ?hc
  case hw => w_witness2
  case hc =>
    refine LamX.walk_ofTsE (l := PySem.Challenge.rw_whokeeps_k25_whole_a_leak_is_shown) (n := 63) (k := 11) (x := "_law_script") (CX := fun _ => C8.CX0) rfl (by decide) (by kernel_rfl) ⟨rfl, by decide, by decide⟩ ?F (fun _ _ _ _ _ z => z)
    intro w mg fa h Y G hmg0
    refine law Y G ?_
    have e : (HandSHeadRun.topDef (OpenLaw.row PySem.Challenge.rw_whokeeps_k25_whole_a_leak_is_shown).prog 59).name = ("law" : PySem.Str) := by kernel_rfl
    rw [← e]
    exact hmg0
end
namespace Wk
open PySem PySem.Spec PyProof.Rows L2 C8

set_option hygiene false in
local macro_rules | `(tactic| walk_at "lk") => `(tactic| with_reducible (first | assumption | exact get_Graph_sizes | exact get_Graph_ways | exact ing_Graph_1_0 | exact get_Ref_number | exact get_Thing_kind | exact get_Thing_held | exact get_Thing_sees | exact get_Thing_is_told | exact get_Thing_waits | exact get_Thing_is_given | exact get_Thing_goal | exact ing_Thing_1_0 | exact ing_Thing_2_0 | exact ing_Thing_2_1 | exact ing_Thing_3_0 | exact ing_Thing_3_1 | exact ing_Thing_3_2 | exact ing_Thing_4_0 | exact ing_Thing_4_1 | exact ing_Thing_4_2 | exact ing_Thing_4_3 | exact ing_Thing_5_0 | exact ing_Thing_5_1 | exact ing_Thing_5_2 | exact ing_Thing_5_3 | exact ing_Thing_5_4 | exact ing_Thing_6_0 | exact ing_Thing_6_1 | exact ing_Thing_6_2 | exact ing_Thing_6_3 | exact ing_Thing_6_4 | exact ing_Thing_6_5 | exact get_Heap_names | exact get_Heap_things | exact get_Heap_made | exact ing_Heap_1_0 | exact ing_Heap_2_0 | exact ing_Heap_2_1 | exact get_Doer_heap | exact get_Doer_made | exact get_Doer_written | exact ing_Doer_1_0 | exact ing_Doer_2_0 | exact ing_Doer_2_1 | exact get_Plain_doer | exact kget_T_kind | exact kget_T_held | exact kget_T_sees | exact kget_T_gone | exact kget_T_last | exact kget_T_goal | exact kget_M_names | exact kget_M_things | exact lk_kind | exact lk_held | exact lk_sees | exact lk_gone | exact lk_last | exact lk_goal | exact lk_names | exact lk_things))
set_option hygiene false in
local macro_rules | `(tactic| walk_at "pt") => `(tactic| with_reducible (first | exact put_Graph_sizes | exact put_Graph_ways | exact ini_Graph_0 | exact ini_Graph_1 | exact put_Ref_number | exact ini_Ref_0 | exact put_Thing_kind | exact put_Thing_held | exact put_Thing_sees | exact put_Thing_is_told | exact put_Thing_waits | exact put_Thing_is_given | exact put_Thing_goal | exact ini_Thing_0 | exact ini_Thing_1 | exact ini_Thing_2 | exact ini_Thing_3 | exact ini_Thing_4 | exact ini_Thing_5 | exact ini_Thing_6 | exact put_Heap_names | exact put_Heap_things | exact put_Heap_made | exact ini_Heap_0 | exact ini_Heap_1 | exact ini_Heap_2 | exact put_Doer_heap | exact put_Doer_made | exact put_Doer_written | exact ini_Doer_0 | exact ini_Doer_1 | exact ini_Doer_2 | exact put_Plain_doer | exact ini_Plain_0 | exact kput_T_kind | exact kput_T_held | exact kput_T_sees | exact kput_T_gone | exact kput_T_last | exact kput_T_goal | exact kput_M_names | exact kput_M_things))
set_option hygiene false in
local macro_rules | `(tactic| walk_at "no") => `(tactic| with_reducible (first | exact no_Graph_need | exact no_Graph_order | exact no_Graph_from_where | exact no_Graph_masters | exact no_Graph_totals | exact no_Thing_has | exact no_Thing_may_get | exact no_Thing_cut | exact no_Thing_parts | exact no_Thing_holds | exact no_Thing_size | exact no_Heap_make | exact no_Heap_thing_of | exact no_Heap_of_names | exact no_Heap_due | exact no_Heap_closed | exact no_Heap_reach | exact no_Doer_do | exact no_Doer_hold | exact no_Doer_do_make | exact no_Doer_do_name | exact no_Doer_do_part | exact no_Doer_do_last | exact no_Doer_tell_watches | exact no_Doer_do_ask | exact no_Doer_settle | exact no_Plain_do | exact no_Plain_reach | exact no_Plain_photo))
set_option hygiene false in
local macro_rules | `(tactic| walk_at "cl") => `(tactic| with_reducible (first | exact T.cl_Graph | exact T.cl_Ref | exact T.cl_Thing | exact T.cl_Heap | exact T.cl_Doer | exact T.cl_Plain))
set_option hygiene false in
local macro_rules | `(tactic| walk_at "na") => `(tactic| with_reducible (first | exact T.na_Graph_sizes | exact T.na_Graph_ways | exact T.na_Ref_number | exact T.na_Thing_kind | exact T.na_Thing_held | exact T.na_Thing_sees | exact T.na_Thing_is_told | exact T.na_Thing_waits | exact T.na_Thing_is_given | exact T.na_Thing_goal | exact T.na_Heap_names | exact T.na_Heap_things | exact T.na_Heap_made | exact T.na_Doer_heap | exact T.na_Doer_made | exact T.na_Doer_written | exact T.na_Plain_doer))
set_option hygiene false in
local macro_rules | `(tactic| walk_at "ne") => `(tactic| first | assumption | (apply Ne.symm; assumption) | exact ne_of_none (by walk_at "hp") (by assumption) | exact (ne_of_none (by walk_at "hp") (by assumption)).symm | exact ne_of (by walk_at "hp") (by walk_at "hp") (by intro z; cases z) )
set_option hygiene false in
local macro_rules | `(tactic| walk_at "hp") => `(tactic| first | with_reducible assumption | with_reducible exact upd_same | ((with_reducible refine' (upd_ne ?_).trans ?_); (walk_at "ne"); (walk_at "hp")) | ((with_reducible refine' Same.ap ?s ?_); (case s => assumption); (walk_at "hp")) | ((with_reducible refine' fr0_dK ?s ?_); (case s => assumption); (walk_at "hp")) | ((with_reducible refine' fr0_lst ?s ?_); (case s => assumption); (walk_at "hp")) | ((with_reducible refine' fr0_ins ?s ?_); (case s => assumption); (walk_at "hp")))
set_option hygiene false in
local macro_rules | `(tactic| walk_at "sz") => `(tactic| first | assumption | exact small9000 (by omega) | (simp only [List.length_map, List.length_append, List.length_cons, List.length_nil] at *; exact small9000 (by omega)))
set_option hygiene false in
local macro_rules | `(tactic| walk_at "r1") => `(tactic| first | with_reducible refine x_tupS ?_ | with_reducible refine x_lstS ?_ | with_reducible refine x_lenSetJ ?_ | with_reducible refine x_revL ?_ | with_reducible refine x_r2 ?_ | with_reducible refine y_r2 ?_ | with_reducible refine x_seq ?_ | with_reducible refine x_next ?_ | with_reducible refine x_brk ?_ | with_reducible refine x_cont ?_ | with_reducible refine x_asg ?_ | with_reducible refine x_name ?_ | with_reducible refine x_drop ?_ | with_reducible refine x_ret ?_ | with_reducible refine x_retN ?_ | with_reducible refine x_if ?_ | with_reducible refine x_c ?_ | with_reducible refine x_op ?_ | with_reducible refine x_un ?_ | with_reducible refine x_ifx ?_ | with_reducible refine x_B ?_ | with_reducible refine x_test ?_ | with_reducible refine y_blE ?_ | with_reducible refine x_and ?_ | with_reducible refine x_or ?_ | with_reducible refine x_not ?_ | with_reducible refine x_andV ?_ | with_reducible refine x_orV ?_ | with_reducible refine x_notV ?_ | with_reducible refine x_nil ?_ | with_reducible refine x_cons ?_ | with_reducible refine x_tup ?_ | with_reducible refine x_lst ?_ | with_reducible refine x_fld ?_ | with_reducible refine x_sfld ?_ | with_reducible refine x_meth ?_ | with_reducible refine x_call ?_ | with_reducible refine x_cb ?_ | with_reducible refine x_dget ?_ | with_reducible refine x_din ?_ | with_reducible refine x_dnotin ?_ | with_reducible refine x_dput ?_ | with_reducible refine x_dnew ?_ | with_reducible refine x_bm ?_ | with_reducible refine x_bm0 ?_ | with_reducible refine x_gSub ?_ | with_reducible refine x_par ?_ | with_reducible refine y_par ?_ | with_reducible refine x_for ?_ | with_reducible refine x_lc ?_ | with_reducible refine y_I0 ?_ | with_reducible refine x_iL ?_ | with_reducible refine x_iT ?_ | with_reducible refine x_iR ?_ | with_reducible refine x_iR2 ?_ | with_reducible refine x_iS ?_ | with_reducible refine y_iS ?_ | with_reducible refine x_make ?_ | with_reducible refine x_sp1 ?_ | with_reducible refine x_sp2 ?_ | with_reducible refine x_sp3 ?_ | with_reducible refine x_sp4 ?_ | with_reducible refine x_sm0 ?_ | with_reducible refine x_sm1 ?_ | with_reducible refine x_sm2 ?_ | with_reducible refine x_sm3 ?_ | with_reducible refine x_sp0 ?_ | with_reducible refine x_lr ?_ | with_reducible refine x_r1 ?_ | with_reducible refine y_r1 ?_ | with_reducible refine y_tt ?_ | with_reducible refine y_ff ?_ | with_reducible refine x_disp ?_ | with_reducible refine x_pp ?_ | with_reducible refine x_pp0 ?_ | with_reducible refine x_dpop1 ?_ | with_reducible refine x_dget1 ?_ | with_reducible refine y_nn ?_ | ((with_reducible refine' x_var ?e ?_); (case e => rfl)) | ((with_reducible refine' y_fld ?ho ?hc ?hn ?hl ?_); (case ho => walk_at "hp"); (case hc => walk_at "cl"); (case hn => walk_at "na"); (case hl => walk_at "lk")) | ((with_reducible refine' y_sfld ?ho ?hc ?hn ?hl ?hp ?_); (case ho => walk_at "hp"); (case hc => walk_at "cl"); (case hn => walk_at "na"); (case hl => exact Nat.le_of_ble_eq_true rfl); (case hp => walk_at "pt")) | ((with_reducible refine' y_meth ?ho ?hl ?_); (case ho => walk_at "hp"); (case hl => walk_at "no")) | ((with_reducible refine' y_dgetS ?hd ?hl ?_); (case hd => walk_at "hp"); (case hl => walk_at "lk")) | ((with_reducible refine' y_tup ?h ?_); (case h => exact Nat.le_of_ble_eq_true rfl)) | ((with_reducible refine' y_eq ?h ?_); (case h => rfl)) | ((with_reducible refine' y_ne ?h ?_); (case h => rfl)) | ((with_reducible refine' y_ixL ?h ?ha ?_); (case h => walk_at "hp"); (case ha => rfl)) | ((with_reducible refine' y_ixT ?h ?ha ?_); (case h => walk_at "hp"); (case ha => rfl)) | ((with_reducible refine' y_bmL ?h ?_); (case h => walk_at "hp")) | ((with_reducible refine' y_isD ?h ?_); (case h => walk_at "hp")) | ((with_reducible refine' y_append ?h ?hz ?_); (case h => walk_at "hp"); (case hz => walk_at "sz")))
set_option hygiene false in
local macro_rules | `(tactic| walk_at "rd") => `(tactic| repeat walk_at "r1")
set_option hygiene false in
local macro_rules | `(tactic| walk_at "rx") => `(tactic| repeat (first | walk_at "r1" | with_reducible refine x_ifT ?_ | with_reducible refine y_nt ?_ | with_reducible refine y_nf ?_))
set_option hygiene false in
local macro_rules | `(tactic| walk_at "sx") => `(tactic| (dsimp only [cx_K, cx_w]; walk_at "rx"))
set_option hygiene false in
local macro_rules | `(tactic| walk_at "st") => `(tactic| (dsimp only [cx_K, cx_w]; walk_at "rd"))
/-! ### deeds, what they do to a heap of names and things, what they tell -/
inductive Deed where
  | make (n k : Str) | num (n : Str) (i : Int) | copy (n m : Str) | drop (n : Str) | put (n : Str) (p : Key) (m : Str) | take (n m : Str) (p : Key) | cut (n : Str) (p : Key)
  | watch (n m : Str) | last (n : Str) (g : Option Str) | ask (n m : Str) | settle | say (n : Str)
inductive Tell where
  | v (a : AV) | no | list (ns : List Nat)
def GoodP : Key → Prop
  | .inl i => 0 ≤ i ∧ i ≤ 9
  | .inr s => s ∈ LTS
def GoodG : Option Str → Prop
  | none => True
  | some s => s ∈ NMS
def Good : Deed → Prop
  | .make n k => n ∈ NMS ∧ k ∈ KDS
  | .num n i => n ∈ NMS ∧ 0 ≤ i ∧ i ≤ 99
  | .copy n m => n ∈ NMS ∧ m ∈ NMS
  | .drop n => n ∈ NMS
  | .put n p m => n ∈ NMS ∧ GoodP p ∧ m ∈ NMS
  | .take n m p => n ∈ NMS ∧ m ∈ NMS ∧ GoodP p
  | .cut n p => n ∈ NMS ∧ GoodP p
  | .watch n m => n ∈ NMS ∧ m ∈ NMS
  | .last n g => n ∈ NMS ∧ GoodG g
  | .ask n m => n ∈ NMS ∧ m ∈ NMS
  | .settle => True
  | .say n => n ∈ NMS
def goalV : Option Str → V
  | none => .non
  | some s => .str s
def deedV : Deed → List V
  | .make n k => [.str "make", .str n, .str k]
  | .num n i => [.str "num", .str n, .int i]
  | .copy n m => [.str "copy", .str n, .str m]
  | .drop n => [.str "drop", .str n]
  | .put n p m => [.str "put", .str n, kV p, .str m]
  | .take n m p => [.str "take", .str n, .str m, kV p]
  | .cut n p => [.str "cut", .str n, kV p]
  | .watch n m => [.str "watch", .str n, .str m]
  | .last n g => [.str "last", .str n, goalV g]
  | .ask n m => [.str "ask", .str n, .str m]
  | .settle => [.str "settle"]
  | .say n => [.str "say", .str n]
/-! what a thing may -/
def Th.has (t : Th) (p : Key) : Bool := (hget t.held p).isSome
def ROW : Str := "row"
def WATCH : Str := "watch"
def RECORD : Str := "record"
def BOOK : Str := "book"
def Th.may (t : Th) (p : Key) : Bool :=
  t.has p || (match p with
    | .inl j => (decide (t.kind = ROW) && decide (j = (t.held.length : Int)) && decide (t.held.length < 8)) || (decide (t.kind = BOOK) && decide (t.held.length < 6))
    | .inr _ => false)
/-- a row's values without the one at a place -/
def rowCut (h : List (Key × AV)) (p : Key) : List (Key × AV) := rowOf ((hdrop h p).map (·.2))
def Th.cutH (t : Th) (p : Key) : List (Key × AV) := if t.kind = RECORD then hput t.held p .non else if t.kind = ROW then rowCut t.held p else hdrop t.held p
def recH : List (Key × AV) := LTS.map fun n => (Sum.inr n, AV.non)
def newTh (k : Str) (s : Option Nat) : Th := ⟨k, if k = RECORD then recH else [], s, false, false, false, none⟩
def HM.mk1 (M : HM) (k : Str) (s : Option Nat) : HM := { names := M.names, things := fun j => if j = M.made then some (newTh k s) else M.things j, made := M.made + 1 }
def HM.thOf (M : HM) (n : Str) : Option (Nat × Th) := match M.names n with
  | .th k => (M.things k).map fun t => (k, t)
  | _ => none
open Classical in
noncomputable def HM.tellM (M : HM) : HM := { M with things := fun k => (M.things k).map fun t => if t.kind = WATCH ∧ ¬ (∃ s, t.sees = some s ∧ M.reach s) then { t with told := true } else t }
/-! what is due and out of reach, as numbers rise -/
open Classical in
noncomputable def HM.lost (M : HM) : List Nat := (List.range M.made).filter fun k => decide (M.isDue k ∧ ¬ M.reach k)
/-- a last deed -/
def HM.last1 (M : HM) (k : Nat) : HM := match M.things k with
  | none => M
  | some t => match t.goal with
    | none => M.setTh k { t with due := false }
    | some g => (M.setTh k { t with due := false }).hold g (.th k)
noncomputable def HM.settleF : Nat → HM → List Nat × HM
  | 0, M => ([], M)
  | n + 1, M => if M.tellM.lost = [] then ([], M.tellM) else
    let r := HM.settleF n (M.tellM.lost.foldl HM.last1 M.tellM)
    (M.tellM.lost ++ r.1, r.2)
noncomputable def HM.settle (M : HM) : List Nat × HM := HM.settleF (M.made + 1) M
noncomputable def doM (M : HM) : Deed → Tell × HM
  | .make n k => (.v (.th M.made), (M.mk1 k none).hold n (.th M.made))
  | .num n i => (.v .non, M.hold n (.num i))
  | .copy n m => (.v .non, M.hold n (M.names m))
  | .drop n => (.v .non, M.hold n .non)
  | .say n => (.v (M.names n), M)
  | .watch n m => match M.names m with
    | .th k => (.v (.th M.made), (M.mk1 WATCH (some k)).hold n (.th M.made))
    | _ => (.no, M)
  | .put n p m => match M.thOf n with
    | none => (.no, M)
    | some (k, t) => if t.may p = true then (.v .non, M.setTh k { t with held := hput t.held p (M.names m) }) else (.no, M)
  | .take n m p => match M.thOf m with
    | none => (.no, M)
    | some (_, t) => match hget t.held p with
      | none => (.no, M)
      | some a => (.v a, M.hold n a)
  | .cut n p => match M.thOf n with
    | none => (.no, M)
    | some (k, t) => if t.has p = true then (.v .non, M.setTh k { t with held := t.cutH p }) else (.no, M)
  | .last n g => match M.thOf n with
    | none => (.no, M)
    | some (k, t) => if t.kind = WATCH ∨ t.given = true then (.no, M) else (.v .non, M.setTh k { t with given := true, due := true, goal := g })
  | .ask n m => match M.thOf m with
    | none => (.no, M)
    | some (k, t) => if t.kind = WATCH then
        match M.tellM.things k with
        | some t' => let a := if t'.told = true then AV.non else match t'.sees with
            | some s => .th s
            | none => .non
          (.v a, M.tellM.hold n a)
        | none => (.no, M)
      else (.no, M)
  | .settle => (.list M.settle.1, M.settle.2)
/-! ### what holds of every heap behind good deeds -/
def avOk (m : Nat) : AV → Prop
  | .th k => k < m
  | _ => True
structure Th.Ok (m : Nat) (t : Th) : Prop where
  kd : t.kind = RECORD ∨ t.kind = ROW ∨ t.kind = BOOK ∨ t.kind = WATCH
  recd : t.kind = RECORD → t.held.map (·.1) = LTS.map Sum.inr
  row : t.kind = ROW → (∃ vs, t.held = rowOf vs) ∧ t.held.length ≤ 8
  book : t.kind = BOOK → (∀ k ∈ t.held.map (·.1), ∃ i : Int, k = .inl i ∧ 0 ≤ i ∧ i ≤ 9) ∧ (t.held.map (·.1)).Nodup ∧ t.held.length ≤ 6
  wat : t.kind = WATCH → t.held = [] ∧ (∃ s, t.sees = some s ∧ s < m) ∧ t.given = false
  non : t.kind ≠ WATCH → t.sees = none
  av : ∀ p a, (p, a) ∈ t.held → avOk m a
  due : t.due = true → t.given = true
  goal : GoodG t.goal
structure HM.Ok (M : HM) : Prop where
  rng : ∀ k, (∃ t, M.things k = some t) ↔ k < M.made
  th : ∀ k t, M.things k = some t → t.Ok M.made
  nms : ∀ n, avOk M.made (M.names n)
section
variable {M : HM} {t : Th} {n : Str} {a : AV} {k m : Nat} {h : List (Key × AV)} {p : Key}
theorem Th.Ok.len (o : t.Ok m) : t.held.length ≤ 8 := by
  rcases o.kd with e | e | e | e
  · have := congrArg List.length (o.recd e)
    rw [List.length_map, List.length_map] at this
    rw [this]; decide
  · exact (o.row e).2
  · exact Nat.le_trans (o.book e).2.2 (by decide)
  · rw [(o.wat e).1]; decide
theorem avOk.mono {a : AV} (h : avOk m a) (l : m ≤ k) : avOk k a := by
  cases a <;> first | trivial | exact Nat.lt_of_lt_of_le h l
theorem Th.Ok.mono (o : t.Ok m) (l : m ≤ k) : t.Ok k :=
  ⟨o.kd, o.recd, o.row, o.book, fun e => ⟨(o.wat e).1, by obtain ⟨s, e1, e2⟩ := (o.wat e).2.1; exact ⟨s, e1, by omega⟩, (o.wat e).2.2⟩, o.non, fun p a z => (o.av p a z).mono l, o.due, o.goal⟩
theorem HM.Ok.hold (o : M.Ok) (h : avOk M.made a) : (M.hold n a).Ok :=
  ⟨o.rng, o.th, fun m => by show avOk M.made (if m = n then a else M.names m); split; exact h; exact o.nms m⟩
theorem HM.Ok.setTh (o : M.Ok) (l : k < M.made) (h : t.Ok M.made) : (M.setTh k t).Ok := by
  refine ⟨fun j => ?_, fun j t' e => ?_, o.nms⟩
  · show (∃ u, (if j = k then some t else M.things j) = some u) ↔ j < M.made
    by_cases e : j = k
    · rw [if_pos e]; exact ⟨fun _ => e ▸ l, fun _ => ⟨t, rfl⟩⟩
    · rw [if_neg e]; exact o.rng j
  · have e : (if j = k then some t else M.things j) = some t' := e
    split at e
    · cases e; exact h
    · exact o.th j t' e
theorem HM.Ok.get (o : M.Ok) (l : k < M.made) : ∃ t, M.things k = some t ∧ t.Ok M.made := by
  obtain ⟨t, e⟩ := (o.rng k).mpr l
  exact ⟨t, e, o.th k t e⟩
theorem HM.Ok.lt (o : M.Ok) (e : M.things k = some t) : k < M.made := (o.rng k).mp ⟨t, e⟩
theorem newTh_ok {kd : Str} (hk : kd ∈ KDS) : (newTh kd none).Ok m := by
  have h3 : kd = RECORD ∨ kd = ROW ∨ kd = BOOK := by
    rcases List.mem_cons.mp hk with e | hk
    · exact .inl e
    rcases List.mem_cons.mp hk with e | hk
    · exact .inr (.inl e)
    rcases List.mem_cons.mp hk with e | hk
    · exact .inr (.inr e)
    cases hk
  rcases h3 with e | e | e <;> subst e
  · refine ⟨.inl rfl, fun _ => by decide +kernel, fun z => absurd (show RECORD = ROW from z) (by decide), fun z => absurd (show RECORD = BOOK from z) (by decide), fun z => absurd (show RECORD = WATCH from z) (by decide), fun _ => rfl, fun p a z => ?_, fun z => (by cases z), trivial⟩
    obtain ⟨_, _, e⟩ := List.mem_map.mp (show (p, a) ∈ recH from z)
    cases e; trivial
  · exact ⟨.inr (.inl rfl), fun z => absurd (show ROW = RECORD from z) (by decide), fun _ => ⟨⟨[], rfl⟩, by decide⟩, fun z => absurd (show ROW = BOOK from z) (by decide), fun z => absurd (show ROW = WATCH from z) (by decide), fun _ => rfl, fun p a z => (by cases z), fun z => (by cases z), trivial⟩
  · exact ⟨.inr (.inr (.inl rfl)), fun z => absurd (show BOOK = RECORD from z) (by decide), fun z => absurd (show BOOK = ROW from z) (by decide), fun _ => ⟨fun k z => (by cases z), List.nodup_nil, by decide⟩, fun z => absurd (show BOOK = WATCH from z) (by decide), fun _ => rfl, fun p a z => (by cases z), fun z => (by cases z), trivial⟩
theorem newW_ok {s : Nat} (l : s < m) : (newTh WATCH (some s)).Ok m :=
  ⟨.inr (.inr (.inr rfl)), fun z => absurd (show WATCH = RECORD from z) (by decide), fun z => absurd (show WATCH = ROW from z) (by decide), fun z => absurd (show WATCH = BOOK from z) (by decide), fun _ => ⟨rfl, ⟨s, rfl, l⟩, rfl⟩, fun z => absurd rfl z, fun p a z => (by cases z), fun z => (by cases z), trivial⟩
theorem HM.Ok.mk1 {kd : Str} {s : Option Nat} (o : M.Ok) (h : (newTh kd s).Ok (M.made + 1)) : (M.mk1 kd s).Ok := by
  refine ⟨fun j => ?_, fun j t e => ?_, fun n => (o.nms n).mono (Nat.le_succ _)⟩
  · show (∃ u, (if j = M.made then some (newTh kd s) else M.things j) = some u) ↔ j < M.made + 1
    by_cases e : j = M.made
    · rw [if_pos e]; exact ⟨fun _ => by omega, fun _ => ⟨_, rfl⟩⟩
    · rw [if_neg e, o.rng j]; omega
  · have e : (if j = M.made then some (newTh kd s) else M.things j) = some t := e
    split at e
    · cases e; exact h
    · exact (o.th j t e).mono (Nat.le_succ _)
theorem HM.Ok.tellM (o : M.Ok) : M.tellM.Ok := by
  classical
  refine ⟨fun j => ?_, fun j t e => ?_, o.nms⟩
  · show (∃ u, (M.things j).map _ = some u) ↔ j < M.made
    rw [← o.rng j]
    constructor
    · rintro ⟨u, e⟩
      obtain ⟨t, e1, _⟩ := Option.map_eq_some_iff.mp e
      exact ⟨t, e1⟩
    · rintro ⟨t, e⟩
      exact ⟨_, Option.map_eq_some_iff.mpr ⟨t, e, rfl⟩⟩
  · obtain ⟨t0, e1, e2⟩ := Option.map_eq_some_iff.mp (show (M.things j).map _ = some t from e)
    have o0 := o.th j t0 e1
    by_cases c : t0.kind = WATCH ∧ ¬ ∃ s, t0.sees = some s ∧ M.reach s
    · rw [if_pos c] at e2
      subst e2
      exact ⟨o0.kd, o0.recd, o0.row, o0.book, o0.wat, o0.non, o0.av, o0.due, o0.goal⟩
    · rw [if_neg c] at e2
      subst e2
      exact o0
theorem last1_made : (M.last1 k).made = M.made := by
  unfold HM.last1
  split
  · rfl
  · split <;> rfl
theorem HM.Ok.last1 (o : M.Ok) : (M.last1 k).Ok := by
  unfold HM.last1
  split
  · exact o
  · rename_i t e
    have ot := o.th k t e
    have l := o.lt e
    have o1 : ({ t with due := false } : Th).Ok M.made := ⟨ot.kd, ot.recd, ot.row, ot.book, ot.wat, ot.non, ot.av, fun z => (by cases z), ot.goal⟩
    split
    · exact o.setTh l o1
    · exact (o.setTh l o1).hold l
theorem foldl_last1 : ∀ {l : List Nat} {M : HM}, M.Ok → (l.foldl HM.last1 M).Ok ∧ (l.foldl HM.last1 M).made = M.made
  | [], M, o => ⟨o, rfl⟩
  | k :: l, M, o => by
    have r := foldl_last1 (l := l) (M := M.last1 k) o.last1
    exact ⟨r.1, r.2.trans last1_made⟩
theorem settleF_ok : ∀ {n : Nat} {M : HM}, M.Ok → (HM.settleF n M).2.Ok ∧ (HM.settleF n M).2.made = M.made
  | 0, M, o => ⟨o, rfl⟩
  | n + 1, M, o => by
    unfold HM.settleF
    by_cases c : M.tellM.lost = []
    · rw [if_pos c]; exact ⟨o.tellM, rfl⟩
    · rw [if_neg c]
      have f := foldl_last1 (l := M.tellM.lost) o.tellM
      have r := settleF_ok (n := n) f.1
      exact ⟨r.1, r.2.trans f.2⟩
theorem hget_mem {h : List (Key × AV)} {p : Key} {a : AV} (e : hget h p = some a) : (p, a) ∈ h := by
  unfold hget at e
  obtain ⟨x, e1, e2⟩ := Option.map_eq_some_iff.mp e
  have m := List.mem_of_find?_eq_some e1
  have q : decide (x.1 = p) = true := List.find?_some (p := fun kv : Key × AV => decide (kv.1 = p)) e1
  have q := of_decide_eq_true q
  subst q e2
  exact m
theorem hput_mem {h : List (Key × AV)} {p q : Key} {a b : AV} (e : (q, b) ∈ hput h p a) : (q, b) ∈ h ∨ b = a := by
  unfold hput at e
  split at e
  · obtain ⟨x, m, e⟩ := List.mem_map.mp e
    split at e
    · cases e; exact .inr rfl
    · subst e; exact .inl m
  · rcases List.mem_append.mp e with m | m
    · exact .inl m
    · rw [List.mem_singleton] at m
      cases m; exact .inr rfl
theorem hput_keys {h : List (Key × AV)} {p : Key} {a : AV} (e : (hget h p).isSome = true) : (hput h p a).map (·.1) = h.map (·.1) := by
  unfold hput
  rw [if_pos e, List.map_map]
  refine List.map_congr_left fun x _ => ?_
  show (if x.1 = p then (x.1, a) else x).1 = x.1
  split <;> rfl
theorem hget_none {h : List (Key × AV)} {p : Key} : hget h p = none ↔ p ∉ h.map (·.1) := by
  unfold hget
  rw [Option.map_eq_none_iff, List.find?_eq_none]
  constructor
  · intro f m
    obtain ⟨x, m, e⟩ := List.mem_map.mp m
    exact f x m (decide_eq_true e)
  · intro f x m e
    exact f (List.mem_map.mpr ⟨x, m, of_decide_eq_true e⟩)
theorem hget_isSome {h : List (Key × AV)} {p : Key} : (hget h p).isSome = true ↔ p ∈ h.map (·.1) := by
  have n := hget_none (h := h) (p := p)
  cases e : hget h p with
  | none => exact ⟨fun z => (by cases z), fun m => absurd m (n.mp e)⟩
  | some a => exact ⟨fun _ => List.mem_map.mpr ⟨_, hget_mem e, rfl⟩, fun _ => rfl⟩
theorem hput_len {h : List (Key × AV)} {p : Key} {a : AV} : (hput h p a).length = if (hget h p).isSome = true then h.length else h.length + 1 := by
  unfold hput
  split <;> simp
theorem rowOf_len {vs : List AV} : (rowOf vs).length = vs.length := by unfold rowOf; simp
theorem rowOf_keys {vs : List AV} : (rowOf vs).map (·.1) = (List.range vs.length).map fun (i : Nat) => (Sum.inl (i : Int) : Key) := by
  unfold rowOf
  apply List.ext_getElem?
  intro i
  simp
  by_cases h : i < vs.length <;> simp [h]
theorem rowOf_has {vs : List AV} {p : Key} : (hget (rowOf vs) p).isSome = true ↔ ∃ i : Nat, p = .inl (i : Int) ∧ i < vs.length := by
  rw [hget_isSome, rowOf_keys, List.mem_map]
  constructor
  · rintro ⟨i, m, e⟩
    exact ⟨i, e.symm, List.mem_range.mp m⟩
  · rintro ⟨i, e, l⟩
    exact ⟨i, List.mem_range.mpr l, e.symm⟩
theorem rowOf_append {vs : List AV} {a : AV} : rowOf vs ++ [(.inl (vs.length : Int), a)] = rowOf (vs ++ [a]) := by
  unfold rowOf
  simp [List.mapIdx_append]
theorem rowOf_put {vs : List AV} {a : AV} {i : Nat} (l : i < vs.length) : hput (rowOf vs) (.inl (i : Int)) a = rowOf (vs.set i a) := by
  unfold hput
  rw [if_pos (rowOf_has.mpr ⟨i, rfl, l⟩)]
  unfold rowOf
  apply List.ext_getElem?
  intro j
  simp only [List.getElem?_map, List.getElem?_mapIdx, List.getElem?_set]
  by_cases e : i = j
  · subst e
    simp [l]
  · have : (j : Int) ≠ (i : Int) := by omega
    cases h : vs[j]? <;> simp [e, this]
theorem rowOf_putEnd {vs : List AV} {a : AV} : hput (rowOf vs) (.inl (vs.length : Int)) a = rowOf (vs ++ [a]) := by
  unfold hput
  rw [if_neg, rowOf_append]
  rw [rowOf_has]
  rintro ⟨i, e, l⟩
  have : (vs.length : Int) = i := Sum.inl.inj e
  omega
theorem hdrop_row {vs : List AV} {i : Nat} : (hdrop (rowOf vs) (.inl (i : Int))).map (·.2) = vs.eraseIdx i := by
  have gen : ∀ (vs : List AV) (i b : Nat), ((vs.mapIdx fun j v => ((Sum.inl ((j + b : Nat) : Int) : Key), v)).filter fun kv => decide (kv.1 ≠ Sum.inl ((i + b : Nat) : Int))).map (·.2) = vs.eraseIdx i := by
    intro vs
    induction vs with
    | nil => intro i b; rfl
    | cons v vs ih =>
      intro i b
      rw [List.mapIdx_cons]
      have sh : (vs.mapIdx fun j v => ((Sum.inl ((j + 1 + b : Nat) : Int) : Key), v)) = vs.mapIdx fun j v => ((Sum.inl ((j + (b + 1) : Nat) : Int) : Key), v) := by
        congr 1
        funext j v
        rw [show j + 1 + b = j + (b + 1) by omega]
      rw [sh]
      cases i with
      | zero =>
        rw [List.filter_cons, if_neg (by simp)]
        show _ = vs
        rw [List.filter_eq_self.mpr]
        · apply List.ext_getElem?
          intro j
          simp
          cases vs[j]? <;> rfl
        · intro x m
          obtain ⟨j, l, e⟩ := List.mem_mapIdx.mp m
          subst e
          refine decide_eq_true fun z => ?_
          have : ((j + (b + 1) : Nat) : Int) = ((0 + b : Nat) : Int) := Sum.inl.inj z
          omega
      | succ i =>
        rw [List.filter_cons, if_pos, List.map_cons, List.eraseIdx_cons_succ]
        · have := ih i (b + 1)
          rw [show i + 1 + b = i + (b + 1) by omega, this]
        · refine decide_eq_true fun z => ?_
          have : ((0 + b : Nat) : Int) = ((i + 1 + b : Nat) : Int) := Sum.inl.inj z
          omega
  exact gen vs i 0
theorem rowCut_row {vs : List AV} {i : Nat} : rowCut (rowOf vs) (.inl (i : Int)) = rowOf (vs.eraseIdx i) := by unfold rowCut; rw [hdrop_row]
theorem kinds_ne : RECORD ≠ ROW ∧ RECORD ≠ BOOK ∧ RECORD ≠ WATCH ∧ ROW ≠ BOOK ∧ ROW ≠ WATCH ∧ BOOK ≠ WATCH := by decide
/-- one more row of held keys keeps Ok where the kind's own word is kept -/
theorem Th.Ok.setHeld {h : List (Key × AV)} (o : t.Ok m) (hr : t.kind = RECORD → h.map (·.1) = LTS.map Sum.inr) (hw : t.kind = ROW → (∃ vs, h = rowOf vs) ∧ h.length ≤ 8)
    (hb : t.kind = BOOK → (∀ k ∈ h.map (·.1), ∃ i : Int, k = .inl i ∧ 0 ≤ i ∧ i ≤ 9) ∧ (h.map (·.1)).Nodup ∧ h.length ≤ 6) (hn : t.kind ≠ WATCH) (ha : ∀ p a, (p, a) ∈ h → avOk m a) : ({ t with held := h } : Th).Ok m :=
  ⟨o.kd, hr, hw, hb, fun z => absurd z hn, o.non, ha, o.due, o.goal⟩
theorem has_row {t : Th} {p : Key} (o : t.Ok m) (k : t.kind = ROW) : ∃ vs, t.held = rowOf vs ∧ (t.has p = true ↔ ∃ i : Nat, p = .inl (i : Int) ∧ i < vs.length) := by
  obtain ⟨⟨vs, e⟩, _⟩ := o.row k
  exact ⟨vs, e, by unfold Th.has; rw [e]; exact rowOf_has⟩
theorem may_cases {t : Th} {p : Key} (e : t.may p = true) : t.has p = true ∨ (t.kind = ROW ∧ p = .inl (t.held.length : Int) ∧ t.held.length < 8) ∨ (t.kind = BOOK ∧ t.held.length < 6 ∧ ∃ j, p = .inl j) := by
  unfold Th.may at e
  rcases (Bool.or_eq_true _ _).mp e with e | e
  · exact .inl e
  cases p with
  | inr s => cases e
  | inl j =>
    rcases (Bool.or_eq_true _ _).mp e with e | e
    · obtain ⟨e, e3⟩ := (Bool.and_eq_true _ _).mp e
      obtain ⟨e1, e2⟩ := (Bool.and_eq_true _ _).mp e
      exact .inr (.inl ⟨of_decide_eq_true e1, by rw [of_decide_eq_true e2], of_decide_eq_true e3⟩)
    · obtain ⟨e1, e2⟩ := (Bool.and_eq_true _ _).mp e
      exact .inr (.inr ⟨of_decide_eq_true e1, of_decide_eq_true e2, j, rfl⟩)
theorem Th.Ok.put {t : Th} {p : Key} {a : AV} (o : t.Ok m) (gp : GoodP p) (e : t.may p = true) (ha : avOk m a) : ({ t with held := hput t.held p a } : Th).Ok m := by
  have av : ∀ q b, (q, b) ∈ hput t.held p a → avOk m b := fun q b z => (hput_mem z).elim (o.av q b) fun z => z ▸ ha
  obtain ⟨n1, n2, n3, n4, n5, n6⟩ := kinds_ne
  rcases may_cases e with h | ⟨k, rfl, l⟩ | ⟨k, l, j, rfl⟩
  · have ks := hput_keys (a := a) h
    have ln : (hput t.held p a).length = t.held.length := by rw [hput_len, if_pos (show (hget t.held p).isSome = true from h)]
    refine o.setHeld (fun k => by rw [ks]; exact o.recd k) (fun k => ?_) (fun k => by rw [ks, ln]; exact o.book k) (fun k => ?_) av
    · rw [ln]
      refine ⟨?_, (o.row k).2⟩
      obtain ⟨vs, e1, e2⟩ := has_row (p := p) o k
      obtain ⟨i, rfl, l⟩ := e2.mp h
      exact ⟨vs.set i a, by rw [e1, rowOf_put l]⟩
    · have h : (hget t.held p).isSome = true := h
      rw [(o.wat k).1] at h
      cases h
  · obtain ⟨vs, ev⟩ := (o.row k).1
    have lv : t.held.length = vs.length := by rw [ev, rowOf_len]
    refine o.setHeld (fun z => absurd (z.symm.trans k) n1) (fun _ => ⟨⟨vs ++ [a], by rw [lv, ev, rowOf_putEnd]⟩, ?_⟩) (fun z => absurd (k.symm.trans z) n4) (fun z => n5 (k.symm.trans z)) av
    rw [lv, ev, rowOf_putEnd, rowOf_len, List.length_append]
    show vs.length + 1 ≤ 8
    omega
  · cases h : hget t.held (.inl j) with
    | some b =>
      have h : (hget t.held (.inl j)).isSome = true := by rw [h]; rfl
      have ks := hput_keys (a := a) h
      have ln : (hput t.held (.inl j) a).length = t.held.length := by rw [hput_len, if_pos h]
      exact o.setHeld (fun z => absurd (z.symm.trans k) n2) (fun z => absurd (z.symm.trans k) n4) (fun k => by rw [ks, ln]; exact o.book k) (fun z => n6 (k.symm.trans z)) av
    | none =>
      have hn := hget_none.mp h
      have e1 : hput t.held (.inl j) a = t.held ++ [(.inl j, a)] := by unfold hput; rw [h]; rfl
      have hb := o.book k
      refine o.setHeld (fun z => absurd (z.symm.trans k) n2) (fun z => absurd (z.symm.trans k) n4) (fun _ => ?_) (fun z => n6 (k.symm.trans z)) av
      rw [e1, List.map_append, List.length_append]
      refine ⟨fun q z => ?_, ?_, by show t.held.length + 1 ≤ 6; omega⟩
      · rcases List.mem_append.mp z with z | z
        · exact hb.1 q z
        · rw [show List.map (·.1) [((Sum.inl j : Key), a)] = [Sum.inl j] from rfl, List.mem_singleton] at z
          exact ⟨j, z, gp⟩
      · rw [List.nodup_append]
        refine ⟨hb.2.1, by simp, fun x m y z => ?_⟩
        rw [show List.map (·.1) [((Sum.inl j : Key), a)] = [Sum.inl j] from rfl, List.mem_singleton] at z
        subst z
        exact fun q => hn (q ▸ m)
theorem hdrop_mem {h : List (Key × AV)} {p : Key} {x : Key × AV} (m : x ∈ hdrop h p) : x ∈ h := (List.mem_filter.mp m).1
theorem rowOf_mem {vs : List AV} {p : Key} {a : AV} (z : (p, a) ∈ rowOf vs) : a ∈ vs := by
  obtain ⟨i, l, e⟩ := List.mem_mapIdx.mp z
  cases e
  exact List.getElem_mem l
theorem Th.Ok.cut {t : Th} {p : Key} (o : t.Ok m) (h : t.has p = true) : ({ t with held := t.cutH p } : Th).Ok m := by
  obtain ⟨n1, n2, n3, n4, n5, n6⟩ := kinds_ne
  rcases o.kd with k | k | k | k
  · have e : t.cutH p = hput t.held p .non := by unfold Th.cutH; rw [if_pos k]
    rw [e]
    exact o.put (by
      have h := hget_isSome.mp h
      rw [o.recd k] at h
      obtain ⟨s, m, rfl⟩ := List.mem_map.mp h
      exact m) (by unfold Th.may; rw [h]; rfl) trivial
  · have e : t.cutH p = rowCut t.held p := by unfold Th.cutH; rw [if_neg (fun z => n1 (z.symm.trans k)), if_pos k]
    obtain ⟨vs, e1, e2⟩ := has_row (p := p) o k
    obtain ⟨i, rfl, l⟩ := e2.mp h
    have l8 := (o.row k).2
    have oa := o.av
    rw [e1] at l8 oa
    rw [e, e1, rowCut_row]
    rw [rowOf_len] at l8
    refine o.setHeld (fun z => absurd (z.symm.trans k) n1) (fun _ => ⟨⟨_, rfl⟩, ?_⟩) (fun z => absurd (k.symm.trans z) n4) (fun z => n5 (k.symm.trans z)) fun q a z => ?_
    · rw [rowOf_len, List.length_eraseIdx]; split <;> omega
    · have m := List.mem_of_mem_eraseIdx (rowOf_mem z)
      obtain ⟨j, l, e⟩ := List.getElem_of_mem m
      exact oa (.inl (j : Int)) a (List.mem_mapIdx.mpr ⟨j, l, by rw [e]⟩)
  · have e : t.cutH p = hdrop t.held p := by unfold Th.cutH; rw [if_neg (fun z => n2 (z.symm.trans k)), if_neg (fun z => n4 (z.symm.trans k))]
    have hb := o.book k
    rw [e]
    refine o.setHeld (fun z => absurd (z.symm.trans k) n2) (fun z => absurd (z.symm.trans k) n4) (fun _ => ⟨fun q z => ?_, ?_, Nat.le_trans (List.length_filter_le _ _) hb.2.2⟩) (fun z => n6 (k.symm.trans z)) fun q a z => o.av q a (hdrop_mem z)
    · obtain ⟨x, m, rfl⟩ := List.mem_map.mp z
      exact hb.1 _ (List.mem_map.mpr ⟨x, hdrop_mem m, rfl⟩)
    · exact hb.2.1.sublist ((List.filter_sublist).map _)
  · have h : (hget t.held p).isSome = true := h
    rw [(o.wat k).1] at h
    cases h
theorem thOf_some (o : M.Ok) {n : Str} {k : Nat} {t : Th} (e : M.thOf n = some (k, t)) : M.names n = .th k ∧ M.things k = some t ∧ t.Ok M.made ∧ k < M.made := by
  unfold HM.thOf at e
  split at e
  · rename_i j ej
    obtain ⟨u, e1, e2⟩ := Option.map_eq_some_iff.mp e
    cases e2
    exact ⟨ej, e1, o.th _ _ e1, o.lt e1⟩
  · cases e
theorem doM_ok (o : M.Ok) {d : Deed} (g : Good d) : (doM M d).2.Ok := by
  cases d with
  | make n k => exact (HM.Ok.mk1 o (newTh_ok g.2)).hold (a := .th M.made) (Nat.lt_succ_self _)
  | num n i => exact o.hold (a := .num i) trivial
  | copy n m => exact o.hold (o.nms m)
  | drop n => exact o.hold (a := .non) trivial
  | say n => exact o
  | settle => exact (settleF_ok o).1
  | watch n m =>
    show (match M.names m with | .th k => ((.v (.th M.made), (M.mk1 WATCH (some k)).hold n (.th M.made)) : Tell × HM) | _ => (.no, M)).2.Ok
    have := o.nms m
    cases e : M.names m with
    | th k =>
      rw [e] at this
      exact (HM.Ok.mk1 o (newW_ok (Nat.lt_succ_of_lt this))).hold (a := .th M.made) (Nat.lt_succ_self _)
    | non => exact o
    | num i => exact o
  | put n p m =>
    show (match M.thOf n with | none => ((.no, M) : Tell × HM) | some (k, t) => if t.may p = true then (.v .non, M.setTh k { t with held := hput t.held p (M.names m) }) else (.no, M)).2.Ok
    cases e : M.thOf n with
    | none => exact o
    | some kt =>
      obtain ⟨k, t⟩ := kt
      obtain ⟨_, _, ot, l⟩ := thOf_some o e
      show (if t.may p = true then ((.v .non, M.setTh k { t with held := hput t.held p (M.names m) }) : Tell × HM) else (.no, M)).2.Ok
      by_cases c : t.may p = true
      · rw [if_pos c]
        exact o.setTh l (ot.put g.2.1 c (o.nms m))
      · rw [if_neg c]; exact o
  | take n m p =>
    show (match M.thOf m with | none => ((.no, M) : Tell × HM) | some (_, t) => match hget t.held p with | none => (.no, M) | some a => (.v a, M.hold n a)).2.Ok
    cases e : M.thOf m with
    | none => exact o
    | some kt =>
      obtain ⟨k, t⟩ := kt
      obtain ⟨_, _, ot, l⟩ := thOf_some o e
      show (match hget t.held p with | none => ((.no, M) : Tell × HM) | some a => (.v a, M.hold n a)).2.Ok
      cases e2 : hget t.held p with
      | none => exact o
      | some a => exact o.hold (ot.av p a (hget_mem e2))
  | cut n p =>
    show (match M.thOf n with | none => ((.no, M) : Tell × HM) | some (k, t) => if t.has p = true then (.v .non, M.setTh k { t with held := t.cutH p }) else (.no, M)).2.Ok
    cases e : M.thOf n with
    | none => exact o
    | some kt =>
      obtain ⟨k, t⟩ := kt
      obtain ⟨_, _, ot, l⟩ := thOf_some o e
      show (if t.has p = true then ((.v .non, M.setTh k { t with held := t.cutH p }) : Tell × HM) else (.no, M)).2.Ok
      by_cases c : t.has p = true
      · rw [if_pos c]
        exact o.setTh l (ot.cut c)
      · rw [if_neg c]; exact o
  | last n gl =>
    show (match M.thOf n with | none => ((.no, M) : Tell × HM) | some (k, t) => if t.kind = WATCH ∨ t.given = true then (.no, M) else (.v .non, M.setTh k { t with given := true, due := true, goal := gl })).2.Ok
    cases e : M.thOf n with
    | none => exact o
    | some kt =>
      obtain ⟨k, t⟩ := kt
      obtain ⟨_, _, ot, l⟩ := thOf_some o e
      show (if t.kind = WATCH ∨ t.given = true then ((.no, M) : Tell × HM) else (.v .non, M.setTh k { t with given := true, due := true, goal := gl })).2.Ok
      by_cases c : t.kind = WATCH ∨ t.given = true
      · rw [if_pos c]; exact o
      · rw [if_neg c]
        exact o.setTh l ⟨ot.kd, ot.recd, ot.row, ot.book, fun z => absurd (.inl z) c, ot.non, ot.av, fun _ => rfl, g.2⟩
  | ask n m =>
    show (match M.thOf m with
      | none => ((.no, M) : Tell × HM)
      | some (k, t) => if t.kind = WATCH then (match M.tellM.things k with
        | some t' => let a := if t'.told = true then AV.non else match t'.sees with
            | some s => .th s
            | none => .non
          (.v a, M.tellM.hold n a)
        | none => (.no, M)) else (.no, M)).2.Ok
    cases e : M.thOf m with
    | none => exact o
    | some kt =>
      obtain ⟨k, t⟩ := kt
      show (if t.kind = WATCH then (match M.tellM.things k with
        | some t' => let a := if t'.told = true then AV.non else match t'.sees with
            | some s => .th s
            | none => .non
          ((.v a, M.tellM.hold n a) : Tell × HM)
        | none => (.no, M)) else (.no, M)).2.Ok
      by_cases c : t.kind = WATCH
      · rw [if_pos c]
        cases e2 : M.tellM.things k with
        | none => exact o
        | some t' =>
          have ot := o.tellM.th k t' e2
          show (M.tellM.hold n (if t'.told = true then AV.non else match t'.sees with
            | some s => .th s
            | none => .non)).Ok
          refine o.tellM.hold ?_
          split
          · trivial
          · split
            · rename_i s es
              rcases Classical.em (t'.kind = WATCH) with w | w
              · obtain ⟨s', e3, l⟩ := (ot.wat w).2.1
                rw [es] at e3
                cases e3
                exact l
              · rw [ot.non w] at es
                cases es
            · trivial
      · rw [if_neg c]; exact o
end
/-! ### walking from thing to thing -/
def outs (h : List (Key × AV)) : List Nat := h.filterMap fun x => match x.2 with
  | .th k => some k
  | _ => none
theorem outs_mem {h : List (Key × AV)} {j : Nat} : j ∈ outs h ↔ ∃ p, (p, AV.th j) ∈ h := by
  unfold outs
  rw [List.mem_filterMap]
  constructor
  · rintro ⟨⟨p, a⟩, m, e⟩
    cases a with
    | th k =>
      have e : some k = some j := e
      cases e
      exact ⟨p, m⟩
    | non => cases e
    | num i => cases e
  · rintro ⟨p, m⟩
    exact ⟨_, m, rfl⟩
theorem outs_len {h : List (Key × AV)} : (outs h).length ≤ h.length := List.length_filterMap_le _ _
structure WInv (M : HM) (R : Nat → Prop) (found left : List Nat) : Prop where
  sound : ∀ x, x ∈ found ∨ x ∈ left → M.RC R x
  root : ∀ x, R x → x ∈ found ∨ x ∈ left
  step : ∀ x ∈ found, ∀ j, M.holds x j → j ∈ found ∨ j ∈ left
  nd : found.Nodup
theorem WInv.done {M : HM} {R : Nat → Prop} {found : List Nat} (i : WInv M R found []) : ∀ x, x ∈ found ↔ M.RC R x := fun x =>
  ⟨fun m => i.sound x (.inl m), fun h => by
    induction h with
    | base h => exact (i.root _ h).elim id fun z => by cases z
    | step _ e ih => exact (i.step _ ih _ e).elim id fun z => by cases z⟩
theorem WInv.skip {M : HM} {R : Nat → Prop} {found left : List Nat} {x : Nat} (i : WInv M R found (left ++ [x])) (m : x ∈ found) : WInv M R found left := by
  have f : ∀ y, y ∈ found ∨ y ∈ left ++ [x] → y ∈ found ∨ y ∈ left := fun y z => by
    rcases z with z | z
    · exact .inl z
    · rcases List.mem_append.mp z with z | z
      · exact .inr z
      · rw [List.mem_singleton] at z; exact .inl (z ▸ m)
  exact ⟨fun y z => i.sound y (z.imp id fun z => List.mem_append.mpr (.inl z)), fun y h => f y (i.root y h), fun y m j e => f j (i.step y m j e), i.nd⟩
theorem WInv.take {M : HM} {R : Nat → Prop} {found left : List Nat} {x : Nat} {t : Th} (i : WInv M R found (left ++ [x])) (m : x ∉ found) (e : M.things x = some t) : WInv M R (found ++ [x]) (left ++ outs t.held) := by
  have rx := i.sound x (.inr (List.mem_append.mpr (.inr (List.mem_singleton.mpr rfl))))
  have f : ∀ y, y ∈ found ∨ y ∈ left ++ [x] → y ∈ found ++ [x] ∨ y ∈ left ++ outs t.held := fun y z => by
    rcases z with z | z
    · exact .inl (List.mem_append.mpr (.inl z))
    · rcases List.mem_append.mp z with z | z
      · exact .inr (List.mem_append.mpr (.inl z))
      · exact .inl (List.mem_append.mpr (.inr z))
  refine ⟨fun y z => ?_, fun y h => f y (i.root y h), fun y z j h => ?_, ?_⟩
  · rcases z with z | z
    · rcases List.mem_append.mp z with z | z
      · exact i.sound y (.inl z)
      · rw [List.mem_singleton] at z; exact z ▸ rx
    · rcases List.mem_append.mp z with z | z
      · exact i.sound y (.inr (List.mem_append.mpr (.inl z)))
      · obtain ⟨p, mp⟩ := outs_mem.mp z
        exact .step rx ⟨t, e, p, mp⟩
  · rcases List.mem_append.mp z with z | z
    · exact f j (i.step y z j h)
    · rw [List.mem_singleton] at z
      subst z
      obtain ⟨t', e', p, mp⟩ := h
      rw [e] at e'
      cases e'
      exact .inr (List.mem_append.mpr (.inr (outs_mem.mpr ⟨p, mp⟩)))
  · rw [List.nodup_append]
    refine ⟨i.nd, by simp, fun a ha b hb => ?_⟩
    rw [List.mem_singleton] at hb
    subst hb
    exact fun z => m (z ▸ ha)
theorem WInv.perm {M : HM} {R : Nat → Prop} {found left left' : List Nat} (i : WInv M R found left) (h : ∀ x, x ∈ left ↔ x ∈ left') : WInv M R found left' :=
  ⟨fun y z => i.sound y (z.imp id fun z => (h y).mpr z), fun y r => (i.root y r).imp id fun z => (h y).mp z, fun y m j e => (i.step y m j e).imp id fun z => (h j).mp z, i.nd⟩
theorem RC_lt {M : HM} {R : Nat → Prop} (o : M.Ok) (r : ∀ k, R k → k < M.made) {x : Nat} (h : M.RC R x) : x < M.made := by
  induction h with
  | base h => exact r _ h
  | step _ e ih =>
    obtain ⟨t, e1, p, m⟩ := e
    exact (o.th _ _ e1).av p _ m
theorem nodup_le : ∀ {n : Nat} {l : List Nat}, l.Nodup → (∀ x ∈ l, x < n) → l.length ≤ n
  | 0, l, _, h => by
    cases l with
    | nil => exact Nat.le_refl _
    | cons a l => exact absurd (h a List.mem_cons_self) (Nat.not_lt_zero _)
  | n + 1, l, nd, h => by
    have r := nodup_le (n := n) (l := l.erase n) (nd.erase n) fun x m => by
      have m := (nd.mem_erase_iff).mp m
      have := h x m.2
      have := m.1
      omega
    rw [List.length_erase] at r
    split at r <;> omega

/-! ### data: lists of ints against the empty list -/
section
variable {K : PySem.W.Frag} {H : Hp} {Q : VK} {p l : Addr} {ns : List Int}
theorem dp_ints : ∀ ns : List Int, DpAll K H (ns.map V.int) (ns.map PyData.int)
  | [] => .nil
  | n :: ns => .cons (.int n) (dp_ints ns)
theorem lay_ints : ∀ ns : List Int, PyData.canLayAll0 (ns.map PyData.int) = true
  | [] => rfl
  | n :: ns => by
    show (PyData.canLay0 (.int n) && PyData.canLayAll0 (ns.map PyData.int)) = true
    rw [lay_ints ns]
    rfl
theorem dep_ints : ∀ ns : List Int, PyData.depthAll (ns.map PyData.int) = 0
  | [] => rfl
  | n :: ns => by
    show max (PyData.depth (.int n)) (PyData.depthAll (ns.map PyData.int)) = 0
    rw [dep_ints ns]
    rfl
theorem shaped_ints (ns : List Int) : SeqAt.shaped (.list (ns.map PyData.int)) = true := by
  unfold SeqAt.shaped
  rw [show PyData.canLay0 (.list (ns.map PyData.int)) = true from lay_ints ns, show PyData.depth (.list (ns.map PyData.int)) = 1 by show PyData.depthAll (ns.map PyData.int) + 1 = 1; rw [dep_ints]]
  rfl
theorem eqv_ints_nil : ∀ ns : List Int, PyData.eqv (.list (ns.map PyData.int)) (.list []) = decide (ns = [])
  | [] => rfl
  | n :: ns => rfl
theorem eqvAll_ints : ∀ ns ms : List Int, PyData.eqvAll (ns.map PyData.int) (ms.map PyData.int) = decide (ns = ms)
  | [], [] => rfl
  | [], _ :: _ => rfl
  | _ :: _, [] => rfl
  | n :: ns, m :: ms => by
    show ((n == m) && PyData.eqvAll (ns.map PyData.int) (ms.map PyData.int)) = decide (n :: ns = m :: ms)
    rw [eqvAll_ints ns ms]
    by_cases e : n = m
    · subst e
      by_cases e2 : ns = ms
      · subst e2; simp
      · simp [e2]
    · simp [e]
theorem eqv_ints (ns ms : List Int) : PyData.eqv (.list (ns.map PyData.int)) (.list (ms.map PyData.int)) = decide (ns = ms) := eqvAll_ints ns ms
theorem y_neNil (h : SqL K H p (ns.map V.int)) (h2 : SqL K H l []) (q : Q (.bl (!decide (ns = []))) H) : rNeD K (.ref p) (.ref l) H Q :=
  ⟨_, _, .lst h (dp_ints ns), .lst h2 .nil, shaped_ints ns, by decide, by rw [eqv_ints_nil]; exact q⟩
theorem y_eqNil (h : SqL K H p (ns.map V.int)) (h2 : SqL K H l []) (q : Q (.bl (decide (ns = []))) H) : rEqD K (.ref p) (.ref l) H Q :=
  ⟨_, _, .lst h (dp_ints ns), .lst h2 .nil, shaped_ints ns, by decide, by rw [eqv_ints_nil]; exact q⟩
theorem y_eqNN (h : SqL K H p []) (h2 : SqL K H l []) (q : Q (.bl true) H) : rEqD K (.ref p) (.ref l) H Q := ⟨_, _, .lst h .nil, .lst h2 .nil, by decide, by decide, q⟩
end

/-! ### what is drawn from: a number, the cells, a place -/
section
variable {P : Program} {w : World} {K : PySem.W.Frag} {mg : Str → Option Value} {base : Heap}
structure HS (H : Hp) (ah ac : Addr) : Prop where
  ex : ∃ (x z : Int) (ns : List Int), H ah = some (.lst [.int x, .ref ac, .int z]) ∧ 0 ≤ x ∧ x < 2147483647 ∧ 0 ≤ z ∧ H ac = some (.lst (ns.map V.int)) ∧ ns.length ≤ 63
  ne : ah ≠ ac
def FH (ah ac b : Addr) : Prop := b = ah ∨ b = ac
theorem HS.fr {H H' : Hp} {F : Addr → Prop} {ah ac : Addr} (h : HS H ah ac) (f : Fr K F H H') (n1 : ¬ F ah) (n2 : ¬ F ac) : HS H' ah ac := by
  obtain ⟨⟨x, z, ns, h1, h2, h3, h4, h5, h6⟩, ne⟩ := h
  exact ⟨⟨x, z, ns, f.lst h1 n1, h2, h3, h4, f.lst h5 n2, h6⟩, ne⟩
theorem HS.same {H H' : Hp} {ah ac : Addr} (h : HS H ah ac) (f : Same H H') : HS H' ah ac := by
  obtain ⟨⟨x, z, ns, h1, h2, h3, h4, h5, h6⟩, ne⟩ := h
  exact ⟨⟨x, z, ns, f _ _ h1, h2, h3, h4, f _ _ h5, h6⟩, ne⟩
abbrev spMix (K : PySem.W.Frag) : Sp := Sp2 fun x y H Q => ∃ (a : Addr) (ns : List Int) (sd : Int), x = .ref a ∧ y = .int sd ∧ SqL K H a (ns.map V.int) ∧ ns.length ≤ 63 ∧ 0 ≤ sd ∧ sd < 2147483647 ∧
  ∀ (ah ac : Addr) (H' : Hp), H ah = none → H ac = none → Same H H' → HS H' ah ac → Q (.ref ah) H'
abbrev spNext (K : PySem.W.Frag) : Sp := Sp2 fun x y H Q => ∃ (ah ac : Addr) (m : Int), x = .ref ah ∧ y = .int m ∧ HS H ah ac ∧ 1 ≤ m ∧ m < 1073741824 ∧
  ∀ (r : Int) (H' : Hp), 0 ≤ r → r < m → HS H' ah ac → Fr K (FH ah ac) H H' → Q (.int r) H'
theorem cal__law_mix (T : Tx w K mg base) : Cal P w K mg base 1 "_law_mix" (spMix K) [] := by
  obtain ⟨fd, F⟩ := T.fn__law_mix
  refine cal_of F T.g__law_mix sc__law_mix (F.bindsN fun _ _ _ _ _ _ us hl => match us, hl with | [_, _], _ => rfl) (fun vs H Q E h => h.len) (fun cdv A outer s H vs Q E hr h => ?_)
  obtain ⟨x, y, rfl, a, ns, sd, rfl, rfl, hS, hl0, h0, h1, k⟩ := h
  have hu := hu_of hr
  have nd := sc__law_mix.nd
  refine ⟨_, (pss_cons (ps_set (i := 2) nd rfl (Or.inl rfl) (pv 1)) (pss_cons (ps_for PassesOwn.never rfl (pi_list (pv 0)) (pg_name (i := 3) nd rfl (Or.inl rfl)) (pss_one (ps_set (i := 2) nd rfl (Or.inl rfl) (pe_op op_mod (pe_op op_add (pe_op op_add (pe_op op_mul (pv 2) pe_int) (pe_op op_mod (pv 3) pe_int)) pe_int) pe_int)))) (pss_one (ps_ret (pe_lst (pa_cons (pv 2) (pa_cons (pe_callTy call_list_of (by rfl) T.n_list (by decide +kernel) (pa_cons (pv 0) pa_nil)) (pa_cons pe_int pa_nil)))))))), ?_⟩
  walk_at "st"
  refine y_iL hS ?_
  refine y_forL (xs := ns.map V.int) (fun i σ H' => H' = H ∧ ∃ (mx : Int) (u : Option V), σ = [some (.ref a), some (.int sd), some (.int mx), u] ∧ 0 ≤ mx ∧ mx < 2147483647) ⟨rfl, sd, none, rfl, h0, h1⟩ (fun i σ H' _ ⟨e, _⟩ => by rw [e]; exact hS) ?_ ?_
  · rintro i z σ H' hi ⟨rfl, mx, u, rfl, m0, m1⟩
    rw [List.getElem?_map] at hi
    obtain ⟨c, hc, rfl⟩ := Option.map_eq_some_iff.mp hi
    walk_at "rd"
    refine y_I (Or.inl ⟨by omega, by omega⟩) ?_
    walk_at "rd"
    refine y_I (by show (0 : Int) < 2147483629; decide) ?_
    walk_at "rd"
    refine y_I (by show (0 : Int) < 2147483647; decide) ?_
    walk_at "rd"
    refine ⟨rfl, _, _, rfl, ?_, ?_⟩ <;> omega
  · rintro σ H' ⟨rfl, mx, u, rfl, m0, m1⟩
    walk_at "rd"
    refine y_listof hS fun l hl => ?_
    walk_at "rd"
    intro p hp
    have np : l ≠ p := ne_of_none upd_same hp
    have hp0 : H' p = none := by
      have e := upd_ne (H := H') (o := HO.lst (ns.map V.int)) (Ne.symm np)
      rw [e] at hp
      exact hp
    exact k p l _ hp0 hl ((Same.new hl).trans (Same.new hp)) ⟨⟨mx, 0, ns, upd_same, m0, m1, by omega, by rw [upd_ne np, upd_same], hl0⟩, np.symm⟩
theorem cal__law_next (T : Tx w K mg base) : Cal P w K mg base 1 "_law_next" (spNext K) [] := by
  obtain ⟨fd, F⟩ := T.fn__law_next
  refine cal_of F T.g__law_next sc__law_next (F.bindsN fun _ _ _ _ _ _ us hl => match us, hl with | [_, _], _ => rfl) (fun vs H Q E h => h.len) (fun cdv A outer s H vs Q E hr h => ?_)
  obtain ⟨x, y, rfl, ah, ac, m, rfl, rfl, ⟨⟨xx, z, ns, h1, h2, h3, h4, h5, h6⟩, hne⟩, m1, m2, k⟩ := h
  have hu := hu_of hr
  have nd := sc__law_next.nd
  refine ⟨_, (pss_cons (ps_set (i := 2) nd rfl (Or.inl rfl) (pe_op op_mod (pe_ix ix_list (pv 0) pe_int (fun _ _ => rfl)) (pe_callB (call_max2 rfl) (by rfl) T.n_max (by decide +kernel) (pa_cons pe_int (pa_cons (pe_callB call_len_seq (by rfl) T.n_len PySem.boot_len (pa_cons (pe_ix ix_list (pv 0) pe_int (fun _ _ => rfl)) pa_nil)) pa_nil))))) (pss_cons (ps_set (i := 3) nd rfl (Or.inl rfl) (pe_ifExp (pt_cmpR (op_neD hr.units) (pe_ix ix_list (pv 0) pe_int (fun _ _ => rfl)) (pe_lst pa_nil) (nomark _)) (pe_ix ix_list (pe_ix ix_list (pv 0) pe_int (fun _ _ => rfl)) (pv 2) (fun _ _ => rfl)) pe_int)) (pss_cons (ps_if (pt_cmpR op_ge (pv 3) (pe_op op_pow pe_int pe_int) (nomark _)) (pss_cons (ps_asg (pe_op op_fdiv (pv 3) (pv 1)) (pg_sub (pe_ix ix_list (pv 0) pe_int (fun _ _ => rfl)) (pv 2) set_list)) (pss_one (ps_ret (pe_op op_mod (pv 3) (pv 1))))) pss_nil) (pss_cons (ps_asg (pe_op op_mod (pe_op op_add (pe_op op_add (pe_op op_mul (pe_ix ix_list (pv 0) pe_int (fun _ _ => rfl)) pe_int) (pe_op op_mul (pv 3) pe_int)) pe_int) pe_int) (pg_sub (pv 0) pe_int set_list)) (pss_cons (ps_asg (pe_op op_add (pe_ix ix_list (pv 0) pe_int (fun _ _ => rfl)) pe_int) (pg_sub (pv 0) pe_int set_list)) (pss_one (ps_ret (pe_op op_mod (pe_op op_fdiv (pe_ix ix_list (pv 0) pe_int (fun _ _ => rfl)) pe_int) (pv 1))))))))), ?_⟩
  walk_at "st"
  refine y_lenL (sqL h5) ?_
  walk_at "rd"
  refine y_2I ?_
  generalize hM : (if ((List.map V.int ns).length : Int) > 1 then ((List.map V.int ns).length : Int) else 1) = M
  have hM1 : 1 ≤ M ∧ (ns ≠ [] → M = ns.length) := by
    rw [List.length_map] at hM
    cases ns with
    | nil => exact ⟨by rw [← hM]; decide, fun z => absurd rfl z⟩
    | cons a r =>
      have : ((a :: r).length : Int) ≥ 1 := by rw [List.length_cons]; omega
      split at hM
      · exact ⟨by omega, fun _ => by omega⟩
      · exact ⟨by omega, fun _ => by omega⟩
  refine y_I (show (0 : Int) < M by omega) ?_
  walk_at "rd"
  intro e he
  refine y_neNil (ns := ns) (l := e) (sqL (Same.new he _ _ h5)) (sqL upd_same) ?_
  walk_at "rd"
  have hz0 : 0 ≤ z % M := Int.emod_nonneg _ (by omega)
  have hz1 : z % M < M := Int.emod_lt_of_pos _ (by omega)
  have s1 : Same H (upd H e (.lst [])) := Same.new he
  have g1 := s1 _ _ h1
  have g5 := s1 _ _ h5
  -- behind the cell is known
  have main : ∀ c : Int, (10 ^ 18 ≤ c → ns ≠ []) → tSeq
      (tIfS (tTest (tOp (rI0 fun i j => V.bl (decide (j ≤ i))) (tVar 3) (tOp (rI CPow fun i j => V.int (i ^ j.toNat)) (tC (V.int 10)) (tC (V.int 18)))))
        (tSeq (tAsg (tOp (rI CDiv fun i j => V.int (i / j)) (tVar 3) (tVar 1)) (gSub (tOp (rIxL K) (tVar 0) (tC (V.int 1))) (tVar 2) rSetL)) (tRet (tOp (rI (fun x j => 0 < j) fun i j => V.int (i % j)) (tVar 3) (tVar 1)))) tNext)
      (tSeq (tAsg (tOp (rI (fun x j => 0 < j) fun i j => V.int (i % j)) (tOp (rI0 fun i j => V.int (i + j)) (tOp (rI0 fun i j => V.int (i + j)) (tOp (rI CMul fun i j => V.int (i * j)) (tOp (rIxL K) (tVar 0) (tC (V.int 0))) (tC (V.int 48271)))
          (tOp (rI CMul fun i j => V.int (i * j)) (tVar 3) (tC (V.int 69621)))) (tC (V.int 11))) (tC (V.int 2147483647))) (gSub (tVar 0) (tC (V.int 0)) rSetL))
        (tSeq (tAsg (tOp (rI0 fun i j => V.int (i + j)) (tOp (rIxL K) (tVar 0) (tC (V.int 2))) (tC (V.int 1))) (gSub (tVar 0) (tC (V.int 2)) rSetL))
          (tRet (tOp (rI (fun x j => 0 < j) fun i j => V.int (i % j)) (tOp (rI CDiv fun i j => V.int (i / j)) (tOp (rIxL K) (tVar 0) (tC (V.int 0))) (tC (V.int 7))) (tVar 1)))))
      ⟨fun _ H' => Q .non H', Q, fun _ _ => False, fun _ _ => False⟩ [some (.ref ah), some (.int m), some (.int (z % M)), some (.int c)] (upd H e (.lst [])) := by
    intro c hc
    walk_at "rd"
    refine y_I (show CPow 10 18 from ⟨by decide, by decide, by decide⟩) ?_
    walk_at "rd"
    refine y_dec (fun hb => ?_) (fun hb => ?_)
    · have hns := hc hb
      walk_at "rd"
      refine y_I (show CDiv c m from ⟨by omega, by omega⟩) ?_
      walk_at "rd"
      obtain ⟨j, hj⟩ := Int.eq_ofNat_of_zero_le hz0
      have hjl : j < ns.length := by have := hM1.2 hns; omega
      refine y_setL (k := j) (xs := ns.map V.int) (by walk_at "hp") ?_ ?_
      · rw [List.length_map, hj]
        unfold ixN
        rw [if_pos (by omega), if_pos (by omega)]
        rfl
      walk_at "rd"
      refine y_I (show (0 : Int) < m by omega) ?_
      have hcm : 0 ≤ c % m := Int.emod_nonneg _ (by omega)
      have hcm1 : c % m < m := Int.emod_lt_of_pos _ (by omega)
      refine k (c % m) _ hcm hcm1 ⟨⟨xx, z, ns.set j (c / m), by rw [upd_ne hne]; exact g1, h2, h3, h4, by rw [upd_same, List.map_set], by rw [List.length_set]; exact h6⟩, hne⟩ ?_
      exact (Fr.same s1).tr (Fr.upd (.inr rfl) (by rw [g5]; trivial))
    · walk_at "rd"
      refine y_I (show CMul xx 48271 from .inl ⟨by omega, by omega⟩) ?_
      walk_at "rd"
      refine y_I (show CMul c 69621 from .inr ⟨by decide, by decide⟩) ?_
      walk_at "rd"
      refine y_I (show (0 : Int) < 2147483647 by decide) ?_
      walk_at "rd"
      generalize hx' : (xx * 48271 + c * 69621 + 11) % 2147483647 = x'
      have hx0 : 0 ≤ x' := by rw [← hx']; exact Int.emod_nonneg _ (by decide)
      have hx1 : x' < 2147483647 := by rw [← hx']; exact Int.emod_lt_of_pos _ (by decide)
      refine y_setL (k := 0) g1 rfl ?_
      walk_at "rd"
      refine y_setL (k := 2) upd_same rfl ?_
      walk_at "rd"
      refine y_I (show CDiv x' 7 from ⟨by decide, by decide⟩) ?_
      walk_at "rd"
      refine y_I (show (0 : Int) < m by omega) ?_
      rw [upd_upd]
      refine k (x' / 7 % m) _ (Int.emod_nonneg _ (by omega)) (Int.emod_lt_of_pos _ (by omega)) ⟨⟨x', z + 1, ns, upd_same, hx0, hx1, by omega, by rw [upd_ne hne.symm]; exact g5, h6⟩, hne⟩ ?_
      exact (Fr.same s1).tr (Fr.upd (.inl rfl) (by rw [g1]; trivial))
  refine y_ndec (fun hn => ?_) (fun hn => ?_)
  · walk_at "rd"
    have hlen : M = ns.length := hM1.2 hn
    obtain ⟨v, hv, j, rfl⟩ := at_all (P := fun v => ∃ j, v = V.int j) (xs := ns.map V.int) (i := z % M) hz0 (by rw [List.length_map]; omega) (fun v hv => by
      obtain ⟨j, _, e⟩ := List.mem_map.mp hv
      exact ⟨j, e.symm⟩)
    refine y_ixL g5 hv ?_
    exact main j fun _ => hn
  · exact main 0 fun z => absurd z (by decide)
end

/-! ### addresses of one's own -/
structure Own (K : PySem.W.Frag) (H : Hp) (ad : Nat → Addr) (n : Nat) : Prop where
  live : ∀ i, i < n → ∃ o, H (ad i) = some o ∧ Chg K (some o) ∧ notTbl o
  inj : ∀ i j, i < n → j < n → ad i = ad j → i = j
def Foot (ad : Nat → Addr) (n : Nat) (b : Addr) : Prop := ∃ i, i < n ∧ ad i = b
def Tups (H H' : Hp) : Prop := ∀ p xs, H p = some (.tup xs) → H' p = some (.tup xs)
/-- the footprint behind: what was, or new -/
def New (H : Hp) (F F' : Addr → Prop) : Prop := ∀ b, F' b → F b ∨ H b = none
section
variable {K : PySem.W.Frag} {H H' H1 : Hp} {ad : Nat → Addr} {n i j : Nat} {F G : Addr → Prop} {x : Addr} {o : HO}
theorem Own.ne (w : Own K H ad n) (hi : i < n) (hj : j < n) (h : i ≠ j) : ad i ≠ ad j := fun z => h (w.inj i j hi hj z)
theorem Own.fr (w : Own K H ad n) (f : Fr K F H H') (d : ∀ b, Foot ad n b → ¬ F b) : Own K H' ad n :=
  ⟨fun i hi => let ⟨o, h, c, t⟩ := w.live i hi; ⟨o, f.k _ _ h (d _ ⟨i, hi, rfl⟩) t, c, t⟩, w.inj⟩
theorem Own.chg (w : Own K H ad n) (hi : i < n) : Chg K (H (ad i)) := by
  obtain ⟨o, h, c, _⟩ := w.live i hi
  rw [h]; exact c
theorem Own.set (w : Own K H ad n) (hi : i < n) (c : Chg K (some o)) (t : notTbl o) : Own K (upd H (ad i) o) ad n := by
  refine ⟨fun j hj => ?_, w.inj⟩
  by_cases e : i = j
  · subst e; exact ⟨o, upd_same, c, t⟩
  · obtain ⟨u, h, c', t'⟩ := w.live j hj
    exact ⟨u, by rw [upd_ne (w.ne hj hi (Ne.symm e))]; exact h, c', t'⟩
theorem Own.fresh (w : Own K H ad n) (hi : i < n) (hx : H x = none) : ad i ≠ x := fun z => by
  obtain ⟨o, h, _⟩ := w.live i hi
  rw [z, hx] at h
  cases h
theorem Own.add (w : Own K H ad n) (hx : H x = none) (c : Chg K (some o)) (t : notTbl o) : Own K (upd H x o) (fun i => if i = n then x else ad i) (n + 1) := by
  refine ⟨fun j hj => ?_, fun i j hi hj e => ?_⟩
  · by_cases e : j = n
    · simp only [e, if_true]; exact ⟨o, upd_same, c, t⟩
    · simp only [if_neg e]
      obtain ⟨u, h, c', t'⟩ := w.live j (by omega)
      exact ⟨u, by rw [upd_ne (w.fresh (by omega) hx)]; exact h, c', t'⟩
  · by_cases ei : i = n
    · by_cases ej : j = n
      · omega
      · simp only [ei, if_true, if_neg ej] at e
        exact absurd e.symm (w.fresh (by omega) hx)
    · by_cases ej : j = n
      · simp only [ej, if_true, if_neg ei] at e
        exact absurd e (w.fresh (by omega) hx)
      · simp only [if_neg ei, if_neg ej] at e
        exact w.inj i j (by omega) (by omega) e
theorem Own.same (w : Own K H ad n) (s : Same H H') : Own K H' ad n := ⟨fun i hi => let ⟨o, h, c⟩ := w.live i hi; ⟨o, s _ _ h, c⟩, w.inj⟩
theorem Own.le (w : Own K H ad n) (h : j ≤ n) : Own K H ad j := ⟨fun i hi => w.live i (by omega), fun i k hi hk => w.inj i k (by omega) (by omega)⟩
theorem Own.tups (w : Own K H ad n) (hi : i < n) : Tups H (upd H (ad i) o) := fun p xs e => by
  rw [upd_ne fun z => ?_]; exact e
  have := w.chg hi
  rw [← z, e] at this
  exact this
theorem Own.frU (w : Own K H ad n) (hi : i < n) : Fr K (Foot ad n) H (L2.upd H (ad i) o) := Fr.upd ⟨i, hi, rfl⟩ (w.chg hi)
theorem Fr.tups (f : Fr K F H H') : Tups H H' := f.i
theorem Same.tups (s : Same H H') : Tups H H' := fun p xs e => s p _ e
theorem Tups.trans (a : Tups H H1) (b : Tups H1 H') : Tups H H' := fun p xs e => b p xs (a p xs e)
theorem New.refl : New H F F := fun _ h => .inl h
theorem New.live {F' : Addr → Prop} (h : New H F F') (b : Addr) (hb : F' b) {u : HO} (e : H b = some u) : F b := (h b hb).elim id fun z => by rw [e] at z; cases z
end
/-! ### the law's heap -/
/-- a value of the law's: a thing is a tuple of a text and its number -/
def LV (H : Hp) (v : V) : AV → Prop
  | .non => v = .non
  | .num i => v = .int i
  | .th k => ∃ p, v = .ref p ∧ H p = some (.tup [.str "thing", .int (k : Int)])
theorem LV.mono {H H' : Hp} {v : V} {a : AV} (h : LV H v a) (t : Tups H H') : LV H' v a := by
  cases a with
  | non => exact h
  | num i => exact h
  | th k => obtain ⟨p, e, hp⟩ := h; exact ⟨p, e, t _ _ hp⟩
def lastOf (t : Th) : Str := if t.due = true then "due" else if t.given = true then "done" else "none"
def seesV : Option Nat → V
  | none => .non
  | some s => .int (s : Int)
def ltd (t : Th) (d : Addr) : List (Key × V) := [(.inr "kind", .str t.kind), (.inr "held", .ref d), (.inr "sees", seesV t.sees), (.inr "gone", .bl t.told), (.inr "last", .str (lastOf t)), (.inr "goal", goalV t.goal)]
/-- what a thing holds: a list for a row, a dict else -/
inductive LHd (H : Hp) (d : Addr) (t : Th) : Prop where
  | row (k : t.kind = ROW) (xs : List V) (vs : List AV) (e : t.held = rowOf vs) (h : H d = some (.lst xs)) (r : Paired (LV H) xs vs)
  | oth (k : t.kind ≠ ROW) (kvs : List (Key × V)) (h : H d = some (.dK kvs)) (r : HR (LV H) kvs t.held)
structure LM (K : PySem.W.Frag) (H : Hp) (ad : Nat → Addr) (M : HM) : Prop where
  own : Own K H ad (3 + 2 * M.made)
  top : H (ad 0) = some (.dK [(.inr "names", .ref (ad 1)), (.inr "things", .ref (ad 2))])
  nms : ∃ f : Str → V, H (ad 1) = some (.dK (kvL NMS f)) ∧ ∀ n ∈ NMS, LV H (f n) (M.names n)
  ths : H (ad 2) = some (.lst ((List.range M.made).map fun k => .ref (ad (3 + 2 * k))))
  th : ∀ k, k < M.made → ∃ t, M.things k = some t ∧ H (ad (3 + 2 * k)) = some (.dK (ltd t (ad (4 + 2 * k)))) ∧ LHd H (ad (4 + 2 * k)) t
  sm : M.made ≤ 9000
abbrev LF (ad : Nat → Addr) (M : HM) : Addr → Prop := Foot ad (3 + 2 * M.made)
section
variable {K : PySem.W.Frag} {H H' : Hp} {ad : Nat → Addr} {M : HM} {k : Nat} {t t' : Th} {F : Addr → Prop} {n : Str} {a : AV} {v : V} {d x : Addr} {o : HO}
theorem LHd.mono (h : LHd H d t) (hd : ∀ o, H d = some o → H' d = some o) (tp : Tups H H') : LHd H' d t := by
  cases h with
  | row k xs vs e h r => exact .row k xs vs e (hd _ h) (Paired.mapP r fun _ _ z => z.mono tp)
  | oth k kvs h r => exact .oth k kvs (hd _ h) (r.mono fun _ _ z => z.mono tp)
theorem LHd.as (h : LHd H d t) (e1 : t'.kind = t.kind) (e2 : t'.held = t.held) : LHd H d t' := by
  cases h with
  | row k xs vs e h r => exact .row (e1.trans k) xs vs (e2.trans e) h r
  | oth k kvs h r => exact .oth (fun z => k (e1.symm.trans z)) kvs h (by rw [e2]; exact r)
/-- every own object but those of F stays -/
theorem LM.keep (L : LM K H ad M) (hk : ∀ i, i < 3 + 2 * M.made → ∀ o, H (ad i) = some o → notTbl o → H' (ad i) = some o) (tp : Tups H H') : LM K H' ad M := by
  have w := L.own
  have nt : ∀ i, i < 3 + 2 * M.made → ∀ o, H (ad i) = some o → H' (ad i) = some o := fun i hi o e => by
    obtain ⟨u, h, _, t⟩ := w.live i hi
    rw [e] at h
    cases h
    exact hk i hi o e t
  refine ⟨⟨fun i hi => let ⟨o, h, c, t⟩ := w.live i hi; ⟨o, hk i hi o h t, c, t⟩, w.inj⟩, nt 0 (by omega) _ L.top, ?_, nt 2 (by omega) _ L.ths, fun k l => ?_, L.sm⟩
  · obtain ⟨f, h1, h2⟩ := L.nms
    exact ⟨f, nt 1 (by omega) _ h1, fun n m => (h2 n m).mono tp⟩
  · obtain ⟨t, e1, e2, e3⟩ := L.th k l
    exact ⟨t, e1, nt _ (by omega) _ e2, e3.mono (nt _ (by omega)) tp⟩
theorem LM.fr (L : LM K H ad M) (f : Fr K F H H') (dj : ∀ b, LF ad M b → ¬ F b) : LM K H' ad M := L.keep (fun i hi o e t => f.k _ _ e (dj _ ⟨i, hi, rfl⟩) t) f.i
theorem LM.same (L : LM K H ad M) (s : Same H H') : LM K H' ad M := L.keep (fun _ _ o e _ => s _ _ e) (Same.tups s)
theorem LM.get (L : LM K H ad M) (e : M.things k = some t) (l : k < M.made) : H (ad (3 + 2 * k)) = some (.dK (ltd t (ad (4 + 2 * k)))) ∧ LHd H (ad (4 + 2 * k)) t := by
  obtain ⟨t', e1, e2, e3⟩ := L.th k l
  rw [e] at e1
  cases e1
  exact ⟨e2, e3⟩
/-- a name is given -/
theorem LM.hold (L : LM K H ad M) {f : Str → V} (h1 : H (ad 1) = some (.dK (kvL NMS f))) (h2 : ∀ m ∈ NMS, LV H (f m) (M.names m)) (hv : LV H v a) : LM K (upd H (ad 1) (.dK (kvL NMS fun m => if m = n then v else f m))) ad (M.hold n a) := by
  have w := L.own
  have l1 : 1 < 3 + 2 * M.made := by omega
  have tp : Tups H (upd H (ad 1) (.dK (kvL NMS fun m => if m = n then v else f m))) := w.tups l1
  have ne : ∀ i, i < 3 + 2 * M.made → i ≠ 1 → ad i ≠ ad 1 := fun i hi h => w.ne hi l1 h
  refine ⟨w.set l1 trivial trivial, by rw [upd_ne (ne 0 (by omega) (by omega))]; exact L.top, ⟨_, upd_same, fun m hm => ?_⟩, by rw [upd_ne (ne 2 (by omega) (by omega))]; exact L.ths, fun k l => ?_, L.sm⟩
  · show LV _ (if m = n then v else f m) (if m = n then a else M.names m)
    by_cases e : m = n
    · rw [if_pos e, if_pos e]; exact hv.mono tp
    · rw [if_neg e, if_neg e]; exact (h2 m hm).mono tp
  · have l : k < M.made := l
    obtain ⟨t, e1, e2, e3⟩ := L.th k l
    exact ⟨t, e1, by rw [upd_ne (ne _ (by omega) (by omega))]; exact e2, e3.mono (fun o e => by rw [upd_ne (ne _ (by omega) (by omega))]; exact e) tp⟩
/-- a thing's own record is another one of the same kind that holds the same -/
theorem LM.setTh (L : LM K H ad M) (l : k < M.made) (e : M.things k = some t) (e1 : t'.kind = t.kind) (e2 : t'.held = t.held) : LM K (upd H (ad (3 + 2 * k)) (.dK (ltd t' (ad (4 + 2 * k))))) ad (M.setTh k t') := by
  have w := L.own
  have lk : 3 + 2 * k < 3 + 2 * M.made := by omega
  have tp : Tups H (upd H (ad (3 + 2 * k)) (.dK (ltd t' (ad (4 + 2 * k))))) := w.tups lk
  have ne : ∀ i, i < 3 + 2 * M.made → i ≠ 3 + 2 * k → ad i ≠ ad (3 + 2 * k) := fun i hi h => w.ne hi lk h
  refine ⟨w.set lk trivial trivial, by rw [upd_ne (ne 0 (by omega) (by omega))]; exact L.top, ?_, by rw [upd_ne (ne 2 (by omega) (by omega))]; exact L.ths, fun j lj => ?_, L.sm⟩
  · obtain ⟨f, h1, h2⟩ := L.nms
    exact ⟨f, by rw [upd_ne (ne 1 (by omega) (by omega))]; exact h1, fun m hm => (h2 m hm).mono tp⟩
  · have lj : j < M.made := lj
    obtain ⟨u, u1, u2, u3⟩ := L.th j lj
    by_cases ej : j = k
    · subst ej
      rw [e] at u1
      cases u1
      exact ⟨t', by show (if j = j then some t' else _) = _; rw [if_pos rfl], upd_same, (u3.as e1 e2).mono (fun o e => by rw [upd_ne (ne _ (by omega) (by omega))]; exact e) tp⟩
    · exact ⟨u, by show (if j = k then some t' else M.things j) = _; rw [if_neg ej]; exact u1, by rw [upd_ne (ne _ (by omega) (by omega))]; exact u2, u3.mono (fun o e => by rw [upd_ne (ne _ (by omega) (by omega))]; exact e) tp⟩
/-- what a thing holds is another -/
theorem LM.setHeld (L : LM K H ad M) (l : k < M.made) (e : M.things k = some t) {h' : List (Key × AV)} (c : Chg K (some o)) (nt : notTbl o) (hh : LHd (upd H (ad (4 + 2 * k)) o) (ad (4 + 2 * k)) { t with held := h' }) : LM K (upd H (ad (4 + 2 * k)) o) ad (M.setTh k { t with held := h' }) := by
  have w := L.own
  have lk : 4 + 2 * k < 3 + 2 * M.made := by omega
  have tp : Tups H (upd H (ad (4 + 2 * k)) o) := w.tups lk
  have ne : ∀ i, i < 3 + 2 * M.made → i ≠ 4 + 2 * k → ad i ≠ ad (4 + 2 * k) := fun i hi h => w.ne hi lk h
  refine ⟨w.set lk c nt, by rw [upd_ne (ne 0 (by omega) (by omega))]; exact L.top, ?_, by rw [upd_ne (ne 2 (by omega) (by omega))]; exact L.ths, fun j lj => ?_, L.sm⟩
  · obtain ⟨f, h1, h2⟩ := L.nms
    exact ⟨f, by rw [upd_ne (ne 1 (by omega) (by omega))]; exact h1, fun m hm => (h2 m hm).mono tp⟩
  · have lj : j < M.made := lj
    obtain ⟨u, u1, u2, u3⟩ := L.th j lj
    by_cases ej : j = k
    · subst ej
      rw [e] at u1
      cases u1
      exact ⟨_, by show (if j = j then some _ else _) = _; rw [if_pos rfl], by rw [upd_ne (ne _ (by omega) (by omega))]; exact u2, hh⟩
    · exact ⟨u, by show (if j = k then some _ else M.things j) = _; rw [if_neg ej]; exact u1, by rw [upd_ne (ne _ (by omega) (by omega))]; exact u2, u3.mono (fun o e => by rw [upd_ne (ne _ (by omega) (by omega))]; exact e) tp⟩
/-- where the next thing comes to lie -/
def adN (ad : Nat → Addr) (m : Nat) (x d : Addr) : Nat → Addr := fun i => if i = 4 + 2 * m then d else if i = 3 + 2 * m then x else ad i
theorem LM.make (L : LM K H ad M) {kd : Str} (hd : H d = some o) (c : Chg K (some o)) (nt : notTbl o) (fd : ∀ i, i < 3 + 2 * M.made → ad i ≠ d) (hx : H x = none) (hh : LHd H d (newTh kd none)) (sm : M.made < 9000) :
    LM K (upd (upd H x (.dK (ltd (newTh kd none) d))) (ad 2) (.lst (((List.range M.made).map fun k => V.ref (ad (3 + 2 * k))) ++ [.ref x]))) (adN ad M.made x d) (M.mk1 kd none) := by
  have w := L.own
  have dx : d ≠ x := fun z => by rw [z, hx] at hd; cases hd
  have ax : ∀ i, i < 3 + 2 * M.made → ad i ≠ x := fun i hi => w.fresh hi hx
  have na : ∀ i, i < 3 + 2 * M.made → adN ad M.made x d i = ad i := fun i hi => by unfold adN; rw [if_neg (by omega), if_neg (by omega)]
  have n3 : adN ad M.made x d (3 + 2 * M.made) = x := by unfold adN; rw [if_neg (by omega), if_pos rfl]
  have n4 : adN ad M.made x d (4 + 2 * M.made) = d := by unfold adN; rw [if_pos rfl]
  have l2 : 2 < 3 + 2 * M.made := by omega
  have tp : Tups H (upd (upd H x (.dK (ltd (newTh kd none) d))) (ad 2) (.lst (((List.range M.made).map fun k => V.ref (ad (3 + 2 * k))) ++ [.ref x]))) := fun p xs e => by
    rw [upd_ne fun z => ?_, upd_ne (ne_of_none e hx)]; exact e
    rw [z, L.ths] at e
    cases e
  have st : ∀ b u, H b = some u → b ≠ ad 2 → upd (upd H x (.dK (ltd (newTh kd none) d))) (ad 2) (.lst (((List.range M.made).map fun k => V.ref (ad (3 + 2 * k))) ++ [.ref x])) b = some u := fun b u e n => by
    rw [upd_ne n, upd_ne (ne_of_none e hx)]; exact e
  have ne2 : ∀ i, i < 3 + 2 * M.made → i ≠ 2 → ad i ≠ ad 2 := fun i hi h => w.ne hi l2 h
  have mm : (M.mk1 kd none).made = M.made + 1 := rfl
  refine ⟨?_, by rw [na 0 (by omega), na 1 (by omega), na 2 (by omega)]; exact st _ _ L.top (ne2 0 (by omega) (by omega)), ?_, ?_, fun j lj => ?_, by rw [mm]; omega⟩
  · rw [mm]
    refine ⟨fun i hi => ?_, fun i j hi hj e => ?_⟩
    · by_cases i4 : i = 4 + 2 * M.made
      · rw [i4, n4]; exact ⟨o, st _ _ hd (fd 2 l2).symm, c, nt⟩
      · by_cases i3 : i = 3 + 2 * M.made
        · rw [i3, n3]; exact ⟨.dK _, by rw [upd_ne (ax 2 l2).symm, upd_same], trivial, trivial⟩
        · have hi' : i < 3 + 2 * M.made := by omega
          rw [na i hi']
          by_cases i2 : i = 2
          · rw [i2]; exact ⟨.lst _, upd_same, trivial, trivial⟩
          · obtain ⟨u, h, c', t'⟩ := w.live i hi'
            exact ⟨u, st _ _ h (ne2 i hi' i2), c', t'⟩
    · have cs : ∀ i, i < 3 + 2 * (M.made + 1) → i = 4 + 2 * M.made ∨ i = 3 + 2 * M.made ∨ i < 3 + 2 * M.made := fun i hi => by omega
      rcases cs i hi with i1 | i1 | i1 <;> rcases cs j hj with j1 | j1 | j1
      · omega
      · rw [i1, j1, n4, n3] at e; exact absurd e dx
      · rw [i1, n4, na j j1] at e; exact absurd e.symm (fd j j1)
      · rw [i1, j1, n4, n3] at e; exact absurd e.symm dx
      · omega
      · rw [i1, n3, na j j1] at e; exact absurd e.symm (ax j j1)
      · rw [j1, n4, na i i1] at e; exact absurd e (fd i i1)
      · rw [j1, n3, na i i1] at e; exact absurd e (ax i i1)
      · rw [na i i1, na j j1] at e; exact w.inj i j i1 j1 e
  · obtain ⟨f, h1, h2⟩ := L.nms
    rw [na 1 (by omega)]
    exact ⟨f, st _ _ h1 (ne2 1 (by omega) (by omega)), fun m hm => (h2 m hm).mono tp⟩
  · rw [na 2 l2, upd_same, mm, List.range_succ, List.map_append]
    congr 3
    · refine List.map_congr_left fun k hk => ?_
      rw [na _ (by have := List.mem_range.mp hk; omega)]
    · show [V.ref x] = [V.ref (adN ad M.made x d (3 + 2 * M.made))]
      rw [n3]
  · rw [mm] at lj
    by_cases ej : j = M.made
    · subst ej
      refine ⟨_, by show (if M.made = M.made then some _ else _) = _; rw [if_pos rfl], ?_, ?_⟩
      · rw [n3, n4, upd_ne (ax 2 l2).symm, upd_same]
      · rw [n4]
        exact hh.mono (fun u e => st _ _ e (fd 2 l2).symm) tp
    · have lj' : j < M.made := by omega
      obtain ⟨u, u1, u2, u3⟩ := L.th j lj'
      refine ⟨u, by show (if j = M.made then some _ else M.things j) = _; rw [if_neg ej]; exact u1, ?_, ?_⟩
      · rw [na _ (by omega), na _ (by omega)]; exact st _ _ u2 (ne2 _ (by omega) (by omega))
      · rw [na _ (by omega)]
        exact u3.mono (fun o e => st _ _ e (ne2 _ (by omega) (by omega))) tp
end
/-! what the law's own dicts hold -/
section
variable {t : Th} {d : Addr} {x y : V}
theorem vn {a b : Str} {v : V} {l : List (Key × V)} (h : a ≠ b) : valV ((.inr a, v) :: l) (.inr b) = valV l (.inr b) := valV_neg fun z => h (Sum.inr.inj z)
theorem lk_kind : valV (ltd t d) (.inr "kind") = some (.str t.kind) := valV_pos rfl
theorem lk_held : valV (ltd t d) (.inr "held") = some (.ref d) := by unfold ltd; rw [vn (by decide)]; exact valV_pos rfl
theorem lk_sees : valV (ltd t d) (.inr "sees") = some (seesV t.sees) := by unfold ltd; rw [vn (by decide), vn (by decide)]; exact valV_pos rfl
theorem lk_gone : valV (ltd t d) (.inr "gone") = some (.bl t.told) := by unfold ltd; rw [vn (by decide), vn (by decide), vn (by decide)]; exact valV_pos rfl
theorem lk_last : valV (ltd t d) (.inr "last") = some (.str (lastOf t)) := by unfold ltd; rw [vn (by decide), vn (by decide), vn (by decide), vn (by decide)]; exact valV_pos rfl
theorem lk_goal : valV (ltd t d) (.inr "goal") = some (goalV t.goal) := by unfold ltd; rw [vn (by decide), vn (by decide), vn (by decide), vn (by decide), vn (by decide)]; exact valV_pos rfl
theorem lk_names : valV [((.inr "names" : Key), x), ((.inr "things" : Key), y)] (.inr "names") = some x := valV_pos rfl
theorem lk_things : valV [((.inr "names" : Key), x), ((.inr "things" : Key), y)] (.inr "things") = some y := by rw [vn (by decide)]; exact valV_pos rfl
end

/-! ### sorted(d.items(), key=lambda p: p[0]) -/
def keyD : Key → PyData
  | .inl i => .int i
  | .inr s => .str s
def kLe (a b : Key) : Bool := PySem.W.dataLe false keyD a b
def keyLe {α : Type} (a b : Key × α) : Bool := kLe a.1 b.1
def OneSort {α : Type} (kvs : List (Key × α)) : Prop := (∀ p ∈ kvs, ∃ i, p.1 = .inl i) ∨ (∀ p ∈ kvs, ∃ s, p.1 = .inr s)
def rSK (T : List (Addr × Str)) : V → Hp → VK → Prop := fun x H Q => ∃ (p a : Addr) (kvs : List (Key × V)), x = .ref p ∧ H p = some (L2.DX.itemsO p a) ∧ H a = some (.dK kvs) ∧ kvs.length ≤ 9000 ∧ OneSort kvs ∧ LamX.Tabs T H ∧
  ∀ (l : Addr) (ps : List (Addr × Key × V)) (H' : Hp), LamX.ExtN H H' → LamX.Tabs T H' → (∀ o, H l = some o → ∃ qs, o = .tbl qs) → H' l = some (.lst (ps.map fun z => V.ref z.1)) → ps.map (·.2) = kvs.mergeSort keyLe → (∀ z ∈ ps, H' z.1 = some (.tup [kV z.2.1, z.2.2])) → Q (.ref l) H'
section
open PySem.W PySem.Calls PyProof.Rows PyProof.V
theorem alike_int (i j : Int) : alike (.int i) (.int j) = true := by first | rfl | simp [alike]
theorem alike_str (i j : Str) : alike (.str i) (.str j) = true := by first | rfl | simp [alike]
theorem oneSort_alike {α : Type} {kvs : List (Key × α)} (h : OneSort kvs) : AllAlike (kvs.map fun p => keyD p.1) := by
  intro d hd d' hd'
  obtain ⟨p, m, rfl⟩ := List.mem_map.mp hd
  obtain ⟨p', m', rfl⟩ := List.mem_map.mp hd'
  rcases h with h | h
  · obtain ⟨i, e⟩ := h p m
    obtain ⟨j, e'⟩ := h p' m'
    rw [e, e']
    exact alike_int i j
  · obtain ⟨i, e⟩ := h p m
    obtain ⟨j, e'⟩ := h p' m'
    rw [e, e']
    exact alike_str i j
theorem keyD_sortable {α : Type} {kvs : List (Key × α)} : Sortable (kvs.map fun p => keyD p.1) := by
  refine .inr fun d hd => ?_
  obtain ⟨p, m, rfl⟩ := List.mem_map.mp hd
  obtain ⟨k, a⟩ := p
  cases k with
  | inl i => exact ⟨fun z => (by cases z), fun xs z => by cases z⟩
  | inr s => exact ⟨fun z => (by cases z), fun xs z => by cases z⟩
theorem keyD_reads {P : Program} {w : World} {k : Key} {v : Value} {h : Heap} (r : RelV (kV k) v) : Reads h v (keyD k) [] := by
  cases k with
  | inl i => obtain ⟨t, rfl⟩ := (show ∃ t, v = Value.int i t from r); exact .int i t
  | inr s => obtain ⟨t, rfl⟩ := (show ∃ t, v = Value.str s t from r); exact .str s t
theorem keyD_depth (k : Key) : (keyD k).depth = 0 := by cases k <;> rfl
variable {prog : Program} {w : World} {A : Around} {s : Shared}
/-- the lambda, called with a pair -/
theorem lam_turn {f c' b : Addr} {q x : Str} {params : Arguments} {p1 p2 p3 : Pos} {j : Nat} {scope : Scope} {cl : List (Str × Addr)} {pm ctv kv vv : Value} {d : PyData} (hdep : A.depth < recursionLimit)
    (hf : s.heap.get? f = some (kla_obj "<lambda>" q params (.Subscript (.Name x p1) (.Constant (.int 0) j p2) p3) scope cl pm c' ctv)) (hc : s.heap.CodeRec (.ref c') q)
    (hbind : ∀ v, bindArgs (kla_fn "<lambda>" q params (.Subscript (.Name x p1) (.Constant (.int 0) j p2) p3) scope cl pm (.ref c') ctv) ⟨[v], []⟩ = pure [(x, v)])
    (hco : scope.isCoroutine = false) (hgen : scope.isGenerator = false) (hk : scope.kind = .function) (hcell : ∀ y ∈ scope.names, y.2 ≠ .cell) (hl : scope.names.lookup x = some .local)
    (nl : s.heap.NoLimit) (ht : s.heap.get? b = some { cls := .type "tuple", data := .seq #[kv, vv] }) (rd : ∀ h, Reads h kv d []) (hdb : (x == ("__debug__" : Str)) = false) :
    wpAny (model prog w) A (call (.ref f) [.ref b]) (KeyPure d s) (fun _ _ => False) s := by
  refine wpAny_call ?_
  refine kla_callFunE hdep hf rfl hco hgen rfl hc ?_
  rw [hbind]
  refine wpAny_pure (wpAny_newFunctionEnv hcell (fun y hy => by rw [List.mem_singleton] at hy; rw [hy]; exact hl) (fun h₁ hns hsb => ⟨nl.fresh _ hsb, ?_⟩) hk)
  have kp : ∀ b o, s.heap.get? b = some o → h₁.get? b = some o := fun b o e => hsb.extBut b o (Nat.ne_of_lt (Heap.lt_size e)) (Heap.get?_push_of_some _ e)
  refine kla_codeExpr ?_
  have main : ∀ env : Env, env.scope = scope → env.locals = s.heap.objs.size → wpAny (model prog w) (A.deeper env) (eval (.Subscript (.Name x p1) (.Constant (.int 0) j p2) p3) env) (KeyPure d s) (fun _ _ => False) { s with heap := h₁, toks := s.toks + [(x, Value.ref b)].length } := by
    intro env e1 e2
    refine Subscript_ (wpAny_Name (wpAny_loadName_local (m := fun y => [(x, Value.ref b)].reverse.lookup y) (v := .ref b) (by rw [e1]; exact hk) (by show env.scope.names.lookup x = some .local; rw [e1]; exact hl) (by rw [e2]; exact hns) (by simp) (wpAny_Constant_int ?_)) hdb)
    have pl : IsTup h₁ b #[kv, vv] := ⟨_, kp _ _ ht, rfl, _, rfl⟩
    exact subscriptTail_builtinR (x := kv) (pl.typeIs (s := { s with heap := h₁, toks := s.toks + [(x, Value.ref b)].length + 1 })) slot_tuple_getitem.lookup
      (getItem_tuple (j := 0) (Q := fun r s' => r = kv ∧ KeyPure d s r s') pl (by decide) (by decide) rfl rfl ⟨rfl, h₁, _, rfl, kp, rd h₁⟩) rfl
  exact wpAny_mono (main _ rfl rfl) (fun v s' h => h) (fun e s' h => h.elim)
/-- sorted(view, key=f) up to the sort of the pairs -/
theorem sortedIK {r d : Addr} {es : Array DictEntry} {ep : Nat} {f : Value} {E : Value → Shared → Prop} {Q : Value → Shared → Prop} (hh : A.handled = none) (hv : s.heap.IsItemsView r d) (hm : DT.Raw s.heap d es ep) (hn : es.size ≤ sizeLine)
    (h : ∀ (h' : Heap) (tk : Nat) (as : List Addr), (∀ b o, s.heap.get? b = some o → h'.get? b = some o) → s.heap.objs.size < h'.objs.size → as.length = es.size → DT.Made es s.heap.objs.size h' as →
      wpAny (model prog w) A.in1 (call (.builtin "list.sort") [.ref h'.objs.size] [(Str.ofString "key", f)]) (fun _ s' => Q (.ref h'.objs.size) s') E { s with heap := h'.push { cls := .type "list", data := .seq (as.map Value.ref).toArray }, toks := tk }) :
    wpAny (model prog w) A (call (.builtin "sorted") [.ref r] [(Str.ofString "key", f)]) Q E s := by
  refine call_function_entry_kw kind_sorted plain_sorted entry_sorted (ksk_s1 _ _) ?_
  unfold Builtin.«sorted»
  refine wpAny_bind (m := checkCount "sorted" 1 1 _) (wpAny_pure ?_)
  refine wpAny_bind (DT.collectI (A := A.in1) (es := es) (ep := ep) hh hv hm hn fun h' tk as hk hlt hl hG => ?_)
  refine wpAny_bind (wpAny_newList ?_ (by rw [List.length_map, hl]; exact hn))
  have hg := h h' tk as hk hlt hl hG
  refine wpAny_bind (wpAny_holding (wpAny_mono hg (fun _ s' x => ?_) fun _ _ e => e))
  exact wpAny_pure ⟨_, rfl, x⟩
end
section
variable {X : Cx}
theorem keyIs_relV {k : Key} {v : Value} (h : keyIs k v = true) : RelV (kV k) v := by
  rcases keyIs_shape h with ⟨i, t, ek, ev⟩ | ⟨z, t, ek, ev⟩
  · rw [ek, ev]; exact ⟨t, rfl⟩
  · rw [ek, ev]; exact ⟨t, rfl⟩
/-- d.items() -/
def rItemsK : V → List V → Hp → VK → Prop := fun x xs H Q => ∃ (a : Addr) (kvs : List (Key × V)), x = .ref a ∧ xs = [] ∧ H a = some (.dK kvs) ∧ ∀ p, H p = none → Q (.ref p) (upd H p (L2.DX.itemsO p a))
theorem dK_raw {P : Program} {w : World} {H : Hp} {h : Heap} {a : Addr} {kvs : List (Key × V)} (ok : HOk P w H h) (e : H a = some (.dK kvs)) : (a == sysModules) = false ∧ ∃ (es : Array DictEntry) (ep : Nat), DT.Raw h a es ep ∧ es.size = kvs.length ∧
    (kvs.map (·.1)).Nodup ∧ ∀ (j : Nat) (en : DictEntry), es[j]? = some en → ∃ kv, kvs[j]? = some kv ∧ RelV (kV kv.1) en.key ∧ RelV kv.2 en.val := by
  obtain ⟨_, hd, vs, rel, o, es, ep, ho, hx, hdat, hk, hp, hn⟩ := dk_of ok e
  have kk : kvs.map (·.1) = vs.map (·.1) := rel.keys
  refine ⟨hd, es, ep, ⟨o, ho, hx, hdat⟩, ?_, by rw [kk]; exact hn, ?_⟩
  · have l1 := hp.length
    have l2 : kvs.length = vs.length := by have := congrArg List.length kk; rw [List.length_map, List.length_map] at this; exact this
    rw [← Array.length_toList, l1, l2]
  · have gen : ∀ {es : List DictEntry} {vs : List (Key × Value)}, Pairs (mixKind P w) es vs → ∀ {kvs : List (Key × V)}, KV kvs vs → ∀ (j : Nat) (en : DictEntry), es[j]? = some en → ∃ kv, kvs[j]? = some kv ∧ RelV (kV kv.1) en.key ∧ RelV kv.2 en.val := by
      intro es vs hp
      induction hp with
      | nil => intro kvs _ j en h; simp at h
      | cons h1 h2 _ ih =>
        intro kvs r j en h
        cases r with
        | cons r1 r2 =>
          cases j with
          | zero =>
            cases h
            refine ⟨_, rfl, ?_, ?_⟩
            · rw [r1.1]; exact keyIs_relV h1
            · rw [h2]; exact r1.2
          | succ j => exact ih r2 j en h
    intro j en h
    exact gen hp rel j en (by rw [Array.getElem?_toList]; exact h)
theorem mt_itemsK : MtR X "dict.items" rItemsK := by
  intro pins s σ H x xs v us Q I rx rxs h
  obtain ⟨a, kvs, rfl, rfl, ha, q⟩ := h
  cases rx
  cases rxs
  obtain ⟨hd, es, ep, raw, _⟩ := dK_raw I.hok ha
  refine DT.callItems (es := es) (ep := ep) hd raw ?_
  have hf : H s.heap.objs.size = none := I.hok.fresh (Nat.le_refl _)
  exact ⟨.ref s.heap.objs.size, upd H s.heap.objs.size (L2.DX.itemsO s.heap.objs.size a), I.laid (t' := s.toks) (fun b u e => Heap.get?_push_of_some _ e) (Nat.le_refl _) (L2.DX.itemsO_ok (Heap.get?_push_size _ rfl)), rfl, q _ hf⟩
end
section
open PySem.W PySem.Calls PyProof.Rows PyProof.V
variable {X : Cx}
theorem each_out {out : List Value} {zs : List (Addr × Key × V)} (e : EachIs (fun (v : Value) (z : Addr × Key × V) => v = Value.ref z.1) out zs) : out = zs.map fun z => Value.ref z.1 := by
  induction e with
  | nil => rfl
  | cons h _ ih => rw [h, ih]; rfl
theorem each_in : ∀ (zs : List (Addr × Key × V)), EachIs (fun (v : Value) (z : Addr × Key × V) => v = Value.ref z.1) (zs.map fun z => Value.ref z.1) zs
  | [] => .nil
  | z :: zs => .cons rfl (each_in zs)
theorem sort_snd {as : List Addr} {kvs : List (Key × V)} (hl : as.length = kvs.length) : ((as.zip kvs).mergeSort (dataLe false fun z : Addr × Key × V => keyD z.2.1)).map (·.2) = kvs.mergeSort keyLe := by
  have h := List.map_mergeSort (r := dataLe false fun z : Addr × Key × V => keyD z.2.1) (s := (keyLe : Key × V → Key × V → Bool)) (f := (·.2)) (l := as.zip kvs) (fun a _ b _ => rfl)
  rw [h, List.map_snd_zip (by rw [hl]; exact Nat.le_refl _)]
theorem sortKL_run {pins : List (Addr × Obj)} {s : Shared} {σ : L2.St} {H : Hp} (I : Inv X pins σ H s) (hc : X.calm = true) (hr : Room 1 X.A) {f c' p a : Addr} {q x : Str} {params : Arguments} {p1 p2 p3 : Pos} {j : Nat} {scope : Scope} {cl : List (Str × Addr)} {pm ctv : Value}
    (hf : s.heap.get? f = some (kla_obj "<lambda>" q params (.Subscript (.Name x p1) (.Constant (.int 0) j p2) p3) scope cl pm c' ctv)) (hrec : s.heap.CodeRec (.ref c') q)
    (hbind : ∀ v, bindArgs (kla_fn "<lambda>" q params (.Subscript (.Name x p1) (.Constant (.int 0) j p2) p3) scope cl pm (.ref c') ctv) ⟨[v], []⟩ = pure [(x, v)])
    (hco : scope.isCoroutine = false) (hgen : scope.isGenerator = false) (hk : scope.kind = .function) (hcell : ∀ y ∈ scope.names, y.2 ≠ .cell) (hl : scope.names.lookup x = some .local) (hdb : (x == ("__debug__" : Str)) = false)
    {kvs : List (Key × V)} (hp : H p = some (L2.DX.itemsO p a)) (ha : H a = some (.dK kvs)) (h64 : kvs.length ≤ 9000) (ho : OneSort kvs) {Q : VK}
    (qq : ∀ (l : Addr) (ps : List (Addr × Key × V)) (H' : Hp), (∀ b o, H b = some o → H' b = some o) → H l = none → H' l = some (.lst (ps.map fun z => V.ref z.1)) → ps.map (·.2) = kvs.mergeSort keyLe → (∀ z ∈ ps, H' z.1 = some (.tup [kV z.2.1, z.2.2])) → Q (.ref l) H') :
    wpAny (model X.prog X.w) X.A (call (.builtin "sorted") [.ref p] [(Str.ofString "key", .ref f)]) (EP X pins σ Q) X.xe s := by
  have view : s.heap.IsItemsView p a := (show ObjOk X.prog X.w H s.heap p (L2.DX.itemsO p a) from I.hok p _ hp).1
  obtain ⟨hd, es, ep, raw, hsz, nd0, ent⟩ := dK_raw I.hok ha
  refine sortedIK (es := es) (ep := ep) hr.hd view raw (by rw [sizeLine_eq]; omega) fun h' tk as hkk hlt hla hG => ?_
  have lak : as.length = kvs.length := by omega
  have nd : as.Nodup := List.Pairwise.imp (fun h => Nat.ne_of_lt h) hG.rise
  have pr : ∀ (i : Nat) (b : Addr), as[i]? = some b → ∃ (kv : Key × V) (kx vx : Value), kvs[i]? = some kv ∧ RelV (kV kv.1) kx ∧ RelV kv.2 vx ∧ h'.get? b = some { cls := .type "tuple", data := .seq #[kx, vx] } := by
    intro i b hi
    obtain ⟨en, he, hg⟩ := hG.pairs i b hi
    obtain ⟨kv, h1, h2, h3⟩ := ent i en he
    exact ⟨kv, _, _, h1, h2, h3, hg⟩
  have hob : (h'.push { cls := .type "list", data := .seq (as.map Value.ref).toArray }).get? h'.objs.size = some (seqObj "list" (as.map Value.ref).toArray 0) := Heap.get?_push_size _ rfl
  have kb : ∀ b o, s.heap.get? b = some o → (h'.push { cls := .type "list", data := .seq (as.map Value.ref).toArray }).get? b = some o := fun b o e => Heap.get?_push_of_some _ (hkk b o e)
  have ka0 : ∀ b o, h'.get? b = some o → (h'.push { cls := .type "list", data := .seq (as.map Value.ref).toArray }).get? b = some o := fun b o e => Heap.get?_push_of_some _ e
  have ne0 : ∀ b o, h'.get? b = some o → b ≠ h'.objs.size := fun b o e => Nat.ne_of_lt (Heap.lt_size e)
  generalize h'.push { cls := .type "list", data := .seq (as.map Value.ref).toArray } = h2 at hob kb ka0 ⊢
  have zmem : ∀ z ∈ as.zip kvs, ∃ i : Nat, as[i]? = some z.1 ∧ kvs[i]? = some z.2 := fun z hz => by
    obtain ⟨i, hi⟩ := List.mem_iff_getElem?.mp hz
    exact ⟨i, List.getElem?_zip_eq_some.mp hi⟩
  have e1 : (as.zip kvs).map (fun z => Value.ref z.1) = as.map Value.ref := by
    have := congrArg (List.map Value.ref) (List.map_fst_zip (l₁ := as) (l₂ := kvs) (by omega))
    rw [List.map_map] at this
    exact this
  have ein := each_in (as.zip kvs)
  rw [e1] at ein
  have m2 : (as.zip kvs).map (fun z => keyD z.2.1) = kvs.map fun p => keyD p.1 := by
    have := congrArg (List.map fun p : Key × V => keyD p.1) (List.map_snd_zip (l₁ := as) (l₂ := kvs) (by omega))
    rw [List.map_map] at this
    exact this
  have hzl : (as.zip kvs).length = kvs.length := by rw [List.length_zip]; omega
  refine list_sort_key_data (s := { s with heap := h2, toks := tk }) (b := false) (fun z : Addr × Key × V => keyD z.2.1) hob ein (by rw [m2]; exact oneSort_alike ho) (by rw [m2]; exact keyD_sortable) (by rw [hzl, sizeLine_eq]; omega)
    (fun z _ => by rw [keyD_depth]; have := hr.un; show X.A.units + 1 + 1 + 0 < cLine; omega) (ksk_l1 _ _) (ksk_t1 _ _) (fun v z hR hz h tk' kp => ?_) fun out c h'' tk'' kp hD hlen eo => ?_
  · obtain ⟨i, i1, i2⟩ := zmem z hz
    obtain ⟨kv, kx, vx, j1, j2, j3, j4⟩ := pr i _ i1
    obtain rfl : kv = z.2 := Option.some.inj (j1.symm.trans i2)
    rw [hR]
    have up : ∀ b o, s.heap.get? b = some o → h.get? b = some o := fun b o e => kp b o (ne0 _ _ (hkk b o e)) (kb b o e)
    obtain ⟨c0, oc, vs0, tq, hc1, hc2, hc3, hc4⟩ := hrec
    exact lam_turn (s := { s with heap := h, toks := tk' }) (kv := kx) (vv := vx) (by have := hr.dp; show X.A.depth < _; omega) (up _ _ hf) ⟨c0, oc, vs0, tq, hc1, up _ _ hc2, hc3, hc4⟩ hbind hco hgen hk hcell hl (I.nolimit.keeps up) (kp _ _ (ne0 _ _ j4) (ka0 _ _ j4)) (fun h0 => keyD_reads (P := X.prog) (w := X.w) j2) hdb
  · have hout := each_out eo
    show EP X pins σ Q (.ref h'.objs.size) { s with heap := h'', toks := tk'' }
    have ss := sort_snd lak
    have pz := List.mergeSort_perm (as.zip kvs) (dataLe false fun z : Addr × Key × V => keyD z.2.1)
    generalize (as.zip kvs).mergeSort (dataLe false fun z : Addr × Key × V => keyD z.2.1) = zs at hout ss pz
    have idx : ∀ z ∈ zs, ∃ i : Nat, as[i]? = some z.1 ∧ kvs[i]? = some z.2 := fun z hz => zmem z (pz.mem_iff.mp hz)
    have kS : ∀ b o, s.heap.get? b = some o → h''.get? b = some o := fun b o e => kp b o (ne0 _ _ (hkk b o e)) (kb b o e)
    have I1 : Inv X pins σ H { s with heap := h'', toks := tk'' } := I.kept (t' := tk'') kS
    have hn0 : H h'.objs.size = none := I.hok.fresh (Nat.le_of_lt hlt)
    have hlz : (zs.map fun z => V.ref z.1).length ≤ sizeLine := by
      rw [List.length_map, pz.length_eq, hzl, sizeLine_eq]; omega
    have rv : Vals (zs.map fun z => V.ref z.1) out := by
      rw [hout]
      exact vals_maps (fun z : Addr × Key × V => V.ref z.1) (fun z => Value.ref z.1) zs fun _ _ => rfl
    have I2 : Inv X pins σ (upd H h'.objs.size (.lst (zs.map fun z => V.ref z.1))) { s with heap := h'', toks := tk'' } :=
      I1.take (h' := h'') (t' := tk'') (fun b ob _ e => e) (I.fpOk (Nat.le_of_lt hlt) hn0) ⟨hlz, out, c, rv, hD⟩
    obtain ⟨H2, I3, g, qt⟩ := L2.DX.takeT (P := fun b vs => ∃ (i : Nat) (kv : Key × V), as[i]? = some b ∧ kvs[i]? = some kv ∧ vs = [kV kv.1, kv.2]) I as _ I2 nd fun b hb => by
      obtain ⟨i, hi⟩ := List.mem_iff_getElem?.mp hb
      obtain ⟨kv, kx, vx, j1, j2, j3, j4⟩ := pr i b hi
      have hbl : s.heap.objs.size ≤ b := Nat.le_of_lt (hG.above b hb)
      refine ⟨hbl, ?_, [kV kv.1, kv.2], ⟨i, kv, hi, j1, rfl⟩, fun H3 => ⟨(by rw [sizeLine_eq]; show 2 ≤ 16777216; omega), [kx, vx], .cons j2 (.cons j3 .nil), ⟨_, kp _ _ (ne0 _ _ j4) (ka0 _ _ j4), rfl, 0, rfl⟩⟩⟩
      rw [upd_ne (ne0 _ _ j4)]
      exact I.hok.fresh hbl
    have gr : ∀ b o, H b = some o → H2 b = some o := fun b o e => g b o (by rw [upd_ne (ne_of_none e hn0)]; exact e)
    refine ⟨.ref h'.objs.size, H2, I3, rfl, qq h'.objs.size zs H2 gr hn0 (g _ _ upd_same) ss fun z hz => ?_⟩
    obtain ⟨i, i1, i2⟩ := idx z hz
    obtain ⟨vs, ⟨i', kv, j1, j2, ev⟩, hH⟩ := qt z.1 (List.mem_of_getElem? i1)
    have eij : i = i' := (List.getElem?_inj (List.getElem?_eq_some_iff.mp i1).1 nd).mp (i1.trans j1.symm)
    subst eij
    have ee : kv = z.2 := Option.some.inj (j2.symm.trans i2)
    rw [ev, ee] at hH
    exact hH
/-- sorted(o.items(), key=lambda p: p[0]) -/
theorem pe_sortKL {T : List (Addr × Str)} {c P : Addr} {ti : TE} {eo : Expr} {mn : Str} {ap ip : Pos} {sp pos lpos kpos p1 p2 p3 : Pos} {j : Nat} {params : Arguments} {scope : Scope} {x nS : Str} (en : nS = "sorted") (hi : PE X (.Call (.Attribute eo mn ap) [] [] ip) ti) (hc : X.calm = true) (hr : Room 1 X.A) (TB : LamX.TabB X.base X.mg c P) (hcode : X.env.code = .ref c)
    (hmT : (P, X.env.qual ++ "<lambda>") ∈ T) (hun : ∀ p ∈ T, p.1 = P → p.2 = X.env.qual ++ "<lambda>") (hdef : defaultsOf params X.env = ([], []))
    (hbind : ∀ (cl : List (Str × Addr)) (pm cv ctv v : Value), bindArgs (kla_fn "<lambda>" (X.env.qual ++ "<lambda>") params (.Subscript (.Name x p1) (.Constant (.int 0) j p2) p3) scope cl pm cv ctv) ⟨[v], []⟩ = pure [(x, v)])
    (hco : scope.isCoroutine = false) (hgen : scope.isGenerator = false) (hk : scope.kind = .function) (hcell : ∀ y ∈ scope.names, y.2 ≠ .cell) (hfree : ∀ y ∈ scope.names, y.2 ≠ .free) (hl : scope.names.lookup x = some .local) (hdb : (x == ("__debug__" : Str)) = false)
    (hg : Gl X nS) (hm : X.mg nS = none) (hv : bootBuiltins nS = some (.builtin "sorted")) :
    PE X (.Call (.Name nS sp) [.Call (.Attribute eo mn ap) [] [] ip] [⟨some (Str.ofString "key"), .Lambda params (.Subscript (.Name x p1) (.Constant (.int 0) j p2) p3) scope lpos, kpos⟩] pos) (fun σ H Q => ti σ H fun y H1 => rSK T y H1 Q) := by
  subst en
  refine ⟨fun pins s σ H Q I h => ?_⟩
  refine wpAny_Call_Name_kw (ld_blt I hg hm hv ?_ (by decide) (by decide))
  refine PyProof.Rows.callWith_kw (thn ((pa_cons hi pa_nil).run pos pins s σ H (fun xs H1 => match xs with | [y] => rSK T y H1 Q | _ => False) I h) fun us s1 ⟨vs, H1, I1, r1, q1⟩ => ?_) rfl rfl rfl rfl
  match vs, r1, q1 with
  | [], _, q1 => exact q1.elim
  | _ :: _ :: _, _, q1 => exact q1.elim
  | [y], r1, q1 =>
    obtain ⟨p, a, kvs, rfl, hp, ha, h64, ho, hT, qq⟩ := (show rSK T y H1 Q from q1)
    obtain rfl := Vals.ref1 r1
    show wpAny _ _ (evalAll ((do let v ← eval (.Lambda params (.Subscript (.Name x p1) (.Constant (.int 0) j p2) p3) scope lpos) X.env; standAt pos; pure v) :: [])) _ _ s1
    refine wpAny_evalAll_cons (wpAny_bind (LamX.lam_make2 I1 TB hcode hmT hun hT hdef (fun y hy e => absurd e (hfree y hy)) fun f c' pm ctv H2 s2 I2 hE hT2 hf hfn hfr hco' => wpAny_bind (wpAny_standAt (wpAny_pure ?_))))
    refine wpAny_evalAll_nil ?_
    obtain ⟨⟨oc, vs, t, e1, e2, e3⟩, _, _⟩ := I2.hok c' _ hco'
    have hp2 : H2 p = some (L2.DX.itemsO p a) := hE _ _ hp fun ps z => by unfold L2.DX.itemsO at z; cases z
    have ha2 : H2 a = some (.dK kvs) := hE _ _ ha fun ps z => by cases z
    refine sortKL_run I2 hc hr hf ⟨c', oc, vs, t, rfl, e1, e2, e3⟩ (fun v => hbind _ _ _ _ v) hco hgen hk hcell hl hdb hp2 ha2 h64 ho fun l ps H' sub hn hl1 hs ht => ?_
    refine qq l ps H' (hE.trans (LamX.ExtN.of sub)) (hT2.ext sub) (fun o e => ?_) hl1 hs ht
    cases o with
    | tbl qs => exact ⟨qs, rfl⟩
    | _ =>
      rw [hE _ _ e (fun ps z => by cases z)] at hn
      cases hn
end

/-! ### an expression by one of two rules -/
section
variable {X : Cx} {e : Expr} {t u : TE} {tt tu : TT} {σ : L2.St} {H : Hp} {Q : VK} {QB : Bool → Hp → Prop}
def tEi (t u : TE) : TE := fun σ H Q => t σ H Q ∨ u σ H Q
def tEiT (t u : TT) : TT := fun σ H Q => t σ H Q ∨ u σ H Q
theorem pe_ei (h1 : PE X e t) (h2 : PE X e u) : PE X e (tEi t u) := ⟨fun pins s σ H Q I h => h.elim (h1.run pins s σ H Q I) (h2.run pins s σ H Q I)⟩
theorem pt_ei (h1 : PT X e tt) (h2 : PT X e tu) : PT X e (tEiT tt tu) := ⟨fun pins s σ H Q I h => h.elim (h1.run pins s σ H Q I) (h2.run pins s σ H Q I)⟩
theorem x_e1 (h : t σ H Q) : tEi t u σ H Q := .inl h
theorem x_e2 (h : u σ H Q) : tEi t u σ H Q := .inr h
theorem x_t1 (h : tt σ H QB) : tEiT tt tu σ H QB := .inl h
theorem x_t2 (h : tu σ H QB) : tEiT tt tu σ H QB := .inr h
end
/-- a def of the module that makes lambdas: its code object is known -/
theorem cal_of_code {P : Program} {w : World} {K : PySem.W.Frag} {mg : Str → Option Value} {base : Heap} {x : Str} {st : Stmt} {fd : FuncData} {N ps : List Str} {k : Nat} {sp : Sp} (F : FunD K x x (fnArgs st) (fnBody st) (fnScope st) [] [] (He.ga K x) fd) (hm : mg x = some (.ref (He.ga K x))) (S : FnScope N ps (fnScope st)) (hb : Binds K fd ps [])
    (len : ∀ vs H Q E, sp vs H Q E → vs.length = ps.length)
    (hbody : ∀ (cdv : Value) (A : Around) (outer : List Env) (s : Shared) (H : Hp) (vs : List V) (Q : VK) (E : XK), cdv = .ref (He.cT K (x, none)).1 → Room k (A.deeper (envOfC x (fnScope st) s.heap.objs.size (He.ga K x) cdv)) → sp vs H Q E →
      ∃ t, PSs (cxOf C8.CX0 P w K mg base N x (fnScope st) (He.ga K x) cdv A outer s H E).nox (fnBody st) t ∧ t ⟨fun _ H' => Q .non H', Q, fun _ _ => False, fun _ _ => False⟩ (start N vs) H) : Cal P w K mg base (k + 1) x sp [] := by
  obtain ⟨oc, od, dV, kV, doc, pm, an, cdv, ct, osl, rfl, lk, hcd, h1, h2⟩ := F.ex
  have F' := F
  obtain ⟨c, rfl⟩ := He.codeIn_ref hcd
  have ec : He.codeOf K (x, none) = c := He.codeOf_eq (K := K) (p := (x, none)) lk rfl
  refine ⟨_, _, ps, [], fn_of lk hcd S len fun A outer s H vs Q E hr hsp => ?_, hm, F.kp, hb, .nil⟩
  obtain ⟨t, h1, h2⟩ := hbody (.ref c) A outer s H vs Q E (by rw [← ec]; rfl) hr hsp
  exact ⟨t, h1.nox, h2⟩
/-! ### sorted(d), ints, any number of them -/
section
open PySem.W PySem.Calls PyProof.Rows PyProof.V
variable {X : Cx}
theorem call_sortedDN (hcalm : X.calm = true) : CallR X (.builtin "sorted") (fun xs H Q => ∃ (a : Addr) (kvs : List (Key × V)) (ks : List Int), xs = [.ref a] ∧ Rd H a (.dK kvs) ∧ kvs.map (·.1) = ks.map Sum.inl ∧
    ∀ (ys : List Int) (p : Addr), ys.Perm ks → ys.Pairwise (· ≤ ·) → H p = none → Q (.ref p) (upd H p (.lst (ys.map V.int)))) := by
  intro pins s σ H xs us Q I r q
  obtain ⟨a, kvs, ks, ex, hd, hks, q⟩ := q
  subst ex
  obtain ⟨u, eu, rx⟩ := vals1 r
  subst eu
  cases rx
  obtain ⟨z, lo, vs, rel, dd⟩ := dk_rd I.hok hd
  obtain ⟨ep, hat⟩ := dd.dictAt
  have hkeys : vs.map (·.1) = ks.map Sum.inl := rel.keys.symm.trans hks
  have hl : vs.length = ks.length := by
    have e := congrArg List.length hkeys
    rw [List.length_map, List.length_map] at e
    exact e
  have hkl : kvs.length = ks.length := by
    have e := congrArg List.length hks
    rw [List.length_map, List.length_map] at e
    exact e
  have h16 : vs.length ≤ sizeLine := by rw [hl, ← hkl]; exact z
  refine Calls.call_function_entry PyProof.Rows.kind_sorted PyProof.Rows.plain_sorted PyProof.Rows.entry_sorted (PyProof.Rows.args_sorted1 _) ?_
  unfold Builtin.«sorted»
  refine wpAny_bind (m := checkCount "sorted" 1 1 _) (wpAny_pure ?_)
  refine wpAny_bind (PySem.W.kdu_collect (A := X.A.in1) (PySem.W.kdl_dict (knd := mixKind X.prog X.w) (kvs := vs) (ep := ep) lo) (I.ok.hd hcalm) hat h16 fun h' tk acc hk hacc => ?_)
  have hal : acc.toList.length = ks.length := by rw [Array.length_toList, hacc.1, hl]
  have hS : IntsAre acc.toList ks := ints_each hal fun j v e => by
    obtain ⟨k, x, e1, e2⟩ := hacc.2 j v (by rw [← Array.getElem?_toList]; exact e)
    have e3 : (vs.map (·.1))[j]? = some k := by rw [List.getElem?_map, e1]; rfl
    rw [hkeys, List.getElem?_map] at e3
    cases e4 : ks[j]? with
    | none => rw [e4] at e3; cases e3
    | some y =>
      rw [e4] at e3
      have e5 : Sum.inl y = k := Option.some.inj e3
      subst e5
      rcases keyIs_shape (show keyIs (Sum.inl y) v = true from e2) with ⟨i, t, ek, ev⟩ | ⟨z, t, ek, ev⟩
      · cases ek
        exact ⟨y, t, rfl, ev⟩
      · cases ek
  have I1 : Inv X pins σ H { s with heap := h', toks := tk } := I.kept hk
  have hlz : acc.toList.length ≤ sizeLine := by rw [hal, ← hkl]; exact z
  refine wpAny_bind (wpAny_newList ?_ hlz)
  have hoL : (h'.push (seqObj "list" acc.toList.toArray 0)).get? h'.objs.size = some (seqObj "list" acc.toList.toArray 0) := Heap.get?_push_size _ rfl
  show wpAny _ _ _ _ _ { s with heap := h'.push (seqObj "list" acc.toList.toArray 0), toks := tk }
  refine wpAny_bind (wpAny_holding (wpAny_call_entry PyProof.Rows.slot_list_sort ⟨_, hoL, rfl⟩ PyProof.Rows.entry_list_sort
    (SrtO.list_sort_ord (s := { s with heap := h'.push (seqObj "list" acc.toList.toArray 0), toks := tk }) SrtO.swo_int hoL hlz (fun h2 => SrtO.ints_sortable hS h2) fun out h1 h2 => ⟨_, rfl, ?_⟩) (PyProof.Rows.args_list_sort _)))
  obtain ⟨g1, g2, g3⟩ := SrtO.ints_out hS h1 h2
  obtain ⟨e', he'⟩ := PyProof.Rows.sortedHeap_at (vs := acc.toList) (out := out.toArray) hoL
  have hlen : ((out.map SrtO.iv).map V.int).length ≤ sizeLine := by
    rw [List.length_map, g2.length_eq, ← hkl]
    exact z
  refine wpAny_pure ⟨_, rfl, .ref h'.objs.size, upd H h'.objs.size (.lst ((out.map SrtO.iv).map V.int)), I1.laid (t' := tk) (fun b u e => ?_) (Nat.le_refl _)
    (show ObjOk X.prog X.w _ _ _ (.lst ((out.map SrtO.iv).map V.int)) from ⟨hlen, out, e', vals_of_ints g1, he'⟩), rfl, q _ _ g2 g3 (I1.hok.fresh (Nat.le_refl _))⟩
  have hb : b < h'.objs.size := Heap.lt_size e
  rw [PyProof.Rows.sortedHeap_old (Nat.ne_of_lt hb) (by rw [size_push']; exact Nat.lt_succ_of_lt hb)]
  exact Heap.get?_push_of_some _ e
end
def tEiS (t u : TS) : TS := fun D σ H => t D σ H ∨ u D σ H
theorem ps_ei {X : Cx} {st : Stmt} {t u : TS} (h1 : PS X st t) (h2 : PS X st u) : PS X st (tEiS t u) := ⟨fun pins s σ H D I h => h.elim (h1.run pins s σ H D I) (h2.run pins s σ H D I)⟩
theorem x_s1 {t u : TS} {D : Ends} {σ : L2.St} {H : Hp} (h : t D σ H) : tEiS t u D σ H := .inl h
theorem x_s2 {t u : TS} {D : Ends} {σ : L2.St} {H : Hp} (h : u D σ H) : tEiS t u D σ H := .inr h
section
variable {σ : L2.St} {H : Hp} {Q : VK} {i : Int} {te : L2.St → Hp → (Int → Int → Hp → Prop) → Prop} {ta : TE} {QR : Int → Int → Hp → Prop} {A B : Prop}
theorem x_lr (h : te σ H fun a b H1 => RgOk a b ∧ ∀ q, H1 q = none → Q (.ref q) (upd H1 q (.lst (rgV a b)))) : tLstRg te σ H Q := h
theorem x_r1 (h : ta σ H fun x H1 => ∃ n, x = .int n ∧ QR 0 n H1) : tRg1 ta σ H QR := h
theorem y_r1 {R : Int → Prop} (h : R i) : ∃ n, V.int i = .int n ∧ R n := ⟨i, rfl, h⟩
theorem y_tt (h : A) : if true = true then A else B := by rw [if_pos rfl]; exact h
theorem y_nt (h : B) : if (!true) = true then A else B := by rw [if_neg (by decide)]; exact h
theorem y_nf (h : A) : if (!false) = true then A else B := by rw [if_pos (by decide)]; exact h
theorem y_nn (h : B) : V.non = V.non ∧ B := ⟨rfl, h⟩
theorem y_ff (h : B) : if false = true then A else B := by rw [if_neg Bool.false_ne_true]; exact h
end
theorem paired_of {α β : Type} {F : α → β → Prop} : ∀ {l1 : List α} {l2 : List β}, l1.length = l2.length → (∀ (m : Nat) a b, l1[m]? = some a → l2[m]? = some b → F a b) → Paired F l1 l2
  | [], [], _, _ => .nil
  | [], _ :: _, h, _ => by simp at h
  | _ :: _, [], h, _ => by simp at h
  | a :: l1, b :: l2, h, f => .cons (f 0 a b rfl rfl) (paired_of (by simpa using h) fun m x y e1 e2 => f (m + 1) x y (by simpa using e1) (by simpa using e2))
theorem valV_none {l : List (Key × V)} {k : Key} (h : k ∉ l.map (·.1)) : valV l k = none := by
  induction l with
  | nil => rfl
  | cons p l ih =>
    rw [List.map_cons, List.mem_cons] at h
    rw [valV_neg fun z => h (.inl z.symm)]
    exact ih fun z => h (.inr z)
theorem mergeK_app : ∀ {more kvs : List (Key × V)}, ((kvs ++ more).map (·.1)).Nodup → mergeK kvs more = kvs ++ more
  | [], kvs, _ => by simp [mergeK]
  | p :: more, kvs, h => by
    have h1 : valV kvs p.1 = none := valV_none fun m => by
      rw [List.map_append, List.nodup_append] at h
      exact h.2.2 _ m _ (List.mem_cons_self ..) rfl
    show mergeK (putK kvs p.1 p.2) more = kvs ++ p :: more
    rw [putK_new _ h1, mergeK_app (by rw [List.append_assoc]; exact h), List.append_assoc]
    rfl
theorem mergeK_nd {kvs : List (Key × V)} (h : (kvs.map (·.1)).Nodup) : mergeK [] kvs = kvs := mergeK_app (kvs := []) h
section
variable {σ : L2.St} {H : Hp} {Q : VK} {trs r : List (TE × TE)} {tk tv : TE} {QP : List (V × V) → Hp → Prop} {p : Addr} {v : V} {z : Str} {l : List Str} {i n : Nat} {N : List Str} {K : PySem.W.Frag}
theorem x_disp (h : ∀ p, H p = none → tPairs trs σ (upd H p (.dK [])) fun ps H2 => H2 p = some (.dK []) ∧ ∃ kvs : List (Key × V), ps = kvs.map (fun kv => (kV kv.1, kv.2)) ∧ kvs.length ≤ 15 ∧ Q (.ref p) (upd H2 p (.dK (mergeK [] kvs)))) : tDisp trs σ H Q := h
theorem x_pp (h : tk σ H fun x H1 => tv σ H1 fun y H2 => tPairs r σ H2 fun ps H3 => QP ((x, y) :: ps) H3) : tPairs ((tk, tv) :: r) σ H QP := h
theorem x_pp0 (h : QP [] H) : tPairs [] σ H QP := h
/-- [(x, v) for x in z], z a text of signs that differ -/
theorem y_listNm {vs : List Nat} (hv : vs = [i]) (hz : z.cps.toList.map (fun k => (⟨#[k]⟩ : Str)) = l) (hl : l.length ≤ 100) (hi : i < σ.length) (hs : σ = σ.set i none) (hw : ∀ x, ((σ.set i (some x)).set i none) = σ.set i none)
    (q : ∀ (D : Addr) (ps : List Addr) (H' : Hp), Same H H' → H' D = some (.lst (ps.map V.ref)) → Paired (fun (p : Addr) (kv : Key × V) => SqT K H' p [kV kv.1, kv.2]) ps (kvL l fun _ => v) → Q (.ref D) H') :
    rLc (gName i) tYes (tTup (tCons (tVar i) (tCons (tC v) tNil))) vs Q (Its z) σ H := by
  subst hv
  have ez : z.cps.size = l.length := by rw [← hz, List.length_map, Array.length_toList]
  have eg : ∀ (j k : Nat), z.cps[j]? = some k → l[j]? = some ⟨#[k]⟩ := fun j k e => by rw [← hz, List.getElem?_map, Array.getElem?_toList, e]; rfl
  refine y_lcS (z := z) (fun D j acc H' => Same H H' ∧ D ≠ D + 1 ∧ ∃ ps : List Addr, acc = ps.map V.ref ∧ ps.length = j ∧ ∀ (m : Nat) (p : Addr), ps[m]? = some p → ∃ s : Str, l[m]? = some s ∧ H' p = some (.tup [.str s, v])) (fun D hD => ⟨Same.new hD, Nat.ne_of_lt (Nat.lt_succ_self D), [], rfl, rfl, fun m p e => by simp at e⟩) ?_ ?_
  · rintro D j k acc H' hD hk hDl hle ⟨sm, _, ps, rfl, hpl, hps⟩
    refine y_turn ?_
    refine x_name ?_
    refine ⟨?_, ?_⟩
    · show ((wipe σ [i]).set i (some (V.str ⟨#[k]⟩))).set i none = σ.set i none
      show ((σ.set i none).set i (some (V.str ⟨#[k]⟩))).set i none = σ.set i none
      rw [← hs]
      exact (hw _).trans hs.symm
    · refine y_yes (y_tt ?_)
      refine x_tup (x_cons ?_)
      refine x_var (v := .str ⟨#[k]⟩) ?_ (x_cons (x_c (x_nil ⟨?_, fun p hp => ?_⟩)))
      · show ((σ.set i none).set i (some (V.str ⟨#[k]⟩)))[i]? = _
        rw [← hs]
        simp [hi]
      · exact Nat.le_of_lt (small9000 (by show 2 ≤ 9000; omega))
      · have np : D ≠ p := fun z => by rw [← z, hDl] at hp; cases hp
        refine y_put (by rw [upd_ne np]; exact hDl) hle (by have := (Array.getElem?_eq_some_iff.mp hk).1; omega) ?_
        refine ⟨fun b u e => ?_, Nat.ne_of_lt (Nat.lt_succ_self D), ps ++ [p], by rw [List.map_append]; rfl, by rw [List.length_append, hpl]; rfl, fun m p' e => ?_⟩
        · rw [upd_ne fun z => by rw [z, hD] at e; cases e]
          exact Same.new hp _ _ (sm _ _ e)
        · by_cases em : m < ps.length
          · rw [List.getElem?_append_left em] at e
            obtain ⟨s, e1, e2⟩ := hps m p' e
            exact ⟨s, e1, by rw [upd_ne fun z => by rw [z, hDl] at e2; cases e2]; exact Same.new hp _ _ e2⟩
          · have em2 : m = ps.length := by
              have := (List.getElem?_eq_some_iff.mp e).1
              rw [List.length_append, List.length_singleton] at this
              omega
            subst em2
            rw [List.getElem?_append_right (Nat.le_refl _), Nat.sub_self] at e
            cases e
            rw [hpl]
            exact ⟨_, eg j k hk, by rw [upd_ne np.symm, upd_same]⟩
  · rintro D acc H' hD hDl ⟨sm, _, ps, rfl, hpl, hps⟩
    refine q D ps H' sm hDl (paired_of (by unfold kvL; rw [List.length_map, hpl, ez]) fun m p kv e1 e2 => ?_)
    obtain ⟨s, e3, e4⟩ := hps m p e1
    unfold kvL at e2
    rw [List.getElem?_map, e3] at e2
    cases e2
    exact sqT e4
theorem merge_kvL {f : Str → V} (nd : l.Nodup) : mergeK [] (kvL l f) = kvL l f := mergeK_nd (by unfold kvL; rw [List.map_map]; exact (List.pairwise_map.mpr (nd.imp fun h e => h (Sum.inr.inj e))))
theorem y_dP {D : Addr} {ps : List Addr} {R : Addr → List (Key × V) → Prop} (h1 : H D = some (.lst (ps.map V.ref))) (h2 : Paired (fun (p : Addr) (kv : Key × V) => SqT K H p [kV kv.1, kv.2]) ps (kvL l fun _ => v))
    (q : ∀ p, H p = none → R p (kvL l fun _ => v)) : ∃ a ps kvs, [V.ref D] = [V.ref a] ∧ SqL K H a (List.map V.ref ps) ∧ Paired (fun (p : Addr) (kv : Key × V) => SqT K H p [kV kv.1, kv.2]) ps kvs ∧ ∀ (p : Addr), H p = none → R p kvs :=
  ⟨D, ps, _, rfl, sqL h1, h2, q⟩
end
/-! rules whose reading names the written part, for a block's context -/
section
variable {X : Cx} {K : PySem.W.Frag}
theorem ix_listK (h : X.K = K) : IxR X (rIxL K) := h ▸ ix_list
theorem ix_tupK (h : X.K = K) : IxR X (rIxT K) := h ▸ ix_tup
theorem call_isiK (h : X.K = K) : CallR X (.builtin "isinstance") (rIsi K) := h ▸ call_isi
theorem op_in_seqK (h : X.K = K) : OpR X (compareOp .In) (rIn K false) := h ▸ op_in_seq
theorem op_notIn_seqK (h : X.K = K) : OpR X (compareOp .NotIn) (rIn K true) := h ▸ op_notIn_seq
theorem pe_fldK {ta : TE} {o : Expr} {f : Str} {apos : Pos} (h : X.K = K) (p : PE X (.Attribute o f apos) (tFld X.K ta f)) : PE X (.Attribute o f apos) (tFld K ta f) := h ▸ p
theorem pg_tupK {es : List Expr} {k n : Nat} {t : TGs} {pos : Pos} (hK : X.K = K) (hc : X.calm = true) (h : PGs X es t) (hn : (assignEach es X.env).length = n := by rfl) (hst : (assignEach es X.env).findIdx? (·.1) = none := by rfl) : PG X (.Tuple es k pos) (gTup K n t) := hK ▸ pg_tup hc h hn hst
theorem call_len_seqK (h : X.K = K) : CallR X (.builtin "len") (fun xs H Q => ∃ p ys, xs = [V.ref p] ∧ (SqL K H p ys ∨ SqT K H p ys) ∧ Q (V.int ys.length) H) := h ▸ call_len_seq
end
section
variable {σ : L2.St} {H : Hp} {Q : VK} {td ty tx : TE}
theorem x_dpop1 (h : td σ H fun x H1 => ∃ a, x = .ref a ∧ IsD H1 a ∧ ty σ H1 fun y H2 => ∃ kvs k v, H2 a = some (.dK kvs) ∧ y = kV k ∧ valV kvs k = some v ∧ Q v (upd H2 a (.dK (dropK kvs k)))) : tDPop1 td ty σ H Q := h
theorem x_dget1 (h : td σ H fun x H1 => ∃ a, x = .ref a ∧ IsD H1 a ∧ ty σ H1 fun y H2 => ∃ o, DGet H2 a y o ∧ Q (o.getD .non) H2) : tDGet1 td ty σ H Q := h
theorem y_isD {a : Addr} {kvs : List (Key × V)} {R : Addr → Prop} (h : H a = some (.dK kvs)) (q : R a) : ∃ b, V.ref a = .ref b ∧ IsD H b ∧ R b := ⟨a, rfl, .inl ⟨kvs, .inl h⟩, q⟩
end
theorem paired_getR {α β : Type} {G : α → β → Prop} : ∀ {l1 : List α} {l2 : List β}, Paired G l1 l2 → ∀ {i : Nat} {b : β}, l2[i]? = some b → ∃ a, l1[i]? = some a ∧ G a b
  | _, _, .nil, i, b, e => by simp at e
  | _, _, .cons h r, 0, b, e => by
    simp at e
    subst e
    exact ⟨_, rfl, h⟩
  | _, _, .cons h r, i + 1, b, e => by
    obtain ⟨a, e1, e2⟩ := paired_getR r (i := i) (b := b) (by simpa using e)
    exact ⟨a, by simpa using e1, e2⟩

section
variable {P : Program} {w : World} {K : PySem.W.Frag} {mg : Str → Option Value} {base : Heap}
def flat4 : V → Bool
  | .non => true
  | .int _ => true
  | .str _ => true
  | .bl _ => true
  | _ => false
/-- two values that say the same, so deep -/
def AL (H : Hp) : Nat → V → V → Prop
  | 0, x, y => x = y ∧ flat4 x = true
  | n + 1, x, y => (x = y ∧ flat4 x = true) ∨ ∃ p q xs ys, x = .ref p ∧ y = .ref q ∧ ((H p = some (.tup xs) ∧ H q = some (.tup ys)) ∨ (H p = some (.lst xs) ∧ H q = some (.lst ys))) ∧ xs.length ≤ 9000 ∧ Paired (AL H n) xs ys
theorem AL.same : ∀ {n : Nat} {H H' : Hp} {x y : V}, AL H n x y → Same H H' → AL H' n x y
  | 0, _, _, _, _, h, s => h
  | n + 1, _, _, _, _, h, s => by
    rcases h with h | ⟨p, q, xs, ys, e1, e2, h, l, r⟩
    · exact .inl h
    · exact .inr ⟨p, q, xs, ys, e1, e2, h.imp (fun z => ⟨s _ _ z.1, s _ _ z.2⟩) (fun z => ⟨s _ _ z.1, s _ _ z.2⟩), l, Paired.mapP r fun _ _ z => AL.same z s⟩
theorem AL.cases {H : Hp} {n : Nat} {x y : V} (h : AL H n x y) : (x = y ∧ flat4 x = true) ∨ ∃ m, n = m + 1 ∧ ∃ p q xs ys, x = .ref p ∧ y = .ref q ∧ ((H p = some (.tup xs) ∧ H q = some (.tup ys)) ∨ (H p = some (.lst xs) ∧ H q = some (.lst ys))) ∧ xs.length ≤ 9000 ∧ Paired (AL H m) xs ys := by
  cases n with
  | zero => exact .inl h
  | succ m => exact h.imp id fun z => ⟨m, rfl, z⟩
abbrev spAlike (n : Nat) : Sp := Sp2 fun x y H Q => AL H n x y ∧ ∀ H', Same H H' → Q (.bl true) H'
theorem y_isi2 {H : Hp} {Q : VK} {x : V} {t : Value} {c : String} {b : Bool} (h : TyX K H x t) (e : PySem.W.kitOne K t (.type c) = some b) (q : Q (.bl b) H) : rIsi K [x, .ty c] H Q := ⟨x, _, t, _, b, rfl, .ty c, h, e, q⟩
theorem y_isiT2 {H : Hp} {Q : VK} {x : V} {t : Value} {p : Addr} {b : Bool} (hp : H p = some (.tup [.ty "tuple", .ty "list"])) (h : TyX K H x t) (e : PySem.W.kitAny K t [.type "tuple", .type "list"] = some b) (q : Q (.bl b) H) : rIsiT K [x, .ref p] H Q :=
  ⟨x, p, _, t, _, b, rfl, hp, .cons (.ty _) (.cons (.ty _) .nil), h, e, q⟩
end

section
variable {P : Program} {w : World} {K : PySem.W.Frag} {mg : Str → Option Value} {base : Heap}
/-- a part of a deed, flat -/
abbrev spNameQ : Sp := Sp1 fun x H Q => ∃ n : Str, x = .str n ∧ n ∈ NMS ∧ Q (.bl true) H
abbrev spNumQ : Sp := Sp2 fun x y H Q => ∃ m : Int, y = .int m ∧ ((∃ i : Int, x = .int i ∧ 0 ≤ i ∧ i ≤ m ∧ Q (.bl true) H) ∨ (∃ z : Str, x = .str z ∧ Q (.bl false) H))
abbrev spPartQ : Sp := Sp1 fun x H Q => ∃ p : Key, x = kV p ∧ GoodP p ∧ Q (.bl true) H
theorem len_nm : ∀ n ∈ NMS, n.length = 1 ∧ n.length ≤ sizeLine := by
  have h : ∀ n ∈ NMS, n.length = 1 := by decide +kernel
  exact fun n m => ⟨h n m, by rw [h n m, sizeLine_eq]; decide⟩
theorem len_lt : ∀ n ∈ LTS, n.length = 1 ∧ n.length ≤ sizeLine := by
  have h : ∀ n ∈ LTS, n.length = 1 := by decide +kernel
  exact fun n m => ⟨h n m, by rw [h n m, sizeLine_eq]; decide⟩
theorem nm_chr {n : Str} (h : n ∈ NMS) : ∃ c, n = ⟨#[c]⟩ ∧ c ∈ ("pqrstuvw" : Str).cps.toList := by
  have e : NMS = ("pqrstuvw" : Str).cps.toList.map (fun k => (⟨#[k]⟩ : Str)) := by decide +kernel
  rw [e] at h
  obtain ⟨c, hc, e⟩ := List.mem_map.mp h
  exact ⟨c, e.symm, hc⟩
theorem lt_chr {n : Str} (h : n ∈ LTS) : ∃ c, n = ⟨#[c]⟩ ∧ c ∈ ("abcd" : Str).cps.toList := by
  have e : LTS = ("abcd" : Str).cps.toList.map (fun k => (⟨#[k]⟩ : Str)) := by decide +kernel
  rw [e] at h
  obtain ⟨c, hc, e⟩ := List.mem_map.mp h
  exact ⟨c, e.symm, hc⟩
theorem cal_is_name (T : Tx w K mg base) : Cal P w K mg base 1 "is_name" spNameQ [] := by
  obtain ⟨fd, F⟩ := T.fn_is_name
  refine cal_of F T.g_is_name sc_is_name (F.bindsN fun _ _ _ _ _ _ us hl => match us, hl with | [_], _ => rfl) (fun vs H Q E h => h.len) (fun cdv A outer s H vs Q E hr h => ?_)
  obtain ⟨x, rfl, n, rfl, hn, q⟩ := h
  have hu := hu_of hr
  have nd := sc_is_name.nd
  refine ⟨_, (pss_one (ps_ret (pe_and (pe_callB call_isi (by rfl) T.n_isinstance (by decide +kernel) (pa_cons (pv 0) (pa_cons (pe_bltn (by rfl) T.n_str (by decide +kernel) (v := .ty "str") rfl) pa_nil))) (pe_and (pe_cmpR op_eq (pe_callB call_len_str (by rfl) T.n_len PySem.boot_len (pa_cons (pv 0) pa_nil)) pe_int (nomark _)) (pe_one (pe_cmpR op_in_sign (pv 0) (pe_gc rfl T.k_NAMES) (by rfl))))))), ?_⟩
  walk_at "st"
  refine y_isi2 (.base (.str n)) (b := true) rfl ?_
  walk_at "rd"
  refine ⟨n, rfl, (len_nm n hn).2, ?_⟩
  walk_at "rd"
  refine y_T (by rw [(len_nm n hn).1]; rfl) ?_
  walk_at "rd"
  obtain ⟨c, rfl, hc⟩ := nm_chr hn
  refine ⟨c, _, rfl, rfl, ?_⟩
  rw [decide_eq_true hc]
  exact q
theorem cal_is_number (T : Tx w K mg base) : Cal P w K mg base 1 "is_number" spNumQ [] := by
  obtain ⟨fd, F⟩ := T.fn_is_number
  refine cal_of F T.g_is_number sc_is_number (F.bindsN fun _ _ _ _ _ _ us hl => match us, hl with | [_, _], _ => rfl) (fun vs H Q E h => h.len) (fun cdv A outer s H vs Q E hr h => ?_)
  obtain ⟨x, y, rfl, m, rfl, ⟨i, rfl, h0, h1, q⟩ | ⟨z, rfl, q⟩⟩ := h
  · have hu := hu_of hr
    have nd := sc_is_number.nd
    refine ⟨_, (pss_one (ps_ret (pe_and (pe_callB call_isi (by rfl) T.n_isinstance (by decide +kernel) (pa_cons (pv 0) (pa_cons (pe_bltn (by rfl) T.n_int (by decide +kernel) (v := .ty "int") rfl) pa_nil))) (pe_and (pe_not (pe_callB call_isi (by rfl) T.n_isinstance (by decide +kernel) (pa_cons (pv 0) (pa_cons (pe_bltn (by rfl) T.n_bool (by decide +kernel) (v := .ty "bool") rfl) pa_nil)))) (pe_one (pe_chain op_le op_le pe_int (pv 0) (pv 1))))))), ?_⟩
    walk_at "st"
    refine y_isi2 (.base (.int i)) (b := true) rfl ?_
    walk_at "rd"
    refine y_isi2 (.base (.int i)) (b := false) rfl ?_
    walk_at "rd"
    refine y_tt ?_
    refine x_c (x_var rfl (y_I0 ⟨_, rfl, ?_⟩))
    rw [decide_eq_true h0]
    refine y_tt (x_var rfl (y_I0 ?_))
    rw [decide_eq_true h1]
    exact q
  · have hu := hu_of hr
    have nd := sc_is_number.nd
    refine ⟨_, (pss_one (ps_ret (pe_and (pe_callB call_isi (by rfl) T.n_isinstance (by decide +kernel) (pa_cons (pv 0) (pa_cons (pe_bltn (by rfl) T.n_int (by decide +kernel) (v := .ty "int") rfl) pa_nil))) (pe_and (pe_not (pe_callB call_isi (by rfl) T.n_isinstance (by decide +kernel) (pa_cons (pv 0) (pa_cons (pe_bltn (by rfl) T.n_bool (by decide +kernel) (v := .ty "bool") rfl) pa_nil)))) (pe_one (pe_chain op_le op_le pe_int (pv 0) (pv 1))))))), ?_⟩
    walk_at "st"
    refine y_isi2 (.base (.str z)) (b := false) rfl ?_
    walk_at "rd"
    exact q
theorem cal_is_part (T : Tx w K mg base) : Cal P w K mg base 2 "is_part" spPartQ [] := by
  obtain ⟨fd, F⟩ := T.fn_is_part
  refine cal_of F T.g_is_part sc_is_part (F.bindsN fun _ _ _ _ _ _ us hl => match us, hl with | [_], _ => rfl) (fun vs H Q E h => h.len) (fun cdv A outer s H vs Q E hr h => ?_)
  obtain ⟨x, rfl, p, rfl, gp, q⟩ := h
  have hu := hu_of hr
  have nd := sc_is_part.nd
  refine ⟨_, (pss_one (ps_ret (pe_or (pe_c (cal_is_number T) hr (by decide) (by rfl) (pa_cons (pv 0) (pa_cons (pe_gc rfl T.k_MOST_KEY) pa_nil))) (pe_one (pe_and (pe_callB call_isi (by rfl) T.n_isinstance (by decide +kernel) (pa_cons (pv 0) (pa_cons (pe_bltn (by rfl) T.n_str (by decide +kernel) (v := .ty "str") rfl) pa_nil))) (pe_and (pe_cmpR op_eq (pe_callB call_len_str (by rfl) T.n_len PySem.boot_len (pa_cons (pv 0) pa_nil)) pe_int (nomark _)) (pe_one (pe_cmpR op_in_sign (pv 0) (pe_gc rfl T.k_LETTERS) (by rfl))))))))), ?_⟩
  walk_at "st"
  cases p with
  | inl i =>
    refine .inl ⟨i, rfl, gp.1, gp.2, ?_⟩
    walk_at "rd"
    exact q
  | inr n =>
    have hn : n ∈ LTS := gp
    refine .inr ⟨n, rfl, ?_⟩
    walk_at "rd"
    refine y_isi2 (.base (.str n)) (b := true) rfl ?_
    walk_at "rd"
    refine ⟨n, rfl, (len_lt n hn).2, ?_⟩
    walk_at "rd"
    refine y_T (by rw [(len_lt n hn).1]; rfl) ?_
    obtain ⟨c, rfl, hc⟩ := lt_chr hn
    refine x_op (x_var rfl (x_c ⟨c, _, rfl, rfl, ?_⟩))
    rw [decide_eq_true hc]
    exact q
/-- what a shape asks -/
def ShapeOk : V → Str → Prop := fun x z => (z = "name" ∧ ∃ n ∈ NMS, x = .str n) ∨ (z = "kind" ∧ ∃ k ∈ KDS, x = .str k) ∨ (z = "number" ∧ ∃ i : Int, x = .int i ∧ 0 ≤ i ∧ i ≤ 99) ∨ (z = "goal" ∧ ∃ g, x = goalV g ∧ GoodG g) ∨ (z = "part" ∧ ∃ p, x = kV p ∧ GoodP p)
abbrev spOf : Sp := Sp2 fun x y H Q => ∃ z : Str, y = .str z ∧ ShapeOk x z ∧ Q (.bl true) H
theorem cal_is_of (T : Tx w K mg base) : Cal P w K mg base 3 "is_of" spOf [] := by
  obtain ⟨fd, F⟩ := T.fn_is_of
  refine cal_of F T.g_is_of sc_is_of (F.bindsN fun _ _ _ _ _ _ us hl => match us, hl with | [_, _], _ => rfl) (fun vs H Q E h => h.len) (fun cdv A outer s H vs Q E hr h => ?_)
  obtain ⟨x, y, rfl, z, rfl, sh, q⟩ := h
  have hu := hu_of hr
  have nd := sc_is_of.nd
  refine ⟨_, (pss_cons (ps_if (pt_cmpR op_eq (pv 1) pe_str (nomark _)) (pss_one (ps_ret (pe_c (cal_is_name T) hr (by decide) (by rfl) (pa_cons (pv 0) pa_nil)))) pss_nil) (pss_cons (ps_if (pt_cmpR op_eq (pv 1) pe_str (nomark _)) (pss_one (ps_ret (pe_cmpR op_in_seq (pv 0) (pe_gc rfl T.k_KINDS) (by rfl)))) pss_nil) (pss_cons (ps_if (pt_cmpR op_eq (pv 1) pe_str (nomark _)) (pss_one (ps_ret (pe_c (cal_is_number T) hr (by decide) (by rfl) (pa_cons (pv 0) (pa_cons (pe_gc rfl T.k_MOST_NUMBER) pa_nil))))) pss_nil) (pss_cons (ps_if (pt_cmpR op_eq (pv 1) pe_str (nomark _)) (pss_one (ps_ret (pe_or (pe_cmpR op_isN (pv 0) pe_non (nomark _)) (pe_one (pe_c (cal_is_name T) hr (by decide) (by rfl) (pa_cons (pv 0) pa_nil)))))) pss_nil) (pss_one (ps_ret (pe_c (cal_is_part T) hr (by decide) (by rfl) (pa_cons (pv 0) pa_nil)))))))), ?_⟩
  rcases sh with ⟨rfl, n, hn, rfl⟩ | ⟨rfl, k, hk, rfl⟩ | ⟨rfl, i, rfl, h0, h1⟩ | ⟨rfl, g, rfl, hg⟩ | ⟨rfl, p, rfl, hp⟩
  · walk_at "st"
    refine y_T rfl ?_
    walk_at "rd"
    exact ⟨hn, q⟩
  · walk_at "st"
    refine y_F (by decide) ?_
    walk_at "rd"
    refine y_T rfl ?_
    walk_at "rd"
    refine ⟨_, _, rfl, .inr (T.t_KINDS H), rfl, rfl, ?_⟩
    have g : ∀ z ∈ KDS, inV (.str z) [.str "record", .str "row", .str "book"] = true := by decide +kernel
    show Q (.bl (inV (.str k) [.str "record", .str "row", .str "book"])) H
    rw [g k hk]
    exact q
  · walk_at "st"
    refine y_F (by decide) ?_
    walk_at "rd"
    refine y_F (by decide) ?_
    walk_at "rd"
    refine y_T rfl ?_
    walk_at "rd"
    exact .inl ⟨i, rfl, h0, h1, q⟩
  · walk_at "st"
    refine y_F (by decide) ?_
    walk_at "rd"
    refine y_F (by decide) ?_
    walk_at "rd"
    refine y_F (by decide) ?_
    walk_at "rd"
    refine y_T rfl ?_
    walk_at "rd"
    cases g with
    | none =>
      refine y_T rfl ?_
      exact q
    | some n =>
      refine y_F (fun z => by cases z) ?_
      walk_at "rd"
      exact ⟨n, rfl, hg, q⟩
  · walk_at "st"
    refine y_F (by decide) ?_
    walk_at "rd"
    refine y_F (by decide) ?_
    walk_at "rd"
    refine y_F (by decide) ?_
    walk_at "rd"
    refine y_F (by decide) ?_
    walk_at "rd"
    exact ⟨p, rfl, hp, q⟩
end

theorem may_row {t : Th} {vs : List AV} {p : Key} (k : t.kind = ROW) (ev : t.held = rowOf vs) : t.may p = true ↔ ∃ i : Nat, p = .inl (i : Int) ∧ (i < vs.length ∨ (i = vs.length ∧ vs.length < 8)) := by
  have hh : t.has p = true ↔ ∃ i : Nat, p = .inl (i : Int) ∧ i < vs.length := by unfold Th.has; rw [ev]; exact rowOf_has
  constructor
  · intro h
    rcases may_cases h with h | ⟨_, e, l⟩ | ⟨kb, _⟩
    · obtain ⟨i, e, l⟩ := hh.mp h
      exact ⟨i, e, .inl l⟩
    · rw [ev, rowOf_len] at e l
      exact ⟨_, e, .inr ⟨rfl, l⟩⟩
    · exact absurd (k.symm.trans kb) (by decide)
  · rintro ⟨i, rfl, l | ⟨rfl, l⟩⟩
    · unfold Th.may
      rw [hh.mpr ⟨i, rfl, l⟩]
      rfl
    · unfold Th.may
      rw [k, ev, rowOf_len]
      simp [l]
theorem may_rec {t : Th} {m : Nat} {p : Key} (ok : t.Ok m) (k : t.kind = RECORD) : t.may p = (match p with
    | .inl _ => false
    | .inr s => decide (s ∈ LTS)) := by
  have hh : t.has p = true ↔ p ∈ LTS.map (Sum.inr : Str → Key) := by unfold Th.has; rw [hget_isSome, ok.recd k]
  have hm : t.may p = t.has p := by
    unfold Th.may
    cases p with
    | inl j => rw [k]; simp [show RECORD ≠ ROW by decide, show RECORD ≠ BOOK by decide]
    | inr s => simp
  rw [hm]
  cases p with
  | inl j =>
    show t.has (.inl j) = false
    cases q : t.has (.inl j) with
    | false => rfl
    | true =>
      obtain ⟨_, _, e⟩ := List.mem_map.mp (hh.mp q)
      cases e
  | inr s =>
    show t.has (.inr s) = decide (s ∈ LTS)
    by_cases c : s ∈ LTS
    · rw [decide_eq_true c]; exact hh.mpr (List.mem_map.mpr ⟨s, c, rfl⟩)
    · rw [decide_eq_false c]
      cases q : t.has (.inr s) with
      | false => rfl
      | true =>
        obtain ⟨s', m, e⟩ := List.mem_map.mp (hh.mp q)
        cases e
        exact absurd m c
theorem may_book {t : Th} {j : Int} (k : t.kind = BOOK) : t.may (.inl j) = (t.has (.inl j) || decide (t.held.length < 6)) := by
  unfold Th.may
  rw [k]
  simp [show BOOK ≠ ROW by decide]
theorem may_bookS {t : Th} {m : Nat} {s : Str} (ok : t.Ok m) (k : t.kind = BOOK) : t.may (.inr s) = false := by
  unfold Th.may Th.has
  rw [Bool.or_false]
  cases q : hget t.held (.inr s) with
  | none => rfl
  | some a =>
    obtain ⟨i, e, _⟩ := (ok.book k).1 _ (List.mem_map.mpr ⟨_, hget_mem q, rfl⟩)
    cases e
theorem may_watch {t : Th} {m : Nat} {p : Key} (ok : t.Ok m) (k : t.kind = WATCH) : t.may p = false := by
  unfold Th.may Th.has
  rw [(ok.wat k).1, k]
  cases p with
  | inl j => simp [hget, show WATCH ≠ ROW by decide, show WATCH ≠ BOOK by decide]
  | inr s => simp [hget]
theorem inV_lts {s : Str} (h : s ∈ LTS) : inV (.str s) [.str "a", .str "b", .str "c", .str "d"] = true := by
  have g : ∀ z ∈ LTS, inV (.str z) [.str "a", .str "b", .str "c", .str "d"] = true := by decide +kernel
  exact g s h
def thV (ad : Nat → Addr) : Option (Nat × Th) → V
  | none => .non
  | some (k, _) => .ref (ad (3 + 2 * k))
def isTh : AV → Bool
  | .th _ => true
  | _ => false
section
variable {K : PySem.W.Frag} {H : Hp} {Q : VK} {v : V} {a : AV} {p : Key}
theorem y_isTup (h : LV H v a) (q : Q (.bl (isTh a)) H) : rIsi K [v, .ty "tuple"] H Q := by
  cases a with
  | non => obtain rfl := (show v = .non from h); exact ⟨_, _, _, _, false, rfl, .ty _, .base .non, rfl, q⟩
  | num i => obtain rfl := (show v = .int i from h); exact ⟨_, _, _, _, false, rfl, .ty _, .base (.int i), rfl, q⟩
  | th k => obtain ⟨p, rfl, hp⟩ := h; exact ⟨_, _, _, _, true, rfl, .ty _, .base (.tup hp), rfl, q⟩
theorem atI_range {f : Nat → V} {n k : Nat} (h : k < n) : atI ((List.range n).map f) (k : Int) = some (f k) := by
  unfold atI ixN
  simp [h]
theorem flat_kV : flatV (kV p) = true := by cases p <;> rfl
theorem flat_rg {a b : Int} : (rgV a b).all flatV = true := by
  unfold rgV
  rw [List.all_eq_true]
  intro x m
  obtain ⟨i, _, rfl⟩ := List.mem_map.mp m
  rfl
theorem inV_rg {n : Int} : inV (kV p) (rgV 0 n) = true ↔ ∃ i : Nat, p = .inl (i : Int) ∧ (i : Int) < n := by
  unfold inV rgV
  rw [List.any_map, List.any_eq_true]
  constructor
  · rintro ⟨i, m, e⟩
    have l := List.mem_range.mp m
    cases p with
    | inr s => cases (show eqV (.int (0 + (i : Int))) (.str s) = true from e)
    | inl j =>
      have e := (show eqV (.int (0 + (i : Int))) (.int j) = true from e)
      have e : (0 + (i : Int)) = j := by simpa [eqV] using e
      exact ⟨i, by rw [← e, Int.zero_add], by omega⟩
  · rintro ⟨i, rfl, l⟩
    exact ⟨i, List.mem_range.mpr (by omega), by show eqV (.int (0 + (i : Int))) (.int (i : Int)) = true; simp [eqV]⟩
theorem y_inRg {l : Addr} {n : Int} {b : Bool} (h : H l = some (.lst (rgV 0 n))) (e : (∃ i : Nat, p = .inl (i : Int) ∧ (i : Int) < n) ↔ b = true) (q : Q (.bl b) H) : rIn K false (kV p) (.ref l) H Q := by
  refine ⟨l, _, rfl, .inl (sqL h), flat_kV, flat_rg, ?_⟩
  have : inV (kV p) (rgV 0 n) = b := by
    have i := inV_rg (p := p) (n := n)
    cases b with
    | true => exact i.mpr (e.mpr rfl)
    | false =>
      cases q : inV (kV p) (rgV 0 n) with
      | false => rfl
      | true => exact absurd (e.mp (i.mp q)) (by simp)
  show Q (.bl (inV (kV p) (rgV 0 n))) H
  rw [this]
  exact q
theorem ne_kind {k : Str} {s : Str} (h : ¬ V.str k = V.str s) : k ≠ s := fun z => h (by rw [z])
theorem eq_kind {k : Str} {s : Str} (h : V.str k = V.str s) : k = s := V.str.inj h
end
section
variable {P : Program} {w : World} {K : PySem.W.Frag} {mg : Str → Option Value} {base : Heap}
abbrev spThing (K : PySem.W.Frag) : Sp := Sp2 fun x y H Q => ∃ (ad : Nat → Addr) (M : HM) (n : Str), x = .ref (ad 0) ∧ y = .str n ∧ n ∈ NMS ∧ LM K H ad M ∧ M.Ok ∧ Q (thV ad (M.thOf n)) H
abbrev spHas (K : PySem.W.Frag) : Sp := Sp2 fun x y H Q => ∃ (a d : Addr) (t : Th) (p : Key) (m : Nat), x = .ref a ∧ y = kV p ∧ H a = some (.dK (ltd t d)) ∧ LHd H d t ∧ t.Ok m ∧ ∀ H', Same H H' → Q (.bl (t.has p)) H'
abbrev spMay (K : PySem.W.Frag) : Sp := Sp2 fun x y H Q => ∃ (a d : Addr) (t : Th) (p : Key) (m : Nat), x = .ref a ∧ y = kV p ∧ GoodP p ∧ H a = some (.dK (ltd t d)) ∧ LHd H d t ∧ t.Ok m ∧ ∀ H', Same H H' → Q (.bl (t.may p)) H'
end

section
variable {P : Program} {w : World} {K : PySem.W.Frag} {mg : Str → Option Value} {base : Heap}
def HM0 : HM := ⟨fun _ => .non, fun _ => none, 0⟩
theorem HM0_ok : HM0.Ok := ⟨fun k => ⟨fun ⟨t, e⟩ => (by cases e), fun h => absurd h (Nat.not_lt_zero k)⟩, fun k t e => (by cases e), fun n => trivial⟩
/-- a new one: the footprint is new -/
abbrev spModel (K : PySem.W.Frag) : Sp := Sp0 fun H Q => ∀ (ad : Nat → Addr) (H' : Hp), Same H H' → LM K H' ad HM0 → (∀ i, i < 3 → H (ad i) = none) → Q (.ref (ad 0)) H'
abbrev spMake (K : PySem.W.Frag) : Sp := Sp2 fun x y H Q => ∃ (ad : Nat → Addr) (M : HM) (kd : Str), x = .ref (ad 0) ∧ y = .str kd ∧ (kd ∈ KDS ∨ kd = WATCH) ∧ LM K H ad M ∧ M.made < 9000 ∧
  ∀ (p a d : Addr) (H' : Hp), LM K H' (adN ad M.made a d) (M.mk1 kd none) → H a = none → H d = none → Fr K (LF ad M) H H' → H' p = some (.tup [.str "thing", .int (M.made : Int)]) → Q (.ref p) H'
def partsOf (t : Th) : List (Key × AV) := if t.kind = ROW then t.held else t.held.mergeSort keyLe
abbrev spParts (K : PySem.W.Frag) : Sp := Sp1 fun x H Q => ∃ (a d : Addr) (t : Th) (m : Nat), x = .ref a ∧ H a = some (.dK (ltd t d)) ∧ LHd H d t ∧ t.Ok m ∧ LamX.Tabs (TTs K) H ∧
  ∀ (l : Addr) (ps : List (Addr × Key × V)) (H' : Hp), Fr K NoF H H' → (∀ o, H l = some o → ∃ qs, o = .tbl qs) → H' l = some (.lst (ps.map fun z => V.ref z.1)) → HR (LV H) (ps.map (·.2)) (partsOf t) → (∀ z ∈ ps, H' z.1 = some (.tup [kV z.2.1, z.2.2])) → Q (.ref l) H'
def ad3 (p0 p1 p2 : Addr) : Nat → Addr := fun i => if i = 0 then p0 else if i = 1 then p1 else p2
theorem LM_new {H : Hp} {p0 p1 p2 : Addr} (n01 : p0 ≠ p1) (n02 : p0 ≠ p2) (n12 : p1 ≠ p2) (h0 : H p0 = some (.dK [(.inr "names", .ref p1), (.inr "things", .ref p2)])) (h1 : H p1 = some (.dK (kvL NMS fun _ => .non))) (h2 : H p2 = some (.lst [])) : LM K H (ad3 p0 p1 p2) HM0 := by
  have cs : ∀ i, i < 3 + 2 * HM0.made → i = 0 ∨ i = 1 ∨ i = 2 := fun i hi => by have : HM0.made = 0 := rfl; omega
  refine ⟨⟨fun i hi => ?_, fun i j hi hj e => ?_⟩, h0, ⟨_, h1, fun n _ => rfl⟩, h2, fun k l => absurd l (Nat.not_lt_zero k), by decide⟩
  · rcases cs i hi with e | e | e <;> subst e
    · exact ⟨_, h0, trivial, trivial⟩
    · exact ⟨_, h1, trivial, trivial⟩
    · exact ⟨_, h2, trivial, trivial⟩
  · rcases cs i hi with e1 | e1 | e1 <;> rcases cs j hj with e2 | e2 | e2 <;> subst e1 <;> subst e2 <;> first | rfl | exact absurd e n01 | exact absurd e n02 | exact absurd e n12 | exact absurd e.symm n01 | exact absurd e.symm n02 | exact absurd e.symm n12
theorem LHd_new {H : Hp} {d : Addr} {kd : Str} (hk : kd = RECORD ∧ H d = some (.dK (kvL LTS fun _ => .non)) ∨ kd = ROW ∧ H d = some (.lst []) ∨ kd ≠ RECORD ∧ kd ≠ ROW ∧ H d = some (.dK [])) : LHd H d (newTh kd none) := by
  rcases hk with ⟨e, h⟩ | ⟨e, h⟩ | ⟨e1, e2, h⟩
  · subst e
    refine .oth (show RECORD ≠ ROW by decide) _ h ?_
    show HR _ (LTS.map fun n => (Sum.inr n, V.non)) (LTS.map fun n => (Sum.inr n, AV.non))
    exact paired_of (by simp) fun m a b e1 e2 => by
      rw [List.getElem?_map] at e1 e2
      cases q : LTS[m]? with
      | none => rw [q] at e1; cases e1
      | some z => rw [q] at e1 e2; cases e1; cases e2; exact ⟨rfl, rfl⟩
  · subst e
    exact .row rfl [] [] rfl h .nil
  · refine .oth e2 [] h ?_
    show HR _ [] (if kd = RECORD then recH else [])
    rw [if_neg e1]
    exact .nil
theorem HR.sort {VV : V → AV → Prop} {kvs : List (Key × V)} {h : List (Key × AV)} (r : HR VV kvs h) : HR VV (kvs.mergeSort keyLe) (h.mergeSort keyLe) := by
  have hl := r.len
  have e1 := List.map_mergeSort (r := fun a b : (Key × V) × (Key × AV) => keyLe a.1 b.1) (s := (keyLe : Key × V → Key × V → Bool)) (f := (·.1)) (l := kvs.zip h) (fun a _ b _ => rfl)
  have zk : ∀ z ∈ kvs.zip h, z.1.1 = z.2.1 ∧ VV z.1.2 z.2.2 := by
    intro z hz
    obtain ⟨i, hi⟩ := List.mem_iff_getElem?.mp hz
    obtain ⟨i1, i2⟩ := List.getElem?_zip_eq_some.mp hi
    obtain ⟨y, e, g⟩ := paired_get r i1
    rw [i2] at e
    cases e
    exact g
  have e2 := List.map_mergeSort (r := fun a b : (Key × V) × (Key × AV) => keyLe a.1 b.1) (s := (keyLe : Key × AV → Key × AV → Bool)) (f := (·.2)) (l := kvs.zip h) (fun a ha b hb => by
    show keyLe a.1 b.1 = keyLe a.2 b.2
    unfold keyLe
    rw [(zk a ha).1, (zk b hb).1])
  rw [List.map_fst_zip (by omega)] at e1
  rw [List.map_snd_zip (by omega)] at e2
  rw [← e1, ← e2]
  have pm := List.mergeSort_perm (kvs.zip h) (fun a b : (Key × V) × (Key × AV) => keyLe a.1 b.1)
  refine paired_of (by simp) fun m a b ea eb => ?_
  rw [List.getElem?_map] at ea eb
  cases q : ((kvs.zip h).mergeSort fun a b : (Key × V) × (Key × AV) => keyLe a.1 b.1)[m]? with
  | none => rw [q] at ea; cases ea
  | some z =>
    rw [q] at ea eb
    cases ea
    cases eb
    exact zk z (pm.mem_iff.mp (List.mem_of_getElem? q))
def rowV (xs : List V) : List (Key × V) := xs.mapIdx fun i v => (Sum.inl (i : Int), v)
theorem rowV_HR {VV : V → AV → Prop} {xs : List V} {vs : List AV} (r : Paired VV xs vs) : HR VV (rowV xs) (rowOf vs) := by
  unfold rowV rowOf
  have l := Paired.length r
  refine paired_of (by simp [l]) fun m a b ea eb => ?_
  rw [List.getElem?_mapIdx] at ea eb
  cases qx : xs[m]? with
  | none => rw [qx] at ea; cases ea
  | some x =>
    obtain ⟨y, e, g⟩ := paired_get r qx
    rw [qx] at ea
    rw [e] at eb
    cases ea
    cases eb
    exact ⟨rfl, g⟩
theorem HR.keys {VV : V → AV → Prop} {kvs : List (Key × V)} {h : List (Key × AV)} (r : HR VV kvs h) : kvs.map (·.1) = h.map (·.1) := by
  induction r with
  | nil => rfl
  | cons p _ ih => rw [List.map_cons, List.map_cons, p.1, ih]
theorem oneSort_of {t : Th} {m : Nat} {VV : V → AV → Prop} {kvs : List (Key × V)} (ok : t.Ok m) (k : t.kind ≠ ROW) (r : HR VV kvs t.held) : OneSort kvs := by
  have hk : ∀ p ∈ kvs, p.1 ∈ t.held.map (·.1) := fun p mp => by rw [← r.keys]; exact List.mem_map.mpr ⟨p, mp, rfl⟩
  rcases ok.kd with e | e | e | e
  · refine .inr fun p mp => ?_
    have := hk p mp
    rw [ok.recd e] at this
    obtain ⟨s, _, es⟩ := List.mem_map.mp this
    exact ⟨s, es.symm⟩
  · exact absurd e k
  · refine .inl fun p mp => ?_
    obtain ⟨i, ei, _⟩ := (ok.book e).1 _ (hk p mp)
    exact ⟨i, ei⟩
  · refine .inl fun p mp => ?_
    have := hk p mp
    rw [(ok.wat e).1] at this
    cases this
theorem Fr.ext {H H' : Hp} {F : Addr → Prop} (e : LamX.ExtN H H') (t : LamX.Tabs (TTs K) H') : Fr K F H H' :=
  ⟨fun b o h _ nt => e b o h fun ps z => by subst z; exact nt, fun b xs h => e _ _ h fun ps z => (by cases z), fun b dx fs h => e _ _ h fun ps z => (by cases z), fun _ => t⟩
end

section
variable {P : Program} {w : World} {K : PySem.W.Frag} {mg : Str → Option Value} {base : Heap}
def thsOf (as : List AV) : List Nat := as.filterMap fun a => match a with
  | .th k => some k
  | _ => none
theorem thsOf_mem {as : List AV} {k : Nat} : k ∈ thsOf as ↔ AV.th k ∈ as := by
  unfold thsOf
  rw [List.mem_filterMap]
  constructor
  · rintro ⟨a, m, e⟩
    cases a with
    | th j => have e : some j = some k := e; cases e; exact m
    | non => cases e
    | num i => cases e
  · intro m; exact ⟨_, m, rfl⟩
theorem thsOf_len {as : List AV} : (thsOf as).length ≤ as.length := List.length_filterMap_le _ _
theorem outs_eq {h : List (Key × AV)} : outs h = thsOf (h.map (·.2)) := by
  unfold outs thsOf
  rw [List.filterMap_map]
  rfl
open Classical in
noncomputable def rcL (M : HM) (R : Nat → Prop) : List Nat := (List.range M.made).filter fun k => decide (M.RC R k)
def intsV (ns : List Nat) : List V := ns.map fun (k : Nat) => V.int (k : Int)
theorem sorted_rcL {M : HM} {R : Nat → Prop} {found : List Nat} {ns : List Int} (nd : found.Nodup) (h : ∀ x, x ∈ found ↔ M.RC R x) (lt : ∀ x, M.RC R x → x < M.made) (p : ns.Perm (found.map fun (k : Nat) => (k : Int))) (s : ns.Pairwise (· ≤ ·)) : ns = (rcL M R).map fun (k : Nat) => (k : Int) := by
  classical
  have s2 : ((rcL M R).map fun (k : Nat) => (k : Int)).Pairwise (· ≤ ·) := by
    rw [List.pairwise_map]
    exact (List.Pairwise.filter _ List.pairwise_lt_range).imp fun h => by omega
  have nd2 : (rcL M R).Nodup := (List.Pairwise.filter _ List.nodup_range)
  have p2 : (found.map fun (k : Nat) => (k : Int)).Perm ((rcL M R).map fun (k : Nat) => (k : Int)) := by
    refine List.Perm.map _ ((List.perm_ext_iff_of_nodup nd nd2).mpr fun x => ?_)
    unfold rcL
    rw [List.mem_filter, List.mem_range]
    exact ⟨fun m => ⟨lt x ((h x).mp m), decide_eq_true ((h x).mp m)⟩, fun m => (h x).mpr (of_decide_eq_true m.2)⟩
  exact (p.trans p2).eq_of_pairwise (fun a b _ _ h1 h2 => Int.le_antisymm h1 h2) s s2
theorem intsV_app {a b : List Nat} : intsV a ++ intsV b = intsV (a ++ b) := by unfold intsV; rw [List.map_append]
theorem intsV_len {a : List Nat} : (intsV a).length = a.length := List.length_map _
theorem intsV_eq {a : List Nat} : intsV a = (a.map fun (k : Nat) => (k : Int)).map V.int := by unfold intsV; rw [List.map_map]; rfl
theorem thsOf_snoc {as : List AV} {a : AV} : thsOf (as ++ [a]) = thsOf as ++ (match a with | .th k => [k] | _ => []) := by
  unfold thsOf
  rw [List.filterMap_append]
  cases a <;> rfl
theorem take_snoc {α : Type} {l : List α} {i : Nat} {x : α} (h : l[i]? = some x) : l.take (i + 1) = l.take i ++ [x] := by rw [List.take_succ, h]; rfl
theorem inV_ints {x : Nat} {ns : List Nat} : inV (.int (x : Int)) (intsV ns) = decide (x ∈ ns) := by
  unfold inV intsV
  rw [List.any_map]
  by_cases c : x ∈ ns
  · rw [decide_eq_true c, List.any_eq_true]
    exact ⟨x, c, by show eqV (.int (x : Int)) (.int (x : Int)) = true; simp [eqV]⟩
  · rw [decide_eq_false c, List.any_eq_false]
    intro y m e
    have e : eqV (.int (y : Int)) (.int (x : Int)) = true := e
    have e : (y : Int) = (x : Int) := by simpa [eqV] using e
    exact c (by have : y = x := by omega
                exact this ▸ m)
theorem flat_ints {ns : List Nat} : (intsV ns).all flatV = true := by
  unfold intsV
  rw [List.all_eq_true]
  intro x m
  obtain ⟨i, _, rfl⟩ := List.mem_map.mp m
  rfl
theorem y_inNat {H : Hp} {Q : VK} {x : Nat} {ns : List Nat} {l : Addr} (h : H l = some (.lst (intsV ns))) (q : Q (.bl (decide (x ∈ ns))) H) : rIn K false (.int (x : Int)) (.ref l) H Q :=
  ⟨l, _, rfl, .inl (sqL h), rfl, flat_ints, by show Q (.bl (inV (.int (x : Int)) (intsV ns))) H; rw [inV_ints]; exact q⟩
theorem y_notInNat {H : Hp} {Q : VK} {x : Nat} {ns : List Nat} {l : Addr} (h : H l = some (.lst (intsV ns))) (q : Q (.bl (!decide (x ∈ ns))) H) : rIn K true (.int (x : Int)) (.ref l) H Q :=
  ⟨l, _, rfl, .inl (sqL h), rfl, flat_ints, by show Q (.bl (!inV (.int (x : Int)) (intsV ns))) H; rw [inV_ints]; exact q⟩
theorem partsOf_perm {t : Th} : (partsOf t).Perm t.held := by
  unfold partsOf
  split
  · exact .refl _
  · exact List.mergeSort_perm _ _
theorem outs_parts {t : Th} {j : Nat} : j ∈ outs (partsOf t) ↔ j ∈ outs t.held := by
  rw [outs_mem, outs_mem]
  exact ⟨fun ⟨p, m⟩ => ⟨p, partsOf_perm.mem_iff.mp m⟩, fun ⟨p, m⟩ => ⟨p, partsOf_perm.mem_iff.mpr m⟩⟩
theorem fr_fresh {H H1 : Hp} {F : Addr → Prop} {a : Addr} {o : HO} (f : Fr K F H H1) (ha : H a = none) (hc : Chg K (H1 a)) : Fr K F H (upd H1 a o) := f.trans (Fr.upd (F := fun b => b = a) rfl hc) fun b z => .inr (by rw [z]; exact ha)
/-- [v[1] for v in vs if isinstance(v, tuple)] -/
theorem y_lcTh {σ : L2.St} {H : Hp} {Q : VK} {ns : List Nat} {i : Nat} {l : Addr} {vs : List V} {as : List AV} (hn : ns = [i]) (hl : H l = some (.lst vs)) (r : Paired (LV H) vs as) (h1 : vs.length ≤ 9100) (hw : ∀ x, wipe ((wipe σ [i]).set i x) [i] = wipe σ [i]) (hx : ∀ x, ((wipe σ [i]).set i x)[i]? = some x)
    (q : ∀ (D : Addr) (H' : Hp), Same H H' → H D = none → H' D = some (.lst (intsV (thsOf as))) → Q (.ref D) H') :
    rLc (gName i) (tB (tCB (rIsi K) (tCons (tVar i) (tCons (tC (V.ty "tuple")) tNil)))) (tOp (rIxT K) (tVar i) (tC (V.int 1))) ns Q (Itl K l) σ H := by
  subst hn
  refine y_lcL (xs := vs) (fun D i acc H' => Same H H' ∧ acc = intsV (thsOf (as.take i))) (fun D hD => ⟨Same.new hD, rfl⟩) (fun D i acc H' hD _ p => sqL (p.1 _ _ hl)) ?_ ?_
  · rintro D j x acc H' hD hj hDl hle ⟨sm, rfl⟩
    obtain ⟨a, ea, va⟩ := paired_get r hj
    have va := va.mono (Same.tups sm)
    have jl := (List.getElem?_eq_some_iff.mp hj).1
    have sk : ∀ b u, H b = some u → upd H' D (.lst (intsV (thsOf (as.take (j + 1))))) b = some u := fun b u e => by rw [upd_ne fun z => by rw [z, hD] at e; cases e]; exact sm _ _ e
    refine y_turn (x_name ⟨hw _, x_B (x_cb (x_cons (x_var (hx _) (x_cons (x_c (x_nil (y_isTup va (y_blE ?_))))))))⟩)
    cases a with
    | non => exact y_ff (y_skip hDl hle ⟨sm, by rw [take_snoc ea, thsOf_snoc, List.append_nil]⟩)
    | num n => exact y_ff (y_skip hDl hle ⟨sm, by rw [take_snoc ea, thsOf_snoc, List.append_nil]⟩)
    | th k =>
      obtain ⟨p, rfl, hp⟩ := va
      refine y_tt (x_op (x_var (hx _) (x_c (y_ixT hp rfl (y_put hDl hle (by omega) ?_)))))
      have e : intsV (thsOf (as.take j)) ++ [V.int (k : Int)] = intsV (thsOf (as.take (j + 1))) := by rw [take_snoc ea, thsOf_snoc, ← intsV_app]; rfl
      rw [e]
      exact ⟨sk, rfl⟩
  · rintro D acc H' hD hDl ⟨sm, rfl⟩
    refine q D H' sm hD ?_
    rw [hDl, Paired.length r, List.take_length]
/-- [v[1] for p, v in ps if isinstance(v, tuple)] -/
theorem y_lcThP {σ : L2.St} {H : Hp} {Q : VK} {ns : List Nat} {i j : Nat} {l : Addr} {ps : List (Addr × Key × V)} {hs : List (Key × AV)} (hn : ns = [j, i]) (hl : H l = some (.lst (ps.map fun z => V.ref z.1))) (r : HR (LV H) (ps.map (·.2)) hs) (ht : ∀ z ∈ ps, H z.1 = some (.tup [kV z.2.1, z.2.2])) (h1 : ps.length ≤ 9000)
    (hw : ∀ x y, wipe (((wipe σ [j, i]).set j x).set i y) [j, i] = wipe σ [j, i]) (hx : ∀ x y, (((wipe σ [j, i]).set j x).set i y)[i]? = some y)
    (q : ∀ (D : Addr) (H' : Hp), Same H H' → H D = none → H' D = some (.lst (intsV (outs hs))) → Q (.ref D) H') :
    rLc (gTup K 2 (gCons (gName j) (gCons (gName i) gNil))) (tB (tCB (rIsi K) (tCons (tVar i) (tCons (tC (V.ty "tuple")) tNil)))) (tOp (rIxT K) (tVar i) (tC (V.int 1))) ns Q (Itl K l) σ H := by
  subst hn
  have lh : hs.length = ps.length := by have := Paired.length r; rw [List.length_map] at this; exact this.symm
  refine y_lcL (xs := ps.map fun z => V.ref z.1) (fun D i acc H' => Same H H' ∧ acc = intsV (thsOf ((hs.map (·.2)).take i))) (fun D hD => ⟨Same.new hD, rfl⟩) (fun D i acc H' hD _ p => sqL (p.1 _ _ hl)) ?_ ?_
  · rintro D m x acc H' hD hm hDl hle ⟨sm, rfl⟩
    rw [List.getElem?_map] at hm
    obtain ⟨z, hz, rfl⟩ := Option.map_eq_some_iff.mp hm
    obtain ⟨⟨k2, a⟩, ea, ek, va⟩ := paired_get r (show (ps.map (·.2))[m]? = some z.2 by rw [List.getElem?_map, hz]; rfl)
    have va := LV.mono va (Same.tups sm)
    have ea2 : (hs.map (·.2))[m]? = some a := by rw [List.getElem?_map, ea]; rfl
    have ml := (List.getElem?_eq_some_iff.mp hz).1
    have hzt := sm _ _ (ht z (List.mem_of_getElem? hz))
    have sk : ∀ b u, H b = some u → upd H' D (.lst (intsV (thsOf ((hs.map (·.2)).take (m + 1))))) b = some u := fun b u e => by rw [upd_ne fun z => by rw [z, hD] at e; cases e]; exact sm _ _ e
    refine y_turn ⟨z.1, _, rfl, sqT hzt, rfl, _, _, rfl, x_name ⟨_, _, rfl, x_name ⟨rfl, hw _ _, x_B (x_cb (x_cons (x_var (hx _ _) (x_cons (x_c (x_nil (y_isTup va (y_blE ?_))))))))⟩⟩⟩
    cases a with
    | non => exact y_ff (y_skip hDl hle ⟨sm, by rw [take_snoc ea2, thsOf_snoc, List.append_nil]⟩)
    | num n => exact y_ff (y_skip hDl hle ⟨sm, by rw [take_snoc ea2, thsOf_snoc, List.append_nil]⟩)
    | th k =>
      obtain ⟨p, e2, hp⟩ := va
      have e2 : z.2.2 = V.ref p := e2
      refine y_tt (x_op (x_var (hx _ _) (x_c ?_)))
      rw [e2]
      refine y_ixT hp rfl (y_put hDl hle (by omega) ?_)
      have e : intsV (thsOf ((hs.map (·.2)).take m)) ++ [V.int (k : Int)] = intsV (thsOf ((hs.map (·.2)).take (m + 1))) := by rw [take_snoc ea2, thsOf_snoc, ← intsV_app]; rfl
      rw [e]
      exact ⟨sk, rfl⟩
  · rintro D acc H' hD hDl ⟨sm, rfl⟩
    refine q D H' sm hD ?_
    rw [hDl, outs_eq, List.length_map, ← lh, ← List.length_map (f := fun x : Key × AV => x.2), List.take_length]
abbrev spWalk (K : PySem.W.Frag) : Sp := Sp2 fun x y H Q => ∃ (ad : Nat → Addr) (M : HM) (l : Addr) (vs : List V) (as : List AV), x = .ref (ad 0) ∧ y = .ref l ∧ LM K H ad M ∧ M.Ok ∧ H l = some (.lst vs) ∧ vs.length ≤ 9100 ∧ Paired (LV H) vs as ∧ (∀ a ∈ as, avOk M.made a) ∧
  LamX.Tabs (TTs K) H ∧ ∀ (r : Addr) (H' : Hp), Fr K NoF H H' → (∀ o, H r = some o → ∃ qs, o = .tbl qs) → H' r = some (.lst (intsV (rcL M fun k => AV.th k ∈ as))) → Q (.ref r) H'
end

/-! ### the program's heap -/
section
variable {P : Program} {w : World} {K : PySem.W.Frag} {mg : Str → Option Value} {base : Heap}
/-- a value of the program's: a thing is a Ref with its number -/
def PV (K : PySem.W.Frag) (H : Hp) (v : V) : AV → Prop
  | .non => v = .non
  | .num i => v = .int i
  | .th k => ∃ p dx, v = .ref p ∧ H p = some (.ins (He.ga K "Ref") dx (fs_Ref (.int (k : Int))))
def Refs (K : PySem.W.Frag) (H H' : Hp) : Prop := ∀ p dx fs, H p = some (.ins (He.ga K "Ref") dx fs) → H' p = some (.ins (He.ga K "Ref") dx fs)
theorem PV.mono {H H' : Hp} {v : V} {a : AV} (h : PV K H v a) (t : Refs K H H') : PV K H' v a := by
  cases a with
  | non => exact h
  | num i => exact h
  | th k => obtain ⟨p, dx, e, hp⟩ := h; exact ⟨p, dx, e, t _ _ _ hp⟩
theorem Same.refs {H H' : Hp} (s : Same H H') : Refs K H H' := fun p dx fs e => s p _ e
theorem Fr.refs {F : Addr → Prop} {H H' : Hp} (f : Fr K F H H') : Refs K H H' := f.r
theorem Own.refs {H : Hp} {ad : Nat → Addr} {n i : Nat} {o : HO} (w : Own K H ad n) (hi : i < n) : Refs K H (L2.upd H (ad i) o) := fun p dx fs e => by
  rw [upd_ne fun z => ?_]; exact e
  have := w.chg hi
  rw [← z, e] at this
  exact this rfl
theorem y_isR (T : Tx w K mg base) {H : Hp} {Q : VK} {v : V} {a : AV} (h : PV K H v a) (q : Q (.bl (isTh a)) H) : rIsi K [v, .ref (He.ga K "Ref")] H Q := by
  cases a with
  | non => obtain rfl := (show v = .non from h); exact ⟨_, _, _, _, false, rfl, .own _, .base .non, T.isR_NoneType, q⟩
  | num i => obtain rfl := (show v = .int i from h); exact ⟨_, _, _, _, false, rfl, .own _, .base (.int i), T.isR_int, q⟩
  | th k =>
    obtain ⟨p, dx, rfl, hp⟩ := h
    have c := T.ins_Ref
    exact ⟨_, _, _, _, true, rfl, .own _, .base (.ins hp c.cl c.ha c.hn c.htk c.hm), c.me, q⟩
/-- a thing's own object -/
def pth (t : Th) (d : Addr) : List (Str × V) := fs_Thing (.str t.kind) (.ref d) (seesV t.sees) (.bl t.told) (.bl t.due) (.bl t.given) (goalV t.goal)
structure PM (K : PySem.W.Frag) (H : Hp) (ad : Nat → Addr) (M : HM) (ks : List Nat) (vm vw : V) : Prop where
  own : Own K H ad (4 + 2 * M.made)
  doer : ∃ dx, H (ad 0) = some (.ins (He.ga K "Doer") dx (fs_Doer (.ref (ad 1)) vm vw))
  heap : ∃ dx, H (ad 1) = some (.ins (He.ga K "Heap") dx (fs_Heap (.ref (ad 2)) (.ref (ad 3)) (.int (M.made : Int))))
  nms : ∃ f : Str → V, H (ad 2) = some (.dK (kvL NMS f)) ∧ ∀ n ∈ NMS, PV K H (f n) (M.names n)
  ths : H (ad 3) = some (.dK (ks.map fun (k : Nat) => ((.inl (k : Int) : Key), V.ref (ad (4 + 2 * k)))))
  th : ∀ k ∈ ks, ∃ t dx kvs, M.things k = some t ∧ H (ad (4 + 2 * k)) = some (.ins (He.ga K "Thing") dx (pth t (ad (5 + 2 * k)))) ∧ H (ad (5 + 2 * k)) = some (.dK kvs) ∧ HR (PV K H) kvs t.held
  sm : M.made ≤ 9000
  srt : ks.Pairwise (· < ·)
  lt : ∀ k ∈ ks, k < M.made
abbrev PF (ad : Nat → Addr) (M : HM) : Addr → Prop := Foot ad (4 + 2 * M.made)
section
variable {H H' : Hp} {ad : Nat → Addr} {M : HM} {ks : List Nat} {vm vw v : V} {k : Nat} {t t' : Th}
theorem PM.keep (L : PM K H ad M ks vm vw) (hk : ∀ i, i < 4 + 2 * M.made → ∀ o, H (ad i) = some o → notTbl o → H' (ad i) = some o) (tp : Refs K H H') : PM K H' ad M ks vm vw := by
  have w := L.own
  have nt : ∀ i, i < 4 + 2 * M.made → ∀ o, H (ad i) = some o → H' (ad i) = some o := fun i hi o e => by
    obtain ⟨u, h, _, t⟩ := w.live i hi
    rw [e] at h
    cases h
    exact hk i hi o e t
  obtain ⟨dx0, h0⟩ := L.doer
  obtain ⟨dx1, h1⟩ := L.heap
  refine ⟨⟨fun i hi => let ⟨o, h, c, t⟩ := w.live i hi; ⟨o, hk i hi o h t, c, t⟩, w.inj⟩, ⟨dx0, nt 0 (by omega) _ h0⟩, ⟨dx1, nt 1 (by omega) _ h1⟩, ?_, nt 3 (by omega) _ L.ths, fun k m => ?_, L.sm, L.srt, L.lt⟩
  · obtain ⟨f, h1, h2⟩ := L.nms
    exact ⟨f, nt 2 (by omega) _ h1, fun n m => (h2 n m).mono tp⟩
  · have l := L.lt k m
    obtain ⟨t, dx, kvs, e1, e2, e3, e4⟩ := L.th k m
    exact ⟨t, dx, kvs, e1, nt _ (by omega) _ e2, nt _ (by omega) _ e3, e4.mono fun _ _ z => z.mono tp⟩
theorem PM.fr {F : Addr → Prop} (L : PM K H ad M ks vm vw) (f : Fr K F H H') (dj : ∀ b, PF ad M b → ¬ F b) : PM K H' ad M ks vm vw := L.keep (fun i hi o e t => f.k _ _ e (dj _ ⟨i, hi, rfl⟩) t) f.r
theorem PM.same (L : PM K H ad M ks vm vw) (s : Same H H') : PM K H' ad M ks vm vw := L.keep (fun _ _ o e _ => s _ _ e) (Same.refs s)
theorem PM.get (L : PM K H ad M ks vm vw) (e : M.things k = some t) (m : k ∈ ks) : ∃ dx kvs, H (ad (4 + 2 * k)) = some (.ins (He.ga K "Thing") dx (pth t (ad (5 + 2 * k)))) ∧ H (ad (5 + 2 * k)) = some (.dK kvs) ∧ HR (PV K H) kvs t.held := by
  obtain ⟨t', dx, kvs, e1, e2, e3, e4⟩ := L.th k m
  rw [e] at e1
  cases e1
  exact ⟨dx, kvs, e2, e3, e4⟩
theorem PM.len (L : PM K H ad M ks vm vw) : ks.length ≤ M.made := nodup_le (L.srt.imp fun h => Nat.ne_of_lt h) L.lt
/-- a name is given -/
theorem PM.hold {n : Str} {a : AV} (L : PM K H ad M ks vm vw) {f : Str → V} (h1 : H (ad 2) = some (.dK (kvL NMS f))) (h2 : ∀ m ∈ NMS, PV K H (f m) (M.names m)) (hv : PV K H v a) : PM K (upd H (ad 2) (.dK (kvL NMS fun m => if m = n then v else f m))) ad (M.hold n a) ks vm vw := by
  have w := L.own
  have l2 : 2 < 4 + 2 * M.made := by omega
  have tp : Refs K H (upd H (ad 2) (.dK (kvL NMS fun m => if m = n then v else f m))) := w.refs l2
  have ne : ∀ i, i < 4 + 2 * M.made → i ≠ 2 → ad i ≠ ad 2 := fun i hi h => w.ne hi l2 h
  obtain ⟨dx0, h0⟩ := L.doer
  obtain ⟨dx1, hp1⟩ := L.heap
  refine ⟨w.set l2 trivial trivial, ⟨dx0, by rw [upd_ne (ne 0 (by omega) (by omega))]; exact h0⟩, ⟨dx1, by rw [upd_ne (ne 1 (by omega) (by omega))]; exact hp1⟩, ⟨_, upd_same, fun m hm => ?_⟩, by rw [upd_ne (ne 3 (by omega) (by omega))]; exact L.ths, fun k m => ?_, L.sm, L.srt, L.lt⟩
  · show PV K _ (if m = n then v else f m) (if m = n then a else M.names m)
    by_cases e : m = n
    · rw [if_pos e, if_pos e]; exact hv.mono tp
    · rw [if_neg e, if_neg e]; exact (h2 m hm).mono tp
  · have l : k < M.made := L.lt k m
    obtain ⟨t, dx, kvs, e1, e2, e3, e4⟩ := L.th k m
    exact ⟨t, dx, kvs, e1, by rw [upd_ne (ne _ (by omega) (by omega))]; exact e2, by rw [upd_ne (ne _ (by omega) (by omega))]; exact e3, e4.mono fun _ _ z => z.mono tp⟩
/-- the doer's own fields are others -/
theorem PM.doerSet (T : Tx w K mg base) {vm' vw' : V} {dx : Addr} (L : PM K H ad M ks vm vw) : PM K (upd H (ad 0) (.ins (He.ga K "Doer") dx (fs_Doer (.ref (ad 1)) vm' vw'))) ad M ks vm' vw' := by
  have w := L.own
  have l0 : 0 < 4 + 2 * M.made := by omega
  have tp : Refs K H (upd H (ad 0) (.ins (He.ga K "Doer") dx (fs_Doer (.ref (ad 1)) vm' vw'))) := w.refs l0
  have ne : ∀ i, i < 4 + 2 * M.made → i ≠ 0 → ad i ≠ ad 0 := fun i hi h => w.ne hi l0 h
  obtain ⟨dx1, hp1⟩ := L.heap
  refine ⟨w.set l0 T.ne_Doer trivial, ⟨dx, upd_same⟩, ⟨dx1, by rw [upd_ne (ne 1 (by omega) (by omega))]; exact hp1⟩, ?_, by rw [upd_ne (ne 3 (by omega) (by omega))]; exact L.ths, fun k m => ?_, L.sm, L.srt, L.lt⟩
  · obtain ⟨f, h1, h2⟩ := L.nms
    exact ⟨f, by rw [upd_ne (ne 2 (by omega) (by omega))]; exact h1, fun m hm => (h2 m hm).mono tp⟩
  · have l : k < M.made := L.lt k m
    obtain ⟨t, dx, kvs, e1, e2, e3, e4⟩ := L.th k m
    exact ⟨t, dx, kvs, e1, by rw [upd_ne (ne _ (by omega) (by omega))]; exact e2, by rw [upd_ne (ne _ (by omega) (by omega))]; exact e3, e4.mono fun _ _ z => z.mono tp⟩
/-- a thing's own dict elsewhere -/
def adS (ad : Nat → Addr) (k : Nat) (d : Addr) : Nat → Addr := fun i => if i = 5 + 2 * k then d else ad i
theorem adS_ne {i : Nat} {d : Addr} (h : i ≠ 5 + 2 * k) : adS ad k d i = ad i := if_neg h
theorem adS_at {d : Addr} : adS ad k d (5 + 2 * k) = d := if_pos rfl
theorem adS_self : adS ad k (ad (5 + 2 * k)) = ad := by
  funext i
  unfold adS
  split
  · rename_i h; rw [h]
  · rfl
/-- a thing is another: its own object, and its dict, which may lie elsewhere -/
theorem PM.repl (T : Tx w K mg base) (L : PM K H ad M ks vm vw) (m : k ∈ ks) {dx d : Addr} {kvs : List (Key × V)} (h1 : H' (ad (4 + 2 * k)) = some (.ins (He.ga K "Thing") dx (pth t' d))) (h2 : H' d = some (.dK kvs)) (hh : HR (PV K H) kvs t'.held) (hd : d = ad (5 + 2 * k) ∨ H d = none)
    (hk : ∀ b u, H b = some u → b ≠ ad (4 + 2 * k) → b ≠ ad (5 + 2 * k) → H' b = some u) : PM K H' (adS ad k d) (M.setTh k t') ks vm vw := by
  have w := L.own
  have l := L.lt k m
  have l4 : 4 + 2 * k < 4 + 2 * M.made := by omega
  have l5 : 5 + 2 * k < 4 + 2 * M.made := by omega
  have tp : Refs K H H' := fun p dx fs e => hk _ _ e (fun z => by have := w.chg l4; rw [← z, e] at this; exact this rfl) (fun z => by have := w.chg l5; rw [← z, e] at this; exact this rfl)
  have fd : ∀ i, i < 4 + 2 * M.made → i ≠ 5 + 2 * k → ad i ≠ d := fun i hi h z => by
    rcases hd with e | e
    · exact w.ne hi l5 h (z.trans e)
    · exact w.fresh hi e z
  have st : ∀ i o, i < 4 + 2 * M.made → i ≠ 4 + 2 * k → i ≠ 5 + 2 * k → H (ad i) = some o → H' (adS ad k d i) = some o := fun i o hi h4 h5 e => by
    rw [adS_ne h5]; exact hk _ _ e (w.ne hi l4 h4) (w.ne hi l5 h5)
  obtain ⟨dx0, h0⟩ := L.doer
  obtain ⟨dx1, hp1⟩ := L.heap
  refine ⟨⟨fun i hi => ?_, fun i j hi hj e => ?_⟩, ⟨dx0, ?_⟩, ⟨dx1, ?_⟩, ?_, ?_, fun j mj => ?_, L.sm, L.srt, L.lt⟩
  · have hi : i < 4 + 2 * M.made := hi
    by_cases h5 : i = 5 + 2 * k
    · rw [h5, adS_at]; exact ⟨_, h2, trivial, trivial⟩
    · by_cases h4 : i = 4 + 2 * k
      · rw [h4, adS_ne (by omega)]; exact ⟨_, h1, T.ne_Thing, trivial⟩
      · obtain ⟨o, h, c, t⟩ := w.live i hi
        exact ⟨o, st i o hi h4 h5 h, c, t⟩
  · have hi : i < 4 + 2 * M.made := hi
    have hj : j < 4 + 2 * M.made := hj
    by_cases i5 : i = 5 + 2 * k
    · by_cases j5 : j = 5 + 2 * k
      · omega
      · rw [i5, adS_at, adS_ne j5] at e
        exact absurd e.symm (fd j hj j5)
    · by_cases j5 : j = 5 + 2 * k
      · rw [j5, adS_at, adS_ne i5] at e
        exact absurd e (fd i hi i5)
      · rw [adS_ne i5, adS_ne j5] at e
        exact w.inj i j hi hj e
  · rw [adS_ne (i := 1) (by omega)]; exact st 0 _ (by omega) (by omega) (by omega) h0
  · rw [adS_ne (i := 2) (by omega), adS_ne (i := 3) (by omega)]; exact st 1 _ (by omega) (by omega) (by omega) hp1
  · obtain ⟨f, h1, h2⟩ := L.nms
    exact ⟨f, st 2 _ (by omega) (by omega) (by omega) h1, fun m hm => (h2 m hm).mono tp⟩
  · have e : (ks.map fun (j : Nat) => ((.inl (j : Int) : Key), V.ref (adS ad k d (4 + 2 * j)))) = ks.map fun (j : Nat) => ((.inl (j : Int) : Key), V.ref (ad (4 + 2 * j))) := List.map_congr_left fun j _ => by rw [adS_ne (by omega)]
    rw [e]
    exact st 3 _ (by omega) (by omega) (by omega) L.ths
  · have lj := L.lt j mj
    obtain ⟨u, dxu, kv2, u1, u2, u3, u4⟩ := L.th j mj
    by_cases ej : j = k
    · subst ej
      exact ⟨t', dx, kvs, by show (if j = j then some _ else _) = _; rw [if_pos rfl], by rw [adS_ne (by omega), adS_at]; exact h1, by rw [adS_at]; exact h2, hh.mono fun _ _ z => z.mono tp⟩
    · exact ⟨u, dxu, kv2, by show (if j = k then some _ else M.things j) = _; rw [if_neg ej]; exact u1, by rw [adS_ne (i := 5 + 2 * j) (by omega)]; exact st _ _ (by omega) (by omega) (by omega) u2, st _ _ (by omega) (by omega) (by omega) u3, u4.mono fun _ _ z => z.mono tp⟩
/-- a thing's own fields are others, of the same kind, holding the same -/
theorem PM.setTh (T : Tx w K mg base) {dx : Addr} (L : PM K H ad M ks vm vw) (m : k ∈ ks) (e : M.things k = some t) (e2 : t'.held = t.held) : PM K (upd H (ad (4 + 2 * k)) (.ins (He.ga K "Thing") dx (pth t' (ad (5 + 2 * k))))) ad (M.setTh k t') ks vm vw := by
  have w := L.own
  have l := L.lt k m
  obtain ⟨dx0, kvs, g1, g2, g3⟩ := L.get e m
  have r := L.repl (H' := upd H (ad (4 + 2 * k)) (.ins (He.ga K "Thing") dx (pth t' (ad (5 + 2 * k))))) (t' := t') T m upd_same (by rw [upd_ne (w.ne (by omega) (by omega) (by omega))]; exact g2) (by rw [e2]; exact g3) (.inl rfl) fun b u h n _ => by rw [upd_ne n]; exact h
  rw [adS_self] at r
  exact r
/-- what a thing holds is another, in the same dict -/
theorem PM.setHeld (T : Tx w K mg base) {h' : List (Key × AV)} {kvs' : List (Key × V)} (L : PM K H ad M ks vm vw) (m : k ∈ ks) (e : M.things k = some t) (hh : HR (PV K H) kvs' h') : PM K (upd H (ad (5 + 2 * k)) (.dK kvs')) ad (M.setTh k { t with held := h' }) ks vm vw := by
  have w := L.own
  have l := L.lt k m
  obtain ⟨dx0, kvs, g1, g2, g3⟩ := L.get e m
  have r := L.repl (H' := upd H (ad (5 + 2 * k)) (.dK kvs')) (t' := { t with held := h' }) T m (d := ad (5 + 2 * k)) (dx := dx0) (by rw [upd_ne (w.ne (by omega) (by omega) (by omega))]; exact g1) upd_same hh (.inl rfl) fun b u h _ n => by rw [upd_ne n]; exact h
  rw [adS_self] at r
  exact r
/-- where the next thing comes to lie -/
def adP (ad : Nat → Addr) (m : Nat) (x d : Addr) : Nat → Addr := fun i => if i = 5 + 2 * m then d else if i = 4 + 2 * m then x else ad i
theorem PM.make (T : Tx w K mg base) {kd : Str} {x d dxx dx1 : Addr} {kvs : List (Key × V)} (L : PM K H ad M ks vm vw) (hx : H x = none) (hd : H d = none) (nxd : x ≠ d) (g1 : H' (ad 1) = some (.ins (He.ga K "Heap") dx1 (fs_Heap (.ref (ad 2)) (.ref (ad 3)) (.int ((M.made + 1 : Nat) : Int)))))
    (g3 : H' (ad 3) = some (.dK ((ks.map fun (k : Nat) => ((.inl (k : Int) : Key), V.ref (ad (4 + 2 * k)))) ++ [(.inl (M.made : Int), .ref x)]))) (gx : H' x = some (.ins (He.ga K "Thing") dxx (pth (newTh kd none) d))) (gd : H' d = some (.dK kvs)) (hh : HR (PV K H') kvs (newTh kd none).held) (hk : ∀ b u, H b = some u → b ≠ ad 1 → b ≠ ad 3 → H' b = some u) (sm : M.made < 9000) :
    PM K H' (adP ad M.made x d) (M.mk1 kd none) (ks ++ [M.made]) vm vw := by
  have w := L.own
  have l1 : 1 < 4 + 2 * M.made := by omega
  have l3 : 3 < 4 + 2 * M.made := by omega
  have na : ∀ i, i < 4 + 2 * M.made → adP ad M.made x d i = ad i := fun i hi => by unfold adP; rw [if_neg (by omega), if_neg (by omega)]
  have n4 : adP ad M.made x d (4 + 2 * M.made) = x := by unfold adP; rw [if_neg (by omega), if_pos rfl]
  have n5 : adP ad M.made x d (5 + 2 * M.made) = d := by unfold adP; rw [if_pos rfl]
  have ax : ∀ i, i < 4 + 2 * M.made → ad i ≠ x := fun i hi => w.fresh hi hx
  have fd : ∀ i, i < 4 + 2 * M.made → ad i ≠ d := fun i hi => w.fresh hi hd
  have tp : Refs K H H' := fun p dx fs e => hk _ _ e (fun z => by have := w.chg l1; rw [← z, e] at this; exact this rfl) (fun z => by have := w.chg l3; rw [← z, e] at this; exact this rfl)
  have st : ∀ i o, i < 4 + 2 * M.made → i ≠ 1 → i ≠ 3 → H (ad i) = some o → H' (ad i) = some o := fun i o hi h4 h5 e => hk _ _ e (w.ne hi l1 h4) (w.ne hi l3 h5)
  have mm : (M.mk1 kd none).made = M.made + 1 := rfl
  have n0 := na 0 (by omega)
  have n1 := na 1 (by omega)
  have n2 := na 2 (by omega)
  have n3 := na 3 (by omega)
  obtain ⟨dx0, h0⟩ := L.doer
  refine ⟨?_, ⟨dx0, by rw [n0, n1]; exact st 0 _ (by omega) (by omega) (by omega) h0⟩, ⟨dx1, by rw [n1, n2, n3, mm]; exact g1⟩, ?_, ?_, fun j mj => ?_, by rw [mm]; omega, ?_, fun k m => ?_⟩
  · rw [mm]
    refine ⟨fun i hi => ?_, fun i j hi hj e => ?_⟩
    · by_cases i5 : i = 5 + 2 * M.made
      · rw [i5, n5]; exact ⟨_, gd, trivial, trivial⟩
      · by_cases i4 : i = 4 + 2 * M.made
        · rw [i4, n4]; exact ⟨_, gx, T.ne_Thing, trivial⟩
        · have hi' : i < 4 + 2 * M.made := by omega
          rw [na i hi']
          by_cases i1 : i = 1
          · rw [i1]; exact ⟨_, g1, T.ne_Heap, trivial⟩
          · by_cases i3 : i = 3
            · rw [i3]; exact ⟨_, g3, trivial, trivial⟩
            · obtain ⟨u, h, c', t'⟩ := w.live i hi'
              exact ⟨u, st i _ hi' i1 i3 h, c', t'⟩
    · have cs : ∀ i, i < 4 + 2 * (M.made + 1) → i = 5 + 2 * M.made ∨ i = 4 + 2 * M.made ∨ i < 4 + 2 * M.made := fun i hi => by omega
      rcases cs i hi with i1 | i1 | i1 <;> rcases cs j hj with j1 | j1 | j1
      · omega
      · rw [i1, j1, n5, n4] at e; exact absurd e.symm nxd
      · rw [i1, n5, na j j1] at e; exact absurd e.symm (fd j j1)
      · rw [i1, j1, n5, n4] at e; exact absurd e nxd
      · omega
      · rw [i1, n4, na j j1] at e; exact absurd e.symm (ax j j1)
      · rw [j1, n5, na i i1] at e; exact absurd e (fd i i1)
      · rw [j1, n4, na i i1] at e; exact absurd e (ax i i1)
      · rw [na i i1, na j j1] at e; exact w.inj i j i1 j1 e
  · obtain ⟨f, h1, h2⟩ := L.nms
    rw [n2]
    exact ⟨f, st 2 _ (by omega) (by omega) (by omega) h1, fun m hm => (h2 m hm).mono tp⟩
  · rw [n3, g3, List.map_append]
    congr 3
    · refine List.map_congr_left fun k hk => ?_
      have := L.lt k hk
      rw [na _ (by omega)]
    · show [((Sum.inl (M.made : Int) : Key), V.ref x)] = [((Sum.inl (M.made : Int) : Key), V.ref (adP ad M.made x d (4 + 2 * M.made)))]
      rw [n4]
  · rcases List.mem_append.mp mj with mj | mj
    · have lj := L.lt j mj
      obtain ⟨u, dxu, kv2, u1, u2, u3, u4⟩ := L.th j mj
      exact ⟨u, dxu, kv2, by show (if j = M.made then some _ else M.things j) = _; rw [if_neg (by omega)]; exact u1, by rw [na _ (by omega), na _ (by omega)]; exact st _ _ (by omega) (by omega) (by omega) u2, by rw [na _ (by omega)]; exact st _ _ (by omega) (by omega) (by omega) u3, u4.mono fun _ _ z => z.mono tp⟩
    · rw [List.mem_singleton] at mj
      subst mj
      exact ⟨_, dxx, kvs, by show (if M.made = M.made then some _ else _) = _; rw [if_pos rfl], by rw [n4, n5]; exact gx, by rw [n5]; exact gd, hh⟩
  · rw [List.pairwise_append]
    refine ⟨L.srt, List.pairwise_singleton _ _, fun a ma b mb => ?_⟩
    rw [List.mem_singleton] at mb
    subst mb
    exact L.lt a ma
  · rw [mm]
    rcases List.mem_append.mp m with m | m
    · have := L.lt k m; omega
    · rw [List.mem_singleton] at m; omega
end
theorem same_fresh {H H1 : Hp} {a : Addr} {o : HO} (s : Same H H1) (ha : H a = none) : Same H (upd H1 a o) := fun b u e => by
  rw [upd_ne fun z => by rw [z, ha] at e; cases e]
  exact s _ _ e
theorem same_none {H H1 : Hp} {a : Addr} (s : Same H H1) (h : H1 a = none) : H a = none := by
  cases e : H a with
  | none => rfl
  | some o => rw [s _ _ e] at h; cases h
theorem adP_lt {ad : Nat → Addr} {m i : Nat} {x d : Addr} (h : i < 4 + 2 * m) : adP ad m x d i = ad i := by unfold adP; rw [if_neg (by omega), if_neg (by omega)]
theorem adP_x {ad : Nat → Addr} {m : Nat} {x d : Addr} : adP ad m x d (4 + 2 * m) = x := by unfold adP; rw [if_neg (by omega), if_pos rfl]
theorem adP_d {ad : Nat → Addr} {m : Nat} {x d : Addr} : adP ad m x d (5 + 2 * m) = d := by unfold adP; rw [if_pos rfl]
theorem upd_none {H : Hp} {a x : Addr} {o : HO} (h : upd H a o x = none) : H x = none := by
  by_cases e : x = a
  · subst e; rw [upd_same] at h; cases h
  · rw [upd_ne e] at h; exact h
/-- what a deed makes of the program's heap -/
structure PRes (K : PySem.W.Frag) (H : Hp) (ad : Nat → Addr) (M : HM) (H' : Hp) (ad' : Nat → Addr) (M' : HM) (ks' : List Nat) (vm vw : V) : Prop where
  pm : PM K H' ad' M' ks' vm vw
  a0 : ad' 0 = ad 0
  a1 : ad' 1 = ad 1
  new : New H (PF ad M) (PF ad' M')
  fr : Fr K (PF ad M) H H'
  kp : ∀ x, H' x = none → H x = none
section
variable {H H1 H2 : Hp} {ad ad1 ad2 : Nat → Addr} {M M1 M2 : HM} {ks ks1 ks2 : List Nat} {vm vw vm1 vw1 vm2 vw2 v : V} {n : Str} {a : AV} {t t' : Th} {k : Nat}
theorem PRes.refl (L : PM K H ad M ks vm vw) : PRes K H ad M H ad M ks vm vw := ⟨L, rfl, rfl, New.refl, Fr.refl, fun _ h => h⟩
theorem PRes.same (L : PM K H ad M ks vm vw) (s : Same H H1) : PRes K H ad M H1 ad M ks vm vw := ⟨L.same s, rfl, rfl, New.refl, Fr.same s, fun _ h => same_none s h⟩
theorem PRes.trans (a : PRes K H ad M H1 ad1 M1 ks1 vm1 vw1) (b : PRes K H1 ad1 M1 H2 ad2 M2 ks2 vm2 vw2) : PRes K H ad M H2 ad2 M2 ks2 vm2 vw2 :=
  ⟨b.pm, b.a0.trans a.a0, b.a1.trans a.a1, fun x h => (b.new x h).elim (a.new x) fun z => .inr (a.kp x z), a.fr.trans b.fr fun x h => a.new x h, fun x h => a.kp x (b.kp x h)⟩
theorem PRes.then (a : PRes K H ad M H1 ad1 M1 ks1 vm1 vw1) (s : Same H1 H2) : PRes K H ad M H2 ad1 M1 ks1 vm1 vw1 := a.trans (PRes.same a.pm s)
/-- a change inside the footprint -/
theorem PRes.upd {i : Nat} {o : HO} (L : PM K H ad M ks vm vw) (hi : i < 4 + 2 * M.made) (L1 : PM K (L2.upd H (ad i) o) ad M1 ks1 vm1 vw1) (em : M1.made = M.made) : PRes K H ad M (L2.upd H (ad i) o) ad M1 ks1 vm1 vw1 :=
  ⟨L1, rfl, rfl, fun x h => .inl (by have h : Foot ad (4 + 2 * M1.made) x := h; rw [em] at h; exact h), Fr.upd ⟨i, hi, rfl⟩ (L.own.chg hi), fun _ h => upd_none h⟩
theorem PRes.make {x d : Addr} (L1 : PM K H1 (adP ad M.made x d) M1 ks1 vm1 vw1) (em : M1.made = M.made + 1) (hx : H x = none) (hd : H d = none) (f : Fr K (PF ad M) H H1) (kp : ∀ x, H1 x = none → H x = none) : PRes K H ad M H1 (adP ad M.made x d) M1 ks1 vm1 vw1 := by
  refine ⟨L1, adP_lt (by omega), adP_lt (by omega), fun b h => ?_, f, kp⟩
  obtain ⟨i, hi, rfl⟩ := h
  rw [em] at hi
  by_cases c5 : i = 5 + 2 * M.made
  · rw [c5, adP_d]; exact .inr hd
  · by_cases c4 : i = 4 + 2 * M.made
    · rw [c4, adP_x]; exact .inr hx
    · rw [adP_lt (by omega)]; exact .inl ⟨i, by omega, rfl⟩
end
end

section
variable {P : Program} {w : World} {K : PySem.W.Frag} {mg : Str → Option Value} {base : Heap}
theorem glo_of {x : Str} {a : Addr} (h : ∃ u, mg x = some u ∧ RelV (.ref a) u) : mg x = some (.ref a) := by
  obtain ⟨u, e, r⟩ := h
  obtain rfl := (show u = Value.ref a from r)
  exact e
abbrev spRefInit (K : PySem.W.Frag) : Sp := Sp2 fun x y H Q => ∃ (a dx : Addr) (i : Int), x = .ref a ∧ y = .int i ∧ H a = some (.ins (He.ga K "Ref") dx []) ∧ Q .non (upd H a (.ins (He.ga K "Ref") dx (fs_Ref (.int i))))
theorem mak_Ref (T : Tx w K mg base) : Mak P w K mg base 1 "Ref" (He.ga K "Ref") (spRefInit K) [] := by
  obtain ⟨fd, F⟩ := T.fn_Ref_init
  refine mak_of T.mk_Ref (glo_of T.k_Ref) F sc_Ref_init (F.bindsN fun _ _ _ _ _ _ us hl => match us, hl with | [_, _], _ => rfl) (fun vs H Q E h => h.len) (fun cdv A outer s H vs Q E hr h => ?_)
  obtain ⟨x, y, rfl, a, dx, i, rfl, rfl, ha, q⟩ := h
  have hu := hu_of hr
  have nd := sc_Ref_init.nd
  refine ⟨_, (pss_one (ps_fld (pv 0) (pv 1) rfl)), ?_⟩
  walk_at "st"
  exact q
abbrev spTold (K : PySem.W.Frag) : Sp := Sp1 fun x H Q => ∃ a : AV, PV K H x a ∧ ∀ (v : V) (H' : Hp), LV H' v a → Same H H' → Q v H'
theorem cal_value_told (T : Tx w K mg base) : Cal P w K mg base 1 "value_told" (spTold K) [] := by
  obtain ⟨fd, F⟩ := T.fn_value_told
  refine cal_of F T.g_value_told sc_value_told (F.bindsN fun _ _ _ _ _ _ us hl => match us, hl with | [_], _ => rfl) (fun vs H Q E h => h.len) (fun cdv A outer s H vs Q E hr h => ?_)
  obtain ⟨x, rfl, a, hv, q⟩ := h
  have hu := hu_of hr
  have nd := sc_value_told.nd
  refine ⟨_, (pss_one (ps_ret (pe_ifExp (pt_val (pe_callB call_isi (by rfl) T.n_isinstance (by decide +kernel) (pa_cons (pv 0) (pa_cons (pe_gc rfl T.k_Ref) pa_nil)))) (pe_tup (pa_cons pe_str (pa_cons (pe_fld (pv 0) rfl) pa_nil))) (pv 0)))), ?_⟩
  walk_at "st"
  refine y_isR T hv ?_
  cases a with
  | non =>
    dsimp only [isTh]
    walk_at "rd"
    exact q _ H hv (fun _ _ z => z)
  | num i =>
    dsimp only [isTh]
    walk_at "rd"
    exact q _ H hv (fun _ _ z => z)
  | th k =>
    obtain ⟨p, dx, rfl, hp⟩ := hv
    dsimp only [isTh]
    walk_at "rd"
    intro t ht
    exact q _ _ ⟨t, rfl, upd_same⟩ (Same.new ht)
abbrev spPHas (K : PySem.W.Frag) : Sp := Sp2 fun x y H Q => ∃ (a dx d : Addr) (t : Th) (kvs : List (Key × V)) (p : Key), x = .ref a ∧ y = kV p ∧ H a = some (.ins (He.ga K "Thing") dx (pth t d)) ∧ H d = some (.dK kvs) ∧ HR (PV K H) kvs t.held ∧ Q (.bl (t.has p)) H
theorem met_Thing_has (T : Tx w K mg base) : Met P w K mg base 1 (He.ga K "Thing") "has" (spPHas K) [] := by
  obtain ⟨fd, F⟩ := T.fn_Thing_has
  refine met_of T.cl_Thing T.me_Thing_has F sc_Thing_has (F.bindsN fun _ _ _ _ _ _ us hl => match us, hl with | [_, _], _ => rfl) (fun vs H Q E h => h.len) (fun cdv A outer s H vs Q E hr h => ?_)
  obtain ⟨x, y, rfl, a, dx, d, t, kvs, p, rfl, rfl, ha, hd, r, q⟩ := h
  have hu := hu_of hr
  have nd := sc_Thing_has.nd
  refine ⟨_, (pss_one (ps_ret (pe_cmp (pc_din hu (pv 1) (pe_fld (pv 0) rfl))))), ?_⟩
  unfold pth at ha
  walk_at "st"
  refine y_din (.inl hd) rfl ?_
  rw [r.isSome]
  exact q
end
section
variable {P : Program} {w : World} {K : PySem.W.Frag} {mg : Str → Option Value} {base : Heap}
/-- keys that are all ints -/
theorem inl_keys : ∀ {l : List Key}, (∀ k ∈ l, ∃ i : Int, k = .inl i) → ∃ ks : List Int, l = ks.map Sum.inl
  | [], _ => ⟨[], rfl⟩
  | k :: l, g => by
    obtain ⟨i, rfl⟩ := g k (List.mem_cons_self ..)
    obtain ⟨ks, e⟩ := inl_keys (l := l) fun k m => g k (List.mem_cons_of_mem _ m)
    exact ⟨i :: ks, by rw [e]; rfl⟩
theorem Th.Ok.nodup {t : Th} {m : Nat} (ot : t.Ok m) : (t.held.map (·.1)).Nodup := by
  rcases ot.kd with e | e | e | e
  · rw [ot.recd e]; decide
  · obtain ⟨vs, ev⟩ := (ot.row e).1
    rw [ev, rowOf_keys]
    exact List.pairwise_map.mpr (List.nodup_range.imp fun h z => h (by have : ((_ : Nat) : Int) = _ := Sum.inl.inj z; omega))
  · exact (ot.book e).2.1
  · rw [(ot.wat e).1]; exact List.nodup_nil
theorem HR.perm {VV : V → AV → Prop} {k1 k2 : List (Key × V)} (p : k1.Perm k2) : ∀ {h : List (Key × AV)}, HR VV k2 h → ∃ hs, HR VV k1 hs ∧ hs.Perm h := by
  induction p with
  | nil => intro h r; exact ⟨h, r, .refl _⟩
  | cons x _ ih =>
    intro h r
    cases r with
    | cons a b =>
      obtain ⟨hs, r', p'⟩ := ih b
      exact ⟨_ :: hs, .cons a r', p'.cons _⟩
  | swap x y l =>
    intro h r
    cases r with
    | cons a b =>
      cases b with
      | cons c d => exact ⟨_, .cons c (.cons a d), .swap _ _ _⟩
  | trans _ _ ih1 ih2 =>
    intro h r
    obtain ⟨hs, r', p'⟩ := ih2 r
    obtain ⟨hs2, r2, p2⟩ := ih1 r'
    exact ⟨hs2, r2, p2.trans p'⟩
theorem valV_mem : ∀ {kvs : List (Key × V)} {k : Key} {v : V}, (kvs.map (·.1)).Nodup → (k, v) ∈ kvs → valV kvs k = some v
  | [], _, _, _, m => by cases m
  | p :: kvs, k, v, nd, m => by
    rw [List.map_cons] at nd
    have nd := List.nodup_cons.mp nd
    rcases List.mem_cons.mp m with e | m
    · subst e; exact valV_pos rfl
    · rw [valV_neg fun z => nd.1 (z ▸ List.mem_map.mpr ⟨_, m, rfl⟩)]
      exact valV_mem nd.2 m
theorem pairs_perm {kvs ps : List (Key × V)} (nd : (kvs.map (·.1)).Nodup) (p : (ps.map (·.1)).Perm (kvs.map (·.1))) (h : ∀ z ∈ ps, valV kvs z.1 = some z.2) : ps.Perm kvs := by
  have f : ∀ l : List (Key × V), (∀ z ∈ l, valV kvs z.1 = some z.2) → l = (l.map (·.1)).map fun k => (k, (valV kvs k).getD .non) := fun l hl => by
    rw [List.map_map]
    conv => lhs; rw [← List.map_id l]
    refine List.map_congr_left fun z m => ?_
    show z = (z.1, (valV kvs z.1).getD .non)
    rw [hl z m]
    rfl
  have q := p.map fun k => (k, (valV kvs k).getD V.non)
  rw [← f ps h, ← f kvs fun z m => valV_mem nd m] at q
  exact q
theorem sorted_lts {ys : List Str} (p : ys.Perm LTS) (s : sortedS ys = true) : ys = LTS := by
  have hl : ys.length = 4 := p.length_eq
  have nd : ys.Nodup := p.nodup_iff.mpr (by decide)
  have hm : ∀ y ∈ ys, y ∈ LTS := fun y m => p.mem_iff.mp m
  match ys, hl, nd, hm, s with
  | [a, b, c, d], _, nd, hm, s =>
    have all : ∀ a ∈ LTS, ∀ b ∈ LTS, ∀ c ∈ LTS, ∀ d ∈ LTS, sortedS [a, b, c, d] = true → [a, b, c, d].Nodup → [a, b, c, d] = LTS := by decide +kernel
    exact all a (hm a (by simp)) b (hm b (by simp)) c (hm c (by simp)) d (hm d (by simp)) s nd
theorem kLe_int {i j : Int} : kLe (.inl i) (.inl j) = true ↔ i ≤ j := by
  have e : kLe (.inl i) (.inl j) = !decide (j < i) := by
    show (!PyProof.Rows.lexLt PyProof.Rows.itemOrd [.inl j] [.inl i]) = !decide (j < i)
    unfold PyProof.Rows.lexLt
    show (!(decide (j < i) || (!decide (i < j) && false))) = _
    rw [Bool.and_false, Bool.or_false]
  rw [e]
  by_cases c : j < i
  · rw [decide_eq_true c]; exact ⟨fun z => (by cases z), fun z => by omega⟩
  · rw [decide_eq_false c]; exact ⟨fun _ => by omega, fun _ => rfl⟩
theorem kLe_lts : (LTS.map fun n => (Sum.inr n : Key)).Pairwise fun a b => kLe a b = true := by decide +kernel
theorem rec_parts {t : Th} {m : Nat} (ot : t.Ok m) (k : t.kind = RECORD) : partsOf t = t.held := by
  unfold partsOf
  rw [if_neg (fun z => kinds_ne.1 (k.symm.trans z))]
  refine List.mergeSort_of_pairwise ?_
  have h := kLe_lts
  rw [← ot.recd k, List.pairwise_map] at h
  exact h
theorem int_parts {t : Th} {m : Nat} (ot : t.Ok m) (k : t.kind ≠ RECORD) : (partsOf t).Pairwise fun a b => ∃ i j : Int, a.1 = .inl i ∧ b.1 = .inl j ∧ i ≤ j := by
  rcases ot.kd with e | e | e | e
  · exact absurd e k
  · unfold partsOf
    rw [if_pos e]
    obtain ⟨vs, ev⟩ := (ot.row e).1
    rw [ev]
    have h : ((rowOf vs).map (·.1)).Pairwise fun a b => ∃ i j : Int, a = .inl i ∧ b = .inl j ∧ i ≤ j := by
      rw [rowOf_keys, List.pairwise_map]
      exact List.pairwise_lt_range.imp fun h => ⟨_, _, rfl, rfl, by omega⟩
    exact List.pairwise_map.mp h
  · unfold partsOf
    rw [if_neg (fun z => kinds_ne.2.2.2.1 (z.symm.trans e))]
    have hk : ∀ x ∈ t.held.mergeSort keyLe, ∃ i : Int, x.1 = .inl i := fun x m => by
      obtain ⟨i, ei, _⟩ := (ot.book e).1 x.1 (List.mem_map.mpr ⟨x, (List.mergeSort_perm _ _).mem_iff.mp m, rfl⟩)
      exact ⟨i, ei⟩
    have tl := PySem.W.sortLe_total (PyProof.Rows.listOrd PyProof.Rows.itemOrd) false fun b : Key => PySem.W.keyToks (keyD b)
    have srt := List.pairwise_mergeSort (le := (keyLe : Key × AV → Key × AV → Bool)) (fun a b c => tl.trans a.1 b.1 c.1) (fun a b => by rw [Bool.or_eq_true]; exact tl.total a.1 b.1) t.held
    refine (List.Pairwise.imp_of_mem ?_ srt)
    intro a b ma mb h
    obtain ⟨i, ei⟩ := hk a ma
    obtain ⟨j, ej⟩ := hk b mb
    refine ⟨i, j, ei, ej, ?_⟩
    have h : kLe a.1 b.1 = true := h
    rw [ei, ej] at h
    exact kLe_int.mp h
  · unfold partsOf
    rw [if_neg (fun z => kinds_ne.2.2.2.2.1 (z.symm.trans e)), (ot.wat e).1, List.mergeSort_nil]
    exact List.Pairwise.nil
theorem keys_one {h1 h2 : List (Key × AV)} (p : h1.Perm h2) (nd : (h2.map (·.1)).Nodup) (e : h1.map (·.1) = h2.map (·.1)) : h1 = h2 := by
  induction h2 generalizing h1 with
  | nil => exact p.eq_nil
  | cons b h2 ih =>
    cases h1 with
    | nil => cases p.symm.eq_nil
    | cons a h1 =>
      rw [List.map_cons, List.map_cons] at e
      injection e with e1 e2
      rw [List.map_cons] at nd
      have nd := List.nodup_cons.mp nd
      have ab : a = b := by
        rcases List.mem_cons.mp (p.mem_iff.mp (List.mem_cons_self ..)) with h | h
        · exact h
        · exact absurd (List.mem_map.mpr ⟨a, h, e1⟩) nd.1
      subst ab
      rw [ih (List.Perm.cons_inv p) nd.2 e2]
/-- parts by rising int keys are put in one way only -/
theorem rise_one {h1 h2 : List (Key × AV)} (p : h1.Perm h2) (nd : (h2.map (·.1)).Nodup) (s1 : h1.Pairwise fun a b => ∃ i j : Int, a.1 = .inl i ∧ b.1 = .inl j ∧ i ≤ j) (s2 : h2.Pairwise fun a b => ∃ i j : Int, a.1 = .inl i ∧ b.1 = .inl j ∧ i ≤ j) : h1 = h2 := by
  refine p.eq_of_pairwise (fun a b ma mb r1 r2 => ?_) s1 s2
  obtain ⟨i, j, e1, e2, l1⟩ := r1
  obtain ⟨i', j', e3, e4, l2⟩ := r2
  rw [e1] at e4
  rw [e2] at e3
  cases e3
  cases e4
  have e : a.1 = b.1 := by rw [e1, e2]; congr 1; omega
  have ma := p.mem_iff.mp ma
  have key : ∀ {l : List (Key × AV)}, (l.map (·.1)).Nodup → ∀ {a b}, a ∈ l → b ∈ l → a.1 = b.1 → a = b := by
    intro l
    induction l with
    | nil => intro _ a b m; cases m
    | cons x l ih =>
      intro nd a b ma mb e
      rw [List.map_cons] at nd
      have nd := List.nodup_cons.mp nd
      rcases List.mem_cons.mp ma with ea | ma <;> rcases List.mem_cons.mp mb with eb | mb
      · rw [ea, eb]
      · exact absurd (List.mem_map.mpr ⟨b, mb, by rw [← e, ea]⟩) nd.1
      · exact absurd (List.mem_map.mpr ⟨a, ma, by rw [e, eb]⟩) nd.1
      · exact ih nd.2 ma mb e
  exact key nd ma mb e
/-- the pairs that a thing's parts tell: those of its dict by its keys, put in order -/
abbrev spPParts (K : PySem.W.Frag) : Sp := Sp1 fun x H Q => ∃ (a dx d : Addr) (t : Th) (m : Nat) (kvs : List (Key × V)), x = .ref a ∧ H a = some (.ins (He.ga K "Thing") dx (pth t d)) ∧ H d = some (.dK kvs) ∧ HR (PV K H) kvs t.held ∧ t.Ok m ∧
  ∀ (l : Addr) (ps : List (Addr × Key × V)) (hs : List (Key × AV)) (H' : Hp), Same H H' → H' l = some (.lst (ps.map fun z => V.ref z.1)) → HR (PV K H) (ps.map (·.2)) hs → hs.Perm t.held → (∀ z ∈ ps, H' z.1 = some (.tup [kV z.2.1, z.2.2])) → hs = partsOf t → Q (.ref l) H'
theorem met_Thing_parts (T : Tx w K mg base) : Met P w K mg base 1 (He.ga K "Thing") "parts" (spPParts K) [] := by
  obtain ⟨fd, F⟩ := T.fn_Thing_parts
  refine met_of T.cl_Thing T.me_Thing_parts F sc_Thing_parts (F.bindsN fun _ _ _ _ _ _ us hl => match us, hl with | [_], _ => rfl) (fun vs H Q E h => h.len) (fun cdv A outer s H vs Q E hr h => ?_)
  obtain ⟨x, rfl, a, dx, d, t, m, kvs, rfl, ha, hd, r, ot, q⟩ := h
  have hu := hu_of hr
  have nd := sc_Thing_parts.nd
  refine ⟨_, (pss_one (ps_ret (pe_lc (own := [("part", 1)]) (by rfl) nd (pi_list (pe_ei (pe_callB (call_sortedD rfl) (by rfl) T.n_sorted (by decide +kernel) (pa_cons (pe_fld (pv 0) rfl) pa_nil)) (pe_callB (call_sortedDN rfl) (by rfl) T.n_sorted (by decide +kernel) (pa_cons (pe_fld (pv 0) rfl) pa_nil)))) (blkOk_by (own := [("part", 1)]) (N := N_Thing_parts) (sc := (C8.fnScope s_Thing_parts)) (by decide +kernel)) (fun _ _ _ _ _ => (pg_name (i := 1) nd rfl (Or.inl rfl))) (fun _ _ _ _ _ => pts_nil) (fun _ _ _ _ _ => (pe_tup (pa_cons (pv 1) (pa_cons (pe_dget hu (pe_fldK (K := K) rfl (pe_fld (pv 0) rfl)) (pv 1) (fun _ _ => rfl)) pa_nil))))))), ?_⟩
  unfold pth at ha
  walk_at "st"
  have nk : (kvs.map (·.1)).Nodup := by rw [HR.keys r]; exact ot.nodup
  have kl : kvs.length ≤ 8 := by rw [r.len]; exact ot.len
  have core : ∀ (ys : List Key) (p : Addr) (H1 : Hp), Same H H1 → H1 p = some (.lst (ys.map kV)) → ys.Perm (kvs.map (·.1)) → (∀ hs : List (Key × AV), hs.Perm t.held → hs.map (·.1) = ys → hs = partsOf t) → rLc (gName 1) tYes (tTup (tCons (tVar 1) (tCons (tDGet (tFld K (tVar 0) "held") (tVar 1)) tNil))) [1] Q (Itl K p) (start N_Thing_parts [V.ref a]) H1 := by
    intro ys p H1 s1 hp pm hone
    have yl : ys.length ≤ 8 := by rw [pm.length_eq, List.length_map]; exact kl
    refine y_lcL (xs := ys.map kV) (fun D i acc H' => Same H1 H' ∧ ∃ ps : List (Addr × Key × V), acc = ps.map (fun z => V.ref z.1) ∧ (ps.map (·.2)).map (·.1) = ys.take i ∧ ∀ z ∈ ps, H' z.1 = some (.tup [kV z.2.1, z.2.2]) ∧ valV kvs z.2.1 = some z.2.2) (fun D hD => ⟨Same.new hD, [], rfl, rfl, fun z m => by cases m⟩) (fun D i acc H' hD _ p => sqL (p.1 _ _ hp)) ?_ ?_
    · rintro D i x acc H2 hD hi hDl hle ⟨s2, ps, rfl, e2, ht⟩
      rw [List.getElem?_map] at hi
      obtain ⟨k, hk, rfl⟩ := Option.map_eq_some_iff.mp hi
      have il := (List.getElem?_eq_some_iff.mp hk).1
      have km : k ∈ kvs.map (·.1) := pm.mem_iff.mp (List.mem_of_getElem? hk)
      obtain ⟨⟨k', v⟩, mk, rfl⟩ := List.mem_map.mp km
      have hv := valV_mem nk mk
      have ha2 := s2 _ _ (s1 _ _ ha)
      have hd2 := s2 _ _ (s1 _ _ hd)
      refine y_turn ?_
      walk_at "rd"
      refine ⟨rfl, y_yes (y_tt ?_)⟩
      walk_at "rd"
      refine y_dgetK hd2 hv ?_
      walk_at "rd"
      intro q1 hq1
      have np : D ≠ q1 := fun z => by rw [← z, hDl] at hq1; cases hq1
      refine y_put (by rw [upd_ne np]; exact hDl) hle (by omega) ⟨fun b u e => ?_, ps ++ [(q1, k', v)], by rw [List.map_append]; rfl, by rw [take_snoc hk, List.map_append, List.map_append, e2]; rfl, fun z m => ?_⟩
      · rw [upd_ne fun z => by rw [z, hD] at e; cases e]
        exact Same.new hq1 _ _ (s2 _ _ e)
      · rcases List.mem_append.mp m with m | m
        · obtain ⟨h1, h2⟩ := ht z m
          exact ⟨by rw [upd_ne fun y => by rw [y, hDl] at h1; cases h1]; exact Same.new hq1 _ _ h1, h2⟩
        · rw [List.mem_singleton] at m
          subst m
          exact ⟨by rw [upd_ne np.symm, upd_same], hv⟩
    · rintro D acc H2 hD hDl ⟨s2, ps, rfl, e2, ht⟩
      rw [List.length_map, List.take_length] at e2
      have pk : ((ps.map (·.2))).Perm kvs := pairs_perm nk (by rw [e2]; exact pm) fun z m => by
        obtain ⟨y, my, rfl⟩ := List.mem_map.mp m
        exact (ht y my).2
      obtain ⟨hs, hr1, hr2⟩ := HR.perm pk r
      exact q D ps hs H2 (s1.trans s2) hDl hr1 hr2 (fun z m => (ht z m).1) (hone hs hr2 (by rw [← HR.keys hr1, e2]))
  rcases Classical.em (t.kind = RECORD) with kd | kd
  · refine x_e1 ?_
    walk_at "rd"
    refine ⟨d, kvs, LTS, rfl, .inl hd, by rw [HR.keys r, ot.recd kd], by decide, fun ys p pm srt hp => ?_⟩
    refine y_iL (sqL upd_same) ?_
    exact core (ys.map Sum.inr) p _ (Same.new hp) (by rw [upd_same, List.map_map]; rfl) (by rw [HR.keys r, ot.recd kd]; exact pm.map _) fun hs h1 h2 => by
      rw [rec_parts ot kd]
      have := sorted_lts pm srt
      subst this
      exact keys_one h1 ot.nodup (by rw [h2, ot.recd kd])
  · refine x_e2 ?_
    walk_at "rd"
    obtain ⟨ks, ek⟩ : ∃ ks : List Int, kvs.map (·.1) = ks.map Sum.inl := by
      refine inl_keys fun k m => ?_
      rw [HR.keys r] at m
      rcases ot.kd with e | e | e | e
      · exact absurd e kd
      · obtain ⟨vs, ev⟩ := (ot.row e).1
        rw [ev, rowOf_keys] at m
        obtain ⟨i, _, rfl⟩ := List.mem_map.mp m
        exact ⟨_, rfl⟩
      · obtain ⟨i, ei, _⟩ := (ot.book e).1 k m
        exact ⟨i, ei⟩
      · rw [(ot.wat e).1] at m; cases m
    refine ⟨d, kvs, ks, rfl, .inl hd, ek, fun ys p pm srt hp => ?_⟩
    refine y_iL (sqL upd_same) ?_
    exact core (ys.map Sum.inl) p _ (Same.new hp) (by rw [upd_same, List.map_map]; rfl) (by rw [ek]; exact pm.map _) fun hs h1 h2 => by
      refine rise_one (h1.trans partsOf_perm.symm) (by rw [(partsOf_perm.map _).nodup_iff]; exact ot.nodup) ?_ (int_parts ot kd)
      have s2 : (hs.map (·.1)).Pairwise fun a b => ∃ i j : Int, a = .inl i ∧ b = .inl j ∧ i ≤ j := by
        rw [h2, List.pairwise_map]
        exact srt.imp fun h => ⟨_, _, rfl, rfl, h⟩
      exact List.pairwise_map.mp s2
end

section
variable {P : Program} {w : World} {K : PySem.W.Frag} {mg : Str → Option Value} {base : Heap}
noncomputable def reachL (M : HM) : List Nat := rcL M M.root
def orTbl (H : Hp) (r : Addr) : Prop := ∀ o, H r = some o → ∃ qs, o = .tbl qs
theorem orTbl.ne {H : Hp} {r b : Addr} {o : HO} (h : orTbl H r) (e : H b = some o) (n : notTbl o) : b ≠ r := fun z => by
  rw [z] at e
  obtain ⟨qs, rfl⟩ := h _ e
  exact n
theorem orTbl.notFoot {H : Hp} {r : Addr} {ad : Nat → Addr} {n : Nat} (h : orTbl H r) (w : Own K H ad n) {i : Nat} (hi : i < n) : ad i ≠ r := by
  obtain ⟨o, e, _, t⟩ := w.live i hi
  exact h.ne e t
theorem orTbl.back {H H1 : Hp} {r : Addr} (h : orTbl H1 r) (f : Fr K NoF H H1) : orTbl H r := fun o e => by
  cases o with
  | tbl qs => exact ⟨qs, rfl⟩
  | _ =>
    obtain ⟨qs, z⟩ := h _ (f.k _ _ e (fun z => z) trivial)
    cases z
theorem orTbl.none {H : Hp} {r : Addr} (h : H r = none) : orTbl H r := fun o e => by rw [h] at e; cases e
theorem reach_eq {M : HM} : rcL M (fun k => AV.th k ∈ NMS.map M.names) = reachL M := by
  unfold reachL
  congr 1
  funext k
  refine propext ⟨fun h => ?_, fun ⟨n, m, e⟩ => List.mem_map.mpr ⟨n, m, e⟩⟩
  obtain ⟨n, m, e⟩ := List.mem_map.mp h
  exact ⟨n, m, e⟩
theorem mem_rcL {M : HM} {R : Nat → Prop} {k : Nat} (ok : M.Ok) (hR : ∀ k, R k → k < M.made) : k ∈ rcL M R ↔ M.RC R k := by
  classical
  unfold rcL
  rw [List.mem_filter, List.mem_range]
  exact ⟨fun m => of_decide_eq_true m.2, fun m => ⟨RC_lt ok hR m, decide_eq_true m⟩⟩
theorem root_lt {M : HM} (ok : M.Ok) (k : Nat) (h : M.root k) : k < M.made := by
  obtain ⟨n, _, e⟩ := h
  have := ok.nms n
  rw [e] at this
  exact this
theorem mem_reachL {M : HM} {k : Nat} (ok : M.Ok) : k ∈ reachL M ↔ M.reach k := mem_rcL ok (root_lt ok)
abbrev spReach (K : PySem.W.Frag) : Sp := Sp1 fun x H Q => ∃ (ad : Nat → Addr) (M : HM), x = .ref (ad 0) ∧ LM K H ad M ∧ M.Ok ∧ LamX.Tabs (TTs K) H ∧ ∀ (r : Addr) (H' : Hp), Fr K NoF H H' → orTbl H r → H' r = some (.lst (intsV (reachL M))) → Q (.ref r) H'
theorem nms_at {j k : Nat} (hj : ("pqrstuvw" : Str).cps[j]? = some k) : NMS[j]? = some ⟨#[k]⟩ := by
  have e : NMS = ("pqrstuvw" : Str).cps.toList.map (fun k => (⟨#[k]⟩ : Str)) := by decide +kernel
  rw [e, List.getElem?_map, Array.getElem?_toList, hj]
  rfl
open Classical in
noncomputable def HM.tellTo (M : HM) (i : Nat) : HM := { M with things := fun k => if k < i then M.tellM.things k else M.things k }
abbrev spTell (K : PySem.W.Frag) : Sp := Sp1 fun x H Q => ∃ (ad : Nat → Addr) (M : HM), x = .ref (ad 0) ∧ LM K H ad M ∧ M.Ok ∧ LamX.Tabs (TTs K) H ∧ ∀ (r : Addr) (H' : Hp), LM K H' ad M.tellM → Fr K (LF ad M) H H' → orTbl H r → H' r = some (.lst (intsV (reachL M))) → Q (.ref r) H'
theorem tellTo_zero {M : HM} : M.tellTo 0 = M := by
  unfold HM.tellTo
  congr 1
theorem tellTo_made {M : HM} (ok : M.Ok) : M.tellTo M.made = M.tellM := by
  show ({ names := M.names, things := fun k => if k < M.made then M.tellM.things k else M.things k, made := M.made } : HM) = ⟨M.names, M.tellM.things, M.made⟩
  congr 1
  funext k
  by_cases c : k < M.made
  · rw [if_pos c]
  · rw [if_neg c]
    have e : M.things k = none := by
      cases e : M.things k with
      | none => rfl
      | some t => exact absurd (ok.lt e) c
    show M.things k = (M.things k).map _
    rw [e]
    rfl
theorem tellTo_at {M : HM} {i : Nat} : (M.tellTo i).things i = M.things i := by show (if i < i then _ else _) = _; rw [if_neg (Nat.lt_irrefl i)]
theorem tellTo_set {M : HM} {i : Nat} {t : Th} (e : M.things i = some t) (k : t.kind = WATCH) (n : ¬ ∃ s, t.sees = some s ∧ M.reach s) : (M.tellTo i).setTh i { t with told := true } = M.tellTo (i + 1) := by
  classical
  show ({ names := M.names, things := fun j => if j = i then _ else (if j < i then M.tellM.things j else M.things j), made := M.made } : HM) = ⟨M.names, fun j => if j < i + 1 then M.tellM.things j else M.things j, M.made⟩
  congr 1
  funext j
  by_cases c : j = i
  · subst c
    rw [if_pos rfl, if_pos (Nat.lt_succ_self j)]
    show _ = (M.things j).map _
    rw [e]
    exact congrArg some (@if_pos _ _ ⟨k, n⟩ _ _ _).symm
  · rw [if_neg c]
    by_cases c2 : j < i
    · rw [if_pos c2, if_pos (by omega)]
    · rw [if_neg c2, if_neg (by omega)]
theorem tellTo_skip {M : HM} {i : Nat} {t : Th} (e : M.things i = some t) (n : ¬ (t.kind = WATCH ∧ ¬ ∃ s, t.sees = some s ∧ M.reach s)) : M.tellTo i = M.tellTo (i + 1) := by
  classical
  show ({ names := M.names, things := fun j => (if j < i then M.tellM.things j else M.things j), made := M.made } : HM) = ⟨M.names, fun j => if j < i + 1 then M.tellM.things j else M.things j, M.made⟩
  congr 1
  funext j
  by_cases c : j = i
  · subst c
    rw [if_neg (Nat.lt_irrefl j), if_pos (Nat.lt_succ_self j)]
    show _ = (M.things j).map _
    rw [e]
    exact congrArg some (@if_neg _ _ n _ _ _).symm
  · by_cases c2 : j < i
    · rw [if_pos c2, if_pos (by omega)]
    · rw [if_neg c2, if_neg (by omega)]
theorem lastOf_told {t : Th} : lastOf { t with told := true } = lastOf t := rfl
theorem putK_gone {t : Th} {d : Addr} : putK (ltd t d) (.inr "gone") (.bl true) = ltd { t with told := true } d := by
  rw [putK_old lk_gone]
  rfl
end
section
variable {P : Program} {w : World} {K : PySem.W.Frag} {mg : Str → Option Value} {base : Heap}
theorem seqIx {i n : Nat} (h : i < n) : seqIndex? (i : Int) n = some i := by
  have h0 : ¬ (i : Int) < 0 := by omega
  unfold seqIndex?
  simp [h, h0]
abbrev spWrite (K : PySem.W.Frag) : Sp := Sp4 fun x y z v H Q => ∃ (ad : Nat → Addr) (M : HM) (k : Nat) (t : Th) (p : Key), x = .ref (ad (3 + 2 * k)) ∧ z = kV p ∧ LM K H ad M ∧ M.Ok ∧ M.things k = some t ∧ GoodP p ∧
  ((y = .str "put" ∧ ∃ a, LV H v a ∧ t.may p = true ∧ ∀ H', LM K H' ad (M.setTh k { t with held := hput t.held p a }) → Fr K (LF ad M) H H' → Q .non H') ∨
   (y = .str "cut" ∧ v = .non ∧ t.has p = true ∧ ∀ H', LM K H' ad (M.setTh k { t with held := t.cutH p }) → Fr K (LF ad M) H H' → Q .non H'))
theorem Paired.app {α β : Type} {F : α → β → Prop} {l1 : List α} {l2 : List β} {a : α} {b : β} (h : Paired F l1 l2) (g : F a b) : Paired F (l1 ++ [a]) (l2 ++ [b]) := by
  induction h with
  | nil => exact .cons g .nil
  | cons p _ ih => exact .cons p ih
theorem Paired.put {α β : Type} {F : α → β → Prop} {l1 : List α} {l2 : List β} {a : α} {b : β} (h : Paired F l1 l2) (g : F a b) : ∀ i, Paired F (l1.set i a) (l2.set i b) := by
  induction h with
  | nil => intro i; exact .nil
  | cons p r ih =>
    intro i
    cases i with
    | zero => exact .cons g r
    | succ i => exact .cons p (ih i)
theorem Paired.erase {α β : Type} {F : α → β → Prop} {l1 : List α} {l2 : List β} (h : Paired F l1 l2) : ∀ i, Paired F (l1.eraseIdx i) (l2.eraseIdx i) := by
  induction h with
  | nil => intro i; exact .nil
  | cons p r ih =>
    intro i
    cases i with
    | zero => exact r
    | succ i => exact .cons p (ih i)
theorem decKV {p : Key} {n : Int} : decide (kV p = V.int n) = decide (p = .inl n) := by
  cases p with
  | inl j => exact dec_congr ⟨fun e => by cases e; rfl, fun e => by cases e; rfl⟩
  | inr s => exact dec_congr ⟨fun e => (by cases e), fun e => by cases e⟩
theorem scal_kV {p : Key} {n : Int} : scal (kV p) (.int n) = true := by cases p <;> rfl
end

section
variable {P : Program} {w : World} {K : PySem.W.Frag} {mg : Str → Option Value} {base : Heap}
abbrev spPHolds (K : PySem.W.Frag) : Sp := Sp1 fun x H Q => ∃ (a dx d : Addr) (t : Th) (m : Nat) (kvs : List (Key × V)), x = .ref a ∧ H a = some (.ins (He.ga K "Thing") dx (pth t d)) ∧ H d = some (.dK kvs) ∧ HR (PV K H) kvs t.held ∧ t.Ok m ∧
  ∀ (l : Addr) (hs : List (Key × AV)) (H' : Hp), Same H H' → H l = none → H' l = some (.lst (intsV (outs hs))) → hs.Perm t.held → hs = partsOf t → Q (.ref l) H'
theorem met_Thing_holds (T : Tx w K mg base) : Met P w K mg base 2 (He.ga K "Thing") "holds" (spPHolds K) [] := by
  obtain ⟨fd, F⟩ := T.fn_Thing_holds
  refine met_of T.cl_Thing T.me_Thing_holds F sc_Thing_holds (F.bindsN fun _ _ _ _ _ _ us hl => match us, hl with | [_], _ => rfl) (fun vs H Q E h => h.len) (fun cdv A outer s H vs Q E hr h => ?_)
  obtain ⟨x, rfl, a, dx, d, t, m, kvs, rfl, ha, hd, r, ot, q⟩ := h
  have hu := hu_of hr
  have nd := sc_Thing_holds.nd
  refine ⟨_, (pss_one (ps_ret (pe_lc (own := [("part", 1), ("value", 2)]) (by rfl) nd (pi_list (pe_mt0 (met_Thing_parts T) hr (by decide) (pv 0))) (blkOk_by (own := [("part", 1), ("value", 2)]) (N := N_Thing_holds) (sc := (C8.fnScope s_Thing_holds)) (by decide +kernel)) (fun _ _ _ _ _ => (pg_tupK (K := K) (n := 2) rfl rfl (pgs_cons (pg_name (i := 1) nd rfl (Or.inl rfl)) (pgs_cons (pg_name (i := 2) nd rfl (Or.inl rfl)) pgs_nil)))) (fun _ _ _ _ _ => (pts_one (pt_val (pe_callB (call_isiK (K := K) rfl) (by rfl) T.n_isinstance (by decide +kernel) (pa_cons (pv 2) (pa_cons (pe_gc rfl T.k_Ref) pa_nil)))))) (fun _ _ _ _ _ => (pe_fldK (K := K) rfl (pe_fld (pv 2) rfl)))))), ?_⟩
  unfold pth at ha
  walk_at "st"
  refine ⟨a, dx, d, t, m, kvs, rfl, ha, hd, r, ot, fun l ps hs H1 s1 hl hr1 hp1 ht hpt => ?_⟩
  walk_at "rd"
  refine y_iL (sqL hl) ?_
  have lh : hs.length = ps.length := by have := Paired.length hr1; rw [List.length_map] at this; exact this.symm
  have l8 : ps.length ≤ 8 := by rw [← lh, hp1.length_eq]; exact ot.len
  refine y_lcL (xs := ps.map fun z => V.ref z.1) (fun D i acc H' => Same H1 H' ∧ acc = intsV (thsOf ((hs.map (·.2)).take i))) (fun D hD => ⟨Same.new hD, rfl⟩) (fun D i acc H' hD _ p => sqL (p.1 _ _ hl)) ?_ ?_
  · rintro D m x acc H' hD hm hDl hle ⟨sm, rfl⟩
    rw [List.getElem?_map] at hm
    obtain ⟨z, hz, rfl⟩ := Option.map_eq_some_iff.mp hm
    obtain ⟨⟨k2, a⟩, ea, ek, va⟩ := paired_get hr1 (show (ps.map (·.2))[m]? = some z.2 by rw [List.getElem?_map, hz]; rfl)
    have va := PV.mono va (Same.refs (s1.trans sm))
    have ea2 : (hs.map (·.2))[m]? = some a := by rw [List.getElem?_map, ea]; rfl
    have ml := (List.getElem?_eq_some_iff.mp hz).1
    have hzt := sm _ _ (ht z (List.mem_of_getElem? hz))
    have sk : ∀ b u, H1 b = some u → upd H' D (.lst (intsV (thsOf ((hs.map (·.2)).take (m + 1))))) b = some u := fun b u e => by rw [upd_ne fun z => by rw [z, hD] at e; cases e]; exact sm _ _ e
    refine y_turn ⟨z.1, _, rfl, sqT hzt, rfl, _, _, rfl, x_name ⟨_, _, rfl, x_name ⟨rfl, rfl, ?_⟩⟩⟩
    walk_at "rd"
    refine y_isR T va ?_
    cases a with
    | non =>
      dsimp only [isTh]
      walk_at "rd"
      exact ⟨_, hDl, Nat.le_succ_of_le hle, sm, by rw [take_snoc ea2, thsOf_snoc, List.append_nil]⟩
    | num n =>
      dsimp only [isTh]
      walk_at "rd"
      exact ⟨_, hDl, Nat.le_succ_of_le hle, sm, by rw [take_snoc ea2, thsOf_snoc, List.append_nil]⟩
    | th k =>
      obtain ⟨p, dx2, e2, hp⟩ := va
      have e2 : z.2.2 = V.ref p := e2
      dsimp only [isTh]
      rw [e2]
      walk_at "rd"
      have e : intsV (thsOf ((hs.map (·.2)).take m)) ++ [V.int (k : Int)] = intsV (thsOf ((hs.map (·.2)).take (m + 1))) := by rw [take_snoc ea2, thsOf_snoc, ← intsV_app]; rfl
      refine y_put hDl hle (by omega) ?_
      rw [e]
      exact ⟨sk, rfl⟩
  · rintro D acc H' hD hDl ⟨sm, rfl⟩
    have hDn : H D = none := by
      cases e : H D with
      | none => rfl
      | some o => rw [s1 _ _ e] at hD; cases hD
    refine q D hs H' (s1.trans sm) hDn ?_ hp1 hpt
    rw [hDl, outs_eq, List.length_map, ← lh, ← List.length_map (f := fun x : Key × AV => x.2), List.take_length]
def pthV (ad : Nat → Addr) : Option (Nat × Th) → V
  | none => .non
  | some (k, _) => .ref (ad (4 + 2 * k))
/-- all that is kept is there -/
abbrev KeptIn (M : HM) (ks : List Nat) : Prop := ∀ k, M.kept k → k ∈ ks
/-- the heap's own object, a name -/
abbrev spPThingOf (K : PySem.W.Frag) : Sp := Sp2 fun x y H Q => ∃ (ad : Nat → Addr) (M : HM) (ks : List Nat) (vm vw : V) (n : Str), x = .ref (ad 1) ∧ y = .str n ∧ n ∈ NMS ∧ PM K H ad M ks vm vw ∧ M.Ok ∧ KeptIn M ks ∧ Q (pthV ad (M.thOf n)) H
theorem valV_things {ad : Nat → Addr} {ks : List Nat} {k : Nat} (s : ks.Pairwise (· < ·)) (h : k ∈ ks) : valV (ks.map fun (k : Nat) => ((.inl (k : Int) : Key), V.ref (ad (4 + 2 * k)))) (.inl (k : Int)) = some (.ref (ad (4 + 2 * k))) := by
  refine valV_mem ?_ (List.mem_map.mpr ⟨k, h, rfl⟩)
  rw [List.map_map]
  exact List.pairwise_map.mpr (List.Pairwise.imp (S := fun a b => ((Sum.inl ((a : Nat) : Int) : Key)) ≠ Sum.inl ((b : Nat) : Int)) (fun {a b} h z => Nat.ne_of_lt h (by have z := Sum.inl.inj z; omega)) s)
theorem met_Heap_thing_of (T : Tx w K mg base) : Met P w K mg base 1 (He.ga K "Heap") "thing_of" (spPThingOf K) [] := by
  obtain ⟨fd, F⟩ := T.fn_Heap_thing_of
  refine met_of T.cl_Heap T.me_Heap_thing_of F sc_Heap_thing_of (F.bindsN fun _ _ _ _ _ _ us hl => match us, hl with | [_, _], _ => rfl) (fun vs H Q E h => h.len) (fun cdv A outer s H vs Q E hr h => ?_)
  obtain ⟨x, y, rfl, ad, M, ks, vm, vw, n, rfl, rfl, hn, L, ok, hkp, q⟩ := h
  have hu := hu_of hr
  have nd := sc_Heap_thing_of.nd
  refine ⟨_, (pss_cons (ps_set (i := 2) nd rfl (Or.inl rfl) (pe_dget hu (pe_fld (pv 0) rfl) (pv 1) (fun _ _ => rfl))) (pss_one (ps_ret (pe_ifExp (pt_val (pe_callB call_isi (by rfl) T.n_isinstance (by decide +kernel) (pa_cons (pv 2) (pa_cons (pe_gc rfl T.k_Ref) pa_nil)))) (pe_dget hu (pe_fld (pv 0) rfl) (pe_fld (pv 2) rfl) (fun _ _ => rfl)) pe_non)))), ?_⟩
  obtain ⟨dx1, h1⟩ := L.heap
  obtain ⟨f, h2, hf⟩ := L.nms
  have h3 := L.ths
  have hv := hf n hn
  have on := ok.nms n
  walk_at "st"
  refine y_dgetS h2 (valV_kvL hn) ?_
  walk_at "rd"
  refine y_isR T hv ?_
  generalize hfn : f n = v at hv ⊢
  unfold HM.thOf at q
  cases e : M.names n with
  | non =>
    rw [e] at q
    dsimp only [isTh]
    walk_at "rd"
    exact q
  | num i =>
    rw [e] at q
    dsimp only [isTh]
    walk_at "rd"
    exact q
  | th k =>
    rw [e] at hv on q
    obtain ⟨p, dx, rfl, hp⟩ := hv
    obtain ⟨t, et, ot⟩ := ok.get on
    dsimp only [isTh]
    walk_at "rd"
    refine y_dgetI h3 (valV_things L.srt (hkp k (.base (.inl ⟨n, hn, e⟩)))) ?_
    have q : Q (pthV ad ((M.things k).map fun t => (k, t))) H := q
    rw [et] at q
    exact q
abbrev spOfNames (K : PySem.W.Frag) : Sp := Sp1 fun x H Q => ∃ (ad : Nat → Addr) (M : HM) (ks : List Nat) (vm vw : V), x = .ref (ad 1) ∧ PM K H ad M ks vm vw ∧ ∀ (l : Addr) (H' : Hp), Same H H' → H l = none → H' l = some (.lst (intsV (thsOf (NMS.map M.names)))) → Q (.ref l) H'
theorem met_Heap_of_names (T : Tx w K mg base) : Met P w K mg base 1 (He.ga K "Heap") "of_names" (spOfNames K) [] := by
  obtain ⟨fd, F⟩ := T.fn_Heap_of_names
  refine met_of T.cl_Heap T.me_Heap_of_names F sc_Heap_of_names (F.bindsN fun _ _ _ _ _ _ us hl => match us, hl with | [_], _ => rfl) (fun vs H Q E h => h.len) (fun cdv A outer s H vs Q E hr h => ?_)
  obtain ⟨x, rfl, ad, M, ks, vm, vw, rfl, L, q⟩ := h
  have hu := hu_of hr
  have nd := sc_Heap_of_names.nd
  refine ⟨_, (pss_one (ps_ret (pe_lc (own := [("name", 1)]) (by rfl) nd (pi_str (pe_gc rfl T.k_NAMES)) (blkOk_by (own := [("name", 1)]) (N := N_Heap_of_names) (sc := (C8.fnScope s_Heap_of_names)) (by decide +kernel)) (fun _ _ _ _ _ => (pg_name (i := 1) nd rfl (Or.inl rfl))) (fun _ _ _ _ _ => (pts_one (pt_val (pe_callB (call_isiK (K := K) rfl) (by rfl) T.n_isinstance (by decide +kernel) (pa_cons (pe_dget hu (pe_fldK (K := K) rfl (pe_fld (pv 0) rfl)) (pv 1) (fun _ _ => rfl)) (pa_cons (pe_gc rfl T.k_Ref) pa_nil)))))) (fun _ _ _ _ _ => (pe_fldK (K := K) rfl (pe_fld (pe_dget hu (pe_fldK (K := K) rfl (pe_fld (pv 0) rfl)) (pv 1) (fun _ _ => rfl)) rfl)))))), ?_⟩
  obtain ⟨dx1, h1⟩ := L.heap
  obtain ⟨f, h2, hf⟩ := L.nms
  walk_at "rd"
  refine y_lcS (fun D i acc H' => Same H H' ∧ acc = intsV (thsOf ((NMS.map M.names).take i))) (fun D hD => ⟨Same.new hD, rfl⟩) ?_ ?_
  · rintro D j k acc H' hD hj hDl hle ⟨sm, rfl⟩
    have hn := nms_at hj
    have hnm := List.mem_of_getElem? hn
    have h1' := sm _ _ h1
    have h2' := sm _ _ h2
    have va := PV.mono (hf _ hnm) (Same.refs sm)
    have ea : (NMS.map M.names)[j]? = some (M.names ⟨#[k]⟩) := by rw [List.getElem?_map, hn]; rfl
    have jl : j < 90000 := Nat.lt_of_lt_of_le (List.getElem?_eq_some_iff.mp hn).1 (by decide)
    refine y_turn ?_
    walk_at "rd"
    refine ⟨rfl, ?_⟩
    walk_at "rd"
    refine y_dgetS h2' (valV_kvL hnm) ?_
    walk_at "rd"
    refine y_isR T va ?_
    generalize hfn : f ⟨#[k]⟩ = v at va
    cases e : M.names ⟨#[k]⟩ with
    | non =>
      rw [e] at ea
      dsimp only [isTh]
      walk_at "rd"
      exact ⟨_, hDl, Nat.le_succ_of_le hle, sm, by rw [take_snoc ea, thsOf_snoc, List.append_nil]⟩
    | num i =>
      rw [e] at ea
      dsimp only [isTh]
      walk_at "rd"
      exact ⟨_, hDl, Nat.le_succ_of_le hle, sm, by rw [take_snoc ea, thsOf_snoc, List.append_nil]⟩
    | th m =>
      rw [e] at ea va
      obtain ⟨p, dx2, rfl, hp⟩ := va
      dsimp only [isTh]
      walk_at "rd"
      refine y_dgetS h2' (valV_kvL hnm) ?_
      rw [hfn]
      walk_at "rd"
      refine y_put hDl hle jl ?_
      have e9 : intsV (thsOf ((NMS.map M.names).take j)) ++ [V.int (m : Int)] = intsV (thsOf ((NMS.map M.names).take (j + 1))) := by rw [take_snoc ea, thsOf_snoc, ← intsV_app]; rfl
      rw [e9]
      exact ⟨fun b u e => by rw [upd_ne fun z => by rw [z, hD] at e; cases e]; exact sm _ _ e, rfl⟩
  · rintro D acc H' hD hDl ⟨sm, rfl⟩
    refine q D H' sm hD ?_
    rw [hDl]
    have e8 : ((NMS.map M.names).take ("pqrstuvw" : Str).cps.size) = NMS.map M.names := by
      rw [← List.map_take]
      congr 1
    rw [e8]
end

section
variable {K : PySem.W.Frag}
theorem orTbl_new {H H' : Hp} {ad : Nat → Addr} {n : Nat} {x : Addr} (f : Fr K (Foot ad n) H H') (w : Own K H' ad n) (h : H' x = none) : orTbl H x := fun o e => by
  cases o with
  | tbl qs => exact ⟨qs, rfl⟩
  | _ =>
    exfalso
    rcases Classical.em (Foot ad n x) with ⟨i, hi, rfl⟩ | g
    · exact w.fresh hi h rfl
    · rw [f.k _ _ e g trivial] at h
      cases h
theorem tell_holds {M : HM} {k j : Nat} : M.tellM.holds k j ↔ M.holds k j := by
  classical
  constructor
  · rintro ⟨t, e, p, m⟩
    obtain ⟨t0, e1, e2⟩ := Option.map_eq_some_iff.mp (show (M.things k).map _ = some t from e)
    refine ⟨t0, e1, p, ?_⟩
    rw [← e2] at m
    split at m <;> exact m
  · rintro ⟨t, e, p, m⟩
    refine ⟨_, Option.map_eq_some_iff.mpr ⟨t, e, rfl⟩, p, ?_⟩
    split <;> exact m
theorem RC_congr {M M' : HM} {R R' : Nat → Prop} (h1 : ∀ k j, M.holds k j → M'.holds k j) (h2 : ∀ k, R k → R' k) {k : Nat} (h : M.RC R k) : M'.RC R' k := by
  induction h with
  | base h => exact .base (h2 _ h)
  | step _ e ih => exact .step ih (h1 _ _ e)
theorem tell_reach {M : HM} {k : Nat} : M.tellM.reach k ↔ M.reach k :=
  ⟨fun h => RC_congr (fun _ _ => tell_holds.mp) (fun _ z => z) h, fun h => RC_congr (fun _ _ => tell_holds.mpr) (fun _ z => z) h⟩
theorem last1_no {M : HM} {k : Nat} {t : Th} (e : M.things k = some t) (eg : t.goal = none) : M.last1 k = M.setTh k { t with due := false } := by
  unfold HM.last1
  rw [e]
  show (match t.goal with | none => M.setTh k { t with due := false } | some g => (M.setTh k { t with due := false }).hold g (.th k)) = _
  rw [eg]
theorem last1_go {M : HM} {k : Nat} {t : Th} {g : Str} (e : M.things k = some t) (eg : t.goal = some g) : M.last1 k = (M.setTh k { t with due := false }).hold g (.th k) := by
  unfold HM.last1
  rw [e]
  show (match t.goal with | none => M.setTh k { t with due := false } | some g => (M.setTh k { t with due := false }).hold g (.th k)) = _
  rw [eg]
theorem last1_due {M : HM} {k j : Nat} : (M.last1 k).isDue j ↔ M.isDue j ∧ j ≠ k := by
  unfold HM.last1
  cases e : M.things k with
  | none =>
    refine ⟨fun h => ⟨h, fun z => ?_⟩, fun h => h.1⟩
    subst z
    obtain ⟨t, e2, _⟩ := h
    rw [e] at e2
    cases e2
  | some t =>
    have core : (M.setTh k { t with due := false }).isDue j ↔ M.isDue j ∧ j ≠ k := by
      constructor
      · rintro ⟨u, e2, d⟩
        have e2 : (if j = k then some { t with due := false } else M.things j) = some u := e2
        by_cases c : j = k
        · rw [if_pos c] at e2; cases e2; cases d
        · rw [if_neg c] at e2; exact ⟨⟨u, e2, d⟩, c⟩
      · rintro ⟨⟨u, e2, d⟩, c⟩
        exact ⟨u, by show (if j = k then _ else _) = _; rw [if_neg c]; exact e2, d⟩
    show (match t.goal with | none => M.setTh k { t with due := false } | some g => (M.setTh k { t with due := false }).hold g (.th k)).isDue j ↔ _
    split <;> exact core
theorem foldl_due : ∀ {l : List Nat} {M : HM} {j : Nat}, (l.foldl HM.last1 M).isDue j ↔ M.isDue j ∧ j ∉ l
  | [], M, j => by simp
  | k :: l, M, j => by
    rw [List.foldl_cons, foldl_due, last1_due, List.mem_cons]
    exact ⟨fun h => ⟨h.1.1, fun z => z.elim h.1.2 h.2⟩, fun h => ⟨⟨h.1, fun z => h.2 (.inl z)⟩, fun z => h.2 (.inr z)⟩⟩
theorem sub_len : ∀ {l1 l2 : List Nat}, l1.Nodup → (∀ x ∈ l1, x ∈ l2) → l1.length ≤ l2.length
  | [], _, _, _ => Nat.zero_le _
  | a :: l1, l2, nd, h => by
    have ha := h a (List.mem_cons_self ..)
    have nd' := List.nodup_cons.mp nd
    have r := sub_len (l1 := l1) (l2 := l2.erase a) nd'.2 fun x m => (List.mem_erase_of_ne (fun (z : x = a) => nd'.1 (z ▸ m))).mpr (h x (List.mem_cons_of_mem _ m))
    rw [List.length_erase_of_mem ha] at r
    have : 0 < l2.length := List.length_pos_of_mem ha
    rw [List.length_cons]
    omega
open Classical in
noncomputable def dueN (M : HM) : Nat := ((List.range M.made).filter fun k => decide (M.isDue k)).length
theorem filter_lt {p q : Nat → Bool} : ∀ {l : List Nat} {x : Nat}, (∀ x, p x = true → q x = true) → x ∈ l → q x = true → p x = false → (l.filter p).length < (l.filter q).length
  | [], _, _, m, _, _ => by cases m
  | y :: l, x, h, m, hq, hp => by
    have le : (l.filter p).length ≤ (l.filter q).length := by
      clear m
      induction l with
      | nil => exact Nat.le_refl _
      | cons z l ih =>
        rw [List.filter_cons, List.filter_cons]
        by_cases c : p z = true
        · rw [if_pos c, if_pos (h z c)]; simp; exact ih
        · rw [if_neg c]
          split
          · simp; omega
          · exact ih
    rw [List.filter_cons, List.filter_cons]
    rcases List.mem_cons.mp m with e | m
    · subst e
      rw [if_neg (by rw [hp]; exact Bool.false_ne_true), if_pos hq]
      simp; omega
    · have r := filter_lt h m hq hp
      by_cases c : p y = true
      · rw [if_pos c, if_pos (h y c)]; simp; exact r
      · rw [if_neg c]
        split
        · simp; omega
        · exact r
theorem dueN_lt {M : HM} {l : List Nat} (hl : l ≠ []) (hm : ∀ k ∈ l, k < M.made ∧ M.isDue k) (hmade : (l.foldl HM.last1 M).made = M.made) : dueN (l.foldl HM.last1 M) < dueN M := by
  classical
  unfold dueN
  rw [hmade]
  obtain ⟨k, r, rfl⟩ : ∃ k r, l = k :: r := by
    cases l with
    | nil => exact absurd rfl hl
    | cons k r => exact ⟨k, r, rfl⟩
  obtain ⟨h1, h2⟩ := hm k (List.mem_cons_self ..)
  exact filter_lt (x := k) (fun x h => decide_eq_true (foldl_due.mp (of_decide_eq_true h)).1) (List.mem_range.mpr h1) (decide_eq_true h2) (decide_eq_false fun h => (foldl_due.mp h).2 (List.mem_cons_self ..))
theorem due_add {M : HM} {l : List Nat} (hm : ∀ k ∈ l, k < M.made ∧ M.isDue k) (nd : l.Nodup) (hmade : (l.foldl HM.last1 M).made = M.made) : dueN (l.foldl HM.last1 M) + l.length ≤ dueN M := by
  classical
  unfold dueN
  rw [hmade]
  have nd2 : ((List.range M.made).filter fun k => decide ((l.foldl HM.last1 M).isDue k)).Nodup := List.Pairwise.filter _ List.nodup_range
  have nd3 : (((List.range M.made).filter fun k => decide ((l.foldl HM.last1 M).isDue k)) ++ l).Nodup := by
    rw [List.nodup_append]
    refine ⟨nd2, nd, fun a ha b hb e => ?_⟩
    subst e
    exact (foldl_due.mp (of_decide_eq_true (List.mem_filter.mp ha).2)).2 hb
  have nd4 : ((List.range M.made).filter fun k => decide (M.isDue k)).Nodup := List.Pairwise.filter _ List.nodup_range
  rw [← List.length_append]
  refine sub_len nd3 fun x m => ?_
  rcases List.mem_append.mp m with m | m
  · obtain ⟨m1, m2⟩ := List.mem_filter.mp m
    exact List.mem_filter.mpr ⟨m1, decide_eq_true (foldl_due.mp (of_decide_eq_true m2)).1⟩
  · exact List.mem_filter.mpr ⟨List.mem_range.mpr (hm x m).1, decide_eq_true (hm x m).2⟩
theorem tell_due {M : HM} {k : Nat} : M.tellM.isDue k ↔ M.isDue k := by
  classical
  constructor
  · rintro ⟨t, e, d⟩
    obtain ⟨t0, e1, e2⟩ := Option.map_eq_some_iff.mp (show (M.things k).map _ = some t from e)
    refine ⟨t0, e1, ?_⟩
    rw [← e2] at d
    split at d <;> exact d
  · rintro ⟨t, e, d⟩
    refine ⟨_, Option.map_eq_some_iff.mpr ⟨t, e, rfl⟩, ?_⟩
    split <;> exact d
theorem dueN_tell {M : HM} : dueN M.tellM = dueN M := by
  classical
  unfold dueN
  show ((List.range M.made).filter fun k => decide (M.tellM.isDue k)).length = _
  congr 2
  funext k
  exact dec_congr tell_due
theorem dueN_le {M : HM} : dueN M ≤ M.made := by
  classical
  unfold dueN
  exact Nat.le_trans (List.length_filter_le _ _) (by rw [List.length_range]; exact Nat.le_refl _)
theorem mem_lost {M : HM} {k : Nat} : k ∈ M.lost ↔ k < M.made ∧ M.isDue k ∧ ¬ M.reach k := by
  classical
  unfold HM.lost
  rw [List.mem_filter, List.mem_range]
  exact ⟨fun h => ⟨h.1, of_decide_eq_true h.2⟩, fun h => ⟨h.1, decide_eq_true h.2⟩⟩
theorem settleF_succ {n : Nat} {M : HM} : HM.settleF (n + 1) M = if M.tellM.lost = [] then ([], M.tellM) else (M.tellM.lost ++ (HM.settleF n (M.tellM.lost.foldl HM.last1 M.tellM)).1, (HM.settleF n (M.tellM.lost.foldl HM.last1 M.tellM)).2) := rfl
open Classical in
noncomputable def lostTo (M : HM) (i : Nat) : List Nat := (List.range i).filter fun k => decide (M.isDue k ∧ ¬ M.reach k)
theorem lostTo_made {M : HM} : lostTo M M.made = M.lost := rfl
theorem lostTo_succ {M : HM} {i : Nat} : lostTo M (i + 1) = lostTo M i ++ (open Classical in if M.isDue i ∧ ¬ M.reach i then [i] else []) := by
  classical
  unfold lostTo
  rw [List.range_succ, List.filter_append]
  congr 1
  by_cases c : M.isDue i ∧ ¬ M.reach i
  · rw [if_pos c, List.filter_cons, if_pos (decide_eq_true c)]; rfl
  · rw [if_neg c, List.filter_cons, if_neg (by rw [decide_eq_false c]; exact Bool.false_ne_true)]; rfl
theorem lastOf_due {t : Th} : decide (V.str (lastOf t) = V.str "due") = t.due := by
  unfold lastOf
  cases h : t.due with
  | true => exact decide_eq_true (by rw [if_pos rfl])
  | false =>
    rw [if_neg Bool.false_ne_true]
    cases h2 : t.given with
    | true => exact decide_eq_false (by rw [if_pos rfl]; intro z; exact absurd (V.str.inj z) (by decide))
    | false => exact decide_eq_false (by rw [if_neg Bool.false_ne_true]; intro z; exact absurd (V.str.inj z) (by decide))
theorem putK_done {t : Th} {d : Addr} (g : t.given = true) : putK (ltd t d) (.inr "last") (.str "done") = ltd { t with due := false } d := by
  rw [putK_old lk_last]
  have e : lastOf { t with due := false } = "done" := by unfold lastOf; rw [if_neg Bool.false_ne_true]; show (if t.given = true then _ else _) = _; rw [if_pos g]
  show _ = [(_, _), (_, _), (_, _), (_, _), (_, V.str (lastOf { t with due := false })), (_, _)]
  rw [e]
  rfl
end
section
variable {P : Program} {w : World} {K : PySem.W.Frag} {mg : Str → Option Value} {base : Heap}
abbrev spSettle (K : PySem.W.Frag) : Sp := Sp1 fun x H Q => ∃ (ad : Nat → Addr) (M : HM), x = .ref (ad 0) ∧ LM K H ad M ∧ M.Ok ∧ LamX.Tabs (TTs K) H ∧ ∀ (r : Addr) (H' : Hp), LM K H' ad M.settle.2 → Fr K (LF ad M) H H' → orTbl H r → H' r = some (.lst (intsV M.settle.1)) → Q (.ref r) H'
end

section
variable {P : Program} {w : World} {K : PySem.W.Frag} {mg : Str → Option Value} {base : Heap}
def fdK (ns : List Nat) : List (Key × V) := ns.map fun (k : Nat) => ((.inl (k : Int) : Key), V.bl true)
theorem fdK_has {ns : List Nat} {x : Nat} : (valV (fdK ns) (.inl (x : Int))).isSome = decide (x ∈ ns) := by
  induction ns with
  | nil => rfl
  | cons n ns ih =>
    unfold fdK at ih ⊢
    rw [List.map_cons]
    by_cases c : n = x
    · subst c
      rw [valV_pos rfl]
      simp
    · rw [valV_neg (fun z => c (by have := Sum.inl.inj z; omega)), ih]
      exact dec_congr ⟨fun m => List.mem_cons_of_mem _ m, fun m => (List.mem_cons.mp m).resolve_left fun z => c z.symm⟩
theorem fdK_len {ns : List Nat} : (fdK ns).length = ns.length := List.length_map _
theorem fdK_put {ns : List Nat} {x : Nat} (h : x ∉ ns) : putK (fdK ns) (.inl (x : Int)) (.bl true) = fdK (ns ++ [x]) := by
  have e := fdK_has (ns := ns) (x := x)
  rw [decide_eq_false h] at e
  rw [putK_new _ (Option.isSome_eq_false_iff.mp e |> Option.isNone_iff_eq_none.mp)]
  unfold fdK
  rw [List.map_append]
  rfl
theorem fdK_keys {ns : List Nat} : (fdK ns).map (·.1) = (ns.map fun (k : Nat) => (k : Int)).map Sum.inl := by
  unfold fdK
  rw [List.map_map, List.map_map]
  rfl
theorem y_inFd {H : Hp} {Q : VK} {x : Nat} {ns : List Nat} {l : Addr} (h : H l = some (.dK (fdK ns))) (q : Q (.bl (decide (x ∈ ns))) H) : rDIn (.int (x : Int)) (.ref l) H Q :=
  y_din (j := .inl (x : Int)) (.inl h) rfl (by rw [fdK_has]; exact q)
theorem y_notInFd {H : Hp} {Q : VK} {x : Nat} {ns : List Nat} {l : Addr} (h : H l = some (.dK (fdK ns))) (q : Q (.bl (!decide (x ∈ ns))) H) : rDNotIn (.int (x : Int)) (.ref l) H Q :=
  y_dnotin (j := .inl (x : Int)) (.inl h) rfl (by rw [fdK_has]; exact q)
abbrev spClosed (K : PySem.W.Frag) : Sp := Sp2 fun x y H Q => ∃ (ad : Nat → Addr) (M : HM) (ks : List Nat) (vm vw : V) (l : Addr) (ns : List Nat), x = .ref (ad 1) ∧ y = .ref l ∧ PM K H ad M ks vm vw ∧ M.Ok ∧ (∀ k, M.RC (fun k => k ∈ ns) k → k ∈ ks) ∧ H l = some (.lst (intsV ns)) ∧ ns.length ≤ 9100 ∧
  ∀ (r : Addr) (found : List Nat) (H' : Hp), Same H H' → H r = none → H' r = some (.dK (fdK found)) → (∀ k, k ∈ found ↔ M.RC (fun k => k ∈ ns) k) → found.Nodup → Q (.ref r) H'
theorem met_Heap_closed (T : Tx w K mg base) : Met P w K mg base 3 (He.ga K "Heap") "closed" (spClosed K) [] := by
  obtain ⟨fd, F⟩ := T.fn_Heap_closed
  refine met_of T.cl_Heap T.me_Heap_closed F sc_Heap_closed (F.bindsN fun _ _ _ _ _ _ us hl => match us, hl with | [_, _], _ => rfl) (fun vs H Q E h => h.len) (fun cdv A outer s H vs Q E hr h => ?_)
  obtain ⟨x, y, rfl, ad, M, ks, vm, vw, l, ns, rfl, rfl, L, ok, hkp, hl, h100, q⟩ := h
  have hu := hu_of hr
  have nd := sc_Heap_closed.nd
  refine ⟨_, (pss_cons (ps_set (i := 2) nd rfl (Or.inl rfl) pe_dnewK) (pss_cons (ps_set (i := 3) nd rfl (Or.inl rfl) (pe_callTy call_list_of (by rfl) T.n_list (by decide +kernel) (pa_cons (pv 1) pa_nil))) (pss_cons (ps_while PassesOwn.never (pt_cmpR (op_neD hr.units) (pv 3) (pe_lst pa_nil) (nomark _)) (pss_cons (ps_set (i := 4) nd rfl (Or.inl rfl) (pe_bm0 PySem.F.plainAttrs_list PySem.F.slot_list_pop PySem.F.type_list_pop mt_pop (pv 3))) (pss_one (ps_if (pt_cmp (pc_dnotin hu (pv 4) (pv 2))) (pss_cons (ps_dput hu (pv 2) (pv 4) pe_bl rfl) (pss_one (ps_expr (pe_bm PySem.F.plainAttrs_list PySem.F.slot_list_extend PySem.F.type_list_extend mt_extend (pv 3) (pa_cons (pe_mt0 (met_Thing_holds T) hr (by decide) (pe_dget hu (pe_fld (pv 0) rfl) (pv 4) (fun _ _ => rfl))) pa_nil))))) pss_nil)))) (pss_one (ps_ret (pv 2)))))), ?_⟩
  walk_at "st"
  intro fa hfa
  walk_at "rd"
  have s1 : Same H (upd H fa (.dK [])) := Same.new hfa
  refine y_listof (sqL (s1 _ _ hl)) fun la hla => ?_
  walk_at "rd"
  have hfl : fa ≠ la := ne_of_none upd_same hla
  have hla0 : H la = none := same_none s1 hla
  have s2 : Same H (upd (upd H fa (.dK [])) la (.lst (intsV ns))) := s1.trans (Same.new hla)
  have lt : ∀ x, M.RC (fun k => k ∈ ns) x → x < M.made := fun x h => L.lt x (hkp x h)
  refine x_while (fun m σ H' => ∃ (found left : List Nat) (u4 : Option V), σ = [some (.ref (ad 1)), some (.ref l), some (.ref fa), some (.ref la), u4] ∧ Same H H' ∧ H' fa = some (.dK (fdK found)) ∧ H' la = some (.lst (intsV left)) ∧
    WInv M (fun k => k ∈ ns) found left ∧ m = 9 * (M.made - found.length) + left.length ∧ m ≤ 9 * M.made + 9100) (9 * (M.made - 0) + ns.length)
    ⟨[], ns, none, rfl, s2, by rw [upd_ne hfl, upd_same]; rfl, upd_same, ⟨fun x h => h.elim (fun z => by cases z) fun z => .base z, fun x h => .inr h, fun x m => (by cases m), List.nodup_nil⟩, rfl, by omega⟩ ?_
  rintro m σ H' ⟨found, left, u4, rfl, sm, hF, hLe, wi, rfl, hm⟩
  walk_at "rd"
  intro e he
  have hF1 := Same.new (o := .lst []) he _ _ hF
  have hLe1 := Same.new (o := .lst []) he _ _ hLe
  have sm1 : Same H (upd H' e (.lst [])) := sm.trans (Same.new he)
  have he1 : upd H' e (.lst []) e = some (.lst []) := upd_same
  generalize upd H' e (.lst []) = H1 at hF1 hLe1 sm1 he1 ⊢
  refine y_neNil (ns := left.map fun (k : Nat) => (k : Int)) (by rw [← intsV_eq]; exact sqL hLe1) (sqL he1) ?_
  walk_at "rd"
  have fl : found.length ≤ M.made := nodup_le wi.nd fun x m => lt x (wi.sound x (.inl m))
  refine y_w (fun c => ?_) (fun c => ?_)
  · have hne : left ≠ [] := fun z => by rw [z] at c; simp at c
    obtain ⟨init, x, rfl⟩ : ∃ init x, left = init ++ [x] := ⟨left.dropLast, left.getLast hne, (List.dropLast_concat_getLast hne).symm⟩
    have ei : intsV (init ++ [x]) = intsV init ++ [V.int (x : Int)] := by rw [← intsV_app]; rfl
    rw [ei] at hLe1
    walk_at "rd"
    refine y_pop (y := V.int (x : Int)) hLe1 (by simp) ?_
    rw [List.dropLast_concat]
    have sm3 : Same H (upd H1 la (.lst (intsV init))) := same_fresh sm1 hla0
    have hF3 : upd H1 la (.lst (intsV init)) fa = some (.dK (fdK found)) := by rw [upd_ne hfl]; exact hF1
    have hL3 : upd H1 la (.lst (intsV init)) la = some (.lst (intsV init)) := upd_same
    generalize upd H1 la (.lst (intsV init)) = H3 at sm3 hF3 hL3 ⊢
    walk_at "rd"
    refine y_notInFd hF3 ?_
    walk_at "rd"
    have xr := wi.sound x (.inr (List.mem_append.mpr (.inr (List.mem_singleton.mpr rfl))))
    have xl := lt x xr
    have xm := hkp x xr
    rw [List.length_append, List.length_singleton] at hm
    refine y_ndec (fun hx => ?_) (fun hx => ?_)
    · obtain ⟨t, et, ot⟩ := ok.get xl
      walk_at "rd"
      refine y_dput (j := .inl (x : Int)) hF3 rfl (small9000 (by rw [fdK_len]; exact Nat.le_trans fl L.sm)) (fdK_put hx) ?_
      have sm5 : Same H (upd H3 fa (.dK (fdK (found ++ [x])))) := same_fresh sm3 hfa
      have hF5 : upd H3 fa (.dK (fdK (found ++ [x]))) fa = some (.dK (fdK (found ++ [x]))) := upd_same
      have hL5 : upd H3 fa (.dK (fdK (found ++ [x]))) la = some (.lst (intsV init)) := by rw [upd_ne hfl.symm]; exact hL3
      generalize upd H3 fa (.dK (fdK (found ++ [x]))) = H5 at sm5 hF5 hL5 ⊢
      have L5 := L.same sm5
      obtain ⟨dx1, t1⟩ := L5.heap
      have t3 := L5.ths
      obtain ⟨dxt, kvs, g1, g2, g3⟩ := L5.get et xm
      walk_at "rd"
      refine y_dgetI t3 (valV_things L.srt xm) ?_
      unfold pth at g1
      walk_at "rd"
      refine ⟨_, dxt, _, t, _, kvs, rfl, g1, g2, g3, ot, fun l' hs H6 s6 hl0 hl' hp6 _ => ?_⟩
      have hL6 := s6 _ _ hL5
      walk_at "rd"
      have ol : (outs hs).length ≤ 8 := Nat.le_trans outs_len (by rw [hp6.length_eq]; exact ot.len)
      refine y_extend hL6 hl' (by rw [intsV_len, intsV_len, sizeLine_eq]; have := L.sm; omega) ?_
      rw [intsV_app]
      have sm7 : Same H (upd H6 la (.lst (intsV (init ++ outs hs)))) := same_fresh (sm5.trans s6) hla0
      have wi' := (wi.take hx et).perm (left' := init ++ outs hs) fun y => by
        rw [List.mem_append, List.mem_append, outs_mem, outs_mem]
        exact or_congr_right ⟨fun ⟨p, z⟩ => ⟨p, hp6.mem_iff.mpr z⟩, fun ⟨p, z⟩ => ⟨p, hp6.mem_iff.mp z⟩⟩
      have fl' : (found ++ [x]).length ≤ M.made := nodup_le wi'.nd fun y m => lt y (wi'.sound y (.inl m))
      refine ⟨_, ?_, found ++ [x], init ++ outs hs, _, rfl, sm7, by rw [upd_ne hfl]; exact s6 _ _ hF5, upd_same, wi', rfl, ?_⟩
      · rw [List.length_append, List.length_append, List.length_append, List.length_singleton] at *
        omega
      · rw [List.length_append, List.length_append, List.length_singleton] at *
        omega
    · walk_at "rd"
      refine ⟨_, ?_, found, init, _, rfl, sm3, hF3, hL3, wi.skip hx, rfl, by omega⟩
      rw [List.length_append, List.length_singleton]
      omega
  · have hnil : left = [] := by
      cases left with
      | nil => rfl
      | cons a r => simp at c
    subst hnil
    walk_at "rd"
    exact q fa found _ sm1 hfa hF1 wi.done wi.nd
abbrev spPReach (K : PySem.W.Frag) : Sp := Sp1 fun x H Q => ∃ (ad : Nat → Addr) (M : HM) (ks : List Nat) (vm vw : V), x = .ref (ad 1) ∧ PM K H ad M ks vm vw ∧ M.Ok ∧ KeptIn M ks ∧
  ∀ (r : Addr) (found : List Nat) (H' : Hp), Same H H' → H r = none → H' r = some (.dK (fdK found)) → (∀ k, k ∈ found ↔ M.reach k) → found.Nodup → Q (.ref r) H'
theorem RC_iff {M : HM} {R R' : Nat → Prop} (h : ∀ k, R k ↔ R' k) {k : Nat} : M.RC R k ↔ M.RC R' k :=
  ⟨fun z => RC_congr (fun _ _ e => e) (fun k => (h k).mp) z, fun z => RC_congr (fun _ _ e => e) (fun k => (h k).mpr) z⟩
theorem root_iff {M : HM} {k : Nat} : k ∈ thsOf (NMS.map M.names) ↔ M.root k := by
  rw [thsOf_mem, List.mem_map]
  exact ⟨fun ⟨n, m, e⟩ => ⟨n, m, e⟩, fun ⟨n, m, e⟩ => ⟨n, m, e⟩⟩
theorem met_Heap_reach (T : Tx w K mg base) : Met P w K mg base 4 (He.ga K "Heap") "reach" (spPReach K) [] := by
  obtain ⟨fd, F⟩ := T.fn_Heap_reach
  refine met_of T.cl_Heap T.me_Heap_reach F sc_Heap_reach (F.bindsN fun _ _ _ _ _ _ us hl => match us, hl with | [_], _ => rfl) (fun vs H Q E h => h.len) (fun cdv A outer s H vs Q E hr h => ?_)
  obtain ⟨x, rfl, ad, M, ks, vm, vw, rfl, L, ok, hkp, q⟩ := h
  have hu := hu_of hr
  have nd := sc_Heap_reach.nd
  refine ⟨_, (pss_one (ps_ret (pe_mt (met_Heap_closed T) hr (by decide) (pv 0) (pa_cons (pe_mt0 (met_Heap_of_names T) hr (by decide) (pv 0)) pa_nil)))), ?_⟩
  obtain ⟨dx1, h1⟩ := L.heap
  walk_at "st"
  refine ⟨ad, M, ks, vm, vw, rfl, L, fun l H1 s1 hl0 hl => ?_⟩
  have h11 := s1 _ _ h1
  have len : (thsOf (NMS.map M.names)).length ≤ 8 := Nat.le_trans thsOf_len (by rw [List.length_map]; decide)
  walk_at "rd"
  refine ⟨ad, M, ks, vm, vw, l, _, rfl, rfl, L.same s1, ok, fun k h => hkp k (RC_congr (fun _ _ z => z) (fun k z => .inl (root_iff.mp z)) h), hl, by omega, fun r found H2 s2 hr0 hr2 hf hnd => ?_⟩
  exact q r found H2 (s1.trans s2) (same_none s1 hr0) hr2 (fun k => (hf k).trans (RC_iff fun k => root_iff)) hnd
/-! what is due, as numbers rise -/
open Classical in
noncomputable def dueL (M : HM) (i : Nat) : List Nat := (List.range i).filter fun k => decide (M.isDue k)
theorem dueL_succ {M : HM} {i : Nat} : dueL M (i + 1) = dueL M i ++ (open Classical in if M.isDue i then [i] else []) := by
  classical
  unfold dueL
  rw [List.range_succ, List.filter_append]
  congr 1
  by_cases c : M.isDue i
  · rw [if_pos c, List.filter_cons, if_pos (decide_eq_true c)]; rfl
  · rw [if_neg c, List.filter_cons, if_neg (by rw [decide_eq_false c]; exact Bool.false_ne_true)]; rfl
theorem dueL_mem {M : HM} {i k : Nat} : k ∈ dueL M i ↔ k < i ∧ M.isDue k := by
  classical
  unfold dueL
  rw [List.mem_filter, List.mem_range]
  exact and_congr_right fun _ => ⟨fun h => of_decide_eq_true h, fun h => decide_eq_true h⟩
abbrev spDue (K : PySem.W.Frag) : Sp := Sp1 fun x H Q => ∃ (ad : Nat → Addr) (M : HM) (ks : List Nat) (vm vw : V), x = .ref (ad 1) ∧ PM K H ad M ks vm vw ∧ M.Ok ∧ KeptIn M ks ∧
  ∀ (r : Addr) (H' : Hp), Same H H' → H r = none → H' r = some (.lst (intsV (dueL M M.made))) → Q (.ref r) H'
theorem things_keys {ad : Nat → Addr} {ks : List Nat} : (ks.map fun (k : Nat) => ((.inl (k : Int) : Key), V.ref (ad (4 + 2 * k)))).map (·.1) = (ks.map fun (k : Nat) => (k : Int)).map Sum.inl := by
  rw [List.map_map, List.map_map]
  rfl
theorem sorted_lt {ks : List Nat} {ys : List Int} (s2 : ks.Pairwise (· < ·)) (p : ys.Perm (ks.map fun (k : Nat) => (k : Int))) (s : ys.Pairwise (· ≤ ·)) : ys = ks.map fun (k : Nat) => (k : Int) := by
  have s2 : (ks.map fun (k : Nat) => (k : Int)).Pairwise (· ≤ ·) := by
    rw [List.pairwise_map]
    exact s2.imp fun h => by omega
  exact p.eq_of_pairwise (fun a b _ _ h1 h2 => Int.le_antisymm h1 h2) s s2
open Classical in
/-- of those that are there, those that are due -/
theorem due_of {M : HM} {ks : List Nat} (ok : M.Ok) (hkp : KeptIn M ks) (s : ks.Pairwise (· < ·)) : ks.filter (fun k => decide (M.isDue k)) = dueL M M.made := by
  unfold dueL
  have s1 : (ks.filter (fun k => decide (M.isDue k))).Pairwise (· < ·) := s.filter _
  have s2 : ((List.range M.made).filter (fun k => decide (M.isDue k))).Pairwise (· < ·) := List.Pairwise.filter _ List.pairwise_lt_range
  have pm : (ks.filter (fun k => decide (M.isDue k))).Perm ((List.range M.made).filter (fun k => decide (M.isDue k))) := by
    refine (List.perm_ext_iff_of_nodup (s1.imp fun h => Nat.ne_of_lt h) (s2.imp fun h => Nat.ne_of_lt h)).mpr fun k => ?_
    rw [List.mem_filter, List.mem_filter, List.mem_range]
    refine and_congr_left fun h => ?_
    have d := of_decide_eq_true h
    obtain ⟨t, et, _⟩ := id d
    exact ⟨fun _ => ok.lt et, fun _ => hkp k (.base (.inr d))⟩
  exact pm.eq_of_pairwise (fun a b _ _ h1 h2 => by omega) s1 s2
theorem met_Heap_due (T : Tx w K mg base) : Met P w K mg base 1 (He.ga K "Heap") "due" (spDue K) [] := by
  obtain ⟨fd, F⟩ := T.fn_Heap_due
  refine met_of T.cl_Heap T.me_Heap_due F sc_Heap_due (F.bindsN fun _ _ _ _ _ _ us hl => match us, hl with | [_], _ => rfl) (fun vs H Q E h => h.len) (fun cdv A outer s H vs Q E hr h => ?_)
  obtain ⟨x, rfl, ad, M, ks, vm, vw, rfl, L, ok, hkp, q⟩ := h
  have hu := hu_of hr
  have nd := sc_Heap_due.nd
  refine ⟨_, (pss_one (ps_ret (pe_lc (own := [("number", 1)]) (by rfl) nd (pi_list (pe_callB (call_sortedDN rfl) (by rfl) T.n_sorted (by decide +kernel) (pa_cons (pe_fld (pv 0) rfl) pa_nil))) (blkOk_by (own := [("number", 1)]) (N := N_Heap_due) (sc := (C8.fnScope s_Heap_due)) (by decide +kernel)) (fun _ _ _ _ _ => (pg_name (i := 1) nd rfl (Or.inl rfl))) (fun _ _ _ _ _ => (pts_one (pt_val (pe_fldK (K := K) rfl (pe_fld (pe_dget hu (pe_fldK (K := K) rfl (pe_fld (pv 0) rfl)) (pv 1) (fun _ _ => rfl)) rfl))))) (fun _ _ _ _ _ => (pv 1))))), ?_⟩
  obtain ⟨dx1, h1⟩ := L.heap
  have h3 := L.ths
  walk_at "st"
  refine ⟨ad 3, _, _, rfl, .inl h3, things_keys, fun ys p pm ps hp => ?_⟩
  have ey := sorted_lt L.srt pm ps
  subst ey
  have s1 : Same H (upd H p (.lst ((ks.map fun (k : Nat) => (k : Int)).map V.int))) := Same.new hp
  have hp1 : upd H p (.lst ((ks.map fun (k : Nat) => (k : Int)).map V.int)) p = some (.lst (intsV ks)) := by rw [upd_same, intsV_eq]
  generalize upd H p (.lst ((ks.map fun (k : Nat) => (k : Int)).map V.int)) = H1 at s1 hp1 ⊢
  refine y_iL (sqL hp1) ?_
  have el : (intsV ks).length = ks.length := intsV_len
  have sm := L.sm
  have ln := L.len
  classical
  refine y_lcL (xs := intsV ks) (fun D i acc H' => Same H1 H' ∧ acc = intsV ((ks.take i).filter fun k => decide (M.isDue k))) (fun D hD => ⟨Same.new hD, rfl⟩) (fun D i acc H' hD _ p => sqL (p.1 _ _ hp1)) ?_ ?_
  · rintro D i x acc H2 hD hi hDl hle ⟨s2, rfl⟩
    unfold intsV at hi
    rw [List.getElem?_map] at hi
    obtain ⟨k, hk, rfl⟩ := Option.map_eq_some_iff.mp hi
    have il := (List.getElem?_eq_some_iff.mp hk).1
    have km := List.mem_of_getElem? hk
    obtain ⟨t, et, ot⟩ := ok.get (L.lt k km)
    have L2 := L.same (s1.trans s2)
    obtain ⟨dx2, t1⟩ := L2.heap
    have t3 := L2.ths
    obtain ⟨dxt, kvs, g1, g2, g3⟩ := L2.get et km
    unfold pth at g1
    have dueIff : M.isDue k ↔ t.due = true := ⟨fun ⟨u, e1, e2⟩ => by rw [et] at e1; cases e1; exact e2, fun h => ⟨t, et, h⟩⟩
    refine y_turn ?_
    walk_at "rd"
    refine ⟨rfl, ?_⟩
    walk_at "rd"
    refine y_dgetI t3 (valV_things L.srt km) ?_
    walk_at "rd"
    have tk : ks.take (i + 1) = ks.take i ++ [k] := take_snoc hk
    refine y_b (fun hdue => ?_) (fun hdue => ?_)
    · walk_at "rd"
      refine y_put hDl hle (by omega) ?_
      have e9 : intsV ((ks.take i).filter fun k => decide (M.isDue k)) ++ [V.int (k : Int)] = intsV ((ks.take (i + 1)).filter fun k => decide (M.isDue k)) := by
        rw [tk, List.filter_append, List.filter_cons, if_pos (decide_eq_true (dueIff.mpr hdue)), ← intsV_app]; rfl
      rw [e9]
      exact ⟨same_fresh s2 hD, rfl⟩
    · walk_at "rd"
      exact ⟨_, hDl, Nat.le_succ_of_le hle, s2, by
        rw [tk, List.filter_append, List.filter_cons, if_neg (fun z => by have := dueIff.mp (of_decide_eq_true z); rw [hdue] at this; cases this)]
        exact (List.append_nil _).symm ▸ rfl⟩
  · rintro D acc H2 hD hDl ⟨s2, rfl⟩
    rw [el, List.take_length, due_of ok hkp L.srt] at hDl
    exact q D H2 (s1.trans s2) (same_none s1 hD) hDl
end

section
variable {P : Program} {w : World} {K : PySem.W.Frag} {mg : Str → Option Value} {base : Heap}
abbrev spThingInit (K : PySem.W.Frag) : Sp := Sp2 fun x y H Q => ∃ (a dx : Addr) (kd : Str), x = .ref a ∧ y = .str kd ∧ H a = some (.ins (He.ga K "Thing") dx []) ∧
  ∀ (d : Addr) (H' : Hp), H d = none → (∀ b u, H b = some u → b ≠ a → H' b = some u) → H' a = some (.ins (He.ga K "Thing") dx (pth (newTh kd none) d)) → H' d = some (.dK (kvL (if kd = RECORD then LTS else []) fun _ => .non)) → Q .non H'
theorem lts_at {j k : Nat} (hj : ("abcd" : Str).cps[j]? = some k) : LTS[j]? = some ⟨#[k]⟩ := by
  have e : LTS = ("abcd" : Str).cps.toList.map (fun k => (⟨#[k]⟩ : Str)) := by decide +kernel
  rw [e, List.getElem?_map, Array.getElem?_toList, hj]
  rfl
theorem kvL_snoc {l : List Str} {n : Str} {f : Str → V} (h : n ∉ l) : putK (kvL l f) (.inr n) (f n) = kvL (l ++ [n]) f := by
  rw [putK_new _ (valV_kvL_no h)]
  unfold kvL
  rw [List.map_append]
  rfl
theorem mak_Thing (T : Tx w K mg base) : Mak P w K mg base 1 "Thing" (He.ga K "Thing") (spThingInit K) [] := by
  obtain ⟨fd, F⟩ := T.fn_Thing_init
  refine mak_of T.mk_Thing (glo_of T.k_Thing) F sc_Thing_init (F.bindsN fun _ _ _ _ _ _ us hl => match us, hl with | [_, _], _ => rfl) (fun vs H Q E h => h.len) (fun cdv A outer s H vs Q E hr h => ?_)
  obtain ⟨x, y, rfl, a, dx, kd, rfl, rfl, ha, q⟩ := h
  have hu := hu_of hr
  have nd := sc_Thing_init.nd
  refine ⟨_, (pss_cons (ps_fld (pv 0) (pv 1) rfl) (pss_cons (ps_fld (pv 0) pe_dnewK rfl) (pss_cons (ps_fld (pv 0) pe_non rfl) (pss_cons (ps_fld (pv 0) pe_bl rfl) (pss_cons (ps_fld (pv 0) pe_bl rfl) (pss_cons (ps_fld (pv 0) pe_bl rfl) (pss_cons (ps_fld (pv 0) pe_non rfl) (pss_one (ps_if (pt_cmpR op_eq (pv 1) (pe_gc rfl T.k_RECORD) (nomark _)) (pss_one (ps_for PassesOwn.never rfl (pi_str (pe_gc rfl T.k_LETTERS)) (pg_name (i := 2) nd rfl (Or.inl rfl)) (pss_one (ps_dput hu (pe_fld (pv 0) rfl) (pv 2) pe_non rfl)))) pss_nil))))))))), ?_⟩
  walk_at "st"
  intro d hd
  walk_at "rd"
  have nad : a ≠ d := ne_of_none upd_same hd
  have hd0 : H d = none := by rw [upd_ne nad.symm] at hd; exact hd
  walk_at "rd"
  refine y_dec (fun e => ?_) (fun e => ?_)
  · have e : kd = RECORD := eq_kind e
    subst e
    walk_at "rd"
    refine y_forS (fun i σ H' => ∃ u, σ = [some (.ref a), some (.str RECORD), u] ∧ H' a = some (.ins (He.ga K "Thing") dx (pth (newTh RECORD none) d)) ∧ H' d = some (.dK (kvL (LTS.take i) fun _ => .non)) ∧ ∀ b u, H b = some u → b ≠ a → H' b = some u)
      ⟨_, rfl, upd_same, by show _ = some (HO.dK []); walk_at "hp", fun b u e n => by
        rw [upd_ne n, upd_ne n, upd_ne n, upd_ne n, upd_ne n, upd_ne n, upd_ne (ne_of_none e hd0), upd_ne n]
        exact e⟩ ?_ ?_
    · rintro i k σ H' hi ⟨u, rfl, hA, hD, hK⟩
      have hn := lts_at hi
      have il := (List.getElem?_eq_some_iff.mp hn).1
      have hA' : H' a = some (.ins (He.ga K "Thing") dx (fs_Thing (.str RECORD) (.ref d) .non (.bl false) (.bl false) (.bl false) .non)) := hA
      clear hA
      walk_at "rd"
      have nm : (⟨#[k]⟩ : Str) ∉ LTS.take i := fun m => by
        obtain ⟨j, hj, ej⟩ := List.getElem_of_mem m
        rw [List.getElem_take] at ej
        obtain ⟨h1, h2⟩ := List.getElem?_eq_some_iff.mp hn
        have := (List.getElem_inj (show LTS.Nodup by decide)).mp (ej.trans h2.symm)
        rw [List.length_take] at hj
        omega
      refine y_dput (j := .inr ⟨#[k]⟩) hD rfl (small9000 (by unfold kvL; rw [List.length_map, List.length_take]; have : LTS.length = 4 := rfl; omega)) (kvL_snoc nm) ?_
      refine ⟨_, rfl, by rw [upd_ne nad]; exact hA', ?_, fun b u e n => by rw [upd_ne (ne_of_none e hd0)]; exact hK b u e n⟩
      rw [upd_same, take_snoc hn]
    · rintro σ H' ⟨u, rfl, hA, hD, hK⟩
      walk_at "rd"
      exact q d H' hd0 hK hA (by rw [hD]; rfl)
  · have e := ne_kind e
    walk_at "rd"
    refine q d _ hd0 (fun b u e n => by
        rw [upd_ne n, upd_ne n, upd_ne n, upd_ne n, upd_ne n, upd_ne n, upd_ne (ne_of_none e hd0), upd_ne n]
        exact e) ?_ ?_
    · rw [upd_same]
      rfl
    · rw [if_neg (show ¬ kd = RECORD from e)]
      show _ = some (HO.dK [])
      walk_at "hp"
abbrev spPMay (K : PySem.W.Frag) : Sp := Sp2 fun x y H Q => ∃ (a dx d : Addr) (t : Th) (m : Nat) (kvs : List (Key × V)) (p : Key), x = .ref a ∧ y = kV p ∧ H a = some (.ins (He.ga K "Thing") dx (pth t d)) ∧ H d = some (.dK kvs) ∧ HR (PV K H) kvs t.held ∧ t.Ok m ∧ Q (.bl (t.may p)) H
theorem y_isStr {H : Hp} {Q : VK} {p : Key} (q : Q (.bl (match p with | .inl _ => false | .inr _ => true)) H) : rIsi K [kV p, .ty "str"] H Q := by
  cases p with
  | inl i => exact y_isi2 (.base (.int i)) (b := false) rfl q
  | inr z => exact y_isi2 (.base (.str z)) (b := true) rfl q
theorem met_Thing_may_get (T : Tx w K mg base) : Met P w K mg base 2 (He.ga K "Thing") "may_get" (spPMay K) [] := by
  obtain ⟨fd, F⟩ := T.fn_Thing_may_get
  refine met_of T.cl_Thing T.me_Thing_may_get F sc_Thing_may_get (F.bindsN fun _ _ _ _ _ _ us hl => match us, hl with | [_, _], _ => rfl) (fun vs H Q E h => h.len) (fun cdv A outer s H vs Q E hr h => ?_)
  obtain ⟨x, y, rfl, a, dx, d, t, m, kvs, p, rfl, rfl, ha, hd, r, ok, q⟩ := h
  have hu := hu_of hr
  have nd := sc_Thing_may_get.nd
  refine ⟨_, (pss_cons (ps_if (pt_val (pe_mt (met_Thing_has T) hr (by decide) (pv 0) (pa_cons (pv 1) pa_nil))) (pss_one (ps_ret pe_bl)) pss_nil) (pss_cons (ps_if (pt_cmpR op_eq (pe_fld (pv 0) rfl) (pe_gc rfl T.k_ROW) (nomark _)) (pss_one (ps_ret (pe_and (pe_cmpR op_eq (pv 1) (pe_callB call_lenD (by rfl) T.n_len PySem.boot_len (pa_cons (pe_fld (pv 0) rfl) pa_nil)) (nomark _)) (pe_one (pe_cmpR op_lt (pe_callB call_lenD (by rfl) T.n_len PySem.boot_len (pa_cons (pe_fld (pv 0) rfl) pa_nil)) (pe_gc rfl T.k_MOST_ROW) (nomark _)))))) pss_nil) (pss_one (ps_ret (pe_and (pe_cmpR op_eq (pe_fld (pv 0) rfl) pe_str (nomark _)) (pe_and (pe_not (pe_callB call_isi (by rfl) T.n_isinstance (by decide +kernel) (pa_cons (pv 1) (pa_cons (pe_bltn (by rfl) T.n_str (by decide +kernel) (v := .ty "str") rfl) pa_nil)))) (pe_one (pe_cmpR op_lt (pe_callB call_lenD (by rfl) T.n_len PySem.boot_len (pa_cons (pe_fld (pv 0) rfl) pa_nil)) (pe_gc rfl T.k_MOST_BOOK) (nomark _))))))))), ?_⟩
  unfold pth at ha
  walk_at "st"
  refine ⟨a, dx, d, t, kvs, p, rfl, rfl, ha, hd, r, ?_⟩
  walk_at "rd"
  refine y_b (fun h => ?_) (fun h => ?_)
  · have e : t.may p = true := by unfold Th.may; rw [h]; rfl
    rw [e] at q
    exact q
  · obtain ⟨n1, n2, n3, n4, n5, n6⟩ := kinds_ne
    have hh : t.has p = false := h
    walk_at "rd"
    rcases ok.kd with kk | kk | kk | kk
    · rw [kk]
      refine y_F (fun z => n1 (V.str.inj z)) ?_
      walk_at "rd"
      rw [kk]
      refine y_F (fun z => n2 (V.str.inj z)) ?_
      walk_at "rd"
      have e : t.may p = false := by
        rw [may_rec ok kk]
        cases p with
        | inl j => rfl
        | inr s =>
          refine decide_eq_false fun m => ?_
          have : (hget t.held (.inr s)).isSome = true := hget_isSome.mpr (by rw [ok.recd kk]; exact List.mem_map.mpr ⟨s, m, rfl⟩)
          rw [show (hget t.held (.inr s)).isSome = false from hh] at this
          cases this
      rw [e] at q
      exact q
    · rw [kk]
      refine y_T rfl ?_
      walk_at "rd"
      refine y_lenD hd ?_
      refine y_eq (by cases p <;> rfl) ?_
      walk_at "rd"
      rw [r.len]
      have e : t.may p = (decide (kV p = V.int (t.held.length : Int)) && decide (t.held.length < 8)) := by
        unfold Th.may
        rw [hh, kk]
        cases p with
        | inl j =>
          show (false || ((true && decide (j = (t.held.length : Int)) && decide (t.held.length < 8)) || (decide (ROW = BOOK) && _))) = _
          rw [decide_eq_false n4, Bool.false_and, Bool.or_false, Bool.false_or, Bool.true_and]
          congr 1
          exact dec_congr v_int.to_iff.symm
        | inr s => rfl
      refine y_dec (fun h1 => ?_) (fun h1 => ?_)
      · rw [decide_eq_true h1, Bool.true_and] at e
        walk_at "rd"
        refine y_lenD hd ?_
        walk_at "rd"
        rw [r.len, show decide ((t.held.length : Int) < 8) = decide (t.held.length < 8) from dec_congr (by omega), ← e]
        exact q
      · rw [decide_eq_false h1, Bool.false_and] at e
        rw [e] at q
        exact q
    · rw [kk]
      refine y_F (fun z => n4 (V.str.inj z).symm) ?_
      walk_at "rd"
      rw [kk]
      refine y_T rfl ?_
      walk_at "rd"
      refine y_isStr ?_
      cases p with
      | inr s =>
        walk_at "rd"
        rw [may_bookS ok kk] at q
        exact q
      | inl j =>
        refine ⟨_, rfl, _, rfl, y_tt ?_⟩
        walk_at "rd"
        refine y_lenD hd ?_
        walk_at "rd"
        rw [may_book kk, hh, Bool.false_or] at q
        rw [r.len, show decide ((t.held.length : Int) < 6) = decide (t.held.length < 6) from dec_congr (by omega)]
        exact q
    · rw [kk]
      refine y_F (fun z => n5 (V.str.inj z).symm) ?_
      walk_at "rd"
      rw [kk]
      refine y_F (fun z => n6 (V.str.inj z).symm) ?_
      walk_at "rd"
      rw [may_watch ok kk] at q
      exact q
theorem rowV_keys {xs : List V} : (rowV xs).map (·.1) = (List.range xs.length).map fun (i : Nat) => (Sum.inl (i : Int) : Key) := by
  unfold rowV
  apply List.ext_getElem?
  intro i
  simp
  by_cases h : i < xs.length <;> simp [h]
theorem row_HR {VV : V → AV → Prop} {kvs : List (Key × V)} {vs : List AV} (r : HR VV kvs (rowOf vs)) : ∃ xs, kvs = rowV xs ∧ Paired VV xs vs := by
  have at_ : ∀ (m : Nat) (b : Key × AV), (rowOf vs)[m]? = some b → b.1 = .inl (m : Int) ∧ vs[m]? = some b.2 := fun m b e => by
    unfold rowOf at e
    rw [List.getElem?_mapIdx] at e
    obtain ⟨a, ea, rfl⟩ := Option.map_eq_some_iff.mp e
    exact ⟨rfl, ea⟩
  refine ⟨kvs.map (·.2), List.ext_getElem? fun m => ?_, paired_of (by rw [List.length_map, r.len, rowOf_len]) fun m a b ea eb => ?_⟩
  · unfold rowV
    rw [List.getElem?_mapIdx, List.getElem?_map]
    cases q : kvs[m]? with
    | none => rfl
    | some z =>
      obtain ⟨b, eb, e1, _⟩ := paired_get r q
      have := (at_ m b eb).1
      show some z = some (Sum.inl (m : Int), z.2)
      rw [← this, ← e1]
  · rw [List.getElem?_map] at ea
    obtain ⟨z, q, rfl⟩ := Option.map_eq_some_iff.mp ea
    obtain ⟨c, ec, _, e2⟩ := paired_get r q
    have := (at_ m c ec).2
    rw [eb] at this
    cases this
    exact e2
theorem valV_rowV {xs : List V} {j : Nat} {v : V} (h : xs[j]? = some v) : valV (rowV xs) (.inl (j : Int)) = some v := by
  refine valV_mem ?_ ?_
  · rw [rowV_keys]
    exact List.pairwise_map.mpr (List.nodup_range.imp fun {a b} h z => h (by have z := Sum.inl.inj z; omega))
  · obtain ⟨l, e⟩ := List.getElem?_eq_some_iff.mp h
    exact List.mem_mapIdx.mpr ⟨j, l, by rw [e]⟩
theorem paired_erase {α β : Type} {F : α → β → Prop} : ∀ {xs : List α} {ys : List β}, Paired F xs ys → ∀ {i : Nat}, Paired F (xs.eraseIdx i) (ys.eraseIdx i)
  | _, _, .nil, i => by simpa using Paired.nil
  | _, _, .cons h r, 0 => r
  | _, _, .cons h r, i + 1 => .cons h (paired_erase r)
abbrev spPCut (K : PySem.W.Frag) : Sp := Sp2 fun x y H Q => ∃ (a dx d : Addr) (t : Th) (m : Nat) (kvs : List (Key × V)) (p : Key) (av : AV), x = .ref a ∧ y = kV p ∧ a ≠ d ∧ H a = some (.ins (He.ga K "Thing") dx (pth t d)) ∧ H d = some (.dK kvs) ∧ HR (PV K H) kvs t.held ∧ t.Ok m ∧ hget t.held p = some av ∧
  ∀ (v : V) (d' : Addr) (kvs' : List (Key × V)) (H' : Hp), PV K H v av → H' a = some (.ins (He.ga K "Thing") dx (pth { t with held := t.cutH p } d')) → H' d' = some (.dK kvs') → HR (PV K H) kvs' (t.cutH p) → (d' = d ∨ H d' = none) → (∀ b u, H b = some u → b ≠ a → b ≠ d → H' b = some u) → (∀ x, H' x = none → H x = none) → Q v H'
theorem met_Thing_cut (T : Tx w K mg base) : Met P w K mg base 1 (He.ga K "Thing") "cut" (spPCut K) [] := by
  obtain ⟨fd, F⟩ := T.fn_Thing_cut
  refine met_of T.cl_Thing T.me_Thing_cut F sc_Thing_cut (F.bindsN fun _ _ _ _ _ _ us hl => match us, hl with | [_, _], _ => rfl) (fun vs H Q E h => h.len) (fun cdv A outer s H vs Q E hr h => ?_)
  obtain ⟨x, y, rfl, a, dx, d, t, m, kvs, p, av, rfl, rfl, nad, ha, hd, r, ok, hg, q⟩ := h
  have hu := hu_of hr
  have nd := sc_Thing_cut.nd
  refine ⟨_, (pss_cons (ps_set (i := 2) nd rfl (Or.inl rfl) (pe_dget hu (pe_fld (pv 0) rfl) (pv 1) (fun _ _ => rfl))) (pss_cons (ps_if (pt_cmpR op_eq (pe_fld (pv 0) rfl) (pe_gc rfl T.k_RECORD) (nomark _)) (pss_one (ps_dput hu (pe_fld (pv 0) rfl) (pv 1) pe_non rfl)) (pss_one (ps_if (pt_cmpR op_eq (pe_fld (pv 0) rfl) (pe_gc rfl T.k_ROW) (nomark _)) (pss_cons (ps_set (i := 3) nd rfl (Or.inr rfl) (pe_lc (own := [("place", 4)]) (by rfl) nd (pi_range1 (by rfl) T.n_range (pa_cons (pe_callB call_lenD (by rfl) T.n_len PySem.boot_len (pa_cons (pe_fld (pv 0) rfl) pa_nil)) pa_nil)) (blkOk_by (own := [("place", 4)]) (N := N_Thing_cut) (sc := (C8.fnScope s_Thing_cut)) (by decide +kernel)) (fun _ _ _ _ _ => (pg_name (i := 4) nd rfl (Or.inl rfl))) (fun _ _ _ _ _ => (pts_one (pt_cmpR op_ne (pv 4) (pv 1) (nomark _)))) (fun _ _ _ _ _ => (pe_dget hu (pe_fldK (K := K) rfl (pe_fld (pv 0) rfl)) (pv 4) (fun _ _ => rfl))))) (pss_one (ps_fld (pv 0) (pe_callTy (call_dictP rfl) (by rfl) T.n_dict (by decide +kernel) (pa_cons (pe_lc (own := [("place", 4)]) (by rfl) nd (pi_range1 (by rfl) T.n_range (pa_cons (pe_callB call_len_seq (by rfl) T.n_len PySem.boot_len (pa_cons (pv 3) pa_nil)) pa_nil)) (blkOk_by (own := [("place", 4)]) (N := N_Thing_cut) (sc := (C8.fnScope s_Thing_cut)) (by decide +kernel)) (fun _ _ _ _ _ => (pg_name (i := 4) nd rfl (Or.inl rfl))) (fun _ _ _ _ _ => pts_nil) (fun _ _ _ _ _ => (pe_tup (pa_cons (pv 4) (pa_cons (pe_ix (ix_listK (K := K) rfl) (pv 3) (pv 4) (fun _ _ => rfl)) pa_nil))))) pa_nil)) rfl))) (pss_one (ps_expr (pe_dpop1 (pe_fld (pv 0) rfl) (pv 1) ⟨rfl, rfl, rfl, rfl⟩)))))) (pss_one (ps_ret (pv 2))))), ?_⟩
  unfold pth at ha
  walk_at "st"
  obtain ⟨v, hv, pv⟩ := r.some hg
  refine y_dgetK hd hv ?_
  obtain ⟨n1, n2, n3, n4, n5, n6⟩ := kinds_ne
  walk_at "rd"
  have kl : kvs.length ≤ 8 := by rw [r.len]; exact ok.len
  rcases ok.kd with kk | kk | kk | kk
  · have ec : t.cutH p = hput t.held p .non := by unfold Th.cutH; rw [if_pos kk]
    rw [kk]
    refine y_T rfl ?_
    walk_at "rd"
    refine y_dput (j := p) hd rfl (small9000 (by omega)) rfl ?_
    walk_at "rd"
    refine q v d _ _ pv (by rw [upd_ne nad, ha]; rfl) upd_same ?_ (.inl rfl) (fun b u e n1 n2 => by rw [upd_ne n2]; exact e) (fun x h => upd_none h)
    rw [ec]
    exact r.put rfl
  · rw [kk]
    refine y_F (fun z => n1 (V.str.inj z).symm) ?_
    walk_at "rd"
    rw [kk]
    refine y_T rfl ?_
    walk_at "rd"
    obtain ⟨vs, ev, hp⟩ := has_row (p := p) ok kk
    obtain ⟨i, rfl, il⟩ := hp.mp (show (hget t.held p).isSome = true by rw [hg]; rfl)
    have ec : t.cutH (.inl (i : Int)) = rowOf (vs.eraseIdx i) := by
      unfold Th.cutH
      rw [if_neg (fun z => n1 (z.symm.trans kk)), if_pos kk, ev, rowCut_row]
    rw [ev] at r
    obtain ⟨xs, rfl, rx⟩ := row_HR r
    have lx : xs.length = vs.length := Paired.length rx
    have x8 : xs.length ≤ 8 := by have := kl; unfold rowV at this; rw [List.length_mapIdx] at this; exact this
    refine y_lenD hd ?_
    have el : (rowV xs).length = xs.length := by unfold rowV; rw [List.length_mapIdx]
    rw [el]
    walk_at "rd"
    refine y_iR (by omega) (by omega) ?_
    rw [Int.toNat_natCast]
    refine y_lcR (fun D j acc H' => Same H H' ∧ acc = (xs.take j).eraseIdx i) (fun D hD => ⟨Same.new hD, by cases i <;> rfl⟩) ?_ ?_
    · rintro D j acc H2 hD hj hDl hle ⟨s2, rfl⟩
      have ha2 := s2 _ _ ha
      have hd2 := s2 _ _ hd
      have hx : xs[j]? = some xs[j] := List.getElem?_eq_getElem hj
      have tl : (xs.take j).length = j := by rw [List.length_take]; omega
      refine y_turn ?_
      walk_at "rd"
      refine ⟨rfl, ?_⟩
      walk_at "rd"
      refine y_ndec (fun c => ?_) (fun c => ?_)
      · have c : j ≠ i := fun z => c (by rw [z]; rfl)
        walk_at "rd"
        refine y_dgetI hd2 (valV_rowV hx) ?_
        refine y_put hDl hle (by omega) ⟨same_fresh s2 hD, ?_⟩
        rw [take_snoc hx]
        by_cases lt : i < j
        · rw [List.eraseIdx_append_of_lt_length (by omega)]
        · rw [List.eraseIdx_append_of_length_le (by omega), List.eraseIdx_of_length_le (l := xs.take j) (by omega), List.eraseIdx_of_length_le (by rw [List.length_singleton]; omega)]
      · have c : j = i := by have := V.int.inj c; omega
        refine ⟨_, hDl, Nat.le_succ_of_le hle, s2, ?_⟩
        subst c
        rw [take_snoc hx, List.eraseIdx_append_of_length_le (by omega), List.eraseIdx_of_length_le (l := xs.take j) (by omega), tl, Nat.sub_self, show [xs[j]].eraseIdx 0 = [] from rfl, List.append_nil]
    · rintro D acc H2 hD hDl ⟨s2, rfl⟩
      rw [List.take_length] at hDl
      have ha2 := s2 _ _ ha
      have yl : (xs.eraseIdx i).length ≤ 8 := by rw [List.length_eraseIdx]; split <;> omega
      generalize hys : xs.eraseIdx i = ys at hDl yl
      walk_at "rd"
      refine y_lenL (sqL hDl) ?_
      walk_at "rd"
      refine y_iR (by omega) (by omega) ?_
      rw [Int.toNat_natCast]
      refine y_lcR (fun E j acc H' => Same H2 H' ∧ ∃ ps : List (Addr × Key × V), acc = ps.map (fun z => V.ref z.1) ∧ ps.map (·.2) = rowV (ys.take j) ∧ ∀ z ∈ ps, H' z.1 = some (.tup [kV z.2.1, z.2.2])) (fun E hE => ⟨Same.new hE, [], rfl, rfl, fun z m => by cases m⟩) ?_ ?_
      · rintro E j acc H3 hE hj hEl hle ⟨s3, ps, rfl, e2, ht⟩
        have hD3 := s3 _ _ hDl
        have hx : ys[j]? = some ys[j] := List.getElem?_eq_getElem hj
        refine y_turn ?_
        walk_at "rd"
        refine ⟨rfl, y_yes (y_tt ?_)⟩
        walk_at "rd"
        refine y_ixL hD3 (atI_nat hx) ?_
        walk_at "rd"
        intro p hp
        have np : E ≠ p := fun z => by rw [← z, hEl] at hp; cases hp
        refine y_put (by rw [upd_ne np]; exact hEl) hle (by omega) ⟨fun b u e => ?_, ps ++ [(p, .inl (j : Int), ys[j])], by rw [List.map_append]; rfl, ?_, fun z m => ?_⟩
        · rw [upd_ne fun z => by rw [z, hE] at e; cases e]
          exact Same.new hp _ _ (s3 _ _ e)
        · rw [List.map_append, e2, List.take_succ, hx]
          unfold rowV
          rw [show (some ys[j]).toList = [ys[j]] from rfl, List.mapIdx_concat, List.length_take, Nat.min_eq_left (by omega)]
          rfl
        · rcases List.mem_append.mp m with m | m
          · have := ht z m
            rw [upd_ne fun y => by rw [y, hEl] at this; cases this]
            exact Same.new hp _ _ this
          · rw [List.mem_singleton] at m
            subst m
            rw [upd_ne np.symm, upd_same]
            rfl
      · rintro E acc H3 hE hEl ⟨s3, ps, rfl, e2, ht⟩
        rw [List.take_length] at e2
        walk_at "rd"
        refine ⟨E, ps.map (·.1), ps.map (·.2), rfl, sqL (by rw [hEl, List.map_map]; rfl), paired_of (by simp) (fun m a b ea eb => ?_), fun d' hd' => ?_⟩
        · rw [List.getElem?_map] at ea eb
          cases q : ps[m]? with
          | none => rw [q] at ea; cases ea
          | some z =>
            rw [q] at ea eb
            cases ea
            cases eb
            exact sqT (ht z (List.mem_of_getElem? q))
        · rw [e2, mergeK_nd (by
            rw [rowV_keys]
            exact List.pairwise_map.mpr (List.nodup_range.imp fun {a b} h z => h (by have z := Sum.inl.inj z; omega)))]
          have ha3 := s3 _ _ ha2
          have nad' : a ≠ d' := ne_of_none ha3 hd'
          walk_at "rd"
          refine q v d' (rowV ys) _ pv (by rw [upd_same]; rfl) (by rw [upd_ne nad'.symm, upd_same]) ?_ (.inr (same_none (s2.trans s3) hd')) (fun b u e n1 n2 => ?_) (fun x h => same_none (s2.trans s3) (upd_none (upd_none h)))
          · rw [ec, ← hys]
            exact rowV_HR (paired_erase rx)
          · rw [upd_ne n1]
            exact Same.new hd' _ _ (s3 _ _ (s2 _ _ e))
  · have ec : t.cutH p = hdrop t.held p := by unfold Th.cutH; rw [if_neg (fun z => n2 (z.symm.trans kk)), if_neg (fun z => n4 (z.symm.trans kk))]
    rw [kk]
    refine y_F (fun z => n2 (V.str.inj z).symm) ?_
    walk_at "rd"
    rw [kk]
    refine y_F (fun z => n4 (V.str.inj z).symm) ?_
    walk_at "rd"
    refine ⟨kvs, p, v, hd, rfl, hv, ?_⟩
    walk_at "rd"
    refine q v d _ _ pv (by rw [upd_ne nad, ha]; rfl) upd_same ?_ (.inl rfl) (fun b u e n1 n2 => by rw [upd_ne n2]; exact e) (fun x h => upd_none h)
    rw [ec]
    exact r.drop
  · rw [(ok.wat kk).1] at hg
    cases hg
abbrev spPMake (K : PySem.W.Frag) : Sp := Sp2 fun x y H Q => ∃ (ad : Nat → Addr) (M : HM) (ks : List Nat) (vm vw : V) (kd : Str), x = .ref (ad 1) ∧ y = .str kd ∧ PM K H ad M ks vm vw ∧ M.made < 9000 ∧
  ∀ (a d : Addr) (H' : Hp), PRes K H ad M H' (adP ad M.made a d) (M.mk1 kd none) (ks ++ [M.made]) vm vw → Q (.int (M.made : Int)) H'
theorem HR_new {H : Hp} {kd : Str} : HR (PV K H) (kvL (if kd = RECORD then LTS else []) fun _ => .non) (newTh kd none).held := by
  show HR _ _ (if kd = RECORD then recH else [])
  by_cases e : kd = RECORD
  · rw [if_pos e, if_pos e]
    exact paired_of (by simp [kvL, recH]) fun m a b e1 e2 => by
      unfold kvL at e1
      unfold recH at e2
      rw [List.getElem?_map] at e1 e2
      cases q : LTS[m]? with
      | none => rw [q] at e1; cases e1
      | some z => rw [q] at e1 e2; cases e1; cases e2; exact ⟨rfl, rfl⟩
  · rw [if_neg e, if_neg e]
    exact .nil
theorem met_Heap_make (T : Tx w K mg base) : Met P w K mg base 3 (He.ga K "Heap") "make" (spPMake K) [] := by
  obtain ⟨fd, F⟩ := T.fn_Heap_make
  refine met_of T.cl_Heap T.me_Heap_make F sc_Heap_make (F.bindsN fun _ _ _ _ _ _ us hl => match us, hl with | [_, _], _ => rfl) (fun vs H Q E h => h.len) (fun cdv A outer s H vs Q E hr h => ?_)
  obtain ⟨x, y, rfl, ad, M, ks, vm, vw, kd, rfl, rfl, L, sm, q⟩ := h
  have hu := hu_of hr
  have nd := sc_Heap_make.nd
  refine ⟨_, (pss_cons (ps_dput hu (pe_fld (pv 0) rfl) (pe_fld (pv 0) rfl) (pe_mk (mak_Thing T) hr (by decide) (by rfl) (pa_cons (pv 1) pa_nil)) rfl) (pss_cons (ps_fld (pv 0) (pe_op op_add (pe_fld (pv 0) rfl) pe_int) rfl) (pss_one (ps_ret (pe_op op_sub (pe_fld (pv 0) rfl) pe_int))))), ?_⟩
  obtain ⟨dx1, h1⟩ := L.heap
  have h3 := L.ths
  have own := L.own
  walk_at "st"
  intro x dx hx hdx ndx
  refine x_sm1 ⟨x, dx, kd, rfl, rfl, upd_same, fun d H2 hd hk gA gD => ⟨rfl, ?_⟩⟩
  have nxd : x ≠ d := ne_of_none upd_same hd
  have ndd : dx ≠ d := ne_of_none (by rw [upd_ne ndx, upd_same]) hd
  have hd0 : H d = none := by rw [upd_ne nxd.symm, upd_ne ndd.symm] at hd; exact hd
  have s2 : Same H H2 := fun b u e => hk b u (by rw [upd_ne (ne_of_none e hx), upd_ne (ne_of_none e hdx)]; exact e) (ne_of_none e hx)
  have h12 := s2 _ _ h1
  have h32 := s2 _ _ h3
  have n13 : ad 1 ≠ ad 3 := own.ne (by omega) (by omega) (by omega)
  have nm : (Sum.inl (M.made : Int) : Key) ∉ (ks.map fun (k : Nat) => ((.inl (k : Int) : Key), V.ref (ad (4 + 2 * k)))).map (·.1) := fun m => by
    rw [things_keys, List.map_map] at m
    obtain ⟨k, mk, e⟩ := List.mem_map.mp m
    have e : ((k : Int)) = (M.made : Int) := Sum.inl.inj e
    have := L.lt k mk
    omega
  walk_at "rd"
  refine y_dput (j := .inl (M.made : Int)) h32 rfl (small9000 (by rw [List.length_map]; have := L.len; omega)) (putK_new _ (valV_none nm)) ?_
  walk_at "rd"
  have e : ((M.made : Int) + 1 - 1) = (M.made : Int) := by omega
  rw [e]
  refine q x d _ (PRes.make (L.make (dx1 := dx1) (dxx := dx) T hx hd0 nxd (by rw [upd_same]; rfl) (by rw [upd_ne n13.symm, upd_same]) ?_ ?_ HR_new ?_ sm) rfl hx hd0 ?_ fun x h => same_none s2 (upd_none (upd_none h)))
  · rw [upd_ne (own.fresh (by omega) hx).symm, upd_ne (own.fresh (by omega) hx).symm]
    exact gA
  · rw [upd_ne (own.fresh (by omega) hd0).symm, upd_ne (own.fresh (by omega) hd0).symm]
    exact gD
  · exact fun b u e n1 n3 => by rw [upd_ne n1, upd_ne n3]; exact s2 _ _ e
  · exact (Fr.same s2).tr ((Fr.upd ⟨3, by omega, rfl⟩ (by rw [h32]; trivial)).tr (Fr.upd ⟨1, by omega, rfl⟩ (by rw [upd_ne n13, h12]; exact T.ne_Heap)))
end

section
variable {P : Program} {w : World} {K : PySem.W.Frag} {mg : Str → Option Value} {base : Heap}
theorem rowOf_get {vs : List AV} {i : Nat} : hget (rowOf vs) (.inl (i : Int)) = vs[i]? := by
  have gen : ∀ (vs : List AV) (i b : Nat), ((vs.mapIdx fun j v => ((Sum.inl ((j + b : Nat) : Int) : Key), v)).find? fun kv => decide (kv.1 = Sum.inl ((i + b : Nat) : Int))).map (·.2) = vs[i]? := by
    intro vs
    induction vs with
    | nil => intro i b; rfl
    | cons v vs ih =>
      intro i b
      rw [List.mapIdx_cons]
      have sh : (vs.mapIdx fun j v => ((Sum.inl ((j + 1 + b : Nat) : Int) : Key), v)) = vs.mapIdx fun j v => ((Sum.inl ((j + (b + 1) : Nat) : Int) : Key), v) := by
        congr 1
        funext j v
        rw [show j + 1 + b = j + (b + 1) by omega]
      rw [sh]
      cases i with
      | zero => rw [List.find?_cons_of_pos (by simp)]; rfl
      | succ i =>
        rw [List.find?_cons_of_neg]
        · have := ih i (b + 1)
          rw [show i + 1 + b = i + (b + 1) by omega, this]
          rfl
        · intro z
          have z := of_decide_eq_true z
          have : ((0 + b : Nat) : Int) = ((i + 1 + b : Nat) : Int) := Sum.inl.inj z
          omega
  exact gen vs i 0
/-- what is told -/
def TD (H : Hp) (v : V) : Tell → Prop
  | .v a => LV H v a
  | .no => v = .str "no"
  | .list ns => ∃ p, v = .ref p ∧ H p = some (.lst (intsV ns))
def TNew (H : Hp) (F : Addr → Prop) (v : V) : Tell → Prop
  | .list _ => ∃ p, v = .ref p ∧ orTbl H p ∧ ¬ F p
  | _ => True
abbrev spDoG (K : PySem.W.Frag) (S : Deed → Prop) : Sp := Sp2 fun x y H Q => ∃ (ad : Nat → Addr) (M : HM) (dp : Addr) (d : Deed), x = .ref (ad 0) ∧ y = .ref dp ∧ H dp = some (.tup (deedV d)) ∧ S d ∧ Good d ∧ LM K H ad M ∧ M.Ok ∧ M.made < 9000 ∧ LamX.Tabs (TTs K) H ∧
  ∀ (v : V) (ad' : Nat → Addr) (H' : Hp), LM K H' ad' (doM M d).2 → ad' 0 = ad 0 → New H (LF ad M) (LF ad' (doM M d).2) → Fr K (LF ad M) H H' → TD H' v (doM M d).1 → TNew H (LF ad' (doM M d).2) v (doM M d).1 → Q v H'
def isPart : Deed → Prop
  | .put _ _ _ => True
  | .take _ _ _ => True
  | .cut _ _ => True
  | _ => False
def isMore : Deed → Prop
  | .last _ _ => True
  | .watch _ _ => True
  | .ask _ _ => True
  | _ => False
theorem hold_self {M : HM} {n m : Str} {a : AV} : (M.hold n a).names m = if m = n then a else M.names m := rfl
theorem LM.frNm {H : Hp} {ad : Nat → Addr} {M : HM} (L : LM K H ad M) {o : HO} : Fr K (LF ad M) H (upd H (ad 1) o) := Fr.upd ⟨1, by omega, rfl⟩ (L.own.chg (by omega))
theorem doM_put {M : HM} {n m : Str} {p : Key} {k : Nat} {t : Th} (e : M.thOf n = some (k, t)) : doM M (.put n p m) = if t.may p = true then (.v .non, M.setTh k { t with held := hput t.held p (M.names m) }) else (.no, M) := by
  show (match M.thOf n with | none => ((.no, M) : Tell × HM) | some (k, t) => if t.may p = true then (.v .non, M.setTh k { t with held := hput t.held p (M.names m) }) else (.no, M)) = _
  rw [e]
theorem doM_put0 {M : HM} {n m : Str} {p : Key} (e : M.thOf n = none) : doM M (.put n p m) = (.no, M) := by
  show (match M.thOf n with | none => ((.no, M) : Tell × HM) | some (k, t) => if t.may p = true then (.v .non, M.setTh k { t with held := hput t.held p (M.names m) }) else (.no, M)) = _
  rw [e]
theorem doM_take0 {M : HM} {n m : Str} {p : Key} (e : M.thOf m = none) : doM M (.take n m p) = (.no, M) := by
  show (match M.thOf m with | none => ((.no, M) : Tell × HM) | some (_, t) => match hget t.held p with | none => (.no, M) | some a => (.v a, M.hold n a)) = _
  rw [e]
theorem doM_take1 {M : HM} {n m : Str} {p : Key} {k : Nat} {t : Th} (e : M.thOf m = some (k, t)) (h : hget t.held p = none) : doM M (.take n m p) = (.no, M) := by
  show (match M.thOf m with | none => ((.no, M) : Tell × HM) | some (_, t) => match hget t.held p with | none => (.no, M) | some a => (.v a, M.hold n a)) = _
  rw [e]
  show (match hget t.held p with | none => ((.no, M) : Tell × HM) | some a => (.v a, M.hold n a)) = _
  rw [h]
theorem doM_take2 {M : HM} {n m : Str} {p : Key} {k : Nat} {t : Th} {a : AV} (e : M.thOf m = some (k, t)) (h : hget t.held p = some a) : doM M (.take n m p) = (.v a, M.hold n a) := by
  show (match M.thOf m with | none => ((.no, M) : Tell × HM) | some (_, t) => match hget t.held p with | none => (.no, M) | some a => (.v a, M.hold n a)) = _
  rw [e]
  show (match hget t.held p with | none => ((.no, M) : Tell × HM) | some a => (.v a, M.hold n a)) = _
  rw [h]
theorem doM_cut0 {M : HM} {n : Str} {p : Key} (e : M.thOf n = none) : doM M (.cut n p) = (.no, M) := by
  show (match M.thOf n with | none => ((.no, M) : Tell × HM) | some (k, t) => if t.has p = true then (.v .non, M.setTh k { t with held := t.cutH p }) else (.no, M)) = _
  rw [e]
theorem doM_cut {M : HM} {n : Str} {p : Key} {k : Nat} {t : Th} (e : M.thOf n = some (k, t)) : doM M (.cut n p) = if t.has p = true then (.v .non, M.setTh k { t with held := t.cutH p }) else (.no, M) := by
  show (match M.thOf n with | none => ((.no, M) : Tell × HM) | some (k, t) => if t.has p = true then (.v .non, M.setTh k { t with held := t.cutH p }) else (.no, M)) = _
  rw [e]
end

theorem doM_last0 {M : HM} {n : Str} {g : Option Str} (e : M.thOf n = none) : doM M (.last n g) = (.no, M) := by
  show (match M.thOf n with | none => ((.no, M) : Tell × HM) | some (k, t) => if t.kind = WATCH ∨ t.given = true then (.no, M) else (.v .non, M.setTh k { t with given := true, due := true, goal := g })) = _
  rw [e]
theorem doM_last {M : HM} {n : Str} {g : Option Str} {k : Nat} {t : Th} (e : M.thOf n = some (k, t)) : doM M (.last n g) = if t.kind = WATCH ∨ t.given = true then (.no, M) else (.v .non, M.setTh k { t with given := true, due := true, goal := g }) := by
  show (match M.thOf n with | none => ((.no, M) : Tell × HM) | some (k, t) => if t.kind = WATCH ∨ t.given = true then (.no, M) else (.v .non, M.setTh k { t with given := true, due := true, goal := g })) = _
  rw [e]
theorem doM_watch {M : HM} {n m : Str} {k : Nat} (e : M.names m = .th k) : doM M (.watch n m) = (.v (.th M.made), (M.mk1 WATCH (some k)).hold n (.th M.made)) := by
  show (match M.names m with | .th k => ((.v (.th M.made), (M.mk1 WATCH (some k)).hold n (.th M.made)) : Tell × HM) | _ => (.no, M)) = _
  rw [e]
theorem doM_watch0 {M : HM} {n m : Str} (o : M.Ok) (e : M.thOf m = none) : doM M (.watch n m) = (.no, M) := by
  show (match M.names m with | .th k => ((.v (.th M.made), (M.mk1 WATCH (some k)).hold n (.th M.made)) : Tell × HM) | _ => (.no, M)) = _
  have on := o.nms m
  unfold HM.thOf at e
  cases q : M.names m with
  | non => rfl
  | num i => rfl
  | th k =>
    rw [q] at e on
    obtain ⟨t, et, _⟩ := o.get on
    have e : (M.things k).map (fun t => (k, t)) = none := e
    rw [et] at e
    cases e
theorem doM_ask0 {M : HM} {n m : Str} (e : M.thOf m = none) : doM M (.ask n m) = (.no, M) := by
  show (match M.thOf m with
      | none => ((.no, M) : Tell × HM)
      | some (k, t) => if t.kind = WATCH then (match M.tellM.things k with
        | some t' => let a := if t'.told = true then AV.non else match t'.sees with
            | some s => .th s
            | none => .non
          (.v a, M.tellM.hold n a)
        | none => (.no, M)) else (.no, M)) = _
  rw [e]
theorem doM_ask1 {M : HM} {n m : Str} {k : Nat} {t : Th} (e : M.thOf m = some (k, t)) (c : t.kind ≠ WATCH) : doM M (.ask n m) = (.no, M) := by
  show (match M.thOf m with
      | none => ((.no, M) : Tell × HM)
      | some (k, t) => if t.kind = WATCH then (match M.tellM.things k with
        | some t' => let a := if t'.told = true then AV.non else match t'.sees with
            | some s => .th s
            | none => .non
          (.v a, M.tellM.hold n a)
        | none => (.no, M)) else (.no, M)) = _
  rw [e]
  exact if_neg c
theorem doM_ask2 {M : HM} {n m : Str} {k : Nat} {t t' : Th} {s : Nat} (e : M.thOf m = some (k, t)) (c : t.kind = WATCH) (e2 : M.tellM.things k = some t') (es : t'.sees = some s) : doM M (.ask n m) = (.v (if t'.told = true then .non else .th s), M.tellM.hold n (if t'.told = true then .non else .th s)) := by
  show (match M.thOf m with
      | none => ((.no, M) : Tell × HM)
      | some (k, t) => if t.kind = WATCH then (match M.tellM.things k with
        | some t' => let a := if t'.told = true then AV.non else match t'.sees with
            | some s => .th s
            | none => .non
          (.v a, M.tellM.hold n a)
        | none => (.no, M)) else (.no, M)) = _
  rw [e]
  show (if t.kind = WATCH then (match M.tellM.things k with
        | some t' => let a := if t'.told = true then AV.non else match t'.sees with
            | some s => .th s
            | none => .non
          ((.v a, M.tellM.hold n a) : Tell × HM)
        | none => (.no, M)) else (.no, M)) = _
  rw [if_pos c, e2]
  show ((.v (if t'.told = true then AV.non else match t'.sees with
            | some s => .th s
            | none => .non), M.tellM.hold n (if t'.told = true then AV.non else match t'.sees with
            | some s => .th s
            | none => .non)) : Tell × HM) = _
  rw [es]
theorem mk1_set {M : HM} {s : Nat} : (M.mk1 WATCH none).setTh M.made { newTh WATCH none with sees := some s } = M.mk1 WATCH (some s) := by
  show ({ names := M.names, things := fun j => if j = M.made then some { newTh WATCH none with sees := some s } else (if j = M.made then some (newTh WATCH none) else M.things j), made := M.made + 1 } : HM) = ⟨M.names, fun j => if j = M.made then some (newTh WATCH (some s)) else M.things j, M.made + 1⟩
  congr 1
  funext j
  by_cases c : j = M.made
  · rw [if_pos c, if_pos c]; rfl
  · rw [if_neg c, if_neg c, if_neg c]
theorem putK_due {t : Th} {d : Addr} : putK (ltd t d) (.inr "last") (.str "due") = ltd { t with given := true, due := true } d := by
  rw [putK_old lk_last]
  rfl
theorem putK_goal {t : Th} {d : Addr} {g : Option Str} : putK (ltd t d) (.inr "goal") (goalV g) = ltd { t with goal := g } d := by
  rw [putK_old lk_goal]
  rfl
theorem putK_sees {t : Th} {d : Addr} {s : Nat} : putK (ltd t d) (.inr "sees") (.int (s : Int)) = ltd { t with sees := some s } d := by
  rw [putK_old lk_sees]
  rfl
theorem lastOf_none {t : Th} (o : t.due = true → t.given = true) : decide (V.str (lastOf t) = V.str "none") = !t.given := by
  unfold lastOf
  cases h : t.due with
  | true => rw [o h]; exact decide_eq_false (by rw [if_pos rfl]; intro z; exact absurd (V.str.inj z) (by decide))
  | false =>
    rw [if_neg Bool.false_ne_true]
    cases h2 : t.given with
    | true => exact decide_eq_false (by rw [if_pos rfl]; intro z; exact absurd (V.str.inj z) (by decide))
    | false => exact decide_eq_true (by rw [if_neg Bool.false_ne_true])
theorem tell_get {M : HM} {k : Nat} {t : Th} (e : M.things k = some t) : ∃ b, M.tellM.things k = some { t with told := b } := by
  classical
  by_cases c : t.kind = WATCH ∧ ¬ ∃ s, t.sees = some s ∧ M.reach s
  · refine ⟨true, ?_⟩
    show (M.things k).map _ = _
    rw [e]
    exact congrArg some (@if_pos _ _ c _ _ _)
  · refine ⟨t.told, ?_⟩
    show (M.things k).map _ = _
    rw [e]
    exact congrArg some (@if_neg _ _ c _ _ _)
theorem adN_lo {ad : Nat → Addr} {m i : Nat} {a d : Addr} (h : i < 3 + 2 * m) : adN ad m a d i = ad i := by unfold adN; rw [if_neg (by omega), if_neg (by omega)]
theorem adN_new {H : Hp} {ad : Nat → Addr} {M M' : HM} {a d : Addr} (em : M'.made = M.made + 1) (ha : H a = none) (hd : H d = none) : New H (LF ad M) (LF (adN ad M.made a d) M') := by
  rintro b ⟨i, hi, rfl⟩
  rw [em] at hi
  unfold adN
  by_cases c : i = 4 + 2 * M.made
  · rw [if_pos c]; exact .inr hd
  · rw [if_neg c]
    by_cases c2 : i = 3 + 2 * M.made
    · rw [if_pos c2]; exact .inr ha
    · rw [if_neg c2]; exact .inl ⟨i, by omega, rfl⟩
theorem y_U {f : Int → V} {i : Int} {H : Hp} {Q : VK} (q : Q (f i) H) : rU f (.int i) H Q := ⟨i, rfl, q⟩
theorem atI_last {f : Nat → V} {n : Nat} : atI ((List.range (n + 1)).map f) (-1) = some (f n) := by
  unfold atI ixN
  rw [if_neg (by decide), List.length_map, List.length_range, if_pos (by omega)]
  show ((List.range (n + 1)).map f)[(-1 + ((n + 1 : Nat) : Int)).toNat]? = _
  have : (-1 + ((n + 1 : Nat) : Int)).toNat = n := by omega
  rw [this, List.getElem?_map, List.getElem?_range (Nat.lt_succ_self n)]
  rfl
section
variable {P : Program} {w : World} {K : PySem.W.Frag} {mg : Str → Option Value} {base : Heap}
end

theorem x_iK {σ : L2.St} {H : Hp} {td : TE} {R : It → Hp → Prop} (h : td σ H fun x H1 => ∃ d o, x = .ref d ∧ ((∃ kvs, H1 d = some (.frz o (.dK kvs)) ∧ R (Itk d o kvs) H1) ∨ ∃ kvs, H1 d = some (.frz o (.dT kvs)) ∧ R (Itkt d o kvs) H1)) : iKeys td σ H R := h
theorem y_iK {H1 : Hp} {d : Addr} {o : Obj} {kvs : List (Key × V)} {R : Addr → Obj → It → Prop} (h : H1 d = some (.frz o (.dK kvs))) (q : R d o (Itk d o kvs)) : ∃ d' o', V.ref d = .ref d' ∧ ((∃ kvs, H1 d' = some (.frz o' (.dK kvs)) ∧ R d' o' (Itk d' o' kvs)) ∨ ∃ kvs, H1 d' = some (.frz o' (.dT kvs)) ∧ R d' o' (Itkt d' o' kvs)) := ⟨d, o, rfl, .inl ⟨kvs, h, q⟩⟩
def tIfTT (t : TT) (ta tb : TT) : TT := fun σ H Q => t σ H fun c H1 => if c = true then ta σ H1 Q else tb σ H1 Q
theorem pt_ifT {X : Cx} {tA ta tb : TT} {c a b : Expr} {pos : Pos} (hc : PT X c tA) (ha : PT X a ta) (hb : PT X b tb) : PT X (.IfExp c a b pos) (tIfTT tA ta tb) := by
  refine ⟨fun pins s σ H Q I h => ?_⟩
  refine isTrue_IfExp (thn (hc.run pins s σ H _ I h) fun d s1 ⟨H1, I1, q1⟩ => ?_)
  cases d with
  | true => exact ha.run pins s1 σ H1 Q I1 q1
  | false => exact hb.run pins s1 σ H1 Q I1 q1
theorem x_ifT {tA ta tb : TT} {σ : L2.St} {H : Hp} {Q : Bool → Hp → Prop} (h : tA σ H fun c H1 => if c = true then ta σ H1 Q else tb σ H1 Q) : tIfTT tA ta tb σ H Q := h

theorem y_inT {K : PySem.W.Frag} {H : Hp} {Q : VK} {x : V} {xs : List V} {p : Addr} {b : Bool} (h : H p = some (.tup xs)) (hf : flatV x = true) (ha : xs.all flatV = true) (e : inV x xs = b) (q : Q (.bl b) H) : rIn K false x (.ref p) H Q :=
  ⟨p, xs, rfl, .inr (sqT h), hf, ha, by show Q (.bl (inV x xs)) H; rw [e]; exact q⟩
theorem kvL_int {l : List Str} {f : Str → V} {i : Int} : valV (kvL l f) (.inl i) = none := valV_none fun m => by
  obtain ⟨x, m, e⟩ := List.mem_map.mp m
  obtain ⟨n, _, rfl⟩ := List.mem_map.mp m
  cases e
theorem New.same {H H1 : Hp} {F F' : Addr → Prop} (n : New H1 F F') (s : Same H H1) : New H F F' := fun b h => (n b h).imp id fun z => by
  cases e : H b with
  | none => rfl
  | some o => rw [s _ _ e] at z; cases z
theorem TNew.same {H H1 : Hp} {F : Addr → Prop} {v : V} {t : Tell} (h : TNew H1 F v t) (s : Same H H1) : TNew H F v t := by
  cases t with
  | list ns => obtain ⟨p, e, o, n⟩ := h; exact ⟨p, e, fun u eu => o u (s _ _ eu), n⟩
  | v a => trivial
  | no => trivial
theorem doQ {K : PySem.W.Frag} {H H1 : Hp} {ad : Nat → Addr} {M : HM} {d : Deed} {Q : VK} (s : Same H H1)
    (q : ∀ (v : V) (ad' : Nat → Addr) (H' : Hp), LM K H' ad' (doM M d).2 → ad' 0 = ad 0 → New H (LF ad M) (LF ad' (doM M d).2) → Fr K (LF ad M) H H' → TD H' v (doM M d).1 → TNew H (LF ad' (doM M d).2) v (doM M d).1 → Q v H') :
    ∀ (v : V) (ad' : Nat → Addr) (H' : Hp), LM K H' ad' (doM M d).2 → ad' 0 = ad 0 → New H1 (LF ad M) (LF ad' (doM M d).2) → Fr K (LF ad M) H1 H' → TD H' v (doM M d).1 → TNew H1 (LF ad' (doM M d).2) v (doM M d).1 → Q v H' :=
  fun v ad' H' a1 a2 a3 a4 a5 a6 => q v ad' H' a1 a2 (a3.same s) ((Fr.same s).tr a4) a5 (a6.same s)
section
variable {P : Program} {w : World} {K : PySem.W.Frag} {mg : Str → Option Value} {base : Heap}
end

section
variable {P : Program} {w : World} {K : PySem.W.Frag} {mg : Str → Option Value} {base : Heap}
def strsV (ns : List Str) : List V := ns.map V.str
theorem inV_strs {x : Str} {ns : List Str} : inV (.str x) (strsV ns) = decide (x ∈ ns) := by
  unfold inV strsV
  rw [List.any_map]
  by_cases c : x ∈ ns
  · rw [decide_eq_true c, List.any_eq_true]
    exact ⟨x, c, by show eqV (.str x) (.str x) = true; simp [eqV]⟩
  · rw [decide_eq_false c, List.any_eq_false]
    intro y m e
    have e : y = x := by
      have e : eqV (.str y) (.str x) = true := e
      simpa [eqV] using e
    exact c (e ▸ m)
theorem flat_strs {ns : List Str} : (strsV ns).all flatV = true := by
  unfold strsV
  rw [List.all_eq_true]
  intro x m
  obtain ⟨i, _, rfl⟩ := List.mem_map.mp m
  rfl
abbrev spHeld (K : PySem.W.Frag) : Sp := Sp2 fun x y H Q => ∃ (ad : Nat → Addr) (M : HM) (l : Addr) (ks : List Str), x = .ref (ad 0) ∧ y = .ref l ∧ LM K H ad M ∧ M.Ok ∧ H l = some (.lst (strsV ks)) ∧
  ∀ (r : Addr) (ns : List Str) (H' : Hp), Same H H' → H' r = some (.lst (strsV ns)) → ns ≠ [] → ns.length ≤ 8 → (∀ n ∈ ns, n ∈ NMS) → Q (.ref r) H'
theorem y_neStrs {H : Hp} {Q : VK} {p l : Addr} {ns : List Str} (h : H p = some (.lst (strsV ns))) (h8 : ∀ n ∈ ns, n ∈ NMS) (h2 : H l = some (.lst [])) (q : Q (.bl (!decide (ns = []))) H) : rNeD K (.ref p) (.ref l) H Q := by
  have hd : ∀ ns : List Str, DpAll K H (strsV ns) (ns.map PyData.str) := fun ns => by
    induction ns with
    | nil => exact .nil
    | cons n ns ih => exact .cons (.str n) ih
  have one : ∀ n ∈ NMS, PyData.canLay0 (.str n) = true := by decide +kernel
  have lay : ∀ ns : List Str, (∀ n ∈ ns, n ∈ NMS) → PyData.canLayAll0 (ns.map PyData.str) = true := fun ns => by
    induction ns with
    | nil => exact fun _ => rfl
    | cons n ns ih =>
      intro h
      show (PyData.canLay0 (.str n) && PyData.canLayAll0 (ns.map PyData.str)) = true
      rw [ih fun n m => h n (List.mem_cons_of_mem _ m), one n (h n (List.mem_cons_self ..))]
      rfl
  have dep : ∀ ns : List Str, PyData.depthAll (ns.map PyData.str) = 0 := fun ns => by
    induction ns with
    | nil => rfl
    | cons n ns ih =>
      show max (PyData.depth (.str n)) (PyData.depthAll (ns.map PyData.str)) = 0
      rw [ih]; rfl
  have sh : SeqAt.shaped (.list (ns.map PyData.str)) = true := by
    unfold SeqAt.shaped
    rw [show PyData.canLay0 (.list (ns.map PyData.str)) = true from lay ns h8, show PyData.depth (.list (ns.map PyData.str)) = 1 by show PyData.depthAll (ns.map PyData.str) + 1 = 1; rw [dep]]
    rfl
  refine ⟨_, _, .lst (sqL h) (hd ns), .lst (sqL h2) .nil, sh, by decide, ?_⟩
  have e : PyData.eqv (.list (ns.map PyData.str)) (.list []) = decide (ns = []) := by cases ns <;> rfl
  rw [e]
  exact q
theorem FH_fresh {H : Hp} {ah ac p : Addr} (hs : HS H ah ac) (hp : H p = none) : ¬ FH ah ac p := by
  obtain ⟨⟨_, _, _, h1, _, _, _, h5, _⟩, _⟩ := hs
  rintro (e | e) <;> subst e
  · rw [h1] at hp; cases hp
  · rw [h5] at hp; cases hp
abbrev spPart (K : PySem.W.Frag) : Sp := Sp2 fun x y H Q => ∃ (ah ac a d : Addr) (t : Th) (m : Nat), x = .ref ah ∧ y = .ref a ∧ HS H ah ac ∧ H a = some (.dK (ltd t d)) ∧ LHd H d t ∧ ¬ FH ah ac a ∧ ¬ FH ah ac d ∧ t.Ok m ∧
  ∀ (p : Key) (H' : Hp), GoodP p → HS H' ah ac → Fr K (FH ah ac) H H' → Q (kV p) H'
end

section
variable {σ : L2.St} {H : Hp} {Q : VK} {te : TE} {tl th : L2.TO} {r : V → Option Int → Option Int → Hp → VK → Prop} {QO : Option Int → Hp → Prop} {i : Int}
theorem x_sl (h : te σ H fun x H1 => tl σ H1 fun l H2 => th σ H2 fun u H3 => r x l u H3 Q) : L2.tSl r te tl th σ H Q := h
theorem x_np (h : QO none H) : L2.tNoPart σ H QO := h
theorem x_pt (h : te σ H fun x H1 => ∃ i, x = .int i ∧ QO (some i) H1) : L2.tPart te σ H QO := h
end
section
variable {P : Program} {w : World} {K : PySem.W.Frag} {mg : Str → Option Value} {base : Heap}
abbrev spDeed (K : PySem.W.Frag) : Sp := Sp2 fun x y H Q => ∃ (ah ac : Addr) (ad : Nat → Addr) (M : HM), x = .ref ah ∧ y = .ref (ad 0) ∧ HS H ah ac ∧ LM K H ad M ∧ M.Ok ∧ (∀ b, LF ad M b → ¬ FH ah ac b) ∧
  ∀ (r : Addr) (d : Deed) (H' : Hp), Good d → H' r = some (.tup (deedV d)) → HS H' ah ac → Fr K (FH ah ac) H H' → Q (.ref r) H'
theorem strs_notFH {H : Hp} {ah ac r : Addr} {ns : List Str} (hs : HS H ah ac) (h : H r = some (.lst (strsV ns))) (hne : ns ≠ []) : ¬ FH ah ac r := by
  obtain ⟨⟨x, z, cs, h1, _, _, _, h5, _⟩, _⟩ := hs
  obtain ⟨n, ms, rfl⟩ : ∃ n ms, ns = n :: ms := by
    cases ns with
    | nil => exact absurd rfl hne
    | cons n ms => exact ⟨n, ms, rfl⟩
  rintro (e | e) <;> subst e
  · rw [h1] at h
    have h := HO.lst.inj (Option.some.inj h)
    cases h
  · rw [h5] at h
    have h := HO.lst.inj (Option.some.inj h)
    cases cs with
    | nil => cases h
    | cons c cs => cases h
theorem y_ixStr {H : Hp} {Q : VK} {r : Addr} {i : Int} {ns : List Str} (h : H r = some (.lst (strsV ns))) (h0 : 0 ≤ i) (h1 : i < (ns.length : Int)) (q : ∀ n ∈ ns, Q (.str n) H) : rIxL K (.ref r) (.int i) H Q := by
  obtain ⟨v, hv, n, hn, rfl⟩ := at_all (P := fun v => ∃ n ∈ ns, v = V.str n) (xs := strsV ns) (i := i) h0 (by unfold strsV; rw [List.length_map]; exact h1) (fun v m => by
    obtain ⟨n, hn, e⟩ := List.mem_map.mp m
    exact ⟨n, hn, e.symm⟩)
  exact y_ixL h hv (q n hn)
def GL (H : Hp) (ps : List Addr) : Prop := ∀ p ∈ ps, ∃ d, Good d ∧ H p = some (.tup (deedV d))
theorem GL.tup {H H' : Hp} {ps : List Addr} (g : GL H ps) (t : Tups H H') : GL H' ps := fun p m => let ⟨d, a, b⟩ := g p m; ⟨d, a, t _ _ b⟩
theorem GL.snoc {H : Hp} {ps : List Addr} {d : Deed} {t : Addr} (g : GL H ps) (a : Good d) (b : H t = some (.tup (deedV d))) : GL H (ps ++ [t]) := fun p m => by
  rcases List.mem_append.mp m with m | m
  · exact g p m
  · rw [List.mem_singleton] at m
    exact ⟨d, a, by rw [m]; exact b⟩
/-- a text of names -/
def NmT (z : Str) : Prop := z.length ≤ 8 ∧ 1 ≤ z.length ∧ ∀ c ∈ z.cps.toList, (⟨#[c]⟩ : Str) ∈ NMS
theorem y_ixChr {H : Hp} {Q : VK} {z : Str} {i : Int} (hz : NmT z) (h0 : 0 ≤ i) (h1 : i < (z.length : Int)) (q : ∀ n ∈ NMS, Q (.str n) H) : rIxS (.str z) (.int i) H Q := by
  have e : z.cps.toList.length = z.length := by simp [Str.length]
  obtain ⟨c, hc, g⟩ := at_all (P := fun c => (⟨#[c]⟩ : Str) ∈ NMS) (xs := z.cps.toList) (i := i) h0 (by rw [e]; exact h1) hz.2.2
  exact ⟨z, i, c, rfl, rfl, by rw [sizeLine_eq]; have := hz.1; omega, hc, q _ g⟩
theorem nmT_all : NmT "pqrstuvw" := ⟨by decide +kernel, by decide +kernel, by decide +kernel⟩
instance (z : Str) : Decidable (NmT z) := by unfold NmT; infer_instance
theorem nmT_cut : ∀ k ∈ ([3, 5, 8] : List Int), NmT (Txt.slice "pqrstuvw" none (some k)) := by decide +kernel
end

theorem shpB_ok {K : PySem.W.Frag} {d z : Str} {xs : List Str} (h : shpB K d z xs = true) : PySem.W.nsIn K (He.ga K d) z = some (some (.ref (shpA K d z))) ∧ ∀ H, SqT K H (shpA K d z) (xs.map V.str) := by
  unfold shpB at h
  obtain ⟨h1, h2⟩ := (Bool.and_eq_true _ _).mp h
  constructor
  · cases e : PySem.W.nsIn K (He.ga K d) z with
    | none => rw [e] at h1; cases h1
    | some o =>
      cases o with
      | none => rw [e] at h1; cases h1
      | some v =>
        cases v with
        | ref a =>
          rw [e] at h1
          have h1 : decide (a = shpA K d z) = true := h1
          rw [← of_decide_eq_true h1]
        | _ => rw [e] at h1; cases h1
  · intro H
    cases q : K.lookup (shpA K d z) with
    | none => rw [q] at h2; cases h2
    | some o =>
      obtain ⟨oc, od, dt, osl⟩ := o
      rw [q] at h2
      cases oc with
      | type c =>
        cases dt with
        | seq its n =>
          have h2 : (decide (c = "tuple") && (decide (its.size ≤ sizeLine) && He.relAll (xs.map V.str) its.toList)) = true := h2
          obtain ⟨h3, h4⟩ := (Bool.and_eq_true _ _).mp h2
          obtain ⟨h5, h6⟩ := (Bool.and_eq_true _ _).mp h4
          exact .inr ⟨_, its, n, q, congrArg Value.type (of_decide_eq_true h3), rfl, of_decide_eq_true h5, He.relAll_ok h6⟩
        | _ => cases h2
      | _ => cases dt <;> cases h2
section
variable {P : Program} {w : World} {K : PySem.W.Frag} {mg : Str → Option Value} {base : Heap}
theorem Tx.tab (T : Tx w K mg base) : ∃ es n, KDict K w (He.ga K "SHAPES") es n := by
  obtain ⟨_, c, _⟩ := T.says
  exact c.t.tab 0
theorem op_notIn_kd1 {X : Cx} (T : Tx X.w X.K X.mg X.base) : OpR X (compareOp .NotIn) (fun x y H Q => ∃ (z : Str) (r : Option Value), x = .str z ∧ y = .ref (He.ga X.K "SHAPES") ∧ PySem.W.nsIn X.K (He.ga X.K "SHAPES") z = some r ∧ Q (.bl (!r.isSome)) H) := by
  obtain ⟨es, n, D⟩ := T.tab
  exact op_notIn_kd D
def wordOf : Deed → Str
  | .make _ _ => "make" | .num _ _ => "num" | .copy _ _ => "copy" | .drop _ => "drop" | .put _ _ _ => "put" | .take _ _ _ => "take" | .cut _ _ => "cut" | .watch _ _ => "watch" | .last _ _ => "last" | .ask _ _ => "ask" | .settle => "settle" | .say _ => "say"
def shapesOf : Deed → List Str
  | .make _ _ => ["name", "kind"] | .num _ _ => ["name", "number"] | .copy _ _ => ["name", "name"] | .drop _ => ["name"] | .put _ _ _ => ["name", "part", "name"] | .take _ _ _ => ["name", "name", "part"] | .cut _ _ => ["name", "part"] | .watch _ _ => ["name", "name"]
  | .last _ _ => ["name", "goal"] | .ask _ _ => ["name", "name"] | .settle => [] | .say _ => ["name"]
theorem Tx.shp (T : Tx w K mg base) (d : Deed) : shpB K "SHAPES" (wordOf d) (shapesOf d) = true := by
  cases d with
  | make _ _ => exact T.more 2
  | num _ _ => exact T.more 3
  | copy _ _ => exact T.more 4
  | drop _ => exact T.more 5
  | put _ _ _ => exact T.more 6
  | take _ _ _ => exact T.more 7
  | cut _ _ => exact T.more 8
  | watch _ _ => exact T.more 9
  | last _ _ => exact T.more 10
  | ask _ _ => exact T.more 11
  | settle => exact T.more 12
  | say _ => exact T.more 13
theorem deed_parts {d : Deed} (g : Good d) : ∃ r, deedV d = .str (wordOf d) :: r ∧ Paired ShapeOk r (shapesOf d) := by
  have nm : ∀ {n : Str}, n ∈ NMS → ShapeOk (.str n) "name" := fun h => .inl ⟨rfl, _, h, rfl⟩
  have pt : ∀ {p : Key}, GoodP p → ShapeOk (kV p) "part" := fun h => .inr (.inr (.inr (.inr ⟨rfl, _, rfl, h⟩)))
  cases d with
  | make n k => exact ⟨_, rfl, .cons (nm g.1) (.cons (.inr (.inl ⟨rfl, _, g.2, rfl⟩)) .nil)⟩
  | num n i => exact ⟨_, rfl, .cons (nm g.1) (.cons (.inr (.inr (.inl ⟨rfl, _, rfl, g.2.1, g.2.2⟩))) .nil)⟩
  | copy n m => exact ⟨_, rfl, .cons (nm g.1) (.cons (nm g.2) .nil)⟩
  | drop n => exact ⟨_, rfl, .cons (nm g) .nil⟩
  | put n p m => exact ⟨_, rfl, .cons (nm g.1) (.cons (pt g.2.1) (.cons (nm g.2.2) .nil))⟩
  | take n m p => exact ⟨_, rfl, .cons (nm g.1) (.cons (nm g.2.1) (.cons (pt g.2.2) .nil))⟩
  | cut n p => exact ⟨_, rfl, .cons (nm g.1) (.cons (pt g.2) .nil)⟩
  | watch n m => exact ⟨_, rfl, .cons (nm g.1) (.cons (nm g.2) .nil)⟩
  | last n gl => exact ⟨_, rfl, .cons (nm g.1) (.cons (.inr (.inr (.inr (.inl ⟨rfl, _, rfl, g.2⟩)))) .nil)⟩
  | ask n m => exact ⟨_, rfl, .cons (nm g.1) (.cons (nm g.2) .nil)⟩
  | settle => exact ⟨_, rfl, .nil⟩
  | say n => exact ⟨_, rfl, .cons (nm g) .nil⟩
abbrev spDeedQ (K : PySem.W.Frag) : Sp := Sp1 fun x H Q => ∃ (p : Addr) (d : Deed), x = .ref p ∧ H p = some (.tup (deedV d)) ∧ Good d ∧ ∀ H', Same H H' → Q (.bl true) H'
theorem cal_is_deed (T : Tx w K mg base) : Cal P w K mg base 4 "is_deed" (spDeedQ K) [] := by
  obtain ⟨fd, F⟩ := T.fn_is_deed
  refine cal_of F T.g_is_deed sc_is_deed (F.bindsN fun _ _ _ _ _ _ us hl => match us, hl with | [_], _ => rfl) (fun vs H Q E h => h.len) (fun cdv A outer s H vs Q E hr h => ?_)
  obtain ⟨x, rfl, p, d, rfl, hp, g, q⟩ := h
  have hu := hu_of hr
  have nd := sc_is_deed.nd
  refine ⟨_, (pss_cons (ps_if (PW.pt (pw_or (pt_cmpR op_eq (pe_callB call_len_seq (by rfl) T.n_len PySem.boot_len (pa_cons (pv 0) pa_nil)) pe_int (nomark _)) (pw_or (pt_not (pt_val (pe_callB call_isi (by rfl) T.n_isinstance (by decide +kernel) (pa_cons (pe_ix ix_tup (pv 0) pe_int (fun _ _ => rfl)) (pa_cons (pe_bltn (by rfl) T.n_str (by decide +kernel) (v := .ty "str") rfl) pa_nil))))) (pw_or1 (pt_cmpR (op_notIn_kd1 T) (pe_ix ix_tup (pv 0) pe_int (fun _ _ => rfl)) (pe_gc rfl T.k_SHAPES) (by rfl)))))) (pss_one (ps_ret pe_bl)) pss_nil) (pss_cons (ps_set (i := 1) nd rfl (Or.inr rfl) (pe_ix ix_kdict (pe_gc rfl T.k_SHAPES) (pe_ix ix_tup (pv 0) pe_int (fun _ _ => rfl)) (fun _ _ => rfl))) (pss_cons (ps_if (pt_cmpR op_ne (pe_callB call_len_seq (by rfl) T.n_len PySem.boot_len (pa_cons (pv 0) pa_nil)) (pe_op op_add (pe_callB call_len_seq (by rfl) T.n_len PySem.boot_len (pa_cons (pv 1) pa_nil)) pe_int) (nomark _)) (pss_one (ps_ret pe_bl)) pss_nil) (pss_one (ps_ret (pe_cmpR (op_eqD hr.units) (pe_lc (own := [("k", 2)]) (by rfl) nd (pi_range1 (by rfl) T.n_range (pa_cons (pe_callB call_len_seq (by rfl) T.n_len PySem.boot_len (pa_cons (pv 1) pa_nil)) pa_nil)) (blkOk_by (own := [("k", 2)]) (N := N_is_deed) (sc := (C8.fnScope s_is_deed)) (by decide +kernel)) (fun _ _ _ _ _ => (pg_name (i := 2) nd rfl (Or.inl rfl))) (fun _ _ _ _ _ => (pts_one (pt_not (pt_val (pe_c (cal_is_of T) hr (by decide) (by rfl) (pa_cons (pe_ix (ix_tupK (K := K) rfl) (pv 0) (pe_op op_add (pv 2) pe_int) (fun _ _ => rfl)) (pa_cons (pe_ix (ix_tupK (K := K) rfl) (pv 1) (pv 2) (fun _ _ => rfl)) pa_nil))))))) (fun _ _ _ _ _ => (pv 2))) (pe_lst pa_nil) (nomark _))))))), ?_⟩
  obtain ⟨r, er, pr⟩ := deed_parts g
  obtain ⟨hN, hS⟩ := shpB_ok (T.shp d)
  have l4 : (shapesOf d).length ≤ 3 := by cases d <;> exact Nat.le_of_ble_eq_true rfl
  rw [er] at hp
  generalize wordOf d = wd at hp hN er hS
  generalize shapesOf d = sh at pr hS l4
  generalize shpA K "SHAPES" wd = sa at hN hS
  have lr : r.length = sh.length := Paired.length pr
  walk_at "st"
  refine y_lenT (sqT hp) ?_
  walk_at "rd"
  refine y_F (fun z => by have z := V.int.inj z; rw [List.length_cons] at z; omega) ?_
  walk_at "rd"
  refine y_ixT hp (atI_nat (j := 0) rfl) ?_
  walk_at "rd"
  refine y_isi2 (.base (.str wd)) (b := true) rfl ?_
  walk_at "rd"
  refine y_ff ?_
  walk_at "rd"
  refine y_ixT hp (atI_nat (j := 0) rfl) ?_
  walk_at "rd"
  refine ⟨wd, _, rfl, rfl, hN, ?_⟩
  walk_at "rd"
  refine y_ff ?_
  walk_at "rd"
  refine y_ixT hp (atI_nat (j := 0) rfl) ?_
  obtain ⟨es, n, D⟩ := T.tab
  refine ⟨_, wd, .ref sa, rfl, rfl, ⟨es, n, _, D.at_, D.lit, hN, rfl⟩, ?_⟩
  walk_at "rd"
  refine y_lenT (sqT hp) ?_
  walk_at "rd"
  refine y_lenT (hS H) ?_
  walk_at "rd"
  refine y_nF (by rw [List.length_cons, List.length_map, lr]; exact congrArg V.int (by omega)) ?_
  walk_at "rd"
  refine y_lenT (hS H) ?_
  walk_at "rd"
  rw [List.length_map]
  refine y_iR (by omega) (by omega) ?_
  rw [Int.toNat_natCast]
  refine y_lcR (fun D i acc H' => Same H H' ∧ acc = []) (fun D hD => ⟨Same.new hD, rfl⟩) ?_ ?_
  · rintro D i acc H3 hD hi hDl hle ⟨s3, rfl⟩
    have hz : sh[i]? = some sh[i] := List.getElem?_eq_getElem hi
    obtain ⟨xv, hx, hsh⟩ := paired_getR pr hz
    refine y_turn ?_
    walk_at "rd"
    refine ⟨rfl, ?_⟩
    walk_at "rd"
    refine y_ixT (s3 _ _ hp) (v := xv) (by
      rw [show ((i : Int) + 1) = ((i + 1 : Nat) : Int) by omega]
      exact atI_nat (by simpa using hx)) ?_
    walk_at "rd"
    refine ⟨sa, _, (i : Int), .str sh[i], rfl, rfl, hS H3, atI_nat (by rw [List.getElem?_map, hz]; rfl), ?_⟩
    walk_at "rd"
    refine ⟨hsh, ?_⟩
    walk_at "rd"
    refine y_ff ?_
    exact ⟨[], hDl, Nat.zero_le _, s3, rfl⟩
  · rintro D acc H3 hD hDl ⟨s3, rfl⟩
    walk_at "rd"
    intro e he
    refine y_eqNN (sqL (Same.new he _ _ hDl)) (sqL upd_same) ?_
    exact q _ (s3.trans (Same.new he))
abbrev spNeedDeed (K : PySem.W.Frag) : Sp := Sp1 fun x H Q => ∃ (p : Addr) (d : Deed), x = .ref p ∧ H p = some (.tup (deedV d)) ∧ Good d ∧ ∀ H', Same H H' → Q .non H'
theorem cal_need_deed (T : Tx w K mg base) : Cal P w K mg base 8 "need_deed" (spNeedDeed K) [] := by
  obtain ⟨fd, F⟩ := T.fn_need_deed
  refine cal_of F T.g_need_deed sc_need_deed (F.bindsN fun _ _ _ _ _ _ us hl => match us, hl with | [_], _ => rfl) (fun vs H Q E h => h.len) (fun cdv A outer s H vs Q E hr h => ?_)
  obtain ⟨x, rfl, p, d, rfl, hp, g, q⟩ := h
  have hu := hu_of hr
  have nd := sc_need_deed.nd
  refine ⟨_, (pss_one (ps_if (pt_not (pt_val (pe_c (cal_is_deed T) hr (by decide) (by rfl) (pa_cons (pv 0) pa_nil)))) (pss_one ps_never) pss_nil)), ?_⟩
  walk_at "st"
  refine ⟨p, d, rfl, hp, g, fun H1 s1 => ?_⟩
  walk_at "rd"
  refine y_ff ?_
  walk_at "rd"
  exact q H1 s1
theorem x_iE {K : PySem.W.Frag} {ta : TA} {σ : L2.St} {H : Hp} {R : It → Hp → Prop} (h : ta σ H fun vs H1 => ∃ a xs, vs = [.ref a] ∧ SqL K H1 a xs ∧ R (Ite K a) H1) : iEnum K ta σ H R := h
theorem y_forE {K : PySem.W.Frag} {g : TG} {t : TS} {n : L2.St → Hp → Prop} {r : VK} {σ : L2.St} {H : Hp} {a : Addr} {xs : List V} (Pv : Nat → L2.St → Hp → Prop) (h0 : Pv 0 σ H) (hl : ∀ i σ H, i ≤ xs.length → Pv i σ H → SqL K H a xs)
    (hs : ∀ i x σ H T, xs[i]? = some x → Pv i σ H → H T = none → g (.ref T) σ (upd H T (.tup [.int (i : Int), x])) fun σ2 H2 => t ⟨Pv (i + 1), r, n, Pv (i + 1)⟩ σ2 H2) (hd : ∀ σ H, Pv xs.length σ H → n σ H) : rFor g t n r (Ite K a) σ H := by
  refine ⟨fun i m σ H => m = xs.length - i ∧ i ≤ xs.length ∧ Pv i σ H, ⟨xs.length, by simp, Nat.zero_le _, h0⟩, ?_⟩
  rintro i m σ H ⟨rfl, hi, p⟩
  by_cases hlt : i < xs.length
  · refine .inr ⟨⟨xs, xs[i], hl i σ H hi p, List.getElem?_eq_getElem hlt⟩, Pv (i + 1), fun σ' H' p' => ⟨xs.length - (i + 1), by omega, rfl, hlt, p'⟩, fun x H' ye => ?_⟩
    obtain ⟨T, x, ex, hT, eH, hx⟩ := ye
    subst ex eH
    exact hs i x σ H T (hx xs (hl i σ H hi p)) p hT
  · have e : i = xs.length := by omega
    subst e
    exact .inl ⟨⟨xs, hl _ σ H (Nat.le_refl _) p, Nat.le_refl _⟩, hd σ H p⟩
/-- a program: a list of deeds' tuples -/
def PL (H : Hp) (l : Addr) (ps : List Addr) (ds : List Deed) : Prop := H l = some (.lst (ps.map V.ref)) ∧ Paired (fun (p : Addr) (d : Deed) => H p = some (.tup (deedV d)) ∧ Good d) ps ds
abbrev spNeedProg (K : PySem.W.Frag) : Sp := Sp1 fun x H Q => ∃ (l : Addr) (ps : List Addr) (ds : List Deed), x = .ref l ∧ PL H l ps ds ∧ ds.length ≤ 120 ∧ ∀ H', Same H H' → Q .non H'
theorem cal_need_program (T : Tx w K mg base) : Cal P w K mg base 8 "need_program" (spNeedProg K) [] := by
  obtain ⟨fd, F⟩ := T.fn_need_program
  refine cal_of F T.g_need_program sc_need_program (F.bindsN fun _ _ _ _ _ _ us hl => match us, hl with | [_], _ => rfl) (fun vs H Q E h => h.len) (fun cdv A outer s H vs Q E hr h => ?_)
  obtain ⟨x, rfl, l, ps, ds, rfl, ⟨hl, hps⟩, l120, q⟩ := h
  have hu := hu_of hr
  have nd := sc_need_program.nd
  refine ⟨_, (pss_one (ps_for PassesOwn.never rfl (pi_enum (by rfl) T.n_enumerate (pa_cons (pv 0) pa_nil)) (pg_tup (n := 2) rfl (pgs_cons (pg_name (i := 1) nd rfl (Or.inl rfl)) (pgs_cons (pg_name (i := 2) nd rfl (Or.inl rfl)) pgs_nil))) (pss_one (ps_if (PW.pt (pw_or (pt_cmpR op_ge (pv 1) (pe_gc rfl T.k_MOST_DEEDS) (nomark _)) (pw_or1 (pt_not (pt_val (pe_c (cal_is_deed T) hr (by decide) (by rfl) (pa_cons (pv 2) pa_nil))))))) (pss_one ps_never) pss_nil)))), ?_⟩
  walk_at "st"
  refine x_iE (x_cons (x_var rfl (x_nil ⟨l, _, rfl, sqL hl, ?_⟩)))
  have el : ps.length = ds.length := Paired.length hps
  refine y_forE (xs := ps.map V.ref) (fun i σ H' => ∃ u v, σ = [some (.ref l), u, v] ∧ Same H H') ⟨_, _, rfl, fun _ _ z => z⟩ (fun i σ H' _ ⟨_, _, _, s⟩ => sqL (s _ _ hl)) ?_ ?_
  · rintro i x σ H1 T1 hx ⟨u, v, rfl, s1⟩ hT
    rw [List.getElem?_map] at hx
    obtain ⟨p, hp, rfl⟩ := Option.map_eq_some_iff.mp hx
    obtain ⟨d, hd, hpd, gd⟩ := paired_get hps hp
    have il : i < 120 := by have := (List.getElem?_eq_some_iff.mp hp).1; omega
    have s2 := Same.new (o := .tup [.int (i : Int), .ref p]) hT
    refine ⟨T1, _, rfl, sqT upd_same, rfl, _, _, rfl, x_name ⟨_, _, rfl, x_name ⟨rfl, ?_⟩⟩⟩
    walk_at "rd"
    refine y_F (by omega) ?_
    walk_at "rd"
    refine ⟨p, d, rfl, s2 _ _ (s1 _ _ hpd), gd, fun H3 s3 => ?_⟩
    walk_at "rd"
    refine y_ff ?_
    walk_at "rd"
    exact ⟨_, _, rfl, (s1.trans s2).trans s3⟩
  · rintro σ H1 ⟨u, v, rfl, s1⟩
    exact q H1 s1
end

section
variable {P : Program} {w : World} {K : PySem.W.Frag} {mg : Str → Option Value} {base : Heap}
abbrev spPHold (K : PySem.W.Frag) : Sp := Sp3 fun x y z H Q => ∃ (ad : Nat → Addr) (M : HM) (ks : List Nat) (vm vw : V) (n : Str) (a : AV), x = .ref (ad 0) ∧ y = .str n ∧ n ∈ NMS ∧ PV K H z a ∧ PM K H ad M ks vm vw ∧
  ∀ (v : V) (H' : Hp), PRes K H ad M H' ad (M.hold n a) ks vm vw → LV H' v a → Q v H'
theorem met_Doer_hold (T : Tx w K mg base) : Met P w K mg base 2 (He.ga K "Doer") "hold" (spPHold K) [] := by
  obtain ⟨fd, F⟩ := T.fn_Doer_hold
  refine met_of T.cl_Doer T.me_Doer_hold F sc_Doer_hold (F.bindsN fun _ _ _ _ _ _ us hl => match us, hl with | [_, _, _], _ => rfl) (fun vs H Q E h => h.len) (fun cdv A outer s H vs Q E hr h => ?_)
  obtain ⟨x, y, z, rfl, ad, M, ks, vm, vw, n, a, rfl, rfl, hn, hv, L, q⟩ := h
  have hu := hu_of hr
  have nd := sc_Doer_hold.nd
  refine ⟨_, (pss_cons (ps_dput hu (pe_fld (pe_fld (pv 0) rfl) rfl) (pv 1) (pv 2) rfl) (pss_one (ps_ret (pe_c (cal_value_told T) hr (by decide) (by rfl) (pa_cons (pv 2) pa_nil))))), ?_⟩
  obtain ⟨dx0, h0⟩ := L.doer
  obtain ⟨dx1, h1⟩ := L.heap
  obtain ⟨f, h2, hf⟩ := L.nms
  walk_at "sx"
  refine y_dput (j := .inr n) h2 rfl (small9000 (by unfold kvL; rw [List.length_map]; decide)) (putK_kvL hn) ?_
  have L1 := L.hold (n := n) (a := a) h2 hf hv
  have R1 := PRes.upd L (by omega) L1 rfl
  have hv1 := hv.mono R1.fr.refs
  walk_at "rx"
  refine ⟨a, hv1, fun v H' lv s1 => ?_⟩
  exact q v H' (R1.then s1) lv
/-- what do_make, do_name .. tell, and leave -/
noncomputable def ksOf (M : HM) (d : Deed) (ks : List Nat) : List Nat := if (doM M d).2.made = M.made then ks else ks ++ [M.made]
noncomputable def madeV (M : HM) (d : Deed) : V := if (doM M d).2.made = M.made then .non else .int (M.made : Int)
/-- the part that a deed wrote: of which thing, what it held, what it holds -/
def wrOf (M : HM) : Deed → Option (Nat × AV × AV)
  | .put n p m => match M.thOf n with
    | some (k, t) => if t.may p = true then some (k, (hget t.held p).getD .non, M.names m) else none
    | none => none
  | .cut n p => match M.thOf n with
    | some (k, t) => (hget t.held p).map fun a => (k, a, .non)
    | none => none
  | _ => none
def WV (K : PySem.W.Frag) (H : Hp) (vw : V) : Option (Nat × AV × AV) → Prop
  | none => vw = .non
  | some (k, a, b) => ∃ p x y, vw = .ref p ∧ H p = some (.tup [.int (k : Int), x, y]) ∧ PV K H x a ∧ PV K H y b
def TFresh (H : Hp) (F : Addr → Prop) (v : V) : Tell → Prop
  | .list _ => ∃ p, v = .ref p ∧ H p = none ∧ ¬ F p
  | _ => True
abbrev spPDoG (K : PySem.W.Frag) (S : Deed → Prop) : Sp := Sp2 fun x y H Q => ∃ (ad : Nat → Addr) (M : HM) (ks : List Nat) (dp : Addr) (d : Deed), x = .ref (ad 0) ∧ y = .ref dp ∧ H dp = some (.tup (deedV d)) ∧ S d ∧ Good d ∧ PM K H ad M ks .non .non ∧ M.Ok ∧ KeptIn M ks ∧ M.made < 9000 ∧
  ∀ (v : V) (ad' : Nat → Addr) (vw' : V) (H' : Hp), PRes K H ad M H' ad' (doM M d).2 (ksOf M d ks) (madeV M d) vw' → TD H' v (doM M d).1 → TFresh H (PF ad' (doM M d).2) v (doM M d).1 → WV K H' vw' (wrOf M d) → Q v H'
def isMake : Deed → Prop
  | .make _ _ => True
  | .watch _ _ => True
  | _ => False
def isName : Deed → Prop
  | .num _ _ => True
  | .copy _ _ => True
  | .drop _ => True
  | .say _ => True
  | _ => False
def isLast : Deed → Prop
  | .last _ _ => True
  | _ => False
def isAsk : Deed → Prop
  | .ask _ _ => True
  | _ => False
theorem ksOf_eq {M : HM} {d : Deed} {ks : List Nat} (e : (doM M d).2.made = M.made) : ksOf M d ks = ks := if_pos e
theorem madeV_eq {M : HM} {d : Deed} (e : (doM M d).2.made = M.made) : madeV M d = .non := if_pos e
theorem ksOf_ne {M : HM} {d : Deed} {ks : List Nat} (e : (doM M d).2.made = M.made + 1) : ksOf M d ks = ks ++ [M.made] := if_neg (by omega)
theorem madeV_ne {M : HM} {d : Deed} (e : (doM M d).2.made = M.made + 1) : madeV M d = .int (M.made : Int) := if_neg (by omega)
/-- a Ref is made -/
theorem y_ref {H : Hp} {Q : Addr → Hp → Prop} {E : XK} {k : Nat} (q : ∀ (p : Addr) (H' : Hp), Same H H' → H p = none → PV K H' (.ref p) (.th k) → Q p H') : ∀ x dx, H x = none → H dx = none → dx ≠ x →
    spRefInit K (.ref x :: ([V.int (k : Int)] ++ [])) (L2.upd (L2.upd H dx (.own x)) x (.ins (He.ga K "Ref") dx [])) (fun v H2 => v = .non ∧ Q x H2) E := fun x dx hx hdx n =>
  x_sm1 ⟨x, dx, k, rfl, rfl, upd_same, rfl, q x _ (same_fresh (same_fresh (Same.new hdx) hx) hx) hx ⟨x, dx, rfl, upd_same⟩⟩
theorem PRes.doer (T : Tx w K mg base) {H H1 : Hp} {ad ad1 : Nat → Addr} {M M1 : HM} {ks1 : List Nat} {vm1 vw1 vm vw : V} {dx : Addr} (R : PRes K H ad M H1 ad1 M1 ks1 vm1 vw1) : PRes K H ad M (L2.upd H1 (ad 0) (.ins (He.ga K "Doer") dx (fs_Doer (.ref (ad 1)) vm vw))) ad1 M1 ks1 vm vw := by
  have r := R.trans (PRes.upd (i := 0) R.pm (by omega) (R.pm.doerSet T (dx := dx) (vm' := vm) (vw' := vw)) rfl)
  rw [R.a0, R.a1] at r
  exact r
theorem mk1_setW {M : HM} {kd : Str} {s : Nat} : (M.mk1 kd none).setTh M.made (newTh kd (some s)) = M.mk1 kd (some s) := by
  unfold HM.mk1 HM.setTh
  congr 1
  funext j
  by_cases e : j = M.made
  · simp only [if_pos e]
  · simp only [if_neg e]
theorem met_Doer_do_make (T : Tx w K mg base) : Met P w K mg base 4 (He.ga K "Doer") "do_make" (spPDoG K isMake) [] := by
  obtain ⟨fd, F⟩ := T.fn_Doer_do_make
  refine met_of T.cl_Doer T.me_Doer_do_make F sc_Doer_do_make (F.bindsN fun _ _ _ _ _ _ us hl => match us, hl with | [_, _], _ => rfl) (fun vs H Q E h => h.len) (fun cdv A outer s H vs Q E hr h => ?_)
  obtain ⟨x, y, rfl, ad, M, ks, dp, d, rfl, rfl, hp, iS, gd, L, ok, hkp, sm, q⟩ := h
  have hu := hu_of hr
  have nd := sc_Doer_do_make.nd
  refine ⟨_, (pss_cons (ps_if (pt_cmpR op_eq (pe_ix ix_tup (pv 1) pe_int (fun _ _ => rfl)) pe_str (nomark _)) (pss_cons (ps_fld (pv 0) (pe_mt (met_Heap_make T) hr (by decide) (pe_fld (pv 0) rfl) (pa_cons (pe_ix ix_tup (pv 1) pe_int (fun _ _ => rfl)) pa_nil)) rfl) (pss_one (ps_ret (pe_mt (met_Doer_hold T) hr (by decide) (pv 0) (pa_cons (pe_ix ix_tup (pv 1) pe_int (fun _ _ => rfl)) (pa_cons (pe_mk (mak_Ref T) hr (by decide) (by rfl) (pa_cons (pe_fld (pv 0) rfl) pa_nil)) pa_nil)))))) pss_nil) (pss_cons (ps_set (i := 2) nd rfl (Or.inl rfl) (pe_dget hu (pe_fld (pe_fld (pv 0) rfl) rfl) (pe_ix ix_tup (pv 1) pe_int (fun _ _ => rfl)) (fun _ _ => rfl))) (pss_cons (ps_if (pt_not (pt_val (pe_callB call_isi (by rfl) T.n_isinstance (by decide +kernel) (pa_cons (pv 2) (pa_cons (pe_gc rfl T.k_Ref) pa_nil))))) (pss_one (ps_ret (pe_gc rfl T.k_NO))) pss_nil) (pss_cons (ps_fld (pv 0) (pe_mt (met_Heap_make T) hr (by decide) (pe_fld (pv 0) rfl) (pa_cons (pe_gc rfl T.k_WATCH) pa_nil)) rfl) (pss_cons (ps_fld (pe_dget hu (pe_fld (pe_fld (pv 0) rfl) rfl) (pe_fld (pv 0) rfl) (fun _ _ => rfl)) (pe_fld (pv 2) rfl) rfl) (pss_one (ps_ret (pe_mt (met_Doer_hold T) hr (by decide) (pv 0) (pa_cons (pe_ix ix_tup (pv 1) pe_int (fun _ _ => rfl)) (pa_cons (pe_mk (mak_Ref T) hr (by decide) (by rfl) (pa_cons (pe_fld (pv 0) rfl) pa_nil)) pa_nil)))))))))), ?_⟩
  obtain ⟨dx0, h0⟩ := L.doer
  obtain ⟨dx1, h1⟩ := L.heap
  obtain ⟨f, h2, hf⟩ := L.nms
  cases d with
  | make n kd =>
    have hp : H dp = some (.tup [.str "make", .str n, .str kd]) := hp
    walk_at "sx"
    refine y_T rfl ?_
    walk_at "rx"
    refine ⟨ad, M, ks, .non, .non, kd, rfl, rfl, L, sm, fun a d H1 R1 => ?_⟩
    generalize adP ad M.made a d = ad1 at R1
    obtain ⟨dx2, g0⟩ := R1.pm.doer
    rw [R1.a0, R1.a1] at g0
    have gp := R1.fr.i _ _ hp
    walk_at "rx"
    have R2 := PRes.doer T (dx := dx2) (vm := .int (M.made : Int)) (vw := .non) R1
    have n0p : dp ≠ ad 0 := ne_of gp g0 (by intro z; cases z)
    generalize hH2 : upd H1 (ad 0) _ = H2 at R2
    refine y_ref fun p H3 s3 hp0 pv => ?_
    walk_at "rx"
    refine ⟨ad1, M.mk1 kd none, ks ++ [M.made], _, _, n, .th M.made, by rw [R2.a0], rfl, gd.1, pv, R2.pm.same s3, fun v H4 R4 lv => ?_⟩
    refine q v ad1 .non H4 ?_ lv trivial rfl
    rw [ksOf_ne rfl, madeV_ne rfl]
    exact (R2.then s3).trans R4
  | watch n m =>
    have hp : H dp = some (.tup [.str "watch", .str n, .str m]) := hp
    walk_at "sx"
    refine y_F (fun z => by cases z) ?_
    walk_at "rx"
    refine y_dgetS h2 (valV_kvL gd.2) ?_
    walk_at "rx"
    have hv := hf m gd.2
    refine y_isR T hv ?_
    generalize hfn : f m = vm at hv ⊢
    have no : (∀ k, M.names m ≠ .th k) → Q (.str "no") H := fun h => by
      have ed : doM M (.watch n m) = (.no, M) := by
        show (match M.names m with | .th k => ((.v (.th M.made), (M.mk1 WATCH (some k)).hold n (.th M.made)) : Tell × HM) | _ => (.no, M)) = _
        cases e : M.names m with
        | th k => exact absurd e (h k)
        | non => rfl
        | num i => rfl
      refine q (.str "no") ad .non H ?_ (by rw [ed]; rfl) (by rw [ed]; trivial) rfl
      rw [ksOf_eq (by rw [ed]), madeV_eq (by rw [ed]), ed]
      exact PRes.refl L
    cases e : M.names m with
    | non =>
      dsimp only [isTh]
      walk_at "rx"
      exact no fun k z => by rw [e] at z; cases z
    | num i =>
      dsimp only [isTh]
      walk_at "rx"
      exact no fun k z => by rw [e] at z; cases z
    | th k =>
      rw [e] at hv
      obtain ⟨pr, dxr, rfl, hr0⟩ := hv
      dsimp only [isTh]
      walk_at "rx"
      refine ⟨ad, M, ks, .non, .non, WATCH, rfl, rfl, L, sm, fun a d H1 R1 => ?_⟩
      generalize adP ad M.made a d = ad1 at R1
      obtain ⟨dx2, g0⟩ := R1.pm.doer
      rw [R1.a0, R1.a1] at g0
      have gp := R1.fr.i _ _ hp
      walk_at "rx"
      have R2 := PRes.doer T (dx := dx2) (vm := .int (M.made : Int)) (vw := .non) R1
      have hr2 := R2.fr.r _ _ _ hr0
      have gp2 := R2.fr.i _ _ hp
      obtain ⟨dx4, g02⟩ := R2.pm.doer
      obtain ⟨dx3, g1⟩ := R2.pm.heap
      have g3 := R2.pm.ths
      rw [R2.a0, R2.a1] at g02
      rw [R2.a1] at g1
      generalize hH2 : upd H1 (ad 0) _ = H2 at R2 hr2 gp2 g1 g3 g02
      have km : M.made ∈ ks ++ [M.made] := List.mem_append.mpr (.inr (List.mem_singleton.mpr rfl))
      have et : (M.mk1 WATCH none).things M.made = some (newTh WATCH none) := by show (if M.made = M.made then _ else _) = _; rw [if_pos rfl]
      obtain ⟨dxt, kvs, t1, t2, t3⟩ := R2.pm.get et km
      unfold pth at t1
      walk_at "rx"
      refine y_dgetI g3 (valV_things R2.pm.srt km) ?_
      walk_at "rx"
      show rMeth _ _ _ _ _ _ _ _ (upd H2 (ad1 (4 + 2 * M.made)) (.ins (He.ga K "Thing") dxt (pth (newTh WATCH (some k)) (ad1 (5 + 2 * M.made))))) _
      have R3 := R2.trans (PRes.upd (i := 4 + 2 * M.made) R2.pm (by show _ < 4 + 2 * (M.made + 1); omega) (R2.pm.setTh T (dx := dxt) km et (t' := newTh WATCH (some k)) rfl) rfl)
      rw [mk1_setW] at R3
      obtain ⟨dx5, g05⟩ := R3.pm.doer
      rw [R3.a0, R3.a1] at g05
      have gp5 := R3.fr.i _ _ hp
      generalize hH5 : upd H2 (ad1 (4 + 2 * M.made)) _ = H5 at R3 g05 gp5
      walk_at "rx"
      refine y_ref fun p H3 s3 hp0 pv => ?_
      walk_at "rx"
      refine ⟨ad1, M.mk1 WATCH (some k), ks ++ [M.made], _, _, n, .th M.made, by rw [R3.a0], rfl, gd.1, pv, R3.pm.same s3, fun v H4 R4 lv => ?_⟩
      have ed := doM_watch (n := n) e
      refine q v ad1 .non H4 ?_ (by rw [ed]; exact lv) (by rw [ed]; trivial) rfl
      rw [ksOf_ne (by rw [ed]; rfl), madeV_ne (by rw [ed]; rfl), ed]
      exact (R3.then s3).trans R4
  | _ => cases iS
theorem met_Doer_do_name (T : Tx w K mg base) : Met P w K mg base 3 (He.ga K "Doer") "do_name" (spPDoG K isName) [] := by
  obtain ⟨fd, F⟩ := T.fn_Doer_do_name
  refine met_of T.cl_Doer T.me_Doer_do_name F sc_Doer_do_name (F.bindsN fun _ _ _ _ _ _ us hl => match us, hl with | [_, _], _ => rfl) (fun vs H Q E h => h.len) (fun cdv A outer s H vs Q E hr h => ?_)
  obtain ⟨x, y, rfl, ad, M, ks, dp, d, rfl, rfl, hp, iS, gd, L, ok, hkp, sm, q⟩ := h
  have hu := hu_of hr
  have nd := sc_Doer_do_name.nd
  refine ⟨_, (pss_cons (ps_if (pt_cmpR op_eq (pe_ix ix_tup (pv 1) pe_int (fun _ _ => rfl)) pe_str (nomark _)) (pss_one (ps_ret (pe_c (cal_value_told T) hr (by decide) (by rfl) (pa_cons (pe_dget hu (pe_fld (pe_fld (pv 0) rfl) rfl) (pe_ix ix_tup (pv 1) pe_int (fun _ _ => rfl)) (fun _ _ => rfl)) pa_nil)))) pss_nil) (pss_cons (ps_set (i := 2) nd rfl (Or.inl rfl) pe_non) (pss_cons (ps_if (pt_cmpR op_eq (pe_ix ix_tup (pv 1) pe_int (fun _ _ => rfl)) pe_str (nomark _)) (pss_one (ps_set (i := 2) nd rfl (Or.inl rfl) (pe_ix ix_tup (pv 1) pe_int (fun _ _ => rfl)))) pss_nil) (pss_cons (ps_if (pt_cmpR op_eq (pe_ix ix_tup (pv 1) pe_int (fun _ _ => rfl)) pe_str (nomark _)) (pss_one (ps_set (i := 2) nd rfl (Or.inl rfl) (pe_dget hu (pe_fld (pe_fld (pv 0) rfl) rfl) (pe_ix ix_tup (pv 1) pe_int (fun _ _ => rfl)) (fun _ _ => rfl)))) pss_nil) (pss_cons (ps_expr (pe_mt (met_Doer_hold T) hr (by decide) (pv 0) (pa_cons (pe_ix ix_tup (pv 1) pe_int (fun _ _ => rfl)) (pa_cons (pv 2) pa_nil)))) (pss_one (ps_ret pe_non))))))), ?_⟩
  obtain ⟨dx0, h0⟩ := L.doer
  obtain ⟨dx1, h1⟩ := L.heap
  obtain ⟨f, h2, hf⟩ := L.nms
  cases d with
  | say n =>
    have hp : H dp = some (.tup [.str "say", .str n]) := hp
    walk_at "sx"
    refine y_T rfl ?_
    walk_at "rx"
    refine y_dgetS h2 (valV_kvL gd) ?_
    walk_at "rx"
    refine ⟨M.names n, hf n gd, fun v H1 lv s1 => ?_⟩
    refine q v ad .non H1 ?_ lv trivial rfl
    rw [ksOf_eq rfl, madeV_eq rfl]
    exact PRes.same L s1
  | num n i =>
    have hp : H dp = some (.tup [.str "num", .str n, .int i]) := hp
    walk_at "sx"
    refine y_F (fun z => by cases z) ?_
    walk_at "rx"
    refine y_T rfl ?_
    walk_at "rx"
    refine y_F (fun z => by cases z) ?_
    walk_at "rx"
    refine ⟨ad, M, ks, .non, .non, n, .num i, rfl, rfl, gd.1, rfl, L, fun v H1 R1 lv => ?_⟩
    walk_at "rx"
    refine q .non ad .non H1 ?_ rfl trivial rfl
    rw [ksOf_eq rfl, madeV_eq rfl]
    exact R1
  | copy n m =>
    have hp : H dp = some (.tup [.str "copy", .str n, .str m]) := hp
    walk_at "sx"
    refine y_F (fun z => by cases z) ?_
    walk_at "rx"
    refine y_F (fun z => by cases z) ?_
    walk_at "rx"
    refine y_T rfl ?_
    walk_at "rx"
    refine y_dgetS h2 (valV_kvL gd.2) ?_
    walk_at "rx"
    refine ⟨ad, M, ks, .non, .non, n, M.names m, rfl, rfl, gd.1, hf m gd.2, L, fun v H1 R1 lv => ?_⟩
    walk_at "rx"
    refine q .non ad .non H1 ?_ rfl trivial rfl
    rw [ksOf_eq rfl, madeV_eq rfl]
    exact R1
  | drop n =>
    have hp : H dp = some (.tup [.str "drop", .str n]) := hp
    walk_at "sx"
    refine y_F (fun z => by cases z) ?_
    walk_at "rx"
    refine y_F (fun z => by cases z) ?_
    walk_at "rx"
    refine y_F (fun z => by cases z) ?_
    walk_at "rx"
    refine ⟨ad, M, ks, .non, .non, n, .non, rfl, rfl, gd, rfl, L, fun v H1 R1 lv => ?_⟩
    walk_at "rx"
    refine q .non ad .non H1 ?_ rfl trivial rfl
    rw [ksOf_eq rfl, madeV_eq rfl]
    exact R1
  | _ => cases iS
end

section
variable {P : Program} {w : World} {K : PySem.W.Frag} {mg : Str → Option Value} {base : Heap}
theorem kept_root {M : HM} {n : Str} {k : Nat} (hn : n ∈ NMS) (e : M.names n = .th k) : M.kept k := .base (.inl ⟨n, hn, e⟩)
theorem thOf_names {M : HM} {n : Str} {k : Nat} {t : Th} (e : M.thOf n = some (k, t)) : M.names n = .th k ∧ M.things k = some t := by
  unfold HM.thOf at e
  split at e
  · rename_i j ej
    obtain ⟨u, e1, e2⟩ := Option.map_eq_some_iff.mp e
    cases e2
    exact ⟨ej, e1⟩
  · cases e
theorem met_Doer_do_last (T : Tx w K mg base) : Met P w K mg base 2 (He.ga K "Doer") "do_last" (spPDoG K isLast) [] := by
  obtain ⟨fd, F⟩ := T.fn_Doer_do_last
  refine met_of T.cl_Doer T.me_Doer_do_last F sc_Doer_do_last (F.bindsN fun _ _ _ _ _ _ us hl => match us, hl with | [_, _], _ => rfl) (fun vs H Q E h => h.len) (fun cdv A outer s H vs Q E hr h => ?_)
  obtain ⟨x, y, rfl, ad, M, ks, dp, d, rfl, rfl, hp, iS, gd, L, ok, hkp, sm, q⟩ := h
  have hu := hu_of hr
  have nd := sc_Doer_do_last.nd
  refine ⟨_, (pss_cons (ps_set (i := 2) nd rfl (Or.inl rfl) (pe_mt (met_Heap_thing_of T) hr (by decide) (pe_fld (pv 0) rfl) (pa_cons (pe_ix ix_tup (pv 1) pe_int (fun _ _ => rfl)) pa_nil))) (pss_cons (ps_if (PW.pt (pw_or (pt_cmpR op_isN (pv 2) pe_non (nomark _)) (pw_or (pt_cmpR op_eq (pe_fld (pv 2) rfl) (pe_gc rfl T.k_WATCH) (nomark _)) (pw_or1 (pt_val (pe_fld (pv 2) rfl)))))) (pss_one (ps_ret (pe_gc rfl T.k_NO))) pss_nil) (pss_cons (ps_fld (pv 2) pe_bl rfl) (pss_cons (ps_fld (pv 2) pe_bl rfl) (pss_cons (ps_fld (pv 2) (pe_ix ix_tup (pv 1) pe_int (fun _ _ => rfl)) rfl) (pss_one (ps_ret pe_non))))))), ?_⟩
  obtain ⟨dx0, h0⟩ := L.doer
  obtain ⟨dx1, h1⟩ := L.heap
  cases d with
  | last n g =>
    have hp : H dp = some (.tup [.str "last", .str n, goalV g]) := hp
    walk_at "sx"
    refine ⟨ad, M, ks, .non, .non, n, rfl, rfl, gd.1, L, ok, hkp, ?_⟩
    have no : doM M (.last n g) = (.no, M) → Q (.str "no") H := fun ed => by
      refine q (.str "no") ad .non H ?_ (by rw [ed]; rfl) (by rw [ed]; trivial) rfl
      rw [ksOf_eq (by rw [ed]), madeV_eq (by rw [ed]), ed]
      exact PRes.refl L
    cases e : M.thOf n with
    | none =>
      dsimp only [pthV]
      walk_at "rx"
      refine y_T rfl ?_
      walk_at "rx"
      exact no (doM_last0 e)
    | some kt =>
      obtain ⟨k, t⟩ := kt
      obtain ⟨en, et⟩ := thOf_names e
      have km := hkp k (kept_root gd.1 en)
      obtain ⟨dxt, kvs, t1, t2, t3⟩ := L.get et km
      have lk := L.lt k km
      unfold pth at t1
      dsimp only [pthV]
      walk_at "rx"
      refine y_F (fun z => by cases z) ?_
      walk_at "rx"
      refine y_dec (fun c => ?_) (fun c => ?_)
      · walk_at "rx"
        exact no (by rw [doM_last e, if_pos (.inl (eq_kind c))])
      · walk_at "rx"
        refine y_b (fun c2 => ?_) (fun c2 => ?_)
        · walk_at "rx"
          exact no (by rw [doM_last e, if_pos (.inr c2)])
        · have ed : doM M (.last n g) = (.v .non, M.setTh k { t with given := true, due := true, goal := g }) := by
            rw [doM_last e, if_neg (fun z => z.elim (ne_kind c) fun z => by rw [c2] at z; cases z)]
          walk_at "rx"
          rw [upd_upd, upd_upd]
          have R := PRes.upd (i := 4 + 2 * k) L (by omega) (L.setTh T (dx := dxt) km et (t' := { t with given := true, due := true, goal := g }) rfl) rfl
          refine q .non ad .non _ ?_ (by rw [ed]; rfl) (by rw [ed]; trivial) rfl
          rw [ksOf_eq (by rw [ed]; rfl), madeV_eq (by rw [ed]; rfl), ed]
          exact R
  | _ => cases iS
theorem PM.congr {H : Hp} {ad : Nat → Addr} {M M' : HM} {ks : List Nat} {vm vw : V} (L : PM K H ad M ks vm vw) (en : M'.names = M.names) (em : M'.made = M.made) (et : ∀ k ∈ ks, M'.things k = M.things k) : PM K H ad M' ks vm vw := by
  obtain ⟨h1, h2, h3, h4, h5, h6, h7, h8, h9⟩ := L
  refine ⟨by rw [em]; exact h1, h2, by rw [em]; exact h3, by rw [en]; exact h4, h5, fun k m => by rw [et k m]; exact h6 k m, by rw [em]; exact h7, h8, fun k m => by rw [em]; exact h9 k m⟩
theorem PRes.congr {H H1 : Hp} {ad ad1 : Nat → Addr} {M M1 M2 : HM} {ks : List Nat} {vm vw : V} (R : PRes K H ad M H1 ad1 M1 ks vm vw) (en : M2.names = M1.names) (em : M2.made = M1.made) (et : ∀ k ∈ ks, M2.things k = M1.things k) : PRes K H ad M H1 ad1 M2 ks vm vw :=
  ⟨R.pm.congr en em et, R.a0, R.a1, fun b h => R.new b (by have h : Foot ad1 (4 + 2 * M2.made) b := h; rw [em] at h; exact h), R.fr, R.kp⟩
theorem upd_swap {H : Hp} {a b : Addr} {o u : HO} (n : a ≠ b) : L2.upd (L2.upd H a o) b u = L2.upd (L2.upd H b u) a o := by
  funext x
  unfold L2.upd
  by_cases e1 : x = b
  · rw [if_pos e1]
    by_cases e2 : x = a
    · exact absurd (e2.symm.trans e1) n
    · rw [if_neg e2]
      exact (if_pos e1).symm
  · rw [if_neg e1]
    by_cases e2 : x = a
    · rw [if_pos e2, if_pos e2]
    · rw [if_neg e2, if_neg e2]
      exact (if_neg e1).symm
theorem tellTo_mid {M : HM} {ks : List Nat} {a b : Nat} (h : ∀ k ∈ ks, k < a ↔ k < b) : ∀ k ∈ ks, (M.tellTo b).things k = (M.tellTo a).things k := fun k m => by
  show (if k < b then M.tellM.things k else M.things k) = if k < a then M.tellM.things k else M.things k
  by_cases c : k < a
  · rw [if_pos c, if_pos ((h k m).mp c)]
  · rw [if_neg c, if_neg fun z => c ((h k m).mpr z)]
abbrev spPTell (K : PySem.W.Frag) : Sp := Sp1 fun x H Q => ∃ (ad : Nat → Addr) (M : HM) (ks : List Nat) (vm vw : V), x = .ref (ad 0) ∧ PM K H ad M ks vm vw ∧ M.Ok ∧ KeptIn M ks ∧
  ∀ (r : Addr) (found : List Nat) (H' : Hp), PRes K H ad M H' ad M.tellM ks vm vw → H r = none → H' r = some (.dK (fdK found)) → (∀ k, k ∈ found ↔ M.reach k) → found.Nodup → Q (.ref r) H'
theorem met_Doer_tell_watches (T : Tx w K mg base) : Met P w K mg base 6 (He.ga K "Doer") "tell_watches" (spPTell K) [] := by
  obtain ⟨fd, F⟩ := T.fn_Doer_tell_watches
  refine met_of T.cl_Doer T.me_Doer_tell_watches F sc_Doer_tell_watches (F.bindsN fun _ _ _ _ _ _ us hl => match us, hl with | [_], _ => rfl) (fun vs H Q E h => h.len) (fun cdv A outer s H vs Q E hr h => ?_)
  obtain ⟨x, rfl, ad, M, ks, vm, vw, rfl, L, ok, hkp, q⟩ := h
  have hu := hu_of hr
  have nd := sc_Doer_tell_watches.nd
  refine ⟨_, (pss_cons (ps_set (i := 1) nd rfl (Or.inl rfl) (pe_mt0 (met_Heap_reach T) hr (by decide) (pe_fld (pv 0) rfl))) (pss_cons (ps_lock (ps_for PassesOwn.never rfl (pi_keys (pe_fld (pe_fld (pv 0) rfl) rfl)) (pg_name (i := 2) nd rfl (Or.inl rfl)) (pss_cons (ps_set (i := 3) nd rfl (Or.inl rfl) (pe_dget hu (pe_fld (pe_fld (pv 0) rfl) rfl) (pv 2) (fun _ _ => rfl))) (pss_one (ps_if (PW.pt (pw_and (pt_cmpR op_eq (pe_fld (pv 3) rfl) (pe_gc rfl T.k_WATCH) (nomark _)) (pw_and1 (pt_cmp (pc_dnotin hu (pe_fld (pv 3) rfl) (pv 1)))))) (pss_one (ps_fld (pv 3) pe_bl rfl)) pss_nil))))) (pss_one (ps_ret (pv 1))))), ?_⟩
  obtain ⟨dx0, h0⟩ := L.doer
  obtain ⟨dx1, h1⟩ := L.heap
  walk_at "sx"
  refine ⟨ad, M, ks, vm, vw, rfl, L, ok, hkp, fun r found H1 s1 hr0 hr1 hf hnd => ?_⟩
  have R1 := PRes.same L s1
  have g0 := s1 _ _ h0
  have g1 := s1 _ _ h1
  have g3 := R1.pm.ths
  walk_at "rx"
  refine ⟨ad 3, _, g3, trivial, fun od => ?_⟩
  have own := L.own
  have n3 : ∀ i, i < 4 + 2 * M.made → i ≠ 3 → ad i ≠ ad 3 := fun i hi h => own.ne hi (by omega) h
  have nr3 : r ≠ ad 3 := (own.fresh (by omega) hr0).symm
  have k0 : upd H1 (ad 3) (.frz od (.dK (ks.map fun (k : Nat) => ((.inl (k : Int) : Key), V.ref (ad (4 + 2 * k)))))) (ad 0) = some _ := (upd_ne (n3 0 (by omega) (by omega))).trans g0
  have k1 : upd H1 (ad 3) (.frz od (.dK (ks.map fun (k : Nat) => ((.inl (k : Int) : Key), V.ref (ad (4 + 2 * k)))))) (ad 1) = some _ := (upd_ne (n3 1 (by omega) (by omega))).trans g1
  walk_at "rx"
  refine x_iK ?_
  walk_at "rx"
  refine ⟨ad 3, od, rfl, .inl ⟨_, upd_same, ?_⟩⟩
  refine y_forK (fun i σ H' => ∃ u v b, σ = [some (.ref (ad 0)), some (.ref r), u, v] ∧ H' (ad 3) = some (.frz od (.dK (ks.map fun (k : Nat) => ((.inl (k : Int) : Key), V.ref (ad (4 + 2 * k)))))) ∧
      PRes K H ad M (upd H' (ad 3) (.dK (ks.map fun (k : Nat) => ((.inl (k : Int) : Key), V.ref (ad (4 + 2 * k)))))) ad (M.tellTo b) ks vm vw ∧ H' r = some (.dK (fdK found)) ∧ (∀ k ∈ ks.take i, k < b) ∧ (∀ k ∈ ks.drop i, b ≤ k))
    ⟨none, none, 0, rfl, upd_same, ?_, by rw [upd_ne nr3]; exact hr1, fun k m => (by cases m), fun k _ => Nat.zero_le k⟩ (fun i σ H' _ ⟨_, _, _, _, h, _⟩ => h) ?_ ?_
  · rw [upd_upd, tellTo_zero]
    have e : upd H1 (ad 3) (.dK (ks.map fun (k : Nat) => ((.inl (k : Int) : Key), V.ref (ad (4 + 2 * k))))) = H1 := by
      funext x
      unfold L2.upd
      split
      · rename_i h; rw [h, g3]
      · rfl
    rw [e]
    exact R1
  · rintro i kk v σ H' hi ⟨u, v', b, rfl, hd3, R, hr2, lo, hig⟩
    rw [List.getElem?_map] at hi
    obtain ⟨k, hk, ekv⟩ := Option.map_eq_some_iff.mp hi
    cases ekv
    have km := List.mem_of_getElem? hk
    have il := (List.getElem?_eq_some_iff.mp hk).1
    have lk := L.lt k km
    have bk : b ≤ k := hig k (by
      rw [List.drop_eq_getElem_cons il, (List.getElem?_eq_some_iff.mp hk).2]
      exact List.mem_cons_self ..)
    obtain ⟨t, et, ot⟩ := ok.get lk
    have ei : (M.tellTo k).things k = some t := tellTo_at.trans et
    have cut : ∀ j ∈ ks, j < b ↔ j < k := fun j mj => ⟨fun h => by omega, fun h => by
      obtain ⟨m, hm, ej⟩ := List.getElem_of_mem mj
      have hki := (List.getElem?_eq_some_iff.mp hk).2
      have mi : m < i := by
        refine Nat.lt_of_not_le fun z => ?_
        rcases Nat.lt_or_eq_of_le z with z | z
        · have := List.pairwise_iff_getElem.mp L.srt i m il hm z
          omega
        · subst z; omega
      exact lo j (List.mem_take_iff_getElem.mpr ⟨m, by omega, ej⟩)⟩
    have Rk := R.congr (M2 := M.tellTo k) rfl rfl (tellTo_mid cut)
    obtain ⟨dxt, kvs, t1, t2, t3⟩ := Rk.pm.get ei km
    unfold pth at t1
    have e4 : ∀ i, i < 4 + 2 * M.made → i ≠ 3 → ∀ o, upd H' (ad 3) (.dK (ks.map fun (k : Nat) => ((.inl (k : Int) : Key), V.ref (ad (4 + 2 * k))))) (ad i) = o → H' (ad i) = o := fun i hi h o e => by rw [upd_ne (n3 i hi h)] at e; exact e
    obtain ⟨dx0', c0⟩ := Rk.pm.doer
    obtain ⟨dx1', c1⟩ := Rk.pm.heap
    have c0 := e4 0 (by omega) (by omega) _ c0
    have c1 := e4 1 (by omega) (by omega) _ c1
    have ct := e4 (4 + 2 * k) (by omega) (by omega) _ t1
    walk_at "rx"
    refine y_dgetR (j := .inl (k : Int)) (.inr ⟨od, hd3⟩) rfl (valV_things L.srt km) ?_
    walk_at "rx"
    have lo' : ∀ j ∈ ks.take (i + 1), j < k + 1 := fun j mj => by
      rw [take_snoc hk] at mj
      rcases List.mem_append.mp mj with mj | mj
      · have := lo j mj; omega
      · rw [List.mem_singleton] at mj; omega
    have hig' : ∀ j ∈ ks.drop (i + 1), k + 1 ≤ j := fun j mj => by
      have p := L.srt.sublist (List.drop_sublist i ks)
      rw [List.drop_eq_getElem_cons il, (List.getElem?_eq_some_iff.mp hk).2] at p
      exact (List.pairwise_cons.mp p).1 j mj
    refine y_dec (fun c => ?_) (fun c => ?_)
    · have c := eq_kind c
      obtain ⟨s, es, sl⟩ := (ot.wat c).2.1
      walk_at "rx"
      rw [es]
      show rDNotIn (.int (s : Int)) (.ref r) _ _
      refine y_notInFd hr2 ?_
      walk_at "rx"
      refine y_ndec (fun hs => ?_) (fun hs => ?_)
      · walk_at "rx"
        have hn : ¬ ∃ s, t.sees = some s ∧ M.reach s := fun ⟨s', e1, e2⟩ => by
          rw [es] at e1
          cases e1
          exact hs ((hf _).mpr e2)
        refine ⟨_, _, k + 1, rfl, by rw [upd_ne (n3 _ (by omega) (by omega)).symm]; exact hd3, ?_, by rw [upd_ne (own.fresh (by omega) hr0).symm]; exact hr2, lo', hig'⟩
        rw [upd_swap (n3 _ (by omega) (by omega)), ← tellTo_set et c hn]
        exact Rk.trans (PRes.upd (i := 4 + 2 * k) Rk.pm (by show _ < 4 + 2 * M.made; omega) (Rk.pm.setTh T (dx := dxt) km ei (t' := { t with told := true }) rfl) rfl)
      · walk_at "rx"
        refine ⟨_, _, k + 1, rfl, hd3, ?_, hr2, lo', hig'⟩
        rw [← tellTo_skip et fun z => z.2 ⟨s, es, (hf _).mp hs⟩]
        exact Rk
    · have c := ne_kind c
      walk_at "rx"
      refine ⟨_, _, k + 1, rfl, hd3, ?_, hr2, lo', hig'⟩
      rw [← tellTo_skip et fun z => c z.1]
      exact Rk
  · rintro σ H' ⟨u, v', b, rfl, hd3, R, hr2, lo, hig⟩
    rw [List.length_map, List.take_length] at lo
    refine ⟨hd3, ?_⟩
    walk_at "rx"
    refine q r found _ (by
      rw [← tellTo_made ok]
      exact R.congr rfl rfl (tellTo_mid fun k m => ⟨fun _ => L.lt k m, fun _ => lo k m⟩)) hr0 (by rw [upd_ne nr3]; exact hr2) hf hnd
theorem tell_thing {M : HM} {k : Nat} {t t' : Th} (e : M.things k = some t) (e' : M.tellM.things k = some t') : t'.kind = t.kind ∧ t'.sees = t.sees ∧ t'.held = t.held ∧ t'.due = t.due := by
  classical
  have e2 : (M.things k).map _ = some t' := e'
  rw [e] at e2
  have e2 := Option.some.inj e2
  dsimp only at e2
  rw [← e2]
  split <;> exact ⟨rfl, rfl, rfl, rfl⟩
theorem met_Doer_do_ask (T : Tx w K mg base) : Met P w K mg base 7 (He.ga K "Doer") "do_ask" (spPDoG K isAsk) [] := by
  obtain ⟨fd, F⟩ := T.fn_Doer_do_ask
  refine met_of T.cl_Doer T.me_Doer_do_ask F sc_Doer_do_ask (F.bindsN fun _ _ _ _ _ _ us hl => match us, hl with | [_, _], _ => rfl) (fun vs H Q E h => h.len) (fun cdv A outer s H vs Q E hr h => ?_)
  obtain ⟨x, y, rfl, ad, M, ks, dp, d, rfl, rfl, hp, iS, gd, L, ok, hkp, sm, q⟩ := h
  have hu := hu_of hr
  have nd := sc_Doer_do_ask.nd
  refine ⟨_, (pss_cons (ps_set (i := 2) nd rfl (Or.inl rfl) (pe_mt (met_Heap_thing_of T) hr (by decide) (pe_fld (pv 0) rfl) (pa_cons (pe_ix ix_tup (pv 1) pe_int (fun _ _ => rfl)) pa_nil))) (pss_cons (ps_if (PW.pt (pw_or (pt_cmpR op_isN (pv 2) pe_non (nomark _)) (pw_or1 (pt_cmpR op_ne (pe_fld (pv 2) rfl) (pe_gc rfl T.k_WATCH) (nomark _))))) (pss_one (ps_ret (pe_gc rfl T.k_NO))) pss_nil) (pss_cons (ps_expr (pe_mt0 (met_Doer_tell_watches T) hr (by decide) (pv 0))) (pss_one (ps_ret (pe_mt (met_Doer_hold T) hr (by decide) (pv 0) (pa_cons (pe_ix ix_tup (pv 1) pe_int (fun _ _ => rfl)) (pa_cons (pe_ifExp (pt_val (pe_fld (pv 2) rfl)) pe_non (pe_mk (mak_Ref T) hr (by decide) (by rfl) (pa_cons (pe_fld (pv 2) rfl) pa_nil))) pa_nil)))))))), ?_⟩
  obtain ⟨dx0, h0⟩ := L.doer
  obtain ⟨dx1, h1⟩ := L.heap
  cases d with
  | ask n m =>
    have hp : H dp = some (.tup [.str "ask", .str n, .str m]) := hp
    walk_at "sx"
    refine ⟨ad, M, ks, .non, .non, m, rfl, rfl, gd.2, L, ok, hkp, ?_⟩
    have no : doM M (.ask n m) = (.no, M) → Q (.str "no") H := fun ed => by
      refine q (.str "no") ad .non H ?_ (by rw [ed]; rfl) (by rw [ed]; trivial) rfl
      rw [ksOf_eq (by rw [ed]), madeV_eq (by rw [ed]), ed]
      exact PRes.refl L
    cases e : M.thOf m with
    | none =>
      dsimp only [pthV]
      walk_at "rx"
      refine y_T rfl ?_
      walk_at "rx"
      exact no (doM_ask0 e)
    | some kt =>
      obtain ⟨k, t⟩ := kt
      obtain ⟨en, et⟩ := thOf_names e
      have km := hkp k (kept_root gd.2 en)
      obtain ⟨dxt, kvs, t1, t2, t3⟩ := L.get et km
      have lk := L.lt k km
      have ot := ok.th k t et
      unfold pth at t1
      dsimp only [pthV]
      walk_at "rx"
      refine y_F (fun z => by cases z) ?_
      walk_at "rx"
      refine y_ndec (fun c => ?_) (fun c => ?_)
      · walk_at "rx"
        exact no (doM_ask1 e (ne_kind c))
      · have c := eq_kind c
        walk_at "rx"
        refine ⟨ad, M, ks, .non, .non, rfl, L, ok, hkp, fun r found H1 R1 hr0 hr1 hf hnd => ?_⟩
        obtain ⟨s, es, sl⟩ := (ot.wat c).2.1
        have gp1 := R1.fr.i _ _ hp
        obtain ⟨t', et', ot'⟩ := ok.tellM.get (M := M.tellM) (k := k) lk
        obtain ⟨u1, u2, u3, u4⟩ := tell_thing et et'
        obtain ⟨dxt', kvs', t1', t2', t3'⟩ := R1.pm.get et' km
        unfold pth at t1'
        have es' : t'.sees = some s := u2.trans es
        rw [es'] at t1'
        dsimp only [seesV] at t1'
        obtain ⟨dx0', g0⟩ := R1.pm.doer
        have ed := doM_ask2 (n := n) e c et' es'
        walk_at "rx"
        refine y_b (fun h => ?_) (fun h => ?_)
        · rw [if_pos h] at ed
          walk_at "rx"
          refine ⟨ad, M.tellM, ks, .non, .non, n, .non, rfl, rfl, gd.1, rfl, R1.pm, fun v H2 R2 lv => ?_⟩
          refine q v ad .non H2 ?_ (by rw [ed]; exact lv) (by rw [ed]; trivial) rfl
          rw [ksOf_eq (by rw [ed]; rfl), madeV_eq (by rw [ed]; rfl), ed]
          exact R1.trans R2
        · rw [if_neg (by rw [h]; exact Bool.false_ne_true)] at ed
          walk_at "rx"
          refine y_ref fun p H3 s3 hp0 pv => ?_
          walk_at "rx"
          refine ⟨ad, M.tellM, ks, .non, .non, n, .th s, rfl, rfl, gd.1, pv, R1.pm.same s3, fun v H2 R2 lv => ?_⟩
          refine q v ad .non H2 ?_ (by rw [ed]; exact lv) (by rw [ed]; trivial) rfl
          rw [ksOf_eq (by rw [ed]; rfl), madeV_eq (by rw [ed]; rfl), ed]
          exact (R1.then s3).trans R2
  | _ => cases iS
end

section
variable {P : Program} {w : World} {K : PySem.W.Frag} {mg : Str → Option Value} {base : Heap}
theorem wr_none {M : HM} {n m : Str} {p : Key} (e : M.thOf n = none) : wrOf M (.put n p m) = none ∧ wrOf M (.cut n p) = none := by
  constructor
  · show (match M.thOf n with | some (k, t) => if t.may p = true then some (k, (hget t.held p).getD .non, M.names m) else none | none => none) = none
    rw [e]
  · show (match M.thOf n with | some (k, t) => (hget t.held p).map fun a => (k, a, AV.non) | none => none) = none
    rw [e]
theorem wr_put {M : HM} {n m : Str} {p : Key} {k : Nat} {t : Th} (e : M.thOf n = some (k, t)) : wrOf M (.put n p m) = if t.may p = true then some (k, (hget t.held p).getD .non, M.names m) else none := by
  show (match M.thOf n with | some (k, t) => if t.may p = true then some (k, (hget t.held p).getD .non, M.names m) else none | none => none) = _
  rw [e]
theorem wr_cut {M : HM} {n : Str} {p : Key} {k : Nat} {t : Th} (e : M.thOf n = some (k, t)) : wrOf M (.cut n p) = (hget t.held p).map fun a => (k, a, AV.non) := by
  show (match M.thOf n with | some (k, t) => (hget t.held p).map fun a => (k, a, AV.non) | none => none) = _
  rw [e]
theorem y_tup2 {i j : Nat} {p : Addr} {x y : V} {σ : L2.St} {H : Hp} {QS : L2.St → Hp → Prop} (h : H p = some (.tup [x, y])) (q : QS ((σ.set i (some x)).set j (some y)) H) : gTup K 2 (gCons (gName i) (gCons (gName j) gNil)) (.ref p) σ H QS :=
  ⟨p, _, rfl, sqT h, rfl, _, _, rfl, x_name ⟨_, _, rfl, x_name ⟨rfl, q⟩⟩⟩
theorem Fr.of2 {F : Addr → Prop} {H H' : Hp} {x y : Addr} (hk : ∀ b u, H b = some u → b ≠ x → b ≠ y → H' b = some u) (hx : F x) (hy : F y) (cx : Chg K (H x)) (cy : Chg K (H y)) : Fr K F H H' := by
  have nn : ∀ b o, H b = some o → ¬ Chg K (some o) → b ≠ x ∧ b ≠ y := fun b o e n => ⟨fun z => n (by rw [← e, z]; exact cx), fun z => n (by rw [← e, z]; exact cy)⟩
  have st : ∀ b o, H b = some o → ¬ Chg K (some o) → H' b = some o := fun b o e n => hk b o e (nn b o e n).1 (nn b o e n).2
  refine ⟨fun b o e n _ => hk b o e (fun z => n (z ▸ hx)) (fun z => n (z ▸ hy)), fun b xs e => st _ _ e (fun z => z), fun b dx fs e => st _ _ e (fun z => z rfl), fun t p hp => ?_⟩
  obtain ⟨ps, h1, h2, h3⟩ := t p hp
  refine ⟨ps, st _ _ h1 (fun z => z), h2, fun pos cv hc => ?_⟩
  obtain ⟨c, e1, e2⟩ := h3 pos cv hc
  exact ⟨c, e1, st _ _ e2 (fun z => z)⟩
theorem PRes.repl (T : Tx w K mg base) {H H' : Hp} {ad : Nat → Addr} {M : HM} {ks : List Nat} {vm vw : V} {k : Nat} {t' : Th} {dx d : Addr} {kvs : List (Key × V)} (L : PM K H ad M ks vm vw) (m : k ∈ ks) (h1 : H' (ad (4 + 2 * k)) = some (.ins (He.ga K "Thing") dx (pth t' d))) (h2 : H' d = some (.dK kvs)) (hh : HR (PV K H) kvs t'.held)
    (hd : d = ad (5 + 2 * k) ∨ H d = none) (hk : ∀ b u, H b = some u → b ≠ ad (4 + 2 * k) → b ≠ ad (5 + 2 * k) → H' b = some u) (kp : ∀ x, H' x = none → H x = none) : PRes K H ad M H' (adS ad k d) (M.setTh k t') ks vm vw := by
  have lk := L.lt k m
  refine ⟨L.repl T m h1 h2 hh hd hk, adS_ne (by omega), adS_ne (by omega), fun b h => ?_, Fr.of2 hk ⟨_, by omega, rfl⟩ ⟨_, by omega, rfl⟩ (L.own.chg (by omega)) (L.own.chg (by omega)), kp⟩
  obtain ⟨i, hi, rfl⟩ := h
  have hi : i < 4 + 2 * M.made := hi
  by_cases c : i = 5 + 2 * k
  · subst c
    rw [adS_at]
    rcases hd with e | e
    · exact .inl ⟨_, hi, e.symm⟩
    · exact .inr e
  · rw [adS_ne c]; exact .inl ⟨i, hi, rfl⟩
theorem valV_putS {kvs : List (Key × V)} {p : Key} {v : V} : valV (putK kvs p v) p = some v := by
  cases e : valV kvs p with
  | none =>
    rw [putK_new _ e]
    induction kvs with
    | nil => exact valV_pos rfl
    | cons q kvs ih =>
      by_cases c : q.1 = p
      · rw [valV_pos (show (q : Key × V).1 = p from c)] at e; cases e
      · rw [valV_neg c] at e
        exact (valV_neg c).trans (ih e)
  | some x =>
    rw [putK_old e]
    induction kvs with
    | nil => cases e
    | cons q kvs ih =>
      rw [List.map_cons]
      by_cases c : q.1 = p
      · rw [if_pos c]; exact valV_pos c
      · rw [if_neg c]
        rw [valV_neg c] at e
        exact (valV_neg c).trans (ih e)
theorem met_Doer_do_part (T : Tx w K mg base) : Met P w K mg base 3 (He.ga K "Doer") "do_part" (spPDoG K isPart) [] := by
  obtain ⟨fd, F⟩ := T.fn_Doer_do_part
  refine met_of T.cl_Doer T.me_Doer_do_part F sc_Doer_do_part (F.bindsN fun _ _ _ _ _ _ us hl => match us, hl with | [_, _], _ => rfl) (fun vs H Q E h => h.len) (fun cdv A outer s H vs Q E hr h => ?_)
  obtain ⟨x, y, rfl, ad, M, ks, dp, d, rfl, rfl, hp, iS, gd, L, ok, hkp, sm, q⟩ := h
  have hu := hu_of hr
  have nd := sc_Doer_do_part.nd
  refine ⟨_, (pss_cons (ps_asg (pe_ifExp (pt_cmpR op_eq (pe_ix ix_tup (pv 1) pe_int (fun _ _ => rfl)) pe_str (nomark _)) (pe_tup (pa_cons (pe_ix ix_tup (pv 1) pe_int (fun _ _ => rfl)) (pa_cons (pe_ix ix_tup (pv 1) pe_int (fun _ _ => rfl)) pa_nil))) (pe_tup (pa_cons (pe_ix ix_tup (pv 1) pe_int (fun _ _ => rfl)) (pa_cons (pe_ix ix_tup (pv 1) pe_int (fun _ _ => rfl)) pa_nil)))) (pg_tup (n := 2) rfl (pgs_cons (pg_name (i := 2) nd rfl (Or.inl rfl)) (pgs_cons (pg_name (i := 3) nd rfl (Or.inl rfl)) pgs_nil)))) (pss_cons (ps_set (i := 4) nd rfl (Or.inl rfl) (pe_mt (met_Heap_thing_of T) hr (by decide) (pe_fld (pv 0) rfl) (pa_cons (pv 2) pa_nil))) (pss_cons (ps_if (PW.pt (pw_or (pt_cmpR op_isN (pv 4) pe_non (nomark _)) (pw_or1 (pt_not (pt_ifT (pt_cmpR op_eq (pe_ix ix_tup (pv 1) pe_int (fun _ _ => rfl)) pe_str (nomark _)) (pt_val (pe_mt (met_Thing_may_get T) hr (by decide) (pv 4) (pa_cons (pv 3) pa_nil))) (pt_val (pe_mt (met_Thing_has T) hr (by decide) (pv 4) (pa_cons (pv 3) pa_nil)))))))) (pss_one (ps_ret (pe_gc rfl T.k_NO))) pss_nil) (pss_cons (ps_if (pt_cmpR op_eq (pe_ix ix_tup (pv 1) pe_int (fun _ _ => rfl)) pe_str (nomark _)) (pss_one (ps_ret (pe_mt (met_Doer_hold T) hr (by decide) (pv 0) (pa_cons (pe_ix ix_tup (pv 1) pe_int (fun _ _ => rfl)) (pa_cons (pe_dget hu (pe_fld (pv 4) rfl) (pv 3) (fun _ _ => rfl)) pa_nil))))) pss_nil) (pss_cons (ps_set (i := 5) nd rfl (Or.inl rfl) (pe_fld (pe_dget hu (pe_fld (pe_fld (pv 0) rfl) rfl) (pv 2) (fun _ _ => rfl)) rfl)) (pss_cons (ps_if (pt_cmpR op_eq (pe_ix ix_tup (pv 1) pe_int (fun _ _ => rfl)) pe_str (nomark _)) (pss_cons (ps_fld (pv 0) (pe_tup (pa_cons (pv 5) (pa_cons (pe_mt (met_Thing_cut T) hr (by decide) (pv 4) (pa_cons (pv 3) pa_nil)) (pa_cons pe_non pa_nil)))) rfl) (pss_one (ps_ret pe_non))) pss_nil) (pss_cons (ps_set (i := 6) nd rfl (Or.inl rfl) (pe_ifExp (pt_val (pe_mt (met_Thing_has T) hr (by decide) (pv 4) (pa_cons (pv 3) pa_nil))) (pe_dget hu (pe_fld (pv 4) rfl) (pv 3) (fun _ _ => rfl)) pe_non)) (pss_cons (ps_dput hu (pe_fld (pv 4) rfl) (pv 3) (pe_dget hu (pe_fld (pe_fld (pv 0) rfl) rfl) (pe_ix ix_tup (pv 1) pe_int (fun _ _ => rfl)) (fun _ _ => rfl)) rfl) (pss_cons (ps_fld (pv 0) (pe_tup (pa_cons (pv 5) (pa_cons (pv 6) (pa_cons (pe_dget hu (pe_fld (pv 4) rfl) (pv 3) (fun _ _ => rfl)) pa_nil)))) rfl) (pss_one (ps_ret pe_non))))))))))), ?_⟩
  obtain ⟨dx0, h0⟩ := L.doer
  obtain ⟨dx1, h1⟩ := L.heap
  obtain ⟨f, h2, hf⟩ := L.nms
  have no : ∀ H' : Hp, Same H H' → doM M d = (.no, M) → wrOf M d = none → Q (.str "no") H' := fun H' s ed ew => by
    refine q (.str "no") ad .non H' ?_ (by rw [ed]; rfl) (by rw [ed]; trivial) (by rw [ew]; rfl)
    rw [ksOf_eq (by rw [ed]), madeV_eq (by rw [ed]), ed]
    exact PRes.same L s
  cases d with
  | take n m p =>
    have hp : H dp = some (.tup [.str "take", .str n, .str m, kV p]) := hp
    walk_at "sx"
    refine y_T rfl ?_
    walk_at "rx"
    intro p1 hp1
    have s1 : Same H (upd H p1 (.tup [.str m, kV p])) := Same.new hp1
    refine y_tup2 upd_same ?_
    have L1 := L.same s1
    have hp' := s1 _ _ hp
    have h0' := s1 _ _ h0
    have h1' := s1 _ _ h1
    have no1 := no _ s1
    generalize upd H p1 (.tup [.str m, kV p]) = H1 at s1 L1 hp' h0' h1' no1 ⊢
    walk_at "rx"
    refine ⟨ad, M, ks, .non, .non, m, rfl, rfl, gd.2.1, L1, ok, hkp, ?_⟩
    cases e : M.thOf m with
    | none =>
      dsimp only [pthV]
      walk_at "rx"
      refine y_T rfl ?_
      walk_at "rx"
      exact no1 (doM_take0 e) rfl
    | some kt =>
      obtain ⟨k, t⟩ := kt
      obtain ⟨en, et⟩ := thOf_names e
      have km := hkp k (kept_root gd.2.1 en)
      obtain ⟨dxt, kvs, t1, t2, t3⟩ := L1.get et km
      have lk := L.lt k km
      have ot := ok.th k t et
      unfold pth at t1
      dsimp only [pthV]
      walk_at "rx"
      refine y_F (fun z => by cases z) ?_
      walk_at "rx"
      refine y_F (fun z => by cases z) ?_
      walk_at "rx"
      refine ⟨_, dxt, _, t, kvs, p, rfl, rfl, t1, t2, t3, ?_⟩
      walk_at "rx"
      have ew : wrOf M (.take n m p) = none := rfl
      refine y_nb (fun hh => ?_) (fun hh => ?_)
      · walk_at "rx"
        exact no1 (doM_take1 e (by
          have hh : (hget t.held p).isSome = false := hh
          cases h : hget t.held p with
          | none => rfl
          | some a => rw [h] at hh; cases hh)) rfl
      · obtain ⟨a, ha⟩ := Option.isSome_iff_exists.mp (show (hget t.held p).isSome = true from hh)
        obtain ⟨v, hv, pv⟩ := t3.some ha
        walk_at "rx"
        refine y_T rfl ?_
        walk_at "rx"
        refine y_dgetK t2 hv ?_
        walk_at "rx"
        have ed := doM_take2 (n := n) e ha
        refine ⟨ad, M, ks, .non, .non, n, a, rfl, rfl, gd.1, pv, L1, fun v' H2 R2 lv => ?_⟩
        refine q v' ad .non H2 ?_ (by rw [ed]; exact lv) (by rw [ed]; trivial) rfl
        rw [ksOf_eq (by rw [ed]; rfl), madeV_eq (by rw [ed]; rfl), ed]
        exact (PRes.same L s1).trans R2
  | cut n p =>
    have hp : H dp = some (.tup [.str "cut", .str n, kV p]) := hp
    walk_at "sx"
    refine y_F (fun z => by cases z) ?_
    walk_at "rx"
    intro p1 hp1
    have s1 : Same H (upd H p1 (.tup [.str n, kV p])) := Same.new hp1
    refine y_tup2 upd_same ?_
    have L1 := L.same s1
    have hp' := s1 _ _ hp
    have h0' := s1 _ _ h0
    have h1' := s1 _ _ h1
    have h2' := s1 _ _ h2
    have hfn := (hf n gd.1).mono (Same.refs s1)
    have no1 := no _ s1
    generalize upd H p1 (.tup [.str n, kV p]) = H1 at s1 L1 hp' h0' h1' h2' hfn no1 ⊢
    walk_at "rx"
    refine ⟨ad, M, ks, .non, .non, n, rfl, rfl, gd.1, L1, ok, hkp, ?_⟩
    cases e : M.thOf n with
    | none =>
      dsimp only [pthV]
      walk_at "rx"
      refine y_T rfl ?_
      walk_at "rx"
      exact no1 (doM_cut0 e) (wr_none (m := n) e).2
    | some kt =>
      obtain ⟨k, t⟩ := kt
      obtain ⟨en, et⟩ := thOf_names e
      have km := hkp k (kept_root gd.1 en)
      obtain ⟨dxt, kvs, t1, t2, t3⟩ := L1.get et km
      have lk := L.lt k km
      have ot := ok.th k t et
      unfold pth at t1
      rw [en] at hfn
      obtain ⟨pr, dxr, efn, hr0⟩ := hfn
      dsimp only [pthV]
      walk_at "rx"
      refine y_F (fun z => by cases z) ?_
      walk_at "rx"
      refine y_F (fun z => by cases z) ?_
      walk_at "rx"
      refine ⟨_, dxt, _, t, kvs, p, rfl, rfl, t1, t2, t3, ?_⟩
      walk_at "rx"
      refine y_nb (fun hh => ?_) (fun hh => ?_)
      · walk_at "rx"
        have hn : hget t.held p = none := by
          have hh : (hget t.held p).isSome = false := hh
          cases h : hget t.held p with
          | none => rfl
          | some a => rw [h] at hh; cases hh
        exact no1 (by rw [doM_cut e, if_neg (by rw [hh]; exact Bool.false_ne_true)]) (by rw [wr_cut e, hn]; rfl)
      · obtain ⟨a, ha⟩ := Option.isSome_iff_exists.mp (show (hget t.held p).isSome = true from hh)
        walk_at "rx"
        refine y_F (fun z => by cases z) ?_
        walk_at "rx"
        refine y_dgetS h2' (valV_kvL gd.1) ?_
        rw [efn]
        walk_at "rx"
        refine y_T rfl ?_
        walk_at "rx"
        have own := L.own
        refine ⟨_, dxt, _, t, M.made, kvs, p, a, rfl, rfl, own.ne (by omega) (by omega) (by omega), t1, t2, t3, ot, ha, fun v d' kvs' H2 pv gA gD gh hd hk kp => ?_⟩
        have R2 := (PRes.same L s1).trans (PRes.repl T L1 km gA gD gh hd hk kp)
        have pv2 := PV.mono pv (Fr.of2 (K := K) (F := PF ad M) hk ⟨4 + 2 * k, by omega, rfl⟩ ⟨5 + 2 * k, by omega, rfl⟩ (L1.own.chg (by omega)) (L1.own.chg (by omega))).refs
        walk_at "rx"
        intro p2 hp2
        have s3 : Same H2 (upd H2 p2 (.tup [.int (k : Int), v, .non])) := Same.new hp2
        have R3 := R2.then s3
        have g2 : upd H2 p2 (.tup [.int (k : Int), v, .non]) p2 = some (.tup [.int (k : Int), v, .non]) := upd_same
        have pv3 := PV.mono pv2 (Same.refs s3)
        generalize upd H2 p2 (.tup [.int (k : Int), v, .non]) = H3 at s3 R3 g2 pv3 ⊢
        obtain ⟨dx3, g0⟩ := R3.pm.doer
        rw [R3.a0, R3.a1] at g0
        walk_at "rx"
        have R4 := PRes.doer T (dx := dx3) (vm := .non) (vw := .ref p2) R3
        have n20 : p2 ≠ ad 0 := ne_of g2 g0 (by intro z; cases z)
        have ed : doM M (.cut n p) = (.v .non, M.setTh k { t with held := t.cutH p }) := by rw [doM_cut e, if_pos hh]
        have ew : wrOf M (.cut n p) = some (k, a, .non) := by rw [wr_cut e, ha]; rfl
        refine q .non (adS ad k d') (.ref p2) _ ?_ (by rw [ed]; rfl) (by rw [ed]; trivial) ?_
        · rw [ksOf_eq (by rw [ed]; rfl), madeV_eq (by rw [ed]; rfl), ed]
          exact R4
        · rw [ew]
          have o3 := Own.refs (o := .ins (He.ga K "Doer") dx3 (fs_Doer (.ref (ad 1)) .non (.ref p2))) R3.pm.own (i := 0) (by show 0 < 4 + 2 * M.made; omega)
          rw [R3.a0] at o3
          exact ⟨p2, v, .non, rfl, by rw [upd_ne n20]; exact g2, PV.mono pv3 o3, rfl⟩
  | put n p m =>
    have hp : H dp = some (.tup [.str "put", .str n, kV p, .str m]) := hp
    walk_at "sx"
    refine y_F (fun z => by cases z) ?_
    walk_at "rx"
    intro p1 hp1
    have s1 : Same H (upd H p1 (.tup [.str n, kV p])) := Same.new hp1
    refine y_tup2 upd_same ?_
    have L1 := L.same s1
    have hp' := s1 _ _ hp
    have h0' := s1 _ _ h0
    have h1' := s1 _ _ h1
    have h2' := s1 _ _ h2
    have hfn := (hf n gd.1).mono (Same.refs s1)
    have hfm := (hf m gd.2.2).mono (Same.refs s1)
    have no1 := no _ s1
    generalize upd H p1 (.tup [.str n, kV p]) = H1 at s1 L1 hp' h0' h1' h2' hfn hfm no1 ⊢
    walk_at "rx"
    refine ⟨ad, M, ks, .non, .non, n, rfl, rfl, gd.1, L1, ok, hkp, ?_⟩
    cases e : M.thOf n with
    | none =>
      dsimp only [pthV]
      walk_at "rx"
      refine y_T rfl ?_
      walk_at "rx"
      exact no1 (doM_put0 e) (wr_none e).1
    | some kt =>
      obtain ⟨k, t⟩ := kt
      obtain ⟨en, et⟩ := thOf_names e
      have km := hkp k (kept_root gd.1 en)
      obtain ⟨dxt, kvs, t1, t2, t3⟩ := L1.get et km
      have lk := L.lt k km
      have ot := ok.th k t et
      have own := L.own
      unfold pth at t1
      rw [en] at hfn
      obtain ⟨pr, dxr, efn, hr0⟩ := hfn
      dsimp only [pthV]
      walk_at "rx"
      refine y_F (fun z => by cases z) ?_
      walk_at "rx"
      refine y_T rfl ?_
      walk_at "rx"
      refine ⟨_, dxt, _, t, _, kvs, p, rfl, rfl, t1, t2, t3, ot, ?_⟩
      walk_at "rx"
      refine y_nb (fun hh => ?_) (fun hh => ?_)
      · walk_at "rx"
        exact no1 (by rw [doM_put e, if_neg (by rw [hh]; exact Bool.false_ne_true)]) (by rw [wr_put e, if_neg (by rw [hh]; exact Bool.false_ne_true)])
      walk_at "rx"
      refine y_F (fun z => by cases z) ?_
      walk_at "rx"
      refine y_dgetS h2' (valV_kvL gd.1) ?_
      rw [efn]
      walk_at "rx"
      refine y_F (fun z => by cases z) ?_
      walk_at "rx"
      refine ⟨_, dxt, _, t, kvs, p, rfl, rfl, t1, t2, t3, ?_⟩
      walk_at "rx"
      have ed : doM M (.put n p m) = (.v .non, M.setTh k { t with held := hput t.held p (M.names m) }) := by rw [doM_put e, if_pos hh]
      have ew : wrOf M (.put n p m) = some (k, (hget t.held p).getD .non, M.names m) := by rw [wr_put e, if_pos hh]
      refine y_b (fun hs => ?_) (fun hs => ?_)
      · obtain ⟨a, ha⟩ := Option.isSome_iff_exists.mp (show (hget t.held p).isSome = true from hs)
        obtain ⟨ov, hv, pov⟩ := t3.some ha
        rw [ha] at ew
        replace ew : wrOf M (.put n p m) = some (k, a, M.names m) := ew
        walk_at "rx"
        refine y_dgetK t2 hv ?_
        walk_at "rx"
        refine y_dgetS h2' (valV_kvL gd.2.2) ?_
        walk_at "rx"
        refine y_dput (j := p) t2 rfl (small9000 (by have := t3.len; have := ot.len; omega)) rfl ?_
        have R2 := (PRes.same L s1).trans (PRes.upd (i := 5 + 2 * k) L1 (by omega) (L1.setHeld T km et (t3.put (k := p) hfm)) rfl)
        have o1 := Own.refs (o := .dK (putK kvs p (f m))) L1.own (i := 5 + 2 * k) (by omega)
        have pv2 := PV.mono pov o1
        have fm2 := PV.mono hfm o1
        have u1 := (upd_ne (H := H1) (o := .dK (putK kvs p (f m))) (own.ne (i := 4 + 2 * k) (j := 5 + 2 * k) (by omega) (by omega) (by omega))).trans t1
        have u2 : upd H1 (ad (5 + 2 * k)) (.dK (putK kvs p (f m))) (ad (5 + 2 * k)) = some (.dK (putK kvs p (f m))) := upd_same
        generalize upd H1 (ad (5 + 2 * k)) (.dK (putK kvs p (f m))) = H2 at R2 pv2 fm2 u1 u2 ⊢
        walk_at "rx"
        refine y_dgetK u2 valV_putS ?_
        walk_at "rx"
        intro p2 hp2
        have s3 : Same H2 (upd H2 p2 (.tup [.int (k : Int), ov, f m])) := Same.new hp2
        have R3 := R2.then s3
        have g2 : upd H2 p2 (.tup [.int (k : Int), ov, f m]) p2 = some (.tup [.int (k : Int), ov, f m]) := upd_same
        have pv3 := PV.mono pv2 (Same.refs s3)
        have fm3 := PV.mono fm2 (Same.refs s3)
        generalize upd H2 p2 (.tup [.int (k : Int), ov, f m]) = H3 at s3 R3 g2 pv3 fm3 ⊢
        obtain ⟨dx3, g0⟩ := R3.pm.doer
        walk_at "rx"
        have R4 := PRes.doer T (dx := dx3) (vm := .non) (vw := .ref p2) R3
        have n20 : p2 ≠ ad 0 := ne_of g2 g0 (by intro z; cases z)
        have o3 := Own.refs (o := .ins (He.ga K "Doer") dx3 (fs_Doer (.ref (ad 1)) .non (.ref p2))) R3.pm.own (i := 0) (by omega)
        refine q .non ad (.ref p2) _ ?_ (by rw [ed]; rfl) (by rw [ed]; trivial) ?_
        · rw [ksOf_eq (by rw [ed]; rfl), madeV_eq (by rw [ed]; rfl), ed]
          exact R4
        · rw [ew]
          exact ⟨p2, ov, f m, rfl, by rw [upd_ne n20]; exact g2, PV.mono pv3 o3, PV.mono fm3 o3⟩
      · have ha : hget t.held p = none := by
          have hs : (hget t.held p).isSome = false := hs
          cases h : hget t.held p with
          | none => rfl
          | some a => rw [h] at hs; cases hs
        have pov : PV K H1 V.non .non := rfl
        rw [ha] at ew
        replace ew : wrOf M (.put n p m) = some (k, AV.non, M.names m) := ew
        walk_at "rx"
        refine y_dgetS h2' (valV_kvL gd.2.2) ?_
        walk_at "rx"
        refine y_dput (j := p) t2 rfl (small9000 (by have := t3.len; have := ot.len; omega)) rfl ?_
        have R2 := (PRes.same L s1).trans (PRes.upd (i := 5 + 2 * k) L1 (by omega) (L1.setHeld T km et (t3.put (k := p) hfm)) rfl)
        have o1 := Own.refs (o := .dK (putK kvs p (f m))) L1.own (i := 5 + 2 * k) (by omega)
        have pv2 := PV.mono pov o1
        have fm2 := PV.mono hfm o1
        have u1 := (upd_ne (H := H1) (o := .dK (putK kvs p (f m))) (own.ne (i := 4 + 2 * k) (j := 5 + 2 * k) (by omega) (by omega) (by omega))).trans t1
        have u2 : upd H1 (ad (5 + 2 * k)) (.dK (putK kvs p (f m))) (ad (5 + 2 * k)) = some (.dK (putK kvs p (f m))) := upd_same
        generalize upd H1 (ad (5 + 2 * k)) (.dK (putK kvs p (f m))) = H2 at R2 pv2 fm2 u1 u2 ⊢
        walk_at "rx"
        refine y_dgetK u2 valV_putS ?_
        walk_at "rx"
        intro p2 hp2
        have s3 : Same H2 (upd H2 p2 (.tup [.int (k : Int), V.non, f m])) := Same.new hp2
        have R3 := R2.then s3
        have g2 : upd H2 p2 (.tup [.int (k : Int), V.non, f m]) p2 = some (.tup [.int (k : Int), V.non, f m]) := upd_same
        have pv3 := PV.mono pv2 (Same.refs s3)
        have fm3 := PV.mono fm2 (Same.refs s3)
        generalize upd H2 p2 (.tup [.int (k : Int), V.non, f m]) = H3 at s3 R3 g2 pv3 fm3 ⊢
        obtain ⟨dx3, g0⟩ := R3.pm.doer
        walk_at "rx"
        have R4 := PRes.doer T (dx := dx3) (vm := .non) (vw := .ref p2) R3
        have n20 : p2 ≠ ad 0 := ne_of g2 g0 (by intro z; cases z)
        have o3 := Own.refs (o := .ins (He.ga K "Doer") dx3 (fs_Doer (.ref (ad 1)) .non (.ref p2))) R3.pm.own (i := 0) (by omega)
        refine q .non ad (.ref p2) _ ?_ (by rw [ed]; rfl) (by rw [ed]; trivial) ?_
        · rw [ksOf_eq (by rw [ed]; rfl), madeV_eq (by rw [ed]; rfl), ed]
          exact R4
        · rw [ew]
          exact ⟨p2, V.non, f m, rfl, by rw [upd_ne n20]; exact g2, PV.mono pv3 o3, PV.mono fm3 o3⟩
  | _ => cases iS
end

section
variable {P : Program} {w : World} {K : PySem.W.Frag} {mg : Str → Option Value} {base : Heap}
theorem kept_tell {M : HM} {k : Nat} : M.tellM.kept k ↔ M.kept k :=
  ⟨fun h => RC_congr (fun _ _ => tell_holds.mp) (fun _ z => z.imp id tell_due.mp) h, fun h => RC_congr (fun _ _ => tell_holds.mpr) (fun _ z => z.imp id tell_due.mpr) h⟩
theorem RC_sub {M M' : HM} {R R' : Nat → Prop} (h1 : ∀ k j, M.holds k j → M'.holds k j) (h2 : ∀ k, R k → M'.RC R' k) {k : Nat} (h : M.RC R k) : M'.RC R' k := by
  induction h with
  | base h => exact h2 _ h
  | step _ e ih => exact .step ih (h1 _ _ e)
theorem last1_holds {M : HM} {k a b : Nat} (h : (M.last1 k).holds a b) : M.holds a b := by
  unfold HM.last1 at h
  cases e : M.things k with
  | none => rw [e] at h; exact h
  | some t =>
    rw [e] at h
    have core : (M.setTh k { t with due := false }).holds a b → M.holds a b := by
      rintro ⟨u, e2, p, m⟩
      have e2 : (if a = k then some { t with due := false } else M.things a) = some u := e2
      by_cases c : a = k
      · rw [if_pos c] at e2; cases e2; exact ⟨t, by rw [c]; exact e, p, m⟩
      · rw [if_neg c] at e2; exact ⟨u, e2, p, m⟩
    have h : (match t.goal with | none => M.setTh k { t with due := false } | some g => (M.setTh k { t with due := false }).hold g (.th k)).holds a b := h
    split at h <;> exact core h
theorem last1_root {M : HM} {k j : Nat} (hd : M.isDue k) (h : (M.last1 k).root j) : M.root j ∨ j = k := by
  obtain ⟨n, hn, e⟩ := h
  unfold HM.last1 at e
  obtain ⟨t, et, _⟩ := hd
  rw [et] at e
  have e : (match t.goal with | none => M.setTh k { t with due := false } | some g => (M.setTh k { t with due := false }).hold g (.th k)).names n = .th j := e
  split at e
  · exact .inl ⟨n, hn, e⟩
  · rename_i g _
    have e : (if n = g then AV.th k else M.names n) = .th j := e
    by_cases c : n = g
    · rw [if_pos c] at e; cases e; exact .inr rfl
    · rw [if_neg c] at e; exact .inl ⟨n, hn, e⟩
theorem kept_last1 {M : HM} {k j : Nat} (hd : M.isDue k) (h : (M.last1 k).kept j) : M.kept j := by
  refine RC_sub (fun _ _ => last1_holds) (fun i hi => ?_) h
  rcases hi with hi | hi
  · rcases last1_root hd hi with r | rfl
    · exact .base (.inl r)
    · exact .base (.inr hd)
  · exact .base (.inr (last1_due.mp hi).1)
theorem kept_foldl : ∀ {l : List Nat} {M : HM} {j : Nat}, (∀ k ∈ l, M.isDue k) → l.Nodup → (l.foldl HM.last1 M).kept j → M.kept j
  | [], _, _, _, _, h => h
  | k :: l, M, j, hd, nd, h => by
    have nd := List.nodup_cons.mp nd
    refine kept_last1 (hd k (List.mem_cons_self ..)) (kept_foldl (l := l) (fun i m => last1_due.mpr ⟨hd i (List.mem_cons_of_mem _ m), fun z => nd.1 (z ▸ m)⟩) nd.2 h)
theorem lost_nodup {M : HM} : M.lost.Nodup := by
  classical
  exact List.Pairwise.filter _ List.nodup_range
theorem lost_len {M : HM} : M.lost.length ≤ dueN M := by
  classical
  unfold dueN HM.lost
  refine List.Sublist.length_le ?_
  have : (List.range M.made).filter (fun k => decide (M.isDue k ∧ ¬ M.reach k)) = ((List.range M.made).filter (fun k => decide (M.isDue k))).filter (fun k => decide (¬ M.reach k)) := by
    rw [List.filter_filter]
    congr 1
    funext k
    by_cases c1 : M.isDue k <;> by_cases c2 : M.reach k <;> simp [c1, c2]
  rw [this]
  exact List.filter_sublist
theorem lost_filter {M : HM} {found : List Nat} (hf : ∀ k, k ∈ found ↔ M.reach k) : (dueL M M.made).filter (fun k => !decide (k ∈ found)) = M.lost := by
  classical
  unfold dueL HM.lost
  rw [List.filter_filter]
  congr 1
  funext k
  have e : decide (k ∈ found) = decide (M.reach k) := dec_congr (hf k)
  rw [e]
  by_cases c1 : M.isDue k <;> by_cases c2 : M.reach k <;> simp [c1, c2]
abbrev spPSettle (K : PySem.W.Frag) : Sp := Sp1 fun x H Q => ∃ (ad : Nat → Addr) (M : HM) (ks : List Nat), x = .ref (ad 0) ∧ PM K H ad M ks .non .non ∧ M.Ok ∧ KeptIn M ks ∧
  ∀ (r : Addr) (H' : Hp), PRes K H ad M H' ad M.settle.2 ks .non .non → H r = none → H' r = some (.lst (intsV M.settle.1)) → Q (.ref r) H'
theorem met_Doer_settle (T : Tx w K mg base) : Met P w K mg base 7 (He.ga K "Doer") "settle" (spPSettle K) [] := by
  obtain ⟨fd, F⟩ := T.fn_Doer_settle
  refine met_of T.cl_Doer T.me_Doer_settle F sc_Doer_settle (F.bindsN fun _ _ _ _ _ _ us hl => match us, hl with | [_], _ => rfl) (fun vs H Q E h => h.len) (fun cdv A outer s H vs Q E hr h => ?_)
  obtain ⟨x, rfl, ad, M, ks, rfl, L, ok, hkp, q⟩ := h
  have hu := hu_of hr
  have nd := sc_Doer_settle.nd
  refine ⟨_, (pss_cons (ps_set (i := 1) nd rfl (Or.inl rfl) (pe_lst pa_nil)) (pss_one (ps_while PassesOwn.never (pt_val pe_bl) (pss_cons (ps_set (i := 2) nd rfl (Or.inr rfl) (pe_mt0 (met_Doer_tell_watches T) hr (by decide) (pv 0))) (pss_cons (ps_setLc (i := 3) (own := [("number", 4)]) (by rfl) nd rfl rfl (sw_true rfl rfl rfl (by decide +kernel)) (pi_list (pe_mt0 (met_Heap_due T) hr (by decide) (pe_fld (pv 0) rfl))) (blkOk_by (own := [("number", 4)]) (N := N_Doer_settle) (sc := (C8.fnScope s_Doer_settle)) (by decide +kernel)) (fun _ _ _ _ _ => (pg_name (i := 4) nd rfl (Or.inl rfl))) (fun _ _ _ _ _ => (pts_one (pt_cmp (pc_dnotin hu (pv 4) (pv 2))))) (fun _ _ _ _ _ => (pv 4))) (pss_cons (ps_if (pt_cmpR (op_eqD hr.units) (pv 3) (pe_lst pa_nil) (nomark _)) (pss_one (ps_ret (pv 1))) pss_nil) (pss_cons (ps_for PassesOwn.never rfl (pi_list (pv 3)) (pg_name (i := 4) nd rfl (Or.inl rfl)) (pss_cons (ps_set (i := 5) nd rfl (Or.inl rfl) (pe_dget hu (pe_fld (pe_fld (pv 0) rfl) rfl) (pv 4) (fun _ _ => rfl))) (pss_cons (ps_fld (pv 5) pe_bl rfl) (pss_one (ps_if (pt_cmpR op_notN (pe_fld (pv 5) rfl) pe_non (nomark _)) (pss_one (ps_dput hu (pe_fld (pe_fld (pv 0) rfl) rfl) (pe_fld (pv 5) rfl) (pe_mk (mak_Ref T) hr (by decide) (by rfl) (pa_cons (pv 4) pa_nil)) rfl)) pss_nil))))) (pss_one (ps_set (i := 1) nd rfl (Or.inl rfl) (pe_op op_cat (pv 1) (pv 3))))))))))), ?_⟩
  walk_at "sx"
  intro da hda
  walk_at "rx"
  refine x_while (fun m σ H' => ∃ (Mc : HM) (done : List Nat) (da : Addr) (u2 u3 u4 u5 : Option V), σ = [some (.ref (ad 0)), some (.ref da), u2, u3, u4, u5] ∧ PRes K H ad M H' ad Mc ks .non .non ∧ Mc.Ok ∧ KeptIn Mc ks ∧ Mc.made = M.made ∧ H da = none ∧ H' da = some (.lst (intsV done)) ∧
      done.length + dueN Mc ≤ M.made ∧ ∃ n, dueN Mc < n ∧ M.settle = (done ++ (HM.settleF n Mc).1, (HM.settleF n Mc).2) ∧ m = n) (M.made + 1)
    ⟨M, [], da, none, none, none, none, rfl, PRes.same L (Same.new hda), ok, hkp, rfl, hda, upd_same, by have := dueN_le (M := M); simp; exact this, M.made + 1, by have := dueN_le (M := M); omega, rfl, rfl⟩ ?_
  rintro m σ H' ⟨Mc, done, da, u2, u3, u4, u5, rfl, R, okc, hkc, em, hda0, hd, hcnt, n, hn, hset, rfl⟩
  walk_at "rx"
  refine y_w (fun _ => ?_) (fun c => by cases c)
  obtain ⟨dx0, h0⟩ := R.pm.doer
  walk_at "rx"
  refine ⟨ad, Mc, ks, .non, .non, rfl, R.pm, okc, hkc, fun r found H1 R1 hr0 hr1 hf hnd => ?_⟩
  have R01 := R.trans R1
  have own := R.pm.own
  have nda : ∀ i, i < 4 + 2 * Mc.made → ad i ≠ da := fun i hi => by rw [em] at hi; exact L.own.fresh hi hda0
  have hd1 := R1.fr.lst hd (fun ⟨i, hi, z⟩ => nda i hi z)
  have okt := okc.tellM
  have hkt : KeptIn Mc.tellM ks := fun k h => hkc k (kept_tell.mp h)
  obtain ⟨dx1, h01⟩ := R1.pm.doer
  obtain ⟨dx2, h11⟩ := R1.pm.heap
  walk_at "rx"
  refine ⟨ad, Mc.tellM, ks, .non, .non, rfl, R1.pm, okt, hkt, fun dl H2 s2 hdl0 hdl => ?_⟩
  have hr2 := s2 _ _ hr1
  have hd2 := s2 _ _ hd1
  have emt : Mc.tellM.made = M.made := em
  have L2 := R1.pm.same s2
  walk_at "rx"
  refine y_iL (sqL hdl) ?_
  have dlen : (dueL Mc.tellM Mc.tellM.made).length ≤ 9000 := by
    classical
    unfold dueL
    exact Nat.le_trans (List.length_filter_le _ _) (by rw [List.length_range]; exact R1.pm.sm)
  refine y_lcL (xs := intsV (dueL Mc.tellM Mc.tellM.made)) (fun D i acc H' => Same H2 H' ∧ acc = intsV (((dueL Mc.tellM Mc.tellM.made).take i).filter fun k => !decide (k ∈ found))) (fun D hD => ⟨Same.new hD, rfl⟩) (fun D i acc H' hD _ p => sqL (p.1 _ _ hdl)) ?_ ?_
  · rintro D i x acc H3 hD hi hDl hle ⟨s3, rfl⟩
    unfold intsV at hi
    rw [List.getElem?_map] at hi
    obtain ⟨k, hk, rfl⟩ := Option.map_eq_some_iff.mp hi
    have il := (List.getElem?_eq_some_iff.mp hk).1
    have hr3 := s3 _ _ hr2
    have tk := take_snoc hk
    refine y_turn ?_
    walk_at "rx"
    refine ⟨rfl, ?_⟩
    walk_at "rx"
    refine y_notInFd hr3 ?_
    walk_at "rx"
    refine y_ndec (fun hx => ?_) (fun hx => ?_)
    · walk_at "rx"
      refine y_put hDl hle (by omega) ?_
      have e9 : intsV (((dueL Mc.tellM Mc.tellM.made).take i).filter fun k => !decide (k ∈ found)) ++ [V.int (k : Int)] = intsV (((dueL Mc.tellM Mc.tellM.made).take (i + 1)).filter fun k => !decide (k ∈ found)) := by
        rw [tk, List.filter_append, List.filter_cons, if_pos (by rw [decide_eq_false hx]; rfl), ← intsV_app]; rfl
      rw [e9]
      exact ⟨same_fresh s3 hD, rfl⟩
    · exact ⟨_, hDl, Nat.le_succ_of_le hle, s3, by
        rw [tk, List.filter_append, List.filter_cons, if_neg (by rw [decide_eq_true hx]; exact Bool.false_ne_true)]
        exact congrArg intsV (List.append_nil _).symm⟩
  · rintro D acc H3 hD hDl ⟨s3, rfl⟩
    rw [intsV_len, List.take_length, lost_filter fun k => (hf k).trans tell_reach.symm] at hDl
    generalize hlost : Mc.tellM.lost = lost at hDl
    have nlost : lost.Nodup := by rw [← hlost]; exact lost_nodup
    have hml : ∀ k ∈ lost, k < Mc.tellM.made ∧ Mc.tellM.isDue k := fun k m => by
      rw [← hlost] at m
      exact ⟨(mem_lost.mp m).1, (mem_lost.mp m).2.1⟩
    have R3 := (R01.then s2).then s3
    have hd3 := s3 _ _ hd2
    have hD0 : H D = none := R01.kp _ (same_none s2 hD)
    walk_at "rx"
    intro e he
    have s4 : Same H3 (upd H3 e (.lst [])) := Same.new he
    refine y_eqNil (ns := lost.map fun (k : Nat) => (k : Int)) (by rw [← intsV_eq]; exact sqL (s4 _ _ hDl)) (sqL upd_same) ?_
    have R4 := R3.then s4
    have hd4 := s4 _ _ hd3
    have hDl4 := s4 _ _ hDl
    generalize upd H3 e (.lst []) = H4 at s4 R4 hd4 hDl4 ⊢
    walk_at "rx"
    obtain ⟨n, rfl⟩ : ∃ n', m = n' + 1 := ⟨m - 1, by omega⟩
    refine y_dec (fun hl0 => ?_) (fun hl0 => ?_)
    · have hl0 : lost = [] := by cases lost with | nil => rfl | cons _ _ => cases hl0
      walk_at "rx"
      rw [settleF_succ, if_pos (hlost.trans hl0), List.append_nil] at hset
      refine q da H4 ?_ hda0 ?_
      · rw [hset]; exact R4
      · rw [hset]; exact hd4
    · have hl0 : lost ≠ [] := fun z => hl0 (by rw [z]; rfl)
      walk_at "rx"
      refine y_iL (sqL hDl4) ?_
      refine y_forL (xs := intsV lost) (fun i σ H' => ∃ u4 u5, σ = [some (.ref (ad 0)), some (.ref da), some (.ref r), some (.ref D), u4, u5] ∧ PRes K H ad M H' ad ((lost.take i).foldl HM.last1 Mc.tellM) ks .non .non ∧ H' da = some (.lst (intsV done)) ∧ H' D = some (.lst (intsV lost)))
        ⟨_, _, rfl, R4, hd4, hDl4⟩ (fun i σ H' _ ⟨_, _, _, _, _, h⟩ => sqL h) ?_ ?_
      · rintro i x σ H5 hi ⟨u4, u5, rfl, R5, hd5, hD5⟩
        unfold intsV at hi
        rw [List.getElem?_map] at hi
        obtain ⟨k, hk, rfl⟩ := Option.map_eq_some_iff.mp hi
        obtain ⟨kl, kdue⟩ := hml k (List.mem_of_getElem? hk)
        have km := hkt k (.base (.inr kdue))
        obtain ⟨ok5, em5⟩ := foldl_last1 (l := lost.take i) okt
        have sM : ((lost.take i).foldl HM.last1 Mc.tellM).made = M.made := em5.trans emt
        obtain ⟨t, et, ot⟩ := ok5.get (k := k) (by rw [em5]; exact kl)
        obtain ⟨dxt, kvs, g1, g2, g3⟩ := R5.pm.get et km
        unfold pth at g1
        obtain ⟨dx5, c0⟩ := R5.pm.doer
        obtain ⟨dx6, c1⟩ := R5.pm.heap
        have c3 := R5.pm.ths
        have e6 : (lost.take (i + 1)).foldl HM.last1 Mc.tellM = ((lost.take i).foldl HM.last1 Mc.tellM).last1 k := by rw [take_snoc hk, List.foldl_append]; rfl
        walk_at "rx"
        refine y_dgetI c3 (valV_things R5.pm.srt km) ?_
        walk_at "rx"
        have klM : k < M.made := by rw [← emt]; exact kl
        have n4a : ad (4 + 2 * k) ≠ da := L.own.fresh (by omega) hda0
        have n4D : ad (4 + 2 * k) ≠ D := L.own.fresh (by omega) hD0
        show if _ = true then sDPut _ _ _ _ _ (upd H5 (ad (4 + 2 * k)) (.ins (He.ga K "Thing") dxt (pth { t with due := false } (ad (5 + 2 * k))))) else tNext _ _ (upd H5 (ad (4 + 2 * k)) (.ins (He.ga K "Thing") dxt (pth { t with due := false } (ad (5 + 2 * k)))))
        have R6 := R5.trans (PRes.upd (i := 4 + 2 * k) R5.pm (by rw [sM]; omega) (R5.pm.setTh T (dx := dxt) km et (t' := { t with due := false }) rfl) rfl)
        have hd6 := (upd_ne (H := H5) (o := .ins (He.ga K "Thing") dxt (pth { t with due := false } (ad (5 + 2 * k)))) n4a.symm).trans hd5
        have hD6 := (upd_ne (H := H5) (o := .ins (He.ga K "Thing") dxt (pth { t with due := false } (ad (5 + 2 * k)))) n4D.symm).trans hD5
        have g6 : upd H5 (ad (4 + 2 * k)) (.ins (He.ga K "Thing") dxt (pth { t with due := false } (ad (5 + 2 * k)))) (ad (4 + 2 * k)) = some (.ins (He.ga K "Thing") dxt (fs_Thing (.str t.kind) (.ref (ad (5 + 2 * k))) (seesV t.sees) (.bl t.told) (.bl false) (.bl t.given) (goalV t.goal))) := upd_same
        generalize upd H5 (ad (4 + 2 * k)) (.ins (He.ga K "Thing") dxt (pth { t with due := false } (ad (5 + 2 * k)))) = H6 at R6 hd6 hD6 g6 ⊢
        cases eg : t.goal with
        | none =>
          refine y_nF rfl ?_
          refine ⟨_, _, rfl, ?_, hd6, hD6⟩
          rw [e6, last1_no et eg]
          exact R6
        | some g =>
          have hg : g ∈ NMS := by have := ot.goal; rw [eg] at this; exact this
          rw [eg] at g6
          refine y_nT (fun z => by cases z) ?_
          walk_at "rx"
          refine y_ref fun p H7 s7 hp0 pv => ?_
          have R7 := R6.then s7
          have hd7 := s7 _ _ hd6
          have hD7 := s7 _ _ hD6
          have g7 := s7 _ _ g6
          obtain ⟨dx7, c70⟩ := R7.pm.doer
          obtain ⟨dx8, c71⟩ := R7.pm.heap
          obtain ⟨fN, hN1, hN2⟩ := R7.pm.nms
          walk_at "rx"
          refine y_dput (j := .inr g) hN1 rfl (small9000 (by unfold kvL; rw [List.length_map]; decide)) (putK_kvL hg) ?_
          have m7 : ((((lost.take i).foldl HM.last1 Mc.tellM)).setTh k { t with due := false }).made = M.made := sM
          have R8 := R7.trans (PRes.upd (i := 2) R7.pm (by omega) (R7.pm.hold (n := g) (a := .th k) hN1 hN2 pv) rfl)
          refine ⟨_, _, rfl, ?_, by rw [upd_ne (L.own.fresh (by omega) hda0).symm]; exact hd7, by rw [upd_ne (L.own.fresh (by omega) hD0).symm]; exact hD7⟩
          rw [e6, last1_go et eg]
          exact R8
      · rintro σ H5 ⟨u4, u5, rfl, R5, hd5, hD5⟩
        rw [intsV_len, List.take_length] at R5
        walk_at "rx"
        have okf := foldl_last1 (l := lost) okt
        have dl : lost.length ≤ dueN Mc := by rw [← hlost, ← dueN_tell]; exact lost_len
        refine ⟨da, D, _, _, rfl, rfl, hd5, hD5, by rw [intsV_len, intsV_len, sizeLine_eq]; have := L.sm; omega, fun p hp => ?_⟩
        rw [intsV_app]
        walk_at "rx"
        have s6 : Same H5 (upd H5 p (.lst (intsV (done ++ lost)))) := Same.new hp
        have em5 : (lost.foldl HM.last1 Mc.tellM).made = M.made := okf.2.trans emt
        have dlt := dueN_lt (M := Mc.tellM) hl0 hml okf.2
        rw [dueN_tell] at dlt
        refine ⟨n, by omega, _, done ++ lost, p, _, _, _, _, rfl, R5.then s6, okf.1, fun j h => hkt j (kept_foldl (fun k m => (hml k m).2) nlost h), em5, R5.kp _ hp, upd_same, ?_, n, by omega, ?_, rfl⟩
        · rw [List.length_append]
          have hadd := due_add hml nlost okf.2
          rw [dueN_tell] at hadd
          omega
        · rw [hset, settleF_succ, hlost, if_neg hl0, List.append_assoc]
theorem pdoQ {H H1 : Hp} {ad : Nat → Addr} {M M' : HM} {ks ks' : List Nat} {vm vw : V} {t : Tell} {wr : Option (Nat × AV × AV)} {vm' : V} {Q : VK} (R : PRes K H ad M H1 ad M ks vm vw)
    (q : ∀ (v : V) (ad' : Nat → Addr) (vw' : V) (H' : Hp), PRes K H ad M H' ad' M' ks' vm' vw' → TD H' v t → TFresh H (PF ad' M') v t → WV K H' vw' wr → Q v H') :
    ∀ (v : V) (ad' : Nat → Addr) (vw' : V) (H' : Hp), PRes K H1 ad M H' ad' M' ks' vm' vw' → TD H' v t → TFresh H1 (PF ad' M') v t → WV K H' vw' wr → Q v H' := fun v ad' vw' H' a1 a2 a3 a4 => q v ad' vw' H' (R.trans a1) a2 (by
  cases t with
  | list ns => obtain ⟨p, e, h, n⟩ := a3; exact ⟨p, e, R.kp p h, n⟩
  | v a => trivial
  | no => trivial) a4
abbrev spPDo (K : PySem.W.Frag) : Sp := Sp2 fun x y H Q => ∃ (ad : Nat → Addr) (M : HM) (ks : List Nat) (vm vw : V) (dp : Addr) (d : Deed), x = .ref (ad 0) ∧ y = .ref dp ∧ H dp = some (.tup (deedV d)) ∧ Good d ∧ PM K H ad M ks vm vw ∧ M.Ok ∧ KeptIn M ks ∧ M.made < 9000 ∧
  ∀ (v : V) (ad' : Nat → Addr) (vw' : V) (H' : Hp), PRes K H ad M H' ad' (doM M d).2 (ksOf M d ks) (madeV M d) vw' → TD H' v (doM M d).1 → TFresh H (PF ad' (doM M d).2) v (doM M d).1 → WV K H' vw' (wrOf M d) → Q v H'
theorem met_Doer_do (T : Tx w K mg base) : Met P w K mg base 8 (He.ga K "Doer") "do" (spPDo K) [] := by
  obtain ⟨fd, F⟩ := T.fn_Doer_do
  refine met_of T.cl_Doer T.me_Doer_do F sc_Doer_do (F.bindsN fun _ _ _ _ _ _ us hl => match us, hl with | [_, _], _ => rfl) (fun vs H Q E h => h.len) (fun cdv A outer s H vs Q E hr h => ?_)
  obtain ⟨x, y, rfl, ad, M, ks, vm, vw, dp, d, rfl, rfl, hp, gd, L, ok, hkp, sm, q⟩ := h
  have hu := hu_of hr
  have nd := sc_Doer_do.nd
  refine ⟨_, (pss_cons (ps_fld (pv 0) pe_non rfl) (pss_cons (ps_fld (pv 0) pe_non rfl) (pss_cons (ps_set (i := 2) nd rfl (Or.inl rfl) (pe_ix ix_tup (pv 1) pe_int (fun _ _ => rfl))) (pss_cons (ps_if (pt_cmpR op_in_seq (pv 2) (pe_tup (pa_cons pe_str (pa_cons pe_str pa_nil))) (by rfl)) (pss_one (ps_ret (pe_mt (met_Doer_do_make T) hr (by decide) (pv 0) (pa_cons (pv 1) pa_nil)))) pss_nil) (pss_cons (ps_if (pt_cmpR op_in_seq (pv 2) (pe_tup (pa_cons pe_str (pa_cons pe_str (pa_cons pe_str (pa_cons pe_str pa_nil))))) (by rfl)) (pss_one (ps_ret (pe_mt (met_Doer_do_name T) hr (by decide) (pv 0) (pa_cons (pv 1) pa_nil)))) pss_nil) (pss_cons (ps_if (pt_cmpR op_in_seq (pv 2) (pe_tup (pa_cons pe_str (pa_cons pe_str (pa_cons pe_str pa_nil)))) (by rfl)) (pss_one (ps_ret (pe_mt (met_Doer_do_part T) hr (by decide) (pv 0) (pa_cons (pv 1) pa_nil)))) pss_nil) (pss_cons (ps_if (pt_cmpR op_eq (pv 2) pe_str (nomark _)) (pss_one (ps_ret (pe_mt (met_Doer_do_last T) hr (by decide) (pv 0) (pa_cons (pv 1) pa_nil)))) pss_nil) (pss_one (ps_ret (pe_ifExp (pt_cmpR op_eq (pv 2) pe_str (nomark _)) (pe_mt (met_Doer_do_ask T) hr (by decide) (pv 0) (pa_cons (pv 1) pa_nil)) (pe_mt0 (met_Doer_settle T) hr (by decide) (pv 0)))))))))))), ?_⟩
  obtain ⟨dx0, h0⟩ := L.doer
  walk_at "sx"
  rw [upd_upd]
  have R0 := PRes.doer T (dx := dx0) (vm := .non) (vw := .non) (PRes.refl L)
  have hp0 := R0.fr.i _ _ hp
  have q0 := pdoQ R0 q
  have L0 := R0.pm
  generalize upd H (ad 0) (.ins (He.ga K "Doer") dx0 (fs_Doer (.ref (ad 1)) .non .non)) = H0 at hp0 q0 L0 ⊢
  clear q R0 h0 L hp
  cases d with
  | make n k =>
    have hd0 : H0 dp = some (.tup [.str "make", .str n, .str k]) := hp0
    clear hp0
    walk_at "rx"
    intro p1 hp1
    refine y_inT (b := true) upd_same rfl rfl (by decide +kernel) ?_
    have s1 := Same.new (o := .tup [.str "make", .str "watch"]) hp1
    have L1 := L0.same s1
    have hd1 := s1 _ _ hd0
    have q1 := pdoQ (PRes.same L0 s1) q0
    generalize upd _ p1 (.tup [.str "make", .str "watch"]) = H1 at s1 L1 hd1 q1 ⊢
    obtain ⟨dd1, dh1⟩ := L1.doer
    walk_at "rx"
    exact ⟨ad, M, ks, dp, (.make n k), rfl, rfl, hd1, trivial, gd, L1, ok, hkp, sm, q1⟩
  | watch n m =>
    have hd0 : H0 dp = some (.tup [.str "watch", .str n, .str m]) := hp0
    clear hp0
    walk_at "rx"
    intro p1 hp1
    refine y_inT (b := true) upd_same rfl rfl (by decide +kernel) ?_
    have s1 := Same.new (o := .tup [.str "make", .str "watch"]) hp1
    have L1 := L0.same s1
    have hd1 := s1 _ _ hd0
    have q1 := pdoQ (PRes.same L0 s1) q0
    generalize upd _ p1 (.tup [.str "make", .str "watch"]) = H1 at s1 L1 hd1 q1 ⊢
    obtain ⟨dd1, dh1⟩ := L1.doer
    walk_at "rx"
    exact ⟨ad, M, ks, dp, (.watch n m), rfl, rfl, hd1, trivial, gd, L1, ok, hkp, sm, q1⟩
  | num n i =>
    have hd0 : H0 dp = some (.tup [.str "num", .str n, .int i]) := hp0
    clear hp0
    walk_at "rx"
    intro p1 hp1
    refine y_inT (b := false) upd_same rfl rfl (by decide +kernel) ?_
    have s1 := Same.new (o := .tup [.str "make", .str "watch"]) hp1
    have L1 := L0.same s1
    have hd1 := s1 _ _ hd0
    have q1 := pdoQ (PRes.same L0 s1) q0
    generalize upd _ p1 (.tup [.str "make", .str "watch"]) = H1 at s1 L1 hd1 q1 ⊢
    obtain ⟨dd1, dh1⟩ := L1.doer
    walk_at "rx"
    intro p2 hp2
    refine y_inT (b := true) upd_same rfl rfl (by decide +kernel) ?_
    have s2 := Same.new (o := .tup [.str "num", .str "copy", .str "drop", .str "say"]) hp2
    have L2 := L1.same s2
    have hd2 := s2 _ _ hd1
    have q2 := pdoQ (PRes.same L1 s2) q1
    generalize upd _ p2 (.tup [.str "num", .str "copy", .str "drop", .str "say"]) = H2 at s2 L2 hd2 q2 ⊢
    obtain ⟨dd2, dh2⟩ := L2.doer
    walk_at "rx"
    exact ⟨ad, M, ks, dp, (.num n i), rfl, rfl, hd2, trivial, gd, L2, ok, hkp, sm, q2⟩
  | copy n m =>
    have hd0 : H0 dp = some (.tup [.str "copy", .str n, .str m]) := hp0
    clear hp0
    walk_at "rx"
    intro p1 hp1
    refine y_inT (b := false) upd_same rfl rfl (by decide +kernel) ?_
    have s1 := Same.new (o := .tup [.str "make", .str "watch"]) hp1
    have L1 := L0.same s1
    have hd1 := s1 _ _ hd0
    have q1 := pdoQ (PRes.same L0 s1) q0
    generalize upd _ p1 (.tup [.str "make", .str "watch"]) = H1 at s1 L1 hd1 q1 ⊢
    obtain ⟨dd1, dh1⟩ := L1.doer
    walk_at "rx"
    intro p2 hp2
    refine y_inT (b := true) upd_same rfl rfl (by decide +kernel) ?_
    have s2 := Same.new (o := .tup [.str "num", .str "copy", .str "drop", .str "say"]) hp2
    have L2 := L1.same s2
    have hd2 := s2 _ _ hd1
    have q2 := pdoQ (PRes.same L1 s2) q1
    generalize upd _ p2 (.tup [.str "num", .str "copy", .str "drop", .str "say"]) = H2 at s2 L2 hd2 q2 ⊢
    obtain ⟨dd2, dh2⟩ := L2.doer
    walk_at "rx"
    exact ⟨ad, M, ks, dp, (.copy n m), rfl, rfl, hd2, trivial, gd, L2, ok, hkp, sm, q2⟩
  | drop n =>
    have hd0 : H0 dp = some (.tup [.str "drop", .str n]) := hp0
    clear hp0
    walk_at "rx"
    intro p1 hp1
    refine y_inT (b := false) upd_same rfl rfl (by decide +kernel) ?_
    have s1 := Same.new (o := .tup [.str "make", .str "watch"]) hp1
    have L1 := L0.same s1
    have hd1 := s1 _ _ hd0
    have q1 := pdoQ (PRes.same L0 s1) q0
    generalize upd _ p1 (.tup [.str "make", .str "watch"]) = H1 at s1 L1 hd1 q1 ⊢
    obtain ⟨dd1, dh1⟩ := L1.doer
    walk_at "rx"
    intro p2 hp2
    refine y_inT (b := true) upd_same rfl rfl (by decide +kernel) ?_
    have s2 := Same.new (o := .tup [.str "num", .str "copy", .str "drop", .str "say"]) hp2
    have L2 := L1.same s2
    have hd2 := s2 _ _ hd1
    have q2 := pdoQ (PRes.same L1 s2) q1
    generalize upd _ p2 (.tup [.str "num", .str "copy", .str "drop", .str "say"]) = H2 at s2 L2 hd2 q2 ⊢
    obtain ⟨dd2, dh2⟩ := L2.doer
    walk_at "rx"
    exact ⟨ad, M, ks, dp, (.drop n), rfl, rfl, hd2, trivial, gd, L2, ok, hkp, sm, q2⟩
  | say n =>
    have hd0 : H0 dp = some (.tup [.str "say", .str n]) := hp0
    clear hp0
    walk_at "rx"
    intro p1 hp1
    refine y_inT (b := false) upd_same rfl rfl (by decide +kernel) ?_
    have s1 := Same.new (o := .tup [.str "make", .str "watch"]) hp1
    have L1 := L0.same s1
    have hd1 := s1 _ _ hd0
    have q1 := pdoQ (PRes.same L0 s1) q0
    generalize upd _ p1 (.tup [.str "make", .str "watch"]) = H1 at s1 L1 hd1 q1 ⊢
    obtain ⟨dd1, dh1⟩ := L1.doer
    walk_at "rx"
    intro p2 hp2
    refine y_inT (b := true) upd_same rfl rfl (by decide +kernel) ?_
    have s2 := Same.new (o := .tup [.str "num", .str "copy", .str "drop", .str "say"]) hp2
    have L2 := L1.same s2
    have hd2 := s2 _ _ hd1
    have q2 := pdoQ (PRes.same L1 s2) q1
    generalize upd _ p2 (.tup [.str "num", .str "copy", .str "drop", .str "say"]) = H2 at s2 L2 hd2 q2 ⊢
    obtain ⟨dd2, dh2⟩ := L2.doer
    walk_at "rx"
    exact ⟨ad, M, ks, dp, (.say n), rfl, rfl, hd2, trivial, gd, L2, ok, hkp, sm, q2⟩
  | put n p m =>
    have hd0 : H0 dp = some (.tup [.str "put", .str n, kV p, .str m]) := hp0
    clear hp0
    walk_at "rx"
    intro p1 hp1
    refine y_inT (b := false) upd_same rfl rfl (by decide +kernel) ?_
    have s1 := Same.new (o := .tup [.str "make", .str "watch"]) hp1
    have L1 := L0.same s1
    have hd1 := s1 _ _ hd0
    have q1 := pdoQ (PRes.same L0 s1) q0
    generalize upd _ p1 (.tup [.str "make", .str "watch"]) = H1 at s1 L1 hd1 q1 ⊢
    obtain ⟨dd1, dh1⟩ := L1.doer
    walk_at "rx"
    intro p2 hp2
    refine y_inT (b := false) upd_same rfl rfl (by decide +kernel) ?_
    have s2 := Same.new (o := .tup [.str "num", .str "copy", .str "drop", .str "say"]) hp2
    have L2 := L1.same s2
    have hd2 := s2 _ _ hd1
    have q2 := pdoQ (PRes.same L1 s2) q1
    generalize upd _ p2 (.tup [.str "num", .str "copy", .str "drop", .str "say"]) = H2 at s2 L2 hd2 q2 ⊢
    obtain ⟨dd2, dh2⟩ := L2.doer
    walk_at "rx"
    intro p3 hp3
    refine y_inT (b := true) upd_same rfl rfl (by decide +kernel) ?_
    have s3 := Same.new (o := .tup [.str "put", .str "take", .str "cut"]) hp3
    have L3 := L2.same s3
    have hd3 := s3 _ _ hd2
    have q3 := pdoQ (PRes.same L2 s3) q2
    generalize upd _ p3 (.tup [.str "put", .str "take", .str "cut"]) = H3 at s3 L3 hd3 q3 ⊢
    obtain ⟨dd3, dh3⟩ := L3.doer
    walk_at "rx"
    exact ⟨ad, M, ks, dp, (.put n p m), rfl, rfl, hd3, trivial, gd, L3, ok, hkp, sm, q3⟩
  | take n m p =>
    have hd0 : H0 dp = some (.tup [.str "take", .str n, .str m, kV p]) := hp0
    clear hp0
    walk_at "rx"
    intro p1 hp1
    refine y_inT (b := false) upd_same rfl rfl (by decide +kernel) ?_
    have s1 := Same.new (o := .tup [.str "make", .str "watch"]) hp1
    have L1 := L0.same s1
    have hd1 := s1 _ _ hd0
    have q1 := pdoQ (PRes.same L0 s1) q0
    generalize upd _ p1 (.tup [.str "make", .str "watch"]) = H1 at s1 L1 hd1 q1 ⊢
    obtain ⟨dd1, dh1⟩ := L1.doer
    walk_at "rx"
    intro p2 hp2
    refine y_inT (b := false) upd_same rfl rfl (by decide +kernel) ?_
    have s2 := Same.new (o := .tup [.str "num", .str "copy", .str "drop", .str "say"]) hp2
    have L2 := L1.same s2
    have hd2 := s2 _ _ hd1
    have q2 := pdoQ (PRes.same L1 s2) q1
    generalize upd _ p2 (.tup [.str "num", .str "copy", .str "drop", .str "say"]) = H2 at s2 L2 hd2 q2 ⊢
    obtain ⟨dd2, dh2⟩ := L2.doer
    walk_at "rx"
    intro p3 hp3
    refine y_inT (b := true) upd_same rfl rfl (by decide +kernel) ?_
    have s3 := Same.new (o := .tup [.str "put", .str "take", .str "cut"]) hp3
    have L3 := L2.same s3
    have hd3 := s3 _ _ hd2
    have q3 := pdoQ (PRes.same L2 s3) q2
    generalize upd _ p3 (.tup [.str "put", .str "take", .str "cut"]) = H3 at s3 L3 hd3 q3 ⊢
    obtain ⟨dd3, dh3⟩ := L3.doer
    walk_at "rx"
    exact ⟨ad, M, ks, dp, (.take n m p), rfl, rfl, hd3, trivial, gd, L3, ok, hkp, sm, q3⟩
  | cut n p =>
    have hd0 : H0 dp = some (.tup [.str "cut", .str n, kV p]) := hp0
    clear hp0
    walk_at "rx"
    intro p1 hp1
    refine y_inT (b := false) upd_same rfl rfl (by decide +kernel) ?_
    have s1 := Same.new (o := .tup [.str "make", .str "watch"]) hp1
    have L1 := L0.same s1
    have hd1 := s1 _ _ hd0
    have q1 := pdoQ (PRes.same L0 s1) q0
    generalize upd _ p1 (.tup [.str "make", .str "watch"]) = H1 at s1 L1 hd1 q1 ⊢
    obtain ⟨dd1, dh1⟩ := L1.doer
    walk_at "rx"
    intro p2 hp2
    refine y_inT (b := false) upd_same rfl rfl (by decide +kernel) ?_
    have s2 := Same.new (o := .tup [.str "num", .str "copy", .str "drop", .str "say"]) hp2
    have L2 := L1.same s2
    have hd2 := s2 _ _ hd1
    have q2 := pdoQ (PRes.same L1 s2) q1
    generalize upd _ p2 (.tup [.str "num", .str "copy", .str "drop", .str "say"]) = H2 at s2 L2 hd2 q2 ⊢
    obtain ⟨dd2, dh2⟩ := L2.doer
    walk_at "rx"
    intro p3 hp3
    refine y_inT (b := true) upd_same rfl rfl (by decide +kernel) ?_
    have s3 := Same.new (o := .tup [.str "put", .str "take", .str "cut"]) hp3
    have L3 := L2.same s3
    have hd3 := s3 _ _ hd2
    have q3 := pdoQ (PRes.same L2 s3) q2
    generalize upd _ p3 (.tup [.str "put", .str "take", .str "cut"]) = H3 at s3 L3 hd3 q3 ⊢
    obtain ⟨dd3, dh3⟩ := L3.doer
    walk_at "rx"
    exact ⟨ad, M, ks, dp, (.cut n p), rfl, rfl, hd3, trivial, gd, L3, ok, hkp, sm, q3⟩
  | last n g =>
    have hd0 : H0 dp = some (.tup [.str "last", .str n, goalV g]) := hp0
    clear hp0
    walk_at "rx"
    intro p1 hp1
    refine y_inT (b := false) upd_same rfl rfl (by decide +kernel) ?_
    have s1 := Same.new (o := .tup [.str "make", .str "watch"]) hp1
    have L1 := L0.same s1
    have hd1 := s1 _ _ hd0
    have q1 := pdoQ (PRes.same L0 s1) q0
    generalize upd _ p1 (.tup [.str "make", .str "watch"]) = H1 at s1 L1 hd1 q1 ⊢
    obtain ⟨dd1, dh1⟩ := L1.doer
    walk_at "rx"
    intro p2 hp2
    refine y_inT (b := false) upd_same rfl rfl (by decide +kernel) ?_
    have s2 := Same.new (o := .tup [.str "num", .str "copy", .str "drop", .str "say"]) hp2
    have L2 := L1.same s2
    have hd2 := s2 _ _ hd1
    have q2 := pdoQ (PRes.same L1 s2) q1
    generalize upd _ p2 (.tup [.str "num", .str "copy", .str "drop", .str "say"]) = H2 at s2 L2 hd2 q2 ⊢
    obtain ⟨dd2, dh2⟩ := L2.doer
    walk_at "rx"
    intro p3 hp3
    refine y_inT (b := false) upd_same rfl rfl (by decide +kernel) ?_
    have s3 := Same.new (o := .tup [.str "put", .str "take", .str "cut"]) hp3
    have L3 := L2.same s3
    have hd3 := s3 _ _ hd2
    have q3 := pdoQ (PRes.same L2 s3) q2
    generalize upd _ p3 (.tup [.str "put", .str "take", .str "cut"]) = H3 at s3 L3 hd3 q3 ⊢
    obtain ⟨dd3, dh3⟩ := L3.doer
    walk_at "rx"
    refine y_T rfl ?_
    walk_at "rx"
    exact ⟨ad, M, ks, dp, (.last n g), rfl, rfl, hd3, trivial, gd, L3, ok, hkp, sm, q3⟩
  | ask n m =>
    have hd0 : H0 dp = some (.tup [.str "ask", .str n, .str m]) := hp0
    clear hp0
    walk_at "rx"
    intro p1 hp1
    refine y_inT (b := false) upd_same rfl rfl (by decide +kernel) ?_
    have s1 := Same.new (o := .tup [.str "make", .str "watch"]) hp1
    have L1 := L0.same s1
    have hd1 := s1 _ _ hd0
    have q1 := pdoQ (PRes.same L0 s1) q0
    generalize upd _ p1 (.tup [.str "make", .str "watch"]) = H1 at s1 L1 hd1 q1 ⊢
    obtain ⟨dd1, dh1⟩ := L1.doer
    walk_at "rx"
    intro p2 hp2
    refine y_inT (b := false) upd_same rfl rfl (by decide +kernel) ?_
    have s2 := Same.new (o := .tup [.str "num", .str "copy", .str "drop", .str "say"]) hp2
    have L2 := L1.same s2
    have hd2 := s2 _ _ hd1
    have q2 := pdoQ (PRes.same L1 s2) q1
    generalize upd _ p2 (.tup [.str "num", .str "copy", .str "drop", .str "say"]) = H2 at s2 L2 hd2 q2 ⊢
    obtain ⟨dd2, dh2⟩ := L2.doer
    walk_at "rx"
    intro p3 hp3
    refine y_inT (b := false) upd_same rfl rfl (by decide +kernel) ?_
    have s3 := Same.new (o := .tup [.str "put", .str "take", .str "cut"]) hp3
    have L3 := L2.same s3
    have hd3 := s3 _ _ hd2
    have q3 := pdoQ (PRes.same L2 s3) q2
    generalize upd _ p3 (.tup [.str "put", .str "take", .str "cut"]) = H3 at s3 L3 hd3 q3 ⊢
    obtain ⟨dd3, dh3⟩ := L3.doer
    walk_at "rx"
    refine y_F (fun z => by cases z) ?_
    walk_at "rx"
    refine y_T rfl ?_
    walk_at "rx"
    exact ⟨ad, M, ks, dp, (.ask n m), rfl, rfl, hd3, trivial, gd, L3, ok, hkp, sm, q3⟩
  | settle =>
    have hd0 : H0 dp = some (.tup [.str "settle"]) := hp0
    clear hp0
    walk_at "rx"
    intro p1 hp1
    refine y_inT (b := false) upd_same rfl rfl (by decide +kernel) ?_
    have s1 := Same.new (o := .tup [.str "make", .str "watch"]) hp1
    have L1 := L0.same s1
    have hd1 := s1 _ _ hd0
    have q1 := pdoQ (PRes.same L0 s1) q0
    generalize upd _ p1 (.tup [.str "make", .str "watch"]) = H1 at s1 L1 hd1 q1 ⊢
    obtain ⟨dd1, dh1⟩ := L1.doer
    walk_at "rx"
    intro p2 hp2
    refine y_inT (b := false) upd_same rfl rfl (by decide +kernel) ?_
    have s2 := Same.new (o := .tup [.str "num", .str "copy", .str "drop", .str "say"]) hp2
    have L2 := L1.same s2
    have hd2 := s2 _ _ hd1
    have q2 := pdoQ (PRes.same L1 s2) q1
    generalize upd _ p2 (.tup [.str "num", .str "copy", .str "drop", .str "say"]) = H2 at s2 L2 hd2 q2 ⊢
    obtain ⟨dd2, dh2⟩ := L2.doer
    walk_at "rx"
    intro p3 hp3
    refine y_inT (b := false) upd_same rfl rfl (by decide +kernel) ?_
    have s3 := Same.new (o := .tup [.str "put", .str "take", .str "cut"]) hp3
    have L3 := L2.same s3
    have hd3 := s3 _ _ hd2
    have q3 := pdoQ (PRes.same L2 s3) q2
    generalize upd _ p3 (.tup [.str "put", .str "take", .str "cut"]) = H3 at s3 L3 hd3 q3 ⊢
    obtain ⟨dd3, dh3⟩ := L3.doer
    walk_at "rx"
    refine y_F (fun z => by cases z) ?_
    walk_at "rx"
    refine y_F (fun z => by cases z) ?_
    walk_at "rx"
    refine ⟨ad, M, ks, rfl, L3, ok, hkp, fun r H4 R4 hr0 hr4 => ?_⟩
    have em : (doM M .settle).2.made = M.made := (settleF_ok ok).2
    refine q3 (.ref r) ad .non H4 ?_ ⟨r, rfl, hr4⟩ ⟨r, rfl, hr0, fun ⟨i, hi, z⟩ => L3.own.fresh (by have hi : i < 4 + 2 * (doM M .settle).2.made := hi; rw [em] at hi; exact hi) hr0 z⟩ rfl
    rw [ksOf_eq em, madeV_eq em]
    exact R4
end

section
variable {P : Program} {w : World} {K : PySem.W.Frag} {mg : Str → Option Value} {base : Heap}
abbrev spHeapInit (K : PySem.W.Frag) : Sp := Sp1 fun x H Q => ∃ (a dx : Addr), x = .ref a ∧ H a = some (.ins (He.ga K "Heap") dx []) ∧
  ∀ (n t : Addr) (H' : Hp), H n = none → H t = none → n ≠ t → (∀ b u, H b = some u → b ≠ a → H' b = some u) → H' a = some (.ins (He.ga K "Heap") dx (fs_Heap (.ref n) (.ref t) (.int 0))) → H' n = some (.dK (kvL NMS fun _ => .non)) → H' t = some (.dK []) → Q .non H'
theorem mak_Heap (T : Tx w K mg base) : Mak P w K mg base 1 "Heap" (He.ga K "Heap") (spHeapInit K) [] := by
  obtain ⟨fd, F⟩ := T.fn_Heap_init
  refine mak_of T.mk_Heap (glo_of T.k_Heap) F sc_Heap_init (F.bindsN fun _ _ _ _ _ _ us hl => match us, hl with | [_], _ => rfl) (fun vs H Q E h => h.len) (fun cdv A outer s H vs Q E hr h => ?_)
  obtain ⟨x, rfl, a, dx, rfl, ha, q⟩ := h
  have hu := hu_of hr
  have nd := sc_Heap_init.nd
  refine ⟨_, (pss_cons (ps_fld (pv 0) pe_dnewK rfl) (pss_cons (ps_for PassesOwn.never rfl (pi_str (pe_gc rfl T.k_NAMES)) (pg_name (i := 1) nd rfl (Or.inl rfl)) (pss_one (ps_dput hu (pe_fld (pv 0) rfl) (pv 1) pe_non rfl))) (pss_cons (ps_fld (pv 0) pe_dnewK rfl) (pss_one (ps_fld (pv 0) pe_int rfl))))), ?_⟩
  walk_at "sx"
  intro d hd
  walk_at "rx"
  have nad : a ≠ d := ne_of_none ha hd
  refine y_forS (fun i σ H' => ∃ u, σ = [some (.ref a), u] ∧ H' a = some (.ins (He.ga K "Heap") dx [("names", .ref d)]) ∧ H' d = some (.dK (kvL (NMS.take i) fun _ => .non)) ∧ ∀ b u, H b = some u → b ≠ a → H' b = some u)
    ⟨_, rfl, upd_same, by show _ = some (HO.dK []); walk_at "hp", fun b u e n => by rw [upd_ne n, upd_ne (ne_of_none e hd)]; exact e⟩ ?_ ?_
  · rintro i k σ H' hi ⟨u, rfl, hA, hD, hK⟩
    have hn := nms_at hi
    have il := (List.getElem?_eq_some_iff.mp hn).1
    walk_at "rx"
    have nm : (⟨#[k]⟩ : Str) ∉ NMS.take i := fun m => by
      obtain ⟨j, hj, ej⟩ := List.getElem_of_mem m
      rw [List.getElem_take] at ej
      obtain ⟨h1, h2⟩ := List.getElem?_eq_some_iff.mp hn
      have := (List.getElem_inj NMS_nd).mp (ej.trans h2.symm)
      rw [List.length_take] at hj
      omega
    refine y_dput (j := .inr ⟨#[k]⟩) hD rfl (small9000 (by unfold kvL; rw [List.length_map, List.length_take]; have : NMS.length = 8 := rfl; omega)) (kvL_snoc nm) ?_
    refine ⟨_, rfl, by rw [upd_ne nad]; exact hA, ?_, fun b u e n => by rw [upd_ne (ne_of_none e hd)]; exact hK b u e n⟩
    rw [upd_same, take_snoc hn]
  · rintro σ H' ⟨u, rfl, hA, hD, hK⟩
    walk_at "rx"
    intro t ht
    have nat_ : a ≠ t := ne_of_none hA ht
    have ndt : d ≠ t := ne_of_none hD ht
    have ht0 : H t = none := by
      cases e : H t with
      | none => rfl
      | some o => rw [hK t o e nat_.symm] at ht; cases ht
    walk_at "rx"
    refine q d t _ hd ht0 ndt (fun b u e n => ?_) upd_same ?_ ?_
    · rw [upd_ne n, upd_ne n, upd_ne (ne_of_none e ht0)]
      exact hK b u e n
    · rw [upd_ne nad.symm, upd_ne nad.symm, upd_ne ndt, hD]
      rfl
    · rw [upd_ne nat_.symm, upd_ne nat_.symm, upd_same]
abbrev spDoerInit (K : PySem.W.Frag) : Sp := Sp1 fun x H Q => ∃ (a dx : Addr), x = .ref a ∧ H a = some (.ins (He.ga K "Doer") dx []) ∧
  ∀ (ad : Nat → Addr) (H' : Hp), ad 0 = a → (∀ i, i < 4 → i ≠ 0 → H (ad i) = none) → PM K H' ad HM0 [] .non .non → (∀ b u, H b = some u → b ≠ a → H' b = some u) → Q .non H'
def ad4 (p0 p1 p2 p3 : Addr) : Nat → Addr := fun i => if i = 0 then p0 else if i = 1 then p1 else if i = 2 then p2 else p3
theorem PM_new (T : Tx w K mg base) {H : Hp} {p0 p1 p2 p3 dx0 dx1 : Addr} (n01 : p0 ≠ p1) (n02 : p0 ≠ p2) (n03 : p0 ≠ p3) (n12 : p1 ≠ p2) (n13 : p1 ≠ p3) (n23 : p2 ≠ p3) (h0 : H p0 = some (.ins (He.ga K "Doer") dx0 (fs_Doer (.ref p1) .non .non))) (h1 : H p1 = some (.ins (He.ga K "Heap") dx1 (fs_Heap (.ref p2) (.ref p3) (.int 0))))
    (h2 : H p2 = some (.dK (kvL NMS fun _ => .non))) (h3 : H p3 = some (.dK [])) : PM K H (ad4 p0 p1 p2 p3) HM0 [] .non .non := by
  have cs : ∀ i, i < 4 + 2 * HM0.made → i = 0 ∨ i = 1 ∨ i = 2 ∨ i = 3 := fun i hi => by have : HM0.made = 0 := rfl; omega
  refine ⟨⟨fun i hi => ?_, fun i j hi hj e => ?_⟩, ⟨dx0, h0⟩, ⟨dx1, h1⟩, ⟨_, h2, fun n _ => rfl⟩, h3, fun k m => (by cases m), by decide, List.Pairwise.nil, fun k m => (by cases m)⟩
  · rcases cs i hi with e | e | e | e <;> subst e
    · exact ⟨_, h0, T.ne_Doer, trivial⟩
    · exact ⟨_, h1, T.ne_Heap, trivial⟩
    · exact ⟨_, h2, trivial, trivial⟩
    · exact ⟨_, h3, trivial, trivial⟩
  · rcases cs i hi with e1 | e1 | e1 | e1 <;> rcases cs j hj with e2 | e2 | e2 | e2 <;> subst e1 <;> subst e2 <;>
      first | rfl | exact absurd e n01 | exact absurd e n02 | exact absurd e n03 | exact absurd e n12 | exact absurd e n13 | exact absurd e n23 | exact absurd e.symm n01 | exact absurd e.symm n02 | exact absurd e.symm n03 | exact absurd e.symm n12 | exact absurd e.symm n13 | exact absurd e.symm n23
theorem mak_Doer (T : Tx w K mg base) : Mak P w K mg base 3 "Doer" (He.ga K "Doer") (spDoerInit K) [] := by
  obtain ⟨fd, F⟩ := T.fn_Doer_init
  refine mak_of T.mk_Doer (glo_of T.k_Doer) F sc_Doer_init (F.bindsN fun _ _ _ _ _ _ us hl => match us, hl with | [_], _ => rfl) (fun vs H Q E h => h.len) (fun cdv A outer s H vs Q E hr h => ?_)
  obtain ⟨x, rfl, a, dx, rfl, ha, q⟩ := h
  have hu := hu_of hr
  have nd := sc_Doer_init.nd
  refine ⟨_, (pss_cons (ps_fld (pv 0) (pe_mk0 (mak_Heap T) hr (by decide) (by rfl)) rfl) (pss_cons (ps_fld (pv 0) pe_non rfl) (pss_one (ps_fld (pv 0) pe_non rfl)))), ?_⟩
  walk_at "sx"
  intro p dxp hp hdx ndx
  refine x_sm0 ⟨p, dxp, rfl, upd_same, fun n t H1 hn ht nnt hk gH gn gt => ⟨rfl, ?_⟩⟩
  have pn : p ≠ n := ne_of_none upd_same hn
  have pt : p ≠ t := ne_of_none upd_same ht
  have dn : dxp ≠ n := ne_of_none (by rw [upd_ne ndx, upd_same]) hn
  have dt : dxp ≠ t := ne_of_none (by rw [upd_ne ndx, upd_same]) ht
  have hn0 : H n = none := by rw [upd_ne pn.symm, upd_ne dn.symm] at hn; exact hn
  have ht0 : H t = none := by rw [upd_ne pt.symm, upd_ne dt.symm] at ht; exact ht
  have s1 : Same H H1 := fun b u e => hk b u (by rw [upd_ne (ne_of_none e hp), upd_ne (ne_of_none e hdx)]; exact e) (ne_of_none e hp)
  have nap : a ≠ p := ne_of_none ha hp
  have nan : a ≠ n := ne_of_none ha hn0
  have nat_ : a ≠ t := ne_of_none ha ht0
  have ha1 := s1 _ _ ha
  walk_at "rx"
  refine q (ad4 a p n t) _ rfl (fun i hi h0 => ?_) (PM_new (dx0 := dx) (dx1 := dxp) T nap nan nat_ pn pt nnt upd_same ?_ ?_ ?_) fun b u e nb => ?_
  · have cs : i = 1 ∨ i = 2 ∨ i = 3 := by omega
    rcases cs with e | e | e <;> subst e
    · exact hp
    · exact hn0
    · exact ht0
  · rw [upd_ne nap.symm, upd_ne nap.symm, upd_ne nap.symm]; exact gH
  · rw [upd_ne nan.symm, upd_ne nan.symm, upd_ne nan.symm]; exact gn
  · rw [upd_ne nat_.symm, upd_ne nat_.symm, upd_ne nat_.symm]; exact gt
  · rw [upd_ne nb, upd_ne nb, upd_ne nb]; exact s1 b u e
abbrev spPlainInit (K : PySem.W.Frag) : Sp := Sp1 fun x H Q => ∃ (a dx : Addr), x = .ref a ∧ H a = some (.ins (He.ga K "Plain") dx []) ∧
  ∀ (ad : Nat → Addr) (H' : Hp), (∀ i, i < 4 → H (ad i) = none) → PM K H' ad HM0 [] .non .non → H' a = some (.ins (He.ga K "Plain") dx (fs_Plain (.ref (ad 0)))) → (∀ b u, H b = some u → b ≠ a → H' b = some u) → Q .non H'
theorem mak_Plain (T : Tx w K mg base) : Mak P w K mg base 5 "Plain" (He.ga K "Plain") (spPlainInit K) [] := by
  obtain ⟨fd, F⟩ := T.fn_Plain_init
  refine mak_of T.mk_Plain (glo_of T.k_Plain) F sc_Plain_init (F.bindsN fun _ _ _ _ _ _ us hl => match us, hl with | [_], _ => rfl) (fun vs H Q E h => h.len) (fun cdv A outer s H vs Q E hr h => ?_)
  obtain ⟨x, rfl, a, dx, rfl, ha, q⟩ := h
  have hu := hu_of hr
  have nd := sc_Plain_init.nd
  refine ⟨_, (pss_one (ps_fld (pv 0) (pe_mk0 (mak_Doer T) hr (by decide) (by rfl)) rfl)), ?_⟩
  walk_at "sx"
  intro p dxp hp hdx ndx
  refine x_sm0 ⟨p, dxp, rfl, upd_same, fun ad H1 ea hnew L hk => ⟨rfl, ?_⟩⟩
  have s1 : Same H H1 := fun b u e => hk b u (by rw [upd_ne (ne_of_none e hp), upd_ne (ne_of_none e hdx)]; exact e) (ne_of_none e hp)
  have hnew' : ∀ i, i < 4 → H (ad i) = none := fun i hi => by
    by_cases c : i = 0
    · rw [c, ea]; exact hp
    · exact upd_none (upd_none (hnew i hi c))
  have ha1 := s1 _ _ ha
  have na : ∀ i, i < 4 → ad i ≠ a := fun i hi z => by
    have := hnew' i hi
    rw [z, ha] at this
    cases this
  walk_at "rx"
  refine q ad _ hnew' (L.keep (fun i hi o e _ => ?_) ?_) (by rw [upd_same, ea]) fun b u e n => by rw [upd_ne n]; exact s1 b u e
  · rw [upd_ne (na i (by have : HM0.made = 0 := rfl; omega))]; exact e
  · intro b dxb fs e
    rw [upd_ne]
    · exact e
    · intro z
      rw [z, ha1] at e
      have e := Option.some.inj e
      injection e with e1
      exact T.ne_Plain e1
abbrev spPlainDo (K : PySem.W.Frag) : Sp := Sp2 fun x y H Q => ∃ (a dx : Addr) (ad : Nat → Addr) (M : HM) (ks : List Nat) (vm vw : V) (dp : Addr) (d : Deed), x = .ref a ∧ H a = some (.ins (He.ga K "Plain") dx (fs_Plain (.ref (ad 0)))) ∧ y = .ref dp ∧ H dp = some (.tup (deedV d)) ∧ Good d ∧ PM K H ad M ks vm vw ∧ M.Ok ∧ KeptIn M ks ∧ M.made < 9000 ∧
  ∀ (v : V) (ad' : Nat → Addr) (vw' : V) (H' : Hp), PRes K H ad M H' ad' (doM M d).2 (ksOf M d ks) (madeV M d) vw' → TD H' v (doM M d).1 → TFresh H (PF ad' (doM M d).2) v (doM M d).1 → WV K H' vw' (wrOf M d) → Q v H'
theorem met_Plain_do (T : Tx w K mg base) : Met P w K mg base 9 (He.ga K "Plain") "do" (spPlainDo K) [] := by
  obtain ⟨fd, F⟩ := T.fn_Plain_do
  refine met_of T.cl_Plain T.me_Plain_do F sc_Plain_do (F.bindsN fun _ _ _ _ _ _ us hl => match us, hl with | [_, _], _ => rfl) (fun vs H Q E h => h.len) (fun cdv A outer s H vs Q E hr h => ?_)
  obtain ⟨x, y, rfl, a, dx, ad, M, ks, vm, vw, dp, d, rfl, ha, rfl, hp, gd, L, ok, hkp, sm, q⟩ := h
  have hu := hu_of hr
  have nd := sc_Plain_do.nd
  refine ⟨_, (pss_cons (ps_expr (pe_c (cal_need_deed T) hr (by decide) (by rfl) (pa_cons (pv 1) pa_nil))) (pss_one (ps_ret (pe_mt (met_Doer_do T) hr (by decide) (pe_fld (pv 0) rfl) (pa_cons (pv 1) pa_nil))))), ?_⟩
  walk_at "sx"
  refine ⟨dp, d, rfl, hp, gd, fun H1 s1 => ?_⟩
  have ha1 := s1 _ _ ha
  have L1 := L.same s1
  obtain ⟨dx0, h0⟩ := L1.doer
  walk_at "rx"
  exact ⟨ad, M, ks, vm, vw, dp, d, rfl, rfl, s1 _ _ hp, gd, L1, ok, hkp, sm, pdoQ (PRes.same L s1) q⟩
end

section
variable {P : Program} {w : World} {K : PySem.W.Frag} {mg : Str → Option Value} {base : Heap}
theorem doM_made {M : HM} (ok : M.Ok) {d : Deed} : (doM M d).2.made = M.made ∨ (doM M d).2.made = M.made + 1 := by
  cases d with
  | make n k => exact .inr rfl
  | num n i => exact .inl rfl
  | copy n m => exact .inl rfl
  | drop n => exact .inl rfl
  | say n => exact .inl rfl
  | settle => exact .inl (settleF_ok ok).2
  | watch n m =>
    cases e : M.names m with
    | th k => exact .inr (by rw [doM_watch e]; rfl)
    | non => exact .inl (by rw [doM_watch0 ok (by unfold HM.thOf; rw [e])])
    | num i => exact .inl (by rw [doM_watch0 ok (by unfold HM.thOf; rw [e])])
  | put n p m =>
    cases e : M.thOf n with
    | none => exact .inl (by rw [doM_put0 e])
    | some kt =>
      rw [doM_put e]
      split <;> exact .inl rfl
  | take n m p =>
    cases e : M.thOf m with
    | none => exact .inl (by rw [doM_take0 e])
    | some kt =>
      cases h : hget kt.2.held p with
      | none => exact .inl (by rw [doM_take1 e h])
      | some a => exact .inl (by rw [doM_take2 e h]; rfl)
  | cut n p =>
    cases e : M.thOf n with
    | none => exact .inl (by rw [doM_cut0 e])
    | some kt =>
      rw [doM_cut e]
      split <;> exact .inl rfl
  | last n g =>
    cases e : M.thOf n with
    | none => exact .inl (by rw [doM_last0 e])
    | some kt =>
      rw [doM_last e]
      split <;> exact .inl rfl
  | ask n m =>
    cases e : M.thOf m with
    | none => exact .inl (by rw [doM_ask0 e])
    | some kt =>
      obtain ⟨k, t⟩ := kt
      obtain ⟨en, et, ot, lk⟩ := thOf_some ok e
      by_cases c : t.kind = WATCH
      · obtain ⟨t', et', _⟩ := ok.tellM.get (M := M.tellM) (k := k) lk
        obtain ⟨s, es, _⟩ := (ot.wat c).2.1
        rw [doM_ask2 e c et' ((tell_thing et et').2.1.trans es)]
        exact .inl rfl
      · rw [doM_ask1 e c]
        exact .inl rfl
theorem kept_lt {M : HM} (ok : M.Ok) : KeptIn M (List.range M.made) := fun k h => List.mem_range.mpr (RC_lt ok (fun k z => z.elim (root_lt ok k) fun ⟨t, et, _⟩ => ok.lt et) h)
theorem ksOf_range {M : HM} (ok : M.Ok) {d : Deed} : ksOf M d (List.range M.made) = List.range (doM M d).2.made := by
  rcases doM_made ok (d := d) with e | e
  · rw [ksOf_eq e, e]
  · rw [ksOf_ne e, e, List.range_succ]
noncomputable def telF : HM → List Deed → List Tell
  | _, [] => []
  | M, d :: ds => (doM M d).1 :: telF (doM M d).2 ds
noncomputable def stF (M : HM) (ds : List Deed) : HM := ds.foldl (fun M d => (doM M d).2) M
theorem telF_snoc {d : Deed} : ∀ {ds : List Deed} {M : HM}, telF M (ds ++ [d]) = telF M ds ++ [(doM (stF M ds) d).1]
  | [], _ => rfl
  | e :: ds, M => by
    show (doM M e).1 :: telF (doM M e).2 (ds ++ [d]) = _
    rw [telF_snoc]
    rfl
theorem stF_snoc {M : HM} {ds : List Deed} {d : Deed} : stF M (ds ++ [d]) = (doM (stF M ds) d).2 := by unfold stF; rw [List.foldl_append]; rfl
theorem stF_ok : ∀ {ds : List Deed} {M : HM}, M.Ok → (∀ d ∈ ds, Good d) → (stF M ds).Ok ∧ (stF M ds).made ≤ M.made + ds.length
  | [], M, ok, _ => ⟨ok, Nat.le_refl _⟩
  | d :: ds, M, ok, g => by
    have r := stF_ok (ds := ds) (doM_ok ok (g d (List.mem_cons_self ..))) fun d m => g d (List.mem_cons_of_mem _ m)
    refine ⟨r.1, ?_⟩
    have : (stF M (d :: ds)).made ≤ (doM M d).2.made + ds.length := r.2
    rw [List.length_cons]
    rcases doM_made ok (d := d) with e | e <;> omega
/-- what was told, kept beside the heap -/
def TDx (H0 H : Hp) (F : Addr → Prop) (v : V) : Tell → Prop
  | .list ns => ∃ p, v = .ref p ∧ H p = some (.lst (intsV ns)) ∧ H0 p = none ∧ ¬ F p
  | .v a => LV H v a
  | .no => v = .str "no"
theorem TDx.td {H0 H : Hp} {F : Addr → Prop} {v : V} {t : Tell} (h : TDx H0 H F v t) : TD H v t := by
  cases t with
  | v a => exact h
  | no => exact h
  | list ns => obtain ⟨p, e1, e2, _⟩ := h; exact ⟨p, e1, e2⟩
/-- the heap goes on: what was told stays, if it lies beside what changes -/
theorem TDx.fr {H0 H H1 : Hp} {F F1 G : Addr → Prop} {v : V} {t : Tell} (h : TDx H0 H F v t) (f : Fr K G H H1) (hg : ∀ b, G b → F b) (hn : ∀ b, F1 b → F b ∨ H b = none) : TDx H0 H1 F1 v t := by
  cases t with
  | v a => exact LV.mono h f.i
  | no => exact h
  | list ns =>
    obtain ⟨p, e1, e2, e3, e4⟩ := h
    exact ⟨p, e1, f.lst e2 (fun z => e4 (hg p z)), e3, fun z => (hn p z).elim e4 fun y => by rw [e2] at y; cases y⟩
theorem TDx.of {H0 H H1 : Hp} {F : Addr → Prop} {v : V} {t : Tell} (h : TD H1 v t) (g : TFresh H F v t) (kp : ∀ x, H x = none → H0 x = none) : TDx H0 H1 F v t := by
  cases t with
  | v a => exact h
  | no => exact h
  | list ns =>
    obtain ⟨p, e1, e2⟩ := h
    obtain ⟨p', e3, e4, e5⟩ := g
    rw [e1] at e3
    cases e3
    exact ⟨p, e1, e2, kp p e4, e5⟩
structure RunI (K : PySem.W.Frag) (H0 H : Hp) (G : Addr → Prop) (ad : Nat → Addr) (ds : List Deed) (vm vw : V) (acc : List V) : Prop where
  pm : PM K H ad (stF HM0 ds) (List.range (stF HM0 ds).made) vm vw
  nw : ∀ b, PF ad (stF HM0 ds) b → H0 b = none
  fr : Fr K NoF H0 H
  kp : ∀ x, H x = none → H0 x = none
  live : ∀ b, G b → H b ≠ none ∧ ¬ PF ad (stF HM0 ds) b
  td : Paired (TDx H0 H (fun b => PF ad (stF HM0 ds) b ∨ G b)) acc (telF HM0 ds)
theorem RunI.step {H0 H H1 : Hp} {G : Addr → Prop} {ad ad1 : Nat → Addr} {ds : List Deed} {d : Deed} {vm vw vm1 vw1 v : V} {acc : List V} (I : RunI K H0 H G ad ds vm vw acc) (ok : (stF HM0 ds).Ok) (R : PRes K H ad (stF HM0 ds) H1 ad1 (doM (stF HM0 ds) d).2 (ksOf (stF HM0 ds) d (List.range (stF HM0 ds).made)) vm1 vw1)
    (h1 : TD H1 v (doM (stF HM0 ds) d).1) (h2 : TFresh H (PF ad1 (doM (stF HM0 ds) d).2) v (doM (stF HM0 ds) d).1) (hG : ∀ b, G b → ∃ o, H b = some o ∧ notTbl o) : RunI K H0 H1 G ad1 (ds ++ [d]) vm1 vw1 (acc ++ [v]) := by
  have e := stF_snoc (M := HM0) (ds := ds) (d := d)
  refine ⟨?_, fun b h => ?_, ?_, fun x h => I.kp x (R.kp x h), fun b g => ?_, ?_⟩
  · rw [e, ← ksOf_range ok]; exact R.pm
  · rw [e] at h
    exact (R.new b h).elim (I.nw b) (I.kp b)
  · exact I.fr.trans R.fr fun b h => .inr (I.nw b h)
  · obtain ⟨o, ho, nt⟩ := hG b g
    refine ⟨fun z => I.live b g |>.1 (R.kp b z), ?_⟩
    rw [e]
    exact fun h => (R.new b h).elim (I.live b g).2 fun z => (I.live b g).1 z
  · rw [telF_snoc]
    refine Paired.app (Paired.mapP I.td fun _ _ z => z.fr R.fr (fun b h => .inl h) fun b h => ?_) (TDx.of h1 ?_ I.kp)
    · rw [e] at h
      exact h.elim (fun h => (R.new b h).imp .inl id) fun h => .inl (.inr h)
    · rw [e]
      cases q : (doM (stF HM0 ds) d).1 with
      | v a => trivial
      | no => trivial
      | list ns =>
        rw [q] at h2
        obtain ⟨p, e1, e2, e3⟩ := h2
        exact ⟨p, e1, e2, fun z => z.elim e3 fun g => (I.live p g).1 e2⟩
/-- something else is put where only the loop looks -/
theorem RunI.put {H0 H : Hp} {G : Addr → Prop} {ad : Nat → Addr} {ds : List Deed} {vm vw : V} {acc : List V} {D : Addr} {xs ys : List V} (I : RunI K H0 H G ad ds vm vw acc) (hD : G D) (hl : H D = some (.lst xs)) (h0 : H0 D = none) : RunI K H0 (upd H D (.lst ys)) G ad ds vm vw acc := by
  have nD := (I.live D hD).2
  have f : Fr K (fun b => b = D) H (upd H D (.lst ys)) := Fr.upd rfl (by rw [hl]; trivial)
  refine ⟨I.pm.fr f fun b h z => nD (z ▸ h), I.nw, fr_fresh I.fr h0 (by rw [hl]; trivial), fun x h => I.kp x (upd_none h), fun b g => ⟨fun z => (I.live b g).1 (upd_none z), (I.live b g).2⟩, Paired.mapP I.td fun _ _ z => z.fr f (fun b e => .inr (e ▸ hD)) fun b h => .inl h⟩
abbrev spRun (K : PySem.W.Frag) : Sp := Sp1 fun x H Q => ∃ (l : Addr) (ps : List Addr) (ds : List Deed), x = .ref l ∧ PL H l ps ds ∧ ds.length ≤ 120 ∧
  ∀ (r : Addr) (vs : List V) (H' : Hp), H r = none → H' r = some (.lst vs) → Paired (TDx H H' (fun b => b = r)) vs (telF HM0 ds) → Fr K NoF H H' → (∀ x, H' x = none → H x = none) → Q (.ref r) H'
end

section
variable {P : Program} {w : World} {K : PySem.W.Frag} {mg : Str → Option Value} {base : Heap}
/-- the law's own things: what is drawn from, its heap, the program, what is due -/
structure LawI (K : PySem.W.Frag) (H : Hp) (ah ac pa da : Addr) (ad : Nat → Addr) (ps : List Addr) (ds : List Deed) (vs : List V) : Prop where
  hs : HS H ah ac
  lm : LM K H ad (stF HM0 ds)
  pl : PL H pa ps ds
  du : H da = some (.lst vs)
  td : Paired (TDx (fun _ => none) H (fun b => LF ad (stF HM0 ds) b ∨ FH ah ac b ∨ b = pa ∨ b = da)) vs (telF HM0 ds)
  out : ∀ b, LF ad (stF HM0 ds) b → ¬ FH ah ac b ∧ b ≠ pa ∧ b ≠ da
  nep : ¬ FH ah ac pa
  ned : ¬ FH ah ac da
  npd : pa ≠ da
  tb : LamX.Tabs (TTs K) H
theorem PL.fr {H H' : Hp} {F : Addr → Prop} {l : Addr} {ps : List Addr} {ds : List Deed} (h : PL H l ps ds) (f : Fr K F H H') (n : ¬ F l) : PL H' l ps ds := ⟨f.lst h.1 n, Paired.mapP h.2 fun _ _ z => ⟨f.i _ _ z.1, z.2⟩⟩
theorem PL.good {H : Hp} {l : Addr} {ps : List Addr} {ds : List Deed} (h : PL H l ps ds) : ∀ d ∈ ds, Good d := fun d m => by
  obtain ⟨i, hi⟩ := List.mem_iff_getElem?.mp m
  obtain ⟨p, _, h⟩ := paired_getR h.2 hi
  exact h.2
theorem HS.live {H : Hp} {ah ac : Addr} (h : HS H ah ac) {b : Addr} (f : FH ah ac b) : ∃ xs, H b = some (.lst xs) := by
  obtain ⟨⟨x, z, ns, h1, h2, h3, h4, h5, h6⟩, ne⟩ := h
  rcases f with e | e
  · exact ⟨_, e ▸ h1⟩
  · exact ⟨_, e ▸ h5⟩
section
variable {H H' : Hp} {ah ac pa da : Addr} {ad : Nat → Addr} {ps : List Addr} {ds : List Deed} {vs : List V}
/-- a draw -/
theorem LawI.draw (I : LawI K H ah ac pa da ad ps ds vs) (hs : HS H' ah ac) (f : Fr K (FH ah ac) H H') : LawI K H' ah ac pa da ad ps ds vs :=
  ⟨hs, I.lm.fr f fun b h => (I.out b h).1, I.pl.fr f I.nep, f.lst I.du I.ned, Paired.mapP I.td fun _ _ z => z.fr f (fun b h => .inr (.inl h)) fun b h => .inl h, I.out, I.nep, I.ned, I.npd, f.t I.tb⟩
theorem LawI.nof (I : LawI K H ah ac pa da ad ps ds vs) (f : Fr K NoF H H') : LawI K H' ah ac pa da ad ps ds vs := I.draw (I.hs.fr f (fun z => z) fun z => z) (f.mono fun _ z => z.elim)
theorem LawI.same (I : LawI K H ah ac pa da ad ps ds vs) (s : Same H H') : LawI K H' ah ac pa da ad ps ds vs := I.nof (Fr.same s)
theorem TDx.one {H0 H : Hp} {F : Addr → Prop} {v : V} {t : Tell} {a : Addr} {o : HO} (h : TDx H0 H F v t) (ha : F a) (c : Chg K (H a)) : TDx H0 (upd H a o) F v t := h.fr (Fr.upd (K := K) (F := fun b => b = a) rfl c) (fun b e => e ▸ ha) fun b h => .inl h
/-- one deed more: drawn, put into the program, done, what it tells put behind what is due -/
theorem LawI.step {H2 : Hp} {ad2 : Nat → Addr} {r : Addr} {d : Deed} {v : V} (I : LawI K H ah ac pa da ad ps ds vs) (gd : Good d) (hr : H r = some (.tup (deedV d)))
    (L2 : LM K H2 ad2 (doM (stF HM0 ds) d).2) (nw : New (upd H pa (.lst ((ps ++ [r]).map V.ref))) (LF ad (stF HM0 ds)) (LF ad2 (doM (stF HM0 ds) d).2)) (f : Fr K (LF ad (stF HM0 ds)) (upd H pa (.lst ((ps ++ [r]).map V.ref))) H2) (h1 : TD H2 v (doM (stF HM0 ds) d).1)
    (h2 : TNew (upd H pa (.lst ((ps ++ [r]).map V.ref))) (LF ad2 (doM (stF HM0 ds) d).2) v (doM (stF HM0 ds) d).1) : H2 da = some (.lst vs) ∧ LawI K (upd H2 da (.lst (vs ++ [v]))) ah ac pa da ad2 (ps ++ [r]) (ds ++ [d]) (vs ++ [v]) := by
  have cp : Chg K (H pa) := by rw [I.pl.1]; trivial
  have fp : Fr K (fun b => b = pa) H (upd H pa (.lst ((ps ++ [r]).map V.ref))) := Fr.upd rfl cp
  have l1 : ∀ b o, H b = some o → b ≠ pa → upd H pa (.lst ((ps ++ [r]).map V.ref)) b = some o := fun b o e n => by rw [upd_ne n]; exact e
  have hp1 : upd H pa (.lst ((ps ++ [r]).map V.ref)) pa = some (.lst ((ps ++ [r]).map V.ref)) := upd_same
  have hs1 : HS (upd H pa (.lst ((ps ++ [r]).map V.ref))) ah ac := I.hs.fr fp (fun z => I.nep (.inl z.symm)) fun z => I.nep (.inr z.symm)
  have du1 := l1 _ _ I.du I.npd.symm
  have hr1 := fp.i _ _ hr
  have pl1 : Paired (fun (p : Addr) (d : Deed) => upd H pa (.lst ((ps ++ [r]).map V.ref)) p = some (.tup (deedV d)) ∧ Good d) (ps ++ [r]) (ds ++ [d]) := Paired.app (Paired.mapP I.pl.2 fun _ _ z => ⟨fp.i _ _ z.1, z.2⟩) ⟨hr1, gd⟩
  have td1 : Paired (TDx (fun _ => none) (upd H pa (.lst ((ps ++ [r]).map V.ref))) (fun b => LF ad (stF HM0 ds) b ∨ FH ah ac b ∨ b = pa ∨ b = da)) vs (telF HM0 ds) := Paired.mapP I.td fun _ _ z => z.one (.inr (.inr (.inl rfl))) cp
  have tb1 := fp.t I.tb
  generalize upd H pa (.lst ((ps ++ [r]).map V.ref)) = H1 at nw f h2 fp hp1 hs1 du1 hr1 pl1 td1 tb1
  have e := stF_snoc (M := HM0) (ds := ds) (d := d)
  have o := I.out
  have nl : ∀ b, FH ah ac b → ¬ LF ad (stF HM0 ds) b := fun b h z => (o b z).1 h
  have out2 : ∀ b, LF ad2 (doM (stF HM0 ds) d).2 b → ¬ FH ah ac b ∧ b ≠ pa ∧ b ≠ da := fun b h => by
    rcases nw b h with h | h
    · exact o b h
    · refine ⟨fun z => ?_, fun z => ?_, fun z => ?_⟩
      · obtain ⟨xs, e⟩ := hs1.live z
        rw [h] at e; cases e
      · rw [z, hp1] at h; cases h
      · rw [z, du1] at h; cases h
  have du2 := f.lst du1 fun z => (o _ z).2.2 rfl
  have hp2 := f.lst hp1 fun z => (o _ z).2.1 rfl
  have hs2 := hs1.fr f (fun z => (o _ z).1 (.inl rfl)) fun z => (o _ z).1 (.inr rfl)
  have tb2 := f.t tb1
  refine ⟨du2, ?_⟩
  have cd : Chg K (H2 da) := by rw [du2]; trivial
  have fd : Fr K (fun b => b = da) H2 (upd H2 da (.lst (vs ++ [v]))) := Fr.upd rfl cd
  refine ⟨hs2.fr fd (fun z => I.ned (.inl z.symm)) (fun z => I.ned (.inr z.symm)), ?_, ⟨by rw [upd_ne I.npd]; exact hp2, Paired.mapP pl1 fun _ _ z => ⟨fd.i _ _ (f.i _ _ z.1), z.2⟩⟩, upd_same, ?_, ?_, I.nep, I.ned, I.npd, fd.t tb2⟩
  · rw [e]
    exact L2.fr fd fun b h z => (out2 b h).2.2 z
  · rw [telF_snoc, e]
    have td2 : Paired (TDx (fun _ => none) H2 (fun b => LF ad2 (doM (stF HM0 ds) d).2 b ∨ FH ah ac b ∨ b = pa ∨ b = da)) vs (telF HM0 ds) := Paired.mapP td1 fun _ _ z => z.fr f (fun b h => .inl h) fun b h => by
      rcases h with h | h
      · exact (nw b h).imp .inl id
      · exact .inl (.inr h)
    refine Paired.app (Paired.mapP td2 fun _ _ z => z.one (.inr (.inr (.inr rfl))) cd) ?_
    have tv : TDx (fun _ => none) H2 (fun b => LF ad2 (doM (stF HM0 ds) d).2 b ∨ FH ah ac b ∨ b = pa ∨ b = da) v (doM (stF HM0 ds) d).1 := by
      cases q : (doM (stF HM0 ds) d).1 with
      | v a => rw [q] at h1; exact h1
      | no => rw [q] at h1; exact h1
      | list ns =>
        rw [q] at h1 h2
        obtain ⟨p, e1, e2⟩ := h1
        obtain ⟨p', e3, e4, e5⟩ := h2
        rw [e1] at e3
        cases e3
        refine ⟨p, e1, e2, rfl, fun z => ?_⟩
        rcases z with z | z | z | z
        · exact e5 z
        · obtain ⟨xs, e⟩ := hs1.live z
          exact e4.ne e trivial rfl
        · exact e4.ne hp1 trivial z.symm
        · exact e4.ne du1 trivial z.symm
    exact tv.one (.inr (.inr (.inr rfl))) cd
  · rw [e]; exact out2
end
/-! ### deeds as data -/
def atD : V → PyData
  | .bl b => .bool b
  | .int i => .int i
  | .str s => .str s
  | _ => .none
def deedD (d : Deed) : PyData := .tuple ((deedV d).map atD)
theorem flat_deed (d : Deed) : (deedV d).all flat4 = true := by
  cases d with
  | put n p m => cases p <;> rfl
  | take n m p => cases p <;> rfl
  | cut n p => cases p <;> rfl
  | last n g => cases g <;> rfl
  | _ => rfl
theorem dp_flat {H : Hp} {v : V} (h : flat4 v = true) : Dp K H v (atD v) := by
  cases v with
  | non => exact .non
  | bl b => exact .bl b
  | int i => exact .int i
  | str s => exact .str s
  | _ => cases h
theorem dp_flats {H : Hp} : ∀ {vs : List V}, vs.all flat4 = true → DpAll K H vs (vs.map atD)
  | [], _ => .nil
  | v :: vs, h => by
    rw [List.all_cons, Bool.and_eq_true] at h
    exact .cons (dp_flat h.1) (dp_flats h.2)
theorem dp_deed {H : Hp} {p : Addr} {d : Deed} (h : H p = some (.tup (deedV d))) : Dp K H (.ref p) (deedD d) := .tup (sqT h) (dp_flats (flat_deed d))
theorem depth_at (v : V) : (atD v).depth = 0 := by cases v <;> rfl
theorem depth_ats : ∀ vs : List V, PyData.depthAll (vs.map atD) = 0
  | [] => rfl
  | v :: vs => by
    show max (PyData.depth (atD v)) (PyData.depthAll (vs.map atD)) = 0
    rw [depth_ats vs, depth_at]; rfl
theorem lay_nms : ∀ n ∈ NMS, PyData.canLay0 (.str n) = true := by decide +kernel
theorem lay_kds : ∀ n ∈ KDS, PyData.canLay0 (.str n) = true := by decide +kernel
theorem lay_lts : ∀ n ∈ LTS, PyData.canLay0 (.str n) = true := by decide +kernel
theorem lay_part {p : Key} (h : GoodP p) : PyData.canLay0 (atD (kV p)) = true := by
  cases p with
  | inl i => rfl
  | inr s => exact lay_lts s h
theorem lay_goal {g : Option Str} (h : GoodG g) : PyData.canLay0 (atD (goalV g)) = true := by
  cases g with
  | none => rfl
  | some s => exact lay_nms s h
theorem layAll_cons {d : PyData} {ds : List PyData} (h1 : d.canLay0 = true) (h2 : PyData.canLayAll0 ds = true) : PyData.canLayAll0 (d :: ds) = true := by
  show (PyData.canLay0 d && PyData.canLayAll0 ds) = true
  rw [h1, h2]; rfl
theorem lay_deed {d : Deed} (g : Good d) : (deedD d).canLay0 = true := by
  show PyData.canLayAll0 ((deedV d).map atD) = true
  cases d with
  | make n k => exact layAll_cons (by decide +kernel) (layAll_cons (lay_nms n g.1) (layAll_cons (lay_kds k g.2) rfl))
  | num n i => exact layAll_cons (by decide +kernel) (layAll_cons (lay_nms n g.1) rfl)
  | copy n m => exact layAll_cons (by decide +kernel) (layAll_cons (lay_nms n g.1) (layAll_cons (lay_nms m g.2) rfl))
  | drop n => exact layAll_cons (by decide +kernel) (layAll_cons (lay_nms n g) rfl)
  | put n p m => exact layAll_cons (by decide +kernel) (layAll_cons (lay_nms n g.1) (layAll_cons (lay_part g.2.1) (layAll_cons (lay_nms m g.2.2) rfl)))
  | take n m p => exact layAll_cons (by decide +kernel) (layAll_cons (lay_nms n g.1) (layAll_cons (lay_nms m g.2.1) (layAll_cons (lay_part g.2.2) rfl)))
  | cut n p => exact layAll_cons (by decide +kernel) (layAll_cons (lay_nms n g.1) (layAll_cons (lay_part g.2) rfl))
  | watch n m => exact layAll_cons (by decide +kernel) (layAll_cons (lay_nms n g.1) (layAll_cons (lay_nms m g.2) rfl))
  | last n gl => exact layAll_cons (by decide +kernel) (layAll_cons (lay_nms n g.1) (layAll_cons (lay_goal g.2) rfl))
  | ask n m => exact layAll_cons (by decide +kernel) (layAll_cons (lay_nms n g.1) (layAll_cons (lay_nms m g.2) rfl))
  | settle => exact layAll_cons (by decide +kernel) rfl
  | say n => exact layAll_cons (by decide +kernel) (layAll_cons (lay_nms n g) rfl)
theorem lay_prog : ∀ {ds : List Deed}, (∀ d ∈ ds, Good d) → PyData.canLayAll0 (ds.map deedD) = true
  | [], _ => rfl
  | d :: ds, h => layAll_cons (lay_deed (h d (List.mem_cons_self ..))) (lay_prog fun d m => h d (List.mem_cons_of_mem _ m))
theorem depth_prog : ∀ {ds : List Deed}, PyData.depthAll (ds.map deedD) ≤ 1
  | [] => Nat.zero_le _
  | d :: ds => by
    show max (PyData.depth (deedD d)) (PyData.depthAll (ds.map deedD)) ≤ 1
    have h : PyData.depth (deedD d) = 1 := by show PyData.depthAll ((deedV d).map atD) + 1 = 1; rw [depth_ats]
    have := depth_prog (ds := ds)
    omega
theorem shaped_prog {ds : List Deed} (h : ∀ d ∈ ds, Good d) : SeqAt.shaped (.list (ds.map deedD)) = true := by
  unfold SeqAt.shaped
  rw [show PyData.canLay0 (.list (ds.map deedD)) = true from lay_prog h]
  have : PyData.depth (.list (ds.map deedD)) ≤ 64 := by
    show PyData.depthAll (ds.map deedD) + 1 ≤ 64
    have := depth_prog (ds := ds)
    omega
  rw [decide_eq_true this]
  rfl
theorem dp_progs {H : Hp} : ∀ {ps : List Addr} {ds : List Deed}, Paired (fun (p : Addr) (d : Deed) => H p = some (.tup (deedV d)) ∧ Good d) ps ds → DpAll K H (ps.map V.ref) (ds.map deedD)
  | _, _, .nil => .nil
  | _, _, .cons h r => .cons (dp_deed h.1) (dp_progs r)
theorem dp_prog {H : Hp} {l : Addr} {ps : List Addr} {ds : List Deed} (h : PL H l ps ds) : Dp K H (.ref l) (.list (ds.map deedD)) := .lst (sqL h.1) (dp_progs h.2)
/-- two lists of the same deeds are the same -/
theorem y_neProg {H : Hp} {Q : VK} {l1 l2 : Addr} {ps qs : List Addr} {ds : List Deed} (h1 : PL H l1 ps ds) (h2 : PL H l2 qs ds) (q : Q (.bl false) H) : rNeD K (.ref l1) (.ref l2) H Q :=
  ⟨_, _, dp_prog h1, dp_prog h2, shaped_prog h1.good, shaped_prog h2.good, by rw [SeqAt.eqv_refl _ (show PyData.canLay0 (.list (ds.map deedD)) = true from lay_prog h1.good)]; exact q⟩
/-! ### what was told is alike -/
theorem AL_LV {H : Hp} {x y : V} {a : AV} (h1 : LV H x a) (h2 : LV H y a) {n : Nat} : AL H (n + 1) x y := by
  cases a with
  | non =>
    obtain rfl := (show x = .non from h1)
    obtain rfl := (show y = .non from h2)
    exact .inl ⟨rfl, rfl⟩
  | num i =>
    obtain rfl := (show x = .int i from h1)
    obtain rfl := (show y = .int i from h2)
    exact .inl ⟨rfl, rfl⟩
  | th k =>
    obtain ⟨p, rfl, hp⟩ := h1
    obtain ⟨q, rfl, hq⟩ := h2
    refine .inr ⟨p, q, _, _, rfl, rfl, .inl ⟨hp, hq⟩, by simp, ?_⟩
    have f : ∀ v, flat4 v = true → AL H n v v := fun v hv => by
      cases n with
      | zero => exact ⟨rfl, hv⟩
      | succ n => exact .inl ⟨rfl, hv⟩
    exact .cons (f _ rfl) (.cons (f _ rfl) .nil)
theorem AL_ints {H : Hp} {n : Nat} : ∀ ns : List Nat, Paired (AL H n) (intsV ns) (intsV ns)
  | [] => .nil
  | k :: ns => .cons (by cases n with | zero => exact ⟨rfl, rfl⟩ | succ n => exact .inl ⟨rfl, rfl⟩) (AL_ints ns)
theorem AL_TD {H : Hp} {x y : V} {t : Tell} (h1 : TD H x t) (h2 : TD H y t) (hl : ∀ ns, t = .list ns → ns.length ≤ 9000) {n : Nat} : AL H (n + 1) x y := by
  cases t with
  | v a => exact AL_LV h1 h2
  | no =>
    obtain rfl := (show x = .str "no" from h1)
    obtain rfl := (show y = .str "no" from h2)
    exact .inl ⟨rfl, rfl⟩
  | list ns =>
    obtain ⟨p, rfl, hp⟩ := h1
    obtain ⟨q, rfl, hq⟩ := h2
    exact .inr ⟨p, q, _, _, rfl, rfl, .inr ⟨hp, hq⟩, by rw [intsV_len]; exact hl ns rfl, AL_ints ns⟩
theorem AL_tells {H : Hp} {n : Nat} : ∀ {xs ys : List V} {ts : List Tell}, Paired (TD H) xs ts → Paired (TD H) ys ts → (∀ ns, Tell.list ns ∈ ts → ns.length ≤ 9000) → Paired (AL H (n + 1)) xs ys
  | _, _, _, .nil, .nil, _ => .nil
  | _, _, _, .cons a r, .cons b s, h => .cons (AL_TD a b fun ns e => h ns (e ▸ List.mem_cons_self ..)) (AL_tells r s fun ns m => h ns (List.mem_cons_of_mem _ m))
theorem settle_len : ∀ {n : Nat} {M : HM}, M.Ok → (HM.settleF n M).1.length ≤ dueN M
  | 0, _, _ => Nat.zero_le _
  | n + 1, M, ok => by
    rw [settleF_succ]
    by_cases c : M.tellM.lost = []
    · rw [if_pos c]; exact Nat.zero_le _
    · rw [if_neg c]
      have okf := foldl_last1 (l := M.tellM.lost) ok.tellM
      have r := settle_len (n := n) okf.1
      have hml : ∀ k ∈ M.tellM.lost, k < M.tellM.made ∧ M.tellM.isDue k := fun k m => ⟨(mem_lost.mp m).1, (mem_lost.mp m).2.1⟩
      have := due_add hml lost_nodup okf.2
      rw [dueN_tell] at this
      show (M.tellM.lost ++ _).length ≤ _
      rw [List.length_append]
      omega
theorem tell_len {M : HM} (ok : M.Ok) {d : Deed} {ns : List Nat} (e : (doM M d).1 = .list ns) : ns.length ≤ M.made := by
  cases d with
  | settle =>
    have e : Tell.list M.settle.1 = .list ns := e
    cases e
    exact Nat.le_trans (settle_len ok) dueN_le
  | make n k => cases e
  | num n i => cases e
  | copy n m => cases e
  | drop n => cases e
  | say n => cases e
  | watch n m =>
    exfalso
    cases q : M.names m with
    | th k => rw [doM_watch q] at e; cases e
    | non => rw [doM_watch0 ok (by unfold HM.thOf; rw [q])] at e; cases e
    | num i => rw [doM_watch0 ok (by unfold HM.thOf; rw [q])] at e; cases e
  | put n p m =>
    exfalso
    cases q : M.thOf n with
    | none => rw [doM_put0 q] at e; cases e
    | some kt => rw [doM_put q] at e; split at e <;> cases e
  | take n m p =>
    exfalso
    cases q : M.thOf m with
    | none => rw [doM_take0 q] at e; cases e
    | some kt =>
      cases h : hget kt.2.held p with
      | none => rw [doM_take1 q h] at e; cases e
      | some a => rw [doM_take2 q h] at e; cases e
  | cut n p =>
    exfalso
    cases q : M.thOf n with
    | none => rw [doM_cut0 q] at e; cases e
    | some kt => rw [doM_cut q] at e; split at e <;> cases e
  | last n g =>
    exfalso
    cases q : M.thOf n with
    | none => rw [doM_last0 q] at e; cases e
    | some kt => rw [doM_last q] at e; split at e <;> cases e
  | ask n m =>
    exfalso
    cases q : M.thOf m with
    | none => rw [doM_ask0 q] at e; cases e
    | some kt =>
      obtain ⟨k, t⟩ := kt
      obtain ⟨en, et, ot, lk⟩ := thOf_some ok q
      by_cases c : t.kind = WATCH
      · obtain ⟨t', et', _⟩ := ok.tellM.get (M := M.tellM) (k := k) lk
        obtain ⟨s, es, _⟩ := (ot.wat c).2.1
        rw [doM_ask2 q c et' ((tell_thing et et').2.1.trans es)] at e
        cases e
      · rw [doM_ask1 q c] at e; cases e
theorem tells_len : ∀ {ds : List Deed} {M : HM}, M.Ok → (∀ d ∈ ds, Good d) → ∀ ns, Tell.list ns ∈ telF M ds → ns.length ≤ M.made + ds.length
  | [], _, _, _, _, m => by cases m
  | d :: ds, M, ok, g, ns, m => by
    have m : Tell.list ns ∈ (doM M d).1 :: telF (doM M d).2 ds := m
    rw [List.length_cons]
    rcases List.mem_cons.mp m with e | m
    · have := tell_len ok e.symm; omega
    · have := tells_len (doM_ok ok (g d (List.mem_cons_self ..))) (fun d m => g d (List.mem_cons_of_mem _ m)) ns m
      rcases doM_made ok (d := d) with e | e <;> omega
theorem atI_lastV {xs : List V} {x : V} : atI (xs ++ [x]) (-1) = some x := by
  unfold atI ixN
  rw [if_neg (by decide), List.length_append, List.length_singleton, if_pos (by omega)]
  show (xs ++ [x])[(-1 + ((xs.length + 1 : Nat) : Int)).toNat]? = _
  have : (-1 + ((xs.length + 1 : Nat) : Int)).toNat = xs.length := by omega
  rw [this, List.getElem?_append_right (Nat.le_refl _), Nat.sub_self]
  rfl
theorem telF_len : ∀ {ds : List Deed} {M : HM}, (telF M ds).length = ds.length
  | [], _ => rfl
  | d :: ds, M => by
    show (telF (doM M d).2 ds).length + 1 = ds.length + 1
    rw [telF_len]
end

section
variable {P : Program} {w : World} {K : PySem.W.Frag} {mg : Str → Option Value} {base : Heap}
/-- what is drawn from, the law's heap, the program's heap, other things G, each by itself -/
structure BothI (K : PySem.W.Frag) (H : Hp) (ah ac : Addr) (adL : Nat → Addr) (ML : HM) (adP : Nat → Addr) (MP : HM) (ks : List Nat) (vm vw : V) (G : Addr → Prop) : Prop where
  hs : HS H ah ac
  lm : LM K H adL ML
  pm : PM K H adP MP ks vm vw
  tb : LamX.Tabs (TTs K) H
  lh : ∀ b, LF adL ML b → ¬ FH ah ac b
  ph : ∀ b, PF adP MP b → ¬ FH ah ac b
  lp : ∀ b, LF adL ML b → ¬ PF adP MP b
  gl : ∀ b, G b → (∃ o, H b = some o ∧ notTbl o) ∧ ¬ FH ah ac b ∧ ¬ LF adL ML b ∧ ¬ PF adP MP b
section
variable {H H' : Hp} {ah ac : Addr} {adL adL' : Nat → Addr} {ML ML' : HM} {adP adP' : Nat → Addr} {MP MP' : HM} {ks ks' : List Nat} {vm vw vm' vw' : V} {G G' : Addr → Prop} {x : Addr} {o : HO}
theorem BothI.draw (I : BothI K H ah ac adL ML adP MP ks vm vw G) (hs : HS H' ah ac) (f : Fr K (FH ah ac) H H') : BothI K H' ah ac adL ML adP MP ks vm vw G :=
  ⟨hs, I.lm.fr f I.lh, I.pm.fr f I.ph, f.t I.tb, I.lh, I.ph, I.lp, fun b g => by
    obtain ⟨⟨o, h, t⟩, n⟩ := I.gl b g
    exact ⟨⟨o, f.k _ _ h n.1 t, t⟩, n⟩⟩
theorem BothI.nof (I : BothI K H ah ac adL ML adP MP ks vm vw G) (f : Fr K NoF H H') : BothI K H' ah ac adL ML adP MP ks vm vw G := I.draw (I.hs.fr f (fun z => z) fun z => z) (f.mono fun _ z => z.elim)
theorem BothI.same (I : BothI K H ah ac adL ML adP MP ks vm vw G) (s : Same H H') : BothI K H' ah ac adL ML adP MP ks vm vw G := I.nof (Fr.same s)
theorem HS.nn (h : HS H ah ac) {b : Addr} (f : FH ah ac b) : H b ≠ none := by
  obtain ⟨xs, e⟩ := h.live f
  rw [e]; exact fun z => by cases z
theorem LF.nn (L : LM K H adL ML) {b : Addr} (f : LF adL ML b) : H b ≠ none := by
  obtain ⟨i, hi, rfl⟩ := f
  obtain ⟨o, e, _⟩ := L.own.live i hi
  rw [e]; exact fun z => by cases z
theorem PF.nn (L : PM K H adP MP ks vm vw) {b : Addr} (f : PF adP MP b) : H b ≠ none := by
  obtain ⟨i, hi, rfl⟩ := f
  obtain ⟨o, e, _⟩ := L.own.live i hi
  rw [e]; exact fun z => by cases z
theorem BothI.law (I : BothI K H ah ac adL ML adP MP ks vm vw G) (L : LM K H' adL' ML') (nw : New H (LF adL ML) (LF adL' ML')) (f : Fr K (LF adL ML) H H') : BothI K H' ah ac adL' ML' adP MP ks vm vw G :=
  ⟨I.hs.fr f (fun z => I.lh _ z (.inl rfl)) (fun z => I.lh _ z (.inr rfl)), L, I.pm.fr f fun b h z => I.lp b z h, f.t I.tb, fun b h z => (nw b h).elim (fun h => I.lh b h z) fun h => I.hs.nn z h, I.ph, fun b h z => (nw b h).elim (fun h => I.lp b h z) fun h => PF.nn I.pm z h, fun b g => by
    obtain ⟨⟨o, h, t⟩, n1, n2, n3⟩ := I.gl b g
    exact ⟨⟨o, f.k _ _ h n2 t, t⟩, n1, (fun z => (nw b z).elim n2 fun y => by rw [h] at y; cases y), n3⟩⟩
theorem BothI.prog (I : BothI K H ah ac adL ML adP MP ks vm vw G) (R : PRes K H adP MP H' adP' MP' ks' vm' vw') : BothI K H' ah ac adL ML adP' MP' ks' vm' vw' G :=
  ⟨I.hs.fr R.fr (fun z => I.ph _ z (.inl rfl)) (fun z => I.ph _ z (.inr rfl)), I.lm.fr R.fr I.lp, R.pm, R.fr.t I.tb, I.lh, fun b h z => (R.new b h).elim (fun h => I.ph b h z) fun h => I.hs.nn z h, fun b h z => (R.new b z).elim (fun z => I.lp b h z) fun z => LF.nn I.lm h z, fun b g => by
    obtain ⟨⟨o, h, t⟩, n1, n2, n3⟩ := I.gl b g
    exact ⟨⟨o, R.fr.k _ _ h n3 t, t⟩, n1, n2, (fun z => (R.new b z).elim n3 fun y => by rw [h] at y; cases y)⟩⟩
/-- an other thing changes -/
theorem BothI.other (I : BothI K H ah ac adL ML adP MP ks vm vw G) (g : G x) (c : Chg K (H x)) (nt : notTbl o) : BothI K (upd H x o) ah ac adL ML adP MP ks vm vw G := by
  have f : Fr K (fun b => b = x) H (upd H x o) := Fr.upd rfl c
  obtain ⟨_, n1, n2, n3⟩ := I.gl x g
  refine ⟨I.hs.fr f (fun z => n1 (.inl z.symm)) (fun z => n1 (.inr z.symm)), I.lm.fr f fun b h z => n2 (z ▸ h), I.pm.fr f fun b h z => n3 (z ▸ h), f.t I.tb, I.lh, I.ph, I.lp, fun b hb => ?_⟩
  obtain ⟨⟨u, h, t⟩, n⟩ := I.gl b hb
  by_cases e : b = x
  · exact ⟨⟨o, by rw [e, upd_same], nt⟩, n⟩
  · exact ⟨⟨u, by rw [upd_ne e]; exact h, t⟩, n⟩
/-- something new is kept, too -/
theorem BothI.add (I : BothI K H ah ac adL ML adP MP ks vm vw G) (hx : H x = none) (nt : notTbl o) : BothI K (upd H x o) ah ac adL ML adP MP ks vm vw (fun b => b = x ∨ G b) := by
  have J := I.same (Same.new (o := o) hx)
  refine ⟨J.hs, J.lm, J.pm, J.tb, J.lh, J.ph, J.lp, fun b hb => ?_⟩
  rcases hb with rfl | hb
  · exact ⟨⟨o, upd_same, nt⟩, fun z => I.hs.nn z hx, fun z => LF.nn I.lm z hx, fun z => PF.nn I.pm z hx⟩
  · exact J.gl b hb
theorem BothI.plus (I : BothI K H ah ac adL ML adP MP ks vm vw G) (h : H x = some o) (nt : notTbl o) (n1 : ¬ FH ah ac x) (n2 : ¬ LF adL ML x) (n3 : ¬ PF adP MP x) : BothI K H ah ac adL ML adP MP ks vm vw (fun b => b = x ∨ G b) := by
  refine ⟨I.hs, I.lm, I.pm, I.tb, I.lh, I.ph, I.lp, fun b hb => ?_⟩
  rcases hb with rfl | hb
  · exact ⟨⟨o, h, nt⟩, n1, n2, n3⟩
  · exact I.gl b hb
theorem BothI.sub (I : BothI K H ah ac adL ML adP MP ks vm vw G) (h : ∀ b, G' b → G b) : BothI K H ah ac adL ML adP MP ks vm vw G' := ⟨I.hs, I.lm, I.pm, I.tb, I.lh, I.ph, I.lp, fun b g => I.gl b (h b g)⟩
end
/-- a plain run and the law's heap, both new -/
theorem BothI.start {H1 H2 H3 : Hp} {ah ac pl : Addr} {ad0 adP : Nat → Addr} (hs : HS H1 ah ac) (tb : LamX.Tabs (TTs K) H1) (hpl : H1 pl = none) (hk : ∀ b u, H1 b = some u → H2 b = some u) (hnewP : ∀ i, i < 4 → H1 (adP i) = none) (npl : ∀ i, i < 4 → adP i ≠ pl) (LP : PM K H2 adP HM0 [] .non .non) {o : HO} (gA : H2 pl = some o) (nt : notTbl o)
    (s3 : Same H2 H3) (L3 : LM K H3 ad0 HM0) (hnew3 : ∀ i, i < 3 → H2 (ad0 i) = none) : BothI K H3 ah ac ad0 HM0 adP HM0 (List.range HM0.made) .non .non (fun b => b = pl) := by
  have s2 : Same H1 H2 := hk
  have s13 := s2.trans s3
  have hs2 := hs.same s2
  refine ⟨hs.same s13, L3, LP.same s3, tb.ext s13, fun b ⟨i, hi, e⟩ z => ?_, fun b ⟨i, hi, e⟩ z => ?_, fun b ⟨i, hi, e⟩ z => ?_, fun b e => ?_⟩
  · have hi : i < 3 := hi
    exact hs2.nn z (e ▸ hnew3 i hi)
  · have hi : i < 4 := hi
    exact hs.nn z (e ▸ hnewP i hi)
  · have hi : i < 3 := hi
    exact PF.nn LP z (e ▸ hnew3 i hi)
  · subst e
    refine ⟨⟨o, s3 _ _ gA, nt⟩, fun z => hs.nn z hpl, fun ⟨i, hi, e⟩ => ?_, fun ⟨i, hi, e⟩ => npl i hi e⟩
    have hi : i < 3 := hi
    have := hnew3 i hi
    rw [e, gA] at this
    cases this
theorem rcL_len {M : HM} {R : Nat → Prop} : (rcL M R).length ≤ M.made := by
  classical
  unfold rcL
  exact Nat.le_trans (List.length_filter_le _ _) (by rw [List.length_range]; exact Nat.le_refl _)
theorem AL_il {H : Hp} {n : Nat} {p q : Addr} {ns : List Nat} (h1 : H p = some (.lst (intsV ns))) (h2 : H q = some (.lst (intsV ns))) (l : ns.length ≤ 9000) : AL H (n + 1) (.ref p) (.ref q) :=
  .inr ⟨p, q, _, _, rfl, rfl, .inr ⟨h1, h2⟩, by rw [intsV_len]; exact l, AL_ints ns⟩
theorem AL_l {H : Hp} {n : Nat} {p q : Addr} {xs ys : List V} (h1 : H p = some (.lst xs)) (h2 : H q = some (.lst ys)) (l : xs.length ≤ 9000) (r : Paired (AL H n) xs ys) : AL H (n + 1) (.ref p) (.ref q) := .inr ⟨p, q, _, _, rfl, rfl, .inr ⟨h1, h2⟩, l, r⟩
theorem AL_t {H : Hp} {n : Nat} {p q : Addr} {xs ys : List V} (h1 : H p = some (.tup xs)) (h2 : H q = some (.tup ys)) (l : xs.length ≤ 9000) (r : Paired (AL H n) xs ys) : AL H (n + 1) (.ref p) (.ref q) := .inr ⟨p, q, _, _, rfl, rfl, .inl ⟨h1, h2⟩, l, r⟩
end

section
variable {P : Program} {w : World} {K : PySem.W.Frag} {mg : Str → Option Value} {base : Heap}
/-! ### photos -/
def sizeT (t : Th) : Int := if t.kind = WATCH then 2 else 1 + (t.held.length : Int) * (if t.kind = BOOK then 2 else 1)
def SEES : Str := "sees"
def partsT (t : Th) : List (Key × AV) := if t.kind = WATCH then [(.inr SEES, if t.told = true then .non else match t.sees with | some s => .th s | none => .non)] else partsOf t
def PartR (H : Hp) (p : Addr) (z : Key × AV) : Prop := ∃ v, H p = some (.tup [kV z.1, v]) ∧ LV H v z.2
def RowR (N : Addr → Prop) (H : Hp) (p : Addr) (k : Nat) (t : Th) : Prop := ∃ (pl : Addr) (ps : List Addr), H p = some (.tup [.int (k : Int), .str t.kind, .ref pl, .int (sizeT t)]) ∧ N pl ∧ H pl = some (.lst (ps.map V.ref)) ∧ Paired (PartR H) ps (partsT t)
def PhR (N : Addr → Prop) (H : Hp) (v : V) (M : HM) : Prop := ∃ (p n r : Addr) (ns : List V) (rows : List Addr), v = .ref p ∧ H p = some (.tup [.ref n, .ref r]) ∧ N n ∧ N r ∧ H n = some (.lst ns) ∧ Paired (LV H) ns (NMS.map M.names) ∧ H r = some (.lst (rows.map V.ref)) ∧ Paired (fun p k => ∃ t, M.things k = some t ∧ RowR N H p k t) rows (reachL M)
section
variable {H H' : Hp} {N N' F : Addr → Prop} {p : Addr} {k : Nat} {t : Th} {z : Key × AV} {v : V} {M : HM}
theorem PartR.mono (h : PartR H p z) (tp : Tups H H') : PartR H' p z := by
  obtain ⟨v, h1, h2⟩ := h
  exact ⟨v, tp _ _ h1, h2.mono tp⟩
theorem RowR.fr (h : RowR N H p k t) (f : Fr K F H H') (n : ∀ b, N b → ¬ F b) : RowR N H' p k t := by
  obtain ⟨pl, ps, h1, h2, h3, h4⟩ := h
  exact ⟨pl, ps, f.i _ _ h1, h2, f.lst h3 (n _ h2), Paired.mapP h4 fun _ _ z => z.mono f.i⟩
theorem RowR.sub (h : RowR N H p k t) (n : ∀ b, N b → N' b) : RowR N' H p k t := by
  obtain ⟨pl, ps, h1, h2, h3, h4⟩ := h
  exact ⟨pl, ps, h1, n _ h2, h3, h4⟩
theorem PhR.fr (h : PhR N H v M) (f : Fr K F H H') (n : ∀ b, N b → ¬ F b) : PhR N H' v M := by
  obtain ⟨p, nn, r, ns, rows, e, h1, h2, h3, h4, h5, h6, h7⟩ := h
  exact ⟨p, nn, r, ns, rows, e, f.i _ _ h1, h2, h3, f.lst h4 (n _ h2), Paired.mapP h5 fun _ _ z => z.mono f.i, f.lst h6 (n _ h3), Paired.mapP h7 fun _ _ ⟨t, et, z⟩ => ⟨t, et, z.fr f n⟩⟩
theorem PhR.nof (h : PhR N H v M) (f : Fr K NoF H H') : PhR N H' v M := h.fr f fun _ _ z => z
theorem PhR.sub (h : PhR N H v M) (n : ∀ b, N b → N' b) : PhR N' H v M := by
  obtain ⟨p, nn, r, ns, rows, e, h1, h2, h3, h4, h5, h6, h7⟩ := h
  exact ⟨p, nn, r, ns, rows, e, h1, n _ h2, n _ h3, h4, h5, h6, Paired.mapP h7 fun _ _ ⟨t, et, z⟩ => ⟨t, et, z.sub n⟩⟩
theorem AL_kV {H : Hp} {n : Nat} (q : Key) : AL H n (kV q) (kV q) := by
  cases q <;> cases n <;> first | exact ⟨rfl, rfl⟩ | exact .inl ⟨rfl, rfl⟩
theorem AL_s {H : Hp} {n : Nat} {v : V} (h : flat4 v = true) : AL H n v v := by
  cases n with
  | zero => exact ⟨rfl, h⟩
  | succ n => exact .inl ⟨rfl, h⟩
theorem partsT_len {m : Nat} (ot : t.Ok m) : (partsT t).length ≤ 8 := by
  unfold partsT
  split
  · simp
  · rw [partsOf_perm.length_eq]; exact ot.len
theorem AL_parts {n : Nat} : ∀ {p q : List Addr} {zs : List (Key × AV)}, Paired (PartR H) p zs → Paired (PartR H) q zs → Paired (AL H (n + 2)) (p.map V.ref) (q.map V.ref)
  | _, _, _, .nil, .nil => .nil
  | _, _, _, .cons ⟨v, h1, h2⟩ r, .cons ⟨u, g1, g2⟩ s => .cons (.inr ⟨_, _, _, _, rfl, rfl, .inl ⟨h1, g1⟩, by simp, .cons (AL_kV _) (.cons (AL_LV h2 g2) .nil)⟩) (AL_parts r s)
theorem AL_row {N1 N2 : Addr → Prop} {m : Nat} (ot : t.Ok m) {p q : Addr} (h1 : RowR N1 H p k t) (h2 : RowR N2 H q k t) {n : Nat} : AL H (n + 4) (.ref p) (.ref q) := by
  obtain ⟨pl, ps, a1, _, a3, a4⟩ := h1
  obtain ⟨ql, qs, b1, _, b3, b4⟩ := h2
  have l : (ps.map V.ref).length ≤ 9000 := by
    rw [List.length_map, Paired.length a4]
    have := partsT_len ot
    omega
  exact .inr ⟨p, q, _, _, rfl, rfl, .inl ⟨a1, b1⟩, by simp, .cons (AL_s rfl) (.cons (AL_s rfl) (.cons (.inr ⟨pl, ql, _, _, rfl, rfl, .inr ⟨a3, b3⟩, l, AL_parts a4 b4⟩) (.cons (AL_s rfl) .nil)))⟩
theorem AL_vals {n : Nat} : ∀ {xs ys : List V} {as : List AV}, Paired (LV H) xs as → Paired (LV H) ys as → Paired (AL H (n + 1)) xs ys
  | _, _, _, .nil, .nil => .nil
  | _, _, _, .cons h r, .cons g s => .cons (AL_LV h g) (AL_vals r s)
theorem AL_ph {N1 N2 : Addr → Prop} {u : V} (ok : M.Ok) (sm : M.made ≤ 9000) (h1 : PhR N1 H u M) (h2 : PhR N2 H v M) {n : Nat} : AL H (n + 6) u v := by
  obtain ⟨p, nn, r, ns, rows, rfl, a1, _, _, a4, a5, a6, a7⟩ := h1
  obtain ⟨q, mm, s, ms, sows, rfl, b1, _, _, b4, b5, b6, b7⟩ := h2
  have l1 : ns.length ≤ 9000 := by rw [Paired.length a5, List.length_map]; decide
  have l2 : (rows.map V.ref).length ≤ 9000 := by rw [List.length_map, Paired.length a7]; exact Nat.le_trans rcL_len sm
  have rr : ∀ {rows sows : List Addr} {ks : List Nat}, Paired (fun p k => ∃ t, M.things k = some t ∧ RowR N1 H p k t) rows ks → Paired (fun p k => ∃ t, M.things k = some t ∧ RowR N2 H p k t) sows ks → Paired (AL H (n + 4)) (rows.map V.ref) (sows.map V.ref) := by
    intro rows sows ks h
    induction h generalizing sows with
    | nil => intro g; cases g; exact .nil
    | cons x _ ih =>
      intro g
      cases g with
      | cons y g =>
        obtain ⟨t, et, x⟩ := x
        obtain ⟨t', et', y⟩ := y
        rw [et] at et'
        cases et'
        exact .cons (AL_row (ok.th _ _ et) x y) (ih g)
  exact .inr ⟨p, q, _, _, rfl, rfl, .inl ⟨a1, b1⟩, by simp, .cons (AL_l a4 b4 l1 (AL_vals a5 b5)) (.cons (AL_l a6 b6 l2 (rr a7 b7)) .nil)⟩
end
/-- rows whose lists may be changed -/
def RowsOk (H0 H : Hp) (r : Addr) (rows : List Addr) (n : Nat) : Prop := H r = some (.lst (rows.map V.ref)) ∧ ∀ row ∈ rows, ∃ (a b : V) (pl : Addr) (c : V) (xs : List V), H row = some (.tup [a, b, .ref pl, c]) ∧ H pl = some (.lst xs) ∧ xs.length ≤ n ∧ pl ≠ r ∧ H0 pl = none
theorem RowsOk.put {H0 H : Hp} {r x : Addr} {rows : List Addr} {n : Nat} {ys zs : List V} (h : RowsOk H0 H r rows n) (hx : H x = some (.lst ys)) (nx : x ≠ r) (l : zs.length ≤ n + 1) : RowsOk H0 (upd H x (.lst zs)) r rows (n + 1) := by
  refine ⟨by rw [upd_ne nx.symm]; exact h.1, fun row m => ?_⟩
  obtain ⟨a, b, pl, c, xs, h1, h2, h3, h4, h5⟩ := h.2 row m
  have n1 : row ≠ x := fun z => by rw [z, hx] at h1; cases h1
  by_cases e : pl = x
  · exact ⟨a, b, pl, c, zs, by rw [upd_ne n1]; exact h1, by rw [e, upd_same], l, h4, h5⟩
  · exact ⟨a, b, pl, c, xs, by rw [upd_ne n1]; exact h1, by rw [upd_ne e]; exact h2, by omega, h4, h5⟩
theorem RowsOk.same {H0 H H1 : Hp} {r : Addr} {rows : List Addr} {n : Nat} (h : RowsOk H0 H r rows n) (s : Same H H1) : RowsOk H0 H1 r rows n := ⟨s _ _ h.1, fun row m => by
  obtain ⟨a, b, pl, c, xs, h1, h2, h3⟩ := h.2 row m
  exact ⟨a, b, pl, c, xs, s _ _ h1, s _ _ h2, h3⟩⟩
theorem PhR.rows {H0 H : Hp} {v : V} {M : HM} (ok : M.Ok) (h : PhR (fun b => H0 b = none) H v M) : ∃ (p n r : Addr) (ns : List V) (rows : List Addr), v = .ref p ∧ H p = some (.tup [.ref n, .ref r]) ∧ H n = some (.lst ns) ∧ H0 n = none ∧ n ≠ r ∧ H0 r = none ∧ rows.length = (reachL M).length ∧ RowsOk H0 H r rows 8 := by
  obtain ⟨p, n, r, ns, rows, rfl, h1, h2, h3, h4, h5, h6, h7⟩ := h
  have row : ∀ row ∈ rows, ∃ (a b : V) (pl : Addr) (c : V) (ps : List Addr) (zs : List (Key × AV)), H row = some (.tup [a, b, .ref pl, c]) ∧ H0 pl = none ∧ H pl = some (.lst (ps.map V.ref)) ∧ Paired (PartR H) ps zs ∧ zs.length ≤ 8 := fun row m => by
    obtain ⟨i, hi⟩ := List.mem_iff_getElem?.mp m
    obtain ⟨k, _, t, et, pl, ps, a1, a2, a3, a4⟩ := paired_get h7 hi
    exact ⟨_, _, pl, _, ps, _, a1, a2, a3, a4, partsT_len (ok.th _ _ et)⟩
  refine ⟨p, n, r, ns, rows, rfl, h1, h4, h2, fun z => ?_, h3, Paired.length h7, h6, fun rw_ m => ?_⟩
  · rw [z, h6] at h4
    have e : rows.map V.ref = ns := by injection h4 with h4; injection h4
    have l8 : ns.length = 8 := by rw [Paired.length h5, List.length_map]; rfl
    cases rows with
    | nil => rw [← e] at l8; cases l8
    | cons r0 rows =>
      obtain ⟨a, b, pl, c, ps, zs, a1, _⟩ := row r0 (List.mem_cons_self ..)
      obtain ⟨av, _, lv⟩ := paired_get h5 (show ns[0]? = some (V.ref r0) by rw [← e]; rfl)
      cases av with
      | non => cases (show V.ref r0 = V.non from lv)
      | num i => cases (show V.ref r0 = V.int i from lv)
      | th k =>
        obtain ⟨p', e1, e2⟩ := lv
        cases e1
        rw [a1] at e2
        cases e2
  · obtain ⟨a, b, pl, c, ps, zs, a1, a2, a3, a4, a5⟩ := row rw_ m
    refine ⟨a, b, pl, c, _, a1, a3, by rw [List.length_map, Paired.length a4]; exact a5, fun z => ?_, a2⟩
    rw [z, h6] at a3
    have e : rows.map V.ref = ps.map V.ref := by injection a3 with a3; injection a3
    cases rows with
    | nil => cases m
    | cons r0 rows =>
      cases ps with
      | nil => cases e
      | cons p0 ps =>
        have e0 : r0 = p0 := by rw [List.map_cons, List.map_cons] at e; injection e with e1; injection e1
        obtain ⟨_, _, _, _, _, _, b1, _⟩ := row r0 (List.mem_cons_self ..)
        cases a4 with
        | cons x _ =>
          obtain ⟨u, u1, _⟩ := x
          rw [← e0, b1] at u1
          cases u1
theorem y_isList {H : Hp} {Q : VK} {v : V} {a : AV} (h : LV H v a) (q : Q (.bl false) H) : rIsi K [v, .ty "list"] H Q := by
  cases a with
  | non => obtain rfl := (show v = .non from h); exact y_isi2 (.base .non) (b := false) rfl q
  | num i => obtain rfl := (show v = .int i from h); exact y_isi2 (.base (.int i)) (b := false) rfl q
  | th k => obtain ⟨p, rfl, hp⟩ := h; exact y_isi2 (.base (.tup hp)) (b := false) rfl q
end

section
variable {P : Program} {w : World} {K : PySem.W.Frag} {mg : Str → Option Value} {base : Heap}
abbrev spPSize (K : PySem.W.Frag) : Sp := Sp1 fun x H Q => ∃ (a dx d : Addr) (t : Th) (m : Nat) (kvs : List (Key × V)), x = .ref a ∧ H a = some (.ins (He.ga K "Thing") dx (pth t d)) ∧ H d = some (.dK kvs) ∧ HR (PV K H) kvs t.held ∧ t.Ok m ∧ Q (.int (sizeT t)) H
theorem met_Thing_size (T : Tx w K mg base) : Met P w K mg base 1 (He.ga K "Thing") "size" (spPSize K) [] := by
  obtain ⟨fd, F⟩ := T.fn_Thing_size
  refine met_of T.cl_Thing T.me_Thing_size F sc_Thing_size (F.bindsN fun _ _ _ _ _ _ us hl => match us, hl with | [_], _ => rfl) (fun vs H Q E h => h.len) (fun cdv A outer s H vs Q E hr h => ?_)
  obtain ⟨x, rfl, a, dx, d, t, m, kvs, rfl, ha, hd, r, ok, q⟩ := h
  have hu := hu_of hr
  have nd := sc_Thing_size.nd
  refine ⟨_, (pss_cons (ps_if (pt_cmpR op_eq (pe_fld (pv 0) rfl) (pe_gc rfl T.k_WATCH) (nomark _)) (pss_one (ps_ret pe_int)) pss_nil) (pss_one (ps_ret (pe_op op_add pe_int (pe_op op_mul (pe_callB call_lenD (by rfl) T.n_len PySem.boot_len (pa_cons (pe_fld (pv 0) rfl) pa_nil)) (pe_ifExp (pt_cmpR op_eq (pe_fld (pv 0) rfl) pe_str (nomark _)) pe_int pe_int)))))), ?_⟩
  unfold pth at ha
  walk_at "sx"
  unfold sizeT at q
  have l8 := ok.len
  refine y_dec (fun c => ?_) (fun c => ?_)
  · rw [if_pos (show t.kind = WATCH from eq_kind c)] at q
    walk_at "rx"
    exact q
  · rw [if_neg (show ¬ t.kind = WATCH from ne_kind c)] at q
    walk_at "rx"
    refine y_lenD hd ?_
    rw [r.len]
    walk_at "rx"
    refine y_dec (fun c2 => ?_) (fun c2 => ?_)
    · rw [if_pos (show t.kind = BOOK from eq_kind c2)] at q
      walk_at "rx"
      refine y_I (show CMul _ 2 from .inl ⟨by omega, by omega⟩) ?_
      walk_at "rx"
      exact q
    · rw [if_neg (show ¬ t.kind = BOOK from ne_kind c2)] at q
      walk_at "rx"
      refine y_I (show CMul _ 1 from .inl ⟨by omega, by omega⟩) ?_
      walk_at "rx"
      exact q
abbrev spPNames (K : PySem.W.Frag) : Sp := Sp1 fun x H Q => ∃ (ad : Nat → Addr) (M : HM) (ks : List Nat) (vm vw : V), x = .ref (ad 1) ∧ PM K H ad M ks vm vw ∧ ∀ (l : Addr) (ns : List V) (H' : Hp), Same H H' → H l = none → H' l = some (.lst ns) → Paired (LV H') ns (NMS.map M.names) → Q (.ref l) H'
theorem cal_names_told (T : Tx w K mg base) : Cal P w K mg base 2 "names_told" (spPNames K) [] := by
  obtain ⟨fd, F⟩ := T.fn_names_told
  refine cal_of F T.g_names_told sc_names_told (F.bindsN fun _ _ _ _ _ _ us hl => match us, hl with | [_], _ => rfl) (fun vs H Q E h => h.len) (fun cdv A outer s H vs Q E hr h => ?_)
  obtain ⟨x, rfl, ad, M, ks, vm, vw, rfl, L, q⟩ := h
  have hu := hu_of hr
  have nd := sc_names_told.nd
  refine ⟨_, (pss_one (ps_ret (pe_lc (own := [("name", 1)]) (by rfl) nd (pi_str (pe_gc rfl T.k_NAMES)) (blkOk_by (own := [("name", 1)]) (N := N_names_told) (sc := (C8.fnScope s_names_told)) (by decide +kernel)) (fun _ _ _ _ _ => (pg_name (i := 1) nd rfl (Or.inl rfl))) (fun _ _ _ _ _ => pts_nil) (fun _ _ _ _ _ => (pe_c (cal_value_told T) hr (by decide) (by rfl) (pa_cons (pe_dget hu (pe_fldK (K := K) rfl (pe_fld (pv 0) rfl)) (pv 1) (fun _ _ => rfl)) pa_nil)))))), ?_⟩
  obtain ⟨dx1, h1⟩ := L.heap
  obtain ⟨f, h2, hf⟩ := L.nms
  walk_at "rx"
  refine y_lcS (fun D i acc H' => Same H H' ∧ Paired (LV H') acc ((NMS.map M.names).take i)) (fun D hD => ⟨Same.new hD, .nil⟩) ?_ ?_
  · rintro D j k acc H' hD hj hDl hle ⟨sm, pr⟩
    have hn := nms_at hj
    have hnm := List.mem_of_getElem? hn
    have h1' := sm _ _ h1
    have h2' := sm _ _ h2
    have va := PV.mono (hf _ hnm) (Same.refs sm)
    have ea : (NMS.map M.names)[j]? = some (M.names ⟨#[k]⟩) := by rw [List.getElem?_map, hn]; rfl
    have jl : j < 90000 := Nat.lt_of_lt_of_le (List.getElem?_eq_some_iff.mp hn).1 (by decide)
    refine y_turn ?_
    walk_at "rx"
    refine ⟨rfl, y_yes (y_tt ?_)⟩
    walk_at "rx"
    refine y_dgetS h2' (valV_kvL hnm) ?_
    walk_at "rx"
    refine ⟨_, va, fun v H3 lv s3 => ?_⟩
    have hD3 := s3 _ _ hDl
    refine y_put hD3 hle jl ⟨same_fresh (sm.trans s3) hD, ?_⟩
    have tp : Tups H3 (upd H3 D (.lst (acc ++ [v]))) := fun p xs e => by rw [upd_ne fun z => by rw [z, hD3] at e; cases e]; exact e
    rw [take_snoc ea]
    exact Paired.app (Paired.mapP pr fun _ _ z => (z.mono (Same.tups s3)).mono tp) (lv.mono tp)
  · rintro D acc H' hD hDl ⟨sm, pr⟩
    have e8 : ((NMS.map M.names).take ("pqrstuvw" : Str).cps.size) = NMS.map M.names := by
      rw [← List.map_take]
      congr 1
    rw [e8] at pr
    exact q D acc H' sm hD hDl pr
abbrev spPPartsT (K : PySem.W.Frag) : Sp := Sp1 fun x H Q => ∃ (a dx d : Addr) (t : Th) (m : Nat) (kvs : List (Key × V)), x = .ref a ∧ H a = some (.ins (He.ga K "Thing") dx (pth t d)) ∧ H d = some (.dK kvs) ∧ HR (PV K H) kvs t.held ∧ t.Ok m ∧
  ∀ (l : Addr) (ps : List Addr) (H' : Hp), Same H H' → H l = none → H' l = some (.lst (ps.map V.ref)) → Paired (PartR H') ps (partsT t) → Q (.ref l) H'
theorem cal_parts_told (T : Tx w K mg base) : Cal P w K mg base 3 "parts_told" (spPPartsT K) [] := by
  obtain ⟨fd, F⟩ := T.fn_parts_told
  refine cal_of F T.g_parts_told sc_parts_told (F.bindsN fun _ _ _ _ _ _ us hl => match us, hl with | [_], _ => rfl) (fun vs H Q E h => h.len) (fun cdv A outer s H vs Q E hr h => ?_)
  obtain ⟨x, rfl, a, dx, d, t, m, kvs, rfl, ha, hd, r, ot, q⟩ := h
  have hu := hu_of hr
  have nd := sc_parts_told.nd
  refine ⟨_, (pss_cons (ps_if (pt_cmpR op_eq (pe_fld (pv 0) rfl) (pe_gc rfl T.k_WATCH) (nomark _)) (pss_one (ps_ret (pe_lst (pa_cons (pe_tup (pa_cons pe_str (pa_cons (pe_c (cal_value_told T) hr (by decide) (by rfl) (pa_cons (pe_ifExp (pt_val (pe_fld (pv 0) rfl)) pe_non (pe_mk (mak_Ref T) hr (by decide) (by rfl) (pa_cons (pe_fld (pv 0) rfl) pa_nil))) pa_nil)) pa_nil))) pa_nil)))) pss_nil) (pss_one (ps_ret (pe_lc (own := [("part", 1), ("value", 2)]) (by rfl) nd (pi_list (pe_mt0 (met_Thing_parts T) hr (by decide) (pv 0))) (blkOk_by (own := [("part", 1), ("value", 2)]) (N := N_parts_told) (sc := (C8.fnScope s_parts_told)) (by decide +kernel)) (fun _ _ _ _ _ => (pg_tupK (K := K) (n := 2) rfl rfl (pgs_cons (pg_name (i := 1) nd rfl (Or.inl rfl)) (pgs_cons (pg_name (i := 2) nd rfl (Or.inl rfl)) pgs_nil)))) (fun _ _ _ _ _ => pts_nil) (fun _ _ _ _ _ => (pe_tup (pa_cons (pv 1) (pa_cons (pe_c (cal_value_told T) hr (by decide) (by rfl) (pa_cons (pv 2) pa_nil)) pa_nil)))))))), ?_⟩
  unfold pth at ha
  walk_at "sx"
  refine y_dec (fun c => ?_) (fun c => ?_)
  · have c := eq_kind c
    obtain ⟨s, es, _⟩ := (ot.wat c).2.1
    rw [es] at ha
    dsimp only [seesV] at ha
    have ep : partsT t = [(.inr SEES, if t.told = true then .non else .th s)] := by unfold partsT; rw [if_pos (show t.kind = WATCH from c), es]
    have fin : ∀ (v : V) (H1 : Hp), Same H H1 → LV H1 v (if t.told = true then .non else .th s) → ∀ p, H1 p = none → ∀ l, upd H1 p (.tup [.str "sees", v]) l = none → Q (.ref l) (upd (upd H1 p (.tup [.str "sees", v])) l (.lst [.ref p])) := fun v H1 s1 lv p hp l hl => by
      have s2 := Same.new (o := .tup [.str "sees", v]) hp
      have s3 := Same.new (o := .lst [.ref p]) hl
      refine q l [p] _ ((s1.trans s2).trans s3) (same_none (s1.trans s2) hl) upd_same ?_
      rw [ep]
      exact .cons ⟨v, s3 _ _ upd_same, (lv.mono (Same.tups s2)).mono (Same.tups s3)⟩ .nil
    walk_at "rx"
    refine y_b (fun h => ?_) (fun h => ?_)
    · rw [if_pos h] at fin
      walk_at "rx"
      refine ⟨.non, rfl, fun v H1 lv s1 => ?_⟩
      walk_at "rx"
      intro p hp
      walk_at "rx"
      intro l hl
      exact fin v H1 s1 lv p hp l hl
    · rw [if_neg (by rw [h]; exact Bool.false_ne_true)] at fin
      walk_at "rx"
      refine y_ref fun pr H1 s1 _ pv => ?_
      walk_at "rx"
      refine ⟨.th s, pv, fun v H2 lv s2 => ?_⟩
      walk_at "rx"
      intro p hp
      walk_at "rx"
      intro l hl
      exact fin v H2 (s1.trans s2) lv p hp l hl
  · have c := ne_kind c
    have ep : partsT t = partsOf t := by unfold partsT; rw [if_neg (show ¬ t.kind = WATCH from c)]
    walk_at "rx"
    refine ⟨a, dx, d, t, m, kvs, rfl, ha, hd, r, ot, fun l ps hs H1 s1 hl hr1 hp1 ht hpt => ?_⟩
    rw [← hpt] at ep
    walk_at "rx"
    refine y_iL (sqL hl) ?_
    have lh : hs.length = ps.length := by have := Paired.length hr1; rw [List.length_map] at this; exact this.symm
    have l8 : ps.length ≤ 8 := by rw [← lh, hp1.length_eq]; exact ot.len
    refine y_lcL (xs := ps.map fun z => V.ref z.1) (fun D i acc H' => Same H1 H' ∧ ∃ qs : List Addr, acc = qs.map V.ref ∧ Paired (PartR H') qs (hs.take i)) (fun D hD => ⟨Same.new hD, [], rfl, .nil⟩) (fun D i acc H' hD _ p => sqL (p.1 _ _ hl)) ?_ ?_
    · rintro D j x acc H' hD hm hDl hle ⟨sm, qs, rfl, pr⟩
      rw [List.getElem?_map] at hm
      obtain ⟨z, hz, rfl⟩ := Option.map_eq_some_iff.mp hm
      obtain ⟨⟨k2, a⟩, ea, ek, va⟩ := paired_get hr1 (show (ps.map (·.2))[j]? = some z.2 by rw [List.getElem?_map, hz]; rfl)
      have va := PV.mono va (Same.refs (s1.trans sm))
      have ml := (List.getElem?_eq_some_iff.mp hz).1
      have hzt := sm _ _ (ht z (List.mem_of_getElem? hz))
      have ek : z.2.1 = k2 := ek
      refine y_turn (y_tup2 hzt ?_)
      refine ⟨rfl, y_yes (y_tt ?_)⟩
      walk_at "rx"
      refine ⟨a, va, fun v H3 lv s3 => ?_⟩
      have hD3 := s3 _ _ hDl
      walk_at "rx"
      intro p hp
      have np : D ≠ p := fun y => by rw [← y, hD3] at hp; cases hp
      refine y_put (by rw [upd_ne np]; exact hD3) hle (by omega) ⟨?_, qs ++ [p], by rw [List.map_append]; rfl, ?_⟩
      · exact same_fresh ((sm.trans s3).trans (Same.new hp)) hD
      · rw [take_snoc ea]
        have tp : Tups (upd H3 p (.tup [kV z.2.1, v])) (upd (upd H3 p (.tup [kV z.2.1, v])) D (.lst (qs.map V.ref ++ [V.ref p]))) := fun b xs e => by
          rw [upd_ne fun y => by rw [y, upd_ne np, hD3] at e; cases e]; exact e
        have tp3 := Same.tups (Same.new (o := .tup [kV z.2.1, v]) hp)
        refine Paired.app (Paired.mapP pr fun _ _ y => ((y.mono (Same.tups s3)).mono tp3).mono tp) ⟨v, ?_, (lv.mono tp3).mono tp⟩
        rw [← ek]
        exact tp _ _ upd_same
    · rintro D acc H' hD hDl ⟨sm, qs, rfl, pr⟩
      rw [List.length_map, ← lh, List.take_length] at pr
      rw [← ep] at pr
      exact q D qs H' (s1.trans sm) (same_none s1 hD) hDl pr
/-- the photo's own lists are new -/
abbrev spPhotoOf (K : PySem.W.Frag) : Sp := Sp1 fun x H Q => ∃ (ad : Nat → Addr) (M : HM) (ks : List Nat) (vm vw : V), x = .ref (ad 1) ∧ PM K H ad M ks vm vw ∧ M.Ok ∧ KeptIn M ks ∧ ∀ (v : V) (H' : Hp), Same H H' → PhR (fun b => H b = none) H' v M → Q v H'
theorem cal_photo_of (T : Tx w K mg base) : Cal P w K mg base 6 "photo_of" (spPhotoOf K) [] := by
  obtain ⟨fd, F⟩ := T.fn_photo_of
  refine cal_of F T.g_photo_of sc_photo_of (F.bindsN fun _ _ _ _ _ _ us hl => match us, hl with | [_], _ => rfl) (fun vs H Q E h => h.len) (fun cdv A outer s H vs Q E hr h => ?_)
  obtain ⟨x, rfl, ad, M, ks, vm, vw, rfl, L, ok, hkp, q⟩ := h
  have hu := hu_of hr
  have nd := sc_photo_of.nd
  refine ⟨_, (pss_cons (ps_set (i := 1) nd rfl (Or.inl rfl) (pe_lst pa_nil)) (pss_cons (ps_for PassesOwn.never rfl (pi_list (pe_callB (call_sortedDN rfl) (by rfl) T.n_sorted (by decide +kernel) (pa_cons (pe_mt0 (met_Heap_reach T) hr (by decide) (pv 0)) pa_nil))) (pg_name (i := 2) nd rfl (Or.inl rfl)) (pss_cons (ps_set (i := 3) nd rfl (Or.inl rfl) (pe_dget hu (pe_fld (pv 0) rfl) (pv 2) (fun _ _ => rfl))) (pss_one (ps_expr (pe_bm PySem.F.plainAttrs_list PySem.F.slot_list_append PySem.F.type_list_append mt_append (pv 1) (pa_cons (pe_tup (pa_cons (pv 2) (pa_cons (pe_fld (pv 3) rfl) (pa_cons (pe_c (cal_parts_told T) hr (by decide) (by rfl) (pa_cons (pv 3) pa_nil)) (pa_cons (pe_mt0 (met_Thing_size T) hr (by decide) (pv 3)) pa_nil))))) pa_nil)))))) (pss_one (ps_ret (pe_tup (pa_cons (pe_c (cal_names_told T) hr (by decide) (by rfl) (pa_cons (pv 0) pa_nil)) (pa_cons (pv 1) pa_nil))))))), ?_⟩
  walk_at "sx"
  intro ra hra
  have s1 : Same H (upd H ra (.lst [])) := Same.new hra
  have L1 := L.same s1
  have g1 : upd H ra (.lst []) ra = some (.lst []) := upd_same
  generalize upd H ra (.lst []) = H1 at s1 L1 g1 ⊢
  obtain ⟨dx0, h01⟩ := L1.heap
  walk_at "rx"
  refine ⟨ad, M, ks, vm, vw, rfl, L1, ok, hkp, fun r found H2 s2 hr0 hr2 hf hnd => ?_⟩
  have g2 := s2 _ _ g1
  walk_at "rx"
  refine ⟨r, _, _, rfl, .inl hr2, fdK_keys, fun ys p pm ps hp => ?_⟩
  have e9 := sorted_rcL hnd hf (fun x h => RC_lt ok (root_lt ok) h) pm ps
  rw [e9]
  have s3 : Same H2 (upd H2 p (.lst (((rcL M M.root).map fun (k : Nat) => (k : Int)).map V.int))) := Same.new hp
  have hp3 : upd H2 p (.lst (((rcL M M.root).map fun (k : Nat) => (k : Int)).map V.int)) p = some (.lst (intsV (reachL M))) := by rw [upd_same, ← intsV_eq]; rfl
  have s03 := (s1.trans s2).trans s3
  have g3 := s3 _ _ g2
  have npr : p ≠ ra := fun z => by rw [z, g2] at hp; cases hp
  generalize upd H2 p (.lst (((rcL M M.root).map fun (k : Nat) => (k : Int)).map V.int)) = H3 at s3 hp3 s03 g3 ⊢
  refine y_iL (sqL hp3) ?_
  have rl : (reachL M).length ≤ 9000 := Nat.le_trans rcL_len L.sm
  refine y_forL (xs := intsV (reachL M)) (fun i σ H' => ∃ u v rows, σ = [some (.ref (ad 1)), some (.ref ra), u, v] ∧ Same H H' ∧ H' p = some (.lst (intsV (reachL M))) ∧ H' ra = some (.lst (rows.map V.ref)) ∧ Paired (fun p k => ∃ t, M.things k = some t ∧ RowR (fun b => H b = none ∧ b ≠ ra) H' p k t) rows ((reachL M).take i))
    ⟨_, _, [], rfl, s03, hp3, g3, .nil⟩ (fun i σ H' _ ⟨_, _, _, _, _, h, _⟩ => sqL h) ?_ ?_
  · rintro i x σ H4 hi ⟨u, v, rows, rfl, s4, hp4, hra4, pr⟩
    unfold intsV at hi
    rw [List.getElem?_map] at hi
    obtain ⟨k, hk, rfl⟩ := Option.map_eq_some_iff.mp hi
    have il := (List.getElem?_eq_some_iff.mp hk).1
    have kr : M.reach k := (mem_reachL ok).mp (List.mem_of_getElem? hk)
    have km := hkp k (RC_congr (fun _ _ z => z) (fun _ z => .inl z) kr)
    have L4 := L.same s4
    obtain ⟨t, et, ot⟩ := ok.get (L.lt k km)
    obtain ⟨dxt, kvs, t1, t2, t3⟩ := L4.get et km
    unfold pth at t1
    obtain ⟨dx1, h1⟩ := L4.heap
    have h3 := L4.ths
    walk_at "rx"
    refine y_dgetI h3 (valV_things L.srt km) ?_
    walk_at "rx"
    refine ⟨_, dxt, _, t, _, kvs, rfl, t1, t2, t3, ot, fun pl qs H5 s5 hpl0 hpl hqs => ?_⟩
    have t15 := s5 _ _ t1
    have t25 := s5 _ _ t2
    have t35 := t3.mono fun _ _ z => z.mono (Same.refs s5)
    walk_at "rx"
    refine ⟨_, dxt, _, t, _, kvs, rfl, t15, t25, t35, ot, ?_⟩
    walk_at "rx"
    intro w_ hw
    have s6 := Same.new (o := .tup [.int (k : Int), .str t.kind, .ref pl, .int (sizeT t)]) hw
    have hra6 := s6 _ _ (s5 _ _ hra4)
    have nlr : pl ≠ ra := fun z => by rw [z, hra4] at hpl0; cases hpl0
    have hz : (rows.map V.ref).length < sizeLine := small9000 (by rw [List.length_map, Paired.length pr, List.length_take]; omega)
    walk_at "rx"
    have e1 : rows.map V.ref ++ [V.ref w_] = (rows ++ [w_]).map V.ref := by rw [List.map_append]; rfl
    rw [e1]
    have s46 := s5.trans s6
    have hw6 : upd H5 w_ (.tup [.int (k : Int), .str t.kind, .ref pl, .int (sizeT t)]) w_ = some (.tup [.int (k : Int), .str t.kind, .ref pl, .int (sizeT t)]) := upd_same
    have hpl6 := s6 _ _ hpl
    have hqs6 : Paired (PartR (upd H5 w_ (.tup [.int (k : Int), .str t.kind, .ref pl, .int (sizeT t)]))) qs (partsT t) := Paired.mapP hqs fun _ _ z => z.mono (Same.tups s6)
    have hp6 := s46 _ _ hp4
    generalize upd H5 w_ (.tup [.int (k : Int), .str t.kind, .ref pl, .int (sizeT t)]) = H6 at s6 hra6 s46 hw6 hpl6 hqs6 hp6 ⊢
    have f7 : Fr K (fun b => b = ra) H6 (upd H6 ra (.lst ((rows ++ [w_]).map V.ref))) := Fr.upd rfl (by rw [hra6]; trivial)
    refine ⟨_, _, rows ++ [w_], rfl, same_fresh (s4.trans s46) hra, by rw [upd_ne npr]; exact hp6, upd_same, ?_⟩
    rw [take_snoc hk]
    refine Paired.app (Paired.mapP pr fun p' k' ⟨t', et', z⟩ => ⟨t', et', (z.fr (Fr.same (K := K) (F := NoF) s46) fun _ _ y => y).fr f7 fun b h y => h.2 y⟩) ⟨t, et, pl, qs, f7.i _ _ hw6, ⟨same_none s4 hpl0, nlr⟩, f7.lst hpl6 (fun y => nlr y), Paired.mapP hqs6 fun _ _ z => z.mono f7.i⟩
  · rintro σ H4 ⟨u, v, rows, rfl, s4, hp4, hra4, pr⟩
    rw [intsV_len, List.take_length] at pr
    have L4 := L.same s4
    walk_at "rx"
    refine ⟨ad, M, ks, vm, vw, rfl, L4, fun n ns H5 s5 hn0 hn5 hns => ?_⟩
    have hra5 := s5 _ _ hra4
    walk_at "rx"
    intro pt hpt
    have s6 := Same.new (o := .tup [.ref n, .ref ra]) hpt
    refine q (.ref pt) _ ((s4.trans s5).trans s6) ⟨pt, n, ra, ns, rows, rfl, upd_same, same_none s4 hn0, hra, s6 _ _ hn5, Paired.mapP hns fun _ _ z => z.mono (Same.tups s6), s6 _ _ hra5, Paired.mapP pr fun p' k' ⟨t', et', z⟩ => ⟨t', et', (z.fr (Fr.same (K := K) (F := NoF) (s5.trans s6)) fun _ _ y => y).sub fun b h => h.1⟩⟩
abbrev spPhoto (K : PySem.W.Frag) : Sp := Sp1 fun x H Q => ∃ (a dx : Addr) (ad : Nat → Addr) (M : HM) (ks : List Nat) (vm vw : V), x = .ref a ∧ H a = some (.ins (He.ga K "Plain") dx (fs_Plain (.ref (ad 0)))) ∧ PM K H ad M ks vm vw ∧ M.Ok ∧ KeptIn M ks ∧ ∀ (v : V) (H' : Hp), Same H H' → PhR (fun b => H b = none) H' v M → Q v H'
theorem met_Plain_photo (T : Tx w K mg base) : Met P w K mg base 7 (He.ga K "Plain") "photo" (spPhoto K) [] := by
  obtain ⟨fd, F⟩ := T.fn_Plain_photo
  refine met_of T.cl_Plain T.me_Plain_photo F sc_Plain_photo (F.bindsN fun _ _ _ _ _ _ us hl => match us, hl with | [_], _ => rfl) (fun vs H Q E h => h.len) (fun cdv A outer s H vs Q E hr h => ?_)
  obtain ⟨x, rfl, a, dx, ad, M, ks, vm, vw, rfl, ha, L, ok, hkp, q⟩ := h
  have hu := hu_of hr
  have nd := sc_Plain_photo.nd
  refine ⟨_, (pss_one (ps_ret (pe_c (cal_photo_of T) hr (by decide) (by rfl) (pa_cons (pe_fld (pe_fld (pv 0) rfl) rfl) pa_nil)))), ?_⟩
  obtain ⟨dx0, h0⟩ := L.doer
  walk_at "sx"
  exact ⟨ad, M, ks, vm, vw, rfl, L, ok, hkp, q⟩
end

section
variable {P : Program} {w : World} {K : PySem.W.Frag} {mg : Str → Option Value} {base : Heap}
abbrev spLPhoto (K : PySem.W.Frag) : Sp := Sp1 fun x H Q => ∃ (ad : Nat → Addr) (M : HM), x = .ref (ad 0) ∧ LM K H ad M ∧ M.Ok ∧ LamX.Tabs (TTs K) H ∧ ∀ (v : V) (H' : Hp), Fr K NoF H H' → PhR (fun b => orTbl H b) H' v M → Q v H'
end

/-! ### d.values(), list(d.values()), sorted(d.values()) -/
section
open PySem.W PySem.Calls PyProof.Rows PyProof.V
variable {X : Cx}
/-- the view d.values() at p -/
def valuesO (p d : Addr) : HO := .ext fun h => h.IsValuesView p d
theorem valuesO_ok {P : Program} {w : World} {H : Hp} {h : Heap} {p d : Addr} (e : h.get? p = some { cls := .type "dict_values", data := .fields #[.ref d] }) : ObjOk P w H h p (valuesO p d) :=
  ⟨⟨_, e, rfl, rfl⟩, ⟨_, e⟩, fun h1 h2 x k => let ⟨o, ho, r⟩ := x; ⟨o, k o ho, r⟩⟩
def rValuesK : V → List V → Hp → VK → Prop := fun x xs H Q => ∃ (a : Addr) (kvs : List (Key × V)), x = .ref a ∧ xs = [] ∧ H a = some (.dK kvs) ∧ ∀ p, H p = none → Q (.ref p) (upd H p (valuesO p a))
theorem mt_valuesK : MtR X "dict.values" rValuesK := by
  intro pins s σ H x xs v us Q I rx rxs h
  obtain ⟨a, kvs, rfl, rfl, ha, q⟩ := h
  cases rx
  cases rxs
  obtain ⟨_, hsys, vs, rel, dof⟩ := dk_of I.hok ha
  have hf : H s.heap.objs.size = none := I.hok.fresh (Nat.le_refl _)
  refine call_meetsIn F.slot_dict_values dof.typeIs F.entry_dict_values (F.args_dict_values_1 _) (meets_dict_values (mixKind X.prog X.w) a hsys) ⟨⟨vs, dof⟩, ?_⟩
  exact ⟨.ref s.heap.objs.size, upd H s.heap.objs.size (valuesO s.heap.objs.size a), I.laid (t' := s.toks) (fun b u e => Heap.get?_push_of_some _ e) (Nat.le_refl _) (valuesO_ok (Heap.get?_push_size _ rfl)), rfl, q _ hf⟩
def rListVals : List V → Hp → VK → Prop := fun xs H Q => ∃ (p a : Addr) (kvs : List (Key × V)), xs = [.ref p] ∧ H p = some (valuesO p a) ∧ H a = some (.dK kvs) ∧ ∀ q, H q = none → Q (.ref q) (upd H q (.lst (kvs.map (·.2))))
theorem call_listV (hc : X.calm = true) : CallR X (.type "list") rListVals := by
  intro pins s σ H xs us Q I r h
  obtain ⟨p, a, kvs, e, hp, ha, q⟩ := h
  subst e
  obtain ⟨u, eu, rx⟩ := vals1 r
  subst eu
  obtain rfl : u = Value.ref p := rx
  have view : s.heap.IsValuesView p a := (show ObjOk X.prog X.w H s.heap p (valuesO p a) from I.hok p _ hp).1
  obtain ⟨z, hsys, vs, rk, dof⟩ := dk_of I.hok ha
  obtain ⟨ep, hat⟩ := dof.dictAt
  have hl : kvs.length = vs.length := Paired.length rk
  refine PySem.W.kdl_call (PySem.W.kdl_values (knd := mixKind X.prog X.w) (kvs := vs) (ep := ep) (r := p) (d := a)) (I.ok.hd hc) ⟨view, hat⟩ (by rw [← hl]; exact z) fun h' tk acc' c' hkeep hS hacc => ?_
  refine ⟨.ref s.heap.objs.size, upd H s.heap.objs.size (.lst (kvs.map (·.2))), I.laid hkeep (Nat.le_refl _) (show ObjOk X.prog X.w _ _ _ (.lst (kvs.map (·.2))) from ⟨?_, acc'.toList, c', ?_, ?_⟩), rfl, q _ (I.hok.fresh (Nat.le_refl _))⟩
  · rw [List.length_map]; exact z
  · have el : acc'.toList.length = acc'.size := by simp
    refine vals_of_at (by rw [List.length_map, el, hacc.1, hl]) fun j x w h1 h2 => ?_
    obtain ⟨k, hky⟩ := hacc.2 j w (by rw [← Array.getElem?_toList]; exact h2)
    obtain ⟨y, e1, e2⟩ := KV.at' rk hky
    rw [List.getElem?_map, e1] at h1
    cases h1
    exact e2
  · rw [Array.toArray_toList]; exact hS
/-- sorted(d.values()), ints -/
def rSortVals : List V → Hp → VK → Prop := fun xs H Q => ∃ (p a : Addr) (kvs : List (Key × V)) (ks : List Int), xs = [.ref p] ∧ H p = some (valuesO p a) ∧ H a = some (.dK kvs) ∧ kvs.map (·.2) = ks.map V.int ∧
  ∀ (ys : List Int) (q : Addr), ys.Perm ks → ys.Pairwise (· ≤ ·) → H q = none → Q (.ref q) (upd H q (.lst (ys.map V.int)))
theorem call_sortedV (hcalm : X.calm = true) : CallR X (.builtin "sorted") rSortVals := by
  intro pins s σ H xs us Q I r q
  obtain ⟨p, a, kvs, ks, ex, hp, hd, hks, q⟩ := q
  subst ex
  obtain ⟨u, eu, rx⟩ := vals1 r
  subst eu
  cases rx
  have view : s.heap.IsValuesView p a := (show ObjOk X.prog X.w H s.heap p (valuesO p a) from I.hok p _ hp).1
  obtain ⟨z, lo, vs, rel, dd⟩ := dk_of I.hok hd
  obtain ⟨ep, hat⟩ := dd.dictAt
  have hkl : kvs.length = ks.length := by
    have e := congrArg List.length hks
    rw [List.length_map, List.length_map] at e
    exact e
  have hl : vs.length = ks.length := (Paired.length rel).symm.trans hkl
  have h16 : vs.length ≤ sizeLine := by rw [hl, ← hkl]; exact z
  refine Calls.call_function_entry PyProof.Rows.kind_sorted PyProof.Rows.plain_sorted PyProof.Rows.entry_sorted (PyProof.Rows.args_sorted1 _) ?_
  unfold Builtin.«sorted»
  refine wpAny_bind (m := checkCount "sorted" 1 1 _) (wpAny_pure ?_)
  refine wpAny_bind (PySem.W.kdu_collect (A := X.A.in1) (PySem.W.kdl_values (knd := mixKind X.prog X.w) (kvs := vs) (ep := ep) (r := p) (d := a)) (I.ok.hd hcalm) ⟨view, hat⟩ h16 fun h' tk acc hk hacc => ?_)
  have hal : acc.toList.length = ks.length := by rw [Array.length_toList, hacc.1, hl]
  have hS : IntsAre acc.toList ks := ints_each hal fun j v e => by
    obtain ⟨k, e1⟩ := hacc.2 j v (by rw [← Array.getElem?_toList]; exact e)
    obtain ⟨y, e2, e3⟩ := KV.at' rel e1
    have e4 : (kvs.map (·.2))[j]? = some y := by rw [List.getElem?_map, e2]; rfl
    rw [hks, List.getElem?_map] at e4
    cases e5 : ks[j]? with
    | none => rw [e5] at e4; cases e4
    | some i =>
      rw [e5] at e4
      have e6 : V.int i = y := Option.some.inj e4
      subst e6
      obtain ⟨t, e7⟩ := e3
      exact ⟨i, t, rfl, e7⟩
  have I1 : Inv X pins σ H { s with heap := h', toks := tk } := I.kept hk
  have hlz : acc.toList.length ≤ sizeLine := by rw [hal, ← hkl]; exact z
  refine wpAny_bind (wpAny_newList ?_ hlz)
  have hoL : (h'.push (seqObj "list" acc.toList.toArray 0)).get? h'.objs.size = some (seqObj "list" acc.toList.toArray 0) := Heap.get?_push_size _ rfl
  show wpAny _ _ _ _ _ { s with heap := h'.push (seqObj "list" acc.toList.toArray 0), toks := tk }
  refine wpAny_bind (wpAny_holding (wpAny_call_entry PyProof.Rows.slot_list_sort ⟨_, hoL, rfl⟩ PyProof.Rows.entry_list_sort
    (SrtO.list_sort_ord (s := { s with heap := h'.push (seqObj "list" acc.toList.toArray 0), toks := tk }) SrtO.swo_int hoL hlz (fun h2 => SrtO.ints_sortable hS h2) fun out h1 h2 => ⟨_, rfl, ?_⟩) (PyProof.Rows.args_list_sort _)))
  obtain ⟨g1, g2, g3⟩ := SrtO.ints_out hS h1 h2
  obtain ⟨e', he'⟩ := PyProof.Rows.sortedHeap_at (vs := acc.toList) (out := out.toArray) hoL
  have hlen : ((out.map SrtO.iv).map V.int).length ≤ sizeLine := by
    rw [List.length_map, g2.length_eq, ← hkl]
    exact z
  refine wpAny_pure ⟨_, rfl, .ref h'.objs.size, upd H h'.objs.size (.lst ((out.map SrtO.iv).map V.int)), I1.laid (t' := tk) (fun b u e => ?_) (Nat.le_refl _)
    (show ObjOk X.prog X.w _ _ _ (.lst ((out.map SrtO.iv).map V.int)) from ⟨hlen, out, e', vals_of_ints g1, he'⟩), rfl, q _ _ g2 g3 (I1.hok.fresh (Nat.le_refl _))⟩
  have hb : b < h'.objs.size := Heap.lt_size e
  rw [PyProof.Rows.sortedHeap_old (Nat.ne_of_lt hb) (by rw [size_push']; exact Nat.lt_succ_of_lt hb)]
  exact Heap.get?_push_of_some _ e
end
section
variable {σ : L2.St} {H : Hp} {Q : VK} {td ty tx : TE}
theorem x_dpop2 (h : td σ H fun x H1 => ∃ a, x = .ref a ∧ IsD H1 a ∧ ty σ H1 fun y H2 => tx σ H2 fun z H3 => ∃ kvs k, H3 a = some (.dK kvs) ∧ y = kV k ∧ (∀ v, valV kvs k = some v → Q v (upd H3 a (.dK (dropK kvs k)))) ∧ (valV kvs k = none → Q z H3)) : tDPop2 td ty tx σ H Q := h
theorem x_dget2 (h : td σ H fun x H1 => ∃ a, x = .ref a ∧ IsD H1 a ∧ ty σ H1 fun y H2 => tx σ H2 fun z H3 => ∃ o, DGet H3 a y o ∧ Q (o.getD z) H3) : tDGet2 td ty tx σ H Q := h
end

/-! ### xs[:0:-1]: the other way about, but the first -/
section
open PySem.W PySem.Calls PyProof.Rows PyProof.V
variable {X : Cx}
theorem pick_rev1 {α : Type} : ∀ (xs : List α), ((sliceRange (sliceBounds none (some 0) (some (-1)) xs.length).1 (sliceBounds none (some 0) (some (-1)) xs.length).2.1 (sliceBounds none (some 0) (some (-1)) xs.length).2.2).filterMap (xs[·]?)) = (xs.drop 1).reverse
  | [] => by
    have e : sliceBounds none (some 0) (some (-1)) ([] : List α).length = (-1, -1, -1) := rfl
    rw [e]
    simp [sliceRange]
  | a :: l => by
    have e : sliceBounds none (some 0) (some (-1)) (a :: l).length = ((l.length : Int), 0, -1) := by
      simp [sliceBounds]
      omega
    rw [e]
    show (sliceRange (l.length : Int) 0 (-1)).filterMap _ = _
    have e2 : sliceRange (l.length : Int) 0 (-1) = ((List.range l.length).map fun k => l.length - 1 - k).map (· + 1) := by
      unfold sliceRange
      have h1 : ¬ ((-1 : Int) > 0) := by decide
      by_cases h : (l.length : Int) > 0
      · have e : ((l.length : Int) - 0 - -1 - 1) / (- -1) = (l.length : Int) := by
          rw [show (- -1 : Int) = 1 by decide, Int.ediv_one]
          omega
        simp only [h1, if_false, h, if_true, e, Int.toNat_natCast, List.map_map]
        apply List.map_congr_left
        intro k hk
        have := List.mem_range.mp hk
        show ((l.length : Int) + -1 * (k : Int)).toNat = l.length - 1 - k + 1
        omega
      · have e : l.length = 0 := by omega
        rw [e]
        simp
    rw [e2, krv_range, List.filterMap_map]
    have e3 : (((a :: l)[·]?) ∘ (· + 1) : Nat → Option α) = (l[·]?) := by funext k; simp
    rw [e3, List.filterMap_reverse]
    have h := krv_all l.toArray
    rw [List.size_toArray] at h
    have e4 : (List.range l.length).filterMap (l[·]?) = l := by
      have e5 : (l.toArray[·]? : Nat → Option α) = (l[·]?) := by funext k; simp
      rw [e5] at h
      exact h
    rw [e4]
    rfl
def tRevU (K : PySem.W.Frag) (te : TE) : TE := fun σ H Q => te σ H fun x H1 => ∃ a xs, x = .ref a ∧ SqL K H1 a xs ∧ ∀ p, H1 p = none → Q (.ref p) (upd H1 p (.lst (xs.drop 1).reverse))
theorem pe_revU {e : Expr} {te : TE} {k k2 : Nat} {p1 p2 p3 p4 pos : Pos} (he : PE X e te) : PE X (.Subscript e (.Slice none (some (.Constant (.int 0) k2 p4)) (some (.UnaryOp .USub (.Constant (.int 1) k p1) p2)) p3) pos) (tRevU X.K te) := by
  refine ⟨fun pins s σ H Q I h => ?_⟩
  refine Subscript_ (thn (he.run pins s σ H _ I h) fun v s1 ⟨x, H1, I1, r1, q1⟩ => ?_)
  obtain ⟨a, xs, ex, hx, q⟩ := q1
  subst ex
  cases r1
  have hst : PO X (some (.UnaryOp .USub (.Constant (.int 1) k p1) p2)) (tPart (tUn (rU fun i => .int (-i)) (tC (.int 1)))) := po_some (pe_un un_neg pe_int)
  have hup : PO X (some (.Constant (.int 0) k2 p4)) (tPart (tC (.int 0))) := po_some pe_int
  refine wpAny_Slice (thn (po_none.run pins s1 σ H1 (fun o H2 => o = none ∧ H2 = H1) I1 ⟨rfl, rfl⟩) fun vl s2 ⟨l, H2, I2, pl, el, e2⟩ => ?_)
  subst el e2
  refine thn (hup.run pins s2 σ H2 (fun o H3 => o = some 0 ∧ H3 = H2) I2 ⟨0, rfl, rfl, rfl⟩) fun vu s3 ⟨u, H3, I3, pu, eu, e3⟩ => ?_
  subst eu e3
  refine thn (hst.run pins s3 σ H3 (fun o H4 => o = some (-1) ∧ H4 = H3) I3 ⟨1, rfl, -1, rfl, rfl, rfl⟩) fun vs s4 ⟨o, H4, I4, ps, eo, e4⟩ => ?_
  subst eo e4
  have I5 : Inv X pins σ H4 { s4 with heap := s4.heap.push { cls := .type "slice", data := .fields #[vl, vu, vs] } } := I4.kept (t' := s4.toks) fun b ob q => Heap.get?_push_of_some _ q
  obtain ⟨its, r, ht, hz⟩ := I5.list hx
  have hlen := r.length
  show wpAny (model X.prog X.w) X.A (subscriptTail e (.Slice none (some (.Constant (.int 0) k2 p4)) (some (.UnaryOp .USub (.Constant (.int 1) k p1) p2)) p3) (.ref a) (.ref s4.heap.objs.size)) (EP X pins σ Q) X.xe { s4 with heap := s4.heap.push { cls := .type "slice", data := .fields #[vl, vu, vs] } }
  refine tail_any (ops := [.ref a, .ref s4.heap.objs.size]) ht.isList.typeIs (PySem.slot_list_getitem.lookup) ?_ (by with_unfolding_all rfl)
  refine wpAny_getItem_list_slice ht.isList (Heap.IsSliceOf.new _ vl vu vs) pl pu ps (by decide) ?_ (by rw [List.size_toArray]; omega)
  have ep : slicePick its.toArray none (some 0) (some (-1)) = (its.drop 1).reverse.toArray := by
    unfold slicePick
    rw [List.size_toArray]
    have e5 : (its.toArray[·]? : Nat → Option Value) = (its[·]?) := by funext k; simp
    rw [e5, pick_rev1]
  rw [ep]
  refine ⟨.ref _, _, I5.laid (t' := s4.toks) (o := .lst (xs.drop 1).reverse) (fun b ob q => Heap.get?_push_of_some _ q) (Nat.le_refl _) ?_, rfl, q _ (I5.hok.fresh (Nat.le_refl _))⟩
  exact ⟨by rw [List.length_reverse, List.length_drop]; omega, _, 0, (r.drop 1).reverse, Heap.get?_push_size _ rfl⟩
end
section
variable {K : PySem.W.Frag} {te : TE} {σ : L2.St} {H : Hp} {Q : VK}
theorem x_revU (h : te σ H fun x H1 => ∃ a xs, x = .ref a ∧ SqL K H1 a xs ∧ ∀ p, H1 p = none → Q (.ref p) (upd H1 p (.lst (xs.drop 1).reverse))) : tRevU K te σ H Q := h
end
/-! rules whose reading names the written part, for blocks in blocks -/
section
variable {X : Cx} {K : PySem.W.Frag} {tg : Expr}
theorem pi_listK {l : Expr} {tl : TE} (h : X.K = K) (p : PE X l tl) : PI X tg l (iList K tl) := h ▸ pi_list p
theorem pi_tupK {l : Expr} {tl : TE} (h : X.K = K) (p : PE X l tl) : PI X tg l (iTup K tl) := h ▸ pi_tup p
theorem cr_sumK (h : X.K = K) (hc : X.calm = true) : CallR X (.builtin "sum") (rSum K) := h ▸ cr_sum hc
theorem op_eqDK (h : X.K = K) (hu : X.A.units + 64 < cLine) : OpR X (compareOp .Eq) (rEqD K) := h ▸ op_eqD hu
theorem op_neDK (h : X.K = K) (hu : X.A.units + 64 < cLine) : OpR X (compareOp .NotEq) (rNeD K) := h ▸ op_neD hu
theorem cr_sortedIK (h : X.K = K) : CallR X (.builtin "sorted") (rSortedI K) := h ▸ cr_sortedI
theorem call_list_ofK (h : X.K = K) : CallR X (.type "list") (fun xs H Q => ∃ p ys, xs = [.ref p] ∧ (SqL K H p ys ∨ SqT K H p ys) ∧ ∀ l, H l = none → Q (.ref l) (upd H l (.lst ys))) := h ▸ call_list_of
theorem sl_listK (h : X.K = K) : SlR X (rSlL K) := h ▸ sl_list
end

/-! ### masters: graphs of whole numbers with a top, walked in an order of ranks -/
section
/-- come to from the top without going through d -/
inductive AvS (E : Int → Int → Prop) (d : Int) : Int → Prop where
  | top (h : d ≠ -1) : AvS E d (-1)
  | step {p n : Int} (a : AvS E d p) (e : E p n) (h : n ≠ d) : AvS E d n
/-- the same, with at most so many edges that don't go on in the order -/
inductive Av (E : Int → Int → Prop) (rk : Int → Nat) (d : Int) : Nat → Int → Prop where
  | top {k : Nat} (h : d ≠ -1) : Av E rk d k (-1)
  | fwd {k : Nat} {p n : Int} (a : Av E rk d k p) (e : E p n) (r : rk p < rk n) (h : n ≠ d) : Av E rk d k n
  | bck {k : Nat} {p n : Int} (a : Av E rk d k p) (e : E p n) (h : n ≠ d) : Av E rk d (k + 1) n
structure DG (E : Int → Int → Prop) (S : Int → Prop) (rk : Int → Nat) : Prop where
  top : S (-1)
  cl : ∀ n m, S n → E n m → S m
  nt : ∀ n m, E n m → m ≠ -1
  inj : ∀ a b, S a → S b → rk a = rk b → a = b
  r0 : rk (-1) = 0
  tree : ∀ n, S n → n ≠ -1 → ∃ p, S p ∧ E p n ∧ rk p < rk n
variable {E : Int → Int → Prop} {S : Int → Prop} {rk : Int → Nat} {d n m a b c r : Int} {k K : Nat}
theorem Av.ne (h : Av E rk d k n) : n ≠ d := by
  cases h with
  | top h => exact fun z => h z.symm
  | fwd _ _ _ h => exact h
  | bck _ _ h => exact h
theorem Av.succ (h : Av E rk d k n) : Av E rk d (k + 1) n := by
  induction h with
  | top h => exact .top h
  | fwd _ e r h ih => exact .fwd ih e r h
  | bck _ e h ih => exact .bck ih e h
theorem Av.mono (h : Av E rk d k n) {j : Nat} (l : k ≤ j) : Av E rk d j n := by
  induction j with
  | zero => rw [Nat.le_zero.mp l] at h; exact h
  | succ j ih =>
    by_cases c : k = j + 1
    · exact c ▸ h
    · exact (ih (by omega)).succ
theorem Av.inS (D : DG E S rk) (h : Av E rk d k n) : S n := by
  induction h with
  | top _ => exact D.top
  | fwd _ e _ _ ih => exact D.cl _ _ ih e
  | bck _ e _ ih => exact D.cl _ _ ih e
theorem AvS.av (h : AvS E d n) : ∃ k, Av E rk d k n := by
  induction h with
  | top h => exact ⟨0, .top h⟩
  | step _ e h ih => obtain ⟨k, ih⟩ := ih; exact ⟨k + 1, .bck ih e h⟩
theorem Av.avs (h : Av E rk d k n) : AvS E d n := by
  induction h with
  | top h => exact .top h
  | fwd _ e _ h ih => exact .step ih e h
  | bck _ e h ih => exact .step ih e h
/-- a way around d that isn't one around m goes through m -/
theorem Av.thru (h : Av E rk d k n) (nm : ¬ Av E rk m k n) (ht : m ≠ -1) : Av E rk d k m := by
  induction h with
  | top h => exact absurd (.top ht) nm
  | @fwd k p n a e r h ih =>
    by_cases c : n = m
    · exact c ▸ .fwd a e r h
    · exact ih fun z => nm (.fwd z e r c)
  | @bck k p n a e h ih =>
    by_cases c : n = m
    · exact c ▸ .bck a e h
    · exact (ih fun z => nm (.bck z e c)).succ
def DomG (E : Int → Int → Prop) (d n : Int) : Prop := ¬ AvS E d n
theorem DomG.hold (h : DomG E d n) (e : E a n) (ne : n ≠ d) : DomG E d a := fun z => h (.step z e ne)
/-- what was found so far: for some their masters -/
structure FOk (S : Int → Prop) (rk : Int → Nat) (f : Int → Option Int) : Prop where
  ftop : f (-1) = some (-1)
  fS : ∀ n x, f n = some x → S n
  fup : ∀ n x, n ≠ -1 → f n = some x → S x ∧ rk x < rk n ∧ (f x).isSome = true
inductive An (f : Int → Option Int) (a : Int) : Int → Prop where
  | refl : An f a a
  | up {b c : Int} (n : b ≠ -1) (e : f b = some c) (h : An f a c) : An f a b
variable {f : Int → Option Int}
theorem An.trans (h : An f b c) (g : An f a b) : An f a c := by
  induction h with
  | refl => exact g
  | up n e _ ih => exact .up n e ih
theorem An.le (F : FOk S rk f) (h : An f a b) : a = b ∨ rk a < rk b := by
  induction h with
  | refl => exact .inl rfl
  | up n e _ ih =>
    have := (F.fup _ _ n e).2.1
    rcases ih with ih | ih
    · exact .inr (ih ▸ this)
    · exact .inr (by omega)
theorem An.dfd (F : FOk S rk f) (h : An f a b) (s : (f b).isSome = true) : (f a).isSome = true := by
  induction h with
  | refl => exact s
  | up n e _ ih => exact ih (F.fup _ _ n e).2.2
theorem An.top (F : FOk S rk f) : ∀ (k : Nat) (b : Int), rk b ≤ k → (f b).isSome = true → An f (-1) b
  | k, b, l, s => by
    by_cases c : b = -1
    · exact c ▸ .refl
    · obtain ⟨x, e⟩ := Option.isSome_iff_exists.mp s
      obtain ⟨_, h2, h3⟩ := F.fup _ _ c e
      cases k with
      | zero => omega
      | succ k => exact .up c e (An.top F k x (by omega) h3)
theorem An.top' (F : FOk S rk f) (s : (f b).isSome = true) : An f (-1) b := An.top F _ _ (Nat.le_refl _) s
theorem An.anti (F : FOk S rk f) (h : An f a b) (g : An f b a) : a = b := by
  rcases h.le F with h | h
  · exact h
  · rcases g.le F with g | g
    · exact g.symm
    · omega
theorem An.proper (h : An f a b) (ne : a ≠ b) : ∃ c, b ≠ -1 ∧ f b = some c ∧ An f a c := by
  cases h with
  | refl => exact absurd rfl ne
  | up n e h => exact ⟨_, n, e, h⟩
/-- the nearest of all that keep each of some -/
def NcaL (f : Int → Option Int) (r : Int) (ps : List Int) : Prop := (∀ p ∈ ps, An f r p) ∧ ∀ z, (∀ p ∈ ps, An f z p) → An f z r
theorem NcaL.one : NcaL f a [a] := ⟨fun p m => by rw [List.mem_singleton] at m; exact m ▸ .refl, fun z h => h a (by simp)⟩
def Nca (f : Int → Option Int) (r a b : Int) : Prop := An f r a ∧ An f r b ∧ ∀ z, An f z a → An f z b → An f z r
theorem NcaL.more {ps : List Int} {r' q : Int} (h : NcaL f r ps) (g : Nca f r' r q) : NcaL f r' (ps ++ [q]) := by
  refine ⟨fun p m => ?_, fun z hz => g.2.2 z (h.2 z fun p m => hz p (by simp [m])) (hz q (by simp))⟩
  rcases List.mem_append.mp m with m | m
  · exact (h.1 p m).trans g.1
  · rw [List.mem_singleton] at m; exact m ▸ g.2.1
theorem nca_stepA (D : DG E S rk) (F : FOk S rk f) (l : rk b < rk a) (s : (f a).isSome = true) : ∃ c, f a = some c ∧ a ≠ -1 ∧ rk c < rk a ∧ (f c).isSome = true ∧ An f c a ∧ ∀ z, An f z a → An f z b → An f z c := by
  have na : a ≠ -1 := fun z => by rw [z, D.r0] at l; omega
  obtain ⟨c, e⟩ := Option.isSome_iff_exists.mp s
  obtain ⟨_, h2, h3⟩ := F.fup _ _ na e
  refine ⟨c, e, na, h2, h3, .up na e .refl, fun z h g => ?_⟩
  have nz : z ≠ a := fun y => by
    rcases g.le F with g | g
    · rw [← g, y] at l; omega
    · rw [y] at g; omega
  obtain ⟨c', _, e', h⟩ := h.proper nz
  rw [e] at e'
  cases e'
  exact h
/-- masters told anew for one -/
def upF (f : Int → Option Int) (m r : Int) : Int → Option Int := fun x => if x = m then some r else f x
theorem upF_same : upF f m r m = some r := if_pos rfl
theorem upF_ne (h : n ≠ m) : upF f m r n = f n := if_neg h
theorem upF_some (h : (f n).isSome = true) : (upF f m r n).isSome = true := by
  unfold upF
  split
  · rfl
  · exact h
/-- holders of one that were found already -/
structure HoL (E : Int → Int → Prop) (S : Int → Prop) (f : Int → Option Int) (m : Int) (ps : List Int) : Prop where
  ok : ∀ p ∈ ps, S p ∧ E p m ∧ (f p).isSome = true
  all : ∀ p, S p → E p m → (f p).isSome = true → p ∈ ps
theorem upF_ok (F : FOk S rk f) (hS : S m) (nm : m ≠ -1) {ps : List Int} (N : NcaL f r ps) (o : ∀ p ∈ ps, S p ∧ (f p).isSome = true) {p : Int} (hp : p ∈ ps) (l : rk p < rk m) : FOk S rk (upF f m r) ∧ rk r < rk m ∧ (f r).isSome = true := by
  have h1 := N.1 p hp
  have sr := h1.dfd F (o p hp).2
  have lr : rk r < rk m := by
    rcases h1.le F with z | z
    · exact z ▸ l
    · omega
  obtain ⟨y, ey⟩ := Option.isSome_iff_exists.mp sr
  refine ⟨⟨by rw [upF_ne fun z => nm z.symm]; exact F.ftop, fun n x e => ?_, fun n x nn e => ?_⟩, lr, sr⟩
  · by_cases c : n = m
    · exact c ▸ hS
    · rw [upF_ne c] at e; exact F.fS _ _ e
  · by_cases c : n = m
    · subst c
      rw [upF_same] at e
      cases e
      exact ⟨F.fS _ _ ey, lr, upF_some sr⟩
    · rw [upF_ne c] at e
      obtain ⟨h1, h2, h3⟩ := F.fup _ _ nn e
      exact ⟨h1, h2, upF_some h3⟩
/-- below m nothing changes -/
theorem upF_low (F : FOk S rk f) (l : rk b < rk m) (h : An (upF f m r) a b) : An f a b := by
  induction h with
  | refl => exact .refl
  | @up b c n e h ih =>
    have nb : b ≠ m := fun z => by rw [z] at l; omega
    rw [upF_ne nb] at e
    exact .up n e (ih (by have := (F.fup _ _ n e).2.1; omega))
theorem upF_low' (F : FOk S rk f) (l : rk b < rk m) (h : An f a b) : An (upF f m r) a b := by
  induction h with
  | refl => exact .refl
  | @up b c n e h ih =>
    have nb : b ≠ m := fun z => by rw [z] at l; omega
    exact .up n (by rw [upF_ne nb]; exact e) (ih (by have := (F.fup _ _ n e).2.1; omega))
/-- a row of masters behind the change: as it was, or through m -/
theorem upF_thru (F' : FOk S rk (upF f m r)) (h : An (upF f m r) a b) : An f a b ∨ (An f m b ∧ a ≠ m ∧ An (upF f m r) a r) := by
  induction h with
  | refl => exact .inl .refl
  | @up b c n e h ih =>
    by_cases cb : b = m
    · subst cb
      rw [upF_same] at e
      cases e
      refine .inr ⟨.refl, fun z => ?_, h⟩
      rcases h.le F' with y | y
      · have := (F'.fup _ _ n upF_same).2.1; rw [← y, z] at this; omega
      · have := (F'.fup _ _ n upF_same).2.1; rw [z] at y; omega
    · rw [upF_ne cb] at e
      rcases ih with ih | ⟨h1, h2⟩
      · exact .inl (.up n e ih)
      · exact .inr ⟨.up n e h1, h2⟩
/-! #### what is a master's master keeps; told true ones stay -/
def InvA (E : Int → Int → Prop) (f : Int → Option Int) : Prop := ∀ n x, n ≠ -1 → f n = some x → ∀ d, DomG E d n → d ≠ n → DomG E d x
theorem InvA.walk (F : FOk S rk f) (I : InvA E f) (h : An f a b) (g : DomG E d b) : DomG E d a ∨ (An f d b ∧ An f a d ∧ d ≠ a) := by
  induction h with
  | refl => exact .inl g
  | @up b c n e h ih =>
    by_cases cb : d = b
    · subst cb
      refine .inr ⟨.refl, .up n e h, fun z => ?_⟩
      have := (F.fup _ _ n e).2.1
      rcases h.le F with y | y
      · rw [← z] at y; rw [← y] at this; omega
      · rw [← z] at y; omega
    · rcases ih (I _ _ n e d g cb) with h1 | ⟨h1, h2⟩
      · exact .inl h1
      · exact .inr ⟨.up n e h1, h2⟩
theorem InvA.on (F : FOk S rk f) (I : InvA E f) (s : (f b).isSome = true) (g : DomG E d b) : An f d b := by
  rcases I.walk F (An.top' F s) g with h | ⟨h, _⟩
  · by_cases c : d = -1
    · exact c ▸ An.top' F s
    · exact absurd (.top c) h
  · exact h
theorem InvA.upd (F : FOk S rk f) (I : InvA E f) {ps : List Int} (N : NcaL f r ps) (o : ∀ p ∈ ps, E p m ∧ (f p).isSome = true) {p : Int} (hp : p ∈ ps) : InvA E (upF f m r) := by
  intro n x nn e d g ne
  by_cases c : n = m
  · subst c
    rw [upF_same] at e
    cases e
    have dp : ∀ q ∈ ps, DomG E d q := fun q hq => g.hold (o q hq).1 fun z => ne z.symm
    have dr : An f d r := N.2 d fun q hq => I.on F (o q hq).2 (dp q hq)
    rcases I.walk F (N.1 p hp) (dp p hp) with h | ⟨_, h, h2⟩
    · exact h
    · exact absurd (dr.anti F h) h2
  · rw [upF_ne c] at e
    exact I n x nn e d g ne
/-! #### what isn't kept is found out, turn by turn -/
structure InvQ (E : Int → Int → Prop) (S : Int → Prop) (rk : Int → Nat) (f : Int → Option Int) (K ρ : Nat) : Prop where
  p : ∀ d n k, k < K → Av E rk d k n → ¬ An f d n
  q : ∀ d n k, k ≤ K → rk n < ρ → Av E rk d k n → ¬ An f d n
  dp : 0 < K → ∀ n, S n → (f n).isSome = true
  dq : ∀ n, S n → rk n < ρ → (f n).isSome = true
theorem InvQ.upd (D : DG E S rk) (F : FOk S rk f) (Q : InvQ E S rk f K (rk m)) (hS : S m) (nm : m ≠ -1) {ps : List Int} (N : NcaL f r ps) (H : HoL E S f m ps) {p : Int} (hp : p ∈ ps) (l : rk p < rk m) : InvQ E S rk (upF f m r) K (rk m + 1) := by
  obtain ⟨F', lr, sr⟩ := upF_ok F hS nm N (fun q hq => ⟨(H.ok q hq).1, (H.ok q hq).2.2⟩) hp l
  have toP : ∀ d k, k < K → Av E rk d k m → ¬ An f d r := by
    intro d k hk h z
    have key : ∀ q j, j < K → Av E rk d j q → E q m → False := fun q j hj a e => by
      have sq := a.inS D
      have iq := H.all q sq e (Q.dp (by omega) q sq)
      exact Q.p d q j hj a ((N.1 q iq).trans z)
    cases h with
    | top _ => exact nm rfl
    | fwd a e _ _ => exact key _ _ hk a e
    | bck a e _ => exact key _ _ (by omega) a e
  have rlow : ∀ {a : Int}, An (upF f m r) a r → An f a r := fun h => upF_low F lr h
  refine ⟨fun d n k hk h z => ?_, fun d n k hk hr h z => ?_, fun h n s => upF_some (Q.dp h n s), fun n s hr => ?_⟩
  · rcases upF_thru F' z with z | ⟨z1, z2, z3⟩
    · exact Q.p d n k hk h z
    · exact toP d k hk (h.thru (fun y => Q.p m n k hk y z1) nm) (rlow z3)
  · by_cases c : rk n = rk m
    · have := D.inj _ _ (h.inS D) hS c
      subst this
      obtain ⟨c, _, e, z⟩ := z.proper (fun y => h.ne y.symm)
      rw [upF_same] at e
      cases e
      have z := rlow z
      cases h with
      | top _ => exact nm rfl
      | @fwd _ q _ a e lq _ =>
        have sq := a.inS D
        have iq := H.all q sq e (Q.dq q sq lq)
        exact Q.q d q k hk lq a ((N.1 q iq).trans z)
      | @bck k' q _ a e _ =>
        have sq := a.inS D
        have iq := H.all q sq e (Q.dp (by omega) q sq)
        exact Q.p d q k' (by omega) a ((N.1 q iq).trans z)
    · exact Q.q d n k hk (by omega) h (upF_low F (by omega) z)
  · by_cases c : n = m
    · rw [c, upF_same]; rfl
    · have : rk n ≠ rk m := fun z => c (D.inj _ _ s hS z)
      exact upF_some (Q.dq n s (by omega))
theorem InvQ.same (Q : InvQ E S rk f K (rk m)) (D : DG E S rk) (hS : S m) (F : FOk S rk f) (nm : m ≠ -1) {ps : List Int} (N : NcaL f r ps) (H : HoL E S f m ps) {p : Int} (hp : p ∈ ps) (l : rk p < rk m) (e : f m = some r) : InvQ E S rk f K (rk m + 1) := by
  have : upF f m r = f := by
    funext x
    unfold upF
    split
    · rename_i c; rw [c, e]
    · rfl
  have h := Q.upd D F hS nm N H hp l
  rw [this] at h
  exact h
theorem InvQ.start (D : DG E S rk) (F : FOk S rk f) (h : ∀ n x, f n = some x → n = -1) : InvQ E S rk f 0 1 := by
  refine ⟨fun d n k hk => by omega, fun d n k hk hr h z => ?_, fun h => by omega, fun n s hr => ?_⟩
  · have : n = -1 := D.inj _ _ (h.inS D) D.top (by rw [D.r0]; omega)
    subst this
    cases z with
    | refl => exact h.ne rfl
    | up n _ _ => exact n rfl
  · have : n = -1 := D.inj _ _ s D.top (by rw [D.r0]; omega)
    rw [this, F.ftop]; rfl
theorem InvQ.turn {ρ : Nat} (D : DG E S rk) (Q : InvQ E S rk f K ρ) (F : FOk S rk f) (h : ∀ n, S n → rk n < ρ) : InvQ E S rk f (K + 1) 1 := by
  refine ⟨fun d n k hk a => Q.q d n k (by omega) (h n (a.inS D)) a, fun d n k hk hr a z => ?_, fun _ n s => Q.dq n s (h n s), fun n s _ => Q.dq n s (h n s)⟩
  have : n = -1 := D.inj _ _ (a.inS D) D.top (by rw [D.r0]; omega)
  subst this
  cases z with
  | refl => exact a.ne rfl
  | up n _ _ => exact n rfl
/-- as many turns as find out all -/
theorem av_bound (E : Int → Int → Prop) (rk : Int → Nat) : ∀ (l : List (Int × Int)), ∃ B, ∀ x ∈ l, ∀ k, Av E rk x.1 k x.2 → Av E rk x.1 B x.2
  | [] => ⟨0, fun x m => by cases m⟩
  | y :: l => by
    obtain ⟨B, hB⟩ := av_bound E rk l
    by_cases c : ∃ k, Av E rk y.1 k y.2
    · obtain ⟨k, hk⟩ := c
      refine ⟨max B k, fun x m j h => ?_⟩
      rcases List.mem_cons.mp m with m | m
      · subst m; exact hk.mono (Nat.le_max_right _ _)
      · exact (hB x m j h).mono (Nat.le_max_left _ _)
    · refine ⟨B, fun x m j h => ?_⟩
      rcases List.mem_cons.mp m with m | m
      · subst m; exact absurd ⟨j, h⟩ c
      · exact hB x m j h
/-- then nothing is told anew -/
theorem settled (F : FOk S rk f) (I : InvA E f) (hD : ∀ d n, S n → An f d n → DomG E d n) (hS : S m) (nm : m ≠ -1) {ps : List Int} (N : NcaL f r ps) (H : HoL E S f m ps) (tot : ∀ n, S n → (f n).isSome = true) (cl : ∀ n p, S n → E p n → AvS E r p → S p) {p : Int} (hp : p ∈ ps) (l : rk p < rk m) : f m = some r := by
  obtain ⟨c, e⟩ := Option.isSome_iff_exists.mp (tot m hS)
  obtain ⟨sc, lc, dc⟩ := F.fup _ _ nm e
  have cm : c ≠ m := fun z => by rw [z] at lc; omega
  have lr : rk r < rk m := by
    rcases (N.1 p hp).le F with z | z
    · exact z ▸ l
    · omega
  have rm : r ≠ m := fun z => by rw [z] at lr; omega
  have h1 : An f c r := N.2 c fun q hq => I.on F (H.ok q hq).2.2 ((hD c m hS (.up nm e .refl)).hold (H.ok q hq).2.1 fun z => cm z.symm)
  have h2 : DomG E r m := fun z => by
    cases z with
    | top _ => exact nm rfl
    | @step q _ a e' ne =>
      have sq := cl m q hS e' a
      exact hD r q sq (N.1 q (H.all q sq e' (tot q sq))) a
  obtain ⟨c', _, e', h3⟩ := (I.on F (tot m hS) h2).proper rm
  rw [e] at e'
  cases e'
  rw [e, h1.anti F h3]
/-- where nothing was told anew, just the true ones are told -/
theorem final (D : DG E S rk) (hB : ∀ n p x, S n → n ≠ -1 → S p → E p n → f n = some x → An f x p) (a : AvS E d n) : ¬ An f d n := by
  obtain ⟨k, a⟩ := a.av (rk := rk)
  have key : ∀ {n : Int} {k : Nat}, Av E rk d k n → ¬ An f d n := by
    intro n k a
    have st : ∀ {p n : Int}, S p → ¬ An f d p → E p n → n ≠ d → ¬ An f d n := fun {p n} sp ih e ne z => by
      obtain ⟨c, n1, e1, z⟩ := z.proper fun y => ne y.symm
      exact ih ((hB n p c (D.cl _ _ sp e) n1 sp e e1).trans z)
    induction a with
    | top h => intro z; cases z with
      | refl => exact h rfl
      | up n _ _ => exact n rfl
    | fwd a e _ h ih => exact st (a.inS D) ih e h
    | bck a e h ih => exact st (a.inS D) ih e h
  exact key a
end

/-! ### the order in which a graph is left -/
section
inductive RchG (E : Int → Int → Prop) : Int → Prop where
  | top : RchG E (-1)
  | step {p n : Int} (a : RchG E p) (e : E p n) : RchG E n
abbrev EW (W : Int → List Int) : Int → Int → Prop := fun p x => x ∈ W p
def TreeP (W : Int → List Int) : List Int → Prop
  | [] => True
  | x :: b => (x ≠ -1 → ∃ p ∈ b, x ∈ W p) ∧ TreeP W b
theorem TreeP.put {W : Int → List Int} {o : Int} {v : List Int} (h : ∃ p ∈ v, o ∈ W p) : ∀ {u : List Int}, TreeP W (u ++ v) → TreeP W (u ++ o :: v)
  | [], t => ⟨fun _ => h, t⟩
  | x :: u, t => by
    refine ⟨fun nx => ?_, TreeP.put h t.2⟩
    obtain ⟨p, m, e⟩ := t.1 nx
    refine ⟨p, ?_, e⟩
    rcases List.mem_append.mp m with m | m
    · exact List.mem_append.mpr (.inl m)
    · exact List.mem_append.mpr (.inr (List.mem_cons_of_mem _ m))
theorem TreeP.at {W : Int → List Int} {x : Int} : ∀ {u v : List Int}, TreeP W (u ++ x :: v) → x ≠ -1 → ∃ p ∈ v, x ∈ W p
  | [], _, t, n => t.1 n
  | _ :: _, _, t, n => TreeP.at t.2 n
/-- the order so far: what is left already, then what is still stood on, last first -/
abbrev ordS (fd : List Int) (lf : List (Int × Nat)) : List Int := fd ++ (lf.map (·.1)).reverse
structure DInv (W : Int → List Int) (NS : List Int) (ms fd : List Int) (lf : List (Int × Nat)) : Prop where
  mt : ∀ x, x ∈ ms ↔ x ∈ ordS fd lf
  nd : (ordS fd lf).Nodup
  lst : ∃ rest, ordS fd lf = rest ++ [-1]
  tr : TreeP W (ordS fd lf)
  cf : ∀ x ∈ fd, ∀ y ∈ W x, y ∈ ms
  cl : ∀ z ∈ lf, z.2 ≤ (W z.1).length ∧ ∀ (i : Nat) (y : Int), i < z.2 → (W z.1)[i]? = some y → y ∈ ms
  ns : ∀ x ∈ ms, x ∈ NS
  rc : ∀ x ∈ ms, RchG (EW W) x
  mn : ms.Nodup
variable {W : Int → List Int} {NS ms fd : List Int} {lf lf0 : List (Int × Nat)} {n o : Int} {pl : Nat}
theorem DInv.start (h : (-1 : Int) ∈ NS) : DInv W NS [-1] [] [(-1, 0)] := by
  refine ⟨fun x => Iff.rfl, by simp, ⟨[], rfl⟩, ⟨fun h => absurd rfl h, trivial⟩, fun x m => (by cases m), fun z m => ?_, fun x m => ?_, fun x m => ?_, by simp⟩
  · rw [List.mem_singleton.mp m]
    exact ⟨Nat.zero_le _, fun i y h => absurd h (Nat.not_lt_zero _)⟩
  · rw [List.mem_singleton.mp m]; exact h
  · rw [List.mem_singleton.mp m]; exact .top
theorem ordS_fin : ordS (fd ++ [n]) lf0 = ordS fd (lf0 ++ [(n, pl)]) := by
  show (fd ++ [n]) ++ _ = fd ++ ((lf0 ++ [(n, pl)]).map (·.1)).reverse
  rw [List.map_append, List.reverse_append, List.append_assoc]
  rfl
theorem DInv.fin (I : DInv W NS ms fd (lf0 ++ [(n, pl)])) (e : pl = (W n).length) : DInv W NS ms (fd ++ [n]) lf0 := by
  have eo := ordS_fin (fd := fd) (lf0 := lf0) (n := n) (pl := pl)
  refine ⟨fun x => by rw [eo]; exact I.mt x, by rw [eo]; exact I.nd, by rw [eo]; exact I.lst, by rw [eo]; exact I.tr, fun x m y hy => ?_, fun z m => I.cl z (List.mem_append.mpr (.inl m)), I.ns, I.rc, I.mn⟩
  rcases List.mem_append.mp m with m | m
  · exact I.cf x m y hy
  · rw [List.mem_singleton] at m
    subst m
    obtain ⟨i, hi⟩ := List.mem_iff_getElem?.mp hy
    exact (I.cl (x, pl) (by simp)).2 i y (by rw [e]; exact (List.getElem?_eq_some_iff.mp hi).1) hi
theorem DInv.adv (I : DInv W NS ms fd (lf0 ++ [(n, pl)])) (e : (W n)[pl]? = some o) (ho : o ∈ ms) : DInv W NS ms fd (lf0 ++ [(n, pl + 1)]) := by
  have eo : ordS fd (lf0 ++ [(n, pl + 1)]) = ordS fd (lf0 ++ [(n, pl)]) := by rw [← ordS_fin, ← ordS_fin]
  refine ⟨fun x => by rw [eo]; exact I.mt x, by rw [eo]; exact I.nd, by rw [eo]; exact I.lst, by rw [eo]; exact I.tr, I.cf, fun z m => ?_, I.ns, I.rc, I.mn⟩
  rcases List.mem_append.mp m with m | m
  · exact I.cl z (List.mem_append.mpr (.inl m))
  · rw [List.mem_singleton] at m
    subst m
    refine ⟨(List.getElem?_eq_some_iff.mp e).1, fun i y h hi => ?_⟩
    by_cases c : i = pl
    · rw [c, e] at hi; cases hi; exact ho
    · exact (I.cl (n, pl) (by simp)).2 i y (by show i < pl; have : i < pl + 1 := h; omega) hi
theorem DInv.push (I : DInv W NS ms fd (lf0 ++ [(n, pl)])) (e : (W n)[pl]? = some o) (ho : o ∉ ms) (hn : o ∈ NS) : DInv W NS (ms ++ [o]) fd (lf0 ++ [(n, pl + 1)] ++ [(o, 0)]) := by
  have eo : ordS fd (lf0 ++ [(n, pl)]) = fd ++ (n :: (lf0.map (·.1)).reverse) := by
    show fd ++ ((lf0 ++ [(n, pl)]).map (·.1)).reverse = _
    rw [List.map_append, List.reverse_append]
    rfl
  have eo' : ordS fd (lf0 ++ [(n, pl + 1)] ++ [(o, 0)]) = fd ++ o :: (n :: (lf0.map (·.1)).reverse) := by
    show fd ++ ((lf0 ++ [(n, pl + 1)] ++ [(o, 0)]).map fun z : Int × Nat => z.1).reverse = _
    rw [List.map_append, List.map_append, List.reverse_append, List.reverse_append]
    rfl
  have mt := I.mt
  have nd := I.nd
  have tr := I.tr
  obtain ⟨rest, lst⟩ := I.lst
  rw [eo] at nd tr lst
  simp only [eo] at mt
  have on : o ∈ W n := List.mem_iff_getElem?.mpr ⟨pl, e⟩
  have pm : (fd ++ o :: (n :: (lf0.map (·.1)).reverse)).Perm (o :: (fd ++ (n :: (lf0.map (·.1)).reverse))) := List.perm_middle
  refine ⟨fun x => ?_, ?_, ?_, ?_, fun x m y hy => List.mem_append.mpr (.inl (I.cf x m y hy)), fun z m => ?_, fun x m => ?_, fun x m => ?_, ?_⟩
  · rw [eo', pm.mem_iff, List.mem_append, List.mem_singleton, List.mem_cons, mt x]
    exact Or.comm
  · rw [eo', pm.nodup_iff, List.nodup_cons]
    exact ⟨fun z => ho ((mt o).mpr z), nd⟩
  · rw [eo']
    have h2 : ∃ r2, n :: (lf0.map (·.1)).reverse = r2 ++ [-1] := by
      have hne : (n :: (lf0.map (·.1)).reverse) ≠ [] := by simp
      refine ⟨(n :: (lf0.map (·.1)).reverse).dropLast, ?_⟩
      have h3 : (fd ++ (n :: (lf0.map (·.1)).reverse)).getLast (by simp) = -1 := by
        simp only [lst]; simp
      rw [List.getLast_append_of_ne_nil (by simp) hne] at h3
      rw [← h3]
      exact (List.dropLast_concat_getLast hne).symm
    obtain ⟨r2, h2⟩ := h2
    exact ⟨fd ++ o :: r2, by rw [h2]; simp⟩
  · rw [eo']
    exact TreeP.put ⟨n, List.mem_cons_self .., on⟩ tr
  · rcases List.mem_append.mp m with m | m
    · rcases List.mem_append.mp m with m | m
      · obtain ⟨h1, h2⟩ := I.cl z (List.mem_append.mpr (.inl m))
        exact ⟨h1, fun i y hi hy => List.mem_append.mpr (.inl (h2 i y hi hy))⟩
      · rw [List.mem_singleton] at m
        subst m
        refine ⟨(List.getElem?_eq_some_iff.mp e).1, fun i y h hi => ?_⟩
        by_cases c : i = pl
        · rw [c, e] at hi; cases hi; simp
        · exact List.mem_append.mpr (.inl ((I.cl (n, pl) (by simp)).2 i y (by show i < pl; have : i < pl + 1 := h; omega) hi))
    · rw [List.mem_singleton] at m
      subst m
      exact ⟨Nat.zero_le _, fun i y h => by have : i < 0 := h; omega⟩
  · rcases List.mem_append.mp m with m | m
    · exact I.ns x m
    · rw [List.mem_singleton] at m; exact m ▸ hn
  · rcases List.mem_append.mp m with m | m
    · exact I.rc x m
    · rw [List.mem_singleton] at m
      exact m ▸ .step (I.rc n ((I.mt n).mpr (by rw [eo]; simp))) on
  · rw [List.nodup_append]
    refine ⟨I.mn, by simp, fun a ma b mb z => ?_⟩
    rw [List.mem_singleton] at mb
    exact ho (mb ▸ z ▸ ma)
/-! #### how long it takes -/
def muU (W : Int → List Int) (ms : List Int) : List Int → Nat
  | [] => 0
  | x :: l => (if x ∈ ms then 0 else (W x).length + 1) + muU W ms l
def muL (W : Int → List Int) : List (Int × Nat) → Nat
  | [] => 0
  | z :: l => ((W z.1).length + 1 - z.2) + muL W l
theorem muL_app : ∀ {l l' : List (Int × Nat)}, muL W (l ++ l') = muL W l + muL W l'
  | [], l' => by simp [muL]
  | z :: l, l' => by simp only [List.cons_append, muL, muL_app (l := l)]; omega
theorem muU_le : ∀ {l : List Int}, muU W (ms ++ [o]) l ≤ muU W ms l
  | [] => Nat.le_refl _
  | x :: l => by
    have := muU_le (l := l)
    simp only [muU, List.mem_append, List.mem_singleton]
    split <;> split <;> first | omega | (rename_i h1 h2; exact absurd (.inl h2) h1)
theorem muU_put (ho : o ∉ ms) : ∀ {l : List Int}, o ∈ l → muU W (ms ++ [o]) l + ((W o).length + 1) ≤ muU W ms l
  | [], h => by cases h
  | x :: l, h => by
    have hl := muU_le (W := W) (ms := ms) (o := o) (l := l)
    by_cases c : x = o
    · subst c
      have h1 : x ∈ ms ++ [x] := by simp
      simp only [muU, if_pos h1, if_neg ho]
      omega
    · have := muU_put ho (l := l) ((List.mem_cons.mp h).resolve_left fun z => c z.symm)
      simp only [muU, List.mem_append, List.mem_singleton]
      split <;> split <;> first | omega | (rename_i h1 h2; exact absurd (.inl h2) h1)
theorem mu_fin (e : pl = (W n).length) : muU W ms NS + muL W lf0 < muU W ms NS + muL W (lf0 ++ [(n, pl)]) := by
  rw [muL_app]; simp only [muL]; omega
theorem mu_adv (e : pl < (W n).length) : muU W ms NS + muL W (lf0 ++ [(n, pl + 1)]) < muU W ms NS + muL W (lf0 ++ [(n, pl)]) := by
  rw [muL_app, muL_app]; simp only [muL]; omega
theorem mu_push (e : pl < (W n).length) (ho : o ∉ ms) (hn : o ∈ NS) : muU W (ms ++ [o]) NS + muL W (lf0 ++ [(n, pl + 1)] ++ [(o, 0)]) < muU W ms NS + muL W (lf0 ++ [(n, pl)]) := by
  have := muU_put (W := W) ho hn
  rw [muL_app, muL_app, muL_app]; simp only [muL]; omega
/-! #### the order made -/
theorem idx_app {u v : List Int} {x : Int} (h : x ∉ u) : (u ++ x :: v).idxOf x = u.length := by
  induction u with
  | nil => simp
  | cons a u ih =>
    have : a ≠ x := fun z => h (by simp [z])
    rw [List.cons_append, List.idxOf_cons, ih fun z => h (List.mem_cons_of_mem _ z)]
    rw [show (a == x) = false from beq_eq_false_iff_ne.mpr this]
    rfl
theorem idx_lt {u v : List Int} {x : Int} (h : x ∈ u) : (u ++ v).idxOf x < u.length := by
  rw [List.idxOf_append, if_pos h]
  exact List.idxOf_lt_length_of_mem h
structure OrdOk (W : Int → List Int) (o : List Int) : Prop where
  nd : o.Nodup
  hd : ∃ t, o = -1 :: t
  mem : ∀ x, x ∈ o ↔ RchG (EW W) x
  dg : DG (EW W) (· ∈ o) (fun x => o.idxOf x)
theorem DInv.done (I : DInv W NS ms fd []) (nt : ∀ x y, y ∈ W x → y ≠ -1) : OrdOk W fd.reverse := by
  have eo : ordS fd [] = fd := by simp
  have nd := I.nd
  have tr := I.tr
  obtain ⟨rest, lst⟩ := I.lst
  have mt := I.mt
  rw [eo] at nd tr lst
  simp only [eo] at mt
  have ho : fd.reverse = -1 :: rest.reverse := by rw [lst]; simp
  have mem : ∀ x, x ∈ fd.reverse ↔ RchG (EW W) x := fun x => by
    rw [List.mem_reverse]
    refine ⟨fun h => I.rc x ((mt x).mpr h), fun h => ?_⟩
    induction h with
    | top => rw [lst]; simp
    | step _ e ih => exact (mt _).mp (I.cf _ ih _ e)
  refine ⟨(List.reverse_perm fd).nodup_iff.mpr nd, ⟨_, ho⟩, mem, ⟨by rw [ho]; simp, fun n m h e => (mem m).mpr (.step ((mem n).mp h) e), fun n m e => nt n m e, fun a b ha hb e => ?_, by rw [ho]; simp, fun n h ne => ?_⟩⟩
  · have h1 := List.getElem_idxOf (List.idxOf_lt_length_of_mem ha)
    have h2 := List.getElem_idxOf (List.idxOf_lt_length_of_mem hb)
    rw [← h1, ← h2]
    congr 1
  · obtain ⟨u, v, e⟩ := List.append_of_mem (List.mem_reverse.mp h)
    rw [e] at tr nd
    obtain ⟨p, pm, pe⟩ := TreeP.at tr ne
    have hx : n ∉ v := fun z => by
      rw [List.nodup_append] at nd
      exact (List.nodup_cons.mp nd.2.1).1 z
    have er : fd.reverse = v.reverse ++ n :: u.reverse := by rw [e]; simp
    refine ⟨p, by rw [er]; simp [pm], pe, ?_⟩
    show fd.reverse.idxOf p < fd.reverse.idxOf n
    rw [er, idx_app (by simpa using hx)]
    exact idx_lt (by simpa using pm)
end

/-! ### photos in plain; a graph of a photo -/
section
variable {P : Program} {w : World} {K : PySem.W.Frag} {mg : Str → Option Value} {base : Heap}
def numAV : AV → Option Int
  | .th k => some (k : Int)
  | _ => none
def numV (a : AV) : V := match numAV a with | some i => .int i | none => .non
abbrev spNumber (K : PySem.W.Frag) : Sp := Sp1 fun x H Q => ∃ a, LV H x a ∧ Q (numV a) H
theorem cal_number_of (T : Tx w K mg base) : Cal P w K mg base 1 "number_of" (spNumber K) [] := by
  obtain ⟨fd, F⟩ := T.fn_number_of
  refine cal_of F T.g_number_of sc_number_of (F.bindsN fun _ _ _ _ _ _ us hl => match us, hl with | [_], _ => rfl) (fun vs H Q E h => h.len) (fun cdv A outer s H vs Q E hr h => ?_)
  obtain ⟨x, rfl, a, lv, q⟩ := h
  have hu := hu_of hr
  have nd := sc_number_of.nd
  refine ⟨_, (pss_one (ps_ret (pe_ifExp (pt_val (pe_callB call_isi (by rfl) T.n_isinstance (by decide +kernel) (pa_cons (pv 0) (pa_cons (pe_bltn (by rfl) T.n_tuple (by decide +kernel) (v := .ty "tuple") rfl) pa_nil)))) (pe_ix ix_tup (pv 0) pe_int (fun _ _ => rfl)) pe_non))), ?_⟩
  walk_at "sx"
  refine y_isTup lv ?_
  refine ⟨_, rfl, ?_⟩
  cases a with
  | non => walk_at "rx"; exact q
  | num i => walk_at "rx"; exact q
  | th k =>
    obtain ⟨p, rfl, hp⟩ := lv
    rw [if_pos (show isTh (AV.th k) = true from rfl)]
    walk_at "rx"
    exact q
/-! #### photos -/
structure PRow where
  k : Nat
  kind : Str
  parts : List (Key × AV)
  size : Int
def keyS : Key → Str
  | .inl i => Str.ofString (toString i)
  | .inr s => s
def wayF (kind : Str) (z : Key × AV) : Option (Str × Int) := if kind = WATCH then none else (numAV z.2).map fun i => (keyS z.1, i)
def topF (z : Str × AV) : Option (Str × Int) := (numAV z.2).map fun i => (z.1, i)
def topW (nm : List AV) : List (Str × Int) := (NMS.zip nm).filterMap topF
def rowW (z : PRow) : List (Str × Int) := z.parts.filterMap (wayF z.kind)
def RowG (H : Hp) (p : Addr) (z : PRow) : Prop := ∃ (pl : Addr) (ps : List Addr), H p = some (.tup [.int (z.k : Int), .str z.kind, .ref pl, .int z.size]) ∧ H pl = some (.lst (ps.map V.ref)) ∧ Paired (PartR H) ps z.parts
def PhG (H : Hp) (v : V) (nm : List AV) (rw : List PRow) : Prop := ∃ (p n r : Addr) (ns : List V) (rows : List Addr), v = .ref p ∧ H p = some (.tup [.ref n, .ref r]) ∧ H n = some (.lst ns) ∧ Paired (LV H) ns nm ∧ H r = some (.lst (rows.map V.ref)) ∧ Paired (RowG H) rows rw
structure PhOk (nm : List AV) (rw : List PRow) : Prop where
  l8 : nm.length = 8
  lr : rw.length ≤ 8000
  lp : ∀ z ∈ rw, z.parts.length ≤ 1000
  ks : ∀ z ∈ rw, ∀ p ∈ z.parts, ∀ i : Int, p.1 = .inl i → i.natAbs ≤ 1900
  nd : (rw.map PRow.k).Nodup
def gsOf (rw : List PRow) : List (Int × Int) := rw.map fun z => ((z.k : Int), z.size)
def gwOf (nm : List AV) (rw : List PRow) : List (Int × List (Str × Int)) := ((-1 : Int), topW nm) :: rw.map fun z => ((z.k : Int), rowW z)
/-! #### the graph in the heap -/
def TxR (H : Hp) (p : Addr) (t : Str × Int) : Prop := H p = some (.tup [.str t.1, .int t.2])
def LiR (H : Hp) (l : Addr) (ts : List (Str × Int)) : Prop := ∃ ps : List Addr, H l = some (.lst (ps.map V.ref)) ∧ Paired (TxR H) ps ts
def WayR (N : Addr → Prop) (H : Hp) (kv : Key × V) (z : Int × List (Str × Int)) : Prop := kv.1 = .inl z.1 ∧ ∃ l, kv.2 = .ref l ∧ N l ∧ LiR H l z.2
def szK (gs : List (Int × Int)) : List (Key × V) := gs.map fun z => (.inl z.1, V.int z.2)
def GrR (K : PySem.W.Frag) (H : Hp) (a : Addr) (gs : List (Int × Int)) (gw : List (Int × List (Str × Int))) : Prop := ∃ (dx sz wy : Addr) (kvs : List (Key × V)), H a = some (.ins (He.ga K "Graph") dx (fs_Graph (.ref sz) (.ref wy))) ∧ H sz = some (.dK (szK gs)) ∧ H wy = some (.dK kvs) ∧ Paired (WayR (fun _ => True) H) kvs gw
section
variable {H H' : Hp} {N N' : Addr → Prop} {kvs : List (Key × V)} {gw : List (Int × List (Str × Int))} {gs : List (Int × Int)} {l : Addr} {ts : List (Str × Int)}
theorem LiR.keep (h : LiR H l ts) (hl : ∀ xs, H l = some (.lst xs) → H' l = some (.lst xs)) (ht : Tups H H') : LiR H' l ts := by
  obtain ⟨ps, h1, h2⟩ := h
  exact ⟨ps, hl _ h1, Paired.mapP h2 fun _ _ z => ht _ _ z⟩
theorem WayR.keep {kv : Key × V} {z : Int × List (Str × Int)} (h : WayR N H kv z) (hl : ∀ b xs, N b → H b = some (.lst xs) → H' b = some (.lst xs)) (ht : Tups H H') (hn : ∀ b xs, N b → H b = some (.lst xs) → N' b) : WayR N' H' kv z := by
  obtain ⟨e, l, e2, n, h⟩ := h
  have h0 := h
  obtain ⟨ps, h1, _⟩ := h
  exact ⟨e, l, e2, hn _ _ n h1, h0.keep (fun xs e => hl _ _ n e) ht⟩
theorem GrR.same {a : Addr} (h : GrR K H a gs gw) (s : Same H H') : GrR K H' a gs gw := by
  obtain ⟨dx, sz, wy, kvs, h1, h2, h3, h4⟩ := h
  exact ⟨dx, sz, wy, kvs, s _ _ h1, s _ _ h2, s _ _ h3, Paired.mapP h4 fun _ _ z => z.keep (fun _ _ _ e => s _ _ e) (Same.tups s) fun _ _ n _ => n⟩
theorem PhG.same {v : V} {nm : List AV} {rw : List PRow} (h : PhG H v nm rw) (s : Same H H') : PhG H' v nm rw := by
  obtain ⟨p, n, r, ns, rows, e, h1, h2, h3, h4, h5⟩ := h
  exact ⟨p, n, r, ns, rows, e, s _ _ h1, s _ _ h2, Paired.mapP h3 fun _ _ z => z.mono (Same.tups s), s _ _ h4, Paired.mapP h5 fun _ _ ⟨pl, ps, g1, g2, g3⟩ => ⟨pl, ps, s _ _ g1, s _ _ g2, Paired.mapP g3 fun _ _ z => z.mono (Same.tups s)⟩⟩
theorem way_none : ∀ {kvs : List (Key × V)} {gw : List (Int × List (Str × Int))} {k : Int}, Paired (WayR N H) kvs gw → k ∉ gw.map (·.1) → valV kvs (.inl k) = none
  | _, _, _, .nil, _ => rfl
  | _, _, _, .cons (b := z) h r, n => by
    rw [valV_neg (fun e => n (by rw [h.1] at e; have := Sum.inl.inj e; simp [this]))]
    exact way_none r fun m => n (List.mem_cons_of_mem _ m)
theorem way_get : ∀ {kvs : List (Key × V)} {gw : List (Int × List (Str × Int))} {k : Int} {ts : List (Str × Int)}, Paired (WayR N H) kvs gw → (gw.map (·.1)).Nodup → (k, ts) ∈ gw → ∃ l, valV kvs (.inl k) = some (.ref l) ∧ N l ∧ LiR H l ts
  | _, _, _, _, .nil, _, m => by cases m
  | (k1, v) :: _, (z1, z2) :: _, k, ts, .cons h r, nd, m => by
    obtain ⟨e, l, e2, n, hl⟩ := h
    have e : k1 = .inl z1 := e
    have e2 : v = .ref l := e2
    subst e e2
    rw [List.map_cons, List.nodup_cons] at nd
    by_cases c : z1 = k
    · subst c
      rcases List.mem_cons.mp m with m | m
      · cases m
        exact ⟨l, valV_pos rfl, n, hl⟩
      · exact absurd (List.mem_map.mpr ⟨_, m, rfl⟩) nd.1
    · rw [valV_neg (fun y => c (Sum.inl.inj y))]
      rcases List.mem_cons.mp m with m | m
      · cases m; exact absurd rfl c
      · exact way_get r nd.2 m
theorem szK_none {k : Int} (n : k ∉ gs.map (·.1)) : valV (szK gs) (.inl k) = none := by
  induction gs with
  | nil => rfl
  | cons z gs ih =>
    show valV ((.inl z.1, V.int z.2) :: szK gs) _ = none
    rw [valV_neg (fun e => n (by have := Sum.inl.inj e; simp [this]))]
    exact ih fun m => n (List.mem_cons_of_mem _ m)
theorem szK_get {k s : Int} (nd : (gs.map (·.1)).Nodup) (m : (k, s) ∈ gs) : valV (szK gs) (.inl k) = some (.int s) := by
  induction gs with
  | nil => cases m
  | cons z gs ih =>
    show valV ((.inl z.1, V.int z.2) :: szK gs) _ = _
    rw [List.map_cons, List.nodup_cons] at nd
    by_cases c : z.1 = k
    · rcases List.mem_cons.mp m with m | m
      · cases m
        exact valV_pos rfl
      · exact absurd (List.mem_map.mpr ⟨_, m, c.symm⟩) nd.1
    · rw [valV_neg (fun y => c (Sum.inl.inj y))]
      rcases List.mem_cons.mp m with m | m
      · rw [← m] at c; exact absurd rfl c
      · exact ih nd.2 m
end
theorem li_app {H B : Hp} {l tp : Addr} {ps : List Addr} {ts : List (Str × Int)} {s : Str} {j : Int} (hl : H l = some (.lst (ps.map V.ref))) (pr : Paired (TxR H) ps ts) (ht : H tp = none) (sb : Same B H) (bl : B l = none) :
    ∃ H', H' = upd (upd H tp (.tup [.str s, .int j])) l (.lst (ps.map V.ref ++ [.ref tp])) ∧ H' l = some (.lst ((ps ++ [tp]).map V.ref)) ∧ Paired (TxR H') (ps ++ [tp]) (ts ++ [(s, j)]) ∧ Tups H H' ∧ (∀ b u, H b = some u → b ≠ l → H' b = some u) ∧ Same B H' := by
  have ne : l ≠ tp := ne_of_none hl ht
  have st : ∀ b u, H b = some u → b ≠ l → upd (upd H tp (.tup [.str s, .int j])) l (.lst (ps.map V.ref ++ [.ref tp])) b = some u := fun b u e n => by
    rw [upd_ne n, upd_ne (ne_of_none e ht)]; exact e
  have tu : Tups H (upd (upd H tp (.tup [.str s, .int j])) l (.lst (ps.map V.ref ++ [.ref tp]))) := fun b xs e => st _ _ e fun z => by rw [z, hl] at e; cases e
  refine ⟨_, rfl, ?_, Paired.app (Paired.mapP pr fun _ _ z => tu _ _ z) ?_, tu, st, fun b u e => st _ _ (sb _ _ e) fun z => by rw [z, bl] at e; cases e⟩
  · rw [upd_same, List.map_append]; rfl
  · show upd (upd H tp _) l _ tp = _
    rw [upd_ne ne.symm, upd_same]
theorem valV_snoc {k : Key} {v : V} : ∀ {kvs : List (Key × V)}, valV kvs k = none → valV (kvs ++ [(k, v)]) k = some v
  | [], _ => valV_pos rfl
  | (k1, v1) :: kvs, h => by
    by_cases c : k1 = k
    · rw [valV_pos c] at h; cases h
    · rw [valV_neg c] at h
      rw [List.cons_append, valV_neg c]
      exact valV_snoc h
theorem nd_take {α β : Type} {f : α → β} {l : List α} {i : Nat} {x : α} (nd : (l.map f).Nodup) (h : l[i]? = some x) : f x ∉ (l.take i).map f := by
  intro m
  have e : l = l.take i ++ x :: l.drop (i + 1) := by
    obtain ⟨hl, hx⟩ := List.getElem?_eq_some_iff.mp h
    rw [← hx, List.getElem_cons_drop, List.take_append_drop]
  rw [e, List.map_append, List.map_cons, List.nodup_append] at nd
  exact nd.2.2 _ m _ (List.mem_cons_self ..) rfl
theorem gs_nd {rw_ : List PRow} (nd : (rw_.map PRow.k).Nodup) : ((gsOf rw_).map (·.1)).Nodup := by
  have e : (gsOf rw_).map (·.1) = (rw_.map PRow.k).map fun (k : Nat) => (k : Int) := by
    unfold gsOf; rw [List.map_map, List.map_map]; rfl
  rw [e, List.nodup_iff_pairwise_ne, List.pairwise_map]
  exact nd.imp fun h z => h (by omega)
theorem gw_nd {nm : List AV} {rw_ : List PRow} (nd : (rw_.map PRow.k).Nodup) : ((gwOf nm rw_).map (·.1)).Nodup := by
  have e : (gwOf nm rw_).map (·.1) = -1 :: (gsOf rw_).map (·.1) := by
    unfold gwOf gsOf; rw [List.map_cons, List.map_map, List.map_map]; rfl
  rw [e, List.nodup_cons]
  refine ⟨fun m => ?_, gs_nd nd⟩
  obtain ⟨x, hx, e⟩ := List.mem_map.mp m
  obtain ⟨y, _, e2⟩ := List.mem_map.mp hx
  rw [← e2] at e
  have : ((y.k : Int)) = -1 := e
  omega
theorem y_tup4 {i j k m : Nat} {p : Addr} {x y z u : V} {σ : L2.St} {H : Hp} {QS : L2.St → Hp → Prop} (h : H p = some (.tup [x, y, z, u])) (q : QS ((((σ.set i (some x)).set j (some y)).set k (some z)).set m (some u)) H) : gTup K 4 (gCons (gName i) (gCons (gName j) (gCons (gName k) (gCons (gName m) gNil)))) (.ref p) σ H QS :=
  ⟨p, _, rfl, sqT h, rfl, _, _, rfl, x_name ⟨_, _, rfl, x_name ⟨_, _, rfl, x_name ⟨_, _, rfl, x_name ⟨rfl, q⟩⟩⟩⟩⟩
abbrev spGraphInit (K : PySem.W.Frag) : Sp := Sp2 fun x y H Q => ∃ (a dx : Addr) (nm : List AV) (rw : List PRow), x = .ref a ∧ H a = some (.ins (He.ga K "Graph") dx []) ∧ PhG H y nm rw ∧ PhOk nm rw ∧
  ∀ (H' : Hp), (∀ b u, H b = some u → b ≠ a → H' b = some u) → GrR K H' a (gsOf rw) (gwOf nm rw) → Q .non H'
theorem mak_Graph (T : Tx w K mg base) : Mak P w K mg base 2 "Graph" (He.ga K "Graph") (spGraphInit K) [] := by
  obtain ⟨fd, F⟩ := T.fn_Graph_init
  refine mak_of T.mk_Graph (glo_of T.k_Graph) F sc_Graph_init (F.bindsN fun _ _ _ _ _ _ us hl => match us, hl with | [_, _], _ => rfl) (fun vs H Q E h => h.len) (fun cdv A outer s H vs Q E hr h => ?_)
  obtain ⟨x, y, rfl, a, dx, nm, rws, rfl, ha, ⟨p, n, r, ns, rows, rfl, hp, hn, hns, hr1, hrw⟩, ok, q⟩ := h
  have hu := hu_of hr
  have nd := sc_Graph_init.nd
  refine ⟨_, (pss_cons (ps_asg (pv 1) (pg_tup (n := 2) rfl (pgs_cons (pg_name (i := 2) nd rfl (Or.inl rfl)) (pgs_cons (pg_name (i := 3) nd rfl (Or.inl rfl)) pgs_nil)))) (pss_cons (ps_fld (pv 0) pe_dnewK rfl) (pss_cons (ps_fld (pv 0) (pe_disp (pps_cons (pe_gc rfl T.k_TOP) (pe_lst pa_nil) pps_nil) (by rfl) (by rfl) (fun z => by cases z) (by decide)) rfl) (pss_cons (ps_for PassesOwn.never rfl (pi_range1 (by rfl) T.n_range (pa_cons (pe_callB call_len_str (by rfl) T.n_len PySem.boot_len (pa_cons (pe_gc rfl T.k_NAMES) pa_nil)) pa_nil)) (pg_name (i := 4) nd rfl (Or.inl rfl)) (pss_one (ps_if (pt_cmpR op_notN (pe_c (cal_number_of T) hr (by decide) (by rfl) (pa_cons (pe_ix ix_list (pv 2) (pv 4) (fun _ _ => rfl)) pa_nil)) pe_non (nomark _)) (pss_one (ps_expr (pe_bm PySem.F.plainAttrs_list PySem.F.slot_list_append PySem.F.type_list_append mt_append (pe_dget hu (pe_fld (pv 0) rfl) (pe_gc rfl T.k_TOP) (fun _ _ => rfl)) (pa_cons (pe_tup (pa_cons (pe_ix ix_str (pe_gc rfl T.k_NAMES) (pv 4) (fun _ _ => rfl)) (pa_cons (pe_c (cal_number_of T) hr (by decide) (by rfl) (pa_cons (pe_ix ix_list (pv 2) (pv 4) (fun _ _ => rfl)) pa_nil)) pa_nil))) pa_nil)))) pss_nil))) (pss_one (ps_for PassesOwn.never rfl (pi_list (pv 3)) (pg_tup (n := 4) rfl (pgs_cons (pg_name (i := 5) nd rfl (Or.inl rfl)) (pgs_cons (pg_name (i := 6) nd rfl (Or.inl rfl)) (pgs_cons (pg_name (i := 7) nd rfl (Or.inl rfl)) (pgs_cons (pg_name (i := 8) nd rfl (Or.inl rfl)) pgs_nil))))) (pss_cons (ps_dput hu (pe_fld (pv 0) rfl) (pv 5) (pv 8) rfl) (pss_cons (ps_dput hu (pe_fld (pv 0) rfl) (pv 5) (pe_lst pa_nil) rfl) (pss_one (ps_for PassesOwn.never rfl (pi_list (pv 7)) (pg_tup (n := 2) rfl (pgs_cons (pg_name (i := 9) nd rfl (Or.inl rfl)) (pgs_cons (pg_name (i := 10) nd rfl (Or.inl rfl)) pgs_nil))) (pss_one (ps_if (PW.pt (pw_and (pt_cmpR op_ne (pv 6) pe_str (nomark _)) (pw_and1 (pt_cmpR op_notN (pe_c (cal_number_of T) hr (by decide) (by rfl) (pa_cons (pv 10) pa_nil)) pe_non (nomark _))))) (pss_one (ps_expr (pe_bm PySem.F.plainAttrs_list PySem.F.slot_list_append PySem.F.type_list_append mt_append (pe_dget hu (pe_fld (pv 0) rfl) (pv 5) (fun _ _ => rfl)) (pa_cons (pe_tup (pa_cons (pe_ei (pe_callTy call_str_int (by rfl) T.n_str (by decide +kernel) (pa_cons (pv 9) pa_nil)) (pe_callTy SkE.call_str_str (by rfl) T.n_str (by decide +kernel) (pa_cons (pv 9) pa_nil))) (pa_cons (pe_c (cal_number_of T) hr (by decide) (by rfl) (pa_cons (pv 10) pa_nil)) pa_nil))) pa_nil)))) pss_nil)))))))))))), ?_⟩
  walk_at "sx"
  refine y_tup2 hp ?_
  walk_at "rx"
  intro sz hsz
  have nsz : a ≠ sz := ne_of_none ha hsz
  walk_at "rx"
  intro wy hwy
  have naw : a ≠ wy := ne_of_none upd_same hwy
  have hwy1 : upd H sz (.dK []) wy = none := upd_none hwy
  have nsw : sz ≠ wy := ne_of_none upd_same hwy1
  have hwy0 : H wy = none := upd_none hwy1
  walk_at "rx"
  intro l0 hl0
  have nwl : wy ≠ l0 := ne_of_none upd_same hl0
  have hl01 := upd_none hl0
  have nal : a ≠ l0 := ne_of_none upd_same hl01
  have hl02 := upd_none hl01
  have nsl : sz ≠ l0 := ne_of_none upd_same hl02
  have hl00 : H l0 = none := upd_none hl02
  walk_at "rx"
  refine ⟨by rw [upd_ne nwl, upd_same], [(.inl (-1), .ref l0)], rfl, (by show 1 ≤ 15; decide), ?_⟩
  walk_at "rx"
  obtain ⟨B, hB⟩ : ∃ B : Hp, B = upd H a (.ins (He.ga K "Graph") dx (fs_Graph (.ref sz) (.ref wy))) := ⟨_, rfl⟩
  generalize hC : upd (upd (upd (upd (upd (upd H sz _) a _) wy _) l0 _) wy _) a _ = Hc
  have cB : ∀ b, b ≠ sz → b ≠ wy → b ≠ l0 → Hc b = B b := fun b n1 n2 n3 => by
    rw [← hC, hB]
    by_cases c : b = a
    · rw [c, upd_same, upd_same]
    · rw [upd_ne c, upd_ne n2, upd_ne n3, upd_ne n2, upd_ne c, upd_ne n1, upd_ne c]
  have bsz : B sz = none := by rw [hB, upd_ne nsz.symm]; exact hsz
  have bwy : B wy = none := by rw [hB, upd_ne naw.symm]; exact hwy0
  have bl0 : B l0 = none := by rw [hB, upd_ne nal.symm]; exact hl00
  have sB : Same B Hc := fun b u e => by
    rw [cB b (fun z => by rw [z, bsz] at e; cases e) (fun z => by rw [z, bwy] at e; cases e) (fun z => by rw [z, bl0] at e; cases e)]
    exact e
  have csz : Hc sz = some (.dK []) := by rw [← hC, upd_ne nsz.symm, upd_ne nsw, upd_ne nsl, upd_ne nsw, upd_ne nsz.symm, upd_same]
  have cwy : Hc wy = some (.dK [(.inl (-1), .ref l0)]) := by rw [← hC, upd_ne naw.symm, upd_same]; rfl
  have cl0 : Hc l0 = some (.lst []) := by rw [← hC, upd_ne nal.symm, upd_ne nwl.symm, upd_same]
  have Ba : B a = some (.ins (He.ga K "Graph") dx (fs_Graph (.ref sz) (.ref wy))) := by rw [hB, upd_same]
  have toB : ∀ b u, H b = some u → b ≠ a → B b = some u := fun b u e n => by rw [hB, upd_ne n]; exact e
  have nla : ∀ b xs, H b = some (.lst xs) → b ≠ a := fun b xs e z => by rw [z, ha] at e; cases e
  have nta : ∀ b xs, H b = some (.tup xs) → b ≠ a := fun b xs e z => by rw [z, ha] at e; cases e
  have tuB : Tups H B := fun b xs e => toB _ _ e (nta _ _ e)
  have bn := toB _ _ hn (nla _ _ hn)
  have br := toB _ _ hr1 (nla _ _ hr1)
  have bns : Paired (LV B) ns nm := Paired.mapP hns fun _ _ z => z.mono tuB
  have brw : Paired (RowG B) rows rws := Paired.mapP hrw fun _ _ ⟨pl, ps, g1, g2, g3⟩ => ⟨pl, ps, tuB _ _ g1, toB _ _ g2 (nla _ _ g2), Paired.mapP g3 fun _ _ z => z.mono tuB⟩
  clear hC cB hB
  refine ⟨"pqrstuvw", rfl, by decide, ?_⟩
  walk_at "rx"
  refine y_iR (by decide) (by decide) ?_
  refine y_forR (fun i σ H' => ∃ u4 u5 u6 u7 u8 u9 u10, σ = [some (.ref a), some (.ref p), some (.ref n), some (.ref r), u4, u5, u6, u7, u8, u9, u10] ∧ Same B H' ∧ H' sz = some (.dK []) ∧ H' wy = some (.dK [(.inl (-1), .ref l0)]) ∧ LiR H' l0 (((NMS.zip nm).take i).filterMap topF) ∧ i ≤ 8)
    ⟨_, _, _, _, _, _, _, rfl, sB, csz, cwy, ⟨[], cl0, .nil⟩, by decide⟩ ?_ ?_
  · rintro i σ H1 hi ⟨u4, u5, u6, u7, u8, u9, u10, rfl, s1, z1, w1, ⟨ps, li, pr⟩, _⟩
    have hi : i < 8 := hi
    obtain ⟨av, hav⟩ : ∃ av, nm[i]? = some av := ⟨_, List.getElem?_eq_getElem (by rw [ok.l8]; exact hi)⟩
    obtain ⟨v, hv, lv⟩ := paired_getR bns hav
    have n1 := s1 _ _ bn
    have lv1 := lv.mono (Same.tups s1)
    obtain ⟨m, hm, hnm⟩ : ∃ m : Nat, ("pqrstuvw" : Str).cps[i]? = some m ∧ NMS[i]? = some ⟨#[m]⟩ := by
      have e : i < ("pqrstuvw" : Str).cps.size := hi
      exact ⟨_, Array.getElem?_eq_getElem e, nms_at (Array.getElem?_eq_getElem e)⟩
    have hz : (NMS.zip nm)[i]? = some (⟨#[m]⟩, av) := by rw [List.getElem?_zip_eq_some]; exact ⟨hnm, hav⟩
    have a1 := s1 _ _ Ba
    walk_at "rx"
    refine y_ixL n1 (v := v) (by rw [show (0 + (i : Int)) = (i : Int) by omega]; exact atI_nat hv) ?_
    walk_at "rx"
    refine ⟨av, lv1, ?_⟩
    walk_at "rx"
    cases eN : numAV av with
    | none =>
      have e1 : numV av = .non := by unfold numV; rw [eN]
      rw [e1]
      walk_at "rx"
      refine ⟨_, _, _, _, _, _, _, rfl, s1, z1, w1, ⟨ps, li, ?_⟩, by omega⟩
      rw [take_snoc hz, List.filterMap_append]
      rw [show [((⟨#[m]⟩ : Str), av)].filterMap topF = [] by simp [topF, eN], List.append_nil]
      exact pr
    | some j =>
      have e1 : numV av = .int j := by unfold numV; rw [eN]
      rw [e1, if_pos (show (!decide (V.int j = V.non)) = true by rw [decide_eq_false (fun z => by cases z)]; rfl)]
      walk_at "rx"
      refine y_dgetI w1 (valV_pos rfl) ?_
      walk_at "rx"
      refine ⟨"pqrstuvw", _, m, rfl, rfl, by decide, by rw [show (0 + (i : Int)) = (i : Int) by omega]; exact atI_nat (by rw [Array.getElem?_toList]; exact hm), ?_⟩
      walk_at "rx"
      refine y_ixL n1 (v := v) (by rw [show (0 + (i : Int)) = (i : Int) by omega]; exact atI_nat hv) ?_
      walk_at "rx"
      refine ⟨av, lv1, ?_⟩
      rw [e1]
      walk_at "rx"
      intro tp htp
      have hps : ps.length ≤ 8 := by
        rw [Paired.length pr]
        refine Nat.le_trans (List.length_filterMap_le _ _) ?_
        rw [List.length_take]; omega
      have hz9 : (ps.map V.ref).length < sizeLine := small9000 (by rw [List.length_map]; omega)
      have li2 := (Same.new (o := .tup [.str ⟨#[m]⟩, .int j]) htp) _ _ li
      walk_at "rx"
      obtain ⟨H', eH, l1, p1, t1, k1, sb1⟩ := li_app (s := ⟨#[m]⟩) (j := j) li pr htp s1 bl0
      rw [← eH]
      refine ⟨_, _, _, _, _, _, _, rfl, sb1, k1 _ _ z1 (fun z => by rw [z, li] at z1; cases z1), k1 _ _ w1 (fun z => by rw [z, li] at w1; cases w1), ⟨_, l1, ?_⟩, by omega⟩
      rw [take_snoc hz, List.filterMap_append]
      rw [show [((⟨#[m]⟩ : Str), av)].filterMap topF = [(⟨#[m]⟩, j)] by simp [topF, eN]]
      exact p1
  · rintro σ H1 ⟨u4, u5, u6, u7, u8, u9, u10, rfl, s1, z1, w1, li, _⟩
    rw [show ((NMS.zip nm).take (("pqrstuvw" : Str).length : Int).toNat) = NMS.zip nm from List.take_of_length_le (by rw [List.length_zip, ok.l8]; decide)] at li
    have r1 := s1 _ _ br
    have lrw : rows.length = rws.length := Paired.length brw
    walk_at "rx"
    refine y_iL (sqL r1) ?_
    refine y_forL (xs := rows.map V.ref) (fun i σ H' => ∃ u4 u5 u6 u7 u8 u9 u10 kvs, σ = [some (.ref a), some (.ref p), some (.ref n), some (.ref r), u4, u5, u6, u7, u8, u9, u10] ∧ Same B H' ∧ H' sz = some (.dK (szK ((gsOf rws).take i))) ∧ H' wy = some (.dK kvs) ∧ Paired (WayR (fun b => B b = none) H') kvs ((gwOf nm rws).take (i + 1)))
      ⟨_, _, _, _, _, _, _, [(.inl (-1), .ref l0)], rfl, s1, z1, w1, .cons ⟨rfl, l0, rfl, bl0, li⟩ .nil⟩ (fun i σ H' _ h => by obtain ⟨_, _, _, _, _, _, _, _, _, s, _⟩ := h; exact sqL (s _ _ br)) ?_ ?_
    · rintro i x σ H2 hi ⟨u4, u5, u6, u7, u8, u9, u10, kvs, rfl, s2, z2, w2, wp⟩
      rw [List.getElem?_map] at hi
      obtain ⟨rp, hrp, rfl⟩ := Option.map_eq_some_iff.mp hi
      obtain ⟨z, hz, pl, qs, g1, g2, g3⟩ := paired_get brw hrp
      have il := (List.getElem?_eq_some_iff.mp hz).1
      have mz := List.mem_of_getElem? hz
      refine y_tup4 (s2 _ _ g1) ?_
      have a2 := s2 _ _ Ba
      walk_at "rx"
      have zg : (gsOf rws)[i]? = some ((z.k : Int), z.size) := by unfold gsOf; rw [List.getElem?_map, hz]; rfl
      have zw : (gwOf nm rws)[i + 1]? = some ((z.k : Int), rowW z) := by unfold gwOf; rw [List.getElem?_cons_succ, List.getElem?_map, hz]; rfl
      have ng := nd_take (gs_nd ok.nd) zg
      have nw := nd_take (gw_nd (nm := nm) ok.nd) zw
      have lk : kvs.length ≤ 8001 := by
        rw [Paired.length wp, List.length_take]
        have := ok.lr
        have : (gwOf nm rws).length = rws.length + 1 := by unfold gwOf; simp
        omega
      refine y_dput z2 (j := .inl (z.k : Int)) rfl (small9000 (by unfold szK; rw [List.length_map, List.length_take]; have := ok.lr; have : (gsOf rws).length = rws.length := by { unfold gsOf; simp }; omega)) (kvs' := szK ((gsOf rws).take (i + 1))) (by rw [putK_new _ (szK_none ng), take_snoc zg]; unfold szK; rw [List.map_append]; rfl) ?_
      have zl : ∀ b xs, H2 b = some (.lst xs) → b ≠ sz := fun b xs e y => by rw [y, z2] at e; cases e
      have zt : ∀ b xs, H2 b = some (.tup xs) → b ≠ sz := fun b xs e y => by rw [y, z2] at e; cases e
      have nsw2 : wy ≠ sz := nsw.symm
      have s3 : Same B (upd H2 sz (.dK (szK ((gsOf rws).take (i + 1))))) := same_fresh s2 bsz
      have w3 : upd H2 sz (.dK (szK ((gsOf rws).take (i + 1)))) wy = some (.dK kvs) := by rw [upd_ne nsw2]; exact w2
      have z3 : upd H2 sz (.dK (szK ((gsOf rws).take (i + 1)))) sz = some (.dK (szK ((gsOf rws).take (i + 1)))) := upd_same
      have wp3 : Paired (WayR (fun b => B b = none) (upd H2 sz (.dK (szK ((gsOf rws).take (i + 1)))))) kvs ((gwOf nm rws).take (i + 1)) := Paired.mapP wp fun _ _ y => y.keep (fun b xs _ e => by rw [upd_ne (zl _ _ e)]; exact e) (fun b xs e => by rw [upd_ne (zt _ _ e)]; exact e) fun _ _ n _ => n
      generalize upd H2 sz (.dK (szK ((gsOf rws).take (i + 1)))) = H3 at s3 w3 z3 wp3 ⊢
      have a3 := s3 _ _ Ba
      walk_at "rx"
      intro l hl
      have bl : B l = none := same_none s3 hl
      have s4 : Same H3 (upd H3 l (.lst [])) := Same.new hl
      have nlw : l ≠ wy := fun y => by rw [y, w3] at hl; cases hl
      have w4 := s4 _ _ w3
      have z4 := s4 _ _ z3
      have l4 : upd H3 l (.lst []) l = some (.lst []) := upd_same
      have wp4 : Paired (WayR (fun b => B b = none ∧ b ≠ l) (upd H3 l (.lst []))) kvs ((gwOf nm rws).take (i + 1)) := Paired.mapP wp3 fun _ _ y => y.keep (fun b xs _ e => s4 _ _ e) (Same.tups s4) fun b xs n e => ⟨n, ne_of_none e hl⟩
      have a4 := s4 _ _ a3
      have sB4 := s3.trans s4
      generalize upd H3 l (.lst []) = H4 at w4 z4 l4 wp4 a4 sB4 ⊢
      walk_at "rx"
      refine y_dput w4 (j := .inl (z.k : Int)) rfl (small9000 (by omega)) (kvs' := kvs ++ [(.inl (z.k : Int), .ref l)]) (putK_new _ (way_none wp4 nw)) ?_
      have s5 : Same B (upd H4 wy (.dK (kvs ++ [(.inl (z.k : Int), .ref l)]))) := same_fresh sB4 bwy
      have kk : ∀ b u, H4 b = some u → b ≠ wy → upd H4 wy (.dK (kvs ++ [(.inl (z.k : Int), .ref l)])) b = some u := fun b u e n => by rw [upd_ne n]; exact e
      have w5 : upd H4 wy (.dK (kvs ++ [(.inl (z.k : Int), .ref l)])) wy = some (.dK (kvs ++ [(.inl (z.k : Int), .ref l)])) := upd_same
      have z5 := kk _ _ z4 nsw
      have l5 := kk _ _ l4 nlw
      have wp5 : Paired (WayR (fun b => B b = none ∧ b ≠ l) (upd H4 wy (.dK (kvs ++ [(.inl (z.k : Int), .ref l)])))) kvs ((gwOf nm rws).take (i + 1)) := Paired.mapP wp4 fun _ _ y => y.keep (fun b xs _ e => kk _ _ e fun y => by rw [y, w4] at e; cases e) (fun b xs e => kk _ _ e fun y => by rw [y, w4] at e; cases e) fun b xs n e => n
      generalize upd H4 wy (.dK (kvs ++ [(.inl (z.k : Int), .ref l)])) = H5 at s5 w5 z5 l5 wp5 ⊢
      clear kk
      have vk : valV (kvs ++ [(.inl (z.k : Int), .ref l)]) (.inl (z.k : Int)) = some (.ref l) := by
        exact valV_snoc (way_none wp5 nw)
      have bpl := g2
      walk_at "rx"
      refine y_iL (sqL (s5 _ _ g2)) ?_
      refine y_forL (xs := qs.map V.ref) (fun j σ H' => ∃ u9 u10, σ = [some (.ref a), some (.ref p), some (.ref n), some (.ref r), u4, some (.int (z.k : Int)), some (.str z.kind), some (.ref pl), some (.int z.size), u9, u10] ∧ Same B H' ∧ H' sz = some (.dK (szK ((gsOf rws).take (i + 1)))) ∧ H' wy = some (.dK (kvs ++ [(.inl (z.k : Int), .ref l)])) ∧ Paired (WayR (fun b => B b = none ∧ b ≠ l) H') kvs ((gwOf nm rws).take (i + 1)) ∧ LiR H' l ((z.parts.take j).filterMap (wayF z.kind)))
        ⟨_, _, rfl, s5, z5, w5, wp5, ⟨[], l5, .nil⟩⟩ (fun i σ H' _ h => by obtain ⟨_, _, _, s, _⟩ := h; exact sqL (s _ _ g2)) ?_ ?_
      · rintro j x σ H6 hj ⟨u9, u10, rfl, s6, z6, w6, wp6, ps, li6, pr6⟩
        rw [List.getElem?_map] at hj
        obtain ⟨qp, hqp, rfl⟩ := Option.map_eq_some_iff.mp hj
        obtain ⟨⟨key, av⟩, hpt, v, hv, lv⟩ := paired_get g3 hqp
        refine y_tup2 (s6 _ _ hv) ?_
        have a6 := s6 _ _ Ba
        have lv6 := lv.mono (Same.tups s6)
        walk_at "rx"
        have jl : j < z.parts.length := (List.getElem?_eq_some_iff.mp hpt).1
        by_cases cw : z.kind = WATCH
        · rw [if_neg (show ¬ (!decide (V.str z.kind = V.str (Str.ofString "watch"))) = true by rw [decide_eq_true (show V.str z.kind = V.str (Str.ofString "watch") from congrArg V.str cw)]; exact fun y => by cases y)]
          walk_at "rx"
          refine ⟨_, _, rfl, s6, z6, w6, wp6, ps, li6, ?_⟩
          rw [take_snoc hpt, List.filterMap_append, show [(key, av)].filterMap (wayF z.kind) = [] by simp [wayF, cw], List.append_nil]
          exact pr6
        · rw [if_pos (show (!decide (V.str z.kind = V.str (Str.ofString "watch"))) = true by rw [decide_eq_false (show ¬ V.str z.kind = V.str (Str.ofString "watch") from fun y => cw (V.str.inj y))]; rfl)]
          walk_at "rx"
          refine ⟨av, lv6, ?_⟩
          walk_at "rx"
          cases eN : numAV av with
          | none =>
            have e1 : numV av = .non := by unfold numV; rw [eN]
            rw [e1]
            walk_at "rx"
            refine ⟨_, _, rfl, s6, z6, w6, wp6, ps, li6, ?_⟩
            rw [take_snoc hpt, List.filterMap_append, show [(key, av)].filterMap (wayF z.kind) = [] by simp [wayF, cw, eN], List.append_nil]
            exact pr6
          | some i0 =>
            have e1 : numV av = .int i0 := by unfold numV; rw [eN]
            rw [e1, if_pos (show (!decide (V.int i0 = V.non)) = true by rw [decide_eq_false (fun z => by cases z)]; rfl)]
            have pl8 : ps.length ≤ 8000 := by
              rw [Paired.length pr6]
              refine Nat.le_trans (List.length_filterMap_le _ _) ?_
              rw [List.length_take]
              have := ok.lp z mz
              omega
            have hz9 : (ps.map V.ref).length < sizeLine := small9000 (by rw [List.length_map]; omega)
            have nlz : sz ≠ l := fun y => by rw [y, li6] at z6; cases z6
            have fin : ∀ (tp : Addr), H6 tp = none → ∃ u9 u10, ([some (.ref a), some (.ref p), some (.ref n), some (.ref r), u4, some (.int (z.k : Int)), some (.str z.kind), some (.ref pl), some (.int z.size), some (kV key), some v] : L2.St) = [some (.ref a), some (.ref p), some (.ref n), some (.ref r), u4, some (.int (z.k : Int)), some (.str z.kind), some (.ref pl), some (.int z.size), u9, u10] ∧ Same B (upd (upd H6 tp (.tup [.str (keyS key), .int i0])) l (.lst (ps.map V.ref ++ [.ref tp]))) ∧ upd (upd H6 tp (.tup [.str (keyS key), .int i0])) l (.lst (ps.map V.ref ++ [.ref tp])) sz = some (.dK (szK ((gsOf rws).take (i + 1)))) ∧ upd (upd H6 tp (.tup [.str (keyS key), .int i0])) l (.lst (ps.map V.ref ++ [.ref tp])) wy = some (.dK (kvs ++ [(.inl (z.k : Int), .ref l)])) ∧ Paired (WayR (fun b => B b = none ∧ b ≠ l) (upd (upd H6 tp (.tup [.str (keyS key), .int i0])) l (.lst (ps.map V.ref ++ [.ref tp])))) kvs ((gwOf nm rws).take (i + 1)) ∧ LiR (upd (upd H6 tp (.tup [.str (keyS key), .int i0])) l (.lst (ps.map V.ref ++ [.ref tp]))) l ((z.parts.take (j + 1)).filterMap (wayF z.kind)) := by
              intro tp htp
              obtain ⟨H', eH, l1, p1, t1, k1, sb1⟩ := li_app (s := keyS key) (j := i0) li6 pr6 htp s6 bl
              rw [← eH]
              refine ⟨_, _, rfl, sb1, k1 _ _ z6 nlz, k1 _ _ w6 nlw.symm, Paired.mapP wp6 fun _ _ y => y.keep (fun b xs n e => k1 _ _ e n.2) t1 fun _ _ n _ => n, _, l1, ?_⟩
              rw [take_snoc hpt, List.filterMap_append, show [(key, av)].filterMap (wayF z.kind) = [(keyS key, i0)] by simp [wayF, cw, eN]]
              exact p1
            walk_at "rx"
            refine y_dgetI w6 vk ?_
            walk_at "rx"
            cases key with
            | inl ik =>
              have b9 := ok.ks z mz _ (List.mem_of_getElem? hpt) ik rfl
              refine x_e1 ?_
              walk_at "rx"
              refine ⟨ik, rfl, ?_, ?_⟩
              · exact Nat.lt_of_le_of_lt (Nat.log2_le_self _) (by omega)
              walk_at "rx"
              refine ⟨av, lv6, ?_⟩
              rw [e1]
              walk_at "rx"
              intro tp htp
              have l7 := (Same.new (o := .tup [.str (keyS (.inl ik)), .int i0]) htp) _ _ li6
              walk_at "rx"
              exact fin tp htp
            | inr sk =>
              refine x_e2 ?_
              walk_at "rx"
              refine ⟨sk, rfl, ?_⟩
              walk_at "rx"
              refine ⟨av, lv6, ?_⟩
              rw [e1]
              walk_at "rx"
              intro tp htp
              have l7 := (Same.new (o := .tup [.str sk, .int i0]) htp) _ _ li6
              walk_at "rx"
              exact fin tp htp
      · rintro σ H6 ⟨u9, u10, rfl, s6, z6, w6, wp6, li6⟩
        refine ⟨_, _, _, _, _, _, _, _, rfl, s6, z6, w6, ?_⟩
        rw [take_snoc zw]
        rw [show (qs.map V.ref).length = z.parts.length by rw [List.length_map]; exact Paired.length g3, List.take_length] at li6
        exact Paired.app (Paired.mapP wp6 fun _ _ y => y.keep (fun _ _ _ e => e) (fun _ _ e => e) fun b xs n _ => n.1) ⟨rfl, l, rfl, bl, li6⟩
    · rintro σ H2 ⟨u4, u5, u6, u7, u8, u9, u10, kvs, rfl, s2, z2, w2, wp⟩
      refine q H2 (fun b u e n => s2 _ _ (toB _ _ e n)) ⟨dx, sz, wy, kvs, s2 _ _ Ba, ?_, w2, ?_⟩
      · rw [z2, List.length_map, lrw]
        rw [show (gsOf rws).take rws.length = gsOf rws from List.take_of_length_le (by unfold gsOf; simp)]
      · rw [List.length_map, lrw, show (gwOf nm rws).take (rws.length + 1) = gwOf nm rws from List.take_of_length_le (by unfold gwOf; simp)] at wp
        exact Paired.mapP wp fun _ _ y => y.keep (fun _ _ _ e => e) (fun _ _ e => e) fun _ _ _ _ => trivial
end

/-! ### the order of a graph -/
section
variable {P : Program} {w : World} {K : PySem.W.Frag} {mg : Str → Option Value} {base : Heap}
/-! #### lists of pairs of numbers -/
def ipD (z : Int × Nat) : PyData := .tuple [.int z.1, .int (z.2 : Int)]
abbrev IP (H : Hp) (p : Addr) (z : Int × Nat) : Prop := H p = some (.tup [.int z.1, .int (z.2 : Int)])
theorem dp_ips {H : Hp} : ∀ {ps : List Addr} {zs : List (Int × Nat)}, Paired (IP H) ps zs → DpAll K H (ps.map V.ref) (zs.map ipD)
  | _, _, .nil => .nil
  | _, _, .cons h r => .cons (.tup (sqT h) (dp_flats (vs := [.int _, .int _]) rfl)) (dp_ips r)
theorem lay_ips : ∀ (zs : List (Int × Nat)), PyData.canLayAll0 (zs.map ipD) = true
  | [] => rfl
  | z :: zs => layAll_cons (layAll_cons rfl (layAll_cons rfl rfl)) (lay_ips zs)
theorem depth_ips : ∀ {zs : List (Int × Nat)}, PyData.depthAll (zs.map ipD) ≤ 1
  | [] => Nat.zero_le _
  | z :: zs => by
    show max (PyData.depth (ipD z)) (PyData.depthAll (zs.map ipD)) ≤ 1
    have h : PyData.depth (ipD z) = 1 := rfl
    have := depth_ips (zs := zs)
    omega
theorem y_neNilI {H : Hp} {Q : VK} {p l : Addr} {ps : List Addr} {zs : List (Int × Nat)} (h : H p = some (.lst (ps.map V.ref))) (g : Paired (IP H) ps zs) (h2 : H l = some (.lst [])) (q : Q (.bl (!decide (zs = []))) H) : rNeD K (.ref p) (.ref l) H Q := by
  refine ⟨_, _, .lst (sqL h) (dp_ips g), .lst (sqL h2) .nil, ?_, by decide, ?_⟩
  · unfold SeqAt.shaped
    rw [show PyData.canLay0 (.list (zs.map ipD)) = true from lay_ips zs]
    have : PyData.depth (.list (zs.map ipD)) ≤ 64 := by
      show PyData.depthAll (zs.map ipD) + 1 ≤ 64
      have := depth_ips (zs := zs)
      omega
    rw [decide_eq_true this]
    rfl
  · have e : PyData.eqv (.list (zs.map ipD)) (.list []) = decide (zs = []) := by cases zs <;> rfl
    rw [e]
    exact q
/-! #### what a graph holds, looked up -/
def wayOf (gw : List (Int × List (Str × Int))) (k : Int) : List (Str × Int) := ((gw.find? fun z => decide (z.1 = k)).map (·.2)).getD []
def Wof (gw : List (Int × List (Str × Int))) (k : Int) : List Int := (wayOf gw k).map (·.2)
theorem wayOf_mem : ∀ {gw : List (Int × List (Str × Int))} {k : Int} {ts : List (Str × Int)}, (gw.map (·.1)).Nodup → (k, ts) ∈ gw → wayOf gw k = ts
  | z :: gw, k, ts, nd, m => by
    rw [List.map_cons, List.nodup_cons] at nd
    by_cases c : z.1 = k
    · have e : z = (k, ts) := by
        rcases List.mem_cons.mp m with m | m
        · exact m.symm
        · exact absurd (List.mem_map.mpr ⟨_, m, c.symm⟩) nd.1
      simp [wayOf, e]
    · have m : (k, ts) ∈ gw := by
        rcases List.mem_cons.mp m with m | m
        · rw [← m] at c; exact absurd rfl c
        · exact m
      have := wayOf_mem nd.2 m
      simp only [wayOf, List.find?_cons, decide_eq_false c] at this ⊢
      exact this
theorem wayOf_in : ∀ {gw : List (Int × List (Str × Int))} {k : Int}, k ∈ gw.map (·.1) → (k, wayOf gw k) ∈ gw
  | z :: gw, k, m => by
    by_cases c : z.1 = k
    · have e : wayOf (z :: gw) k = z.2 := by simp [wayOf, c]
      rw [e, ← c]
      exact List.mem_cons_self ..
    · have m : k ∈ gw.map (·.1) := (List.mem_cons.mp m).resolve_left fun y => c y.symm
      have := wayOf_in m
      have e : wayOf (z :: gw) k = wayOf gw k := by simp only [wayOf, List.find?_cons, decide_eq_false c]
      rw [e]
      exact List.mem_cons_of_mem _ this
theorem wayOf_no {gw : List (Int × List (Str × Int))} {k : Int} (n : k ∉ gw.map (·.1)) : wayOf gw k = [] := by
  unfold wayOf
  rw [List.find?_eq_none.mpr fun z m => by
    rw [decide_eq_true_eq]
    exact fun e => n (List.mem_map.mpr ⟨z, m, e⟩)]
  rfl
structure GwOk (gw : List (Int × List (Str × Int))) : Prop where
  nd : (gw.map (·.1)).Nodup
  top : (-1 : Int) ∈ gw.map (·.1)
  cl : ∀ k ts, (k, ts) ∈ gw → ∀ t ∈ ts, t.2 ∈ gw.map (·.1) ∧ t.2 ≠ -1
  ll : ∀ k ts, (k, ts) ∈ gw → ts.length ≤ 1000
  lg : gw.length ≤ 8001
theorem GwOk.W {gw : List (Int × List (Str × Int))} (o : GwOk gw) {k x : Int} (h : x ∈ Wof gw k) : x ∈ gw.map (·.1) ∧ x ≠ -1 := by
  by_cases c : k ∈ gw.map (·.1)
  · obtain ⟨t, m, e⟩ := List.mem_map.mp h
    exact e ▸ o.cl _ _ (wayOf_in c) t m
  · unfold Wof at h
    rw [wayOf_no c] at h
    cases h
theorem way_keys {N : Addr → Prop} {H : Hp} : ∀ {kvs : List (Key × V)} {gw : List (Int × List (Str × Int))}, Paired (WayR N H) kvs gw → kvs.map (·.1) = gw.map (fun z => (.inl z.1 : Key))
  | _, _, .nil => rfl
  | _, _, .cons h r => by rw [List.map_cons, List.map_cons, h.1, way_keys r]
theorem GrR.way {H : Hp} {a : Addr} {gs : List (Int × Int)} {gw : List (Int × List (Str × Int))} (h : GrR K H a gs gw) (o : GwOk gw) : ∃ (dx sz wy : Addr) (kvs : List (Key × V)), H a = some (.ins (He.ga K "Graph") dx (fs_Graph (.ref sz) (.ref wy))) ∧ H sz = some (.dK (szK gs)) ∧ H wy = some (.dK kvs) ∧ kvs.map (·.1) = gw.map (fun z => (.inl z.1 : Key)) ∧ kvs.length = gw.length ∧
    ∀ k, k ∈ gw.map (·.1) → ∃ l ps, valV kvs (.inl k) = some (.ref l) ∧ H l = some (.lst (ps.map V.ref)) ∧ Paired (TxR H) ps (wayOf gw k) := by
  obtain ⟨dx, sz, wy, kvs, h1, h2, h3, h4⟩ := h
  refine ⟨dx, sz, wy, kvs, h1, h2, h3, way_keys h4, Paired.length h4, fun k m => ?_⟩
  obtain ⟨l, e, _, ps, g1, g2⟩ := way_get h4 o.nd (wayOf_in m)
  exact ⟨l, ps, e, g1, g2⟩
def trueK (ms : List Int) : List (Key × V) := ms.map fun k => ((.inl k : Key), V.bl true)
theorem trueK_has {ms : List Int} {x : Int} : (valV (trueK ms) (.inl x)).isSome = decide (x ∈ ms) := by
  induction ms with
  | nil => rfl
  | cons n ns ih =>
    unfold trueK at ih ⊢
    rw [List.map_cons]
    by_cases c : n = x
    · subst c
      rw [valV_pos rfl]
      simp
    · rw [valV_neg (fun z => c (Sum.inl.inj z)), ih]
      exact dec_congr ⟨fun m => List.mem_cons_of_mem _ m, fun m => (List.mem_cons.mp m).resolve_left fun z => c z.symm⟩
theorem trueK_put {ms : List Int} {x : Int} (n : x ∉ ms) : putK (trueK ms) (.inl x) (.bl true) = trueK (ms ++ [x]) := by
  have h : valV (trueK ms) (.inl x) = none := by
    have e := trueK_has (ms := ms) (x := x)
    rw [decide_eq_false n] at e
    cases g : valV (trueK ms) (.inl x) with
    | none => rfl
    | some v => rw [g] at e; cases e
  rw [putK_new _ h]
  unfold trueK
  rw [List.map_append]
  rfl
theorem nodup_leI {l m : List Int} (nd : l.Nodup) (h : ∀ x ∈ l, x ∈ m) : l.length ≤ m.length := by
  induction l generalizing m with
  | nil => exact Nat.zero_le _
  | cons x l ih =>
    obtain ⟨u, v, rfl⟩ := List.append_of_mem (h x (List.mem_cons_self ..))
    rw [List.nodup_cons] at nd
    have := ih (m := u ++ v) nd.2 fun y hy => by
      have := h y (List.mem_cons_of_mem _ hy)
      rw [List.mem_append, List.mem_cons] at this
      rcases this with z | z | z
      · exact List.mem_append.mpr (.inl z)
      · exact absurd (z ▸ hy) nd.1
      · exact List.mem_append.mpr (.inr z)
    rw [List.length_append] at this
    rw [List.length_append, List.length_cons, List.length_cons]
    omega
theorem paired_snoc {α β : Type} {R : α → β → Prop} {b : β} : ∀ {l : List α} {m : List β}, Paired R l (m ++ [b]) → ∃ l0 a, l = l0 ++ [a] ∧ Paired R l0 m ∧ R a b
  | _, [], .cons h .nil => ⟨[], _, rfl, .nil, h⟩
  | _, x :: m, .cons h r => by
    obtain ⟨l0, a, e, h1, h2⟩ := paired_snoc r
    exact ⟨_ :: l0, a, by rw [e]; rfl, .cons h h1, h2⟩
theorem ip_app {H B : Hp} {l tp : Addr} {ps : List Addr} {zs : List (Int × Nat)} {z : Int × Nat} (hl : H l = some (.lst (ps.map V.ref))) (pr : Paired (IP H) ps zs) (ht : H tp = none) (sb : Same B H) (bl : B l = none) :
    ∃ H', upd (upd H tp (.tup [.int z.1, .int (z.2 : Int)])) l (.lst (ps.map V.ref ++ [.ref tp])) = H' ∧ H' l = some (.lst ((ps ++ [tp]).map V.ref)) ∧ Paired (IP H') (ps ++ [tp]) (zs ++ [z]) ∧ (∀ b u, H b = some u → b ≠ l → H' b = some u) ∧ Same B H' := by
  have ne : l ≠ tp := ne_of_none hl ht
  have st : ∀ b u, H b = some u → b ≠ l → upd (upd H tp (.tup [.int z.1, .int (z.2 : Int)])) l (.lst (ps.map V.ref ++ [.ref tp])) b = some u := fun b u e n => by
    rw [upd_ne n, upd_ne (ne_of_none e ht)]; exact e
  have tu : Tups H (upd (upd H tp (.tup [.int z.1, .int (z.2 : Int)])) l (.lst (ps.map V.ref ++ [.ref tp]))) := fun b xs e => st _ _ e fun z => by rw [z, hl] at e; cases e
  refine ⟨_, rfl, ?_, Paired.app (Paired.mapP pr fun _ _ z => tu _ _ z) ?_, st, fun b u e => st _ _ (sb _ _ e) fun z => by rw [z, bl] at e; cases e⟩
  · rw [upd_same, List.map_append]; rfl
  · show upd (upd H tp _) l _ tp = _
    rw [upd_ne ne.symm, upd_same]
abbrev spOrder (K : PySem.W.Frag) : Sp := Sp1 fun x H Q => ∃ (a : Addr) (gs : List (Int × Int)) (gw : List (Int × List (Str × Int))), x = .ref a ∧ GrR K H a gs gw ∧ GwOk gw ∧
  ∀ (l : Addr) (o : List Int) (H' : Hp), Same H H' → H l = none → H' l = some (.lst (o.map V.int)) → OrdOk (Wof gw) o → o.length ≤ 8001 → Q (.ref l) H'
theorem met_Graph_order (T : Tx w K mg base) : Met P w K mg base 1 (He.ga K "Graph") "order" (spOrder K) [] := by
  obtain ⟨fd, F⟩ := T.fn_Graph_order
  refine met_of T.cl_Graph T.me_Graph_order F sc_Graph_order (F.bindsN fun _ _ _ _ _ _ us hl => match us, hl with | [_], _ => rfl) (fun vs H Q E h => h.len) (fun cdv A outer s H vs Q E hr h => ?_)
  obtain ⟨x, rfl, a, gs, gw, rfl, G, gok, q⟩ := h
  have hu := hu_of hr
  have nd := sc_Graph_order.nd
  refine ⟨_, (pss_cons (ps_set (i := 1) nd rfl (Or.inl rfl) (pe_disp (pps_cons (pe_gc rfl T.k_TOP) pe_bl pps_nil) (by rfl) (by rfl) (fun z => by cases z) (by decide))) (pss_cons (ps_set (i := 2) nd rfl (Or.inl rfl) (pe_lst pa_nil)) (pss_cons (ps_set (i := 3) nd rfl (Or.inl rfl) (pe_lst (pa_cons (pe_tup (pa_cons (pe_gc rfl T.k_TOP) (pa_cons pe_int pa_nil))) pa_nil))) (pss_cons (ps_while PassesOwn.never (pt_cmpR (op_neD hr.units) (pv 3) (pe_lst pa_nil) (nomark _)) (pss_cons (ps_asg (pe_bm0 PySem.F.plainAttrs_list PySem.F.slot_list_pop PySem.F.type_list_pop mt_pop (pv 3)) (pg_tup (n := 2) rfl (pgs_cons (pg_name (i := 4) nd rfl (Or.inl rfl)) (pgs_cons (pg_name (i := 5) nd rfl (Or.inl rfl)) pgs_nil)))) (pss_one (ps_if (pt_cmpR op_eq (pv 5) (pe_callB call_len_seq (by rfl) T.n_len PySem.boot_len (pa_cons (pe_dget hu (pe_fld (pv 0) rfl) (pv 4) (fun _ _ => rfl)) pa_nil)) (nomark _)) (pss_one (ps_expr (pe_bm PySem.F.plainAttrs_list PySem.F.slot_list_append PySem.F.type_list_append mt_append (pv 2) (pa_cons (pv 4) pa_nil)))) (pss_cons (ps_expr (pe_bm PySem.F.plainAttrs_list PySem.F.slot_list_append PySem.F.type_list_append mt_append (pv 3) (pa_cons (pe_tup (pa_cons (pv 4) (pa_cons (pe_op op_add (pv 5) pe_int) pa_nil))) pa_nil))) (pss_cons (ps_set (i := 6) nd rfl (Or.inl rfl) (pe_ix ix_tup (pe_ix ix_list (pe_dget hu (pe_fld (pv 0) rfl) (pv 4) (fun _ _ => rfl)) (pv 5) (fun _ _ => rfl)) pe_int (fun _ _ => rfl))) (pss_one (ps_if (pt_cmp (pc_dnotin hu (pv 6) (pv 1))) (pss_cons (ps_dput hu (pv 1) (pv 6) pe_bl rfl) (pss_one (ps_expr (pe_bm PySem.F.plainAttrs_list PySem.F.slot_list_append PySem.F.type_list_append mt_append (pv 3) (pa_cons (pe_tup (pa_cons (pv 6) (pa_cons pe_int pa_nil))) pa_nil))))) pss_nil)))))))) (pss_one (ps_ret (pe_revL (pv 2)))))))), ?_⟩
  obtain ⟨dx, sz, wy, kvs, ga, gsz, gwy, gky, gkl, gwp⟩ := G.way gok
  walk_at "sx"
  intro pm hpm
  walk_at "rx"
  refine ⟨by rw [upd_same], [(.inl (-1), .bl true)], rfl, (by show 1 ≤ 15; decide), ?_⟩
  walk_at "rx"
  have s1 : Same H (upd (upd H pm (.dK [])) pm (.dK (mergeK [] [(.inl (-1), V.bl true)]))) := same_fresh (Same.new hpm) hpm
  have m1 : upd (upd H pm (.dK [])) pm (.dK (mergeK [] [(.inl (-1), V.bl true)])) pm = some (.dK (trueK [-1])) := by rw [upd_same]; rfl
  generalize upd (upd H pm (.dK [])) pm (.dK (mergeK [] [(.inl (-1), V.bl true)])) = H1 at s1 m1 ⊢
  intro pf hpf
  have f2 : upd H1 pf (.lst []) pf = some (.lst ((([] : List Int)).map V.int)) := upd_same
  have s2 := s1.trans (Same.new (o := .lst []) hpf)
  have m2 := Same.new (o := .lst []) hpf _ _ m1
  have f0 := same_none s1 hpf
  generalize upd H1 pf (.lst []) = H2 at s2 m2 f2 ⊢
  walk_at "rx"
  intro t0 ht0
  have f3 := Same.new (o := .tup [.int (-1), .int 0]) ht0 _ _ f2
  have m3 := Same.new (o := .tup [.int (-1), .int 0]) ht0 _ _ m2
  have s3 := s2.trans (Same.new (o := .tup [.int (-1), .int 0]) ht0)
  have t3 : upd H2 t0 (.tup [.int (-1), .int 0]) t0 = some (.tup [.int (-1), .int 0]) := upd_same
  generalize upd H2 t0 (.tup [.int (-1), .int 0]) = H3 at s3 m3 f3 t3 ⊢
  walk_at "rx"
  intro pl hpl
  have f4 := Same.new (o := .lst [.ref t0]) hpl _ _ f3
  have m4 := Same.new (o := .lst [.ref t0]) hpl _ _ m3
  have t4 := Same.new (o := .lst [.ref t0]) hpl _ _ t3
  have s4 := s3.trans (Same.new (o := .lst [.ref t0]) hpl)
  have l4 : upd H3 pl (.lst [.ref t0]) pl = some (.lst ([t0].map V.ref)) := upd_same
  have l0 := same_none s3 hpl
  have nfl : pf ≠ pl := ne_of_none f3 hpl
  generalize upd H3 pl (.lst [.ref t0]) = H4 at s4 m4 f4 t4 l4 ⊢
  have nmf : pm ≠ pf := fun z => by rw [z, f4] at m4; cases m4
  have nml : pm ≠ pl := fun z => by rw [z, l4] at m4; cases m4
  walk_at "rx"
  refine x_while (fun m σ H' => ∃ (ms fd : List Int) (lf : List (Int × Nat)) (ps : List Addr) (u4 u5 u6 : Option V), σ = [some (.ref a), some (.ref pm), some (.ref pf), some (.ref pl), u4, u5, u6] ∧ Same H H' ∧ H' pm = some (.dK (trueK ms)) ∧ H' pf = some (.lst (fd.map V.int)) ∧ H' pl = some (.lst (ps.map V.ref)) ∧ Paired (IP H') ps lf ∧ DInv (Wof gw) (gw.map (·.1)) ms fd lf ∧ m = muU (Wof gw) ms (gw.map (·.1)) + muL (Wof gw) lf) _
    ⟨[-1], [], [(-1, 0)], [t0], _, _, _, rfl, s4, m4, f4, l4, .cons t4 .nil, DInv.start gok.top, rfl⟩ ?_
  rintro m σ H5 ⟨ms, fd, lf, ps, u4, u5, u6, rfl, s5, m5, f5, l5, p5, D, rfl⟩
  walk_at "rx"
  intro e he
  have sE := Same.new (o := .lst []) he
  have m6 := sE _ _ m5
  have f6 := sE _ _ f5
  have l6 := sE _ _ l5
  have p6 : Paired (IP (upd H5 e (.lst []))) ps lf := Paired.mapP p5 fun _ _ z => sE _ _ z
  have s6 := s5.trans sE
  have e6 : upd H5 e (.lst []) e = some (.lst []) := upd_same
  generalize upd H5 e (.lst []) = H6 at s6 m6 f6 l6 p6 e6 ⊢
  refine y_neNilI l6 p6 e6 ?_
  walk_at "rx"
  have lms : (ms.map V.int).length ≤ 8001 := by rw [List.length_map]; exact Nat.le_trans (nodup_leI D.mn D.ns) (by rw [List.length_map]; exact gok.lg)
  have lof : (ordS fd lf).length ≤ 8001 := Nat.le_trans (nodup_leI D.nd fun x h => D.ns x ((D.mt x).mpr h)) (by rw [List.length_map]; exact gok.lg)
  have lof2 : fd.length + lf.length ≤ 8001 := by
    rw [List.length_append, List.length_reverse, List.length_map] at lof
    exact lof
  refine y_w (fun c => ?_) (fun c => ?_)
  · have hne : lf ≠ [] := fun z => by rw [z] at c; simp at c
    obtain ⟨lf0, ⟨n, pc⟩, rfl⟩ : ∃ init x, lf = init ++ [x] := ⟨lf.dropLast, lf.getLast hne, (List.dropLast_concat_getLast hne).symm⟩
    obtain ⟨ps0, tp, rfl, p60, htp⟩ := paired_snoc p6
    rw [List.map_append, List.map_cons, List.map_nil] at l6
    rw [List.length_append, List.length_singleton] at lof2
    walk_at "rx"
    refine y_pop (y := .ref tp) l6 (by simp) ?_
    rw [List.dropLast_concat]
    have kpl : ∀ b xs, H6 b = some (.tup xs) → upd H6 pl (.lst (ps0.map V.ref)) b = some (.tup xs) := fun b xs e => by rw [upd_ne fun z => by rw [z, l6] at e; cases e]; exact e
    have s7 : Same H (upd H6 pl (.lst (ps0.map V.ref))) := same_fresh s6 l0
    have m7 : upd H6 pl (.lst (ps0.map V.ref)) pm = some (.dK (trueK ms)) := by rw [upd_ne nml]; exact m6
    have f7 : upd H6 pl (.lst (ps0.map V.ref)) pf = some (.lst (fd.map V.int)) := by rw [upd_ne nfl]; exact f6
    have l7 : upd H6 pl (.lst (ps0.map V.ref)) pl = some (.lst (ps0.map V.ref)) := upd_same
    have p7 : Paired (IP (upd H6 pl (.lst (ps0.map V.ref)))) ps0 lf0 := Paired.mapP p60 fun _ _ z => kpl _ _ z
    have tp7 := kpl _ _ htp
    generalize upd H6 pl (.lst (ps0.map V.ref)) = H7 at s7 m7 f7 l7 p7 tp7 ⊢
    refine y_tup2 tp7 ?_
    have nn : n ∈ ordS fd (lf0 ++ [(n, pc)]) := by simp [ordS]
    have nm : n ∈ gw.map (·.1) := D.ns n ((D.mt n).mpr nn)
    obtain ⟨lw, ws, wv, hlw, hws⟩ := gwp n nm
    have a7 := s7 _ _ ga
    have y7 := s7 _ _ gwy
    have w7 := s7 _ _ hlw
    have lpc := (D.cl (n, pc) (by simp)).1
    have ewl : ws.length = (Wof gw n).length := by rw [Paired.length hws]; unfold Wof; rw [List.length_map]
    have lws : (Wof gw n).length ≤ 1000 := by unfold Wof; rw [List.length_map]; exact gok.ll _ _ (wayOf_in nm)
    have lpc : pc ≤ (Wof gw n).length := lpc
    walk_at "rx"
    refine y_dgetI y7 wv ?_
    walk_at "rx"
    refine ⟨lw, _, rfl, .inl (sqL w7), ?_⟩
    walk_at "rx"
    refine y_dec (fun c2 => ?_) (fun c2 => ?_)
    · have ec : pc = (Wof gw n).length := by
        have := V.int.inj c2
        rw [List.length_map, ewl] at this
        omega
      have hz : (fd.map V.int).length < sizeLine := small9000 (by rw [List.length_map]; omega)
      walk_at "rx"
      have e1 : fd.map V.int ++ [V.int n] = (fd ++ [n]).map V.int := by rw [List.map_append]; rfl
      rw [e1]
      have kpf : ∀ b xs, H7 b = some (.tup xs) → upd H7 pf (.lst ((fd ++ [n]).map V.int)) b = some (.tup xs) := fun b xs e => by rw [upd_ne fun z => by rw [z, f7] at e; cases e]; exact e
      exact ⟨_, mu_fin ec, ms, fd ++ [n], lf0, ps0, _, _, _, rfl, same_fresh s7 f0, by rw [upd_ne nmf]; exact m7, upd_same, by rw [upd_ne nfl.symm]; exact l7, Paired.mapP p7 fun _ _ z => kpf _ _ z, D.fin ec, rfl⟩
    · have lc : pc < (Wof gw n).length := by
        have : ¬ (pc : Int) = ((ws.map V.ref).length : Int) := fun z => c2 (congrArg V.int z)
        rw [List.length_map, ewl] at this
        omega
      obtain ⟨tt, htt⟩ : ∃ tt, (wayOf gw n)[pc]? = some tt := ⟨_, List.getElem?_eq_getElem (by unfold Wof at lc; rw [List.length_map] at lc; exact lc)⟩
      obtain ⟨wp, hwp, ewp⟩ := paired_getR hws htt
      have ho : (Wof gw n)[pc]? = some tt.2 := by unfold Wof; rw [List.getElem?_map, htt]; rfl
      have wp7 := s7 _ _ (show H wp = some (.tup [.str tt.1, .int tt.2]) from ewp)
      have on := gok.W (List.mem_of_getElem? ho)
      have hz2 : (ps0.map V.ref).length < sizeLine := small9000 (by rw [List.length_map, Paired.length p7]; omega)
      walk_at "rx"
      intro tq htq
      have l71 := Same.new (o := .tup [.int n, .int ((pc : Int) + 1)]) htq _ _ l7
      walk_at "rx"
      obtain ⟨H8, eH, l8, p8, k8, s8⟩ := ip_app (z := (n, pc + 1)) l7 p7 htq s7 l0
      have eH : upd (upd H7 tq (.tup [.int n, .int ((pc : Int) + 1)])) pl (.lst (ps0.map V.ref ++ [.ref tq])) = H8 := eH
      rw [eH]
      have m8 := k8 _ _ m7 nml
      have f8 := k8 _ _ f7 nfl
      have a8 := s8 _ _ ga
      have y8 := s8 _ _ gwy
      have w8 := s8 _ _ hlw
      have wp8 := s8 _ _ (show H wp = some (.tup [.str tt.1, .int tt.2]) from ewp)
      clear eH l71
      walk_at "rx"
      refine y_dgetI y8 wv ?_
      walk_at "rx"
      refine y_ixL w8 (v := .ref wp) (atI_nat (by rw [List.getElem?_map, hwp]; rfl)) ?_
      refine y_ixT (i := 1) wp8 rfl ?_
      walk_at "rx"
      refine y_dnotin (j := .inl tt.2) (.inl m8) rfl ?_
      rw [trueK_has]
      walk_at "rx"
      refine y_ndec (fun hx => ?_) (fun hx => ?_)
      · walk_at "rx"
        have lms2 : ms.length ≤ 8001 := by rw [List.length_map] at lms; exact lms
        refine y_dput m8 (j := .inl tt.2) rfl (small9000 (by unfold trueK; rw [List.length_map]; omega)) (trueK_put hx) ?_
        have s9 : Same H (upd H8 pm (.dK (trueK (ms ++ [tt.2])))) := same_fresh s8 hpm
        have m9 : upd H8 pm (.dK (trueK (ms ++ [tt.2]))) pm = some (.dK (trueK (ms ++ [tt.2]))) := upd_same
        have k9 : ∀ b u, H8 b = some u → b ≠ pm → upd H8 pm (.dK (trueK (ms ++ [tt.2]))) b = some u := fun b u e n => by rw [upd_ne n]; exact e
        have f9 := k9 _ _ f8 nmf.symm
        have l9 := k9 _ _ l8 nml.symm
        have p9 : Paired (IP (upd H8 pm (.dK (trueK (ms ++ [tt.2]))))) (ps0 ++ [tq]) (lf0 ++ [(n, pc + 1)]) := Paired.mapP p8 fun _ _ z => k9 _ _ z fun y => by have z : H8 _ = some _ := z; rw [y, m8] at z; cases z
        generalize upd H8 pm (.dK (trueK (ms ++ [tt.2]))) = H9 at s9 m9 f9 l9 p9 ⊢
        clear k9
        walk_at "rx"
        intro tr htr
        have l91 := Same.new (o := .tup [.int tt.2, .int 0]) htr _ _ l9
        have hz3 : ((ps0 ++ [tq]).map V.ref).length < sizeLine := small9000 (by rw [List.length_map, Paired.length p9, List.length_append]; simp; omega)
        walk_at "rx"
        obtain ⟨HA, eA, lA, pA, kA, sA⟩ := ip_app (z := (tt.2, 0)) l9 p9 htr s9 l0
        have eA : upd (upd H9 tr (.tup [.int tt.2, .int 0])) pl (.lst ((ps0 ++ [tq]).map V.ref ++ [.ref tr])) = HA := eA
        rw [eA]
        exact ⟨_, mu_push lc hx on.1, ms ++ [tt.2], fd, lf0 ++ [(n, pc + 1)] ++ [(tt.2, 0)], ps0 ++ [tq] ++ [tr], _, _, _, rfl, sA, kA _ _ m9 nml, kA _ _ f9 nfl, lA, pA, D.push ho hx on.1, rfl⟩
      · walk_at "rx"
        exact ⟨_, mu_adv lc, ms, fd, lf0 ++ [(n, pc + 1)], ps0 ++ [tq], _, _, _, rfl, s8, m8, f8, l8, p8, D.adv ho hx, rfl⟩
  · have e0 : lf = [] := by
      cases lf with
      | nil => rfl
      | cons z zs => exact nomatch c
    subst e0
    walk_at "rx"
    refine x_var rfl ?_
    refine ⟨pf, _, rfl, sqL f6, fun r hr => ?_⟩
    rw [← List.map_reverse]
    have od := D.done fun x y h => (gok.W h).2
    refine q r fd.reverse _ (s6.trans (Same.new hr)) (same_none s6 hr) upd_same od ?_
    rw [List.length_reverse]
    have : fd.length + 0 ≤ 8001 := lof2
    omega
end

/-! ### who holds whom; the nearest that keeps two -/
section
variable {P : Program} {w : World} {K : PySem.W.Frag} {mg : Str → Option Value} {base : Heap}
def hoK (ks : List Int) (la : Int → Addr) : List (Key × V) := ks.map fun k => ((.inl k : Key), V.ref (la k))
theorem hoK_get {ks : List Int} {la : Int → Addr} {k : Int} (m : k ∈ ks) : valV (hoK ks la) (.inl k) = some (.ref (la k)) := by
  induction ks with
  | nil => cases m
  | cons x ks ih =>
    show valV ((.inl x, V.ref (la x)) :: hoK ks la) _ = _
    by_cases c : x = k
    · subst c; exact valV_pos rfl
    · rw [valV_neg fun y => c (Sum.inl.inj y)]
      exact ih ((List.mem_cons.mp m).resolve_left fun z => c z.symm)
theorem hoK_no {ks : List Int} {la : Int → Addr} {k : Int} (m : k ∉ ks) : valV (hoK ks la) (.inl k) = none := by
  induction ks with
  | nil => rfl
  | cons x ks ih =>
    show valV ((.inl x, V.ref (la x)) :: hoK ks la) _ = _
    rw [valV_neg fun y => m (by have := Sum.inl.inj y; simp [this])]
    exact ih fun z => m (List.mem_cons_of_mem _ z)
/-- lists of those that hold, by those that are held -/
structure HoR (B H : Hp) (d : Addr) (ks : List Int) (la : Int → Addr) (hf : Int → List Int) (PE : Int → Int → Prop) (c : Nat) : Prop where
  hd : H d = some (.dK (hoK ks la))
  hl : ∀ k ∈ ks, H (la k) = some (.lst ((hf k).map V.int)) ∧ B (la k) = none
  inj : ∀ k ∈ ks, ∀ j ∈ ks, la k = la j → k = j
  mx : ∀ x, x ∈ ks ↔ ∃ p, PE p x
  mh : ∀ x ∈ ks, ∀ p, p ∈ hf x ↔ PE p x
  ln : ∀ x ∈ ks, (hf x).length ≤ c
  nd : ks.Nodup
theorem HoR.same {B H H' : Hp} {d : Addr} {ks : List Int} {la : Int → Addr} {hf : Int → List Int} {PE : Int → Int → Prop} {c : Nat} (h : HoR B H d ks la hf PE c) (s : Same H H') : HoR B H' d ks la hf PE c :=
  ⟨s _ _ h.hd, fun k m => ⟨s _ _ (h.hl k m).1, (h.hl k m).2⟩, h.inj, h.mx, h.mh, h.ln, h.nd⟩
theorem HoR.to {B H : Hp} {d : Addr} {ks : List Int} {la : Int → Addr} {hf : Int → List Int} {PE PE' : Int → Int → Prop} {c c' : Nat} (h : HoR B H d ks la hf PE c) (e : ∀ p x, PE p x ↔ PE' p x) (lc : c ≤ c') : HoR B H d ks la hf PE' c' :=
  ⟨h.hd, h.hl, h.inj, fun x => (h.mx x).trans (exists_congr fun p => e p x), fun x m p => (h.mh x m p).trans (e p x), fun x m => Nat.le_trans (h.ln x m) lc, h.nd⟩
def addE (PE : Int → Int → Prop) (n x : Int) : Int → Int → Prop := fun p y => PE p y ∨ (p = n ∧ y = x)
/-- one more that holds, of one already held -/
theorem HoR.old {B H : Hp} {d : Addr} {ks : List Int} {la : Int → Addr} {hf : Int → List Int} {PE : Int → Int → Prop} {c : Nat} {n x : Int} (h : HoR B H d ks la hf PE c) (m : x ∈ ks) :
    HoR B (upd H (la x) (.lst ((hf x).map V.int ++ [.int n]))) d ks la (fun k => if k = x then hf k ++ [n] else hf k) (addE PE n x) (c + 1) := by
  have nd : d ≠ la x := fun z => by have := h.hd; rw [z, (h.hl x m).1] at this; cases this
  refine ⟨by rw [upd_ne nd]; exact h.hd, fun k mk => ?_, h.inj, fun y => ?_, fun y my p => ?_, fun y my => ?_, h.nd⟩
  · by_cases e : k = x
    · subst e
      rw [upd_same, if_pos rfl, List.map_append]
      exact ⟨rfl, (h.hl k m).2⟩
    · rw [upd_ne fun z => e (h.inj k mk x m z), if_neg e]
      exact h.hl k mk
  · rw [h.mx y]
    refine ⟨fun ⟨p, z⟩ => ⟨p, .inl z⟩, fun ⟨p, z⟩ => z.elim (fun z => ⟨p, z⟩) fun z => z.2 ▸ (h.mx x).mp m⟩
  · by_cases e : y = x
    · subst e
      show p ∈ (if y = y then hf y ++ [n] else hf y) ↔ _
      rw [if_pos rfl, List.mem_append, List.mem_singleton, h.mh y my p]
      exact ⟨fun z => z.imp id fun z => ⟨z, rfl⟩, fun z => z.imp id fun z => z.1⟩
    · show p ∈ (if y = x then hf y ++ [n] else hf y) ↔ _
      rw [if_neg e, h.mh y my p]
      exact ⟨.inl, fun z => z.elim id fun z => absurd z.2 e⟩
  · have := h.ln y my
    show (if y = x then hf y ++ [n] else hf y).length ≤ c + 1
    split
    · rw [List.length_append, List.length_singleton]; omega
    · omega
/-- one that wasn't held yet -/
theorem HoR.new {B H : Hp} {d l : Addr} {ks : List Int} {la : Int → Addr} {hf : Int → List Int} {PE : Int → Int → Prop} {c : Nat} {n x : Int} (h : HoR B H d ks la hf PE c) (m : x ∉ ks) (hl : H l = none) (bl : B l = none) {H' : Hp} (h1 : H' d = some (.dK (hoK ks la ++ [(.inl x, .ref l)]))) (h2 : H' l = some (.lst [.int n])) (h3 : ∀ b u, H b = some u → b ≠ d → H' b = some u) :
    HoR B H' d (ks ++ [x]) (fun k => if k = x then l else la k) (fun k => if k = x then [n] else hf k) (addE PE n x) (c + 1) := by
  have nx : ∀ k ∈ ks, k ≠ x := fun k mk z => m (z ▸ mk)
  have nl : ∀ k ∈ ks, la k ≠ l := fun k mk z => by have := (h.hl k mk).1; rw [z, hl] at this; cases this
  refine ⟨?_, fun k mk => ?_, fun k mk j mj e => ?_, fun y => ?_, fun y my p => ?_, fun y my => ?_, ?_⟩
  · rw [h1]
    unfold hoK
    rw [List.map_append]
    have e1 : (ks.map fun k => ((.inl k : Key), V.ref (if k = x then l else la k))) = ks.map fun k => ((.inl k : Key), V.ref (la k)) := List.map_congr_left fun k mk => by rw [if_neg (nx k mk)]
    rw [e1]
    show some _ = some _
    rw [show ([x].map fun k => ((.inl k : Key), V.ref (if k = x then l else la k))) = [(.inl x, .ref l)] by simp]
  · rcases List.mem_append.mp mk with mk | mk
    · rw [if_neg (nx k mk), if_neg (nx k mk)]
      have nd : la k ≠ d := fun z => by have := h.hd; rw [← z, (h.hl k mk).1] at this; cases this
      exact ⟨h3 _ _ (h.hl k mk).1 nd, (h.hl k mk).2⟩
    · rw [List.mem_singleton.mp mk, if_pos rfl, if_pos rfl]
      exact ⟨h2, bl⟩
  · rcases List.mem_append.mp mk with mk | mk <;> rcases List.mem_append.mp mj with mj | mj
    · rw [if_neg (nx k mk), if_neg (nx j mj)] at e; exact h.inj k mk j mj e
    · rw [if_neg (nx k mk), if_pos (List.mem_singleton.mp mj)] at e; exact absurd e (nl k mk)
    · rw [if_neg (nx j mj), if_pos (List.mem_singleton.mp mk)] at e; exact absurd e.symm (nl j mj)
    · rw [List.mem_singleton.mp mk, List.mem_singleton.mp mj]
  · rw [List.mem_append, List.mem_singleton, h.mx y]
    refine ⟨fun z => z.elim (fun ⟨p, z⟩ => ⟨p, .inl z⟩) fun z => ⟨n, .inr ⟨rfl, z⟩⟩, fun ⟨p, z⟩ => z.elim (fun z => .inl ⟨p, z⟩) fun z => .inr z.2⟩
  · show p ∈ (if y = x then [n] else hf y) ↔ _
    by_cases e : y = x
    · subst e
      rw [if_pos rfl, List.mem_singleton]
      exact ⟨fun z => .inr ⟨z, rfl⟩, fun z => z.elim (fun z => absurd ((h.mx y).mpr ⟨p, z⟩) m) fun z => z.1⟩
    · have my : y ∈ ks := (List.mem_append.mp my).resolve_right fun z => e (List.mem_singleton.mp z)
      rw [if_neg e, h.mh y my p]
      exact ⟨.inl, fun z => z.elim id fun z => absurd z.2 e⟩
  · show (if y = x then [n] else hf y).length ≤ c + 1
    by_cases e : y = x
    · rw [if_pos e]; simp
    · have my : y ∈ ks := (List.mem_append.mp my).resolve_right fun z => e (List.mem_singleton.mp z)
      rw [if_neg e]
      have := h.ln y my
      omega
  · rw [List.nodup_append]
    exact ⟨h.nd, by simp, fun a ma b mb z => by rw [List.mem_singleton] at mb; exact m (mb ▸ z ▸ ma)⟩
theorem wayOf_key {gw : List (Int × List (Str × Int))} {p x : Int} (h : x ∈ Wof gw p) : p ∈ gw.map (·.1) := by
  refine Classical.byContradiction fun n => ?_
  unfold Wof at h
  rw [wayOf_no n] at h
  cases h
abbrev spFromWhere (K : PySem.W.Frag) : Sp := Sp1 fun x H Q => ∃ (a : Addr) (gs : List (Int × Int)) (gw : List (Int × List (Str × Int))), x = .ref a ∧ GrR K H a gs gw ∧ GwOk gw ∧
  ∀ (d : Addr) (ks : List Int) (la : Int → Addr) (hf : Int → List Int) (H' : Hp), Same H H' → H d = none → HoR H H' d ks la hf (fun p x => x ∈ Wof gw p) 9000000 → Q (.ref d) H'
theorem met_Graph_from_where (T : Tx w K mg base) : Met P w K mg base 1 (He.ga K "Graph") "from_where" (spFromWhere K) [] := by
  obtain ⟨fd, F⟩ := T.fn_Graph_from_where
  refine met_of T.cl_Graph T.me_Graph_from_where F sc_Graph_from_where (F.bindsN fun _ _ _ _ _ _ us hl => match us, hl with | [_], _ => rfl) (fun vs H Q E h => h.len) (fun cdv A outer s H vs Q E hr h => ?_)
  obtain ⟨x, rfl, a, gs, gw, rfl, G, gok, q⟩ := h
  have hu := hu_of hr
  have nd := sc_Graph_from_where.nd
  refine ⟨_, (pss_cons (ps_set (i := 1) nd rfl (Or.inl rfl) pe_dnewK) (pss_cons (ps_lock (ps_for PassesOwn.never rfl (pi_keys (pe_fld (pv 0) rfl)) (pg_name (i := 2) nd rfl (Or.inl rfl)) (pss_one (ps_for PassesOwn.never rfl (pi_list (pe_dget hu (pe_fld (pv 0) rfl) (pv 2) (fun _ _ => rfl))) (pg_tup (n := 2) rfl (pgs_cons (pg_name (i := 3) nd rfl (Or.inl rfl)) (pgs_cons (pg_name (i := 4) nd rfl (Or.inl rfl)) pgs_nil))) (pss_one (ps_expr (pe_bm PySem.F.plainAttrs_list PySem.F.slot_list_append PySem.F.type_list_append mt_append (pe_dsetd (pv 1) (pv 4) (pe_lst pa_nil) ⟨rfl, rfl, rfl, rfl⟩) (pa_cons (pv 2) pa_nil)))))))) (pss_one (ps_ret (pv 1))))), ?_⟩
  obtain ⟨dx, sz, wy, kvs, ga, gsz, gwy, gky, gkl, gwp⟩ := G.way gok
  walk_at "sx"
  intro d hd
  have s1 := Same.new (o := .dK []) hd
  have d1 : upd H d (.dK []) d = some (.dK (hoK [] fun _ => d)) := upd_same
  generalize upd H d (.dK []) = H1 at s1 d1 ⊢
  walk_at "rx"
  have ndw : d ≠ wy := fun z => by rw [z, gwy] at hd; cases hd
  have naw : a ≠ wy := fun z => by rw [z, gwy] at ga; cases ga
  refine ⟨wy, _, s1 _ _ gwy, trivial, fun od => ?_⟩
  obtain ⟨B, hB⟩ : ∃ B, B = upd H wy (.frz od (.dK kvs)) := ⟨_, rfl⟩
  have Bw : B wy = some (.frz od (.dK kvs)) := by rw [hB, upd_same]
  have Bk : ∀ b u, H b = some u → b ≠ wy → B b = some u := fun b u e n => by rw [hB, upd_ne n]; exact e
  have Bn : ∀ b, H b = none → B b = none := fun b e => by rw [hB, upd_ne fun z => by rw [z, gwy] at e; cases e]; exact e
  have sB : Same B (upd H1 wy (.frz od (.dK kvs))) := fun b u e => by
    by_cases c : b = wy
    · rw [c, upd_same]; rw [c, Bw] at e; exact e
    · rw [upd_ne c]; rw [hB, upd_ne c] at e; exact s1 _ _ e
  have toH : ∀ {H' : Hp}, Same B H' → Same H (upd H' wy (.dK kvs)) := fun s b u e => by
    by_cases c : b = wy
    · rw [c, upd_same, ← gwy, ← c]; exact e
    · rw [upd_ne c]; exact s _ _ (Bk _ _ e c)
  have Ba := Bk _ _ ga naw
  have Bwp : ∀ k, k ∈ gw.map (·.1) → ∃ l ps, valV kvs (.inl k) = some (.ref l) ∧ B l = some (.lst (ps.map V.ref)) ∧ Paired (TxR B) ps (wayOf gw k) := fun k m => by
    obtain ⟨l, ps, h1, h2, h3⟩ := gwp k m
    exact ⟨l, ps, h1, Bk _ _ h2 (fun z => by rw [z, gwy] at h2; cases h2), Paired.mapP h3 fun p t (z : H p = _) => Bk _ _ z fun y => by rw [y, gwy] at z; cases z⟩
  have aF := sB _ _ Ba
  have dF : upd H1 wy (.frz od (.dK kvs)) d = some (.dK (hoK [] fun _ => d)) := by rw [upd_ne ndw]; exact d1
  have dB : B d = none := Bn _ hd
  generalize upd H1 wy (.frz od (.dK kvs)) = H2 at sB aF dF ⊢
  walk_at "rx"
  refine x_iK ?_
  walk_at "rx"
  refine ⟨wy, od, rfl, .inl ⟨_, sB _ _ Bw, ?_⟩⟩
  refine y_forK (fun i σ H' => ∃ u2 u3 u4 ks la hf, σ = [some (.ref a), some (.ref d), u2, u3, u4] ∧ Same B H' ∧ HoR B H' d ks la hf (fun p x => p ∈ (gw.map (·.1)).take i ∧ x ∈ Wof gw p) (1000 * i))
    ⟨_, _, _, [], fun _ => d, fun _ => [], rfl, sB, dF, fun k m => (by cases m), fun k m => (by cases m), fun x => ⟨fun z => (by cases z), fun ⟨p, z, _⟩ => by cases z⟩, fun x m => (by cases m), fun x m => (by cases m), List.nodup_nil⟩ (fun i σ H' _ h => by obtain ⟨_, _, _, _, _, _, _, s, _⟩ := h; exact s _ _ Bw) ?_ ?_
  · rintro i kk vv σ H3 hi ⟨u2, u3, u4, ks, la, hf, rfl, s3, R⟩
    have hk : (kvs.map (·.1))[i]? = some kk := by rw [List.getElem?_map, hi]; rfl
    rw [gky, List.getElem?_map] at hk
    obtain ⟨zz, hzz, rfl⟩ := Option.map_eq_some_iff.mp hk
    obtain ⟨n, ts⟩ := zz
    have hn : (gw.map (·.1))[i]? = some n := by rw [List.getElem?_map, hzz]; rfl
    have il : i < 8001 := Nat.lt_of_lt_of_le (List.getElem?_eq_some_iff.mp hzz).1 gok.lg
    have nm := List.mem_of_getElem? hn
    obtain ⟨lw, ws, wv, hlw, hws⟩ := Bwp n nm
    have a3 := s3 _ _ Ba
    walk_at "rx"
    refine y_dgetR (j := .inl n) (.inr ⟨od, s3 _ _ Bw⟩) rfl wv ?_
    walk_at "rx"
    have w3 := s3 _ _ hlw
    have ewl : ws.length = (Wof gw n).length := by rw [Paired.length hws]; unfold Wof; rw [List.length_map]
    have lws : (Wof gw n).length ≤ 1000 := by unfold Wof; rw [List.length_map]; exact gok.ll _ _ (wayOf_in nm)
    refine y_iL (sqL w3) ?_
    refine y_forL (xs := ws.map V.ref) (fun j σ H' => ∃ u3 u4 ks la hf, σ = [some (.ref a), some (.ref d), some (.int n), u3, u4] ∧ Same B H' ∧ HoR B H' d ks la hf (fun p x => (p ∈ (gw.map (·.1)).take i ∧ x ∈ Wof gw p) ∨ (p = n ∧ x ∈ (Wof gw n).take j)) (1000 * i + j))
      ⟨_, _, ks, la, hf, rfl, s3, R.to (fun p x => ⟨.inl, fun z => z.elim id fun z => by have := z.2; rw [List.take_zero] at this; cases this⟩) (Nat.le_refl _)⟩ (fun i σ H' _ h => by obtain ⟨_, _, _, _, _, _, s, _⟩ := h; exact sqL (s _ _ hlw)) ?_ ?_
    · rintro j x σ H4 hj ⟨u3, u4, ks, la, hf, rfl, s4, R4⟩
      rw [List.getElem?_map] at hj
      obtain ⟨wp, hwp, rfl⟩ := Option.map_eq_some_iff.mp hj
      obtain ⟨tt, htt, ewp⟩ := paired_get hws hwp
      have ho : (Wof gw n)[j]? = some tt.2 := by unfold Wof; rw [List.getElem?_map, htt]; rfl
      have jl : j < 1000 := Nat.lt_of_lt_of_le (List.getElem?_eq_some_iff.mp ho).1 lws
      refine y_tup2 (s4 _ _ (show B wp = some (.tup [.str tt.1, .int tt.2]) from ewp)) ?_
      have PEj : ∀ p x, addE (fun p x => (p ∈ (gw.map (·.1)).take i ∧ x ∈ Wof gw p) ∨ (p = n ∧ x ∈ (Wof gw n).take j)) n tt.2 p x ↔ (p ∈ (gw.map (·.1)).take i ∧ x ∈ Wof gw p) ∨ (p = n ∧ x ∈ (Wof gw n).take (j + 1)) := fun p x => by
        unfold addE
        rw [take_snoc ho, List.mem_append, List.mem_singleton]
        refine ⟨fun z => ?_, fun z => ?_⟩
        · rcases z with (z | z) | z
          · exact .inl z
          · exact .inr ⟨z.1, .inl z.2⟩
          · exact .inr ⟨z.1, .inr z.2⟩
        · rcases z with z | ⟨z1, z2 | z2⟩
          · exact .inl (.inl z)
          · exact .inl (.inr ⟨z1, z2⟩)
          · exact .inr ⟨z1, z2⟩
      walk_at "rx"
      refine x_var rfl ?_
      refine ⟨d, rfl, .inl ⟨_, .inl R4.hd⟩, ?_⟩
      walk_at "rx"
      intro e he
      have sE := Same.new (o := .lst []) he
      have R5 := R4.same sE
      have lk5 : (hoK ks la).length ≤ 8001 := by
        unfold hoK
        rw [List.length_map]
        refine Nat.le_trans (nodup_leI (m := gw.map (·.1)) R4.nd fun x m => ?_) (by rw [List.length_map]; exact gok.lg)
        obtain ⟨p, z⟩ := (R4.mx x).mp m
        rcases z with z | z
        · exact (gok.W z.2).1
        · exact (gok.W (List.mem_of_mem_take z.2)).1
      have e5 : upd H4 e (.lst []) e = some (.lst []) := upd_same
      have s5 := s4.trans sE
      generalize upd H4 e (.lst []) = H5 at sE R5 e5 s5 ⊢
      refine ⟨hoK ks la, .inl tt.2, R5.hd, rfl, small9000 (by omega), fun v hv => ?_, fun hv => ?_⟩
      · have mx : tt.2 ∈ ks := Classical.byContradiction fun n => by rw [hoK_no n] at hv; cases hv
        rw [hoK_get mx] at hv
        cases hv
        have hl5 := (R5.hl tt.2 mx).1
        have ln := R5.ln tt.2 mx
        have hz : ((hf tt.2).map V.int).length < sizeLine := by rw [List.length_map, sizeLine_eq]; omega
        refine ⟨.inl ⟨rfl, _, sqL hl5⟩, ?_⟩
        walk_at "rx"
        exact ⟨_, _, ks, la, _, rfl, same_fresh s5 (R5.hl tt.2 mx).2, (R5.old mx).to PEj (by omega)⟩
      · have mx : tt.2 ∉ ks := fun m => by rw [hoK_get m] at hv; cases hv
        have ede : e ≠ d := fun z => by rw [z, R5.hd] at e5; cases e5
        have be := same_none s4 he
        have e6 : upd H5 d (.dK (putK (hoK ks la) (.inl tt.2) (.ref e))) e = some (.lst []) := by rw [upd_ne ede]; exact e5
        have d6 : upd H5 d (.dK (putK (hoK ks la) (.inl tt.2) (.ref e))) d = some (.dK (hoK ks la ++ [(.inl tt.2, .ref e)])) := by rw [upd_same, putK_new _ hv]
        have s6 : Same B (upd H5 d (.dK (putK (hoK ks la) (.inl tt.2) (.ref e)))) := same_fresh s5 dB
        have k6 : ∀ b u, H5 b = some u → b ≠ d → upd H5 d (.dK (putK (hoK ks la) (.inl tt.2) (.ref e))) b = some u := fun b u e n => by rw [upd_ne n]; exact e
        generalize upd H5 d (.dK (putK (hoK ks la) (.inl tt.2) (.ref e))) = H6 at e6 d6 s6 k6 ⊢
        refine ⟨.inl ⟨rfl, _, sqL e6⟩, ?_⟩
        have hz : ([] : List V).length < sizeLine := small9000 (Nat.zero_le _)
        walk_at "rx"
        refine ⟨_, _, _, _, _, rfl, same_fresh s6 be, (R4.new mx he be (H' := upd H6 e (.lst ([] ++ [V.int n]))) ?_ upd_same fun b u eb n => ?_).to PEj (by omega)⟩
        · rw [upd_ne ede.symm]; exact d6
        · have nbe : b ≠ e := fun z => by rw [z, he] at eb; cases eb
          rw [upd_ne nbe]
          exact k6 _ _ (sE _ _ eb) n
    · rintro σ H4 ⟨u3, u4, ks, la, hf, rfl, s4, R4⟩
      refine ⟨_, _, _, ks, la, hf, rfl, s4, R4.to (fun p x => ?_) (by rw [List.length_map, ewl]; omega)⟩
      rw [List.length_map, ewl, List.take_length, take_snoc hn, List.mem_append, List.mem_singleton]
      refine ⟨fun z => ?_, fun z => ?_⟩
      · rcases z with z | z
        · exact ⟨.inl z.1, z.2⟩
        · exact ⟨.inr z.1, z.1 ▸ z.2⟩
      · rcases z with ⟨z1 | z1, z2⟩
        · exact .inl ⟨z1, z2⟩
        · exact .inr ⟨z1, z1 ▸ z2⟩
  · rintro σ H3 ⟨u2, u3, u4, ks, la, hf, rfl, s3, R⟩
    refine ⟨s3 _ _ Bw, ?_⟩
    walk_at "rx"
    have e9 : (gw.map (·.1)).take kvs.length = gw.map (·.1) := by rw [gkl]; exact List.take_of_length_le (by rw [List.length_map]; exact Nat.le_refl _)
    rw [e9] at R
    have k9 : ∀ b u, H3 b = some u → b ≠ wy → upd H3 wy (.dK kvs) b = some u := fun b u e n => by rw [upd_ne n]; exact e
    refine q d ks la hf _ (toH s3) hd ⟨k9 _ _ R.hd ndw, fun k m => ⟨k9 _ _ (R.hl k m).1 fun z => ?_, ?_⟩, R.inj, fun x => (R.mx x).trans (exists_congr fun p => ?_), fun x m p => (R.mh x m p).trans ?_, fun x m => Nat.le_trans (R.ln x m) (by rw [gkl]; have := gok.lg; omega), R.nd⟩
    · have := (R.hl k m).2; rw [z, Bw] at this; cases this
    · have h0 := (R.hl k m).2
      have nw : la k ≠ wy := fun z => by rw [z, Bw] at h0; cases h0
      rw [hB, upd_ne nw] at h0
      exact h0
    · exact ⟨fun z => z.2, fun z => ⟨wayOf_key z, z⟩⟩
    · exact ⟨fun z => z.2, fun z => ⟨wayOf_key z, z⟩⟩
end
/-! ### the nearest one that keeps two -/
section
variable {P : Program} {w : World} {K : PySem.W.Frag} {mg : Str → Option Value} {base : Heap}
/-- a dict of numbers in plain -/
def lkI (l : List (Int × Int)) (k : Int) : Option Int := (l.find? fun z => decide (z.1 = k)).map (·.2)
theorem szK_lk {l : List (Int × Int)} {k : Int} : valV (szK l) (.inl k) = (lkI l k).map V.int := by
  induction l with
  | nil => rfl
  | cons z l ih =>
    show valV ((.inl z.1, V.int z.2) :: szK l) _ = _
    by_cases c : z.1 = k
    · rw [valV_pos (by rw [c])]; simp [lkI, c]
    · rw [valV_neg fun y => c (Sum.inl.inj y), ih]
      simp [lkI, c]
def fput (l : List (Int × Int)) (k v : Int) : List (Int × Int) := if k ∈ l.map (·.1) then l.map fun z => if z.1 = k then (z.1, v) else z else l ++ [(k, v)]
theorem lkI_some {l : List (Int × Int)} {k : Int} : (lkI l k).isSome = true ↔ k ∈ l.map (·.1) := by
  induction l with
  | nil => simp [lkI]
  | cons z l ih =>
    by_cases c : z.1 = k
    · simp [lkI, c]
    · have e : lkI (z :: l) k = lkI l k := by simp [lkI, c]
      rw [e, ih, List.map_cons, List.mem_cons]
      exact ⟨.inr, fun h => h.resolve_left fun y => c y.symm⟩
theorem lkI_mem {l : List (Int × Int)} {k v : Int} (nd : (l.map (·.1)).Nodup) (m : (k, v) ∈ l) : lkI l k = some v := by
  have h := szK_get nd m
  rw [szK_lk] at h
  cases e : lkI l k with
  | none => rw [e] at h; cases h
  | some x => rw [e] at h; cases h; rfl
theorem lkI_in {l : List (Int × Int)} {k v : Int} (h : lkI l k = some v) : (k, v) ∈ l := by
  unfold lkI at h
  obtain ⟨z, hz, e⟩ := Option.map_eq_some_iff.mp h
  have h1 := List.find?_some hz
  rw [decide_eq_true_eq] at h1
  have := List.mem_of_find?_eq_some hz
  rw [← h1, ← e]
  exact this
theorem lk_map {l : List (Int × Int)} {k v x : Int} : lkI (l.map fun z => if z.1 = k then (z.1, v) else z) x = if x = k then (lkI l k).map (fun _ => v) else lkI l x := by
  induction l with
  | nil => simp [lkI]
  | cons z l ih =>
    by_cases c : z.1 = k <;> by_cases c2 : x = k
    · subst c2; simp [lkI, c]
    · have h1 : ¬ z.1 = x := fun y => c2 (by rw [← y, c])
      have h2 : ¬ k = x := fun y => c2 y.symm
      rw [List.map_cons, if_pos c, if_neg c2]
      rw [if_neg c2] at ih
      have e1 : lkI ((z.1, v) :: l.map fun z => if z.1 = k then (z.1, v) else z) x = lkI (l.map fun z => if z.1 = k then (z.1, v) else z) x := by simp [lkI, h1]
      rw [e1, ih]
      simp [lkI, h1]
    · subst c2
      rw [List.map_cons, if_neg c, if_pos rfl]
      rw [if_pos rfl] at ih
      have e1 : lkI (z :: l.map fun z => if z.1 = x then (z.1, v) else z) x = lkI (l.map fun z => if z.1 = x then (z.1, v) else z) x := by simp [lkI, c]
      rw [e1, ih]
      simp [lkI, c]
    · rw [List.map_cons, if_neg c, if_neg c2]
      rw [if_neg c2] at ih
      by_cases c3 : z.1 = x
      · simp [lkI, c3]
      · have e1 : lkI (z :: l.map fun z => if z.1 = k then (z.1, v) else z) x = lkI (l.map fun z => if z.1 = k then (z.1, v) else z) x := by simp [lkI, c3]
        rw [e1, ih]
        simp [lkI, c3]
theorem lk_put {l : List (Int × Int)} {k v : Int} : lkI (fput l k v) = upF (lkI l) k v := by
  funext x
  unfold fput upF
  split
  · rename_i m
    rw [lk_map]
    split
    · obtain ⟨y, e⟩ := Option.isSome_iff_exists.mp (lkI_some.mpr m)
      rw [e]; rfl
    · rfl
  · rename_i m
    have hn : lkI l k = none := by
      cases e : lkI l k with
      | none => rfl
      | some y => exact absurd (lkI_some.mp (by rw [e]; rfl)) m
    unfold lkI at hn ⊢
    rw [List.find?_append]
    by_cases c : x = k
    · subst c
      rw [if_pos rfl]
      rw [Option.map_eq_none_iff.mp hn]
      simp
    · rw [if_neg c]
      have : ¬ k = x := fun y => c y.symm
      simp [this]
theorem szK_put {l : List (Int × Int)} {k v : Int} : putK (szK l) (.inl k) (.int v) = szK (fput l k v) := by
  unfold fput
  split
  · rename_i m
    obtain ⟨y, e⟩ := Option.isSome_iff_exists.mp (lkI_some.mpr m)
    rw [putK_old (x := .int y) (by rw [szK_lk, e]; rfl)]
    unfold szK
    rw [List.map_map, List.map_map]
    refine List.map_congr_left fun z _ => ?_
    show (if (Sum.inl z.1 : Key) = Sum.inl k then ((Sum.inl z.1 : Key), V.int v) else (Sum.inl z.1, V.int z.2)) = ((Sum.inl (if z.1 = k then (z.1, v) else z).1 : Key), V.int (if z.1 = k then (z.1, v) else z).2)
    by_cases c : z.1 = k
    · rw [if_pos (by rw [c]), if_pos c]
    · rw [if_neg (fun y => c (Sum.inl.inj y)), if_neg c]
  · rename_i m
    rw [putK_new _ (szK_none m)]
    unfold szK
    rw [List.map_append]; rfl
theorem fput_keys {l : List (Int × Int)} {k v : Int} : (fput l k v).map (·.1) = if k ∈ l.map (·.1) then l.map (·.1) else l.map (·.1) ++ [k] := by
  unfold fput
  split
  · rw [List.map_map]
    refine List.map_congr_left fun z _ => ?_
    show (if z.1 = k then (z.1, v) else z).1 = z.1
    split <;> rfl
  · rw [List.map_append]; rfl
abbrev spNearest (K : PySem.W.Frag) : Sp := Sp4 fun x y z u H Q => ∃ (fm rd : Addr) (fv rv : List (Int × Int)) (E : Int → Int → Prop) (S : Int → Prop) (rk : Int → Nat) (a b : Int), x = .ref fm ∧ y = .ref rd ∧ z = .int a ∧ u = .int b ∧ H fm = some (.dK (szK fv)) ∧ H rd = some (.dK (szK rv)) ∧
  DG E S rk ∧ FOk S rk (lkI fv) ∧ (∀ x, S x → lkI rv x = some (rk x : Int)) ∧ (lkI fv a).isSome = true ∧ (lkI fv b).isSome = true ∧ ∀ r, Nca (lkI fv) r a b → Q (.int r) H
theorem cal_nearest (T : Tx w K mg base) : Cal P w K mg base 1 "nearest" (spNearest K) [] := by
  obtain ⟨fd, F⟩ := T.fn_nearest
  refine cal_of F T.g_nearest sc_nearest (F.bindsN fun _ _ _ _ _ _ us hl => match us, hl with | [_, _, _, _], _ => rfl) (fun vs H Q E h => h.len) (fun cdv A outer s H vs Q E hr h => ?_)
  obtain ⟨x, y, z, u, rfl, fm, rd, fv, rv, E, S, rk, a, b, rfl, rfl, rfl, rfl, hf, hrd, D, FO, hrk, sa, sb, q⟩ := h
  have hu := hu_of hr
  have nd := sc_nearest.nd
  refine ⟨_, (pss_cons (ps_while PassesOwn.never (pt_cmpR op_ne (pv 2) (pv 3) (nomark _)) (pss_one (ps_if (pt_cmpR op_gt (pe_dget hu (pv 1) (pv 2) (fun _ _ => rfl)) (pe_dget hu (pv 1) (pv 3) (fun _ _ => rfl)) (nomark _)) (pss_one (ps_set (i := 2) nd rfl (Or.inl rfl) (pe_dget hu (pv 0) (pv 2) (fun _ _ => rfl)))) (pss_one (ps_set (i := 3) nd rfl (Or.inl rfl) (pe_dget hu (pv 0) (pv 3) (fun _ _ => rfl))))))) (pss_one (ps_ret (pv 2)))), ?_⟩
  walk_at "rx"
  refine x_while (fun m σ H' => ∃ c d : Int, σ = [some (.ref fm), some (.ref rd), some (.int c), some (.int d)] ∧ H' = H ∧ (lkI fv c).isSome = true ∧ (lkI fv d).isSome = true ∧ An (lkI fv) c a ∧ An (lkI fv) d b ∧ (∀ z, An (lkI fv) z a → An (lkI fv) z b → An (lkI fv) z c ∧ An (lkI fv) z d) ∧ m = rk c + rk d) _
    ⟨a, b, rfl, rfl, sa, sb, .refl, .refl, fun z h1 h2 => ⟨h1, h2⟩, rfl⟩ ?_
  rintro m σ H' ⟨c, d, rfl, rfl, sc, sd, ac, ad, all, rfl⟩
  obtain ⟨fc, efc⟩ := Option.isSome_iff_exists.mp sc
  obtain ⟨fd', efd⟩ := Option.isSome_iff_exists.mp sd
  have Sc := FO.fS _ _ efc
  have Sd := FO.fS _ _ efd
  walk_at "rx"
  refine y_w (fun c1 => ?_) (fun c1 => ?_)
  · have ne : c ≠ d := fun z => by rw [z] at c1; simp at c1
    walk_at "rx"
    refine y_dgetI hrd (v := .int (rk c : Int)) (by rw [szK_lk, hrk c Sc]; rfl) ?_
    walk_at "rx"
    refine y_dgetI hrd (v := .int (rk d : Int)) (by rw [szK_lk, hrk d Sd]; rfl) ?_
    walk_at "rx"
    refine y_dec (fun c2 => ?_) (fun c2 => ?_)
    · obtain ⟨c', e1, n1, l1, s1, a1, st⟩ := nca_stepA (a := c) (b := d) D FO (by omega) sc
      walk_at "rx"
      refine y_dgetI hf (v := .int c') (by rw [szK_lk, e1]; rfl) ?_
      walk_at "rx"
      exact ⟨_, (by omega : rk c' + rk d < rk c + rk d), c', d, rfl, rfl, s1, sd, ac.trans a1, ad, fun z h1 h2 => ⟨st z (all z h1 h2).1 (all z h1 h2).2, (all z h1 h2).2⟩, rfl⟩
    · have lt : rk c < rk d := by
        have : rk c ≠ rk d := fun z => ne (D.inj _ _ Sc Sd z)
        omega
      obtain ⟨c', e1, n1, l1, s1, a1, st⟩ := nca_stepA (a := d) (b := c) D FO lt sd
      walk_at "rx"
      refine y_dgetI hf (v := .int c') (by rw [szK_lk, e1]; rfl) ?_
      walk_at "rx"
      exact ⟨_, (by omega : rk c + rk c' < rk c + rk d), c, c', rfl, rfl, sc, s1, ac, ad.trans a1, fun z h1 h2 => ⟨(all z h1 h2).1, st z (all z h1 h2).2 (all z h1 h2).1⟩, rfl⟩
  · have e : c = d := by
      refine Classical.byContradiction fun z => ?_
      simp [z] at c1
    subst e
    walk_at "rx"
    exact q c ⟨ac, ad, fun z h1 h2 => (all z h1 h2).1⟩
end

/-! ### the masters of a graph -/
section
variable {E : Int → Int → Prop} {S : Int → Prop} {rk : Int → Nat}
/-- one that keeps another is met ahead of it -/
theorem dom_rk (D : DG E S rk) {d : Int} : ∀ (k : Nat) (n : Int), rk n ≤ k → S n → DomG E d n → d ≠ n → rk d < rk n
  | k, n, l, s, g, ne => by
    by_cases c : n = -1
    · subst c
      exact absurd (.top ne) g
    · obtain ⟨p, sp, e, lp⟩ := D.tree n s c
      have gp := g.hold e fun z => ne z.symm
      by_cases c2 : d = p
      · exact c2 ▸ lp
      · cases k with
        | zero => omega
        | succ k => have := dom_rk D k p (by omega) sp gp c2; omega
structure MaOk (gw : List (Int × List (Str × Int))) (fv : List (Int × Int)) : Prop where
  nd : (fv.map (·.1)).Nodup
  mem : ∀ x, x ∈ fv.map (·.1) ↔ x ∈ gw.map (·.1)
  dom : ∀ d n, n ∈ gw.map (·.1) → (An (lkI fv) d n ↔ DomG (EW (Wof gw)) d n)
  fok : ∃ (S : Int → Prop) (rk : Int → Nat), (∀ x, S x ↔ x ∈ gw.map (·.1)) ∧ DG (EW (Wof gw)) S rk ∧ FOk S rk (lkI fv)
end
section
variable {P : Program} {w : World} {K : PySem.W.Frag} {mg : Str → Option Value} {base : Heap}
def rkL (o : List Int) : List (Int × Int) := o.mapIdx fun i x => (x, (i : Int))
theorem rkL_len {o : List Int} : (rkL o).length = o.length := by unfold rkL; simp
theorem rkL_keys {o : List Int} : (rkL o).map (·.1) = o := by
  unfold rkL
  refine List.ext_getElem? fun i => ?_
  rw [List.getElem?_map, List.getElem?_mapIdx]
  cases o[i]? <;> rfl
theorem rkL_lk {o : List Int} {x : Int} (nd : o.Nodup) (m : x ∈ o) : lkI (rkL o) x = some ((o.idxOf x : Nat) : Int) := by
  refine lkI_mem (by rw [rkL_keys]; exact nd) ?_
  have hl := List.idxOf_lt_length_of_mem m
  refine List.mem_iff_getElem?.mpr ⟨o.idxOf x, ?_⟩
  unfold rkL
  rw [List.getElem?_mapIdx, List.getElem?_eq_getElem hl, List.getElem_idxOf hl]
  rfl
theorem one_start {n x : Int} (h : lkI [(-1, -1)] n = some x) : n = -1 := by
  have := lkI_in h
  simp at this
  exact this.1
theorem cut_tlI {a : Int} {l : List Int} : cutV ((a :: l).map V.int) (some 1) none = l.map V.int := by
  unfold cutV
  rw [show (some 1 : Option Int) = some ((1 : Nat) : Int) from rfl, HT.sIx_nat, HT.sIx_none, List.length_map, List.length_cons, Nat.min_eq_left (by omega)]
  show (l.map V.int).take (l.length + 1 - 1) = _
  exact List.take_of_length_le (by rw [List.length_map]; omega)
theorem y_putB {P : Addr → Nat → List V → Hp → Prop} {H : Hp} {D : Addr} {i : Nat} {acc : List V} {y : V} (hD : H D = some (.lst acc)) (hl : acc.length ≤ i) (hi : i < 9000000) (hp : P D (i + 1) (acc ++ [y]) (upd H D (.lst (acc ++ [y])))) : rAdd D (LcP P D (i + 1)) y H :=
  ⟨acc, hD, by rw [sizeLine_eq]; omega, acc ++ [y], upd_same, by rw [List.length_append, List.length_singleton]; omega, hp⟩
abbrev spMasters (K : PySem.W.Frag) : Sp := Sp1 fun x H Q => ∃ (a : Addr) (gs : List (Int × Int)) (gw : List (Int × List (Str × Int))), x = .ref a ∧ GrR K H a gs gw ∧ GwOk gw ∧ (∀ n ∈ gw.map (·.1), RchG (EW (Wof gw)) n) ∧
  ∀ (d : Addr) (fv : List (Int × Int)) (H' : Hp), Same H H' → H d = none → H' d = some (.dK (szK fv)) → MaOk gw fv → Q (.ref d) H'
theorem met_Graph_masters (T : Tx w K mg base) : Met P w K mg base 2 (He.ga K "Graph") "masters" (spMasters K) [] := by
  obtain ⟨fd, F⟩ := T.fn_Graph_masters
  refine met_of T.cl_Graph T.me_Graph_masters F sc_Graph_masters (F.bindsN fun _ _ _ _ _ _ us hl => match us, hl with | [_], _ => rfl) (fun vs H Q E h => h.len) (fun cdv A outer s H vs Q E hr h => ?_)
  obtain ⟨x, rfl, a, gs, gw, rfl, G, gok, rch, q⟩ := h
  have hu := hu_of hr
  have nd := sc_Graph_masters.nd
  refine ⟨_, (pss_cons (ps_set (i := 1) nd rfl (Or.inr rfl) (pe_mt0 (met_Graph_order T) hr (by decide) (pv 0))) (pss_cons (ps_set (i := 2) nd rfl (Or.inl rfl) (pe_callTy (call_dictP rfl) (by rfl) T.n_dict (by decide +kernel) (pa_cons (pe_lc (own := [("k", 10)]) (by rfl) nd (pi_range1 (by rfl) T.n_range (pa_cons (pe_callB call_len_seq (by rfl) T.n_len PySem.boot_len (pa_cons (pv 1) pa_nil)) pa_nil)) (blkOk_by (own := [("k", 10)]) (N := N_Graph_masters) (sc := (C8.fnScope s_Graph_masters)) (by decide +kernel)) (fun _ _ _ _ _ => (pg_name (i := 10) nd rfl (Or.inl rfl))) (fun _ _ _ _ _ => pts_nil) (fun _ _ _ _ _ => (pe_tup (pa_cons (pe_ix (ix_listK (K := K) rfl) (pv 1) (pv 10) (fun _ _ => rfl)) (pa_cons (pv 10) pa_nil))))) pa_nil))) (pss_cons (ps_set (i := 3) nd rfl (Or.inl rfl) (pe_mt0 (met_Graph_from_where T) hr (by decide) (pv 0))) (pss_cons (ps_set (i := 4) nd rfl (Or.inr rfl) (pe_disp (pps_cons (pe_gc rfl T.k_TOP) (pe_gc rfl T.k_TOP) pps_nil) (by rfl) (by rfl) (fun z => by cases z) (by decide))) (pss_cons (ps_set (i := 5) nd rfl (Or.inl rfl) pe_bl) (pss_cons (ps_while PassesOwn.never (pt_val (pv 5)) (pss_cons (ps_set (i := 5) nd rfl (Or.inl rfl) pe_bl) (pss_one (ps_for PassesOwn.never rfl (pi_list (pe_slice sl_list (pv 1) (po_some pe_int) po_none)) (pg_name (i := 6) nd rfl (Or.inl rfl)) (pss_cons (ps_setLc (i := 7) (own := [("one", 9)]) (by rfl) nd rfl rfl (sw_true rfl rfl rfl (by decide +kernel)) (pi_list (pe_dget hu (pv 3) (pv 6) (fun _ _ => rfl))) (blkOk_by (own := [("one", 9)]) (N := N_Graph_masters) (sc := (C8.fnScope s_Graph_masters)) (by decide +kernel)) (fun _ _ _ _ _ => (pg_name (i := 9) nd rfl (Or.inl rfl))) (fun _ _ _ _ _ => (pts_one (pt_cmp (pc_din hu (pv 9) (pv 4))))) (fun _ _ _ _ _ => (pv 9))) (pss_cons (ps_set (i := 8) nd rfl (Or.inl rfl) (pe_ix ix_list (pv 7) pe_int (fun _ _ => rfl))) (pss_cons (ps_for PassesOwn.never rfl (pi_list (pe_slice sl_list (pv 7) (po_some pe_int) po_none)) (pg_name (i := 9) nd rfl (Or.inl rfl)) (pss_one (ps_set (i := 8) nd rfl (Or.inl rfl) (pe_c (cal_nearest T) hr (by decide) (by rfl) (pa_cons (pv 4) (pa_cons (pv 2) (pa_cons (pv 8) (pa_cons (pv 9) pa_nil)))))))) (pss_one (ps_if (pt_cmpR op_ne (pe_dget2 hu (pv 4) (pv 6) pe_non ⟨rfl, rfl, rfl, rfl⟩) (pv 8) (nomark _)) (pss_cons (ps_dput hu (pv 4) (pv 6) (pv 8) rfl) (pss_one (ps_set (i := 5) nd rfl (Or.inl rfl) pe_bl))) pss_nil))))))))) (pss_one (ps_ret (pv 4))))))))), ?_⟩
  obtain ⟨dx, sz, wy, kvs, ga, _⟩ := G.way gok
  walk_at "sx"
  refine ⟨a, gs, gw, rfl, G, gok, fun lo o H1 s1 lo0 hlo od ll => ?_⟩
  have G1 := G.same s1
  walk_at "rx"
  refine ⟨lo, _, rfl, .inl (sqL hlo), ?_⟩
  rw [List.length_map]
  walk_at "rx"
  refine y_iR (by omega) (by omega) ?_
  refine y_lcR (fun D i acc H' => Same H1 H' ∧ ∃ ps : List Addr, acc = ps.map V.ref ∧ Paired (fun p (kv : Key × V) => H' p = some (.tup [kV kv.1, kv.2])) ps ((szK (rkL o)).take i)) (fun D hD => ⟨Same.new hD, [], rfl, .nil⟩) ?_ ?_
  · rintro D i acc H2 hD hi hDl hle ⟨s2, ps, rfl, pr⟩
    have hi : i < o.length := by omega
    obtain ⟨n, hn⟩ : ∃ n, o[i]? = some n := ⟨_, List.getElem?_eq_getElem hi⟩
    have hsz : (szK (rkL o))[i]? = some (.inl n, .int (i : Int)) := by
      unfold szK rkL
      rw [List.getElem?_map, List.getElem?_mapIdx, hn]; rfl
    have hlo2 := s2 _ _ hlo
    refine y_turn ?_
    walk_at "rx"
    refine ⟨rfl, y_yes (y_tt ?_)⟩
    walk_at "rx"
    refine y_ixL hlo2 (v := .int n) (atI_nat (by rw [List.getElem?_map, hn]; rfl)) ?_
    walk_at "rx"
    intro tp htp
    have s3 := Same.new (o := .tup [.int n, .int (i : Int)]) htp
    have hD3 := s3 _ _ hDl
    have t3 : upd H2 tp (.tup [.int n, .int (i : Int)]) tp = some (.tup [.int n, .int (i : Int)]) := upd_same
    have p3 : Paired (fun p (kv : Key × V) => upd H2 tp (.tup [.int n, .int (i : Int)]) p = some (.tup [kV kv.1, kv.2])) ps ((szK (rkL o)).take i) := Paired.mapP pr fun _ _ z => s3 _ _ z
    generalize upd H2 tp (.tup [.int n, .int (i : Int)]) = H3 at s3 hD3 t3 p3 ⊢
    refine y_put hD3 hle (by omega) ⟨same_fresh (s2.trans s3) hD, ps ++ [tp], by rw [List.map_append]; rfl, ?_⟩
    have tp4 : Tups H3 (upd H3 D (.lst (ps.map V.ref ++ [V.ref tp]))) := fun p xs e => by rw [upd_ne fun z => by rw [z, hD3] at e; cases e]; exact e
    rw [take_snoc hsz]
    exact Paired.app (Paired.mapP p3 fun _ _ z => tp4 _ _ z) (tp4 _ _ t3)
  · rintro D acc H2 hD hDl ⟨s2, ps, rfl, pr⟩
    rw [List.take_of_length_le (by unfold szK; rw [List.length_map, rkL_len]; omega)] at pr
    have hlo2 := s2 _ _ hlo
    have G2 := G1.same s2
    walk_at "rx"
    refine ⟨D, ps, _, rfl, sqL hDl, Paired.mapP pr fun _ _ z => sqT z, fun rd hrd => ?_⟩
    have emg : mergeK [] (szK (rkL o)) = szK (rkL o) := mergeK_nd (by
      have e : (szK (rkL o)).map (·.1) = ((rkL o).map (·.1)).map fun k => (Sum.inl k : Key) := by unfold szK; rw [List.map_map, List.map_map]; rfl
      rw [e, rkL_keys, List.nodup_iff_pairwise_ne, List.pairwise_map]
      exact od.nd.imp fun h z => h (Sum.inl.inj z))
    rw [emg]
    have s3 := s1.trans (s2.trans (Same.new (o := .dK (szK (rkL o))) hrd))
    have r3 : upd H2 rd (.dK (szK (rkL o))) rd = some (.dK (szK (rkL o))) := upd_same
    have lo3 := Same.new (o := .dK (szK (rkL o))) hrd _ _ hlo2
    have G3 := G2.same (Same.new (o := .dK (szK (rkL o))) hrd)
    generalize upd H2 rd (.dK (szK (rkL o))) = H3 at s3 r3 lo3 G3 ⊢
    have ga3 := s3 _ _ ga
    walk_at "rx"
    refine ⟨a, gs, gw, rfl, G3, gok, fun hd ks la hf H4 s4 hd0 HF => ?_⟩
    have s04 := s3.trans s4
    have r4 := s4 _ _ r3
    have lo4 := s4 _ _ lo3
    walk_at "rx"
    intro fm hfm
    walk_at "rx"
    refine ⟨by rw [upd_same], [(.inl (-1), .int (-1))], rfl, (by show 1 ≤ 15; decide), ?_⟩
    walk_at "rx"
    have s5 : Same H4 (upd (upd H4 fm (.dK [])) fm (.dK (mergeK [] [(.inl (-1), .int (-1))]))) := same_fresh (Same.new hfm) hfm
    have f5 : upd (upd H4 fm (.dK [])) fm (.dK (mergeK [] [(.inl (-1), .int (-1))])) fm = some (.dK (szK [(-1, -1)])) := by rw [upd_same]; rfl
    generalize upd (upd H4 fm (.dK [])) fm (.dK (mergeK [] [(.inl (-1), .int (-1))])) = H5 at s5 f5 ⊢
    have D := od.dg
    have okey : ∀ x, x ∈ o ↔ x ∈ gw.map (·.1) := fun x => (od.mem x).trans ⟨fun h => by
      cases h with
      | top => exact gok.top
      | step _ e => exact (gok.W e).1, rch x⟩
    obtain ⟨B, hB⟩ := av_bound (EW (Wof gw)) (fun x => o.idxOf x) (o.flatMap fun d => o.map fun n => (d, n))
    have hB : ∀ d ∈ o, ∀ n ∈ o, ∀ k, Av (EW (Wof gw)) (fun x => o.idxOf x) d k n → Av (EW (Wof gw)) (fun x => o.idxOf x) d B n := fun d md n mn k => hB (d, n) (List.mem_flatMap.mpr ⟨d, md, List.mem_map.mpr ⟨n, mn, rfl⟩⟩) k
    obtain ⟨tl, htl⟩ := od.hd
    refine x_while (fun m σ H' => ∃ (fv : List (Int × Int)) (k : Nat) (tv : Bool) (u6 u7 u8 u9 u10 : Option V), σ = [some (.ref a), some (.ref lo), some (.ref rd), some (.ref hd), some (.ref fm), some (.bl tv), u6, u7, u8, u9, u10] ∧ Same H4 H' ∧ H' fm = some (.dK (szK fv)) ∧ (fv.map (·.1)).Nodup ∧ FOk (· ∈ o) (fun x => o.idxOf x) (lkI fv) ∧ InvA (EW (Wof gw)) (lkI fv) ∧
      InvQ (EW (Wof gw)) (· ∈ o) (fun x => o.idxOf x) (lkI fv) k 1 ∧ (tv = true → k ≤ B + 1) ∧ (tv = false → 0 < k ∧ ∀ n ∈ tl, ∀ p x, n ∈ Wof gw p → p ∈ o → lkI fv n = some x → An (lkI fv) x p) ∧ (k = 0 → ∀ n x, lkI fv n = some x → n = -1) ∧ m = B + 2 - k) _
      ⟨[(-1, -1)], 0, true, _, _, _, _, _, rfl, s5, f5, by simp, ?_, ?_, ?_, fun _ => Nat.zero_le _, fun h => (by cases h), fun _ n x e => one_start e, rfl⟩ ?_
    · refine ⟨?_, fun n x e => ?_, fun n x nn e => ?_⟩
      · rfl
      · rw [one_start e, htl]; exact List.mem_cons_self ..
      · exact absurd (one_start e) nn
    · exact fun n x nn e => absurd (one_start e) nn
    · exact InvQ.start D ⟨rfl, fun n x e => by rw [one_start e, htl]; exact List.mem_cons_self .., fun n x nn e => absurd (one_start e) nn⟩ fun n x e => one_start e
    rintro m σ H6 ⟨fv, k, tv, u6, u7, u8, u9, u10, rfl, s6, f6, ndf, FO, IA, IQ, ht, hf9, hk0, rfl⟩
    walk_at "rx"
    refine y_w (fun c => ?_) (fun c => ?_)
    · have kB := ht c
      walk_at "rx"
      refine x_sl ?_
      walk_at "rx"
      refine x_pt ?_
      walk_at "rx"
      refine x_np ?_
      have lo6 := s6 _ _ lo4
      refine ⟨lo, _, rfl, sqL lo6, fun c9 hc9 => ?_⟩
      have ecut : cutV (o.map V.int) (some 1) none = tl.map V.int := by rw [htl, cut_tlI]
      rw [ecut]
      have s7 := s6.trans (Same.new (o := .lst (tl.map V.int)) hc9)
      have nfc : fm ≠ c9 := fun z => by rw [z, hc9] at f6; cases f6
      have f7 : upd H6 c9 (.lst (tl.map V.int)) fm = some (.dK (szK fv)) := by rw [upd_ne nfc]; exact f6
      have c7 : upd H6 c9 (.lst (tl.map V.int)) c9 = some (.lst (tl.map V.int)) := upd_same
      generalize upd H6 c9 (.lst (tl.map V.int)) = H7 at s7 f7 c7 ⊢
      refine y_iL (sqL c7) ?_
      refine y_forL (xs := tl.map V.int) (fun i σ H' => ∃ (fv' : List (Int × Int)) (tv' : Bool) (u6 u7 u8 u9 u10 : Option V), σ = [some (.ref a), some (.ref lo), some (.ref rd), some (.ref hd), some (.ref fm), some (.bl tv'), u6, u7, u8, u9, u10] ∧ Same H4 H' ∧ H' c9 = some (.lst (tl.map V.int)) ∧ H' fm = some (.dK (szK fv')) ∧ (fv'.map (·.1)).Nodup ∧ FOk (· ∈ o) (fun x => o.idxOf x) (lkI fv') ∧ InvA (EW (Wof gw)) (lkI fv') ∧
        InvQ (EW (Wof gw)) (· ∈ o) (fun x => o.idxOf x) (lkI fv') k (i + 1) ∧ (tv' = true → k ≤ B) ∧ (tv' = false → fv' = fv ∧ (0 < k ∨ i = 0) ∧ ∀ n ∈ tl.take i, ∀ p x, n ∈ Wof gw p → p ∈ o → lkI fv' n = some x → An (lkI fv') x p))
        ⟨fv, false, _, _, _, _, _, rfl, s7, c7, f7, ndf, FO, IA, IQ, fun h => (by cases h), fun _ => ⟨rfl, .inr rfl, fun n h => by rw [List.take_zero] at h; cases h⟩⟩ (fun i σ H' _ h => by obtain ⟨_, _, _, _, _, _, _, _, _, h, _⟩ := h; exact sqL h) ?_ ?_
      · clear u6 u7 u8 u9 u10
        rintro i x σ H8 hi ⟨fv', tv', u6, u7, u8, u9, u10, rfl, s8, c8, f8, nd8, FO8, IA8, IQ8, ht8, hf8⟩
        rw [List.getElem?_map] at hi
        obtain ⟨n, hn, rfl⟩ := Option.map_eq_some_iff.mp hi
        have hn1 : o[i + 1]? = some n := by rw [htl, List.getElem?_cons_succ]; exact hn
        have no : n ∈ o := List.mem_of_getElem? hn1
        have nt : n ≠ -1 := fun z => by
          have h := od.nd
          rw [htl, List.nodup_cons] at h
          exact h.1 (z ▸ List.mem_of_getElem? hn)
        have rkn : o.idxOf n = i + 1 := by
          obtain ⟨hl, he⟩ := List.getElem?_eq_some_iff.mp hn1
          rw [← he]
          exact od.nd.idxOf_getElem _ hl
        have hd8 := s8 _ _ HF.hd
        have nks : n ∈ ks := (HF.mx n).mpr ⟨_, (D.tree n no nt).choose_spec.2.1⟩
        have hl8 := s8 _ _ (HF.hl n nks).1
        walk_at "rx"
        refine y_dgetI hd8 (v := .ref (la n)) (hoK_get nks) ?_
        refine y_iL (sqL hl8) ?_
        refine y_lcL (xs := (hf n).map V.int) (fun E j acc H' => Same H8 H' ∧ acc = (((hf n).take j).filter fun x => (lkI fv' x).isSome).map V.int) (fun E hE => ⟨Same.new hE, rfl⟩) (fun E j acc H' hE _ p => sqL (p.1 _ _ hl8)) ?_ ?_
        · rintro E j x acc H9 hE hj hEl hle ⟨s9, rfl⟩
          rw [List.getElem?_map] at hj
          obtain ⟨p, hp, rfl⟩ := Option.map_eq_some_iff.mp hj
          have jl : j < 9000000 := Nat.lt_of_lt_of_le (List.getElem?_eq_some_iff.mp hp).1 (HF.ln n nks)
          have f9 := s9 _ _ f8
          refine y_turn ?_
          walk_at "rx"
          refine ⟨rfl, ?_⟩
          walk_at "rx"
          refine y_din (j := .inl p) (.inl f9) rfl ?_
          rw [szK_lk, Option.isSome_map]
          have e1 : ((hf n).take (j + 1)).filter (fun x => (lkI fv' x).isSome) = ((hf n).take j).filter (fun x => (lkI fv' x).isSome) ++ (if (lkI fv' p).isSome = true then [p] else []) := by
            rw [take_snoc hp, List.filter_append]
            congr 1
            rw [List.filter_cons, List.filter_nil]
          refine ⟨_, rfl, ?_⟩
          cases c1 : (lkI fv' p).isSome with
          | true =>
            rw [if_pos rfl]
            walk_at "rx"
            refine y_putB hEl hle jl ⟨same_fresh s9 hE, ?_⟩
            rw [e1, c1, if_pos rfl, List.map_append]; rfl
          | false =>
            rw [if_neg Bool.false_ne_true]
            refine y_skip hEl hle ⟨s9, ?_⟩
            rw [e1, c1, if_neg Bool.false_ne_true, List.append_nil]
        · rintro E acc H9 hE hEl ⟨s9, rfl⟩
          rw [List.length_map, List.take_length] at hEl
          obtain ⟨p0, hp0o, hp0e, hp0l⟩ := D.tree n no nt
          obtain ⟨ps, eps⟩ : ∃ ps, ps = (hf n).filter fun x => (lkI fv' x).isSome := ⟨_, rfl⟩
          rw [← eps] at hEl
          have HL : HoL (EW (Wof gw)) (· ∈ o) (lkI fv') n ps := by
            refine ⟨fun p hp => ?_, fun p sp e sm => ?_⟩
            · rw [eps] at hp
              obtain ⟨h1, h2⟩ := List.mem_filter.mp hp
              obtain ⟨z, ez⟩ := Option.isSome_iff_exists.mp h2
              exact ⟨FO8.fS _ _ ez, (HF.mh n nks p).mp h1, h2⟩
            · rw [eps]
              exact List.mem_filter.mpr ⟨(HF.mh n nks p).mpr e, sm⟩
          have m0 : p0 ∈ ps := HL.all p0 hp0o hp0e (IQ8.dq p0 hp0o (by have h : o.idxOf p0 < o.idxOf n := hp0l; show o.idxOf p0 < i + 1; omega))
          clear eps
          obtain ⟨q0, qs, rfl⟩ : ∃ q0 qs, ps = q0 :: qs := by
            cases ps with
            | nil => cases m0
            | cons x l => exact ⟨x, l, rfl⟩
          have f9 := s9 _ _ f8
          have rd9 := (s8.trans s9) _ _ r4
          have c99 := s9 _ _ c8
          have s49 := s8.trans s9
          clear s9
          walk_at "rx"
          refine y_ixL hEl (v := .int q0) (atI_nat (j := 0) rfl) ?_
          walk_at "rx"
          refine x_sl ?_
          walk_at "rx"
          refine x_pt ?_
          walk_at "rx"
          refine x_np ?_
          refine ⟨E, _, rfl, sqL hEl, fun c10 hc10 => ?_⟩
          rw [cut_tlI]
          have s10 := Same.new (o := .lst (qs.map V.int)) hc10
          have q10 : upd H9 c10 (.lst (qs.map V.int)) c10 = some (.lst (qs.map V.int)) := upd_same
          have f10 := s10 _ _ f9
          have rd10 := s10 _ _ rd9
          have c910 := s10 _ _ c99
          have s410 := s49.trans s10
          clear s10
          generalize upd H9 c10 (.lst (qs.map V.int)) = H10 at q10 f10 rd10 c910 s410 ⊢
          refine y_iL (sqL q10) ?_
          refine y_forL (xs := qs.map V.int) (fun j σ H' => ∃ (r : Int) (u9 : Option V), σ = [some (.ref a), some (.ref lo), some (.ref rd), some (.ref hd), some (.ref fm), some (.bl tv'), some (.int n), some (.ref E), some (.int r), u9, u10] ∧ H' = H10 ∧ NcaL (lkI fv') r (q0 :: qs.take j))
            ⟨q0, _, rfl, rfl, by rw [List.take_zero]; exact NcaL.one⟩ (fun j σ H' _ h => by obtain ⟨_, _, _, rfl, _⟩ := h; exact sqL q10) ?_ ?_
          · rintro j x σ H' hj ⟨r, u9, rfl, rfl, N⟩
            rw [List.getElem?_map] at hj
            obtain ⟨q, hq, rfl⟩ := Option.map_eq_some_iff.mp hj
            walk_at "rx"
            refine ⟨fm, rd, fv', rkL o, EW (Wof gw), (· ∈ o), (fun x => o.idxOf x), r, q, rfl, rfl, rfl, rfl, f10, rd10, D, FO8, fun x m => rkL_lk od.nd m, (N.1 q0 (List.mem_cons_self ..)).dfd FO8 (HL.ok q0 (List.mem_cons_self ..)).2.2, (HL.ok q (List.mem_cons_of_mem _ (List.mem_of_getElem? hq))).2.2, fun r' nca => ?_⟩
            walk_at "rx"
            refine ⟨r', _, rfl, rfl, ?_⟩
            rw [take_snoc hq]
            exact N.more nca
          · rintro σ H' ⟨r, u9, rfl, rfl, N⟩
            rw [List.length_map, List.take_length] at N
            have rl0 : o.idxOf p0 < o.idxOf n := hp0l
            walk_at "rx"
            refine x_dget2 ?_
            refine x_var rfl ?_
            refine ⟨fm, rfl, .inl ⟨_, .inl f10⟩, ?_⟩
            walk_at "rx"
            refine ⟨_, dget_rd (k := .inl n) (.inl f10) rfl rfl, ?_⟩
            rw [szK_lk]
            walk_at "rx"
            have hsc : scal (((lkI fv' n).map V.int).getD V.non) (V.int r) = true := by cases lkI fv' n <;> rfl
            refine y_ne hsc ?_
            have okp : ∀ p ∈ q0 :: qs, p ∈ o ∧ (lkI fv' p).isSome = true := fun p m => ⟨(HL.ok p m).1, (HL.ok p m).2.2⟩
            refine ⟨_, rfl, ?_⟩
            refine y_ndec (fun c1 => ?_) (fun c1 => ?_)
            · have ne : lkI fv' n ≠ some r := fun z => c1 (by rw [z]; rfl)
              walk_at "rx"
              have hz : (szK fv').length < sizeLine := small9000 (by
                unfold szK
                rw [List.length_map]
                have := nodup_leI (m := o) nd8 fun x m => by obtain ⟨y, e⟩ := Option.isSome_iff_exists.mp (lkI_some.mpr m); exact FO8.fS _ _ e
                rw [List.length_map] at this
                omega)
              refine y_dput (j := .inl n) (kvs' := szK (fput fv' n r)) f10 rfl hz szK_put ?_
              walk_at "rx"
              obtain ⟨F', _, _⟩ := upF_ok FO8 no nt N okp m0 hp0l
              refine ⟨fput fv' n r, true, _, _, _, _, _, rfl, same_fresh s410 hfm, ?_, upd_same, ?_, ?_, ?_, ?_, fun _ => ?_, fun h => by cases h⟩
              · rw [upd_ne fun z => nfc z.symm]; exact c910
              · rw [fput_keys]
                split
                · exact nd8
                · rename_i h
                  rw [List.nodup_append]
                  exact ⟨nd8, by simp, fun x mx y my z => by rw [List.mem_singleton] at my; exact h (my ▸ z ▸ mx)⟩
              · rw [lk_put]; exact F'
              · rw [lk_put]; exact IA8.upd FO8 N (fun p m => (HL.ok p m).2) m0
              · rw [lk_put]
                have h := InvQ.upd (m := n) D FO8 (by rw [rkn]; exact IQ8) no nt N HL m0 hp0l
                rw [rkn] at h
                exact h
              · refine Classical.byContradiction fun g => ne ?_
                have gB : B < k := by omega
                have tot : ∀ x, x ∈ o → (lkI fv' x).isSome = true := fun x m => IQ8.dp (by omega) x m
                refine settled (S := (· ∈ o)) (rk := fun x => o.idxOf x) FO8 IA8 (fun d x mx ad av => ?_) no nt N HL tot (fun x p mx e av => ?_) m0 hp0l
                · obtain ⟨kk, av⟩ := av.av (rk := fun x => o.idxOf x)
                  obtain ⟨y, ey⟩ := Option.isSome_iff_exists.mp (ad.dfd FO8 (tot x mx))
                  exact IQ8.p d x B gB (hB d (FO8.fS _ _ ey) x mx kk av) ad
                · obtain ⟨kk, av⟩ := av.av (rk := fun x => o.idxOf x)
                  exact av.inS D
            · have eq : lkI fv' n = some r := by
                cases h : lkI fv' n with
                | none => rw [h] at c1; cases c1
                | some y => rw [h] at c1; cases c1; rfl
              walk_at "rx"
              refine ⟨fv', tv', _, _, _, _, _, rfl, s410, c910, f10, nd8, FO8, IA8, ?_, ht8, fun h => ?_⟩
              · have h := InvQ.same (m := n) (by rw [rkn]; exact IQ8) D no FO8 nt N HL m0 hp0l eq
                rw [rkn] at h
                exact h
              · obtain ⟨e1, h1, h2⟩ := hf8 h
                have kp : 0 < k := Classical.byContradiction fun z => nt (hk0 (by omega) n r (by rw [← e1]; exact eq))
                refine ⟨e1, .inl kp, fun y my p x e po ex => ?_⟩
                rw [take_snoc hn] at my
                rcases List.mem_append.mp my with my | my
                · exact h2 y my p x e po ex
                · rw [List.mem_singleton] at my
                  subst my
                  rw [eq] at ex
                  cases ex
                  exact N.1 p (HL.all p po e (IQ8.dp kp p po))
      · rintro σ H8 ⟨fv', tv', u6, u7, u8, u9, u10, rfl, s8, c8, f8, nd8, FO8, IA8, IQ8, ht8, hf8⟩
        rw [List.length_map] at IQ8 hf8
        have rl : ∀ n, n ∈ o → o.idxOf n < tl.length + 1 := fun n m => by
          have := List.idxOf_lt_length_of_mem m
          rw [htl, List.length_cons] at this
          rw [htl]; exact this
        refine ⟨B + 2 - (k + 1), by omega, fv', k + 1, tv', _, _, _, _, _, rfl, s8, f8, nd8, FO8, IA8, IQ8.turn D FO8 rl, fun h => ?_, fun h => ⟨Nat.succ_pos _, fun n m p x e po ex => ?_⟩, fun h => by omega, rfl⟩
        · have := ht8 h; omega
        · exact (hf8 h).2.2 n (by rw [List.take_length]; exact m) p x e po ex
    · obtain ⟨k0, fin⟩ := hf9 c
      walk_at "rx"
      refine q fm fv H6 (s04.trans s6) (same_none s04 hfm) f6 ⟨ndf, fun x => ?_, fun d n m => ?_, ⟨_, _, okey, D, FO⟩⟩
      · rw [← okey x, ← lkI_some]
        refine ⟨fun h => ?_, fun h => IQ.dp k0 x h⟩
        obtain ⟨y, e⟩ := Option.isSome_iff_exists.mp h
        exact FO.fS _ _ e
      · have mo := (okey n).mpr m
        refine ⟨fun h av => ?_, fun h => IA.on FO (IQ.dp k0 n mo) h⟩
        refine final D (fun n p x sn nn sp e ex => ?_) av h
        rw [htl] at sn
        exact fin n ((List.mem_cons.mp sn).resolve_left nn) p x e sp ex
end

/-! ### sums over lists; what one keeps, in size -/
section
def sumI (f : Int → Int) : List Int → Int
  | [] => 0
  | x :: l => f x + sumI f l
variable {f g : Int → Int} {l m : List Int} {x y n c : Int}
theorem sumI_congr (h : ∀ x ∈ l, f x = g x) : sumI f l = sumI g l := by
  induction l with
  | nil => rfl
  | cons x l ih => simp only [sumI]; rw [h x (List.mem_cons_self ..), ih fun y m => h y (List.mem_cons_of_mem _ m)]
theorem sumI_zero (h : ∀ x ∈ l, f x = 0) : sumI f l = 0 := by
  induction l with
  | nil => rfl
  | cons x l ih => simp only [sumI]; rw [h x (List.mem_cons_self ..), ih fun y m => h y (List.mem_cons_of_mem _ m)]; rfl
theorem sumI_add : sumI (fun x => f x + g x) l = sumI f l + sumI g l := by
  induction l with
  | nil => rfl
  | cons x l ih => simp only [sumI]; rw [ih]; omega
theorem sumI_app : sumI f (l ++ m) = sumI f l + sumI f m := by
  induction l with
  | nil => simp [sumI]
  | cons x l ih => simp only [List.cons_append, sumI]; rw [ih]; omega
theorem sumI_perm (p : l.Perm m) : sumI f l = sumI f m := by
  induction p with
  | nil => rfl
  | cons x _ ih => simp only [sumI]; rw [ih]
  | swap x y l => simp only [sumI]; omega
  | trans _ _ h1 h2 => exact h1.trans h2
theorem sumI_swap {F : Int → Int → Int} : sumI (fun a => sumI (fun b => F a b) m) l = sumI (fun b => sumI (fun a => F a b) l) m := by
  induction l with
  | nil => simp only [sumI]; exact (sumI_zero fun _ _ => rfl).symm
  | cons x l ih => simp only [sumI]; rw [sumI_add, ih]
theorem sumI_one (nd : l.Nodup) (m : x ∈ l) (h : ∀ y ∈ l, y ≠ x → f y = 0) : sumI f l = f x := by
  induction l with
  | nil => cases m
  | cons z l ih =>
    rw [List.nodup_cons] at nd
    simp only [sumI]
    by_cases c : z = x
    · subst c
      rw [sumI_zero fun y my => h y (List.mem_cons_of_mem _ my) fun e => nd.1 (e ▸ my)]
      omega
    · rw [h z (List.mem_cons_self ..) c, ih nd.2 ((List.mem_cons.mp m).resolve_left fun e => c e.symm) fun y my => h y (List.mem_cons_of_mem _ my)]
      omega
theorem sumI_if {P : Prop} [Decidable P] : sumI (fun x => if P then f x else 0) l = if P then sumI f l else 0 := by
  split
  · rfl
  · exact sumI_zero fun _ _ => rfl
end
section
open Classical
variable {E : Int → Int → Prop} {S : Int → Prop} {rk : Int → Nat} {f : Int → Option Int} {a b c d n m x : Int} {L : List Int} {s : Int → Int}
theorem An.last (h : An f a b) (ne : a ≠ b) : ∃ c, c ≠ -1 ∧ f c = some a ∧ An f c b := by
  induction h with
  | refl => exact absurd rfl ne
  | @up b x n e h ih =>
    by_cases c : a = x
    · subst c; exact ⟨b, n, e, .refl⟩
    · obtain ⟨c, h1, h2, h3⟩ := ih c
      exact ⟨c, h1, h2, .up n e h3⟩
theorem An.lin (h : An f a c) (g : An f b c) : An f a b ∨ An f b a := by
  induction h with
  | refl => exact .inr g
  | @up c x n e h ih =>
    cases g with
    | refl => exact .inl (.up n e h)
    | up _ e' g => rw [e] at e'; cases e'; exact ih g
theorem An.kid (F : FOk S rk f) (h1 : f a = some n) (h2 : f b = some n) (na : a ≠ -1) (nb : b ≠ -1) (ha : An f a m) (hb : An f b m) : a = b := by
  have key : ∀ {a b : Int}, f a = some n → f b = some n → a ≠ -1 → b ≠ -1 → An f a b → a = b := fun {a b} h1 h2 na nb h => by
    refine Classical.byContradiction fun ne => ?_
    obtain ⟨x, _, e, h⟩ := h.proper ne
    rw [h2] at e
    cases e
    have l := (F.fup _ _ na h1).2.1
    rcases h.le F with z | z
    · rw [z] at l; omega
    · omega
  rcases ha.lin hb with h | h
  · exact key h1 h2 na nb h
  · exact (key h2 h1 nb na h).symm
/-- all under one, in size -/
noncomputable def kp (f : Int → Option Int) (s : Int → Int) (L : List Int) (n : Int) : Int := sumI (fun m => if An f n m then s m else 0) L
structure KidL (S : Int → Prop) (rk : Int → Nat) (f : Int → Option Int) (L : List Int) : Prop where
  F : FOk S rk f
  nd : L.Nodup
  nt : (-1 : Int) ∉ L
  cl : ∀ m ∈ L, ∀ x, f m = some x → x ≠ -1 → x ∈ L
  tot : ∀ m ∈ L, (f m).isSome = true
theorem KidL.mem (k : KidL S rk f L) (h : An f c m) (hm : m ∈ L) (nc : c ≠ -1) : c ∈ L := by
  induction h with
  | refl => exact hm
  | @up b x n e h ih =>
    by_cases z : x = -1
    · subst z
      cases h with
      | refl => exact absurd rfl nc
      | up n _ _ => exact absurd rfl n
    · exact ih (k.cl _ hm _ e z)
theorem kp_kids (k : KidL S rk f L) : kp f s L n = (if n ∈ L then s n else 0) + sumI (fun c => if f c = some n then kp f s L c else 0) L := by
  have e1 : sumI (fun c => if f c = some n then kp f s L c else 0) L = sumI (fun m => sumI (fun c => if f c = some n ∧ An f c m then s m else 0) L) L := by
    rw [sumI_swap]
    refine sumI_congr fun c _ => ?_
    unfold kp
    rw [← sumI_if]
    refine sumI_congr fun m _ => ?_
    by_cases h1 : f c = some n <;> by_cases h2 : An f c m <;> simp [h1, h2]
  have e2 : (if n ∈ L then s n else 0) = sumI (fun m => if m = n then s m else 0) L := by
    split
    · rename_i h
      rw [sumI_one (f := fun m => if m = n then s m else 0) k.nd h fun y _ ne => if_neg ne]
      exact (if_pos rfl).symm
    · rename_i h
      exact (sumI_zero fun y my => if_neg fun (z : y = n) => h (z ▸ my)).symm
  rw [e1, e2, ← sumI_add]
  unfold kp
  refine sumI_congr fun m hm => ?_
  by_cases c0 : m = n
  · subst c0
    rw [if_pos rfl, if_pos .refl, sumI_zero fun c hc => if_neg ?_]
    · omega
    · rintro ⟨h1, h2⟩
      have nc : c ≠ -1 := fun z => k.nt (z ▸ hc)
      have l := (k.F.fup _ _ nc h1).2.1
      rcases h2.le k.F with z | z
      · rw [z] at l; omega
      · omega
  · rw [if_neg c0]
    by_cases c1 : An f n m
    · rw [if_pos c1]
      obtain ⟨c, n1, h1, h2⟩ := c1.last fun z => c0 z.symm
      have hc := k.mem h2 hm n1
      rw [sumI_one (f := fun c => if f c = some n ∧ An f c m then s m else 0) k.nd hc fun y hy ne => if_neg ?_, if_pos ⟨h1, h2⟩]
      · omega
      · rintro ⟨g1, g2⟩
        exact ne (An.kid k.F g1 h1 (fun z => k.nt (z ▸ hy)) n1 g2 h2)
    · rw [if_neg c1, sumI_zero fun c hc => if_neg ?_]
      · omega
      · rintro ⟨h1, h2⟩
        have nc : c ≠ -1 := fun z => k.nt (z ▸ hc)
        exact c1 (h2.trans (.up nc h1 .refl))
end

/-! ### totals -/
section
open Classical
structure GOk (gs : List (Int × Int)) (gw : List (Int × List (Str × Int))) : Prop where
  gok : GwOk gw
  kk : gw.map (·.1) = -1 :: gs.map (·.1)
  rch : ∀ n ∈ gw.map (·.1), RchG (EW (Wof gw)) n
theorem GOk.nd {gs : List (Int × Int)} {gw : List (Int × List (Str × Int))} (g : GOk gs gw) : (gs.map (·.1)).Nodup ∧ (-1 : Int) ∉ gs.map (·.1) := by
  have h := g.gok.nd
  rw [g.kk, List.nodup_cons] at h
  exact ⟨h.2, h.1⟩
def szOf (gs : List (Int × Int)) (n : Int) : Int := (lkI gs n).getD 0
noncomputable def totG (E : Int → Int → Prop) (s : Int → Int) (L : List Int) (n : Int) : Int := sumI (fun m => if DomG E n m then s m else 0) L
noncomputable def totL (gs : List (Int × Int)) (gw : List (Int × List (Str × Int))) : List (Int × Int) := gs.map fun z => (z.1, totG (EW (Wof gw)) (szOf gs) (gs.map (·.1)) z.1)
variable {gs : List (Int × Int)} {gw : List (Int × List (Str × Int))} {fv : List (Int × Int)}
theorem MaOk.kid (m : MaOk gw fv) (g : GOk gs gw) : ∃ (S : Int → Prop) (rk : Int → Nat), KidL S rk (lkI fv) (gs.map (·.1)) ∧ DG (EW (Wof gw)) S rk ∧ ∀ x, S x ↔ x ∈ gw.map (·.1) := by
  obtain ⟨S, rk, hS, D, F⟩ := m.fok
  refine ⟨S, rk, ⟨F, g.nd.1, g.nd.2, fun x hx y e ne => ?_, fun x hx => ?_⟩, D, hS⟩
  · have nx : x ≠ -1 := fun z => g.nd.2 (z ▸ hx)
    have := (hS y).mp (F.fup _ _ nx e).1
    rw [g.kk] at this
    exact (List.mem_cons.mp this).resolve_left ne
  · refine lkI_some.mpr ((m.mem x).mpr ?_)
    rw [g.kk]
    exact List.mem_cons_of_mem _ hx
theorem MaOk.kpG (m : MaOk gw fv) (g : GOk gs gw) {s : Int → Int} {n : Int} : kp (lkI fv) s (gs.map (·.1)) n = totG (EW (Wof gw)) s (gs.map (·.1)) n := by
  unfold kp totG
  refine sumI_congr fun x hx => ?_
  have h := m.dom n x (by rw [g.kk]; exact List.mem_cons_of_mem _ hx)
  by_cases c : An (lkI fv) n x
  · rw [if_pos c, if_pos (h.mp c)]
  · rw [if_neg c, if_neg fun z => c (h.mpr z)]
/-- some of those right under one -/
noncomputable def prt (f : Int → Option Int) (s : Int → Int) (L P : List Int) (n : Int) : Int := s n + sumI (fun c => if f c = some n then kp f s L c else 0) P
theorem prt_snoc {f : Int → Option Int} {s : Int → Int} {L P : List Int} {n c : Int} : prt f s L (P ++ [c]) n = prt f s L P n + (if f c = some n then kp f s L c else 0) := by
  unfold prt
  rw [sumI_app]
  simp only [sumI]
  omega
theorem prt_all {S : Int → Prop} {rk : Int → Nat} {f : Int → Option Int} {s : Int → Int} {L P R : List Int} {n : Int} (k : KidL S rk f L) (p : (P ++ R).Perm L) (hn : n ∈ L) (h : ∀ x ∈ R, f x ≠ some n) : prt f s L P n = kp f s L n := by
  rw [kp_kids k, if_pos hn]
  unfold prt
  have e := sumI_perm (f := fun c => if f c = some n then kp f s L c else 0) p
  rw [sumI_app, sumI_zero (l := R) fun x hx => if_neg (h x hx)] at e
  rw [← e]
  omega
theorem lk_gs {h : Int → Int} {n : Int} (m : n ∈ gs.map (·.1)) : lkI (gs.map fun z => (z.1, h z.1)) n = some (h n) := by
  induction gs with
  | nil => cases m
  | cons z gs ih =>
    by_cases c : z.1 = n
    · simp [lkI, c]
    · have := ih ((List.mem_cons.mp m).resolve_left fun e => c e.symm)
      unfold lkI at this ⊢
      rw [List.map_cons, List.find?_cons]
      simp only [decide_eq_false c]
      exact this
theorem fput_gs {h : Int → Int} {n v : Int} (m : n ∈ gs.map (·.1)) : fput (gs.map fun z => (z.1, h z.1)) n v = gs.map fun z => (z.1, if z.1 = n then v else h z.1) := by
  unfold fput
  rw [List.map_map, if_pos (by exact m), List.map_map]
  refine List.map_congr_left fun z _ => ?_
  show (if z.1 = n then (z.1, v) else (z.1, h z.1)) = _
  split <;> rfl
/-- in order, one is met ahead of all that it keeps -/
theorem kid_in {S : Int → Prop} {rk : Int → Nat} (m : MaOk gw fv) (g : GOk gs gw) (k : KidL S rk (lkI fv) (gs.map (·.1))) {o tl P R : List Int} {c x : Int} (od : OrdOk (Wof gw) o) (ho : o = -1 :: tl) (e : tl.reverse = P ++ c :: R) (hx : x ∈ c :: R) : lkI fv x ≠ some c := by
  intro h
  have et : tl = R.reverse ++ c :: P.reverse := by
    have := congrArg List.reverse e
    rw [List.reverse_reverse, List.reverse_append, List.reverse_cons] at this
    rw [this]; simp
  have nd := od.nd
  rw [ho, List.nodup_cons] at nd
  have xt : x ∈ tl := by
    rw [← List.mem_reverse, e]
    exact List.mem_append.mpr (.inr hx)
  have nx : x ≠ -1 := fun z => nd.1 (z ▸ xt)
  have xg : x ∈ gw.map (·.1) := by
    have := (m.mem x).mp (lkI_some.mp (by rw [h]; rfl))
    exact this
  have A : An (lkI fv) c x := .up nx h .refl
  have l := (k.F.fup _ _ nx h).2.1
  have ne : c ≠ x := fun z => by rw [z] at l; omega
  have hD := (m.dom c x xg).mp A
  have lt := dom_rk od.dg _ x (Nat.le_refl _) (by rw [ho]; exact List.mem_cons_of_mem _ xt) hD ne
  have hx : x ∈ R := (List.mem_cons.mp hx).resolve_left fun z => ne z.symm
  have eo : o = (-1 :: R.reverse) ++ c :: P.reverse := by rw [ho, et]; rfl
  have nc : c ∉ -1 :: R.reverse := fun z => by
    have h2 := od.nd
    rw [eo, List.nodup_append] at h2
    exact h2.2.2 c z c (List.mem_cons_self ..) rfl
  have l1 : o.idxOf c = (-1 :: R.reverse).length := by rw [eo]; exact idx_app nc
  have l2 : o.idxOf x < (-1 :: R.reverse).length := by rw [eo]; exact idx_lt (List.mem_cons_of_mem _ (List.mem_reverse.mpr hx))
  have lt : o.idxOf c < o.idxOf x := lt
  omega
theorem ord_perm (g : GOk gs gw) {o tl : List Int} (od : OrdOk (Wof gw) o) (ho : o = -1 :: tl) : tl.reverse.Perm (gs.map (·.1)) := by
  refine (List.reverse_perm tl).trans ?_
  have nd := od.nd
  rw [ho, List.nodup_cons] at nd
  refine (List.perm_ext_iff_of_nodup nd.2 g.nd.1).mpr fun x => ?_
  have h1 : x ∈ o ↔ x ∈ gw.map (·.1) := (od.mem x).trans ⟨fun h => by
    cases h with
    | top => exact g.gok.top
    | step _ e => exact (g.gok.W e).1, g.rch x⟩
  rw [ho, g.kk, List.mem_cons, List.mem_cons] at h1
  refine ⟨fun h => (h1.mp (.inr h)).resolve_left fun z => nd.1 (z ▸ h), fun h => (h1.mpr (.inr h)).resolve_left fun z => g.nd.2 (z ▸ h)⟩
end
section
variable {P : Program} {w : World} {K : PySem.W.Frag} {mg : Str → Option Value} {base : Heap}
abbrev spNeed (K : PySem.W.Frag) : Sp := Sp2 fun x y H Q => ∃ (a : Addr) (gs : List (Int × Int)) (gw : List (Int × List (Str × Int))) (n : Int), x = .ref a ∧ y = .int n ∧ GrR K H a gs gw ∧ n ∈ gs.map (·.1) ∧ Q .non H
theorem met_Graph_need (T : Tx w K mg base) : Met P w K mg base 1 (He.ga K "Graph") "need" (spNeed K) [] := by
  obtain ⟨fd, F⟩ := T.fn_Graph_need
  refine met_of T.cl_Graph T.me_Graph_need F sc_Graph_need (F.bindsN fun _ _ _ _ _ _ us hl => match us, hl with | [_, _], _ => rfl) (fun vs H Q E h => h.len) (fun cdv A outer s H vs Q E hr h => ?_)
  obtain ⟨x, y, rfl, a, gs, gw, n, rfl, rfl, ⟨dx, sz, wy, kvs, ga, gsz, gwy, _⟩, hn, q⟩ := h
  have hu := hu_of hr
  have nd := sc_Graph_need.nd
  refine ⟨_, (pss_one (ps_if (pt_cmp (pc_dnotin hu (pv 1) (pe_fld (pv 0) rfl))) (pss_one ps_never) pss_nil)), ?_⟩
  walk_at "sx"
  refine y_dnotin (j := .inl n) (.inl gsz) rfl ?_
  rw [szK_lk, Option.isSome_map, lkI_some.mpr hn]
  walk_at "rx"
  exact q
abbrev spGTotals (K : PySem.W.Frag) : Sp := Sp1 fun x H Q => ∃ (a : Addr) (gs : List (Int × Int)) (gw : List (Int × List (Str × Int))), x = .ref a ∧ GrR K H a gs gw ∧ GOk gs gw ∧
  ∀ (d : Addr) (H' : Hp), Same H H' → H d = none → H' d = some (.dK (szK (totL gs gw))) → Q (.ref d) H'
theorem met_Graph_totals (T : Tx w K mg base) : Met P w K mg base 3 (He.ga K "Graph") "totals" (spGTotals K) [] := by
  obtain ⟨fd, F⟩ := T.fn_Graph_totals
  refine met_of T.cl_Graph T.me_Graph_totals F sc_Graph_totals (F.bindsN fun _ _ _ _ _ _ us hl => match us, hl with | [_], _ => rfl) (fun vs H Q E h => h.len) (fun cdv A outer s H vs Q E hr h => ?_)
  obtain ⟨x, rfl, a, gs, gw, rfl, G, gok, q⟩ := h
  have hu := hu_of hr
  have nd := sc_Graph_totals.nd
  refine ⟨_, (pss_cons (ps_set (i := 1) nd rfl (Or.inl rfl) (pe_mt0 (met_Graph_masters T) hr (by decide) (pv 0))) (pss_cons (ps_set (i := 2) nd rfl (Or.inl rfl) (pe_callTy (call_dictP rfl) (by rfl) T.n_dict (by decide +kernel) (pa_cons (pe_lock (pe_lc (own := [("number", 3)]) (by rfl) nd (pi_keys (pe_fld (pv 0) rfl)) (blkOk_by (own := [("number", 3)]) (N := N_Graph_totals) (sc := (C8.fnScope s_Graph_totals)) (by decide +kernel)) (fun _ _ _ _ _ => (pg_name (i := 3) nd rfl (Or.inl rfl))) (fun _ _ _ _ _ => pts_nil) (fun _ _ _ _ _ => (pe_tup (pa_cons (pv 3) (pa_cons (pe_dget hu (pe_fldK (K := K) rfl (pe_fld (pv 0) rfl)) (pv 3) (fun _ _ => rfl)) pa_nil)))))) pa_nil))) (pss_cons (ps_for PassesOwn.never rfl (pi_list (pe_revU (pe_mt0 (met_Graph_order T) hr (by decide) (pv 0)))) (pg_name (i := 3) nd rfl (Or.inl rfl)) (pss_one (ps_if (pt_cmpR op_ne (pe_dget hu (pv 1) (pv 3) (fun _ _ => rfl)) (pe_gc rfl T.k_TOP) (nomark _)) (pss_one (ps_dput hu (pv 2) (pe_dget hu (pv 1) (pv 3) (fun _ _ => rfl)) (pe_op op_add (pe_dget hu (pv 2) (pe_dget hu (pv 1) (pv 3) (fun _ _ => rfl)) (fun _ _ => rfl)) (pe_dget hu (pv 2) (pv 3) (fun _ _ => rfl))) rfl)) pss_nil))) (pss_one (ps_ret (pv 2)))))), ?_⟩
  obtain ⟨dx, sz, wy, kvs, ga, gsz, gwy, _⟩ := G.way gok.gok
  have lgs : gs.length ≤ 8000 := by
    have h := congrArg List.length gok.kk
    rw [List.length_map, List.length_cons, List.length_map] at h
    have := gok.gok.lg
    omega
  walk_at "sx"
  refine ⟨a, gs, gw, rfl, G, gok.gok, gok.rch, fun fm fv H1 s1 fm0 hfm ma => ?_⟩
  have ga1 := s1 _ _ ga
  have gsz1 := s1 _ _ gsz
  walk_at "rx"
  refine ⟨sz, _, gsz1, trivial, fun od => ?_⟩
  have nas : a ≠ sz := fun z => by rw [z, gsz1] at ga1; cases ga1
  have ga2 : upd H1 sz (.frz od (.dK (szK gs))) a = some (.ins (He.ga K "Graph") dx (fs_Graph (.ref sz) (.ref wy))) := by rw [upd_ne nas]; exact ga1
  walk_at "rx"
  refine x_iK ?_
  walk_at "rx"
  have toH : ∀ {H' : Hp}, Same (upd H1 sz (.frz od (.dK (szK gs)))) H' → Same H1 (upd H' sz (.dK (szK gs))) := fun s b u e => by
    by_cases c : b = sz
    · rw [c, upd_same, ← gsz1, ← c]; exact e
    · rw [upd_ne c]; exact s _ _ (by rw [upd_ne c]; exact e)
  have sK : upd H1 sz (.frz od (.dK (szK gs))) sz = some (.frz od (.dK (szK gs))) := upd_same
  generalize upd H1 sz (.frz od (.dK (szK gs))) = HK at ga2 toH sK ⊢
  refine ⟨sz, od, rfl, .inl ⟨_, sK, ?_⟩⟩
  refine y_lcK (fun D i acc H' => Same HK H' ∧ ∃ ps : List Addr, acc = ps.map V.ref ∧ Paired (fun p (kv : Key × V) => H' p = some (.tup [kV kv.1, kv.2])) ps ((szK gs).take i)) (fun D hD => ⟨Same.new hD, [], rfl, .nil⟩) (fun D i acc H' hD _ p => p.1 _ _ sK) ?_ ?_
  · rintro D i k v acc H2 hD hi hDl hle ⟨s2, ps, rfl, pr⟩
    have hz0 := hi
    unfold szK at hz0
    rw [List.getElem?_map] at hz0
    obtain ⟨z, hz, ez⟩ := Option.map_eq_some_iff.mp hz0
    cases ez
    have il : i < 8000 := Nat.lt_of_lt_of_le (List.getElem?_eq_some_iff.mp hz).1 lgs
    have a2 := s2 _ _ ga2
    have k2 := s2 _ _ sK
    refine y_turn ?_
    walk_at "rx"
    refine ⟨rfl, y_yes (y_tt ?_)⟩
    walk_at "rx"
    refine y_dgetR (j := .inl z.1) (.inr ⟨od, k2⟩) rfl (szK_get gok.nd.1 (List.mem_of_getElem? hz)) ?_
    walk_at "rx"
    intro tp htp
    have s3 := Same.new (o := .tup [kV (.inl z.1), .int z.2]) htp
    have hD3 := s3 _ _ hDl
    have t3 : upd H2 tp (.tup [kV (.inl z.1), .int z.2]) tp = some (.tup [kV (.inl z.1), .int z.2]) := upd_same
    have p3 : Paired (fun p (kv : Key × V) => upd H2 tp (.tup [kV (.inl z.1), .int z.2]) p = some (.tup [kV kv.1, kv.2])) ps ((szK gs).take i) := Paired.mapP pr fun _ _ z => s3 _ _ z
    generalize upd H2 tp (.tup [kV (.inl z.1), .int z.2]) = H3 at s3 hD3 t3 p3 ⊢
    refine y_put hD3 hle (by omega) ⟨same_fresh (s2.trans s3) hD, ps ++ [tp], by rw [List.map_append]; rfl, ?_⟩
    have tp4 : Tups H3 (upd H3 D (.lst (ps.map V.ref ++ [V.ref tp]))) := fun p xs e => by rw [upd_ne fun z => by rw [z, hD3] at e; cases e]; exact e
    rw [take_snoc hi]
    exact Paired.app (Paired.mapP p3 fun _ _ z => tp4 _ _ z) (tp4 _ _ t3)
  rintro D acc H2 hD hDl ⟨s2, ps, rfl, pr⟩
  rw [List.take_length] at pr
  refine ⟨s2 _ _ sK, ?_⟩
  have s3 := toH s2
  have nD : D ≠ sz := fun z => by rw [z, sK] at hD; cases hD
  have D3 : upd H2 sz (.dK (szK gs)) D = some (.lst (ps.map V.ref)) := by rw [upd_ne nD]; exact hDl
  have p3 : Paired (fun p (kv : Key × V) => upd H2 sz (.dK (szK gs)) p = some (.tup [kV kv.1, kv.2])) ps (szK gs) := Paired.mapP pr fun p _ z => by
    rw [upd_ne fun y => by have k2 := s2 _ _ sK; rw [y, k2] at z; cases z]; exact z
  generalize upd H2 sz (.dK (szK gs)) = H3 at s3 D3 p3 ⊢
  walk_at "rx"
  refine ⟨D, ps, _, rfl, sqL D3, Paired.mapP p3 fun _ _ z => sqT z, fun d4 hd4 => ?_⟩
  have emg : mergeK [] (szK gs) = szK gs := mergeK_nd (by
    have e : (szK gs).map (·.1) = (gs.map (·.1)).map fun k => (Sum.inl k : Key) := by unfold szK; rw [List.map_map, List.map_map]; rfl
    rw [e, List.nodup_iff_pairwise_ne, List.pairwise_map]
    exact gok.nd.1.imp fun h z => h (Sum.inl.inj z))
  rw [emg]
  have s4 := s3.trans (Same.new (o := .dK (szK gs)) hd4)
  have r4 : upd H3 d4 (.dK (szK gs)) d4 = some (.dK (szK gs)) := upd_same
  have n4 := same_none s3 hd4
  generalize upd H3 d4 (.dK (szK gs)) = H4 at s4 r4 ⊢
  have G4 := (G.same s1).same s4
  walk_at "rx"
  refine x_revU ?_
  walk_at "rx"
  refine ⟨a, gs, gw, rfl, G4, gok.gok, fun lo o H5 s5 lo0 hlo od2 ll => ?_⟩
  obtain ⟨tl, htl⟩ := od2.hd
  refine ⟨lo, _, rfl, sqL hlo, fun c6 hc6 => ?_⟩
  have er : ((o.map V.int).drop 1).reverse = tl.reverse.map V.int := by rw [htl, List.map_reverse]; rfl
  rw [er]
  have s56 := s5.trans (Same.new (o := .lst (tl.reverse.map V.int)) hc6)
  have c66 : upd H5 c6 (.lst (tl.reverse.map V.int)) c6 = some (.lst (tl.reverse.map V.int)) := upd_same
  generalize upd H5 c6 (.lst (tl.reverse.map V.int)) = H6 at s56 c66 ⊢
  have s16 := s4.trans s56
  have fm6 := s16 _ _ hfm
  have r6 := s56 _ _ r4
  have n46 : d4 ≠ c6 := fun z => by rw [z] at r4; have := s5 _ _ r4; rw [hc6] at this; cases this
  have n4f : fm ≠ d4 := fun z => by rw [← z, hfm] at n4; cases n4
  obtain ⟨S, rk, kid, D, hS⟩ := ma.kid gok
  have pm := ord_perm gok od2 htl
  have z0 : ∀ m, m ∈ gs.map (·.1) → lkI gs m = some (szOf gs m) := fun m h => by
    obtain ⟨y, e⟩ := Option.isSome_iff_exists.mp (lkI_some.mpr h)
    unfold szOf; rw [e]; rfl
  have gs0 : gs = gs.map fun z => (z.1, prt (lkI fv) (szOf gs) (gs.map (·.1)) [] z.1) := by
    refine List.ext_getElem? fun i => ?_
    rw [List.getElem?_map]
    cases e : gs[i]? with
    | none => rfl
    | some z =>
      have m := List.mem_of_getElem? e
      have := lkI_mem gok.nd.1 (show (z.1, z.2) ∈ gs from m)
      show some z = some (z.1, prt (lkI fv) (szOf gs) (gs.map (·.1)) [] z.1)
      unfold prt szOf
      rw [this]
      simp only [sumI, Option.getD_some]
      rw [Int.add_zero]
  refine y_iL (sqL c66) ?_
  refine y_forL (xs := tl.reverse.map V.int) (fun i σ H' => ∃ u3 : Option V, σ = [some (.ref a), some (.ref fm), some (.ref d4), u3] ∧ Same H1 H' ∧ H' c6 = some (.lst (tl.reverse.map V.int)) ∧ H' d4 = some (.dK (szK (gs.map fun z => (z.1, prt (lkI fv) (szOf gs) (gs.map (·.1)) (tl.reverse.take i) z.1)))))
    ⟨_, rfl, s16, c66, by rw [List.take_zero, ← gs0]; exact r6⟩ (fun i σ H' _ h => by obtain ⟨_, _, _, h, _⟩ := h; exact sqL h) ?_ ?_
  · rintro i x σ H7 hi ⟨u3, rfl, s7, c7, r7⟩
    rw [List.getElem?_map] at hi
    obtain ⟨c, hc, rfl⟩ := Option.map_eq_some_iff.mp hi
    have cg : c ∈ gs.map (·.1) := pm.mem_iff.mp (List.mem_of_getElem? hc)
    have nc : c ≠ -1 := fun z => gok.nd.2 (z ▸ cg)
    have fm7 := s7 _ _ hfm
    obtain ⟨y, ey⟩ := Option.isSome_iff_exists.mp (kid.tot c cg)
    have vy : valV (szK fv) (.inl c) = some (.int y) := by rw [szK_lk, ey]; rfl
    have esp : tl.reverse = tl.reverse.take i ++ c :: tl.reverse.drop (i + 1) := by
      obtain ⟨hl, hx⟩ := List.getElem?_eq_some_iff.mp hc
      rw [← hx, List.getElem_cons_drop, List.take_append_drop]
    walk_at "rx"
    refine y_dgetI fm7 vy ?_
    walk_at "rx"
    refine y_ndec (fun c1 => ?_) (fun c1 => ?_)
    · have ny : y ≠ -1 := fun z => c1 (by rw [z])
      have yg : y ∈ gs.map (·.1) := kid.cl c cg y ey ny
      walk_at "rx"
      refine y_dgetI fm7 vy ?_
      walk_at "rx"
      refine y_dgetI r7 (by rw [szK_lk, lk_gs yg]; rfl) ?_
      walk_at "rx"
      refine y_dgetI r7 (by rw [szK_lk, lk_gs cg]; rfl) ?_
      walk_at "rx"
      refine y_dgetI fm7 vy ?_
      walk_at "rx"
      have hz : (szK (gs.map fun z => (z.1, prt (lkI fv) (szOf gs) (gs.map (·.1)) (tl.reverse.take i) z.1))).length < sizeLine := small9000 (by unfold szK; rw [List.length_map, List.length_map]; omega)
      refine y_dput (j := .inl y) r7 rfl hz szK_put ?_
      walk_at "rx"
      refine ⟨_, rfl, same_fresh s7 n4, by rw [upd_ne n46.symm]; exact c7, ?_⟩
      rw [upd_same, fput_gs yg, take_snoc hc]
      congr 3
      refine List.map_congr_left fun z hz => ?_
      have zg : z.1 ∈ gs.map (·.1) := List.mem_map.mpr ⟨z, hz, rfl⟩
      rw [prt_snoc]
      by_cases cz : z.1 = y
      · rw [if_pos cz, if_pos (by rw [ey, cz]), cz]
        congr 2
        refine prt_all kid (R := c :: tl.reverse.drop (i + 1)) (by rw [← esp]; exact pm) cg fun x hx => ?_
        exact kid_in ma gok kid od2 htl esp hx
      · rw [if_neg cz, if_neg fun e => cz (by rw [ey] at e; exact (Option.some.inj e).symm), Int.add_zero]
    · have ey1 : y = -1 := by have := c1; simp at this; exact this
      walk_at "rx"
      refine ⟨_, rfl, s7, c7, ?_⟩
      rw [r7, take_snoc hc]
      congr 3
      refine List.map_congr_left fun z hz => ?_
      have zg : z.1 ∈ gs.map (·.1) := List.mem_map.mpr ⟨z, hz, rfl⟩
      rw [prt_snoc, if_neg fun e => by rw [ey, ey1] at e; exact gok.nd.2 ((Option.some.inj e) ▸ zg), Int.add_zero]
  · rintro σ H7 ⟨u3, rfl, s7, c7, r7⟩
    rw [List.length_map, List.take_length] at r7
    walk_at "rx"
    refine q d4 H7 (s1.trans s7) (same_none s1 n4) ?_
    rw [r7]
    congr 3
    unfold totL
    refine List.map_congr_left fun z hz => ?_
    have zg : z.1 ∈ gs.map (·.1) := List.mem_map.mpr ⟨z, hz, rfl⟩
    rw [← ma.kpG gok, prt_all kid (R := []) (by rw [List.append_nil]; exact pm) zg fun x hx => by cases hx]
end

/-! ### keeps, masters, total, totals of photos -/
section
open Classical
/-- photos as asked of: rising, all in reach -/
structure PhK (nm : List AV) (rw : List PRow) : Prop where
  ok : PhOk nm rw
  g : GOk (gsOf rw) (gwOf nm rw)
  up : (rw.map PRow.k).Pairwise (· < ·)
def keyL (rw : List PRow) : List Int := rw.map fun z => (z.k : Int)
def gE (nm : List AV) (rw : List PRow) : Int → Int → Prop := EW (Wof (gwOf nm rw))
theorem gs_keys {rw : List PRow} : (gsOf rw).map (·.1) = keyL rw := by unfold gsOf keyL; rw [List.map_map]; rfl
theorem PhK.srt {nm : List AV} {rw : List PRow} (p : PhK nm rw) : (keyL rw).Pairwise (· < ·) := by
  have h := p.up
  unfold keyL
  rw [List.pairwise_map] at h ⊢
  exact h.imp fun h => by omega
theorem srt_eq {ys l : List Int} (s : l.Pairwise (· < ·)) (p : ys.Perm l) (s2 : ys.Pairwise (· ≤ ·)) : ys = l := p.eq_of_pairwise (fun a b _ _ h1 h2 => Int.le_antisymm h1 h2) s2 (s.imp Int.le_of_lt)
noncomputable def kb (nm : List AV) (rw : List PRow) (n m : Int) : Bool := decide (DomG (gE nm rw) n m)
theorem kb_t {nm : List AV} {rw : List PRow} {n m : Int} (h : DomG (gE nm rw) n m) : kb nm rw n m = true := decide_eq_true h
theorem kb_f {nm : List AV} {rw : List PRow} {n m : Int} (h : ¬ DomG (gE nm rw) n m) : kb nm rw n m = false := decide_eq_false h
theorem kb_iff {nm : List AV} {rw : List PRow} {n m : Int} : kb nm rw n m = true ↔ DomG (gE nm rw) n m := decide_eq_true_iff
noncomputable def keepL (nm : List AV) (rw : List PRow) (n : Int) : List Int := (keyL rw).filter (kb nm rw n)
noncomputable def totP (nm : List AV) (rw : List PRow) (n : Int) : Int := totG (gE nm rw) (szOf (gsOf rw)) (keyL rw) n
end
section
variable {P : Program} {w : World} {K : PySem.W.Frag} {mg : Str → Option Value} {base : Heap}
theorem flat_in2 {a b c : Int} : (inV (.int a) [.int b, .int c]) = decide (a = b ∨ a = c) := by
  unfold inV
  simp only [List.any_cons, List.any_nil, Bool.or_false]
  have e : ∀ x y : Int, eqV (.int x) (.int y) = decide (y = x) := fun x y => by
    by_cases h : x = y
    · subst h; simp [eqV]
    · have h2 : ¬ y = x := fun z => h z.symm
      simp [eqV, h, h2]
  rw [e, e]
  by_cases h1 : a = b <;> by_cases h2 : a = c <;> simp [h1, h2]
theorem x_graph {H : Hp} {x : V} {nm : List AV} {rw : List PRow} {QQ : Addr → Hp → Prop} {X : XK} (ph : PhG H x nm rw) (ok : PhOk nm rw) (q : ∀ a H', Same H H' → H a = none → GrR K H' a (gsOf rw) (gwOf nm rw) → QQ a H') :
    ∀ (a dx : Addr), H a = none → H dx = none → dx ≠ a → spGraphInit K (V.ref a :: ([x] ++ [])) (upd (upd H dx (HO.own a)) a (HO.ins (He.ga K (Str.ofString "Graph")) dx [])) (fun v H2 => v = V.non ∧ QQ a H2) X := by
  intro a dx ha hd ne
  have s1 : Same H (upd (upd H dx (HO.own a)) a (HO.ins (He.ga K (Str.ofString "Graph")) dx [])) := same_fresh (Same.new hd) ha
  refine ⟨_, _, rfl, a, dx, nm, rw, rfl, upd_same, ph.same s1, ok, fun H' k G => ⟨rfl, q a H' (fun b u e => k b u (s1 _ _ e) fun z => by rw [z, ha] at e; cases e) ha G⟩⟩
abbrev spKeeps (K : PySem.W.Frag) : Sp := Sp2 fun x y H Q => ∃ (nm : List AV) (rw : List PRow) (n : Int), PhG H x nm rw ∧ PhK nm rw ∧ y = .int n ∧ n ∈ keyL rw ∧
  ∀ (l : Addr) (H' : Hp), Same H H' → H l = none → H' l = some (.lst ((keepL nm rw n).map V.int)) → Q (.ref l) H'
theorem cal_keeps (T : Tx w K mg base) : Cal P w K mg base 4 "keeps" (spKeeps K) [] := by
  obtain ⟨fd, F⟩ := T.fn_keeps
  refine cal_of F T.g_keeps sc_keeps (F.bindsN fun _ _ _ _ _ _ us hl => match us, hl with | [_, _], _ => rfl) (fun vs H Q E h => h.len) (fun cdv A outer s H vs Q E hr h => ?_)
  obtain ⟨x, y, rfl, nm, rws, n, ph, pk, rfl, hn, q⟩ := h
  have hu := hu_of hr
  have nd := sc_keeps.nd
  refine ⟨_, (pss_cons (ps_set (i := 2) nd rfl (Or.inl rfl) (pe_mk (mak_Graph T) hr (by decide) (by rfl) (pa_cons (pv 0) pa_nil))) (pss_cons (ps_expr (pe_mt (met_Graph_need T) hr (by decide) (pv 2) (pa_cons (pv 1) pa_nil))) (pss_cons (ps_set (i := 3) nd rfl (Or.inl rfl) (pe_mt0 (met_Graph_masters T) hr (by decide) (pv 2))) (pss_cons (ps_set (i := 4) nd rfl (Or.inl rfl) (pe_lst pa_nil)) (pss_cons (ps_for PassesOwn.never rfl (pi_list (pe_callB (call_sortedDN rfl) (by rfl) T.n_sorted (by decide +kernel) (pa_cons (pe_fld (pv 2) rfl) pa_nil))) (pg_name (i := 5) nd rfl (Or.inl rfl)) (pss_cons (ps_set (i := 6) nd rfl (Or.inl rfl) (pv 5)) (pss_cons (ps_while PassesOwn.never (pt_cmpR op_notIn_seq (pv 6) (pe_tup (pa_cons (pv 1) (pa_cons (pe_gc rfl T.k_TOP) pa_nil))) (by rfl)) (pss_one (ps_set (i := 6) nd rfl (Or.inl rfl) (pe_dget hu (pv 3) (pv 6) (fun _ _ => rfl))))) (pss_one (ps_if (pt_cmpR op_eq (pv 6) (pv 1) (nomark _)) (pss_one (ps_expr (pe_bm PySem.F.plainAttrs_list PySem.F.slot_list_append PySem.F.type_list_append mt_append (pv 4) (pa_cons (pv 5) pa_nil)))) pss_nil))))) (pss_one (ps_ret (pv 4)))))))), ?_⟩
  walk_at "sx"
  refine x_graph ph pk.ok fun a H1 s1 ha G => ?_
  have g := pk.g
  obtain ⟨dx, sz, wy, kvs, ga1, gsz1, gwy, _⟩ := G.way g.gok
  walk_at "rx"
  refine ⟨a, _, _, n, rfl, rfl, G, by rw [gs_keys]; exact hn, ?_⟩
  walk_at "rx"
  refine ⟨a, _, _, rfl, G, g.gok, g.rch, fun fm fv H2 s2 fm0 hfm ma => ?_⟩
  have G2 := G.same s2
  have ga := s2 _ _ ga1
  have gsz := s2 _ _ gsz1
  walk_at "rx"
  intro l hl
  have s3 := Same.new (o := .lst []) hl
  have ga3 := s3 _ _ ga
  have gsz3 := s3 _ _ gsz
  have fm3 := s3 _ _ hfm
  have l3 : upd H2 l (.lst []) l = some (.lst ([].map V.int)) := upd_same
  generalize upd H2 l (.lst []) = H3 at s3 ga3 gsz3 fm3 l3 ⊢
  walk_at "rx"
  refine ⟨sz, _, keyL rws, rfl, .inl gsz3, ?_, fun ys p pm sr hp => ?_⟩
  · rw [← gs_keys]; unfold szK; rw [List.map_map, List.map_map]; rfl
  have := srt_eq pk.srt pm sr
  subst this
  have s4 := s3.trans (Same.new (o := .lst ((keyL rws).map V.int)) hp)
  have p4 : upd H3 p (.lst ((keyL rws).map V.int)) p = some (.lst ((keyL rws).map V.int)) := upd_same
  have l4 := Same.new (o := .lst ((keyL rws).map V.int)) hp _ _ l3
  generalize upd H3 p (.lst ((keyL rws).map V.int)) = H4 at s4 p4 l4 ⊢
  walk_at "rx"
  obtain ⟨S, rk, kid, D, hS⟩ := ma.kid g
  have gkk : ∀ m, m ∈ keyL rws → m ∈ (gwOf nm rws).map (·.1) := fun m h => by rw [g.kk, gs_keys]; exact List.mem_cons_of_mem _ h
  have fmt : ∀ m, m ∈ (gwOf nm rws).map (·.1) → (lkI fv m).isSome = true := fun m h => lkI_some.mpr ((ma.mem m).mpr h)
  have nn : n ≠ -1 := fun z => by have := g.nd.2; rw [gs_keys] at this; exact this (z ▸ hn)
  refine y_iL (sqL p4) ?_
  refine y_forL (xs := (keyL rws).map V.int) (fun i σ H' => ∃ u5 u6 : Option V, σ = [some x, some (.int n), some (.ref a), some (.ref fm), some (.ref l), u5, u6] ∧ Same H2 H' ∧ H' p = some (.lst ((keyL rws).map V.int)) ∧ H' l = some (.lst ((((keyL rws).take i).filter (kb nm rws n)).map V.int)))
    ⟨_, _, rfl, s4, p4, l4⟩ (fun i σ H' _ h => by obtain ⟨_, _, _, _, h, _⟩ := h; exact sqL h) ?_ ?_
  · rintro i y σ H5 hi ⟨u5, u6, rfl, s5, p5, l5⟩
    rw [List.getElem?_map] at hi
    obtain ⟨m, hm, rfl⟩ := Option.map_eq_some_iff.mp hi
    have mk := List.mem_of_getElem? hm
    have il : i < 8000 := by
      have := (List.getElem?_eq_some_iff.mp hm).1
      unfold keyL at this
      rw [List.length_map] at this
      have := pk.ok.lr
      omega
    have llt : ((((keyL rws).take i).filter (kb nm rws n)).map V.int).length ≤ 8000 := by
      rw [List.length_map]
      refine Nat.le_trans (List.length_filter_le ..) ?_
      rw [List.length_take]
      omega
    walk_at "rx"
    refine x_while (fun me σ H' => ∃ h : Int, σ = [some x, some (.int n), some (.ref a), some (.ref fm), some (.ref l), some (.int m), some (.int h)] ∧ Same H5 H' ∧ (lkI fv h).isSome = true ∧ (An (lkI fv) n m ↔ An (lkI fv) n h) ∧ me = rk h) _ ⟨m, rfl, Same.refl H5, fmt m (gkk m mk), Iff.rfl, rfl⟩ ?_
    rintro me σ H6 ⟨h, rfl, s6, sh, iff, rfl⟩
    walk_at "rx"
    intro tp htp
    have s7 := s6.trans (Same.new (o := .tup [.int n, .int (-1)]) htp)
    have t7 : upd H6 tp (.tup [.int n, .int (-1)]) tp = some (.tup [.int n, .int (-1)]) := upd_same
    generalize upd H6 tp (.tup [.int n, .int (-1)]) = H7 at s7 t7 ⊢
    have fm7 := s7 _ _ (s5 _ _ hfm)
    refine ⟨tp, _, rfl, .inr (sqT t7), rfl, rfl, ?_⟩
    rw [if_pos rfl, flat_in2]
    refine ⟨_, rfl, ?_⟩
    refine y_w (fun c => ?_) (fun c => ?_)
    · obtain ⟨c1, c2⟩ : h ≠ n ∧ h ≠ -1 := by simpa using c
      obtain ⟨v, ev⟩ := Option.isSome_iff_exists.mp sh
      obtain ⟨_, l2, sv⟩ := kid.F.fup _ _ c2 ev
      walk_at "rx"
      refine y_dgetI fm7 (v := .int v) (by rw [szK_lk, ev]; rfl) ?_
      walk_at "rx"
      refine ⟨_, l2, v, rfl, s7, sv, iff.trans ⟨fun z => ?_, fun z => .up c2 ev z⟩, rfl⟩
      obtain ⟨_, _, e, z⟩ := z.proper fun y => c1 y.symm
      rw [ev] at e
      cases e
      exact z
    · have c : h = n ∨ h = -1 := Classical.byContradiction fun z => by rw [decide_eq_false z] at c; cases c
      have l7 := s7 _ _ l5
      have s27 := s5.trans s7
      have p7 := s7 _ _ p5
      have npl : p ≠ l := fun z => by rw [z, l3] at hp; cases hp
      walk_at "rx"
      refine y_dec (fun d => ?_) (fun d => ?_)
      · have d := V.int.inj d
        subst d
        have dm : DomG (gE nm rws) h m := (ma.dom h m (gkk m mk)).mp (iff.mpr .refl)
        have hz : ((((keyL rws).take i).filter (kb nm rws h)).map V.int).length < sizeLine := small9000 (by omega)
        walk_at "rx"
        refine ⟨_, _, rfl, same_fresh s27 hl, ?_, ?_⟩
        · rw [upd_ne npl]; exact p7
        · rw [upd_same, take_snoc hm, List.filter_append, List.map_append]
          simp [kb_t dm]
      · have h1 := c.resolve_left fun z => d (by rw [z])
        subst h1
        have dm : ¬ DomG (gE nm rws) n m := fun z => by
          have := iff.mp ((ma.dom n m (gkk m mk)).mpr z)
          cases this with
          | refl => exact nn rfl
          | up z _ _ => exact z rfl
        walk_at "rx"
        refine ⟨_, _, rfl, s27, p7, ?_⟩
        rw [l7, take_snoc hm, List.filter_append, List.map_append]
        simp [kb_f dm]
  · rintro σ H5 ⟨u5, u6, rfl, s5, p5, l5⟩
    rw [List.length_map, List.take_length] at l5
    walk_at "rx"
    exact q l H5 (s1.trans (s2.trans s5)) (same_none s1 (same_none s2 hl)) l5
end

/-! ### photos of heaps, as graphs -/
section
variable {M : HM} {t : Th} {k n : Nat}
noncomputable def nmM (M : HM) : List AV := NMS.map M.names
noncomputable def rowM (M : HM) (k : Nat) : PRow := match M.things k with
  | some t => ⟨k, t.kind, partsT t, sizeT t⟩
  | none => ⟨k, WATCH, [], 0⟩
noncomputable def rwM (M : HM) : List PRow := (reachL M).map (rowM M)
theorem rowM_k : (rowM M k).k = k := by unfold rowM; cases M.things k <;> rfl
theorem rowM_some (e : M.things k = some t) : rowM M k = ⟨k, t.kind, partsT t, sizeT t⟩ := by unfold rowM; rw [e]
theorem keyL_M : keyL (rwM M) = (reachL M).map fun (k : Nat) => (k : Int) := by
  unfold keyL rwM
  rw [List.map_map]
  refine List.map_congr_left fun k _ => ?_
  show ((rowM M k).k : Int) = k
  rw [rowM_k]
theorem ks_M : (rwM M).map PRow.k = reachL M := by
  unfold rwM
  rw [List.map_map]
  have : (PRow.k ∘ rowM M) = id := by funext k; exact rowM_k
  rw [this, List.map_id]
theorem PhR.g {N : Addr → Prop} {H : Hp} {v : V} (h : PhR N H v M) : PhG H v (nmM M) (rwM M) := by
  obtain ⟨p, nn, r, ns, rows, e, h1, _, _, h4, h5, h6, h7⟩ := h
  refine ⟨p, nn, r, ns, rows, e, h1, h4, h5, h6, ?_⟩
  unfold rwM
  clear h6
  generalize reachL M = l at h7
  induction h7 with
  | nil => exact .nil
  | cons x _ ih =>
    obtain ⟨t, et, pl, ps, a1, a2, a3, a4⟩ := x
    refine .cons ?_ ih
    rw [rowM_some et]
    exact ⟨pl, ps, a1, a3, a4⟩
theorem reach_srt : (reachL M).Pairwise (· < ·) := by
  unfold reachL rcL
  exact List.pairwise_lt_range.filter _
theorem wat_ways (ot : t.Ok n) (w : t.kind = WATCH) (j : Nat) : j ∉ outs t.held := by
  rw [(ot.wat w).1]
  exact fun h => by cases h
/-- where a row leads -/
theorem rowW_mem (ot : t.Ok n) {x : Int} : x ∈ (rowW ⟨k, t.kind, partsT t, sizeT t⟩).map (·.2) ↔ ∃ j : Nat, x = j ∧ j ∈ outs t.held := by
  unfold rowW
  show x ∈ ((partsT t).filterMap (wayF t.kind)).map (·.2) ↔ _
  by_cases w : t.kind = WATCH
  · refine ⟨fun h => ?_, fun ⟨j, _, h⟩ => absurd h (wat_ways ot w j)⟩
    have : (partsT t).filterMap (wayF t.kind) = [] := List.filterMap_eq_nil_iff.mpr fun z _ => by unfold wayF; rw [if_pos w]
    rw [this] at h
    cases h
  · have e : partsT t = partsOf t := by unfold partsT; rw [if_neg w]
    rw [e]
    constructor
    · intro h
      obtain ⟨y, hy, rfl⟩ := List.mem_map.mp h
      obtain ⟨z, hz, ez⟩ := List.mem_filterMap.mp hy
      unfold wayF at ez
      rw [if_neg w] at ez
      obtain ⟨i, ei, rfl⟩ := Option.map_eq_some_iff.mp ez
      obtain ⟨p, a⟩ := z
      cases a with
      | th j =>
        have ei : some (j : Int) = some i := ei
        refine ⟨j, (Option.some.inj ei).symm, outs_mem.mpr ⟨p, partsOf_perm.mem_iff.mp hz⟩⟩
      | non => cases ei
      | num _ => cases ei
    · rintro ⟨j, rfl, h⟩
      obtain ⟨p, hp⟩ := outs_mem.mp h
      refine List.mem_map.mpr ⟨(keyS p, (j : Int)), List.mem_filterMap.mpr ⟨(p, .th j), partsOf_perm.mem_iff.mpr hp, ?_⟩, rfl⟩
      unfold wayF
      rw [if_neg w]
      rfl
theorem topW_mem {x : Int} : x ∈ (topW (nmM M)).map (·.2) ↔ ∃ j : Nat, x = j ∧ M.root j := by
  unfold topW nmM
  constructor
  · intro h
    obtain ⟨y, hy, rfl⟩ := List.mem_map.mp h
    obtain ⟨z, hz, ez⟩ := List.mem_filterMap.mp hy
    unfold topF at ez
    obtain ⟨i, ei, rfl⟩ := Option.map_eq_some_iff.mp ez
    have hm := List.of_mem_zip hz
    obtain ⟨n, hn, e⟩ := List.mem_map.mp hm.2
    obtain ⟨s, a⟩ := z
    cases a with
    | th j =>
      have ei : some (j : Int) = some i := ei
      exact ⟨j, (Option.some.inj ei).symm, n, hn, e⟩
    | non => cases ei
    | num _ => cases ei
  · rintro ⟨j, rfl, n, hn, e⟩
    refine List.mem_map.mpr ⟨(n, (j : Int)), List.mem_filterMap.mpr ⟨(n, .th j), ?_, rfl⟩, rfl⟩
    have : NMS.zip (NMS.map M.names) = NMS.map fun n => (n, M.names n) := by
      generalize NMS = l
      induction l with
      | nil => rfl
      | cons a l ih => simp only [List.map_cons, List.zip_cons_cons, ih]
    rw [this]
    exact List.mem_map.mpr ⟨n, hn, by rw [e]⟩
theorem gw_keys : (gwOf (nmM M) (rwM M)).map (·.1) = -1 :: (reachL M).map fun (k : Nat) => (k : Int) := by
  unfold gwOf
  rw [List.map_cons, List.map_map]
  congr 1
  exact keyL_M
theorem gwM_nd : ((gwOf (nmM M) (rwM M)).map (·.1)).Nodup := by
  rw [gw_keys, List.nodup_cons]
  refine ⟨fun h => ?_, ?_⟩
  · obtain ⟨k, _, e⟩ := List.mem_map.mp h
    omega
  · rw [List.nodup_iff_pairwise_ne, List.pairwise_map]
    exact reach_srt.imp fun h => by omega
theorem W_top {x : Int} : x ∈ Wof (gwOf (nmM M) (rwM M)) (-1) ↔ ∃ j : Nat, x = j ∧ M.root j := by
  unfold Wof
  rw [wayOf_mem gwM_nd (show ((-1 : Int), topW (nmM M)) ∈ gwOf (nmM M) (rwM M) from List.mem_cons_self ..)]
  exact topW_mem
theorem W_row (ok : M.Ok) (hk : k ∈ reachL M) {x : Int} : x ∈ Wof (gwOf (nmM M) (rwM M)) (k : Int) ↔ ∃ j : Nat, x = j ∧ M.holds k j := by
  obtain ⟨t, et, ot⟩ := ok.get (RC_lt ok (root_lt ok) ((mem_reachL ok).mp hk))
  unfold Wof
  rw [wayOf_mem gwM_nd (show ((k : Int), rowW (rowM M k)) ∈ gwOf (nmM M) (rwM M) from List.mem_cons_of_mem _ (List.mem_map.mpr ⟨rowM M k, List.mem_map.mpr ⟨k, hk, rfl⟩, by rw [rowM_k]⟩)), rowM_some et, rowW_mem ot]
  refine exists_congr fun j => and_congr Iff.rfl ?_
  rw [outs_mem]
  exact ⟨fun h => ⟨t, et, h⟩, fun ⟨t', e', h⟩ => by rw [et] at e'; cases e'; exact h⟩
theorem W_in (ok : M.Ok) {p x : Int} (h : x ∈ Wof (gwOf (nmM M) (rwM M)) p) : ∃ j : Nat, x = j ∧ j ∈ reachL M := by
  have hp := wayOf_key h
  rw [gw_keys] at hp
  rcases List.mem_cons.mp hp with e | e
  · subst e
    obtain ⟨j, e, r⟩ := W_top.mp h
    exact ⟨j, e, (mem_reachL ok).mpr (.base r)⟩
  · obtain ⟨k, hk, rfl⟩ := List.mem_map.mp e
    obtain ⟨j, e, r⟩ := (W_row ok hk).mp h
    exact ⟨j, e, (mem_reachL ok).mpr (.step ((mem_reachL ok).mp hk) r)⟩
theorem parts_keys (ot : t.Ok n) {p : Key} {a : AV} (h : (p, a) ∈ partsT t) {i : Int} (e : p = .inl i) : i.natAbs ≤ 1900 := by
  unfold partsT at h
  split at h
  · rw [List.mem_singleton] at h
    cases h
    cases e
  · rename_i w
    have h := partsOf_perm.mem_iff.mp h
    subst e
    have hk : (Sum.inl i : Key) ∈ t.held.map (·.1) := List.mem_map.mpr ⟨_, h, rfl⟩
    rcases ot.kd with c | c | c | c
    · rw [ot.recd c] at hk
      obtain ⟨_, _, z⟩ := List.mem_map.mp hk
      cases z
    · obtain ⟨⟨vs, e⟩, l⟩ := ot.row c
      rw [e] at hk l
      unfold rowOf at hk l
      rw [List.length_mapIdx] at l
      obtain ⟨z, hz, e2⟩ := List.mem_map.mp hk
      obtain ⟨j, hj, e3⟩ := List.mem_mapIdx.mp hz
      rw [← e3] at e2
      have e2 : (Sum.inl (j : Int) : Key) = .inl i := e2
      have := Sum.inl.inj e2
      omega
    · obtain ⟨j, e, h0, h9⟩ := (ot.book c).1 _ hk
      have := Sum.inl.inj e
      omega
    · exact absurd c w
theorem PhK_M (ok : M.Ok) (sm : M.made ≤ 8000) : PhK (nmM M) (rwM M) := by
  have row : ∀ z ∈ rwM M, ∃ k t, k ∈ reachL M ∧ M.things k = some t ∧ t.Ok M.made ∧ z = ⟨k, t.kind, partsT t, sizeT t⟩ := fun z m => by
    obtain ⟨k, hk, rfl⟩ := List.mem_map.mp m
    obtain ⟨t, et, ot⟩ := ok.get (RC_lt ok (root_lt ok) ((mem_reachL ok).mp hk))
    exact ⟨k, t, hk, et, ot, rowM_some et⟩
  have lr : (rwM M).length ≤ 8000 := by unfold rwM; rw [List.length_map]; exact Nat.le_trans rcL_len sm
  have kk : (gwOf (nmM M) (rwM M)).map (·.1) = -1 :: (gsOf (rwM M)).map (·.1) := by rw [gw_keys, gs_keys, keyL_M]
  refine ⟨⟨by unfold nmM; rw [List.length_map]; rfl, lr, fun z m => ?_, fun z m p mp i e => ?_, ?_⟩, ⟨⟨gwM_nd, by rw [gw_keys]; exact List.mem_cons_self .., fun k ts m u mu => ?_, fun k ts m => ?_, ?_⟩, kk, fun x m => ?_⟩, by rw [ks_M]; exact reach_srt⟩
  · obtain ⟨k, t, _, _, ot, rfl⟩ := row z m
    exact Nat.le_trans (partsT_len ot) (by decide)
  · obtain ⟨k, t, _, _, ot, rfl⟩ := row z m
    exact parts_keys ot mp e
  · rw [ks_M]
    exact reach_srt.imp fun h => Nat.ne_of_lt h
  · have : u.2 ∈ Wof (gwOf (nmM M) (rwM M)) k := by
      unfold Wof
      rw [wayOf_mem gwM_nd m]
      exact List.mem_map.mpr ⟨u, mu, rfl⟩
    obtain ⟨j, e, hj⟩ := W_in ok this
    rw [gw_keys, e]
    exact ⟨List.mem_cons_of_mem _ (List.mem_map.mpr ⟨j, hj, rfl⟩), by omega⟩
  · rcases List.mem_cons.mp m with e | e
    · cases e
      unfold topW
      refine Nat.le_trans (List.length_filterMap_le ..) ?_
      rw [List.length_zip]
      exact Nat.le_trans (Nat.min_le_left ..) (by decide)
    · obtain ⟨z, hz, e⟩ := List.mem_map.mp e
      cases e
      obtain ⟨k, t, _, _, ot, rfl⟩ := row z hz
      refine Nat.le_trans (List.length_filterMap_le ..) ?_
      exact Nat.le_trans (partsT_len ot) (by decide)
  · unfold gwOf
    rw [List.length_cons, List.length_map]
    omega
  · rw [gw_keys] at m
    rcases List.mem_cons.mp m with e | e
    · exact e ▸ .top
    · obtain ⟨k, hk, rfl⟩ := List.mem_map.mp e
      have hr := (mem_reachL ok).mp hk
      clear hk e m
      induction hr with
      | base r => exact .step .top (W_top.mpr ⟨_, rfl, r⟩)
      | @step a b h e ih => exact .step ih ((W_row ok ((mem_reachL ok).mpr h)).mpr ⟨_, rfl, e⟩)
/-! #### come to without one -/
inductive HM.RN (M : HM) (n : Nat) : Nat → Prop where
  | base {k : Nat} (h : M.root k) (ne : k ≠ n) : HM.RN M n k
  | step {k j : Nat} (h : HM.RN M n k) (e : M.holds k j) (ne : j ≠ n) : HM.RN M n j
theorem RN.reach (h : M.RN n k) : M.reach k := by
  induction h with
  | base h _ => exact .base h
  | step _ e _ ih => exact .step ih e
theorem RN.ne (h : M.RN n k) : k ≠ n := by
  cases h with
  | base _ ne => exact ne
  | step _ _ ne => exact ne
theorem avs_RN (ok : M.Ok) : AvS (gE (nmM M) (rwM M)) (n : Int) (k : Int) ↔ M.RN n k := by
  have key : ∀ x : Int, AvS (gE (nmM M) (rwM M)) (n : Int) x → x = -1 ∨ ∃ j : Nat, x = j ∧ M.RN n j := by
    intro x h
    induction h with
    | top h => exact .inl rfl
    | @step p x a e ne ih =>
      have e : x ∈ Wof (gwOf (nmM M) (rwM M)) p := e
      refine .inr ?_
      rcases ih with rfl | ⟨j, rfl, hj⟩
      · obtain ⟨i, rfl, r⟩ := W_top.mp e
        exact ⟨i, rfl, .base r fun z => ne (by rw [z])⟩
      · obtain ⟨i, rfl, r⟩ := (W_row ok ((mem_reachL ok).mpr (RN.reach hj))).mp e
        exact ⟨i, rfl, .step hj r fun z => ne (by rw [z])⟩
  constructor
  · intro h
    rcases key _ h with e | ⟨j, e, hj⟩
    · omega
    · have : j = k := by omega
      exact this ▸ hj
  · intro h
    induction h with
    | base r ne => exact .step (.top (by omega)) (W_top.mpr ⟨_, rfl, r⟩) (by omega)
    | step h e ne ih => exact .step ih ((W_row ok ((mem_reachL ok).mpr (RN.reach h))).mpr ⟨_, rfl, e⟩) (by omega)
open Classical in
/-- what is not come to without one -/
noncomputable def keepN (M : HM) (n : Nat) : List Nat := (reachL M).filter fun k => decide (¬ M.RN n k)
theorem keepL_M (ok : M.Ok) : keepL (nmM M) (rwM M) (n : Int) = (keepN M n).map fun (k : Nat) => (k : Int) := by
  classical
  unfold keepL keepN
  rw [keyL_M, List.filter_map]
  congr 1
  refine List.filter_congr fun k _ => ?_
  show kb (nmM M) (rwM M) n k = decide (¬ M.RN n k)
  by_cases c : M.RN n k
  · rw [decide_eq_false fun z => z c]
    exact kb_f fun z => z ((avs_RN ok).mpr c)
  · rw [decide_eq_true c]
    exact kb_t fun z => c ((avs_RN ok).mp z)
theorem keepL_V (ok : M.Ok) : (keepL (nmM M) (rwM M) (n : Int)).map V.int = intsV (keepN M n) := by
  rw [keepL_M ok, intsV_eq]
end

section
variable {P : Program} {w : World} {K : PySem.W.Frag} {mg : Str → Option Value} {base : Heap}
/-- what is drawn from, the law's heap, other things G, each by itself -/
structure LawG (K : PySem.W.Frag) (H : Hp) (ah ac : Addr) (ad : Nat → Addr) (M : HM) (G : Addr → Prop) : Prop where
  hs : HS H ah ac
  lm : LM K H ad M
  tb : LamX.Tabs (TTs K) H
  lh : ∀ b, LF ad M b → ¬ FH ah ac b
  gl : ∀ b, G b → (∃ o, H b = some o ∧ notTbl o) ∧ ¬ FH ah ac b ∧ ¬ LF ad M b
section
variable {H H' : Hp} {ah ac : Addr} {ad ad' : Nat → Addr} {M M' : HM} {G G' : Addr → Prop} {x : Addr} {o : HO}
theorem LawG.draw (I : LawG K H ah ac ad M G) (hs : HS H' ah ac) (f : Fr K (FH ah ac) H H') : LawG K H' ah ac ad M G :=
  ⟨hs, I.lm.fr f I.lh, f.t I.tb, I.lh, fun b g => by
    obtain ⟨⟨o, h, t⟩, n⟩ := I.gl b g
    exact ⟨⟨o, f.k _ _ h n.1 t, t⟩, n⟩⟩
theorem LawG.nof (I : LawG K H ah ac ad M G) (f : Fr K NoF H H') : LawG K H' ah ac ad M G := I.draw (I.hs.fr f (fun z => z) fun z => z) (f.mono fun _ z => z.elim)
theorem LawG.same (I : LawG K H ah ac ad M G) (s : Same H H') : LawG K H' ah ac ad M G := I.nof (Fr.same s)
theorem LawG.law (I : LawG K H ah ac ad M G) (L : LM K H' ad' M') (nw : New H (LF ad M) (LF ad' M')) (f : Fr K (LF ad M) H H') : LawG K H' ah ac ad' M' G :=
  ⟨I.hs.fr f (fun z => I.lh _ z (.inl rfl)) (fun z => I.lh _ z (.inr rfl)), L, f.t I.tb, fun b h z => (nw b h).elim (fun h => I.lh b h z) fun h => HS.nn I.hs z h, fun b g => by
    obtain ⟨⟨o, h, t⟩, n1, n2⟩ := I.gl b g
    exact ⟨⟨o, f.k _ _ h n2 t, t⟩, n1, fun z => (nw b z).elim n2 fun y => by rw [h] at y; cases y⟩⟩
/-- another law's heap, all new, in the old one's stead -/
theorem LawG.anew (I : LawG K H ah ac ad M G) (s : Same H H') (L : LM K H' ad' M') (hn : ∀ b, LF ad' M' b → H b = none) : LawG K H' ah ac ad' M' G :=
  ⟨(I.same s).hs, L, (I.same s).tb, fun b h z => HS.nn I.hs z (hn b h), fun b g => by
    obtain ⟨⟨o, h, t⟩, n1, n2⟩ := I.gl b g
    exact ⟨⟨o, s _ _ h, t⟩, n1, fun z => by rw [hn b z] at h; cases h⟩⟩
/-- an other thing changes -/
theorem LawG.other (I : LawG K H ah ac ad M G) (g : G x) (c : Chg K (H x)) (nt : notTbl o) : LawG K (upd H x o) ah ac ad M G := by
  have f : Fr K (fun b => b = x) H (upd H x o) := Fr.upd rfl c
  obtain ⟨_, n1, n2⟩ := I.gl x g
  refine ⟨I.hs.fr f (fun z => n1 (.inl z.symm)) (fun z => n1 (.inr z.symm)), I.lm.fr f fun b h z => n2 (z ▸ h), f.t I.tb, I.lh, fun b hb => ?_⟩
  obtain ⟨⟨u, h, t⟩, n⟩ := I.gl b hb
  by_cases e : b = x
  · exact ⟨⟨o, by rw [e, upd_same], nt⟩, n⟩
  · exact ⟨⟨u, by rw [upd_ne e]; exact h, t⟩, n⟩
/-- something new is kept, too -/
theorem LawG.add (I : LawG K H ah ac ad M G) (hx : H x = none) (nt : notTbl o) : LawG K (upd H x o) ah ac ad M (fun b => b = x ∨ G b) := by
  have J := I.same (Same.new (o := o) hx)
  refine ⟨J.hs, J.lm, J.tb, J.lh, fun b hb => ?_⟩
  rcases hb with rfl | hb
  · exact ⟨⟨o, upd_same, nt⟩, fun z => HS.nn I.hs z hx, fun z => LF.nn I.lm z hx⟩
  · exact J.gl b hb
theorem LawG.plus (I : LawG K H ah ac ad M G) (n : ∀ b, G' b → (∃ o, H b = some o ∧ notTbl o) ∧ ¬ FH ah ac b ∧ ¬ LF ad M b) : LawG K H ah ac ad M (fun b => G' b ∨ G b) :=
  ⟨I.hs, I.lm, I.tb, I.lh, fun b hb => hb.elim (n b) (I.gl b)⟩
/-- what came behind an earlier heap is kept, too -/
theorem LawG.news {H0 : Hp} (I0 : LawG K H0 ah ac ad M G) (I : LawG K H ah ac ad M G) (n : ∀ b, G' b → (∃ o, H b = some o ∧ notTbl o) ∧ H0 b = none) : LawG K H ah ac ad M (fun b => G' b ∨ G b) :=
  I.plus fun b g => ⟨(n b g).1, fun z => HS.nn I0.hs z (n b g).2, fun z => LF.nn I0.lm z (n b g).2⟩
theorem LawG.sub (I : LawG K H ah ac ad M G) (h : ∀ b, G' b → G b) : LawG K H ah ac ad M G' := ⟨I.hs, I.lm, I.tb, I.lh, fun b g => I.gl b (h b g)⟩
theorem LawG.start {H1 : Hp} (hs : HS H ah ac) (tb : LamX.Tabs (TTs K) H) (s : Same H H1) (L : LM K H1 ad M) (hn : ∀ b, LF ad M b → H b = none) : LawG K H1 ah ac ad M (fun _ => False) :=
  ⟨hs.same s, L, tb.ext s, fun b h z => HS.nn hs z (hn b h), fun b g => g.elim⟩
end
/-- photos whose lists are known -/
theorem PhR.lists {N : Addr → Prop} {H : Hp} {v : V} {M : HM} (h : PhR N H v M) : PhR (fun b => N b ∧ ∃ xs, H b = some (.lst xs)) H v M := by
  obtain ⟨p, n, r, ns, rows, e, h1, h2, h3, h4, h5, h6, h7⟩ := h
  exact ⟨p, n, r, ns, rows, e, h1, ⟨h2, _, h4⟩, ⟨h3, _, h6⟩, h4, h5, h6, Paired.mapP h7 fun _ _ ⟨t, et, pl, ps, a1, a2, a3, a4⟩ => ⟨t, et, pl, ps, a1, ⟨a2, _, a3⟩, a3, a4⟩⟩
/-- a pair of lists of the same deeds -/
theorem y_neProg2 {H : Hp} {Q : VK} {t1 t2 l1 l2 m1 m2 : Addr} {ps qs us vs : List Addr} {ds es : List Deed} (k1 : H t1 = some (.tup [.ref l1, .ref m1])) (k2 : H t2 = some (.tup [.ref l2, .ref m2])) (h1 : PL H l1 ps ds) (h2 : PL H l2 qs ds) (g1 : PL H m1 us es) (g2 : PL H m2 vs es) (q : Q (.bl false) H) : rNeD K (.ref t1) (.ref t2) H Q := by
  have ly : PyData.canLay0 (.tuple [.list (ds.map deedD), .list (es.map deedD)]) = true := layAll_cons (lay_prog h1.good) (layAll_cons (lay_prog g1.good) rfl)
  have sh : SeqAt.shaped (.tuple [.list (ds.map deedD), .list (es.map deedD)]) = true := by
    unfold SeqAt.shaped
    rw [ly]
    have : PyData.depth (.tuple [.list (ds.map deedD), .list (es.map deedD)]) ≤ 64 := by
      show max (PyData.depthAll (ds.map deedD) + 1) (max (PyData.depthAll (es.map deedD) + 1) 0) + 1 ≤ 64
      have := depth_prog (ds := ds)
      have := depth_prog (ds := es)
      omega
    rw [decide_eq_true this]
    rfl
  exact ⟨_, _, .tup (sqT k1) (.cons (dp_prog h1) (.cons (dp_prog g1) .nil)), .tup (sqT k2) (.cons (dp_prog h2) (.cons (dp_prog g2) .nil)), sh, sh, by rw [SeqAt.eqv_refl _ ly]; exact q⟩
end

/-! ### the law's _law_link -/
section
variable {P : Program} {w : World} {K : PySem.W.Frag} {mg : Str → Option Value} {base : Heap}
end

/-! ### the law's programs by which things hold one another, and their photos -/
section
variable {P : Program} {w : World} {K : PySem.W.Frag} {mg : Str → Option Value} {base : Heap}
theorem frT {H H1 H2 : Hp} {F G : Addr → Prop} (f : Fr K F H H1) (g : Fr K G H1 H2) (s : ∀ b, G b → F b ∨ orTbl H b) : Fr K F H H2 :=
  ⟨fun b o e n t => g.k b o (f.k b o e n t) (fun z => (s b z).elim n fun q => q.ne e t rfl) t, fun b xs e => g.i b xs (f.i b xs e), fun b dx fs e => g.r b dx fs (f.r b dx fs e), fun t => g.t (f.t t)⟩
theorem orB {H H1 : Hp} {F : Addr → Prop} {x : Addr} (f : Fr K F H H1) (h : orTbl H1 x) : F x ∨ orTbl H x := by
  by_cases c : F x
  · exact .inl c
  · refine .inr fun o e => ?_
    cases o with
    | tbl qs => exact ⟨qs, rfl⟩
    | _ =>
      obtain ⟨qs, z⟩ := h _ (f.k _ _ e c trivial)
      cases z
/-- a program that was linked, and the law's heap behind it -/
structure LkI (K : PySem.W.Frag) (H : Hp) (ah ac l : Addr) (ad : Nat → Addr) (ps : List Addr) (ds : List Deed) : Prop where
  g : LawG K H ah ac ad (stF HM0 ds) (fun b => b = l)
  pl : PL H l ps ds
theorem LkI.draw {H H' : Hp} {ah ac l : Addr} {ad : Nat → Addr} {ps : List Addr} {ds : List Deed} (I : LkI K H ah ac l ad ps ds) (hs : HS H' ah ac) (f : Fr K (FH ah ac) H H') : LkI K H' ah ac l ad ps ds := ⟨I.g.draw hs f, I.pl.fr f (I.g.gl l rfl).2.1⟩
theorem LkI.nof {H H' : Hp} {ah ac l : Addr} {ad : Nat → Addr} {ps : List Addr} {ds : List Deed} (I : LkI K H ah ac l ad ps ds) (f : Fr K NoF H H') : LkI K H' ah ac l ad ps ds := ⟨I.g.nof f, I.pl.fr f fun z => z⟩
theorem LkI.ok {H : Hp} {ah ac l : Addr} {ad : Nat → Addr} {ps : List Addr} {ds : List Deed} (I : LkI K H ah ac l ad ps ds) : (stF HM0 ds).Ok ∧ (stF HM0 ds).made ≤ ds.length := by
  have h := stF_ok (ds := ds) HM0_ok I.pl.good
  have : HM0.made = 0 := rfl
  exact ⟨h.1, by omega⟩
/-- a deed more: put behind the program, done -/
theorem LkI.step {H H2 : Hp} {ah ac l : Addr} {ad ad2 : Nat → Addr} {ps : List Addr} {ds : List Deed} {r : Addr} {d : Deed} (I : LkI K H ah ac l ad ps ds) (gd : Good d) (hr : H r = some (.tup (deedV d)))
    (L2 : LM K H2 ad2 (doM (stF HM0 ds) d).2) (nw : New (upd H l (.lst ((ps ++ [r]).map V.ref))) (LF ad (stF HM0 ds)) (LF ad2 (doM (stF HM0 ds) d).2)) (f : Fr K (LF ad (stF HM0 ds)) (upd H l (.lst ((ps ++ [r]).map V.ref))) H2) : LkI K H2 ah ac l ad2 (ps ++ [r]) (ds ++ [d]) := by
  have g1 := I.g.other (x := l) (o := .lst ((ps ++ [r]).map V.ref)) rfl (by rw [I.pl.1]; trivial) trivial
  have fl : Fr K (fun b => b = l) H (upd H l (.lst ((ps ++ [r]).map V.ref))) := Fr.upd rfl (by rw [I.pl.1]; trivial)
  have hl : upd H l (.lst ((ps ++ [r]).map V.ref)) l = some (.lst ((ps ++ [r]).map V.ref)) := upd_same
  have pl1 : Paired (fun (p : Addr) (d : Deed) => upd H l (.lst ((ps ++ [r]).map V.ref)) p = some (.tup (deedV d)) ∧ Good d) (ps ++ [r]) (ds ++ [d]) := Paired.app (Paired.mapP I.pl.2 fun _ _ z => ⟨fl.i _ _ z.1, z.2⟩) ⟨fl.i _ _ hr, gd⟩
  have e := stF_snoc (M := HM0) (ds := ds) (d := d)
  refine ⟨by rw [e]; exact g1.law L2 nw f, f.lst hl (g1.gl l rfl).2.2, Paired.mapP pl1 fun _ _ z => ⟨f.i _ _ z.1, z.2⟩⟩
abbrev spLinked (K : PySem.W.Frag) : Sp := Sp2 fun x y H Q => ∃ (ah ac : Addr) (mx : Int), x = .ref ah ∧ y = .int mx ∧ HS H ah ac ∧ LamX.Tabs (TTs K) H ∧ 0 ≤ mx ∧ mx ≤ 400 ∧
  ∀ (t l : Addr) (ad : Nat → Addr) (ps : List Addr) (ds : List Deed) (H' : Hp), H' t = some (.tup [.ref l, .ref (ad 0)]) → LkI K H' ah ac l ad ps ds → (ds.length : Int) ≤ mx → Fr K (FH ah ac) H H' → orTbl H l → (∀ b, LF ad (stF HM0 ds) b → orTbl H b) → Q (.ref t) H'
abbrev spShown (K : PySem.W.Frag) : Sp := Sp1 fun x H Q => ∃ (l : Addr) (ps : List Addr) (ds : List Deed), x = .ref l ∧ PL H l ps ds ∧ ds.length ≤ 900 ∧
  ∀ (v : V) (H' : Hp), Fr K NoF H H' → PhR (orTbl H) H' v (stF HM0 ds) → Q v H'
end

/-! ### the law's _law_without, _law_keeps -/
section
structure NInv (M : HM) (n : Nat) (found left : List Nat) : Prop where
  sf : ∀ x ∈ found, M.RN n x
  sl : ∀ x ∈ left, x ≠ n → M.RN n x
  lt : ∀ x ∈ left, x < M.made
  root : ∀ x, M.root x → x ∈ found ∨ x ∈ left ∨ x = n
  step : ∀ x ∈ found, ∀ j, M.holds x j → j ∈ found ∨ j ∈ left ∨ j = n
  nd : found.Nodup
variable {M : HM} {n x : Nat} {found left : List Nat} {t : Th}
theorem NInv.done (i : NInv M n found []) : ∀ x, x ∈ found ↔ M.RN n x := fun x =>
  ⟨fun m => i.sf x m, fun h => by
    induction h with
    | base h ne => exact (i.root _ h).elim id fun z => z.elim (fun z => by cases z) fun z => absurd z ne
    | step _ e ne ih => exact (i.step _ ih _ e).elim id fun z => z.elim (fun z => by cases z) fun z => absurd z ne⟩
theorem NInv.skip (i : NInv M n found (left ++ [x])) (m : x ∈ found ∨ x = n) : NInv M n found left := by
  have f : ∀ y, (y ∈ found ∨ y ∈ left ++ [x] ∨ y = n) → y ∈ found ∨ y ∈ left ∨ y = n := fun y z => by
    rcases z with z | z | z
    · exact .inl z
    · rcases List.mem_append.mp z with z | z
      · exact .inr (.inl z)
      · rw [List.mem_singleton] at z; exact m.elim (fun m => .inl (z ▸ m)) fun m => .inr (.inr (z.trans m))
    · exact .inr (.inr z)
  exact ⟨i.sf, fun y z => i.sl y (List.mem_append.mpr (.inl z)), fun y z => i.lt y (List.mem_append.mpr (.inl z)), fun y h => f y (i.root y h), fun y m j e => f j (i.step y m j e), i.nd⟩
theorem NInv.take (ok : M.Ok) (i : NInv M n found (left ++ [x])) (m : x ∉ found) (ne : x ≠ n) (e : M.things x = some t) : NInv M n (found ++ [x]) (left ++ outs (partsOf t)) := by
  have rx := i.sl x (List.mem_append.mpr (.inr (List.mem_singleton.mpr rfl))) ne
  have f : ∀ y, (y ∈ found ∨ y ∈ left ++ [x] ∨ y = n) → y ∈ found ++ [x] ∨ y ∈ left ++ outs (partsOf t) ∨ y = n := fun y z => by
    rcases z with z | z | z
    · exact .inl (List.mem_append.mpr (.inl z))
    · rcases List.mem_append.mp z with z | z
      · exact .inr (.inl (List.mem_append.mpr (.inl z)))
      · exact .inl (List.mem_append.mpr (.inr z))
    · exact .inr (.inr z)
  have ho : ∀ y, y ∈ outs (partsOf t) → M.holds x y := fun y z => by
    obtain ⟨p, mp⟩ := outs_mem.mp (outs_parts.mp z)
    exact ⟨t, e, p, mp⟩
  refine ⟨fun y z => ?_, fun y z yn => ?_, fun y z => ?_, fun y h => f y (i.root y h), fun y z j h => ?_, ?_⟩
  · rcases List.mem_append.mp z with z | z
    · exact i.sf y z
    · rw [List.mem_singleton] at z; exact z ▸ rx
  · rcases List.mem_append.mp z with z | z
    · exact i.sl y (List.mem_append.mpr (.inl z)) yn
    · exact .step rx (ho y z) yn
  · rcases List.mem_append.mp z with z | z
    · exact i.lt y (List.mem_append.mpr (.inl z))
    · obtain ⟨t', e', p, mp⟩ := ho y z
      exact (ok.th _ _ e').av p _ mp
  · rcases List.mem_append.mp z with z | z
    · exact f j (i.step y z j h)
    · rw [List.mem_singleton] at z
      subst z
      obtain ⟨t', e', p, mp⟩ := h
      rw [e] at e'
      cases e'
      exact .inr (.inl (List.mem_append.mpr (.inr (outs_parts.mpr (outs_mem.mpr ⟨p, mp⟩)))))
  · rw [List.nodup_append]
    refine ⟨i.nd, by simp, fun a ha b hb => ?_⟩
    rw [List.mem_singleton] at hb
    subst hb
    exact fun z => m (z ▸ ha)
theorem RN_lt (ok : M.Ok) (h : M.RN n x) : x < M.made := RC_lt ok (root_lt ok) (RN.reach h)
end
section
variable {P : Program} {w : World} {K : PySem.W.Frag} {mg : Str → Option Value} {base : Heap}
abbrev spWithout (K : PySem.W.Frag) : Sp := Sp2 fun x y H Q => ∃ (ad : Nat → Addr) (M : HM) (n : Nat), x = .ref (ad 0) ∧ y = .int (n : Int) ∧ LM K H ad M ∧ M.Ok ∧ LamX.Tabs (TTs K) H ∧
  ∀ (r : Addr) (found : List Nat) (H' : Hp), Fr K NoF H H' → orTbl H r → H' r = some (.lst (intsV found)) → (∀ x, x ∈ found ↔ M.RN n x) → found.length ≤ M.made → Q (.ref r) H'
/-- dicts of lists of numbers, by numbers -/
structure KdR (H : Hp) (d : Addr) (ks : List Nat) (la : Nat → Addr) (f : Nat → List Nat) : Prop where
  hd : H d = some (.dK (ks.map fun (k : Nat) => ((.inl (k : Int) : Key), V.ref (la k))))
  hl : ∀ k ∈ ks, H (la k) = some (.lst (intsV (f k)))
theorem KdR.nof {H H' : Hp} {d : Addr} {ks : List Nat} {la : Nat → Addr} {f : Nat → List Nat} (h : KdR H d ks la f) (fr : Fr K NoF H H') : KdR H' d ks la f := ⟨fr0_dK fr h.hd, fun k m => fr0_lst fr (h.hl k m)⟩
theorem KdR.get {H : Hp} {d : Addr} {ks : List Nat} {la : Nat → Addr} {f : Nat → List Nat} (h : KdR H d ks la f) {k : Nat} (m : k ∈ ks) : valV (ks.map fun (k : Nat) => ((.inl (k : Int) : Key), V.ref (la k))) (.inl (k : Int)) = some (.ref (la k)) := by
  clear h
  induction ks with
  | nil => cases m
  | cons a ks ih =>
    rw [List.map_cons]
    by_cases c : a = k
    · subst c; exact valV_pos rfl
    · rw [valV_neg fun z => c (by have := Sum.inl.inj z; omega)]
      exact ih ((List.mem_cons.mp m).resolve_left fun z => c z.symm)
theorem kd_none {ks : List Nat} {la : Nat → Addr} {k : Nat} (m : k ∉ ks) : valV (ks.map fun (k : Nat) => ((.inl (k : Int) : Key), V.ref (la k))) (.inl (k : Int)) = none := by
  induction ks with
  | nil => rfl
  | cons a ks ih =>
    rw [List.map_cons, valV_neg fun z => m (by have := Sum.inl.inj z; have : a = k := by omega
                                               simp [this])]
    exact ih fun z => m (List.mem_cons_of_mem _ z)
abbrev spLKeeps (K : PySem.W.Frag) : Sp := Sp1 fun x H Q => ∃ (ad : Nat → Addr) (M : HM), x = .ref (ad 0) ∧ LM K H ad M ∧ M.Ok ∧ LamX.Tabs (TTs K) H ∧
  ∀ (d : Addr) (la : Nat → Addr) (H' : Hp), Fr K NoF H H' → orTbl H d → (∀ k ∈ reachL M, orTbl H (la k)) → KdR H' d (reachL M) la (keepN M) → Q (.ref d) H'
end

/-! ### masters, total, totals of photos -/
section
open Classical
noncomputable def mB (nm : List AV) (rw : List PRow) (n x : Int) : Bool := decide (x ≠ n ∧ DomG (gE nm rw) x n ∧ ∀ d ∈ keyL rw, d ≠ n → DomG (gE nm rw) d n → DomG (gE nm rw) d x)
theorem mB_iff {nm : List AV} {rw : List PRow} {n x : Int} : mB nm rw n x = true ↔ (x ≠ n ∧ DomG (gE nm rw) x n ∧ ∀ d ∈ keyL rw, d ≠ n → DomG (gE nm rw) d n → DomG (gE nm rw) d x) := decide_eq_true_iff
noncomputable def mast (nm : List AV) (rw : List PRow) (n : Int) : Option Int := (keyL rw).find? (mB nm rw n)
variable {nm : List AV} {rw : List PRow} {fv : List (Int × Int)}
theorem keyL_nt (pk : PhK nm rw) : (-1 : Int) ∉ keyL rw := by
  have := pk.g.nd.2
  rw [gs_keys] at this
  exact this
theorem keyL_gw (pk : PhK nm rw) {x : Int} : x ∈ (gwOf nm rw).map (·.1) ↔ x = -1 ∨ x ∈ keyL rw := by rw [pk.g.kk, gs_keys, List.mem_cons]
theorem mast_of (pk : PhK nm rw) (ma : MaOk (gwOf nm rw) fv) {n x : Int} (hn : n ∈ keyL rw) (h : lkI fv n = some x) : mast nm rw n = if x = -1 then none else some x := by
  obtain ⟨S, rk, kid, D, hS⟩ := ma.kid pk.g
  have dm : ∀ d m, m ∈ keyL rw → (An (lkI fv) d m ↔ DomG (gE nm rw) d m) := fun d m hm => ma.dom d m ((keyL_gw pk).mpr (.inr hm))
  have nn : n ≠ -1 := fun z => keyL_nt pk (z ▸ hn)
  have lx := (kid.F.fup _ _ nn h).2.1
  have xn : x ≠ n := fun z => by rw [z] at lx; omega
  have up : ∀ d, d ≠ n → An (lkI fv) d n → An (lkI fv) d x := fun d ne a => by
    obtain ⟨y, _, e, a⟩ := a.proper ne
    rw [h] at e; cases e; exact a
  unfold mast
  split
  · rename_i c
    subst c
    refine List.find?_eq_none.mpr fun y hy z => ?_
    obtain ⟨z1, z2, _⟩ := mB_iff.mp z
    have a := up y z1 ((dm y n hn).mpr z2)
    cases a with
    | refl => exact keyL_nt pk hy
    | up z _ _ => exact z rfl
  · rename_i c
    have xk : x ∈ keyL rw := by
      have := (hS x).mp (kid.F.fup _ _ nn h).1
      exact ((keyL_gw pk).mp this).resolve_left c
    have mx : mB nm rw n x = true := decide_eq_true ⟨xn, (dm x n hn).mp (.up nn h .refl), fun d _ ne z => (dm d x xk).mp (up d ne ((dm d n hn).mpr z))⟩
    cases e : (keyL rw).find? (mB nm rw n) with
    | none => exact absurd mx (List.find?_eq_none.mp e x xk)
    | some y =>
      obtain ⟨y1, y2, y3⟩ := mB_iff.mp (List.find?_some e)
      have yk := List.mem_of_find?_eq_some e
      have a1 := up y y1 ((dm y n hn).mpr y2)
      have a2 := (dm x y yk).mpr (y3 x xk xn ((dm x n hn).mp (.up nn h .refl)))
      rw [a1.anti kid.F a2]
def oV : Option Int → V
  | none => .non
  | some x => .int x
def MrR (H : Hp) (p : Addr) (z : Int × Option Int) : Prop := H p = some (.tup [.int z.1, oV z.2])
def TrR (H : Hp) (p : Addr) (z : Int × Int) : Prop := H p = some (.tup [.int z.1, .int z.2])
noncomputable def mastL (nm : List AV) (rw : List PRow) : List (Int × Option Int) := (keyL rw).map fun n => (n, mast nm rw n)
noncomputable def totPL (nm : List AV) (rw : List PRow) : List (Int × Int) := (keyL rw).map fun n => (n, totP nm rw n)
theorem totL_eq : totL (gsOf rw) (gwOf nm rw) = totPL nm rw := by
  unfold totL totPL
  rw [gs_keys]
  unfold totP keyL gsOf gE
  rw [List.map_map, List.map_map]
  rfl
theorem totPL_lk {n : Int} (hn : n ∈ keyL rw) : lkI (totPL nm rw) n = some (totP nm rw n) := by
  rw [← totL_eq]
  unfold totL
  rw [lk_gs (gs := gsOf rw) (h := fun n => totG (EW (Wof (gwOf nm rw))) (szOf (gsOf rw)) ((gsOf rw).map (·.1)) n) (by rw [gs_keys]; exact hn), gs_keys]
  rfl
theorem top_rise (pk : PhK nm rw) : (-1 :: keyL rw).Pairwise (· < ·) := by
  refine List.pairwise_cons.mpr ⟨fun x hx => ?_, pk.srt⟩
  unfold keyL at hx
  obtain ⟨z, _, rfl⟩ := List.mem_map.mp hx
  omega
end
section
variable {P : Program} {w : World} {K : PySem.W.Frag} {mg : Str → Option Value} {base : Heap}
abbrev spTotal (K : PySem.W.Frag) : Sp := Sp2 fun x y H Q => ∃ (nm : List AV) (rw : List PRow) (n : Int), PhG H x nm rw ∧ PhK nm rw ∧ y = .int n ∧ n ∈ keyL rw ∧
  ∀ (H' : Hp), Same H H' → Q (.int (totP nm rw n)) H'
abbrev spTotals (K : PySem.W.Frag) : Sp := Sp1 fun x H Q => ∃ (nm : List AV) (rw : List PRow), PhG H x nm rw ∧ PhK nm rw ∧
  ∀ (l : Addr) (ps : List Addr) (H' : Hp), Same H H' → H l = none → (∀ p ∈ ps, H p = none) → H' l = some (.lst (ps.map V.ref)) → Paired (TrR H') ps (totPL nm rw) → Q (.ref l) H'
theorem cal_totals (T : Tx w K mg base) : Cal P w K mg base 4 "totals" (spTotals K) [] := by
  obtain ⟨fd, F⟩ := T.fn_totals
  refine cal_of F T.g_totals sc_totals (F.bindsN fun _ _ _ _ _ _ us hl => match us, hl with | [_], _ => rfl) (fun vs H Q E h => h.len) (fun cdv A outer s H vs Q E hr h => ?_)
  obtain ⟨x, rfl, nm, rws, ph, pk, q⟩ := h
  have hu := hu_of hr
  have nd := sc_totals.nd
  refine ⟨_, (pss_cons (ps_set (i := 1) nd rfl (Or.inr rfl) (pe_mt0 (met_Graph_totals T) hr (by decide) (pe_mk (mak_Graph T) hr (by decide) (by rfl) (pa_cons (pv 0) pa_nil)))) (pss_one (ps_ret (pe_lc (own := [("number", 2)]) (by rfl) nd (pi_list (pe_callB (call_sortedDN rfl) (by rfl) T.n_sorted (by decide +kernel) (pa_cons (pv 1) pa_nil))) (blkOk_by (own := [("number", 2)]) (N := N_totals) (sc := (C8.fnScope s_totals)) (by decide +kernel)) (fun _ _ _ _ _ => (pg_name (i := 2) nd rfl (Or.inl rfl))) (fun _ _ _ _ _ => pts_nil) (fun _ _ _ _ _ => (pe_tup (pa_cons (pv 2) (pa_cons (pe_dget hu (pv 1) (pv 2) (fun _ _ => rfl)) pa_nil)))))))), ?_⟩
  walk_at "sx"
  refine x_graph ph pk.ok fun a H1 s1 ha G => ?_
  have g := pk.g
  obtain ⟨dx, sz, wy, kvs, ga1, gsz1, gwy, _⟩ := G.way g.gok
  walk_at "rx"
  refine ⟨a, _, _, rfl, G, g, fun d H2 s2 d0 hd => ?_⟩
  rw [totL_eq] at hd
  walk_at "rx"
  refine ⟨d, _, keyL rws, rfl, .inl hd, ?_, fun ys p pm sr hp => ?_⟩
  · unfold szK totPL; rw [List.map_map, List.map_map]; rfl
  have := srt_eq pk.srt pm sr
  subst this
  have s3 := s2.trans (Same.new (o := .lst ((keyL rws).map V.int)) hp)
  have p3 : upd H2 p (.lst ((keyL rws).map V.int)) p = some (.lst ((keyL rws).map V.int)) := upd_same
  have d3 := Same.new (o := .lst ((keyL rws).map V.int)) hp _ _ hd
  have s13 := s1.trans s3
  generalize upd H2 p (.lst ((keyL rws).map V.int)) = H3 at s3 p3 d3 s13 ⊢
  have lk8 : (keyL rws).length ≤ 8000 := by unfold keyL; rw [List.length_map]; exact pk.ok.lr
  refine y_iL (sqL p3) ?_
  refine y_lcL (xs := (keyL rws).map V.int) (fun D i acc H' => Same H3 H' ∧ ∃ ps : List Addr, acc = ps.map V.ref ∧ Paired (TrR H') ps ((totPL nm rws).take i) ∧ ∀ p ∈ ps, H p = none) (fun D hD => ⟨Same.new hD, [], rfl, .nil, fun p m => by cases m⟩) (fun D i acc H' hD _ h => sqL (h.1 _ _ p3)) ?_ ?_
  · rintro D i y acc H4 hD hi hDl hle ⟨s4, ps, rfl, pr, fr⟩
    rw [List.getElem?_map] at hi
    obtain ⟨m, hm, rfl⟩ := Option.map_eq_some_iff.mp hi
    have il := (List.getElem?_eq_some_iff.mp hm).1
    have mk := List.mem_of_getElem? hm
    have d4 := s4 _ _ d3
    refine y_turn ?_
    walk_at "rx"
    refine ⟨rfl, y_yes (y_tt ?_)⟩
    walk_at "rx"
    refine y_dgetI d4 (v := .int (totP nm rws m)) (by rw [szK_lk, totPL_lk mk]; rfl) ?_
    walk_at "rx"
    intro tp htp
    have s5 := Same.new (o := .tup [.int m, .int (totP nm rws m)]) htp
    have hD5 := s5 _ _ hDl
    have t5 : upd H4 tp (.tup [.int m, .int (totP nm rws m)]) tp = some (.tup [.int m, .int (totP nm rws m)]) := upd_same
    have p5 : Paired (TrR (upd H4 tp (.tup [.int m, .int (totP nm rws m)]))) ps ((totPL nm rws).take i) := Paired.mapP pr fun _ _ z => s5 _ _ z
    have f5 := same_none s13 (same_none s4 htp)
    generalize upd H4 tp (.tup [.int m, .int (totP nm rws m)]) = H5 at s5 hD5 t5 p5 ⊢
    refine y_put hD5 hle (by omega) ⟨same_fresh (s4.trans s5) hD, ps ++ [tp], by rw [List.map_append]; rfl, ?_, fun p m => ?_⟩
    · have tp4 : Tups H5 (upd H5 D (.lst (ps.map V.ref ++ [V.ref tp]))) := fun p xs e => by rw [upd_ne fun z => by rw [z, hD5] at e; cases e]; exact e
      rw [take_snoc (show (totPL nm rws)[i]? = some (m, totP nm rws m) by unfold totPL; rw [List.getElem?_map, hm]; rfl)]
      exact Paired.app (Paired.mapP p5 fun _ _ z => tp4 _ _ z) (tp4 _ _ t5)
    · rcases List.mem_append.mp m with m | m
      · exact fr p m
      · rw [List.mem_singleton] at m; exact m ▸ f5
  · rintro D acc H4 hD hDl ⟨s4, ps, rfl, pr, fr⟩
    rw [List.take_of_length_le (by unfold totPL; rw [List.length_map, List.length_map]; exact Nat.le_refl _)] at pr
    walk_at "rx"
    exact q D ps H4 (s13.trans s4) (same_none s13 hD) fr hDl pr
abbrev spMastersF (K : PySem.W.Frag) : Sp := Sp1 fun x H Q => ∃ (nm : List AV) (rw : List PRow), PhG H x nm rw ∧ PhK nm rw ∧
  ∀ (l : Addr) (ps : List Addr) (H' : Hp), Same H H' → H l = none → (∀ p ∈ ps, H p = none) → H' l = some (.lst (ps.map V.ref)) → Paired (MrR H') ps (mastL nm rw) → (∃ fv, MaOk (gwOf nm rw) fv) → Q (.ref l) H'
end

/-! ### the nearest of the other things that keep one -/
section
variable {E : Int → Int → Prop} {a b c n x : Int}
theorem avs_ne (h : AvS E a n) : n ≠ a := by
  cases h with
  | top h => exact fun z => h z.symm
  | step _ _ h => exact h
theorem avs_top (h : AvS E (-1) x) : False := by
  induction h with
  | top h => exact h rfl
  | step _ _ _ ih => exact ih
theorem avs_thru (h : AvS E a c) (g : DomG E b c) (nb : b ≠ -1) : AvS E a b := by
  induction h with
  | top h => exact absurd (.top nb) g
  | @step p n u e ne ih =>
    by_cases z : n = b
    · exact z ▸ .step u e ne
    · exact ih fun y => g (.step y e z)
theorem dom_refl : DomG E a a := fun h => avs_ne h rfl
theorem dom_trans (h : DomG E a b) (g : DomG E b c) (nb : b ≠ -1) : DomG E a c := fun z => h (avs_thru z g nb)
theorem dom_lin (h1 : AvS E b a) (h2 : AvS E a b) (r : RchG E x) : AvS E a x ∨ AvS E b x := by
  induction r with
  | top => exact .inl (.top fun z => by subst z; exact avs_top h2)
  | @step p n _ e ih =>
    by_cases ca : n = a
    · exact .inr (ca ▸ h1)
    by_cases cb : n = b
    · exact .inl (cb ▸ h2)
    · exact ih.imp (fun h => .step h e ca) (fun h => .step h e cb)
theorem dom_sep (na : a ≠ -1) (nb : b ≠ -1) (ne : a ≠ b) (r : RchG E x) : (AvS E a x ∧ AvS E b x) ∨ AvS E a b ∨ AvS E b a := by
  induction r with
  | top => exact .inl ⟨.top na, .top nb⟩
  | @step p n _ e ih =>
    rcases ih with ⟨h1, h2⟩ | h
    · by_cases ca : n = a
      · subst ca; exact .inr (.inr (.step h2 e ne))
      · by_cases cb : n = b
        · subst cb; exact .inr (.inl (.step h1 e ca))
        · exact .inl ⟨.step h1 e ca, .step h2 e cb⟩
    · exact .inr h
theorem dom_anti (na : a ≠ -1) (nb : b ≠ -1) (r : RchG E a) (h : DomG E a b) (g : DomG E b a) : a = b := by
  refine Classical.byContradiction fun ne => ?_
  rcases dom_sep na nb ne r with ⟨z, _⟩ | z | z
  · exact avs_ne z rfl
  · exact h z
  · exact g z
theorem list_max {α : Type} {R : α → α → Prop} : ∀ {l : List α}, l ≠ [] → (∀ a ∈ l, R a a) → (∀ a ∈ l, ∀ b ∈ l, R a b ∨ R b a) → (∀ a ∈ l, ∀ b ∈ l, ∀ c ∈ l, R a b → R b c → R a c) → ∃ m ∈ l, ∀ x ∈ l, R x m
  | [], h, _, _, _ => absurd rfl h
  | [a], _, rf, _, _ => ⟨a, List.mem_cons_self .., fun x m => by rw [List.mem_singleton] at m; exact m ▸ rf a (List.mem_cons_self ..)⟩
  | a :: b :: l, _, rf, li, tr => by
    obtain ⟨m, hm, h⟩ := list_max (l := b :: l) (by simp) (fun x h => rf x (List.mem_cons_of_mem _ h)) (fun x h y g => li x (List.mem_cons_of_mem _ h) y (List.mem_cons_of_mem _ g)) (fun x h y g z f => tr x (List.mem_cons_of_mem _ h) y (List.mem_cons_of_mem _ g) z (List.mem_cons_of_mem _ f))
    rcases li a (List.mem_cons_self ..) m (List.mem_cons_of_mem _ hm) with z | z
    · exact ⟨m, List.mem_cons_of_mem _ hm, fun x hx => (List.mem_cons.mp hx).elim (fun e => e ▸ z) (h x)⟩
    · exact ⟨a, List.mem_cons_self .., fun x hx => (List.mem_cons.mp hx).elim (fun e => e ▸ rf a (List.mem_cons_self ..)) fun hx => tr x (List.mem_cons_of_mem _ hx) m (List.mem_cons_of_mem _ hm) a (List.mem_cons_self ..) (h x hx) z⟩
theorem one_list {α : Type} {l : List α} {m : α} (nd : l.Nodup) (h : m ∈ l) (a : ∀ x ∈ l, x = m) : l = [m] := by
  cases l with
  | nil => cases h
  | cons x l =>
    cases l with
    | nil => rw [a x (List.mem_cons_self ..)]
    | cons y l =>
      have h1 := a x (List.mem_cons_self ..)
      have h2 := a y (List.mem_cons_of_mem _ (List.mem_cons_self ..))
      rw [List.nodup_cons] at nd
      exact absurd (show x ∈ y :: l by rw [h1, h2]; exact List.mem_cons_self ..) nd.1
end
section
variable {M : HM} {n k x : Nat}
theorem mem_keepN (ok : M.Ok) : x ∈ keepN M k ↔ x ∈ reachL M ∧ DomG (gE (nmM M) (rwM M)) (k : Int) (x : Int) := by
  classical
  unfold keepN
  rw [List.mem_filter]
  refine and_congr Iff.rfl ?_
  rw [decide_eq_true_iff]
  exact not_congr (avs_RN ok).symm
noncomputable def someN (M : HM) (f : Nat → List Nat) (n : Nat) : List Nat := (reachL M).filter fun k => decide (k ≠ n) && decide (n ∈ f k)
def nearL (f : Nat → List Nat) (l : List Nat) : List Nat := l.filter fun k => decide (l.filter (fun o => !decide (k ∈ f o)) = [])
def oN : Option Nat → V
  | none => .non
  | some k => .int (k : Int)
theorem mem_someN {f : Nat → List Nat} : x ∈ someN M f n ↔ x ∈ reachL M ∧ x ≠ n ∧ n ∈ f x := by
  unfold someN
  rw [List.mem_filter, Bool.and_eq_true, decide_eq_true_iff, decide_eq_true_iff]
theorem mem_nearL {f : Nat → List Nat} {l : List Nat} : x ∈ nearL f l ↔ x ∈ l ∧ ∀ o ∈ l, x ∈ f o := by
  unfold nearL
  rw [List.mem_filter, decide_eq_true_iff, List.filter_eq_nil_iff]
  refine and_congr Iff.rfl (forall_congr' fun o => imp_congr Iff.rfl ?_)
  simp
theorem reach_nd : (reachL M).Nodup := reach_srt.imp fun h => Nat.ne_of_lt h
theorem mem_keyM {x : Int} : x ∈ keyL (rwM M) ↔ ∃ k ∈ reachL M, x = (k : Int) := by
  rw [keyL_M, List.mem_map]
  exact exists_congr fun k => and_congr Iff.rfl ⟨Eq.symm, Eq.symm⟩
theorem rch_M (ok : M.Ok) (sm : M.made ≤ 8000) (h : n ∈ reachL M) : RchG (gE (nmM M) (rwM M)) (n : Int) := (PhK_M ok sm).g.rch _ (by rw [gw_keys]; exact List.mem_cons_of_mem _ (List.mem_map.mpr ⟨n, h, rfl⟩))
/-- where others keep it there is just one nearest, the master -/
theorem near_ok (ok : M.Ok) (sm : M.made ≤ 8000) (hn : n ∈ reachL M) : (someN M (keepN M) n = [] ∧ nearL (keepN M) (someN M (keepN M) n) = [] ∧ mast (nmM M) (rwM M) n = none) ∨ (someN M (keepN M) n ≠ [] ∧ ∃ m : Nat, nearL (keepN M) (someN M (keepN M) n) = [m] ∧ mast (nmM M) (rwM M) n = some (m : Int)) := by
  have key : ∀ y : Int, y ∈ keyL (rwM M) → mB (nmM M) (rwM M) n y = true → ∃ k : Nat, y = k ∧ k ∈ nearL (keepN M) (someN M (keepN M) n) := fun y hy h => by
    obtain ⟨k, hk, rfl⟩ := mem_keyM.mp hy
    obtain ⟨h1, h2, h3⟩ := mB_iff.mp h
    refine ⟨k, rfl, mem_nearL.mpr ⟨mem_someN.mpr ⟨hk, fun z => h1 (by rw [z]), (mem_keepN ok).mpr ⟨hn, h2⟩⟩, fun o ho => ?_⟩⟩
    obtain ⟨g1, g2, g3⟩ := mem_someN.mp ho
    exact (mem_keepN ok).mpr ⟨hk, h3 o (mem_keyM.mpr ⟨o, g1, rfl⟩) (fun z => g2 (by omega)) ((mem_keepN ok).mp g3).2⟩
  by_cases c : someN M (keepN M) n = []
  · refine .inl ⟨c, by rw [c]; rfl, ?_⟩
    refine List.find?_eq_none.mpr fun y hy z => ?_
    obtain ⟨k, _, hk⟩ := key y hy z
    rw [c] at hk
    cases hk
  · refine .inr ⟨c, ?_⟩
    have lin : ∀ a ∈ someN M (keepN M) n, ∀ b ∈ someN M (keepN M) n, b ∈ keepN M a ∨ a ∈ keepN M b := fun a ha b hb => by
      refine Classical.byContradiction fun z => ?_
      obtain ⟨a1, a2, a3⟩ := mem_someN.mp ha
      obtain ⟨b1, b2, b3⟩ := mem_someN.mp hb
      have h1 : AvS (gE (nmM M) (rwM M)) (a : Int) (b : Int) := Classical.byContradiction fun y => z (.inl ((mem_keepN ok).mpr ⟨b1, y⟩))
      have h2 : AvS (gE (nmM M) (rwM M)) (b : Int) (a : Int) := Classical.byContradiction fun y => z (.inr ((mem_keepN ok).mpr ⟨a1, y⟩))
      rcases dom_lin h2 h1 (rch_M ok sm hn) with y | y
      · exact ((mem_keepN ok).mp a3).2 y
      · exact ((mem_keepN ok).mp b3).2 y
    obtain ⟨m, hm, hx⟩ := list_max (R := fun a b => b ∈ keepN M a) c (fun a ha => (mem_keepN ok).mpr ⟨(mem_someN.mp ha).1, dom_refl⟩) lin (fun a ha b hb d hd h g => (mem_keepN ok).mpr ⟨(mem_someN.mp hd).1, dom_trans ((mem_keepN ok).mp h).2 ((mem_keepN ok).mp g).2 (by omega)⟩)
    · have hmm : m ∈ nearL (keepN M) (someN M (keepN M) n) := mem_nearL.mpr ⟨hm, hx⟩
      have one := one_list (l := nearL (keepN M) (someN M (keepN M) n)) (m := m) ((reach_nd.filter _).filter _) hmm fun y hy => by
        obtain ⟨y1, y2⟩ := mem_nearL.mp hy
        have a1 := ((mem_keepN ok).mp (hx y y1)).2
        have a2 := ((mem_keepN ok).mp (y2 m hm)).2
        have := dom_anti (by omega) (by omega) (rch_M ok sm (mem_someN.mp y1).1) a1 a2
        omega
      refine ⟨m, one, ?_⟩
      obtain ⟨m1, m2, m3⟩ := mem_someN.mp hm
      have mx : mB (nmM M) (rwM M) n m = true := mB_iff.mpr ⟨fun z => m2 (by omega), ((mem_keepN ok).mp m3).2, fun d hd ne g => by
        obtain ⟨k, hk, rfl⟩ := mem_keyM.mp hd
        exact ((mem_keepN ok).mp (hx k (mem_someN.mpr ⟨hk, fun z => ne (by rw [z]), (mem_keepN ok).mpr ⟨hn, g⟩⟩))).2⟩
      unfold mast
      cases e : (keyL (rwM M)).find? (mB (nmM M) (rwM M) n) with
      | none => exact absurd mx (List.find?_eq_none.mp e _ (mem_keyM.mpr ⟨m, m1, rfl⟩))
      | some y =>
        obtain ⟨k, rfl, hk⟩ := key y (List.mem_of_find?_eq_some e) (List.find?_some e)
        rw [one, List.mem_singleton] at hk
        rw [hk]
end

/-! ### comprehensions over what an iterator walks -/
section
variable {K : PySem.W.Frag} {H : Hp} {g : TG} {tt : TT} {te : TE} {vs : List Nat} {σ : L2.St} {Q : VK}
def LcJ (J : It) (H : Hp) (xs : List V) : Prop := ∀ (g : TG) (tt : TT) (te : TE) (vs : List Nat) (σ : L2.St) (Q : VK) (P : Addr → Nat → List V → Hp → Prop), (∀ D, H D = none → P D 0 [] (upd H D (.lst []))) → (∀ D i acc H', H D = none → P D i acc H' → Same H H') →
  (∀ D i x acc H', H D = none → xs[i]? = some x → H' D = some (.lst acc) → acc.length ≤ i → P D i acc H' → rTurn g tt te vs σ D (LcP P D (i + 1)) x H') → (∀ D acc H', H D = none → H' D = some (.lst acc) → P D xs.length acc H' → Q (.ref D) H') → rLc g tt te vs Q J σ H
theorem sameSqL {H H' : Hp} {a : Addr} {xs : List V} (h : SqL K H a xs) (s : Same H H') : SqL K H' a xs := Fr.sqL (Fr.same (F := NoF) s) h fun z => z
theorem lcj_L {a : Addr} {xs : List V} (h : SqL K H a xs) : LcJ (Itl K a) H xs := fun _ _ _ _ _ _ P h0 hS hs hd => y_lcL P h0 (fun D i acc H' hD _ p => sameSqL h (hS D i acc H' hD p)) hs hd
theorem lcj_R {m : Nat} : LcJ (Itr 0 m) H ((List.range m).map fun (i : Nat) => V.int (i : Int)) := fun _ _ _ _ _ _ P h0 _ hs hd => y_lcR P h0 (fun D i acc H' hD hi e l p => hs D i _ acc H' hD (by rw [List.getElem?_map, List.getElem?_range hi]; rfl) e l p) (fun D acc H' hD e p => hd D acc H' hD e (by rw [List.length_map, List.length_range]; exact p))
theorem lcj_K {d : Addr} {o : Obj} {kvs : List (Key × V)} (h : H d = some (.frz o (.dK kvs))) : LcJ (Itk d o kvs) H (kvs.map fun kv => kV kv.1) := fun _ _ _ _ _ _ P h0 hS hs hd => y_lcK P h0 (fun D i acc H' hD _ p => hS D i acc H' hD p _ _ h) (fun D i k v acc H' hD hi e l p => hs D i _ acc H' hD (by rw [List.getElem?_map, hi]; rfl) e l p) (fun D acc H' hD e p => hd D acc H' hD e (by rw [List.length_map]; exact p))
theorem lcj_S {z : Str} {l : List Str} (hz : z.cps.toList.map (fun k => (⟨#[k]⟩ : Str)) = l) : LcJ (Its z) H (l.map V.str) := fun _ _ _ _ _ _ P h0 _ hs hd => by
  have ez : z.cps.size = l.length := by rw [← hz, List.length_map, Array.length_toList]
  refine y_lcS P h0 (fun D i k acc H' hD hi e l' p => hs D i _ acc H' hD ?_ e l' p) (fun D acc H' hD e p => hd D acc H' hD e (by rw [List.length_map, ← ez]; exact p))
  rw [List.getElem?_map, ← hz, List.getElem?_map, Array.getElem?_toList, hi]; rfl
/-- values told, of those that a test lets by -/
theorem y_lcFi {α : Type} {J : It} {l : List α} {c : α → V} {p : α → Bool} {h : α → V} (hJ : LcJ J H (l.map c)) (hl : l.length ≤ 9000)
    (hs : ∀ x ∈ l, ∀ (H' : Hp) (S : V → Hp → Prop) (N : Hp → Prop), Same H H' → (p x = true → ∀ H'', Same H' H'' → S (h x) H'') → (p x = false → ∀ H'', Same H' H'' → N H'') → g (c x) (wipe σ vs) H' fun σ2 H2 => wipe σ2 vs = wipe σ vs ∧ tt σ2 H2 fun b H3 => if b = true then te σ2 H3 S else N H3)
    (q : ∀ (D : Addr) (H' : Hp), Same H H' → H D = none → H' D = some (.lst ((l.filter p).map h)) → Q (.ref D) H') : rLc g tt te vs Q J σ H := by
  refine hJ g tt te vs σ Q (fun D i acc H' => Same H H' ∧ acc = ((l.take i).filter p).map h) (fun D hD => ⟨Same.new hD, rfl⟩) (fun _ _ _ _ _ z => z.1) ?_ ?_
  · rintro D i x acc H' hD hi hDl hle ⟨sm, rfl⟩
    rw [List.getElem?_map] at hi
    obtain ⟨y, hy, rfl⟩ := Option.map_eq_some_iff.mp hi
    have il := (List.getElem?_eq_some_iff.mp hy).1
    have e1 : ((l.take (i + 1)).filter p).map h = ((l.take i).filter p).map h ++ (if p y = true then [h y] else []) := by
      rw [take_snoc hy, List.filter_append, List.map_append]
      congr 1
      cases c1 : p y <;> simp [c1]
    refine y_turn (hs y (List.mem_of_getElem? hy) H' _ _ sm (fun e H'' s2 => ?_) fun e H'' s2 => ?_)
    · refine y_put (s2 _ _ hDl) hle (by omega) ⟨same_fresh (sm.trans s2) hD, ?_⟩
      rw [e1, if_pos e]
    · exact y_skip (s2 _ _ hDl) hle ⟨sm.trans s2, by rw [e1, e, if_neg Bool.false_ne_true, List.append_nil]⟩
  · rintro D acc H' hD hDl ⟨sm, rfl⟩
    rw [List.length_map, List.take_length] at hDl
    exact q D H' sm hD hDl
/-- new tuples, one for each that a test lets by -/
theorem y_lcTu {α : Type} {J : It} {l : List α} {c : α → V} {p : α → Bool} {h : α → List V} (hJ : LcJ J H (l.map c)) (hl : l.length ≤ 9000)
    (hs : ∀ x ∈ l, ∀ (H' : Hp) (S : V → Hp → Prop) (N : Hp → Prop), Same H H' → (p x = true → ∀ H'' tp, Same H' H'' → H'' tp = none → S (.ref tp) (upd H'' tp (.tup (h x)))) → (p x = false → ∀ H'', Same H' H'' → N H'') → g (c x) (wipe σ vs) H' fun σ2 H2 => wipe σ2 vs = wipe σ vs ∧ tt σ2 H2 fun b H3 => if b = true then te σ2 H3 S else N H3)
    (q : ∀ (D : Addr) (ps : List Addr) (H' : Hp), Same H H' → H D = none → (∀ p ∈ ps, H p = none) → H' D = some (.lst (ps.map V.ref)) → Paired (fun a x => H' a = some (.tup (h x))) ps (l.filter p) → Q (.ref D) H') : rLc g tt te vs Q J σ H := by
  refine hJ g tt te vs σ Q (fun D i acc H' => Same H H' ∧ ∃ ps : List Addr, acc = ps.map V.ref ∧ Paired (fun a x => H' a = some (.tup (h x))) ps ((l.take i).filter p) ∧ ∀ a ∈ ps, H a = none) (fun D hD => ⟨Same.new hD, [], rfl, .nil, fun _ m => by cases m⟩) (fun _ _ _ _ _ z => z.1) ?_ ?_
  · rintro D i x acc H' hD hi hDl hle ⟨sm, ps, rfl, pr, nw⟩
    rw [List.getElem?_map] at hi
    obtain ⟨y, hy, rfl⟩ := Option.map_eq_some_iff.mp hi
    have il := (List.getElem?_eq_some_iff.mp hy).1
    have e1 : (l.take (i + 1)).filter p = (l.take i).filter p ++ (if p y = true then [y] else []) := by
      rw [take_snoc hy, List.filter_append]
      congr 1
      cases c1 : p y <;> simp [c1]
    refine y_turn (hs y (List.mem_of_getElem? hy) H' _ _ sm (fun e H'' tp s2 htp => ?_) fun e H'' s2 => ?_)
    · have D2 := s2 _ _ hDl
      have s3 := Same.new (o := .tup (h y)) htp
      have D3 := s3 _ _ D2
      have t3 : upd H'' tp (.tup (h y)) tp = some (.tup (h y)) := upd_same
      have p3 : Paired (fun a x => upd H'' tp (.tup (h y)) a = some (.tup (h x))) ps ((l.take i).filter p) := Paired.mapP pr fun _ _ z => s3 _ _ (s2 _ _ z)
      have f3 := same_none (sm.trans s2) htp
      have s03 := (sm.trans s2).trans s3
      generalize upd H'' tp (.tup (h y)) = H3 at s3 D3 t3 p3 s03 ⊢
      have tp4 : Tups H3 (upd H3 D (.lst (ps.map V.ref ++ [V.ref tp]))) := fun p xs e => by rw [upd_ne fun z => by rw [z, D3] at e; cases e]; exact e
      refine y_put D3 hle (by omega) ⟨same_fresh s03 hD, ps ++ [tp], by rw [List.map_append]; rfl, ?_, fun a m => ?_⟩
      · rw [e1, if_pos e]
        exact Paired.app (Paired.mapP p3 fun _ _ z => tp4 _ _ z) (tp4 _ _ t3)
      · rcases List.mem_append.mp m with m | m
        · exact nw a m
        · rw [List.mem_singleton] at m; exact m ▸ f3
    · exact y_skip (s2 _ _ hDl) hle ⟨sm.trans s2, ps, rfl, by rw [e1, e, if_neg Bool.false_ne_true, List.append_nil]; exact Paired.mapP pr fun _ _ z => s2 _ _ z, nw⟩
  · rintro D acc H' hD hDl ⟨sm, ps, rfl, pr, nw⟩
    rw [List.length_map, List.take_length] at pr
    exact q D ps H' sm hD nw hDl pr
/-- a locked dict while it is walked -/
theorem frz_out {H : Hp} {d : Addr} {o : Obj} {kvs : List (Key × V)} (h : H d = some (.dK kvs)) {H' : Hp} (s : Same (upd H d (.frz o (.dK kvs))) H') : Same H (upd H' d (.dK kvs)) := fun b u e => by
  by_cases c : b = d
  · rw [c, upd_same, ← h, ← c]; exact e
  · rw [upd_ne c]; exact s _ _ (by rw [upd_ne c]; exact e)
theorem frz_in {H : Hp} {d : Addr} {o : Obj} {kvs : List (Key × V)} (h : H d = some (.dK kvs)) {b : Addr} {u : HO} (e : H b = some u) (n : ∀ k, u ≠ .dK k) : upd H d (.frz o (.dK kvs)) b = some u := by
  rw [upd_ne fun z => by rw [z, h] at e; exact n _ (Option.some.inj e).symm]; exact e
end
/-! ### sum(d.values()) -/
section
open PySem.W PySem.Calls PyProof.Rows PyProof.V
variable {X : Cx}
def rSumVals : List V → Hp → VK → Prop := fun xs H Q => ∃ (p a : Addr) (kvs : List (Key × V)) (ks : List Int), xs = [.ref p] ∧ H p = some (valuesO p a) ∧ H a = some (.dK kvs) ∧ kvs.map (·.2) = ks.map V.int ∧ Q (.int ks.sum) H
theorem call_sumV (hcalm : X.calm = true) : CallR X (.builtin "sum") rSumVals := by
  intro pins s σ H xs us Q I r q
  obtain ⟨p, a, kvs, ks, ex, hp, hd, hks, q⟩ := q
  subst ex
  obtain ⟨u, eu, rx⟩ := vals1 r
  subst eu
  cases rx
  have view : s.heap.IsValuesView p a := (show ObjOk X.prog X.w H s.heap p (valuesO p a) from I.hok p _ hp).1
  obtain ⟨z, lo, vs, rel, dd⟩ := dk_of I.hok hd
  obtain ⟨ep, hat⟩ := dd.dictAt
  have hkl : kvs.length = ks.length := by
    have e := congrArg List.length hks
    rw [List.length_map, List.length_map] at e
    exact e
  have hl : vs.length = ks.length := (Paired.length rel).symm.trans hkl
  refine call_sum_walkAnyS ?_
  have KS := PySem.W.kdl_values (prog := X.prog) (w := X.w) (knd := mixKind X.prog X.w) (kvs := vs) (ep := ep) (r := p) (d := a)
  obtain ⟨oI, St, hit, W, st⟩ := KS.iter X.A.in1 s (I.ok.hd hcalm) ⟨view, hat⟩
  refine hit _ _ ⟨s.heap.objs.size, _, _, _, vs.length, _, _, (fun i => ks.getD i 0), rfl, W.toS, st, fun b hb => ?_, fun i v hv => ?_, fun s' t' hm => ?_⟩
  · show b < (s.heap.push oI).objs.size
    rw [size_push']
    rcases List.mem_cons.mp hb with e | hb
    · rw [e]; exact Nat.lt_succ_self _
    · rw [List.mem_singleton.mp hb]; exact Nat.lt_succ_of_lt (KS.there _ ⟨view, hat⟩).2
  · obtain ⟨k, e1⟩ := hv
    obtain ⟨y, e2, e3⟩ := KV.at' rel e1
    have e4 : (kvs.map (·.2))[i]? = some y := by rw [List.getElem?_map, e2]; rfl
    rw [hks, List.getElem?_map] at e4
    cases e5 : ks[i]? with
    | none => rw [e5] at e4; cases e4
    | some j =>
      rw [e5] at e4
      have e6 : V.int j = y := Option.some.inj e4
      subst e6
      obtain ⟨t, e7⟩ := e3
      exact ⟨t, by show v = Value.int (ks.getD i 0) t; rw [List.getD_eq_getElem?_getD, e5]; exact e7⟩
  · have hk : ∀ b o, s.heap.get? b = some o → s'.heap.get? b = some o := fun b o e =>
      hm.heap b o (fun hI => absurd (Heap.lt_size e) (by rw [List.mem_singleton.mp hI]; exact Nat.lt_irrefl _)) (Heap.get?_push_of_some _ e)
    rw [Moved.eq_with hm]
    refine ⟨.int _, H, I.kept hk, ⟨_, rfl⟩, ?_⟩
    have e : ∀ n, n ≤ ks.length → preSum (fun i => ks.getD i 0) n = (ks.take n).sum := by
      intro n
      induction n with
      | zero => intro _; rfl
      | succ n ih =>
        intro h
        have hn : ks[n]? = some ks[n] := List.getElem?_eq_getElem h
        rw [take_snoc hn, List.sum_append, ← ih (by omega), List.sum_singleton]
        show preSum _ n + ks.getD n 0 = _
        rw [List.getD_eq_getElem?_getD, hn]; rfl
    have e2 := e vs.length (by omega)
    rw [hl, List.take_length] at e2
    show Q (.int (preSum (fun i => ks.getD i 0) vs.length)) H
    rw [hl, e2]
    exact q
end
section
variable {X : Cx} {K : PySem.W.Frag}
theorem call_dictPK (h : X.K = K) (hc : X.calm = true) : CallR X (.type "dict") (fun xs H Q => ∃ (a : Addr) (ps : List Addr) (kvs : List (Key × V)), xs = [.ref a] ∧ SqL K H a (ps.map V.ref) ∧ Paired (fun (p : Addr) (kv : Key × V) => SqT K H p [kV kv.1, kv.2]) ps kvs ∧ ∀ p, H p = none → Q (.ref p) (upd H p (.dK (mergeK [] kvs)))) := h ▸ call_dictP hc
end

/-! ### the law's totals -/
section
theorem paired_zip {α β : Type} {F : α → β → Prop} {as : List α} {bs : List β} (h : Paired F as bs) : ∃ l : List (α × β), l.map (·.1) = as ∧ l.map (·.2) = bs ∧ ∀ z ∈ l, F z.1 z.2 := by
  induction h with
  | nil => exact ⟨[], rfl, rfl, fun _ m => by cases m⟩
  | @cons a b _ _ h _ ih =>
    obtain ⟨l, e1, e2, f⟩ := ih
    refine ⟨(a, b) :: l, by rw [List.map_cons, e1], by rw [List.map_cons, e2], fun z m => ?_⟩
    rcases List.mem_cons.mp m with m | m
    · exact m ▸ h
    · exact f z m
theorem paired_mapR {α β γ : Type} {F : α → β → Prop} {G : α → γ → Prop} {f : β → γ} {as : List α} {bs : List β} (h : Paired F as bs) (g : ∀ a b, F a b → G a (f b)) : Paired G as (bs.map f) := by
  induction h with
  | nil => exact .nil
  | cons h _ ih => exact .cons (g _ _ h) ih
theorem paired_unmap {α β γ : Type} {G : α → γ → Prop} {f : β → γ} : ∀ {as : List α} {bs : List β}, Paired G as (bs.map f) → Paired (fun a b => G a (f b)) as bs
  | [], [], _ => .nil
  | _ :: _, _ :: _, .cons h r => .cons h (paired_unmap r)
/-- dicts by numbers -/
def kdI (ks : List Nat) (f : Nat → V) : List (Key × V) := ks.map fun (k : Nat) => ((.inl (k : Int) : Key), f k)
theorem kdI_get {ks : List Nat} {f : Nat → V} {k : Nat} (m : k ∈ ks) : valV (kdI ks f) (.inl (k : Int)) = some (f k) := by
  unfold kdI
  induction ks with
  | nil => cases m
  | cons a ks ih =>
    rw [List.map_cons]
    by_cases c : a = k
    · subst c; exact valV_pos rfl
    · rw [valV_neg fun z => c (by have := Sum.inl.inj z; omega)]
      exact ih ((List.mem_cons.mp m).resolve_left fun z => c z.symm)
theorem kdI_none {ks : List Nat} {f : Nat → V} {k : Nat} (m : k ∉ ks) : valV (kdI ks f) (.inl (k : Int)) = none := by
  unfold kdI
  induction ks with
  | nil => rfl
  | cons a ks ih =>
    rw [List.map_cons, valV_neg fun z => m (by have := Sum.inl.inj z; have : a = k := by omega
                                               simp [this])]
    exact ih fun z => m (List.mem_cons_of_mem _ z)
theorem kdI_merge {ks : List Nat} {f : Nat → V} (nd : ks.Nodup) : mergeK [] (kdI ks f) = kdI ks f := mergeK_nd (by
  unfold kdI
  rw [List.map_map, List.nodup_iff_pairwise_ne, List.pairwise_map]
  exact nd.imp fun h z => h (by have := Sum.inl.inj z; omega))
theorem kdI_keys {ks : List Nat} {f : Nat → V} : (kdI ks f).map (fun kv => kV kv.1) = ks.map fun (k : Nat) => V.int (k : Int) := by
  unfold kdI; rw [List.map_map]; rfl
theorem kdI_keys2 {ks : List Nat} {f : Nat → V} : (kdI ks f).map (·.1) = (ks.map fun (k : Nat) => (k : Int)).map Sum.inl := by
  unfold kdI; rw [List.map_map, List.map_map]; rfl
variable {M : HM} {n k : Nat}
noncomputable def sizM (M : HM) (k : Nat) : Int := (rowM M k).size
noncomputable def totN (M : HM) (n : Nat) : Int := totP (nmM M) (rwM M) (n : Int)
theorem sizM_some {t : Th} (e : M.things k = some t) : sizM M k = sizeT t := by unfold sizM; rw [rowM_some e]
theorem szOf_M (hk : k ∈ reachL M) : szOf (gsOf (rwM M)) (k : Int) = sizM M k := by
  have nd : ((gsOf (rwM M)).map (·.1)).Nodup := gs_nd (by rw [ks_M]; exact reach_nd)
  unfold szOf
  rw [lkI_mem nd (v := sizM M k) (List.mem_map.mpr ⟨rowM M k, List.mem_map.mpr ⟨k, hk, rfl⟩, by rw [rowM_k]; rfl⟩)]
  rfl
theorem sumI_sum {f : Int → Int} {l : List Int} : sumI f l = (l.map f).sum := by
  induction l with
  | nil => rfl
  | cons x l ih => simp only [sumI, List.map_cons, List.sum_cons, ih]
theorem tot_sum (ok : M.Ok) : ((keepN M n).map (sizM M)).sum = totN M n := by
  classical
  have key : ∀ l : List Nat, (∀ k ∈ l, k ∈ reachL M) → ((l.filter fun k => decide (¬ M.RN n k)).map (sizM M)).sum = totG (gE (nmM M) (rwM M)) (szOf (gsOf (rwM M))) (l.map fun (k : Nat) => (k : Int)) (n : Int) := by
    intro l
    induction l with
    | nil => intro _; rfl
    | cons k l ih =>
      intro h
      have ih := ih fun x m => h x (List.mem_cons_of_mem _ m)
      have hk := h k (List.mem_cons_self ..)
      unfold totG at ih ⊢
      simp only [List.map_cons, sumI]
      by_cases c : M.RN n k
      · rw [List.filter_cons, if_neg (by simp [c]), ih, if_neg fun z => z ((avs_RN ok).mpr c)]
        omega
      · rw [List.filter_cons, if_pos (by simp [c]), List.map_cons, List.sum_cons, ih, if_pos (show DomG _ _ _ from fun z => c ((avs_RN ok).mp z)), szOf_M hk]
  have := key (reachL M) fun _ h => h
  unfold totN totP
  rw [keyL_M, ← this]
  unfold keepN
  congr 3
end
section
variable {P : Program} {w : World} {K : PySem.W.Frag} {mg : Str → Option Value} {base : Heap}
theorem y_dPs {K : PySem.W.Frag} {H : Hp} {D : Addr} {ps : List Addr} {ks : List Nat} {f : Nat → V} {R : Addr → List (Key × V) → Prop} (h1 : H D = some (.lst (ps.map V.ref))) (h2 : Paired (fun (p : Addr) (k : Nat) => H p = some (.tup [.int (k : Int), f k])) ps ks)
    (q : ∀ p, H p = none → R p (kdI ks f)) : ∃ a ps kvs, [V.ref D] = [V.ref a] ∧ SqL K H a (List.map V.ref ps) ∧ Paired (fun (p : Addr) (kv : Key × V) => SqT K H p [kV kv.1, kv.2]) ps kvs ∧ ∀ (p : Addr), H p = none → R p kvs :=
  ⟨D, ps, _, rfl, sqL h1, paired_mapR (f := fun (k : Nat) => ((.inl (k : Int) : Key), f k)) h2 fun _ _ z => sqT z, q⟩
theorem fil_t {α : Type} {l : List α} : l.filter (fun _ => true) = l := List.filter_eq_self.mpr fun _ _ => rfl
abbrev spLTotals (K : PySem.W.Frag) : Sp := Sp1 fun x H Q => ∃ (ad : Nat → Addr) (M : HM), x = .ref (ad 0) ∧ LM K H ad M ∧ M.Ok ∧ LamX.Tabs (TTs K) H ∧
  ∀ (d : Addr) (H' : Hp), Fr K NoF H H' → orTbl H d → H' d = some (.dK (kdI (reachL M) fun k => .int (totN M k))) → Q (.ref d) H'
end
section
variable {K : PySem.W.Frag}
theorem AL_tr {H : Hp} {n : Nat} : ∀ {ps qs : List Addr} {l : List (Int × Int)}, Paired (TrR H) ps l → Paired (TrR H) qs l → Paired (AL H (n + 2)) (ps.map V.ref) (qs.map V.ref)
  | _, _, _, .nil, .nil => .nil
  | _, _, _, .cons h r, .cons g s => .cons (AL_t h g (by simp) (.cons (AL_s rfl) (.cons (AL_s rfl) .nil))) (AL_tr r s)
theorem PhR.frz (K : PySem.W.Frag) {N : Addr → Prop} {H : Hp} {v : V} {M : HM} {d : Addr} {o : Obj} {kvs : List (Key × V)} (h : PhR N H v M) (hd : H d = some (.dK kvs)) : PhR N (upd H d (.frz o (.dK kvs))) v M :=
  (h.lists.fr (F := fun b => b = d) (K := K) (Fr.upd rfl (by rw [hd]; trivial)) fun b nb z => by obtain ⟨_, xs, e⟩ := nb; rw [z, hd] at e; cases e).sub fun b nb => nb.1
end
section
theorem kdI_tot {M : HM} : kdI (reachL M) (fun k => .int (totN M k)) = szK (totPL (nmM M) (rwM M)) := by
  unfold kdI szK totPL
  rw [keyL_M, List.map_map, List.map_map]
  rfl
end

/-! ### totals of those right under one -/
section
open Classical
variable {nm : List AV} {rw : List PRow} {fv : List (Int × Int)}
theorem avs_no_top {E : Int → Int → Prop} {n : Int} (h : AvS E (-1) n) : False := by
  induction h with
  | top h => exact h rfl
  | step _ _ _ ih => exact ih
theorem tot_kids (pk : PhK nm rw) (ma : MaOk (gwOf nm rw) fv) {n : Int} (hn : n ∈ keyL rw) : totP nm rw n = szOf (gsOf rw) n + sumI (fun c => if mast nm rw c = some n then totP nm rw c else 0) (keyL rw) := by
  obtain ⟨S, rk, kid, D, hS⟩ := ma.kid pk.g
  have e := kp_kids (s := szOf (gsOf rw)) kid (n := n)
  rw [gs_keys, if_pos hn] at e
  have k : ∀ x, kp (lkI fv) (szOf (gsOf rw)) (keyL rw) x = totP nm rw x := fun x => by
    have := ma.kpG pk.g (s := szOf (gsOf rw)) (n := x)
    rw [gs_keys] at this
    exact this
  rw [k] at e
  rw [e]
  congr 1
  refine sumI_congr fun c hc => ?_
  have nn : n ≠ -1 := fun z => keyL_nt pk (z ▸ hn)
  obtain ⟨x, ex⟩ := Option.isSome_iff_exists.mp (kid.tot c (by rw [gs_keys]; exact hc))
  have em := mast_of pk ma hc ex
  rw [em, k, ex]
  by_cases c1 : x = -1
  · rw [if_pos c1, if_neg (fun z => nn (by cases z; exact c1)), if_neg fun z => by cases z]
  · rw [if_neg c1]
theorem tot_top (pk : PhK nm rw) (ma : MaOk (gwOf nm rw) fv) : sumI (fun c => if mast nm rw c = none then totP nm rw c else 0) (keyL rw) = sumI (szOf (gsOf rw)) (keyL rw) := by
  obtain ⟨S, rk, kid, D, hS⟩ := ma.kid pk.g
  have e := kp_kids (s := szOf (gsOf rw)) kid (n := -1)
  rw [gs_keys, if_neg (keyL_nt pk)] at e
  have k : ∀ x, kp (lkI fv) (szOf (gsOf rw)) (keyL rw) x = totP nm rw x := fun x => by
    have := ma.kpG pk.g (s := szOf (gsOf rw)) (n := x)
    rw [gs_keys] at this
    exact this
  rw [k] at e
  have e1 : totP nm rw (-1) = sumI (szOf (gsOf rw)) (keyL rw) := by
    unfold totP totG
    refine sumI_congr fun x _ => if_pos fun z => avs_no_top z
  rw [e1] at e
  have e2 : sumI (fun c => if lkI fv c = some (-1) then kp (lkI fv) (szOf (gsOf rw)) (keyL rw) c else 0) (keyL rw) = sumI (fun c => if mast nm rw c = none then totP nm rw c else 0) (keyL rw) := by
    refine sumI_congr fun c hc => ?_
    obtain ⟨x, ex⟩ := Option.isSome_iff_exists.mp (kid.tot c (by rw [gs_keys]; exact hc))
    have em := mast_of pk ma hc ex
    rw [em, k, ex]
    by_cases c1 : x = -1
    · rw [if_pos (by rw [c1]), if_pos c1, if_pos rfl]
    · rw [if_neg (fun z => c1 (Option.some.inj z)), if_neg c1, if_neg fun z => by cases z]
  rw [← e2]
  omega
theorem sum_filter {α : Type} {p : α → Bool} {f : α → Int} {l : List α} : ((l.filter p).map f).sum = (l.map fun x => if p x = true then f x else 0).sum := by
  induction l with
  | nil => rfl
  | cons x l ih =>
    rw [List.filter_cons, List.map_cons, List.sum_cons, ← ih]
    split
    · rw [List.map_cons, List.sum_cons]
    · omega
end

/-! ### compared, leak -/
section
def lkG (g : List (Int × Int)) (n : Int) : Int := (lkI g n).getD 0
def cNewL (g1 g2 : List (Int × Int)) : List Int := (g2.map (·.1)).filter fun n => !decide (n ∈ g1.map (·.1))
def cGrownL (g1 g2 : List (Int × Int)) : List (Int × Int) := ((g2.map (·.1)).filter fun n => decide (n ∈ g1.map (·.1)) && decide (lkG g2 n > lkG g1 n)).map fun n => (n, lkG g2 n - lkG g1 n)
theorem lkG_get {g : List (Int × Int)} {n : Int} (m : n ∈ g.map (·.1)) : valV (szK g) (.inl n) = some (.int (lkG g n)) := by
  obtain ⟨v, e⟩ := Option.isSome_iff_exists.mp (lkI_some.mpr m)
  rw [szK_lk]
  unfold lkG
  rw [e]; rfl
theorem szK_has {g : List (Int × Int)} {n : Int} : (valV (szK g) (.inl n)).isSome = decide (n ∈ g.map (·.1)) := by
  rw [szK_lk, Option.isSome_map]
  by_cases c : n ∈ g.map (·.1)
  · rw [lkI_some.mpr c, decide_eq_true c]
  · rw [decide_eq_false c]
    cases e : (lkI g n).isSome with
    | false => rfl
    | true => exact absurd (lkI_some.mp e) c
theorem szK_keys {g : List (Int × Int)} : (szK g).map (·.1) = (g.map (·.1)).map Sum.inl := by unfold szK; rw [List.map_map, List.map_map]; rfl
theorem szK_merge {g : List (Int × Int)} (nd : (g.map (·.1)).Pairwise (· < ·)) : mergeK [] (szK g) = szK g := mergeK_nd (by
  rw [szK_keys, List.nodup_iff_pairwise_ne, List.pairwise_map]
  exact nd.imp fun h z => by have := Sum.inl.inj z; omega)
theorem totPL_keys {nm : List AV} {rw : List PRow} : (totPL nm rw).map (·.1) = keyL rw := by unfold totPL; rw [List.map_map]; exact List.map_id' _
theorem totPL_len {nm : List AV} {rw_ : List PRow} (pk : PhK nm rw_) : (totPL nm rw_).length ≤ 8000 := by
  unfold totPL keyL; rw [List.length_map, List.length_map]; exact pk.ok.lr
theorem paired_mapG {α β γ : Type} {F : α → β → Prop} {G : α → γ → Prop} {f : β → γ} {as : List α} {bs : List β} (h : Paired F as bs) (g : ∀ a b, F a b → G a (f b)) : Paired G as (bs.map f) := by
  induction h with
  | nil => exact .nil
  | cons h _ ih => exact .cons (g _ _ h) ih
theorem y_dPg {K : PySem.W.Frag} {H : Hp} {D : Addr} {ps : List Addr} {g : List (Int × Int)} {R : Addr → List (Key × V) → Prop} (h1 : H D = some (.lst (ps.map V.ref))) (h2 : Paired (TrR H) ps g)
    (q : ∀ p, H p = none → R p (szK g)) : ∃ a ps kvs, [V.ref D] = [V.ref a] ∧ SqL K H a (List.map V.ref ps) ∧ Paired (fun (p : Addr) (kv : Key × V) => SqT K H p [kV kv.1, kv.2]) ps kvs ∧ ∀ (p : Addr), H p = none → R p kvs :=
  ⟨D, ps, _, rfl, sqL h1, paired_mapG (f := fun (z : Int × Int) => ((.inl z.1 : Key), V.int z.2)) h2 fun p z h => sqT (show H p = some (.tup [kV (.inl z.1), V.int z.2]) from h), q⟩
/-- what is told of two photos -/
def CmpR (N : Addr → Prop) (H : Hp) (t : Addr) (g1 g2 : List (Int × Int)) : Prop := ∃ (l1 l2 l3 : Addr) (ps : List Addr), H t = some (.tup [.ref l1, .ref l2, .ref l3]) ∧ (N l1 ∧ N l2 ∧ N l3) ∧ H l1 = some (.lst ((cNewL g1 g2).map V.int)) ∧ H l2 = some (.lst ((cNewL g2 g1).map V.int)) ∧ H l3 = some (.lst (ps.map V.ref)) ∧ Paired (TrR H) ps (cGrownL g1 g2)
theorem cNewL_len {g1 g2 : List (Int × Int)} : (cNewL g1 g2).length ≤ g2.length := by
  unfold cNewL
  refine Nat.le_trans (List.length_filter_le ..) ?_
  rw [List.length_map]; exact Nat.le_refl _
theorem cGrownL_len {g1 g2 : List (Int × Int)} : (cGrownL g1 g2).length ≤ g2.length := by
  unfold cGrownL
  rw [List.length_map]
  refine Nat.le_trans (List.length_filter_le ..) ?_
  rw [List.length_map]; exact Nat.le_refl _
theorem sort_self {g : List (Int × Int)} (nd : (g.map (·.1)).Pairwise (· < ·)) {ys : List Int} (p : ys.Perm (g.map (·.1))) (s : ys.Pairwise (· ≤ ·)) : ys = g.map (·.1) := srt_eq nd p s
end
section
variable {P : Program} {w : World} {K : PySem.W.Frag} {mg : Str → Option Value} {base : Heap}
abbrev spCompared (K : PySem.W.Frag) : Sp := Sp2 fun x y H Q => ∃ (nm1 : List AV) (rw1 : List PRow) (nm2 : List AV) (rw2 : List PRow), PhG H x nm1 rw1 ∧ PhK nm1 rw1 ∧ PhG H y nm2 rw2 ∧ PhK nm2 rw2 ∧
  ∀ (t : Addr) (H' : Hp), Same H H' → H t = none → CmpR (fun b => H b = none) H' t (totPL nm1 rw1) (totPL nm2 rw2) → (∀ l1 l2 l3 : Addr, H' t = some (.tup [.ref l1, .ref l2, .ref l3]) → l1 ≠ l2 ∧ l1 ≠ l3 ∧ l2 ≠ l3) → Q (.ref t) H'
theorem cal_compared (T : Tx w K mg base) : Cal P w K mg base 5 "compared" (spCompared K) [] := by
  obtain ⟨fd, F⟩ := T.fn_compared
  refine cal_of F T.g_compared sc_compared (F.bindsN fun _ _ _ _ _ _ us hl => match us, hl with | [_, _], _ => rfl) (fun vs H Q E h => h.len) (fun cdv A outer s H vs Q E hr h => ?_)
  obtain ⟨x, y, rfl, nm1, rw1, nm2, rw2, ph1, pk1, ph2, pk2, q⟩ := h
  have hu := hu_of hr
  have nd := sc_compared.nd
  refine ⟨_, (pss_cons (ps_set (i := 2) nd rfl (Or.inr rfl) (pe_callTy (call_dictP rfl) (by rfl) T.n_dict (by decide +kernel) (pa_cons (pe_c (cal_totals T) hr (by decide) (by rfl) (pa_cons (pv 0) pa_nil)) pa_nil))) (pss_cons (ps_set (i := 3) nd rfl (Or.inr rfl) (pe_callTy (call_dictP rfl) (by rfl) T.n_dict (by decide +kernel) (pa_cons (pe_c (cal_totals T) hr (by decide) (by rfl) (pa_cons (pv 1) pa_nil)) pa_nil))) (pss_cons (ps_setLc (i := 4) (own := [("number", 7)]) (by rfl) nd rfl rfl (sw_true rfl rfl rfl (by decide +kernel)) (pi_list (pe_callB (call_sortedDN rfl) (by rfl) T.n_sorted (by decide +kernel) (pa_cons (pv 3) pa_nil))) (blkOk_by (own := [("number", 7)]) (N := N_compared) (sc := (C8.fnScope s_compared)) (by decide +kernel)) (fun _ _ _ _ _ => (pg_name (i := 7) nd rfl (Or.inl rfl))) (fun _ _ _ _ _ => (pts_one (pt_cmp (pc_dnotin hu (pv 7) (pv 2))))) (fun _ _ _ _ _ => (pv 7))) (pss_cons (ps_setLc (i := 5) (own := [("number", 7)]) (by rfl) nd rfl rfl (sw_true rfl rfl rfl (by decide +kernel)) (pi_list (pe_callB (call_sortedDN rfl) (by rfl) T.n_sorted (by decide +kernel) (pa_cons (pv 2) pa_nil))) (blkOk_by (own := [("number", 7)]) (N := N_compared) (sc := (C8.fnScope s_compared)) (by decide +kernel)) (fun _ _ _ _ _ => (pg_name (i := 7) nd rfl (Or.inl rfl))) (fun _ _ _ _ _ => (pts_one (pt_cmp (pc_dnotin hu (pv 7) (pv 3))))) (fun _ _ _ _ _ => (pv 7))) (pss_cons (ps_setLc (i := 6) (own := [("number", 7)]) (by rfl) nd rfl rfl (sw_true rfl rfl rfl (by decide +kernel)) (pi_list (pe_callB (call_sortedDN rfl) (by rfl) T.n_sorted (by decide +kernel) (pa_cons (pv 3) pa_nil))) (blkOk_by (own := [("number", 7)]) (N := N_compared) (sc := (C8.fnScope s_compared)) (by decide +kernel)) (fun _ _ _ _ _ => (pg_name (i := 7) nd rfl (Or.inl rfl))) (fun _ _ _ _ _ => (pts_one (pt_cmp (pc_din hu (pv 7) (pv 2))))) (fun _ _ _ _ _ => (pv 7))) (pss_one (ps_ret (pe_tup (pa_cons (pv 4) (pa_cons (pv 5) (pa_cons (pe_lc (own := [("number", 7)]) (by rfl) nd (pi_list (pv 6)) (blkOk_by (own := [("number", 7)]) (N := N_compared) (sc := (C8.fnScope s_compared)) (by decide +kernel)) (fun _ _ _ _ _ => (pg_name (i := 7) nd rfl (Or.inl rfl))) (fun _ _ _ _ _ => (pts_one (pt_cmpR op_gt (pe_dget hu (pv 3) (pv 7) (fun _ _ => rfl)) (pe_dget hu (pv 2) (pv 7) (fun _ _ => rfl)) (nomark _)))) (fun _ _ _ _ _ => (pe_tup (pa_cons (pv 7) (pa_cons (pe_op op_sub (pe_dget hu (pv 3) (pv 7) (fun _ _ => rfl)) (pe_dget hu (pv 2) (pv 7) (fun _ _ => rfl))) pa_nil))))) pa_nil))))))))))), ?_⟩
  have a1 : ((totPL nm1 rw1).map (·.1)).Pairwise (· < ·) := by rw [totPL_keys]; exact pk1.srt
  have a2 : ((totPL nm2 rw2).map (·.1)).Pairwise (· < ·) := by rw [totPL_keys]; exact pk2.srt
  have n1 := totPL_len pk1
  have n2 := totPL_len pk2
  walk_at "sx"
  refine ⟨nm1, rw1, ph1, pk1, fun l1 ps1 H1 s1 _ _ hl1 pr1 => ?_⟩
  walk_at "rx"
  refine y_dPg hl1 pr1 fun d1 hd1 => ?_
  rw [szK_merge a1]
  have s2 := s1.trans (Same.new (o := .dK (szK (totPL nm1 rw1))) hd1)
  have e2 : upd H1 d1 (.dK (szK (totPL nm1 rw1))) d1 = some (.dK (szK (totPL nm1 rw1))) := upd_same
  generalize upd H1 d1 (.dK (szK (totPL nm1 rw1))) = H2 at s2 e2 ⊢
  walk_at "rx"
  refine ⟨nm2, rw2, ph2.same s2, pk2, fun l2 ps2 H3 s3 _ _ hl2 pr2 => ?_⟩
  have e3 := s3 _ _ e2
  walk_at "rx"
  refine y_dPg hl2 pr2 fun d2 hd2 => ?_
  rw [szK_merge a2]
  have e4 := Same.new (o := .dK (szK (totPL nm2 rw2))) hd2 _ _ e3
  have s4 := s2.trans (s3.trans (Same.new (o := .dK (szK (totPL nm2 rw2))) hd2))
  have f4 : upd H3 d2 (.dK (szK (totPL nm2 rw2))) d2 = some (.dK (szK (totPL nm2 rw2))) := upd_same
  generalize upd H3 d2 (.dK (szK (totPL nm2 rw2))) = H4 at s4 e4 f4 ⊢
  generalize totPL nm1 rw1 = g1 at *
  generalize totPL nm2 rw2 = g2 at *
  walk_at "rx"
  refine ⟨d2, _, g2.map (·.1), rfl, .inl f4, szK_keys, fun ys p pm sr hp => ?_⟩
  have := sort_self a2 pm sr
  subst this
  have s5 := s4.trans (Same.new (o := .lst ((g2.map (·.1)).map V.int)) hp)
  have e5 := Same.new (o := .lst ((g2.map (·.1)).map V.int)) hp _ _ e4
  have f5 := Same.new (o := .lst ((g2.map (·.1)).map V.int)) hp _ _ f4
  have p5 : upd H4 p (.lst ((g2.map (·.1)).map V.int)) p = some (.lst ((g2.map (·.1)).map V.int)) := upd_same
  generalize upd H4 p (.lst ((g2.map (·.1)).map V.int)) = H5 at s5 e5 f5 p5 ⊢
  refine y_iL (sqL p5) ?_
  refine y_lcFi (l := g2.map (·.1)) (c := V.int) (p := fun n => !decide (n ∈ g1.map (·.1))) (h := V.int) (lcj_L (sqL p5)) (by rw [List.length_map]; omega) (fun n mn H6 S N s6 hS hN => ?_) fun D6 H6 s6 hD6 hl6 => ?_
  · walk_at "rx"
    refine ⟨rfl, ?_⟩
    walk_at "rx"
    refine y_dnotin (j := .inl n) (.inl (s6 _ _ e5)) rfl ?_
    rw [szK_has]
    walk_at "rx"
    refine y_ndec (fun c => ?_) (fun c => ?_)
    · walk_at "rx"
      exact hS (by rw [decide_eq_false c]; rfl) _ (Same.refl _)
    · walk_at "rx"
      exact hN (by rw [decide_eq_true c]; rfl) _ (Same.refl _)
  have D60 := same_none s5 hD6
  have s6' := s5.trans s6
  have e6 := s6 _ _ e5
  have f6 := s6 _ _ f5
  have hl6 : H6 D6 = some (.lst ((cNewL g1 g2).map V.int)) := hl6
  clear s6
  walk_at "rx"
  refine ⟨d1, _, g1.map (·.1), rfl, .inl e6, szK_keys, fun ys p pm sr hp => ?_⟩
  have := sort_self a1 pm sr
  subst this
  have s7 := s6'.trans (Same.new (o := .lst ((g1.map (·.1)).map V.int)) hp)
  have e7 := Same.new (o := .lst ((g1.map (·.1)).map V.int)) hp _ _ e6
  have f7 := Same.new (o := .lst ((g1.map (·.1)).map V.int)) hp _ _ f6
  have hl7 := Same.new (o := .lst ((g1.map (·.1)).map V.int)) hp _ _ hl6
  have p7 : upd H6 p (.lst ((g1.map (·.1)).map V.int)) p = some (.lst ((g1.map (·.1)).map V.int)) := upd_same
  generalize upd H6 p (.lst ((g1.map (·.1)).map V.int)) = H7 at s7 e7 f7 p7 hl7 ⊢
  refine y_iL (sqL p7) ?_
  refine y_lcFi (l := g1.map (·.1)) (c := V.int) (p := fun n => !decide (n ∈ g2.map (·.1))) (h := V.int) (lcj_L (sqL p7)) (by rw [List.length_map]; omega) (fun n mn H8 S N s8 hS hN => ?_) fun D8 H8 s8 hD8 hl8 => ?_
  · walk_at "rx"
    refine ⟨rfl, ?_⟩
    walk_at "rx"
    refine y_dnotin (j := .inl n) (.inl (s8 _ _ f7)) rfl ?_
    rw [szK_has]
    walk_at "rx"
    refine y_ndec (fun c => ?_) (fun c => ?_)
    · walk_at "rx"
      exact hS (by rw [decide_eq_false c]; rfl) _ (Same.refl _)
    · walk_at "rx"
      exact hN (by rw [decide_eq_true c]; rfl) _ (Same.refl _)
  have D80 := same_none s7 hD8
  have s8' := s7.trans s8
  have e8 := s8 _ _ e7
  have f8 := s8 _ _ f7
  have hl68 := s8 _ _ hl7
  have hl8 : H8 D8 = some (.lst ((cNewL g2 g1).map V.int)) := hl8
  clear s8
  walk_at "rx"
  refine ⟨d2, _, g2.map (·.1), rfl, .inl f8, szK_keys, fun ys p pm sr hp => ?_⟩
  have := sort_self a2 pm sr
  subst this
  have s9 := s8'.trans (Same.new (o := .lst ((g2.map (·.1)).map V.int)) hp)
  have e9 := Same.new (o := .lst ((g2.map (·.1)).map V.int)) hp _ _ e8
  have f9 := Same.new (o := .lst ((g2.map (·.1)).map V.int)) hp _ _ f8
  have hl69 := Same.new (o := .lst ((g2.map (·.1)).map V.int)) hp _ _ hl68
  have hl89 := Same.new (o := .lst ((g2.map (·.1)).map V.int)) hp _ _ hl8
  have p9 : upd H8 p (.lst ((g2.map (·.1)).map V.int)) p = some (.lst ((g2.map (·.1)).map V.int)) := upd_same
  generalize upd H8 p (.lst ((g2.map (·.1)).map V.int)) = H9 at s9 e9 f9 p9 hl69 hl89 ⊢
  refine y_iL (sqL p9) ?_
  refine y_lcFi (l := g2.map (·.1)) (c := V.int) (p := fun n => decide (n ∈ g1.map (·.1))) (h := V.int) (lcj_L (sqL p9)) (by rw [List.length_map]; omega) (fun n mn HA S N sA hS hN => ?_) fun DA HA sA hDA hlA => ?_
  · walk_at "rx"
    refine ⟨rfl, ?_⟩
    walk_at "rx"
    refine y_din (j := .inl n) (.inl (sA _ _ e9)) rfl ?_
    rw [szK_has]
    walk_at "rx"
    refine y_dec (fun c => ?_) (fun c => ?_)
    · walk_at "rx"
      exact hS (by rw [decide_eq_true c]) _ (Same.refl _)
    · walk_at "rx"
      exact hN (by rw [decide_eq_false c]) _ (Same.refl _)
  have sA' := s9.trans sA
  have eA := sA _ _ e9
  have fA := sA _ _ f9
  have hl6A := sA _ _ hl69
  have hl8A := sA _ _ hl89
  clear sA
  walk_at "rx"
  refine y_iL (sqL hlA) ?_
  refine y_lcTu (l := (g2.map (·.1)).filter fun n => decide (n ∈ g1.map (·.1))) (c := V.int) (p := fun n => decide (lkG g2 n > lkG g1 n)) (h := fun n => [.int n, .int (lkG g2 n - lkG g1 n)]) (lcj_L (sqL hlA)) (Nat.le_trans (List.length_filter_le ..) (by rw [List.length_map]; omega)) (fun n mn HB S N sB hS hN => ?_) fun DB psB HB sB hDB hpB hlB prB => ?_
  · obtain ⟨m2, m1⟩ := List.mem_filter.mp mn
    have m1 := of_decide_eq_true m1
    walk_at "rx"
    refine ⟨rfl, ?_⟩
    walk_at "rx"
    refine y_dgetI (sB _ _ fA) (lkG_get m2) ?_
    walk_at "rx"
    refine y_dgetI (sB _ _ eA) (lkG_get m1) ?_
    walk_at "rx"
    refine y_dec (fun c => ?_) (fun c => ?_)
    · walk_at "rx"
      refine y_dgetI (sB _ _ fA) (lkG_get m2) ?_
      walk_at "rx"
      refine y_dgetI (sB _ _ eA) (lkG_get m1) ?_
      walk_at "rx"
      intro tp htp
      exact hS (decide_eq_true c) _ tp (Same.refl _) htp
    · walk_at "rx"
      exact hN (decide_eq_false c) _ (Same.refl _)
  walk_at "rx"
  intro t ht
  have sC := Same.new (o := .tup [.ref D6, .ref D8, .ref DB]) ht
  have prB : Paired (TrR HB) psB (cGrownL g1 g2) := by
    have h := paired_mapG (G := TrR HB) (f := fun n => (n, lkG g2 n - lkG g1 n)) prB fun _ _ z => z
    rw [List.filter_filter] at h
    unfold cGrownL
    have e : (fun n => decide (n ∈ g1.map (·.1)) && decide (lkG g2 n > lkG g1 n)) = fun n => decide (lkG g2 n > lkG g1 n) && decide (n ∈ g1.map (·.1)) := by funext n; exact Bool.and_comm _ _
    rw [e]
    exact h
  refine q t _ (sA'.trans (sB.trans sC)) (same_none sA' (same_none sB ht)) ⟨D6, D8, DB, psB, upd_same, ⟨D60, D80, same_none sA' hDB⟩, sC _ _ (sB _ _ hl6A), sC _ _ (sB _ _ hl8A), sC _ _ hlB, Paired.mapP prB fun _ _ z => sC _ _ z⟩ fun l1 l2 l3 e => ?_
  rw [upd_same] at e
  injection e with e
  injection e with e
  injection e with e1 e
  injection e with e2 e
  injection e with e3 e
  cases e1
  cases e2
  cases e3
  exact ⟨ne_of_none hl7 hD8, ne_of_none hl6A hDB, ne_of_none hl8A hDB⟩
end

/-! ### leak -/
section
noncomputable def gsP (phs : List (List AV × List PRow)) : List (List (Int × Int)) := phs.map fun p => totPL p.1 p.2
/-- each more than the one ahead -/
def upB (sz : List Int) : Bool := decide (((List.range (sz.length - 1)).filter fun i => decide (sz.getD (i + 1) 0 ≤ sz.getD i 0)) = [])
def inAll (gs : List (List (Int × Int))) (n : Int) : Bool := gs.all fun g => decide (n ∈ g.map (·.1))
def someG (gs : List (List (Int × Int))) : List Int := ((gs.headD []).map (·.1)).filter fun n => inAll gs n && upB (gs.map fun g => lkG g n)
noncomputable def leakP (phs : List (List AV × List PRow)) : List Int := (someG (gsP phs)).filter fun n => decide (((keepL (phs.getLastD ([], [])).1 (phs.getLastD ([], [])).2 n).filter fun o => decide (o ∈ someG (gsP phs))) = [n])
theorem leakP_len {phs : List (List AV × List PRow)} : (leakP phs).length ≤ ((gsP phs).headD []).length := by
  unfold leakP someG
  refine Nat.le_trans (List.length_filter_le ..) (Nat.le_trans (List.length_filter_le ..) ?_)
  rw [List.length_map]; exact Nat.le_refl _
theorem lcj_R1 {H : Hp} {lo : Int} {m : Nat} : LcJ (Itr lo m) H ((List.range m).map fun (i : Nat) => V.int (lo + (i : Int))) := fun g tt te vs σ Q P h0 hS hs hd => by
  intro D hD
  refine lc_range (lo := lo) (n := m) (Qd := Q (.ref D)) (LcP P D) ⟨[], upd_same, Nat.zero_le _, h0 D hD⟩ (fun i H' hi ⟨acc, e, l, p⟩ => ?_) fun H' ⟨acc, e, _, p⟩ => hd D acc H' hD e (by rw [List.length_map, List.length_range]; exact p)
  exact hs D i _ acc H' hD (by rw [List.getElem?_map, List.getElem?_range hi]; rfl) e l p
theorem eqV_int {x y : Int} : eqV (.int x) (.int y) = decide (y = x) := by
  by_cases h : x = y
  · subst h; simp [eqV]
  · have h2 : ¬ y = x := fun z => h z.symm
    simp [eqV, h, h2]
theorem inI {x : Int} {ns : List Int} : inV (.int x) (ns.map V.int) = decide (x ∈ ns) := by
  induction ns with
  | nil => rfl
  | cons n ns ih =>
    have ih' : ((ns.map V.int).any fun y => eqV y (.int x)) = decide (x ∈ ns) := ih
    show ((V.int n :: ns.map V.int).any fun y => eqV y (.int x)) = _
    rw [List.any_cons, ih', eqV_int]
    by_cases h : x = n
    · subst h; simp
    · simp [h]
theorem flat_I {ns : List Int} : (ns.map V.int).all flatV = true := List.all_eq_true.mpr fun v m => by
  obtain ⟨_, _, rfl⟩ := List.mem_map.mp m
  rfl
theorem y_inI {K : PySem.W.Frag} {H : Hp} {Q : VK} {x : Int} {ns : List Int} {l : Addr} (h : H l = some (.lst (ns.map V.int))) (q : Q (.bl (decide (x ∈ ns))) H) : rIn K false (.int x) (.ref l) H Q :=
  ⟨l, _, rfl, .inl (sqL h), rfl, flat_I, by show Q (.bl (inV (.int x) (ns.map V.int))) H; rw [inI]; exact q⟩
theorem y_notInI {K : PySem.W.Frag} {H : Hp} {Q : VK} {x : Int} {ns : List Int} {l : Addr} (h : H l = some (.lst (ns.map V.int))) (q : Q (.bl (!decide (x ∈ ns))) H) : rIn K true (.int x) (.ref l) H Q :=
  ⟨l, _, rfl, .inl (sqL h), rfl, flat_I, by show Q (.bl (!inV (.int x) (ns.map V.int))) H; rw [inI]; exact q⟩
theorem y_eqII {K : PySem.W.Frag} {H : Hp} {Q : VK} {p l : Addr} {ns ms : List Int} (h : SqL K H p (ns.map V.int)) (h2 : SqL K H l (ms.map V.int)) (q : Q (.bl (decide (ns = ms))) H) : rEqD K (.ref p) (.ref l) H Q :=
  ⟨_, _, .lst h (dp_ints ns), .lst h2 (dp_ints ms), shaped_ints ns, shaped_ints ms, by rw [eqv_ints]; exact q⟩
theorem y_neII {K : PySem.W.Frag} {H : Hp} {Q : VK} {p l : Addr} {ns ms : List Int} (h : SqL K H p (ns.map V.int)) (h2 : SqL K H l (ms.map V.int)) (q : Q (.bl (!decide (ns = ms))) H) : rNeD K (.ref p) (.ref l) H Q :=
  ⟨_, _, .lst h (dp_ints ns), .lst h2 (dp_ints ms), shaped_ints ns, shaped_ints ms, by rw [eqv_ints]; exact q⟩
end
section
variable {P : Program} {w : World} {K : PySem.W.Frag} {mg : Str → Option Value} {base : Heap}
def PhP (H : Hp) (v : V) (p : List AV × List PRow) : Prop := PhG H v p.1 p.2 ∧ PhK p.1 p.2
abbrev spLeak (K : PySem.W.Frag) : Sp := Sp1 fun x H Q => ∃ (l : Addr) (vs : List V) (phs : List (List AV × List PRow)), x = .ref l ∧ H l = some (.lst vs) ∧ Paired (PhP H) vs phs ∧ 2 ≤ vs.length ∧ vs.length ≤ 8 ∧
  ∀ (r : Addr) (H' : Hp), Same H H' → H r = none → H' r = some (.lst ((leakP phs).map V.int)) → Q (.ref r) H'
theorem cal_leak (T : Tx w K mg base) : Cal P w K mg base 5 "leak" (spLeak K) [] := by
  obtain ⟨fd, F⟩ := T.fn_leak
  refine cal_of F T.g_leak sc_leak (F.bindsN fun _ _ _ _ _ _ us hl => match us, hl with | [_], _ => rfl) (fun vs H Q E h => h.len) (fun cdv A outer s H vs Q E hr h => ?_)
  obtain ⟨x, rfl, l, vs, phs, rfl, hl, pp, n2, n8, q⟩ := h
  have hu := hu_of hr
  have nd := sc_leak.nd
  refine ⟨_, (pss_cons (ps_if (pt_not (pt_chain op_le op_le (pe_gc rfl T.k_LEAST) (pe_callB call_len_seq (by rfl) T.n_len PySem.boot_len (pa_cons (pv 0) pa_nil)) (pe_gc rfl T.k_MOST))) (pss_one ps_never) pss_nil) (pss_cons (ps_setLc (i := 1) (own := [("photo", 5)]) (by rfl) nd rfl rfl (sw_true rfl rfl rfl (by decide +kernel)) (pi_list (pv 0)) (blkOk_by (own := [("photo", 5)]) (N := N_leak) (sc := (C8.fnScope s_leak)) (by decide +kernel)) (fun _ _ _ _ _ => (pg_name (i := 5) nd rfl (Or.inl rfl))) (fun _ _ _ _ _ => pts_nil) (fun _ _ _ _ _ => (pe_callTy (call_dictPK (K := K) rfl rfl) (by rfl) T.n_dict (by decide +kernel) (pa_cons (pe_c (cal_totals T) hr (by decide) (by rfl) (pa_cons (pv 5) pa_nil)) pa_nil)))) (pss_cons (ps_set (i := 2) nd rfl (Or.inr rfl) (pe_lst pa_nil)) (pss_cons (ps_for PassesOwn.never rfl (pi_list (pe_callB (call_sortedDN rfl) (by rfl) T.n_sorted (by decide +kernel) (pa_cons (pe_ix ix_list (pv 1) pe_int (fun _ _ => rfl)) pa_nil))) (pg_name (i := 3) nd rfl (Or.inr rfl)) (pss_cons (ps_set (i := 4) nd rfl (Or.inr rfl) (pe_lc (own := [("row", 6)]) (by rfl) nd (pi_list (pv 1)) (blkOk_by (own := [("row", 6)]) (N := N_leak) (sc := (C8.fnScope s_leak)) (by decide +kernel)) (fun _ _ _ _ _ => (pg_name (i := 6) nd rfl (Or.inl rfl))) (fun _ _ _ _ _ => (pts_one (pt_cmp (pc_din hu (pv 3) (pv 6))))) (fun _ _ _ _ _ => (pe_dget hu (pv 6) (pv 3) (fun _ _ => rfl))))) (pss_one (ps_if (PW.pt (pw_and (pt_cmpR op_eq (pe_callB call_len_seq (by rfl) T.n_len PySem.boot_len (pa_cons (pv 4) pa_nil)) (pe_callB call_len_seq (by rfl) T.n_len PySem.boot_len (pa_cons (pv 1) pa_nil)) (nomark _)) (pw_and1 (pt_cmpR (op_eqD hr.units) (pe_lc (own := [("k", 7)]) (by rfl) nd (pi_range2 (by rfl) T.n_range (pa_cons pe_int (pa_cons (pe_callB call_len_seq (by rfl) T.n_len PySem.boot_len (pa_cons (pv 4) pa_nil)) pa_nil))) (blkOk_by (own := [("k", 7)]) (N := N_leak) (sc := (C8.fnScope s_leak)) (by decide +kernel)) (fun _ _ _ _ _ => (pg_name (i := 7) nd rfl (Or.inl rfl))) (fun _ _ _ _ _ => (pts_one (pt_cmpR op_le (pe_ix (ix_listK (K := K) rfl) (pv 4) (pv 7) (fun _ _ => rfl)) (pe_ix (ix_listK (K := K) rfl) (pv 4) (pe_op op_sub (pv 7) pe_int) (fun _ _ => rfl)) (nomark _)))) (fun _ _ _ _ _ => (pv 7))) (pe_lst pa_nil) (nomark _))))) (pss_one (ps_expr (pe_bm PySem.F.plainAttrs_list PySem.F.slot_list_append PySem.F.type_list_append mt_append (pv 2) (pa_cons (pv 3) pa_nil)))) pss_nil)))) (pss_one (ps_ret (pe_lc (own := [("number", 3)]) (by rfl) nd (pi_list (pv 2)) (blkOk_by (own := [("number", 3)]) (N := N_leak) (sc := (C8.fnScope s_leak)) (by decide +kernel)) (fun _ _ _ _ _ => (pg_name (i := 3) nd rfl (Or.inl rfl))) (fun _ _ _ _ _ => (pts_one (pt_cmpR (op_eqDK (K := K) rfl hr.units) (pe_lc (own := [("one", 8)]) (by rfl) nd (pi_listK (K := K) rfl (pe_c (cal_keeps T) hr (by decide) (by rfl) (pa_cons (pe_ix (ix_listK (K := K) rfl) (pv 0) (pe_un un_neg pe_int) (fun _ _ => rfl)) (pa_cons (pv 3) pa_nil)))) (blkOk_by (own := [("one", 8)]) (by kernel_rfl)) (fun _ _ _ _ _ => (pg_name (i := 8) nd rfl (Or.inl rfl))) (fun _ _ _ _ _ => (pts_one (pt_cmpR (op_in_seqK (K := K) rfl) (pv 8) (pv 2) (by rfl)))) (fun _ _ _ _ _ => (pv 8))) (pe_lst (pa_cons (pv 3) pa_nil)) (nomark _)))) (fun _ _ _ _ _ => (pv 3))))))))), ?_⟩
  have pl : vs.length = phs.length := Paired.length pp
  walk_at "sx"
  refine x_c ?_
  walk_at "rx"
  refine y_lenL (sqL hl) ?_
  walk_at "rx"
  refine y_T (show (2 : Int) ≤ (vs.length : Int) by omega) ?_
  walk_at "rx"
  refine y_nF (show (vs.length : Int) ≤ 8 by omega) ?_
  walk_at "rx"
  refine y_iL (sqL hl) ?_
  have gl : (gsP phs).length = vs.length := by unfold gsP; rw [List.length_map, pl]
  refine y_lcL (xs := vs) (fun D i acc H' => Same H H' ∧ ∃ ds : List Addr, acc = ds.map V.ref ∧ Paired (fun d g => H' d = some (.dK (szK g))) ds ((gsP phs).take i)) (fun D hD => ⟨Same.new hD, [], rfl, .nil⟩) (fun D i acc H' hD _ h => sqL (h.1 _ _ hl)) ?_ ?_
  · rintro D i v acc H1 hD hi hDl hle ⟨s1, ds, rfl, pd⟩
    obtain ⟨ph, hph, pg, pk⟩ := paired_get pp hi
    have il := (List.getElem?_eq_some_iff.mp hi).1
    have eg : (gsP phs)[i]? = some (totPL ph.1 ph.2) := by unfold gsP; rw [List.getElem?_map, hph]; rfl
    refine y_turn ?_
    walk_at "rx"
    refine ⟨rfl, y_yes (y_tt ?_)⟩
    walk_at "rx"
    refine ⟨_, rfl, ph.1, ph.2, pg.same s1, pk, fun l1 ps1 H2 s2 _ _ hl1 pr1 => ?_⟩
    walk_at "rx"
    refine y_dPg hl1 pr1 fun d hd => ?_
    have a1 : ((totPL ph.1 ph.2).map (·.1)).Pairwise (· < ·) := by rw [totPL_keys]; exact pk.srt
    rw [szK_merge a1]
    have s3 := s2.trans (Same.new (o := .dK (szK (totPL ph.1 ph.2))) hd)
    have d3 : upd H2 d (.dK (szK (totPL ph.1 ph.2))) d = some (.dK (szK (totPL ph.1 ph.2))) := upd_same
    generalize upd H2 d (.dK (szK (totPL ph.1 ph.2))) = H3 at s3 d3 ⊢
    have hD3 := s3 _ _ hDl
    have nD : ∀ {b : Addr} {k : List (Key × V)}, H3 b = some (.dK k) → b ≠ D := fun e z => by rw [z, hD3] at e; cases e
    refine y_put hD3 hle (by omega) ⟨same_fresh (s1.trans s3) hD, ds ++ [d], by rw [List.map_append]; rfl, ?_⟩
    rw [take_snoc eg]
    exact Paired.app (Paired.mapP pd fun b g z => (upd_ne (nD (s3 _ _ z))).trans (s3 _ _ z)) ((upd_ne (nD d3)).trans d3)
  rintro D acc H1 hD hDl ⟨s1, ds, rfl, pd⟩
  rw [List.take_of_length_le (by omega)] at pd
  have ph1 : Paired (PhP H1) vs phs := Paired.mapP pp fun _ _ z => ⟨z.1.same s1, z.2⟩
  have hl1 := s1 _ _ hl
  walk_at "rx"
  intro ps hps
  have s2 := s1.trans (Same.new (o := .lst []) hps)
  have D2 := Same.new (o := .lst []) hps _ _ hDl
  have pd2 : Paired (fun d g => upd H1 ps (.lst []) d = some (.dK (szK g))) ds (gsP phs) := Paired.mapP pd fun _ _ z => Same.new (o := .lst []) hps _ _ z
  have ps2 : upd H1 ps (.lst []) ps = some (.lst (([] : List Int).map V.int)) := upd_same
  have ps0 := same_none s1 hps
  generalize upd H1 ps (.lst []) = H2 at s2 D2 pd2 ps2 ⊢
  obtain ⟨zl, z1, z2, z3⟩ := paired_zip pd2
  have lzl : zl.length = vs.length := by rw [← List.length_map (f := (·.2)), z2, gl]
  have ezl : zl.map (fun z => V.ref z.1) = ds.map V.ref := by rw [show zl.map (fun z => V.ref z.1) = (zl.map (·.1)).map V.ref from by rw [List.map_map]; rfl, z1]
  obtain ⟨zh, hzh⟩ : ∃ zh, zl[0]? = some zh := ⟨_, List.getElem?_eq_getElem (by omega)⟩
  have mzh := List.mem_of_getElem? hzh
  have hd0 : (gsP phs).headD [] = zh.2 := by
    rw [← z2]
    cases zl with
    | nil => cases hzh
    | cons x zl => cases hzh; rfl
  have gok : ∀ z ∈ zl, (z.2.map (·.1)).Pairwise (· < ·) ∧ z.2.length ≤ 8000 := fun z m => by
    have : z.2 ∈ gsP phs := by rw [← z2]; exact List.mem_map.mpr ⟨z, m, rfl⟩
    obtain ⟨ph, mp, e⟩ := List.mem_map.mp this
    obtain ⟨i, hi⟩ := List.mem_iff_getElem?.mp mp
    obtain ⟨v, hv, _, pk⟩ := paired_getR pp hi
    rw [← e]
    exact ⟨by rw [totPL_keys]; exact pk.srt, totPL_len pk⟩
  walk_at "rx"
  refine y_ixL (v := .ref zh.1) D2 (atI_nat (j := 0) (by rw [← ezl, List.getElem?_map, hzh]; rfl)) ?_
  walk_at "rx"
  refine ⟨zh.1, _, zh.2.map (·.1), rfl, .inl (z3 zh mzh), szK_keys, fun ys p pm sr hp => ?_⟩
  have := sort_self (gok zh mzh).1 pm sr
  subst this
  have s3 := s2.trans (Same.new (o := .lst ((zh.2.map (·.1)).map V.int)) hp)
  have sN := Same.new (o := .lst ((zh.2.map (·.1)).map V.int)) hp
  have p3 : upd H2 p (.lst ((zh.2.map (·.1)).map V.int)) p = some (.lst ((zh.2.map (·.1)).map V.int)) := upd_same
  have D3 := sN _ _ D2
  have ps3 := sN _ _ ps2
  have z33 := fun z m => sN _ _ (z3 z m)
  generalize upd H2 p (.lst ((zh.2.map (·.1)).map V.int)) = H3 at s3 p3 D3 ps3 z33 ⊢
  refine y_iL (sqL p3) ?_
  have npp : p ≠ ps := fun z => by rw [z, ps2] at hp; cases hp
  refine y_forL (xs := (zh.2.map (·.1)).map V.int) (fun i σ H' => ∃ u3 u4 u5 u6 u7 u8, σ = [some (.ref l), some (.ref D), some (.ref ps), u3, u4, u5, u6, u7, u8] ∧ Same H H' ∧ H' p = some (.lst ((zh.2.map (·.1)).map V.int)) ∧ H' D = some (.lst (ds.map V.ref)) ∧ (∀ z ∈ zl, H' z.1 = some (.dK (szK z.2))) ∧ H' ps = some (.lst ((((zh.2.map (·.1)).take i).filter fun n => inAll (gsP phs) n && upB ((gsP phs).map fun g => lkG g n)).map V.int)))
    ⟨_, _, _, _, _, _, rfl, s3, p3, D3, z33, by rw [List.take_zero]; exact ps3⟩ (fun i σ H' _ h => by obtain ⟨_, _, _, _, _, _, _, _, h, _⟩ := h; exact sqL h) ?_ ?_
  · rintro i y σ H4 hi ⟨u3, u4, u5, u6, u7, u8, rfl, s4, p4, D4, z34, ps4⟩
    rw [List.getElem?_map] at hi
    obtain ⟨n, hn, rfl⟩ := Option.map_eq_some_iff.mp hi
    walk_at "rx"
    refine y_iL (sqL D4) ?_
    refine y_lcFi (l := zl) (c := fun z => V.ref z.1) (p := fun z => decide (n ∈ z.2.map (·.1))) (h := fun z => .int (lkG z.2 n)) (lcj_L (by rw [ezl]; exact sqL D4)) (by omega) (fun z mz H5 S N s5 hS hN => ?_) fun D5 H5 s5 hD5 hl5 => ?_
    · walk_at "rx"
      refine ⟨rfl, ?_⟩
      walk_at "rx"
      refine y_din (j := .inl n) (.inl (s5 _ _ (z34 z mz))) rfl ?_
      rw [szK_has]
      walk_at "rx"
      refine y_dec (fun c => ?_) (fun c => ?_)
      · walk_at "rx"
        refine y_dgetI (s5 _ _ (z34 z mz)) (lkG_get c) ?_
        exact hS (decide_eq_true c) _ (Same.refl _)
      · exact hN (decide_eq_false c) _ (Same.refl _)
    have hl5 : H5 D5 = some (.lst (((zl.filter fun z => decide (n ∈ z.2.map (·.1))).map fun z => lkG z.2 n).map V.int)) := by rw [List.map_map]; exact hl5
    have p5 := s5 _ _ p4
    have D45 := s5 _ _ D4
    have z35 := fun z m => s5 _ _ (z34 z m)
    have ps5 := s5 _ _ ps4
    have s05 := s4.trans s5
    walk_at "rx"
    refine y_lenL (sqL hl5) ?_
    walk_at "rx"
    refine y_lenL (sqL D45) ?_
    walk_at "rx"
    have e_in : inAll (gsP phs) n = true ↔ ∀ z ∈ zl, n ∈ z.2.map (·.1) := by
      unfold inAll
      rw [← z2, List.all_map, List.all_eq_true]
      exact forall_congr' fun z => imp_congr Iff.rfl (by show decide _ = true ↔ _; rw [decide_eq_true_iff])
    have ezs : (gsP phs).map (fun g => lkG g n) = zl.map fun z => lkG z.2 n := by rw [← z2, List.map_map]; rfl
    have e1 : ∀ b : Bool, (inAll (gsP phs) n && upB ((gsP phs).map fun g => lkG g n)) = b → ((((zh.2.map (·.1)).take (i + 1)).filter fun n => inAll (gsP phs) n && upB ((gsP phs).map fun g => lkG g n)).map V.int) = ((((zh.2.map (·.1)).take i).filter fun n => inAll (gsP phs) n && upB ((gsP phs).map fun g => lkG g n)).map V.int) ++ (if b = true then [V.int n] else []) := fun b hb => by
      rw [take_snoc hn, List.filter_append, List.map_append, List.filter_cons, hb]
      cases b <;> rfl
    have lps : ((((zh.2.map (·.1)).take i).filter fun n => inAll (gsP phs) n && upB ((gsP phs).map fun g => lkG g n)).map V.int).length ≤ 8000 := by
      rw [List.length_map]
      refine Nat.le_trans (List.length_filter_le ..) ?_
      rw [List.length_take, List.length_map]
      have := (gok zh mzh).2
      omega
    by_cases c : ∀ z ∈ zl, n ∈ z.2.map (·.1)
    · have ef : zl.filter (fun z => decide (n ∈ z.2.map (·.1))) = zl := List.filter_eq_self.mpr fun z m => decide_eq_true (c z m)
      rw [ef] at hl5 ⊢
      refine y_T (by rw [List.length_map, List.length_map, List.length_map, ← z1, List.length_map]) ?_
      walk_at "rx"
      refine y_lenL (sqL hl5) ?_
      walk_at "rx"
      have lz : ((zl.map fun z => lkG z.2 n).map V.int).length = zl.length := by rw [List.length_map, List.length_map]
      rw [lz]
      refine ⟨1, (zl.length : Int), rfl, ⟨by decide, by decide, by omega, by omega⟩, ?_⟩
      rw [show ((zl.length : Int) - 1).toNat = zl.length - 1 by omega]
      have gD : ∀ j : Nat, j < zl.length → ((zl.map fun z => lkG z.2 n).map V.int)[j]? = some (V.int ((zl.map fun z => lkG z.2 n).getD j 0)) := fun j hj => by
        rw [List.getElem?_map, List.getD_eq_getElem?_getD, List.getElem?_map, List.getElem?_eq_getElem hj]; rfl
      refine y_lcFi (l := List.range (zl.length - 1)) (c := fun (i : Nat) => V.int (1 + (i : Int))) (p := fun i => decide ((zl.map fun z => lkG z.2 n).getD (i + 1) 0 ≤ (zl.map fun z => lkG z.2 n).getD i 0)) (h := fun (i : Nat) => V.int (1 + (i : Int))) lcj_R1 (by rw [List.length_range]; omega) (fun j mj H6 S N s6 hS hN => ?_) fun D6 H6 s6 hD6 hl6 => ?_
      · have lj := List.mem_range.mp mj
        walk_at "rx"
        refine ⟨rfl, ?_⟩
        walk_at "rx"
        refine y_ixL (s6 _ _ hl5) (at_get (j := j + 1) (by omega) (gD (j + 1) (by omega))) ?_
        walk_at "rx"
        refine y_ixL (s6 _ _ hl5) (at_get (j := j) (by omega) (gD j (by omega))) ?_
        walk_at "rx"
        refine y_dec (fun c1 => ?_) (fun c1 => ?_)
        · walk_at "rx"
          exact hS (decide_eq_true c1) _ (Same.refl _)
        · exact hN (decide_eq_false c1) _ (Same.refl _)
      walk_at "rx"
      intro e he
      have s7 := s05.trans (s6.trans (Same.new (o := .lst []) he))
      have l7 := Same.new (o := .lst []) he _ _ hl6
      have p7 := Same.new (o := .lst []) he _ _ (s6 _ _ p5)
      have D7 := Same.new (o := .lst []) he _ _ (s6 _ _ D45)
      have z37 := fun z m => Same.new (o := .lst []) he _ _ (s6 _ _ (z35 z m))
      have ps7 := Same.new (o := .lst []) he _ _ (s6 _ _ ps5)
      have e7 : upd H6 e (.lst []) e = some (.lst []) := upd_same
      generalize upd H6 e (.lst []) = H7 at s7 l7 p7 D7 z37 ps7 e7 ⊢
      refine y_eqNil (ns := ((List.range (zl.length - 1)).filter fun i => decide ((zl.map fun z => lkG z.2 n).getD (i + 1) 0 ≤ (zl.map fun z => lkG z.2 n).getD i 0)).map fun (i : Nat) => (1 + (i : Int))) (by rw [List.map_map]; exact sqL l7) (sqL e7) ?_
      have eu : (((List.range (zl.length - 1)).filter fun i => decide ((zl.map fun z => lkG z.2 n).getD (i + 1) 0 ≤ (zl.map fun z => lkG z.2 n).getD i 0)).map (fun (i : Nat) => (1 + (i : Int))) = []) ↔ (inAll (gsP phs) n && upB ((gsP phs).map fun g => lkG g n)) = true := by
        rw [List.map_eq_nil_iff, e_in.mpr c, Bool.true_and, ezs]
        unfold upB
        rw [decide_eq_true_iff, List.length_map]
      walk_at "rx"
      refine y_dec (fun c1 => ?_) (fun c1 => ?_)
      · have hz := small9000 (Nat.le_trans lps (by decide : 8000 ≤ 9000))
        walk_at "rx"
        have nps : ∀ {b : Addr} {k : List (Key × V)}, H7 b = some (.dK k) → b ≠ ps := fun e z => by rw [z, ps7] at e; cases e
        refine ⟨_, _, _, _, _, _, rfl, same_fresh s7 ps0, by rw [upd_ne npp]; exact p7, ?_, fun z m => by rw [upd_ne (nps (z37 z m))]; exact z37 z m, ?_⟩
        · rw [upd_ne fun z => by rw [z, ps2] at D2; cases ds with
            | nil => simp at z1; rw [z1] at hzh; cases hzh
            | cons => cases D2]
          exact D7
        · rw [upd_same, e1 true (eu.mp c1), if_pos rfl]
      · walk_at "rx"
        refine ⟨_, _, _, _, _, _, rfl, s7, p7, D7, z37, ?_⟩
        rw [e1 false (by cases hb : (inAll (gsP phs) n && upB ((gsP phs).map fun g => lkG g n)) with
          | true => exact absurd (eu.mpr hb) c1
          | false => rfl), if_neg Bool.false_ne_true, List.append_nil]
        exact ps7
    · refine y_F (fun z => c fun x m => ?_) ?_
      · have z := V.int.inj z
        rw [List.length_map, List.length_map, List.length_map, ← z1, List.length_map] at z
        have := List.length_filter_eq_length_iff.mp (by omega : (zl.filter fun z => decide (n ∈ z.2.map (·.1))).length = zl.length) x m
        exact of_decide_eq_true this
      · walk_at "rx"
        refine ⟨_, _, _, _, _, _, rfl, s05, p5, D45, z35, ?_⟩
        rw [e1 false (by
          have : inAll (gsP phs) n = false := by cases hb : inAll (gsP phs) n with
            | true => exact absurd (e_in.mp hb) c
            | false => rfl
          rw [this, Bool.false_and]), if_neg Bool.false_ne_true, List.append_nil]
        exact ps5
  · rintro σ H4 ⟨u3, u4, u5, u6, u7, u8, rfl, s4, p4, D4, z34, ps4⟩
    rw [List.length_map, List.take_length, ← hd0] at ps4
    have ps4 : H4 ps = some (.lst ((someG (gsP phs)).map V.int)) := ps4
    walk_at "rx"
    have lso : (someG (gsP phs)).length ≤ 8000 := by
      unfold someG
      refine Nat.le_trans (List.length_filter_le ..) ?_
      rw [hd0, List.length_map]
      exact (gok zh mzh).2
    obtain ⟨vl, hvl⟩ : ∃ vl, vs[vs.length - 1]? = some vl := ⟨_, List.getElem?_eq_getElem (by omega)⟩
    obtain ⟨pL, hpL, gL, kL⟩ := paired_get pp hvl
    have eL : phs.getLastD ([], []) = pL := by
      rw [List.getLastD_eq_getLast?, List.getLast?_eq_getElem?, ← pl, hpL]; rfl
    have aL : atI vs (-1) = some vl := by
      have : vs.getLast? = some vl := by rw [List.getLast?_eq_getElem?, hvl]
      obtain ⟨ys, rfl⟩ := List.getLast?_eq_some_iff.mp this
      exact atI_lastV
    have kn : ∀ n ∈ someG (gsP phs), n ∈ keyL pL.2 := fun n mn => by
      unfold someG at mn
      obtain ⟨_, h⟩ := List.mem_filter.mp mn
      rw [Bool.and_eq_true] at h
      have hm : totPL pL.1 pL.2 ∈ gsP phs := List.mem_map.mpr ⟨pL, List.mem_of_getElem? hpL, rfl⟩
      have := of_decide_eq_true (List.all_eq_true.mp h.1 _ hm)
      rw [totPL_keys] at this
      exact this
    have hl4 := s4 _ _ hl
    refine y_iL (sqL ps4) ?_
    refine y_lcFi (l := someG (gsP phs)) (c := V.int) (p := fun n => decide ((keepL pL.1 pL.2 n).filter (fun o => decide (o ∈ someG (gsP phs))) = [n])) (h := V.int) (lcj_L (sqL ps4)) (by omega) (fun n mn H5 S N s5 hS hN => ?_) fun D5 H5 s5 hD5 hl5 => ?_
    · walk_at "rx"
      refine ⟨rfl, ?_⟩
      walk_at "rx"
      refine y_U ?_
      refine y_ixL (s5 _ _ hl4) aL ?_
      walk_at "rx"
      refine ⟨_, _, rfl, pL.1, pL.2, n, gL.same (s4.trans s5), kL, rfl, kn n mn, fun kl H6 s6 _ hkl => ?_⟩
      refine y_iL (sqL hkl) ?_
      have lkl : (keepL pL.1 pL.2 n).length ≤ 8000 := by
        unfold keepL
        refine Nat.le_trans (List.length_filter_le ..) ?_
        unfold keyL
        rw [List.length_map]
        exact kL.ok.lr
      refine y_lcFi (l := keepL pL.1 pL.2 n) (c := V.int) (p := fun o => decide (o ∈ someG (gsP phs))) (h := V.int) (lcj_L (sqL hkl)) (by omega) (fun o mo H7 S2 N2 s7 hS2 hN2 => ?_) fun D7 H7 s7 hD7 hl7 => ?_
      · walk_at "rx"
        refine ⟨rfl, ?_⟩
        walk_at "rx"
        refine y_inI (s7 _ _ (s6 _ _ (s5 _ _ ps4))) ?_
        walk_at "rx"
        refine y_dec (fun c1 => ?_) (fun c1 => ?_)
        · walk_at "rx"
          exact hS2 (decide_eq_true c1) _ (Same.refl _)
        · exact hN2 (decide_eq_false c1) _ (Same.refl _)
      walk_at "rx"
      intro e he
      have s8 := s6.trans (s7.trans (Same.new (o := .lst [V.int n]) he))
      have l8 := Same.new (o := .lst [V.int n]) he _ _ hl7
      refine y_eqII (ms := [n]) (sqL l8) (sqL upd_same) ?_
      walk_at "rx"
      refine y_dec (fun c1 => ?_) (fun c1 => ?_)
      · walk_at "rx"
        exact hS (decide_eq_true c1) _ s8
      · exact hN (decide_eq_false c1) _ s8
    walk_at "rx"
    refine q D5 H5 (s4.trans s5) (same_none s4 hD5) ?_
    unfold leakP
    rw [eL]
    exact hl5
end

section
variable {P : Program} {w : World} {K : PySem.W.Frag} {mg : Str → Option Value} {base : Heap}
/-! ### growing -/
noncomputable def turnM (ds es : List Deed) : Nat → HM
  | 0 => stF HM0 ds
  | n + 1 => stF (turnM ds es n) es
theorem turnM_ok {ds es : List Deed} (g : ∀ d ∈ ds, Good d) (g2 : ∀ d ∈ es, Good d) : ∀ n, (turnM ds es n).Ok ∧ (turnM ds es n).made ≤ ds.length + n * es.length
  | 0 => by
    have h := stF_ok HM0_ok g
    have : HM0.made = 0 := rfl
    refine ⟨h.1, ?_⟩
    show (stF HM0 ds).made ≤ _
    omega
  | n + 1 => by
    obtain ⟨ok, l⟩ := turnM_ok g g2 n
    have h := stF_ok ok g2
    refine ⟨h.1, ?_⟩
    show (stF (turnM ds es n) es).made ≤ _
    rw [Nat.add_mul, Nat.one_mul]
    omega
structure RunG (K : PySem.W.Frag) (H0 H : Hp) (G : Addr → Prop) (ad : Nat → Addr) (M : HM) (vm vw : V) : Prop where
  pm : PM K H ad M (List.range M.made) vm vw
  nw : ∀ b, PF ad M b → H0 b = none
  fr : Fr K NoF H0 H
  kp : ∀ x, H x = none → H0 x = none
  live : ∀ b, G b → H b ≠ none ∧ ¬ PF ad M b
section
variable {H0 H H1 : Hp} {G G' : Addr → Prop} {ad ad1 : Nat → Addr} {M : HM} {d : Deed} {vm vw vm1 vw1 v : V} {D : Addr} {xs ys : List V} {o : HO}
theorem RunG.step (I : RunG K H0 H G ad M vm vw) (ok : M.Ok) (R : PRes K H ad M H1 ad1 (doM M d).2 (ksOf M d (List.range M.made)) vm1 vw1) : RunG K H0 H1 G ad1 (doM M d).2 vm1 vw1 := by
  refine ⟨?_, fun b h => (R.new b h).elim (I.nw b) (I.kp b), I.fr.trans R.fr fun b h => .inr (I.nw b h), fun x h => I.kp x (R.kp x h), fun b g => ⟨fun z => (I.live b g).1 (R.kp b z), fun h => (R.new b h).elim (I.live b g).2 fun z => (I.live b g).1 z⟩⟩
  rw [← ksOf_range ok]; exact R.pm
theorem RunG.put (I : RunG K H0 H G ad M vm vw) (hD : G D) (hl : H D = some (.lst xs)) (h0 : H0 D = none) : RunG K H0 (upd H D (.lst ys)) G ad M vm vw := by
  have nD := (I.live D hD).2
  have f : Fr K (fun b => b = D) H (upd H D (.lst ys)) := Fr.upd rfl (by rw [hl]; trivial)
  exact ⟨I.pm.fr f fun b h z => nD (z ▸ h), I.nw, fr_fresh I.fr h0 (by rw [hl]; trivial), fun x h => I.kp x (upd_none h), fun b g => ⟨fun z => (I.live b g).1 (upd_none z), (I.live b g).2⟩⟩
theorem RunG.same (I : RunG K H0 H G ad M vm vw) (s : Same H H1) : RunG K H0 H1 G ad M vm vw :=
  ⟨I.pm.same s, I.nw, I.fr.tr (Fr.same s), fun x h => I.kp x (same_none s h), fun b g => ⟨fun z => (I.live b g).1 (same_none s z), (I.live b g).2⟩⟩
theorem RunG.more (I : RunG K H0 H G ad M vm vw) (s : Same H H1) (n : ∀ b, G' b → G b ∨ (H b = none ∧ H1 b ≠ none)) : RunG K H0 H1 G' ad M vm vw := by
  have J := I.same s
  refine ⟨J.pm, J.nw, J.fr, J.kp, fun b g => (n b g).elim (J.live b) fun z => ⟨z.2, fun h => PF.nn I.pm h z.1⟩⟩
end
theorem PhR.live {N : Addr → Prop} {H : Hp} {v : V} {M : HM} (h : PhR N H v M) : PhR (fun b => N b ∧ H b ≠ none) H v M := by
  obtain ⟨p, n, r, ns, rows, e, h1, h2, h3, h4, h5, h6, h7⟩ := h
  refine ⟨p, n, r, ns, rows, e, h1, ⟨h2, by rw [h4]; exact fun z => by cases z⟩, ⟨h3, by rw [h6]; exact fun z => by cases z⟩, h4, h5, h6, Paired.mapP h7 fun _ _ ⟨t, et, pl, ps, a1, a2, a3, a4⟩ => ⟨t, et, pl, ps, a1, ⟨a2, by rw [a3]; exact fun z => by cases z⟩, a3, a4⟩⟩
/-- photos, each with its own lists -/
structure Phs (H0 H : Hp) (r : Addr) (vs : List V) (N : Nat → Addr → Prop) (Ms : Nat → HM) : Prop where
  ph : ∀ i v, vs[i]? = some v → PhR (N i) H v (Ms i)
  new : ∀ i b, i < vs.length → N i b → H0 b = none ∧ H b ≠ none ∧ b ≠ r
  apart : ∀ i j b, i < vs.length → j < vs.length → N i b → N j b → i = j
theorem Phs.fr {K : PySem.W.Frag} {F : Addr → Prop} {H0 H H1 : Hp} {r : Addr} {vs : List V} {N : Nat → Addr → Prop} {Ms : Nat → HM} (h : Phs H0 H r vs N Ms) (f : Fr K F H H1) (n : ∀ i b, i < vs.length → N i b → ¬ F b) (kp : ∀ b, H1 b = none → H b = none) : Phs H0 H1 r vs N Ms :=
  ⟨fun i v e => (h.ph i v e).fr f (n i · (List.getElem?_eq_some_iff.mp e).1), fun i b l z => ⟨(h.new i b l z).1, fun y => (h.new i b l z).2.1 (kp b y), (h.new i b l z).2.2⟩, h.apart⟩
theorem Phs.add {K : PySem.W.Frag} {H0 H H1 : Hp} {r : Addr} {vs : List V} {v : V} {N : Nat → Addr → Prop} {Ms : Nat → HM} (h : Phs H0 H r vs N Ms) (s : Same H H1) (hr : H r = some (.lst vs)) (kp : ∀ b, H b = none → H0 b = none) (p : PhR (fun b => H b = none) H1 v (Ms vs.length)) :
    Phs H0 (upd H1 r (.lst (vs ++ [v]))) r (vs ++ [v]) (fun i b => if i = vs.length then H b = none ∧ H1 b ≠ none else N i b) Ms := by
  have f : Fr K (fun b => b = r) H1 (upd H1 r (.lst (vs ++ [v]))) := Fr.upd rfl (by rw [s _ _ hr]; trivial)
  have old : ∀ i b, i < vs.length → N i b → H b ≠ none := fun i b l z => (h.new i b l z).2.1
  refine ⟨fun i u e => ?_, fun i b l z => ?_, fun i j b li lj zi zj => ?_⟩
  · by_cases c : i = vs.length
    · subst c
      rw [List.getElem?_append_right (Nat.le_refl _), Nat.sub_self] at e
      cases e
      rw [show (fun b => if vs.length = vs.length then H b = none ∧ H1 b ≠ none else N vs.length b) = fun b => H b = none ∧ H1 b ≠ none from funext fun b => if_pos rfl]
      exact p.live.fr f fun b z e => by rw [e, hr] at z; cases z.1
    · have l : i < vs.length := by have := (List.getElem?_eq_some_iff.mp e).1; rw [List.length_append, List.length_singleton] at this; omega
      rw [List.getElem?_append_left l] at e
      rw [show (fun b => if i = vs.length then H b = none ∧ H1 b ≠ none else N i b) = N i from funext fun b => if_neg c]
      exact ((h.ph i u e).fr (Fr.same (K := K) (F := NoF) s) fun _ _ z => z).fr f fun b z => (h.new i b l z).2.2
  · by_cases c : i = vs.length
    · rw [if_pos c] at z
      exact ⟨kp b z.1, fun y => z.2 (upd_none y), fun e => by rw [e, hr] at z; cases z.1⟩
    · rw [if_neg c] at z
      have l : i < vs.length := by rw [List.length_append, List.length_singleton] at l; omega
      exact ⟨(h.new i b l z).1, fun y => old i b l z (same_none s (upd_none y)), (h.new i b l z).2.2⟩
  · rw [List.length_append, List.length_singleton] at li lj
    by_cases c : i = vs.length <;> by_cases c2 : j = vs.length
    · omega
    · rw [if_pos c] at zi; rw [if_neg c2] at zj
      exact absurd zi.1 (old j b (by omega) zj)
    · rw [if_neg c] at zi; rw [if_pos c2] at zj
      exact absurd zj.1 (old i b (by omega) zi)
    · rw [if_neg c] at zi; rw [if_neg c2] at zj
      exact h.apart i j b (by omega) (by omega) zi zj
abbrev spGrow (K : PySem.W.Frag) : Sp := Sp3 fun x y z H Q => ∃ (l l2 : Addr) (ps ps2 : List Addr) (ds es : List Deed) (m : Nat), x = .ref l ∧ y = .ref l2 ∧ z = .int (m : Int) ∧ PL H l ps ds ∧ ds.length ≤ 120 ∧ PL H l2 ps2 es ∧ es.length ≤ 120 ∧ 2 ≤ m ∧ m ≤ 8 ∧
  ∀ (r : Addr) (vs : List V) (N : Nat → Addr → Prop) (H' : Hp), H r = none → H' r = some (.lst vs) → vs.length = m → Phs H H' r vs N (fun i => turnM ds es (i + 1)) → Fr K NoF H H' → (∀ x, H' x = none → H x = none) → Q (.ref r) H'
theorem cal_growing (T : Tx w K mg base) : Cal P w K mg base 10 "growing" (spGrow K) [] := by
  obtain ⟨fd, F⟩ := T.fn_growing
  refine cal_of F T.g_growing sc_growing (F.bindsN fun _ _ _ _ _ _ us hl => match us, hl with | [_, _, _], _ => rfl) (fun vs H Q E h => h.len) (fun cdv A outer s H vs Q E hr h => ?_)
  obtain ⟨x, y, z, rfl, l, l2, ps, ps2, ds, es, m, rfl, rfl, rfl, pl, l120, pl2, l1202, m2, m8, q⟩ := h
  have hu := hu_of hr
  have nd := sc_growing.nd
  refine ⟨_, (pss_cons (ps_expr (pe_c (cal_need_program T) hr (by decide) (by rfl) (pa_cons (pv 0) pa_nil))) (pss_cons (ps_expr (pe_c (cal_need_program T) hr (by decide) (by rfl) (pa_cons (pv 1) pa_nil))) (pss_cons (ps_if (pt_not (pt_chain op_le op_le (pe_gc rfl T.k_LEAST) (pv 2) (pe_gc rfl T.k_MOST))) (pss_one ps_never) pss_nil) (pss_cons (ps_set (i := 3) nd rfl (Or.inl rfl) (pe_mk0 (mak_Plain T) hr (by decide) (by rfl))) (pss_cons (ps_for PassesOwn.never rfl (pi_list (pv 0)) (pg_name (i := 4) nd rfl (Or.inl rfl)) (pss_one (ps_expr (pe_mt (met_Plain_do T) hr (by decide) (pv 3) (pa_cons (pv 4) pa_nil))))) (pss_cons (ps_set (i := 5) nd rfl (Or.inl rfl) (pe_lst pa_nil)) (pss_cons (ps_for PassesOwn.never rfl (pi_range1 (by rfl) T.n_range (pa_cons (pv 2) pa_nil)) (pg_name (i := 6) nd rfl (Or.inl rfl)) (pss_cons (ps_for PassesOwn.never rfl (pi_list (pv 1)) (pg_name (i := 4) nd rfl (Or.inl rfl)) (pss_one (ps_expr (pe_mt (met_Plain_do T) hr (by decide) (pv 3) (pa_cons (pv 4) pa_nil))))) (pss_one (ps_expr (pe_bm PySem.F.plainAttrs_list PySem.F.slot_list_append PySem.F.type_list_append mt_append (pv 5) (pa_cons (pe_mt0 (met_Plain_photo T) hr (by decide) (pv 3)) pa_nil)))))) (pss_one (ps_ret (pv 5)))))))))), ?_⟩
  walk_at "sx"
  refine ⟨l, ps, ds, rfl, pl, l120, fun H1 s1 => ?_⟩
  walk_at "rx"
  refine ⟨l2, ps2, es, rfl, ⟨s1 _ _ pl2.1, Paired.mapP pl2.2 fun _ _ z => ⟨s1 _ _ z.1, z.2⟩⟩, l1202, fun H2 s2 => ?_⟩
  walk_at "rx"
  refine x_c (x_var rfl (y_I0 ⟨_, rfl, y_T (show (2 : Int) ≤ (m : Int) by omega) (x_c (y_I0 ⟨_, rfl, y_nF (show (m : Int) ≤ 8 by omega) ?_⟩))⟩))
  walk_at "rx"
  intro a dx ha hdx ndx
  refine x_sm0 ⟨a, dx, rfl, upd_same, fun ad H3 hnew L gA hk => ⟨rfl, ?_⟩⟩
  have s3 : Same H2 H3 := fun b u e => hk b u (by rw [upd_ne (ne_of_none e ha), upd_ne (ne_of_none e hdx)]; exact e) (ne_of_none e ha)
  have s02 := s1.trans s2
  have s03 := s02.trans s3
  obtain ⟨hl, hps⟩ := pl
  obtain ⟨hl2, hps2⟩ := pl2
  have el : ps.length = ds.length := Paired.length hps
  have el2 : ps2.length = es.length := Paired.length hps2
  have gds := PL.good (H := H) ⟨hl, hps⟩
  have ges := PL.good (H := H) ⟨hl2, hps2⟩
  have na : ∀ i, i < 4 → ad i ≠ a := fun i hi z => by
    have := hnew i hi
    rw [z, upd_same] at this
    cases this
  have I3 : RunG K H H3 (fun b => b = a) ad (stF HM0 (ds.take 0)) .non .non := by
    rw [List.take_zero]
    refine ⟨L, fun b ⟨i, hi, e⟩ => ?_, Fr.same s03, fun x h => same_none s03 h, fun b g => ?_⟩
    · have hi : i < 4 := hi
      rw [← e]
      exact same_none s02 (upd_none (upd_none (hnew i hi)))
    · subst g
      exact ⟨(by rw [gA]; exact fun z => by cases z), fun ⟨i, hi, z⟩ => na i hi z⟩
  walk_at "rx"
  refine y_iL (sqL (s03 _ _ hl)) ?_
  refine y_forL (xs := ps.map V.ref) (fun i σ H' => ∃ u4 u5 u6 ad' vm vw, σ = [some (.ref l), some (.ref l2), some (.int (m : Int)), some (.ref a), u4, u5, u6] ∧ RunG K H H' (fun b => b = a) ad' (stF HM0 (ds.take i)) vm vw ∧ ad' 0 = ad 0 ∧ H' a = some (.ins (He.ga K "Plain") dx (fs_Plain (.ref (ad 0)))))
    ⟨_, _, _, ad, _, _, rfl, I3, rfl, gA⟩ (fun i σ H' _ ⟨_, _, _, _, _, _, _, I, _⟩ => sqL (fr0_lst I.fr hl)) ?_ ?_
  · rintro i x σ H4 hi ⟨u4, u5, u6, ad1, vm, vw, rfl, I, e0, hA⟩
    rw [List.getElem?_map] at hi
    obtain ⟨p, hp, rfl⟩ := Option.map_eq_some_iff.mp hi
    obtain ⟨d, hd, hpd, gd⟩ := paired_get hps hp
    have ok := stF_ok (ds := ds.take i) HM0_ok fun d m => gds d (List.mem_of_mem_take m)
    have sm : (stF HM0 (ds.take i)).made < 9000 := by
      have := ok.2
      rw [List.length_take] at this
      have : HM0.made = 0 := rfl
      omega
    walk_at "rx"
    refine ⟨a, dx, ad1, _, _, vm, vw, p, d, rfl, by rw [e0]; exact hA, rfl, I.fr.i _ _ hpd, gd, I.pm, ok.1, kept_lt ok.1, sm, fun v ad2 vw2 H5 R h1 h2 _ => ?_⟩
    have hA5 := R.fr.ins hA (I.live a rfl).2
    have J := I.step ok.1 R
    rw [← stF_snoc, ← take_snoc hd] at J
    walk_at "rx"
    exact ⟨_, _, _, ad2, _, _, rfl, J, R.a0.trans e0, hA5⟩
  · rintro σ H4 ⟨u4, u5, u6, ad1, vm, vw, rfl, I, e0, hA⟩
    rw [List.length_map, el, List.take_length] at I
    walk_at "rx"
    intro D hD
    have hD0 := I.kp D hD
    have sD := Same.new (o := .lst []) hD
    have nDa : a ≠ D := ne_of_none hA hD
    have J := I.more (G' := fun b => b = D ∨ b = a) sD fun b g => g.elim (fun e => .inr ⟨e ▸ hD, by rw [e, upd_same]; exact fun z => by cases z⟩) .inl
    have hA5 := sD _ _ hA
    have hD5 : upd H4 D (.lst []) D = some (.lst []) := upd_same
    generalize upd H4 D (.lst []) = H5 at J hA5 hD5 ⊢
    walk_at "rx"
    refine y_iR (by omega) (by omega) ?_
    refine y_forR (fun n σ H' => ∃ u4 u6 ad' vm vw vs N, σ = [some (.ref l), some (.ref l2), some (.int (m : Int)), some (.ref a), u4, some (.ref D), u6] ∧ RunG K H H' (fun b => (b = D ∨ b = a) ∨ ∃ i, i < n ∧ N i b) ad' (turnM ds es n) vm vw ∧ ad' 0 = ad 0 ∧ H' a = some (.ins (He.ga K "Plain") dx (fs_Plain (.ref (ad 0)))) ∧ H' D = some (.lst vs) ∧ vs.length = n ∧ Phs H H' D vs N (fun i => turnM ds es (i + 1)))
      ⟨_, _, ad1, _, _, [], fun _ _ => False, rfl, ⟨J.pm, J.nw, J.fr, J.kp, fun b g => g.elim (J.live b) fun ⟨_, _, z⟩ => z.elim⟩, e0, hA5, hD5, rfl, ⟨fun i v e => (by cases e), fun i b h => (by cases h), fun i j b h => (by cases h)⟩⟩ ?_ ?_
    · rintro n σ H6 hn ⟨u4, u6, ad2, vm2, vw2, vs, N, rfl, I6, e02, hA6, hD6, lv, ph⟩
      walk_at "rx"
      refine y_iL (sqL (fr0_lst I6.fr hl2)) ?_
      refine y_forL (xs := ps2.map V.ref) (fun i σ H' => ∃ u4 u6 ad' vm vw, σ = [some (.ref l), some (.ref l2), some (.int (m : Int)), some (.ref a), u4, some (.ref D), u6] ∧ RunG K H H' (fun b => (b = D ∨ b = a) ∨ ∃ i, i < n ∧ N i b) ad' (stF (turnM ds es n) (es.take i)) vm vw ∧ ad' 0 = ad 0 ∧ H' a = some (.ins (He.ga K "Plain") dx (fs_Plain (.ref (ad 0)))) ∧ H' D = some (.lst vs) ∧ Phs H H' D vs N (fun i => turnM ds es (i + 1)))
        ⟨_, _, ad2, _, _, rfl, by rw [List.take_zero]; exact I6, e02, hA6, hD6, ph⟩ (fun i σ H' _ ⟨_, _, _, _, _, _, I, _⟩ => sqL (fr0_lst I.fr hl2)) ?_ ?_
      · rintro i x σ H7 hi ⟨u4, u6, ad3, vm3, vw3, rfl, I7, e03, hA7, hD7, ph7⟩
        rw [List.getElem?_map] at hi
        obtain ⟨p, hp, rfl⟩ := Option.map_eq_some_iff.mp hi
        obtain ⟨d, hd, hpd, gd⟩ := paired_get hps2 hp
        have okn := turnM_ok gds ges n
        have ok := stF_ok (ds := es.take i) okn.1 fun d m => ges d (List.mem_of_mem_take m)
        have sm : (stF (turnM ds es n) (es.take i)).made < 9000 := by
          have h1 := ok.2
          have h2 := okn.2
          have h3 : n * es.length ≤ 8 * 120 := Nat.mul_le_mul (by omega) l1202
          rw [List.length_take] at h1
          omega
        walk_at "rx"
        refine ⟨a, dx, ad3, _, _, vm3, vw3, p, d, rfl, by rw [e03]; exact hA7, rfl, I7.fr.i _ _ hpd, gd, I7.pm, ok.1, kept_lt ok.1, sm, fun v ad4 vw4 H8 R h1 h2 _ => ?_⟩
        have hA8 := R.fr.ins hA7 (I7.live a (.inl (.inr rfl))).2
        have hD8 := R.fr.lst hD7 (I7.live D (.inl (.inl rfl))).2
        have ph8 := ph7.fr R.fr (fun i b hi z => (I7.live b (.inr ⟨i, by omega, z⟩)).2) R.kp
        have J8 := I7.step ok.1 R
        rw [← stF_snoc, ← take_snoc hd] at J8
        walk_at "rx"
        exact ⟨_, _, ad4, _, _, rfl, J8, R.a0.trans e03, hA8, hD8, ph8⟩
      · rintro σ H7 ⟨u4, u6, ad3, vm3, vw3, rfl, I7, e03, hA7, hD7, ph7⟩
        rw [List.length_map, el2, List.take_length] at I7
        have I7 : RunG K H H7 _ ad3 (turnM ds es (n + 1)) vm3 vw3 := I7
        walk_at "rx"
        have okn1 := turnM_ok gds ges (n + 1)
        refine ⟨a, dx, ad3, _, _, vm3, vw3, rfl, by rw [e03]; exact hA7, I7.pm, okn1.1, kept_lt okn1.1, fun v H8 s8 phv => ?_⟩
        have hA8 := s8 _ _ hA7
        have hD8 := s8 _ _ hD7
        have J8 := (I7.more (G' := fun b => (b = D ∨ b = a) ∨ ∃ i, i < n + 1 ∧ (if i = vs.length then H7 b = none ∧ H8 b ≠ none else N i b)) s8 fun b g => by
          rcases g with g | ⟨i, hi, z⟩
          · exact .inl (.inl g)
          · by_cases c : i = vs.length
            · rw [if_pos c] at z; exact .inr z
            · rw [if_neg c] at z; exact .inl (.inr ⟨i, by omega, z⟩)).put (ys := vs ++ [v]) (.inl (.inl rfl)) hD8 hD0
        have ph9 := Phs.add (K := K) ph7 s8 hD7 I7.kp (v := v) (by rw [lv]; exact phv)
        walk_at "rx"
        exact ⟨_, _, ad3, _, _, vs ++ [v], _, rfl, J8, e03, (upd_ne nDa).trans hA8, upd_same, by rw [List.length_append, lv]; rfl, ph9⟩
    · rintro σ H6 ⟨u4, u6, ad2, vm2, vw2, vs, N, rfl, I6, e02, hA6, hD6, lv, ph⟩
      walk_at "rx"
      exact q D vs N H6 hD0 hD6 (by omega) ph I6.fr I6.kp
end

/-! ### a heap that leaks, deed by deed -/
section
theorem nm_pq : (("p" : Str) = "q") = False := eq_false (by decide)
theorem nm_pr : (("p" : Str) = "r") = False := eq_false (by decide)
theorem nm_ps : (("p" : Str) = "s") = False := eq_false (by decide)
theorem nm_pt : (("p" : Str) = "t") = False := eq_false (by decide)
theorem nm_pu : (("p" : Str) = "u") = False := eq_false (by decide)
theorem nm_pv : (("p" : Str) = "v") = False := eq_false (by decide)
theorem nm_pw : (("p" : Str) = "w") = False := eq_false (by decide)
theorem nm_qp : (("q" : Str) = "p") = False := eq_false (by decide)
theorem nm_qr : (("q" : Str) = "r") = False := eq_false (by decide)
theorem nm_qs : (("q" : Str) = "s") = False := eq_false (by decide)
theorem nm_qt : (("q" : Str) = "t") = False := eq_false (by decide)
theorem nm_qu : (("q" : Str) = "u") = False := eq_false (by decide)
theorem nm_qv : (("q" : Str) = "v") = False := eq_false (by decide)
theorem nm_qw : (("q" : Str) = "w") = False := eq_false (by decide)
theorem nm_rp : (("r" : Str) = "p") = False := eq_false (by decide)
theorem nm_rq : (("r" : Str) = "q") = False := eq_false (by decide)
theorem nm_rs : (("r" : Str) = "s") = False := eq_false (by decide)
theorem nm_rt : (("r" : Str) = "t") = False := eq_false (by decide)
theorem nm_ru : (("r" : Str) = "u") = False := eq_false (by decide)
theorem nm_rv : (("r" : Str) = "v") = False := eq_false (by decide)
theorem nm_rw : (("r" : Str) = "w") = False := eq_false (by decide)
theorem nm_sp : (("s" : Str) = "p") = False := eq_false (by decide)
theorem nm_sq : (("s" : Str) = "q") = False := eq_false (by decide)
theorem nm_sr : (("s" : Str) = "r") = False := eq_false (by decide)
theorem nm_st : (("s" : Str) = "t") = False := eq_false (by decide)
theorem nm_su : (("s" : Str) = "u") = False := eq_false (by decide)
theorem nm_sv : (("s" : Str) = "v") = False := eq_false (by decide)
theorem nm_sw : (("s" : Str) = "w") = False := eq_false (by decide)
theorem nm_tp : (("t" : Str) = "p") = False := eq_false (by decide)
theorem nm_tq : (("t" : Str) = "q") = False := eq_false (by decide)
theorem nm_tr : (("t" : Str) = "r") = False := eq_false (by decide)
theorem nm_ts : (("t" : Str) = "s") = False := eq_false (by decide)
theorem nm_tu : (("t" : Str) = "u") = False := eq_false (by decide)
theorem nm_tv : (("t" : Str) = "v") = False := eq_false (by decide)
theorem nm_tw : (("t" : Str) = "w") = False := eq_false (by decide)
theorem nm_up : (("u" : Str) = "p") = False := eq_false (by decide)
theorem nm_uq : (("u" : Str) = "q") = False := eq_false (by decide)
theorem nm_ur : (("u" : Str) = "r") = False := eq_false (by decide)
theorem nm_us : (("u" : Str) = "s") = False := eq_false (by decide)
theorem nm_ut : (("u" : Str) = "t") = False := eq_false (by decide)
theorem nm_uv : (("u" : Str) = "v") = False := eq_false (by decide)
theorem nm_uw : (("u" : Str) = "w") = False := eq_false (by decide)
theorem nm_vp : (("v" : Str) = "p") = False := eq_false (by decide)
theorem nm_vq : (("v" : Str) = "q") = False := eq_false (by decide)
theorem nm_vr : (("v" : Str) = "r") = False := eq_false (by decide)
theorem nm_vs : (("v" : Str) = "s") = False := eq_false (by decide)
theorem nm_vt : (("v" : Str) = "t") = False := eq_false (by decide)
theorem nm_vu : (("v" : Str) = "u") = False := eq_false (by decide)
theorem nm_vw : (("v" : Str) = "w") = False := eq_false (by decide)
theorem nm_wp : (("w" : Str) = "p") = False := eq_false (by decide)
theorem nm_wq : (("w" : Str) = "q") = False := eq_false (by decide)
theorem nm_wr : (("w" : Str) = "r") = False := eq_false (by decide)
theorem nm_ws : (("w" : Str) = "s") = False := eq_false (by decide)
theorem nm_wt : (("w" : Str) = "t") = False := eq_false (by decide)
theorem nm_wu : (("w" : Str) = "u") = False := eq_false (by decide)
theorem nm_wv : (("w" : Str) = "v") = False := eq_false (by decide)
local macro_rules | `(tactic| walk_at "nm") => `(tactic| simp only [HM.hold, HM.setTh, HM.mk1, if_true, if_false, ite_self, nm_pq, nm_pr, nm_ps, nm_pt, nm_pu, nm_pv, nm_pw, nm_qp, nm_qr, nm_qs, nm_qt, nm_qu, nm_qv, nm_qw, nm_rp, nm_rq, nm_rs, nm_rt, nm_ru, nm_rv, nm_rw, nm_sp, nm_sq, nm_sr, nm_st, nm_su, nm_sv, nm_sw, nm_tp, nm_tq, nm_tr, nm_ts, nm_tu, nm_tv, nm_tw, nm_up, nm_uq, nm_ur, nm_us, nm_ut, nm_uv, nm_uw, nm_vp, nm_vq, nm_vr, nm_vs, nm_vt, nm_vu, nm_vw, nm_wp, nm_wq, nm_wr, nm_ws, nm_wt, nm_wu, nm_wv])
def pK (kd : Str) : Key := if kd = RECORD then .inr "b" else if kd = ROW then .inl 0 else .inl 7
def tK (kd : Str) : Key := if kd = BOOK then .inl 4 else .inr "a"
def hTh (kd : Str) (x : AV) : Th := { newTh kd none with held := hput (newTh kd none).held (pK kd) x }
def tTh (kd : Str) (x : AV) : Th := { newTh kd none with held := hput (newTh kd none).held (tK kd) x }
def r1Th (x : AV) : Th := { newTh RECORD none with held := hput recH (.inr "a") x }
def r0Th (x : AV) : Th := { newTh RECORD none with held := hput recH (.inr "d") x }
def dHold (kd : Str) : List Deed := [.make "q" kd, .put "q" (pK kd) "p", .copy "p" "q"]
def dHead : List Deed := [.make "w" RECORD, .make "p" RECORD]
def dEnd : List Deed := [.make "v" ROW, .put "w" (.inr "d") "v", .drop "q"]
def dFirst (kds : List Str) : List Deed := dHead ++ kds.flatMap dHold ++ dEnd
def dDown (kds : List Str) : List Deed := [.copy "s" "p"] ++ kds.reverse.map fun kd => .take "s" "s" (pK kd)
def dPut (kd : Str) : Deed := .put "t" (tK kd) "u"
def dTail (kd : Str) : List Deed := [.make "t" kd, .take "u" "s" (.inr "a"), dPut kd, .put "s" (.inr "a") "t", .drop "s", .drop "t", .drop "u"]
def dTail2 (kd : Str) : List Deed := [.make "t" kd, .take "u" "s" (.inr "a"), .put "s" (.inr "a") "t", .drop "s", .drop "t", .drop "u"]
theorem stF_c {M : HM} {d : Deed} {ds : List Deed} : stF M (d :: ds) = stF (doM M d).2 ds := rfl
theorem stF_n {M : HM} : stF M [] = M := rfl
theorem stF_a {M : HM} {ds es : List Deed} : stF M (ds ++ es) = stF (stF M ds) es := List.foldl_append ..
theorem do_make {M : HM} {n k : Str} : (doM M (.make n k)).2 = (M.mk1 k none).hold n (.th M.made) := rfl
theorem do_copy {M : HM} {n m : Str} : (doM M (.copy n m)).2 = M.hold n (M.names m) := rfl
theorem do_drop {M : HM} {n : Str} : (doM M (.drop n)).2 = M.hold n .non := rfl
theorem thOf_of {M : HM} {n : Str} {k : Nat} {t : Th} (h : M.names n = .th k) (e : M.things k = some t) : M.thOf n = some (k, t) := by
  unfold HM.thOf
  rw [h]
  show (M.things k).map _ = _
  rw [e]
  rfl
theorem do_put {M : HM} {n m : Str} {p : Key} {k : Nat} {t : Th} (h : M.names n = .th k) (e : M.things k = some t) (g : t.may p = true) : (doM M (.put n p m)).2 = M.setTh k { t with held := hput t.held p (M.names m) } := by
  show (match M.thOf n with
    | none => (Tell.no, M)
    | some (k, t) => if t.may p = true then (.v .non, M.setTh k { t with held := hput t.held p (M.names m) }) else (.no, M)).2 = _
  rw [thOf_of h e]
  show (if t.may p = true then (Tell.v .non, M.setTh k { t with held := hput t.held p (M.names m) }) else (.no, M)).2 = _
  rw [if_pos g]
theorem do_take {M : HM} {n m : Str} {p : Key} {k : Nat} {t : Th} {a : AV} (h : M.names m = .th k) (e : M.things k = some t) (g : hget t.held p = some a) : (doM M (.take n m p)).2 = M.hold n a := by
  show (match M.thOf m with
    | none => (Tell.no, M)
    | some (_, t) => match hget t.held p with
      | none => (.no, M)
      | some a => (.v a, M.hold n a)).2 = _
  rw [thOf_of h e]
  show (match hget t.held p with
      | none => (Tell.no, M)
      | some a => (.v a, M.hold n a)).2 = _
  rw [g]
theorem kds3 {kd : Str} (h : kd ∈ KDS) : kd = RECORD ∨ kd = ROW ∨ kd = BOOK := by
  rcases List.mem_cons.mp h with e | h
  · exact .inl e
  rcases List.mem_cons.mp h with e | h
  · exact .inr (.inl e)
  rcases List.mem_cons.mp h with e | h
  · exact .inr (.inr e)
  cases h
theorem may_p {kd : Str} (h : kd ∈ KDS) : (newTh kd none).may (pK kd) = true := by
  rcases kds3 h with e | e | e <;> subst e <;> decide +kernel
theorem may_t {kd : Str} (h : kd = RECORD ∨ kd = BOOK) : (newTh kd none).may (tK kd) = true := by
  rcases h with e | e <;> subst e <;> decide +kernel
theorem hget_hput {h : List (Key × AV)} {p : Key} {a : AV} : hget (hput h p a) p = some a := by
  have g : ∀ h : List (Key × AV), (hget h p).isSome = true → hget (h.map fun kv => if kv.1 = p then (kv.1, a) else kv) p = some a := by
    intro h
    induction h with
    | nil => intro z; cases z
    | cons x h ih =>
      intro z
      by_cases c : x.1 = p
      · simp [hget, c]
      · have e : (hget h p).isSome = true := by simpa [hget, c] using z
        have := ih e
        simp only [hget, List.map_cons, c, if_false, List.find?_cons, decide_false] at this ⊢
        exact this
  unfold hput
  by_cases c : (hget h p).isSome = true
  · rw [if_pos c]; exact g h c
  · rw [if_neg c]
    have n : hget h p = none := by cases e : hget h p with
      | none => rfl
      | some a => rw [e] at c; exact absurd rfl c
    unfold hget at n ⊢
    rw [List.find?_append, Option.map_eq_none_iff.mp n]
    simp
theorem r1_put {x y : AV} : hput (r1Th x).held (.inr "a") y = (r1Th y).held := by kernel_rfl
theorem r1_get {x : AV} : hget (r1Th x).held (.inr "a") = some x := hget_hput (h := recH)
theorem r1_may {x : AV} : (r1Th x).may (.inr "a") = true := by
  unfold Th.may Th.has
  rw [r1_get]
  rfl
/-- behind the holders -/
structure ShF (kds : List Str) (M : HM) : Prop where
  w : M.names "w" = .th 0
  p : M.names "p" = .th (kds.length + 1)
  no : ∀ n ∈ (["r", "s", "t", "u", "v"] : List Str), M.names n = .non
  t0 : M.things 0 = some (newTh RECORD none)
  t1 : M.things 1 = some (newTh RECORD none)
  th : ∀ j kd, kds[j]? = some kd → M.things (j + 2) = some (hTh kd (.th (j + 1)))
  md : M.made = kds.length + 2
structure Shp (kds : List Str) (x : AV) (M : HM) : Prop where
  w : M.names "w" = .th 0
  p : M.names "p" = .th (kds.length + 1)
  v : M.names "v" = .th (kds.length + 2)
  no : ∀ n ∈ (["q", "r", "s", "t", "u"] : List Str), M.names n = .non
  t0 : M.things 0 = some (r0Th (.th (kds.length + 2)))
  t1 : M.things 1 = some (r1Th x)
  th : ∀ j kd, kds[j]? = some kd → M.things (j + 2) = some (hTh kd (.th (j + 1)))
  tv : M.things (kds.length + 2) = some (newTh ROW none)
  lt : kds.length + 3 ≤ M.made
theorem ShF.head : ShF [] (stF HM0 dHead) := by
  have e : stF HM0 dHead = (((HM0.mk1 RECORD none).hold "w" (.th HM0.made)).mk1 RECORD none).hold "p" (.th 1) := rfl
  rw [e]
  refine ⟨?_, ?_, fun n h => ?_, ?_, ?_, fun j kd h => (by cases h), rfl⟩
  · walk_at "nm"; rfl
  · walk_at "nm"; rfl
  · simp only [List.mem_cons, List.not_mem_nil, or_false] at h
    rcases h with h | h | h | h | h <;> subst h <;> (walk_at "nm") <;> rfl
  · rfl
  · rfl
theorem ShF.step {kds : List Str} {M : HM} {kd : Str} (S : ShF kds M) (hk : kd ∈ KDS) : ShF (kds ++ [kd]) (stF M (dHold kd)) := by
  have mk := S.md
  unfold dHold
  rw [stF_c, stF_c, stF_c, stF_n, do_make, do_put (k := M.made) (t := newTh kd none) (by walk_at "nm") (by walk_at "nm") (may_p hk), do_copy]
  have e0 : (0 : Nat) ≠ M.made := by omega
  have e1 : (1 : Nat) ≠ M.made := by omega
  refine ⟨?_, ?_, fun n h => ?_, ?_, ?_, fun j kd' h => ?_, ?_⟩
  · walk_at "nm"; exact S.w
  · walk_at "nm"; rw [List.length_append, mk]; rfl
  · have := S.no n h
    simp only [List.mem_cons, List.not_mem_nil, or_false] at h
    rcases h with h | h | h | h | h <;> subst h <;> (walk_at "nm") <;> exact this
  · walk_at "nm"; rw [if_neg e0, if_neg e0]; exact S.t0
  · walk_at "nm"; rw [if_neg e1, if_neg e1]; exact S.t1
  · walk_at "nm"
    by_cases c : j < kds.length
    · rw [List.getElem?_append_left c] at h
      rw [if_neg (by omega), if_neg (by omega)]
      exact S.th j kd' h
    · have hl := (List.getElem?_eq_some_iff.mp h).1
      rw [List.length_append, List.length_singleton] at hl
      have ej : j = kds.length := by omega
      subst ej
      rw [List.getElem?_append_right (Nat.le_refl _), Nat.sub_self] at h
      cases h
      rw [if_pos mk.symm, S.p]
      rfl
  · show M.made + 1 = _
    rw [List.length_append, List.length_singleton, mk]
theorem ShF.all : ∀ {k2 k1 : List Str} {M : HM}, ShF k1 M → (∀ kd ∈ k2, kd ∈ KDS) → ShF (k1 ++ k2) (stF M (k2.flatMap dHold))
  | [], k1, M, S, _ => by rw [List.append_nil]; exact S
  | kd :: k2, k1, M, S, h => by
    rw [List.flatMap_cons, stF_a, show k1 ++ kd :: k2 = (k1 ++ [kd]) ++ k2 by rw [List.append_assoc]; rfl]
    exact ShF.all (S.step (h kd (List.mem_cons_self ..))) fun x m => h x (List.mem_cons_of_mem _ m)
theorem Shp.first {kds : List Str} (h : ∀ kd ∈ kds, kd ∈ KDS) : Shp kds .non (stF HM0 (dFirst kds)) ∧ (stF HM0 (dFirst kds)).made = kds.length + 3 := by
  unfold dFirst
  rw [stF_a, stF_a]
  have S := ShF.all (k2 := kds) ShF.head h
  rw [List.nil_append] at S
  generalize stF (stF HM0 dHead) (kds.flatMap dHold) = M at S
  have mk := S.md
  have e0 : (0 : Nat) ≠ M.made := by omega
  have e1 : (1 : Nat) ≠ M.made := by omega
  have e10 : (1 : Nat) ≠ 0 := by decide
  unfold dEnd
  rw [stF_c, stF_c, stF_c, stF_n, do_make, do_put (k := 0) (t := newTh RECORD none) (by walk_at "nm"; exact S.w) (by walk_at "nm"; exact (if_neg e0).trans (S.t0)) (by decide +kernel), do_drop]
  refine ⟨⟨?_, ?_, ?_, fun n h => ?_, ?_, ?_, fun j kd' h => ?_, ?_, ?_⟩, ?_⟩
  · walk_at "nm"; exact S.w
  · walk_at "nm"; exact S.p
  · walk_at "nm"; rw [mk]
  · have := S.no n
    simp only [List.mem_cons, List.not_mem_nil, or_false] at h
    rcases h with h | h | h | h | h <;> subst h
    · walk_at "nm"
    · walk_at "nm"; exact this (by simp)
    · walk_at "nm"; exact this (by simp)
    · walk_at "nm"; exact this (by simp)
    · walk_at "nm"; exact this (by simp)
  · walk_at "nm"; rw [mk]; rfl
  · walk_at "nm"; exact (if_neg e10).trans ((if_neg e1).trans (S.t1))
  · have hl := (List.getElem?_eq_some_iff.mp h).1
    walk_at "nm"; exact (if_neg (by omega)).trans ((if_neg (by omega)).trans (S.th j kd' h))
  · walk_at "nm"; rw [if_neg (by omega), if_pos mk.symm]
  · show _ ≤ M.made + 1
    omega
  · show M.made + 1 = _
    omega
theorem hold_hold {M : HM} {n : Str} {x y : AV} : (M.hold n x).hold n y = M.hold n y := by
  unfold HM.hold
  congr 1
  funext m
  by_cases c : m = n
  · simp only [c, if_true]
  · simp only [c, if_false]
theorem downs {kds : List Str} {x : AV} {M : HM} (S : Shp kds x M) : ∀ {j : Nat}, j ≤ kds.length → stF (M.hold "s" (.th (j + 1))) ((kds.take j).reverse.map fun kd => Deed.take "s" "s" (pK kd)) = M.hold "s" (.th 1)
  | 0, _ => rfl
  | j + 1, h => by
    have hj : kds[j]? = some kds[j] := List.getElem?_eq_getElem (by omega)
    rw [take_snoc hj, List.reverse_append, List.reverse_singleton, List.map_append, List.map_singleton, List.singleton_append, stF_c, do_take (k := j + 2) (t := hTh kds[j] (.th (j + 1))) (a := .th (j + 1)) (by walk_at "nm") (by exact S.th j _ hj) hget_hput, hold_hold]
    exact downs S (by omega)
theorem Shp.down {kds : List Str} {x : AV} {M : HM} (S : Shp kds x M) : stF M (dDown kds) = M.hold "s" (.th 1) := by
  unfold dDown
  rw [stF_a, stF_c, stF_n, do_copy, S.p]
  have := downs S (Nat.le_refl _)
  rw [List.take_length] at this
  exact this
theorem hold_back {M : HM} {n : Str} {x y : AV} (h : M.names n = y) : (M.hold n x).hold n y = M := by
  rw [hold_hold]
  unfold HM.hold
  obtain ⟨nm, th, mk⟩ := M
  congr 1
  funext m
  by_cases c : m = n
  · rw [if_pos c, c]; exact h.symm
  · exact if_neg c
/-- nothing new -/
theorem Shp.stay {kds : List Str} {x : AV} {M : HM} (S : Shp kds x M) : stF M (dDown kds ++ [.drop "s"]) = M := by
  rw [stF_a, S.down, stF_c, stF_n, do_drop]
  exact hold_back (S.no _ (by simp))
/-- a thing more, which holds the one ahead -/
theorem Shp.again {kds : List Str} {x : AV} {M : HM} {kd : Str} (S : Shp kds x M) (hk : kd = RECORD ∨ kd = BOOK) : Shp kds (.th M.made) (stF M (dDown kds ++ dTail kd)) ∧ (stF M (dDown kds ++ dTail kd)).made = M.made + 1 ∧ (stF M (dDown kds ++ dTail kd)).things M.made = some (tTh kd x) ∧
    ∀ k, k ≠ 1 → k ≠ M.made → (stF M (dDown kds ++ dTail kd)).things k = M.things k := by
  have lt := S.lt
  have m1 : (1 : Nat) ≠ M.made := by omega
  have m0 : (0 : Nat) ≠ M.made := by omega
  have e01 : (0 : Nat) ≠ 1 := by decide
  have mm1 : M.made ≠ 1 := m1.symm
  rw [stF_a, S.down]
  unfold dTail dPut
  rw [stF_c, stF_c, stF_c, stF_c, stF_c, stF_c, stF_c, stF_n, do_make, do_take (k := 1) (t := r1Th x) (a := x) (by walk_at "nm") (by walk_at "nm"; exact (if_neg m1).trans (S.t1)) r1_get,
    do_put (k := M.made) (t := newTh kd none) (by walk_at "nm") (by walk_at "nm") (may_t hk), do_put (k := 1) (t := r1Th x) (by walk_at "nm") (by walk_at "nm"; exact (if_neg m1).trans ((if_neg m1).trans (S.t1))) r1_may, do_drop, do_drop, do_drop]
  refine ⟨⟨?_, ?_, ?_, fun n h => ?_, ?_, ?_, fun j kd' h => ?_, ?_, ?_⟩, rfl, ?_, fun k k1 km => ?_⟩
  · walk_at "nm"; exact S.w
  · walk_at "nm"; exact S.p
  · walk_at "nm"; exact S.v
  · have := S.no n h
    simp only [List.mem_cons, List.not_mem_nil, or_false] at h
    rcases h with h | h | h | h | h <;> subst h
    · walk_at "nm"; exact this
    · walk_at "nm"; exact this
    · walk_at "nm"
    · walk_at "nm"
    · walk_at "nm"
  · walk_at "nm"; exact (if_neg e01).trans ((if_neg m0).trans ((if_neg m0).trans (S.t0)))
  · walk_at "nm"; rw [r1_put]; rfl
  · have hl := (List.getElem?_eq_some_iff.mp h).1
    walk_at "nm"; exact (if_neg (by omega)).trans ((if_neg (by omega)).trans ((if_neg (by omega)).trans (S.th j kd' h)))
  · walk_at "nm"; exact (if_neg (by omega)).trans ((if_neg (by omega)).trans ((if_neg (by omega)).trans (S.tv)))
  · show _ ≤ M.made + 1
    omega
  · walk_at "nm"; exact (if_neg mm1).trans rfl
  · walk_at "nm"; exact (if_neg k1).trans ((if_neg km).trans (if_neg km))
/-- a thing in the other's place -/
theorem Shp.other {kds : List Str} {x : AV} {M : HM} {kd : Str} (S : Shp kds x M) : Shp kds (.th M.made) (stF M (dDown kds ++ dTail2 kd)) ∧ (stF M (dDown kds ++ dTail2 kd)).made = M.made + 1 ∧ (stF M (dDown kds ++ dTail2 kd)).things M.made = some (newTh kd none) := by
  have lt := S.lt
  have m1 : (1 : Nat) ≠ M.made := by omega
  have m0 : (0 : Nat) ≠ M.made := by omega
  have e01 : (0 : Nat) ≠ 1 := by decide
  have mm1 : M.made ≠ 1 := m1.symm
  rw [stF_a, S.down]
  unfold dTail2
  rw [stF_c, stF_c, stF_c, stF_c, stF_c, stF_c, stF_n, do_make, do_take (k := 1) (t := r1Th x) (a := x) (by walk_at "nm") (by walk_at "nm"; exact (if_neg m1).trans (S.t1)) r1_get,
    do_put (k := 1) (t := r1Th x) (by walk_at "nm") (by walk_at "nm"; exact (if_neg m1).trans (S.t1)) r1_may, do_drop, do_drop, do_drop]
  refine ⟨⟨?_, ?_, ?_, fun n h => ?_, ?_, ?_, fun j kd' h => ?_, ?_, ?_⟩, rfl, ?_⟩
  · walk_at "nm"; exact S.w
  · walk_at "nm"; exact S.p
  · walk_at "nm"; exact S.v
  · have := S.no n h
    simp only [List.mem_cons, List.not_mem_nil, or_false] at h
    rcases h with h | h | h | h | h <;> subst h
    · walk_at "nm"; exact this
    · walk_at "nm"; exact this
    · walk_at "nm"
    · walk_at "nm"
    · walk_at "nm"
  · walk_at "nm"; exact (if_neg e01).trans ((if_neg m0).trans (S.t0))
  · walk_at "nm"; rw [r1_put]; rfl
  · have hl := (List.getElem?_eq_some_iff.mp h).1
    walk_at "nm"; exact (if_neg (by omega)).trans ((if_neg (by omega)).trans (S.th j kd' h))
  · walk_at "nm"; exact (if_neg (by omega)).trans ((if_neg (by omega)).trans (S.tv))
  · show _ ≤ M.made + 1
    omega
  · walk_at "nm"; exact (if_neg mm1).trans rfl
end

/-! ### a heap that leaks: who keeps whom in it, and how much -/
section
theorem srt_ext : ∀ {l m : List Nat}, l.Pairwise (· < ·) → m.Pairwise (· < ·) → (∀ x, x ∈ l ↔ x ∈ m) → l = m
  | [], [], _, _, _ => rfl
  | [], y :: m, _, _, h => absurd ((h y).mpr (List.mem_cons_self ..)) (by simp)
  | x :: l, [], _, _, h => absurd ((h x).mp (List.mem_cons_self ..)) (by simp)
  | x :: l, y :: m, hl, hm, h => by
    rw [List.pairwise_cons] at hl hm
    have e : x = y := by
      have h1 := (h x).mp (List.mem_cons_self ..)
      have h2 := (h y).mpr (List.mem_cons_self ..)
      rcases List.mem_cons.mp h1 with e | e
      · exact e
      · rcases List.mem_cons.mp h2 with e2 | e2
        · exact e2.symm
        · have := hm.1 x e
          have := hl.1 y e2
          omega
    subst e
    have r : l = m := srt_ext hl.2 hm.2 fun z => by
      have hz := h z
      rw [List.mem_cons, List.mem_cons] at hz
      constructor
      · intro mz
        exact (hz.mp (.inr mz)).resolve_left fun e => by have := hl.1 z mz; omega
      · intro mz
        exact (hz.mpr (.inr mz)).resolve_left fun e => by have := hm.1 z mz; omega
    rw [r]
theorem r0_out {x : AV} {j : Nat} : (∃ p, (p, AV.th j) ∈ (r0Th x).held) ↔ x = .th j := by
  have e : (r0Th x).held = [(.inr "a", .non), (.inr "b", .non), (.inr "c", .non), (.inr "d", x)] := by kernel_rfl
  rw [e]
  constructor
  · rintro ⟨p, h⟩
    simp at h
    exact h.2.symm
  · rintro rfl
    exact ⟨.inr "d", by simp⟩
theorem r1_out {x : AV} {j : Nat} : (∃ p, (p, AV.th j) ∈ (r1Th x).held) ↔ x = .th j := by
  have e : (r1Th x).held = [(.inr "a", x), (.inr "b", .non), (.inr "c", .non), (.inr "d", .non)] := by kernel_rfl
  rw [e]
  constructor
  · rintro ⟨p, h⟩
    simp at h
    exact h.2.symm
  · rintro rfl
    exact ⟨.inr "a", by simp⟩
theorem h_out {kd : Str} (hk : kd ∈ KDS) {x : AV} {j : Nat} : (∃ p, (p, AV.th j) ∈ (hTh kd x).held) ↔ x = .th j := by
  rcases kds3 hk with e | e | e <;> subst e
  · have e : (hTh RECORD x).held = [(.inr "a", .non), (.inr "b", x), (.inr "c", .non), (.inr "d", .non)] := by kernel_rfl
    rw [e]
    constructor
    · rintro ⟨p, h⟩
      simp at h
      exact h.2.symm
    · rintro rfl
      exact ⟨.inr "b", by simp⟩
  · have e : (hTh ROW x).held = [(.inl 0, x)] := by kernel_rfl
    rw [e]
    constructor
    · rintro ⟨p, h⟩
      simp at h
      exact h.2.symm
    · rintro rfl
      exact ⟨.inl 0, by simp⟩
  · have e : (hTh BOOK x).held = [(.inl 7, x)] := by kernel_rfl
    rw [e]
    constructor
    · rintro ⟨p, h⟩
      simp at h
      exact h.2.symm
    · rintro rfl
      exact ⟨.inl 7, by simp⟩
theorem t_out {kd : Str} (hk : kd = RECORD ∨ kd = BOOK) {x : AV} {j : Nat} : (∃ p, (p, AV.th j) ∈ (tTh kd x).held) ↔ x = .th j := by
  rcases hk with e | e <;> subst e
  · have e : (tTh RECORD x).held = [(.inr "a", x), (.inr "b", .non), (.inr "c", .non), (.inr "d", .non)] := by kernel_rfl
    rw [e]
    constructor
    · rintro ⟨p, h⟩
      simp at h
      exact h.2.symm
    · rintro rfl
      exact ⟨.inr "a", by simp⟩
  · have e : (tTh BOOK x).held = [(.inl 4, x)] := by kernel_rfl
    rw [e]
    constructor
    · rintro ⟨p, h⟩
      simp at h
      exact h.2.symm
    · rintro rfl
      exact ⟨.inl 4, by simp⟩
theorem n_out {kd : Str} (hk : kd ∈ KDS) {j : Nat} : ¬ ∃ p, (p, AV.th j) ∈ (newTh kd none).held := by
  rintro ⟨p, h⟩
  rcases kds3 hk with e | e | e <;> subst e
  · have e : (newTh RECORD none).held = [(.inr "a", .non), (.inr "b", .non), (.inr "c", .non), (.inr "d", .non)] := by kernel_rfl
    rw [e] at h
    simp at h
  · cases (show (p, AV.th j) ∈ [] from h)
  · cases (show (p, AV.th j) ∈ [] from h)
theorem t_size {kd : Str} (hk : kd = RECORD ∨ kd = BOOK) {x : AV} : sizeT (tTh kd x) = sizeT (tTh kd .non) := by
  rcases hk with e | e <;> subst e <;> kernel_rfl
theorem t_pos {kd : Str} (hk : kd = RECORD ∨ kd = BOOK) : 0 < sizeT (tTh kd .non) := by
  rcases hk with e | e <;> subst e <;> decide +kernel
theorem r1_size {x : AV} : sizeT (r1Th x) = sizeT (r1Th .non) := by kernel_rfl
/-- the heap: what it is made of, and a chain lo .. top on the record -/
structure Fam (kds : List Str) (lo top : Nat) (ts : Int) (M : HM) : Prop where
  ok : M.Ok
  kd : ∀ k ∈ kds, k ∈ KDS
  sh : Shp kds (if lo ≤ top then .th top else .non) M
  hi : kds.length + 3 ≤ lo
  md : M.made = top + 1
  tl : kds.length + 2 ≤ top
  ch : ∀ k, lo ≤ k → k ≤ top → ∃ t, M.things k = some t ∧ sizeT t = ts ∧ ∀ j, (∃ p, (p, AV.th j) ∈ t.held) ↔ (lo < k ∧ j = k - 1)
section
variable {kds : List Str} {lo top lo' top' : Nat} {ts ts' : Int} {M M' : HM} {n k j : Nat}
theorem Fam.root (F : Fam kds lo top ts M) : M.root k ↔ k = 0 ∨ k = kds.length + 1 ∨ k = kds.length + 2 := by
  have S := F.sh
  constructor
  · rintro ⟨m, hm, e⟩
    have no : ∀ x ∈ (["q", "r", "s", "t", "u"] : List Str), m = x → False := fun x hx ex => by
      rw [ex, S.no x hx] at e; cases e
    simp only [NMS, List.mem_cons, List.not_mem_nil, or_false] at hm
    rcases hm with h | h | h | h | h | h | h | h
    · rw [h, S.p] at e; cases e; exact .inr (.inl rfl)
    · exact (no "q" (by simp) h).elim
    · exact (no "r" (by simp) h).elim
    · exact (no "s" (by simp) h).elim
    · exact (no "t" (by simp) h).elim
    · exact (no "u" (by simp) h).elim
    · rw [h, S.v] at e; cases e; exact .inr (.inr rfl)
    · rw [h, S.w] at e; cases e; exact .inl rfl
  · rintro (rfl | rfl | rfl)
    · exact ⟨"w", by simp [NMS], S.w⟩
    · exact ⟨"p", by simp [NMS], S.p⟩
    · exact ⟨"v", by simp [NMS], S.v⟩
def FE (d lo top a b : Nat) : Prop := (a = 0 ∧ b = d + 2) ∨ (2 ≤ a ∧ a ≤ d + 1 ∧ b = a - 1) ∨ (a = 1 ∧ lo ≤ top ∧ b = top) ∨ (lo < a ∧ a ≤ top ∧ b = a - 1)
def FR (d lo top a : Nat) : Prop := a ≤ d + 2 ∨ (lo ≤ a ∧ a ≤ top)
theorem Fam.holds (F : Fam kds lo top ts M) (r : FR kds.length lo top k) : M.holds k j ↔ FE kds.length lo top k j := by
  have S := F.sh
  have hi := F.hi
  have go : ∀ {t : Th}, M.things k = some t → (M.holds k j ↔ ∃ p, (p, AV.th j) ∈ t.held) := fun {t} e => ⟨fun ⟨t', e', h⟩ => by rw [e] at e'; cases e'; exact h, fun h => ⟨t, e, h⟩⟩
  unfold FE
  rcases r with r | ⟨r1, r2⟩
  · by_cases c0 : k = 0
    · subst c0
      rw [go S.t0, r0_out]
      constructor
      · intro e; injection e with e; omega
      · intro e; rw [show j = kds.length + 2 by omega]
    · by_cases c1 : k = 1
      · subst c1
        rw [go S.t1, r1_out]
        by_cases c : lo ≤ top
        · rw [if_pos c]
          constructor
          · intro e; injection e with e; omega
          · intro e; rw [show j = top by omega]
        · rw [if_neg c]
          constructor
          · intro e; cases e
          · intro e; omega
      · by_cases c2 : k = kds.length + 2
        · subst c2
          rw [go S.tv]
          constructor
          · intro h; exact (n_out (by decide +kernel) h).elim
          · intro e; omega
        · obtain ⟨i, rfl⟩ : ∃ i, k = i + 2 := ⟨k - 2, by omega⟩
          have hl : i < kds.length := by omega
          have hk : kds[i]? = some kds[i] := List.getElem?_eq_getElem hl
          rw [go (S.th i _ hk), h_out (F.kd _ (List.getElem_mem hl))]
          constructor
          · intro e; injection e with e; omega
          · intro e; rw [show j = i + 1 by omega]
  · obtain ⟨t, e1, _, e3⟩ := F.ch k r1 r2
    rw [go e1, e3 j]
    omega
theorem Fam.step (F : Fam kds lo top ts M) (r : FR kds.length lo top k) (h : M.holds k j) : FR kds.length lo top j ∧ FE kds.length lo top k j := by
  have e := (F.holds r).mp h
  have := F.hi
  have := F.tl
  refine ⟨?_, e⟩
  unfold FE at e
  unfold FR at r ⊢
  omega
theorem Fam.rn0 (F : Fam kds lo top ts M) (h : n ≠ 0) : M.RN n 0 := .base (F.root.mpr (.inl rfl)) h.symm
theorem Fam.rnv (F : Fam kds lo top ts M) (h : n ≠ kds.length + 2) : M.RN n (kds.length + 2) := .base (F.root.mpr (.inr (.inr rfl))) h.symm
theorem Fam.rnh (F : Fam kds lo top ts M) : ∀ (i : Nat), i ≤ kds.length → (n < kds.length + 1 - i ∨ kds.length + 1 < n) → M.RN n (kds.length + 1 - i)
  | 0, _, h => .base (F.root.mpr (.inr (.inl rfl))) (by omega)
  | i + 1, l, h => by
    refine .step (Fam.rnh F i (by omega) (by omega)) ((F.holds (.inl (by omega))).mpr (.inr (.inl ⟨by omega, by omega, by omega⟩))) (by omega)
theorem Fam.rnk (F : Fam kds lo top ts M) (h1 : 1 ≤ k) (h2 : k ≤ kds.length + 1) (h : n < k ∨ kds.length + 1 < n) : M.RN n k := by
  have := F.rnh (n := n) (kds.length + 1 - k) (by omega) (by omega)
  rw [show kds.length + 1 - (kds.length + 1 - k) = k by omega] at this
  exact this
theorem Fam.rnt (F : Fam kds lo top ts M) (h1 : M.RN n 1) : ∀ (i : Nat), lo + i ≤ top → (n < top - i ∨ top < n) → M.RN n (top - i)
  | 0, l, h => .step h1 ((F.holds (.inl (by omega))).mpr (.inr (.inr (.inl ⟨rfl, by omega, rfl⟩)))) (by omega)
  | i + 1, l, h => by
    have := F.hi
    refine .step (Fam.rnt F h1 i (by omega) (by omega)) ((F.holds (.inr ⟨by omega, by omega⟩)).mpr (.inr (.inr (.inr ⟨by omega, by omega, by omega⟩)))) (by omega)
def FD (d lo n k : Nat) : Prop := (1 ≤ n ∧ n ≤ d + 1 ∧ ((1 ≤ k ∧ k ≤ n) ∨ lo ≤ k)) ∨ ((n = 0 ∨ n = d + 2) ∧ k = n) ∨ (d + 3 ≤ n ∧ lo ≤ k ∧ k ≤ n)
theorem Fam.reach (F : Fam kds lo top ts M) : M.reach k ↔ FR kds.length lo top k := by
  have hi := F.hi
  have tl := F.tl
  constructor
  · intro h
    induction h with
    | base r => have := F.root.mp r; unfold FR; omega
    | step _ e ih => exact (F.step ih e).1
  · intro r
    have h1 := F.rnk (n := top + lo + 9) (k := 1) (by omega) (by omega) (by omega)
    rcases r with r | ⟨r1, r2⟩
    · by_cases c0 : k = 0
      · subst c0; exact RN.reach (F.rn0 (n := 1) (by omega))
      · by_cases c2 : k = kds.length + 2
        · subst c2; exact RN.reach (F.rnv (n := 0) (by omega))
        · exact RN.reach (F.rnk (n := top + lo + 9) (k := k) (by omega) (by omega) (by omega))
    · have := F.rnt h1 (top - k) (by omega) (by omega)
      rw [show top - (top - k) = k by omega] at this
      exact RN.reach this
theorem Fam.RN (F : Fam kds lo top ts M) (hn : FR kds.length lo top n) : M.RN n k ↔ FR kds.length lo top k ∧ ¬ FD kds.length lo n k := by
  have hi := F.hi
  have tl := F.tl
  constructor
  · intro h
    refine ⟨F.reach.mp (RN.reach h), ?_⟩
    induction h with
    | base r ne => have := F.root.mp r; unfold FD; unfold FR at hn; omega
    | @step a b h e ne ih =>
      have r := F.reach.mp (RN.reach h)
      obtain ⟨rb, e⟩ := F.step r e
      unfold FE at e
      unfold FR at r rb hn
      unfold FD at ih ⊢
      omega
  · rintro ⟨r, nd⟩
    unfold FD at nd
    have r' := r
    unfold FR at r' hn
    by_cases c0 : k = 0
    · subst c0; exact F.rn0 (by omega)
    · by_cases c2 : k = kds.length + 2
      · subst c2; exact F.rnv (by omega)
      · by_cases c1 : k ≤ kds.length + 1
        · exact F.rnk (by omega) c1 (by omega)
        · have := F.rnt (n := n) (F.rnk (by omega) (by omega) (by omega)) (top - k) (by omega) (by omega)
          rw [show top - (top - k) = k by omega] at this
          exact this
theorem rng_srt {a l : Nat} : (List.range' a l).Pairwise (· < ·) := List.pairwise_lt_range'
theorem app_srt {a b c d : Nat} (h : a + b ≤ c) : (List.range' a b ++ List.range' c d).Pairwise (· < ·) := by
  rw [List.pairwise_append]
  refine ⟨rng_srt, rng_srt, fun x hx y hy => ?_⟩
  rw [List.mem_range'_1] at hx hy
  omega
theorem Fam.rl (F : Fam kds lo top ts M) : reachL M = List.range' 0 (kds.length + 3) ++ List.range' lo (top + 1 - lo) := by
  have hi := F.hi
  refine srt_ext reach_srt (app_srt (by omega)) fun x => ?_
  rw [mem_reachL F.ok, F.reach, List.mem_append, List.mem_range'_1, List.mem_range'_1]
  unfold FR
  omega
theorem keepN_srt : (keepN M n).Pairwise (· < ·) := by
  unfold keepN
  exact reach_srt.filter _
theorem Fam.mkeep (F : Fam kds lo top ts M) (hn : FR kds.length lo top n) : k ∈ keepN M n ↔ FR kds.length lo top k ∧ FD kds.length lo n k := by
  classical
  unfold keepN
  rw [List.mem_filter, mem_reachL F.ok, F.reach, decide_eq_true_iff, F.RN hn]
  constructor
  · rintro ⟨h1, h2⟩
    exact ⟨h1, Classical.byContradiction fun z => h2 ⟨h1, z⟩⟩
  · rintro ⟨h1, h2⟩
    exact ⟨h1, fun z => z.2 h2⟩
theorem Fam.keep1 (F : Fam kds lo top ts M) (h1 : 1 ≤ n) (h2 : n ≤ kds.length + 1) : keepN M n = List.range' 1 n ++ List.range' lo (top + 1 - lo) := by
  have hi := F.hi
  refine srt_ext keepN_srt (app_srt (by omega)) fun x => ?_
  rw [F.mkeep (.inl (by omega)), List.mem_append, List.mem_range'_1, List.mem_range'_1]
  unfold FR FD
  omega
theorem Fam.keep0 (F : Fam kds lo top ts M) (h : n = 0 ∨ n = kds.length + 2) : keepN M n = [n] := by
  have hi := F.hi
  refine srt_ext keepN_srt (List.pairwise_singleton ..) fun x => ?_
  rw [F.mkeep (.inl (by omega)), List.mem_singleton]
  unfold FR FD
  omega
theorem Fam.keepT (F : Fam kds lo top ts M) (h : lo ≤ top) : keepN M lo = [lo] := by
  have hi := F.hi
  refine srt_ext keepN_srt (List.pairwise_singleton ..) fun x => ?_
  rw [F.mkeep (.inr ⟨Nat.le_refl _, h⟩), List.mem_singleton]
  unfold FR FD
  omega
theorem Fam.siz (F : Fam kds lo top ts M) (G : Fam kds lo' top' ts' M') (h : k ≤ kds.length + 2) : sizM M k = sizM M' k := by
  by_cases c0 : k = 0
  · subst c0; rw [sizM_some F.sh.t0, sizM_some G.sh.t0]
  · by_cases c1 : k = 1
    · subst c1; rw [sizM_some F.sh.t1, sizM_some G.sh.t1, r1_size]; exact r1_size.symm
    · by_cases c2 : k = kds.length + 2
      · subst c2; rw [sizM_some F.sh.tv, sizM_some G.sh.tv]
      · obtain ⟨i, rfl⟩ : ∃ i, k = i + 2 := ⟨k - 2, by omega⟩
        have hl : i < kds.length := by omega
        have hk : kds[i]? = some kds[i] := List.getElem?_eq_getElem hl
        rw [sizM_some (F.sh.th i _ hk), sizM_some (G.sh.th i _ hk)]
theorem sum_const {f : Nat → Int} {c : Int} : ∀ {l : List Nat}, (∀ x ∈ l, f x = c) → (l.map f).sum = (l.length : Int) * c
  | [], _ => by simp
  | x :: l, h => by
    rw [List.map_cons, List.sum_cons, h x (List.mem_cons_self ..), sum_const fun y m => h y (List.mem_cons_of_mem _ m), List.length_cons]
    push_cast
    rw [Int.add_mul]
    omega
theorem Fam.chain (F : Fam kds lo top ts M) : ((List.range' lo (top + 1 - lo)).map (sizM M)).sum = ((top + 1 - lo : Nat) : Int) * ts := by
  rw [sum_const (c := ts) fun x m => ?_, List.length_range']
  rw [List.mem_range'_1] at m
  obtain ⟨t, e1, e2, _⟩ := F.ch x m.1 (by omega)
  rw [sizM_some e1, e2]
theorem Fam.tot1 (F : Fam kds lo top ts M) (G : Fam kds lo' top' ts' M') (h1 : 1 ≤ n) (h2 : n ≤ kds.length + 1) : totN M n + ((top' + 1 - lo' : Nat) : Int) * ts' = totN M' n + ((top + 1 - lo : Nat) : Int) * ts := by
  rw [← tot_sum F.ok, ← tot_sum G.ok, F.keep1 h1 h2, G.keep1 h1 h2, List.map_append, List.map_append, List.sum_append, List.sum_append, F.chain, G.chain]
  have e : (List.range' 1 n).map (sizM M) = (List.range' 1 n).map (sizM M') := List.map_congr_left fun x m => F.siz G (by rw [List.mem_range'_1] at m; omega)
  rw [e]
  omega
theorem Fam.tot0 (F : Fam kds lo top ts M) (G : Fam kds lo' top' ts' M') (h : n = 0 ∨ n = kds.length + 2) : totN M n = totN M' n := by
  rw [← tot_sum F.ok, ← tot_sum G.ok, F.keep0 h, G.keep0 h, List.map_singleton, List.map_singleton, F.siz G (by omega)]
theorem Fam.totT (F : Fam kds lo top ts M) (h : lo ≤ top) : totN M lo = ts := by
  obtain ⟨t, e1, e2, _⟩ := F.ch lo (Nat.le_refl _) h
  rw [← tot_sum F.ok, F.keepT h, List.map_singleton, sizM_some e1, e2]
  simp
end
/-! #### the three runs -/
variable {kds : List Str} {kd : Str}
theorem dh_good {kd : Str} (h : kd ∈ KDS) : ∀ d ∈ dHold kd, Good d := by
  rcases kds3 h with e | e | e <;> subst e
  all_goals
    intro d m
    simp only [dHold, List.mem_cons, List.not_mem_nil, or_false] at m
    rcases m with m | m | m <;> subst m
  all_goals first | exact ⟨by decide +kernel, by decide +kernel⟩ | exact ⟨by decide +kernel, show _ ∈ LTS by decide +kernel, by decide +kernel⟩ | exact ⟨by decide +kernel, show (0 : Int) ≤ _ ∧ _ ≤ (9 : Int) by decide +kernel, by decide +kernel⟩
theorem gp_p {kd : Str} (h : kd ∈ KDS) : GoodP (pK kd) := by
  rcases kds3 h with e | e | e <;> subst e
  · show _ ∈ LTS; decide +kernel
  · show (0 : Int) ≤ 0 ∧ (0 : Int) ≤ 9; decide
  · show (0 : Int) ≤ 7 ∧ (7 : Int) ≤ 9; decide
theorem first_good (h : ∀ k ∈ kds, k ∈ KDS) : ∀ d ∈ dFirst kds, Good d := by
  intro d m
  unfold dFirst at m
  rcases List.mem_append.mp m with m | m
  · rcases List.mem_append.mp m with m | m
    · simp only [dHead, List.mem_cons, List.not_mem_nil, or_false] at m
      rcases m with m | m <;> subst m <;> exact ⟨by decide +kernel, by decide +kernel⟩
    · obtain ⟨k, mk, md⟩ := List.mem_flatMap.mp m
      exact dh_good (h k mk) d md
  · simp only [dEnd, List.mem_cons, List.not_mem_nil, or_false] at m
    rcases m with m | m | m <;> subst m
    · exact ⟨by decide +kernel, by decide +kernel⟩
    · exact ⟨by decide +kernel, show _ ∈ LTS by decide +kernel, by decide +kernel⟩
    · show _ ∈ NMS; decide +kernel
theorem down_good (h : ∀ k ∈ kds, k ∈ KDS) : ∀ d ∈ dDown kds, Good d := by
  intro d m
  unfold dDown at m
  rcases List.mem_append.mp m with m | m
  · rw [List.mem_singleton] at m
    subst m
    exact ⟨by decide +kernel, by decide +kernel⟩
  · obtain ⟨k, mk, rfl⟩ := List.mem_map.mp m
    exact ⟨by decide +kernel, by decide +kernel, gp_p (h k (List.mem_reverse.mp mk))⟩
theorem put_good {kd : Str} (h : kd = RECORD ∨ kd = BOOK) : Good (dPut kd) := by
  rcases h with e | e <;> subst e
  · exact ⟨by decide +kernel, show _ ∈ LTS by decide +kernel, by decide +kernel⟩
  · exact ⟨by decide +kernel, show (0 : Int) ≤ 4 ∧ (4 : Int) ≤ 9 by decide, by decide +kernel⟩
theorem tail2_good {kd : Str} (h : kd = RECORD ∨ kd = BOOK) : ∀ d ∈ dTail2 kd, Good d := by
  intro d m
  simp only [dTail2, List.mem_cons, List.not_mem_nil, or_false] at m
  rcases m with m | m | m | m | m | m <;> subst m
  · refine ⟨by decide +kernel, ?_⟩
    rcases h with e | e <;> subst e <;> decide +kernel
  · exact ⟨by decide +kernel, by decide +kernel, show _ ∈ LTS by decide +kernel⟩
  · exact ⟨by decide +kernel, show _ ∈ LTS by decide +kernel, by decide +kernel⟩
  · show _ ∈ NMS; decide +kernel
  · show _ ∈ NMS; decide +kernel
  · show _ ∈ NMS; decide +kernel
theorem tail_good {kd : Str} (h : kd = RECORD ∨ kd = BOOK) : ∀ d ∈ dTail kd, Good d := by
  intro d m
  have k := tail2_good h d
  simp only [dTail, List.mem_cons, List.not_mem_nil, or_false] at m
  simp only [dTail2, List.mem_cons, List.not_mem_nil, or_false] at k
  rcases m with m | m | m | m | m | m | m
  · exact k (.inl m)
  · exact k (.inr (.inl m))
  · rw [m]; exact put_good h
  · exact k (.inr (.inr (.inl m)))
  · exact k (.inr (.inr (.inr (.inl m))))
  · exact k (.inr (.inr (.inr (.inr (.inl m)))))
  · exact k (.inr (.inr (.inr (.inr (.inr m)))))
theorem app_good {ds es : List Deed} (h : ∀ d ∈ ds, Good d) (g : ∀ d ∈ es, Good d) : ∀ d ∈ ds ++ es, Good d := fun d m => (List.mem_append.mp m).elim (h d) (g d)
theorem famG (h : ∀ k ∈ kds, k ∈ KDS) (hk : kd = RECORD ∨ kd = BOOK) : ∀ i, Fam kds (kds.length + 3) (kds.length + 2 + i) (sizeT (tTh kd .non)) (turnM (dFirst kds) (dDown kds ++ dTail kd) i)
  | 0 => by
    obtain ⟨S, md⟩ := Shp.first h
    refine ⟨(turnM_ok (first_good h) (app_good (down_good h) (tail_good hk)) 0).1, h, ?_, Nat.le_refl _, md, by omega, fun k h1 h2 => by omega⟩
    rw [if_neg (by omega)]
    exact S
  | i + 1 => by
    have F := famG h hk i
    have md := F.md
    obtain ⟨S, md2, tn, old⟩ := F.sh.again hk
    have ok := (turnM_ok (first_good h) (app_good (down_good h) (tail_good hk)) (i + 1)).1
    refine ⟨ok, h, ?_, Nat.le_refl _, by rw [show turnM (dFirst kds) (dDown kds ++ dTail kd) (i + 1) = stF (turnM (dFirst kds) (dDown kds ++ dTail kd) i) (dDown kds ++ dTail kd) from rfl, md2, md]; omega, by omega, fun k h1 h2 => ?_⟩
    · rw [if_pos (by omega), show kds.length + 2 + (i + 1) = (turnM (dFirst kds) (dDown kds ++ dTail kd) i).made by rw [md]; omega]
      exact S
    · show ∃ t, (stF (turnM (dFirst kds) (dDown kds ++ dTail kd) i) (dDown kds ++ dTail kd)).things k = some t ∧ _
      by_cases c : k = (turnM (dFirst kds) (dDown kds ++ dTail kd) i).made
      · rw [c, tn]
        refine ⟨_, rfl, t_size hk, fun j => ?_⟩
        rw [t_out hk, md]
        by_cases d : kds.length + 3 ≤ kds.length + 2 + i
        · rw [if_pos d]
          constructor
          · intro e; injection e with e; omega
          · intro e; rw [show j = kds.length + 2 + i by omega]
        · rw [if_neg d]
          constructor
          · intro e; cases e
          · intro e; omega
      · rw [old k (by omega) c]
        exact F.ch k h1 (by omega)
theorem famO (h : ∀ k ∈ kds, k ∈ KDS) (hk : kd = RECORD ∨ kd = BOOK) : ∀ i, (∃ x, Shp kds x (turnM (dFirst kds) (dDown kds ++ dTail2 kd) i)) ∧ (turnM (dFirst kds) (dDown kds ++ dTail2 kd) i).made = kds.length + 3 + i ∧ Fam kds (kds.length + 3 + i) (kds.length + 3 + i) (sizeT (newTh kd none)) (turnM (dFirst kds) (dDown kds ++ dTail2 kd) (i + 1)) := by
  have next : ∀ i, (∃ x, Shp kds x (turnM (dFirst kds) (dDown kds ++ dTail2 kd) i)) → (turnM (dFirst kds) (dDown kds ++ dTail2 kd) i).made = kds.length + 3 + i → Fam kds (kds.length + 3 + i) (kds.length + 3 + i) (sizeT (newTh kd none)) (turnM (dFirst kds) (dDown kds ++ dTail2 kd) (i + 1)) := by
    rintro i ⟨x, S⟩ md
    obtain ⟨S2, md2, tn⟩ := S.other (kd := kd)
    have ok := (turnM_ok (first_good h) (app_good (down_good h) (tail2_good hk)) (i + 1)).1
    refine ⟨ok, h, ?_, by omega, by rw [show turnM (dFirst kds) (dDown kds ++ dTail2 kd) (i + 1) = stF (turnM (dFirst kds) (dDown kds ++ dTail2 kd) i) (dDown kds ++ dTail2 kd) from rfl, md2, md], by omega, fun k h1 h2 => ?_⟩
    · rw [if_pos (Nat.le_refl _), ← md]
      exact S2
    · have e : k = (turnM (dFirst kds) (dDown kds ++ dTail2 kd) i).made := by omega
      show ∃ t, (stF (turnM (dFirst kds) (dDown kds ++ dTail2 kd) i) (dDown kds ++ dTail2 kd)).things k = some t ∧ _
      rw [e, tn]
      refine ⟨_, rfl, rfl, fun j => ?_⟩
      constructor
      · intro z; exact (n_out (by rcases hk with e | e <;> subst e <;> decide +kernel) z).elim
      · intro z; omega
  intro i
  induction i with
  | zero =>
    obtain ⟨S, md⟩ := Shp.first h
    have a : ∃ x, Shp kds x (turnM (dFirst kds) (dDown kds ++ dTail2 kd) 0) := ⟨_, S⟩
    exact ⟨a, md, next 0 a md⟩
  | succ i ih =>
    obtain ⟨_, _, F⟩ := ih
    have a : ∃ x, Shp kds x (turnM (dFirst kds) (dDown kds ++ dTail2 kd) (i + 1)) := ⟨_, F.sh⟩
    have md : (turnM (dFirst kds) (dDown kds ++ dTail2 kd) (i + 1)).made = kds.length + 3 + (i + 1) := by rw [F.md]; omega
    exact ⟨a, md, next (i + 1) a md⟩
theorem turnS (h : ∀ k ∈ kds, k ∈ KDS) : ∀ i, turnM (dFirst kds) (dDown kds ++ [.drop "s"]) i = turnM (dFirst kds) (dDown kds ++ [.drop "s"]) 0 ∧ Shp kds .non (turnM (dFirst kds) (dDown kds ++ [.drop "s"]) i)
  | 0 => ⟨rfl, (Shp.first h).1⟩
  | i + 1 => by
    obtain ⟨e, S⟩ := turnS h i
    have e2 : turnM (dFirst kds) (dDown kds ++ [.drop "s"]) (i + 1) = turnM (dFirst kds) (dDown kds ++ [.drop "s"]) i := S.stay
    rw [e2]
    exact ⟨e, S⟩
end

/-! ### a heap that leaks: what leak and compared tell of its photos -/
section
variable {M : HM} {Ms : Nat → HM} {m k : Nat}
noncomputable def phM (M : HM) : List AV × List PRow := (nmM M, rwM M)
noncomputable def gM (M : HM) : List (Int × Int) := totPL (nmM M) (rwM M)
noncomputable def phsM (Ms : Nat → HM) (m : Nat) : List (List AV × List PRow) := (List.range m).map fun i => phM (Ms i)
theorem gsP_M : gsP (phsM Ms m) = (List.range m).map fun i => gM (Ms i) := by
  unfold gsP phsM
  rw [List.map_map]
  rfl
theorem gM_keys : (gM M).map (·.1) = (reachL M).map fun (k : Nat) => (k : Int) := totPL_keys.trans keyL_M
theorem gM_in : (k : Int) ∈ (gM M).map (·.1) ↔ k ∈ reachL M := by
  rw [gM_keys, List.mem_map]
  exact ⟨fun ⟨j, mj, e⟩ => by have : j = k := by omega
                              exact this ▸ mj, fun h => ⟨k, h, rfl⟩⟩
theorem gM_lk (h : k ∈ reachL M) : lkG (gM M) (k : Int) = totN M k := by
  unfold lkG gM
  rw [totPL_lk (by rw [keyL_M]; exact List.mem_map.mpr ⟨k, h, rfl⟩)]
  rfl
theorem head_M (h : 0 < m) : (gsP (phsM Ms m)).headD [] = gM (Ms 0) := by
  rw [gsP_M]
  obtain ⟨n, rfl⟩ : ∃ n, m = n + 1 := ⟨m - 1, by omega⟩
  rw [List.range_succ_eq_map]
  rfl
theorem upB_f {sz : List Int} (l : 2 ≤ sz.length) (h : sz.getD 1 0 ≤ sz.getD 0 0) : upB sz = false := by
  unfold upB
  refine decide_eq_false fun z => ?_
  have := List.filter_eq_nil_iff.mp z 0 (List.mem_range.mpr (by omega))
  exact this (decide_eq_true h)
theorem getD_rm {f : Nat → Int} {i : Nat} (h : i < m) : ((List.range m).map f).getD i 0 = f i := by
  rw [List.getD_eq_getElem?_getD, List.getElem?_map, List.getElem?_range h]
  rfl
theorem upB_t {f : Nat → Int} (h : ∀ i, i + 1 < m → f i < f (i + 1)) : upB ((List.range m).map f) = true := by
  unfold upB
  refine decide_eq_true (List.filter_eq_nil_iff.mpr fun i mi z => ?_)
  rw [List.length_map, List.length_range, List.mem_range] at mi
  have z := of_decide_eq_true z
  rw [getD_rm (by omega), getD_rm (by omega)] at z
  have := h i (by omega)
  omega
theorem all_M {n : Int} : inAll (gsP (phsM Ms m)) n = true ↔ ∀ i < m, n ∈ (gM (Ms i)).map (·.1) := by
  unfold inAll
  rw [gsP_M, List.all_eq_true]
  constructor
  · intro h i hi
    exact of_decide_eq_true (h _ (List.mem_map.mpr ⟨i, List.mem_range.mpr hi, rfl⟩))
  · rintro h g mg
    obtain ⟨i, mi, rfl⟩ := List.mem_map.mp mg
    exact decide_eq_true (h i (List.mem_range.mp mi))
theorem up_M {n : Int} : (gsP (phsM Ms m)).map (fun g => lkG g n) = (List.range m).map fun i => lkG (gM (Ms i)) n := by
  rw [gsP_M, List.map_map]
  rfl
/-- nothing leaks where nothing grows from the first to the second -/
theorem leak_none (hm : 2 ≤ m) (h : ∀ k ∈ reachL (Ms 0), k ∈ reachL (Ms 1) → totN (Ms 1) k ≤ totN (Ms 0) k) : leakP (phsM Ms m) = [] := by
  have e : someG (gsP (phsM Ms m)) = [] := by
    unfold someG
    rw [head_M (by omega), gM_keys]
    refine List.filter_eq_nil_iff.mpr fun x mx z => ?_
    obtain ⟨k, mk, rfl⟩ := List.mem_map.mp mx
    rw [Bool.and_eq_true, all_M, up_M] at z
    obtain ⟨z1, z2⟩ := z
    have k1 := gM_in.mp (z1 1 (by omega))
    rw [upB_f (by rw [List.length_map, List.length_range]; exact hm) (by rw [getD_rm (by omega), getD_rm (by omega), gM_lk k1, gM_lk mk]; exact h k mk k1)] at z2
    cases z2
  unfold leakP
  rw [e]
  rfl
theorem map_filter_c {l : List Nat} {p : Int → Bool} : (l.map fun (k : Nat) => (k : Int)).filter p = (l.filter fun (k : Nat) => p (k : Int)).map fun (k : Nat) => (k : Int) := List.filter_map ..
theorem filter_srt {l m : List Nat} {p : Nat → Bool} (hl : l.Pairwise (· < ·)) (hm : m.Pairwise (· < ·)) (h : ∀ x, (x ∈ l ∧ p x = true) ↔ x ∈ m) : l.filter p = m :=
  srt_ext (hl.filter _) hm fun x => by rw [List.mem_filter]; exact h x
variable {kds : List Str} {ts : Int}
/-- the one that grows, lowest -/
theorem some_G (hm : 2 ≤ m) (F : ∀ i < m, Fam kds (kds.length + 3) (kds.length + 3 + i) ts (Ms i)) (tp : 0 < ts) : someG (gsP (phsM Ms m)) = (List.range' 1 (kds.length + 1)).map fun (k : Nat) => (k : Int) := by
  unfold someG
  rw [head_M (by omega), gM_keys, map_filter_c]
  congr 1
  have F0 := F 0 (by omega)
  have rch : ∀ i < m, ∀ x, x ∈ reachL (Ms i) ↔ x < kds.length + 4 + i := fun i hi x => by
    rw [(F i hi).rl, List.mem_append, List.mem_range'_1, List.mem_range'_1]
    omega
  refine filter_srt reach_srt rng_srt fun x => ?_
  rw [rch 0 (by omega), List.mem_range'_1, Bool.and_eq_true, all_M, up_M]
  constructor
  · rintro ⟨h1, h2, h3⟩
    have mem : ∀ i < m, x ∈ reachL (Ms i) := fun i hi => (rch i hi x).mpr (by omega)
    refine Classical.byContradiction fun c => ?_
    rw [upB_f (by rw [List.length_map, List.length_range]; exact hm) ?_] at h3
    · cases h3
    · rw [getD_rm (by omega), getD_rm (by omega), gM_lk (mem 1 (by omega)), gM_lk (mem 0 (by omega))]
      refine Int.le_of_eq ?_
      by_cases c3 : x = kds.length + 3
      · rw [c3, (F 1 (by omega)).totT (by omega), F0.totT (by omega)]
      · exact (F 1 (by omega)).tot0 F0 (by omega)
  · rintro ⟨h1, h2⟩
    have mem : ∀ i < m, x ∈ reachL (Ms i) := fun i hi => (rch i hi x).mpr (by omega)
    refine ⟨by omega, fun i hi => gM_in.mpr (mem i hi), ?_⟩
    refine upB_t fun i hi => ?_
    rw [gM_lk (mem i (by omega)), gM_lk (mem (i + 1) hi)]
    have := (F i (by omega)).tot1 (F (i + 1) hi) (n := x) h1 (by omega)
    have e1 : ((kds.length + 3 + (i + 1) + 1 - (kds.length + 3) : Nat) : Int) = (i : Int) + 2 := by omega
    have e2 : ((kds.length + 3 + i + 1 - (kds.length + 3) : Nat) : Int) = (i : Int) + 1 := by omega
    rw [e1, e2, Int.add_mul, Int.add_mul] at this
    omega
theorem leak_G (hm : 2 ≤ m) (F : ∀ i < m, Fam kds (kds.length + 3) (kds.length + 3 + i) ts (Ms i)) (tp : 0 < ts) : leakP (phsM Ms m) = [1] := by
  have es := some_G hm F tp
  unfold leakP
  rw [es, map_filter_c]
  have FL := F (m - 1) (by omega)
  have lst : (phsM Ms m).getLastD ([], []) = phM (Ms (m - 1)) := by
    unfold phsM
    obtain ⟨n, rfl⟩ : ∃ n, m = n + 1 := ⟨m - 1, by omega⟩
    rw [List.range_succ, List.map_append, List.map_singleton, List.getLastD_eq_getLast?, List.getLast?_append]
    rfl
  rw [lst]
  have e : (List.range' 1 (kds.length + 1)).filter (fun (k : Nat) => decide (((keepL (phM (Ms (m - 1))).1 (phM (Ms (m - 1))).2 (k : Int)).filter fun o => decide (o ∈ (List.range' 1 (kds.length + 1)).map fun (k : Nat) => (k : Int))) = [(k : Int)])) = [1] := by
    refine filter_srt rng_srt (List.pairwise_singleton ..) fun x => ?_
    rw [List.mem_range'_1, List.mem_singleton, decide_eq_true_iff]
    have kp : 1 ≤ x → x ≤ kds.length + 1 → (keepL (phM (Ms (m - 1))).1 (phM (Ms (m - 1))).2 (x : Int)).filter (fun o => decide (o ∈ (List.range' 1 (kds.length + 1)).map fun (k : Nat) => (k : Int))) = (List.range' 1 x).map fun (k : Nat) => (k : Int) := fun h1 h2 => by
      show (keepL (nmM (Ms (m - 1))) (rwM (Ms (m - 1))) (x : Int)).filter _ = _
      rw [keepL_M FL.ok, map_filter_c]
      congr 1
      refine filter_srt keepN_srt rng_srt fun y => ?_
      rw [FL.keep1 h1 h2, List.mem_append, List.mem_range'_1, List.mem_range'_1, decide_eq_true_iff, List.mem_map]
      constructor
      · rintro ⟨h3, j, mj, ej⟩
        rw [List.mem_range'_1] at mj
        omega
      · intro h3
        exact ⟨.inl h3, y, by rw [List.mem_range'_1]; omega, rfl⟩
    constructor
    · rintro ⟨h1, h2⟩
      rw [kp h1.1 (by omega)] at h2
      have := congrArg List.length h2
      rw [List.length_map, List.length_range'] at this
      exact this
    · rintro rfl
      exact ⟨by omega, by rw [kp (by omega) (by omega)]; rfl⟩
  rw [e]
  rfl
theorem new_G (hm : 2 ≤ m) (F : ∀ i < m, Fam kds (kds.length + 3) (kds.length + 3 + i) ts (Ms i)) : (cNewL (gM (Ms 0)) (gM (Ms (m - 1)))).length = m - 1 ∧ cNewL (gM (Ms (m - 1))) (gM (Ms 0)) = [] := by
  have rch : ∀ i < m, ∀ x, x ∈ reachL (Ms i) ↔ x < kds.length + 4 + i := fun i hi x => by
    rw [(F i hi).rl, List.mem_append, List.mem_range'_1, List.mem_range'_1]
    omega
  constructor
  · unfold cNewL
    rw [gM_keys (M := Ms (m - 1)), map_filter_c, List.length_map, filter_srt (m := List.range' (kds.length + 4) (m - 1)) reach_srt rng_srt fun x => ?_, List.length_range']
    rw [rch _ (by omega), List.mem_range'_1]
    have e := gM_in (M := Ms 0) (k := x)
    rw [rch 0 (by omega)] at e
    constructor
    · rintro ⟨h1, h2⟩
      have : ¬ x < kds.length + 4 + 0 := fun z => by rw [decide_eq_true (e.mpr z)] at h2; cases h2
      omega
    · intro h
      refine ⟨by omega, ?_⟩
      rw [decide_eq_false fun z => by have := e.mp z; omega]
      rfl
  · unfold cNewL
    rw [gM_keys (M := Ms 0)]
    refine List.filter_eq_nil_iff.mpr fun x mx z => ?_
    obtain ⟨k, mk, rfl⟩ := List.mem_map.mp mx
    have := (rch 0 (by omega) k).mp mk
    rw [decide_eq_true (gM_in.mpr ((rch (m - 1) (by omega) k).mpr (by omega)))] at z
    cases z
theorem grown_G (hm : 2 ≤ m) (F : ∀ i < m, Fam kds (kds.length + 3) (kds.length + 3 + i) ts (Ms i)) (tp : 0 < ts) : cGrownL (gM (Ms 0)) (gM (Ms (m - 1))) = (List.range' 1 (kds.length + 1)).map fun (k : Nat) => ((k : Int), ((m : Int) - 1) * ts) := by
  have rch : ∀ i < m, ∀ x, x ∈ reachL (Ms i) ↔ x < kds.length + 4 + i := fun i hi x => by
    rw [(F i hi).rl, List.mem_append, List.mem_range'_1, List.mem_range'_1]
    omega
  have F0 := F 0 (by omega)
  have FL := F (m - 1) (by omega)
  have df : ∀ x, 1 ≤ x → x ≤ kds.length + 1 → totN (Ms (m - 1)) x = totN (Ms 0) x + ((m : Int) - 1) * ts := fun x h1 h2 => by
    have := F0.tot1 FL h1 h2
    have e1 : ((kds.length + 3 + (m - 1) + 1 - (kds.length + 3) : Nat) : Int) = ((m : Int) - 1) + 1 := by omega
    have e2 : ((kds.length + 3 + 0 + 1 - (kds.length + 3) : Nat) : Int) = 1 := by omega
    rw [e1, e2, Int.add_mul] at this
    omega
  have pos : 0 < ((m : Int) - 1) * ts := Int.mul_pos (by omega) tp
  unfold cGrownL
  rw [gM_keys (M := Ms (m - 1)), map_filter_c, filter_srt (m := List.range' 1 (kds.length + 1)) reach_srt rng_srt fun x => ?_]
  · rw [List.map_map]
    refine List.map_congr_left fun x mx => ?_
    rw [List.mem_range'_1] at mx
    show ((x : Int), lkG (gM (Ms (m - 1))) (x : Int) - lkG (gM (Ms 0)) (x : Int)) = _
    rw [gM_lk ((rch _ (by omega) x).mpr (by omega)), gM_lk ((rch 0 (by omega) x).mpr (by omega)), df x mx.1 (by omega)]
    congr 1
    omega
  · rw [rch _ (by omega), List.mem_range'_1, Bool.and_eq_true, decide_eq_true_iff, decide_eq_true_iff, gM_in, rch 0 (by omega)]
    constructor
    · rintro ⟨h1, h2, h3⟩
      rw [gM_lk ((rch _ (by omega) x).mpr h1), gM_lk ((rch 0 (by omega) x).mpr h2)] at h3
      refine Classical.byContradiction fun c => ?_
      have : totN (Ms (m - 1)) x = totN (Ms 0) x := by
        by_cases c3 : x = kds.length + 3
        · rw [c3, FL.totT (by omega), F0.totT (by omega)]
        · exact FL.tot0 F0 (by omega)
      omega
    · rintro ⟨h1, h2⟩
      refine ⟨by omega, by omega, ?_⟩
      rw [gM_lk ((rch _ (by omega) x).mpr (by omega)), gM_lk ((rch 0 (by omega) x).mpr (by omega)), df x h1 (by omega)]
      omega
/-- made anew each time: nothing leaks -/
theorem leak_O (hm : 2 ≤ m) (F : ∀ i < m, Fam kds (kds.length + 3 + i) (kds.length + 3 + i) ts (Ms i)) : leakP (phsM Ms m) = [] := by
  have F0 := F 0 (by omega)
  have F1 := F 1 (by omega)
  refine leak_none hm fun k h0 h1 => Int.le_of_eq ?_
  rw [F0.rl, List.mem_append, List.mem_range'_1, List.mem_range'_1] at h0
  rw [F1.rl, List.mem_append, List.mem_range'_1, List.mem_range'_1] at h1
  by_cases c : 1 ≤ k ∧ k ≤ kds.length + 1
  · have := F0.tot1 F1 c.1 c.2
    have e1 : ((kds.length + 3 + 1 + 1 - (kds.length + 3 + 1) : Nat) : Int) = 1 := by omega
    have e2 : ((kds.length + 3 + 0 + 1 - (kds.length + 3 + 0) : Nat) : Int) = 1 := by omega
    rw [e1, e2] at this
    omega
  · exact F1.tot0 F0 (by omega)
/-- nothing new: nothing leaks -/
theorem leak_S (hm : 2 ≤ m) (h : Ms 1 = Ms 0) : leakP (phsM Ms m) = [] := leak_none hm fun k _ _ => by rw [h]; exact Int.le_refl _
end

/-! ### new objects, the heap behind them left open -/
section
open PySem.W PySem.Calls PyProof.Rows PyProof.V
variable {X : Cx} {es : List Expr} {t : TA} {pos : Pos}
def tTupS (tl : TA) : TE := fun σ H Q => tl σ H fun xs H1 => xs.length ≤ 9000 ∧ ∀ (p : Addr) (H' : Hp), Same H1 H' → H1 p = none → H' p = some (.tup xs) → Q (.ref p) H'
def tLstS (tl : TA) : TE := fun σ H Q => tl σ H fun xs H1 => xs.length ≤ 9000 ∧ ∀ (p : Addr) (H' : Hp), Same H1 H' → H1 p = none → H' p = some (.lst xs) → Q (.ref p) H'
def rCatS : R2 := fun x y H Q => ∃ (l b : Addr) (xs zs : List V), x = .ref l ∧ y = .ref b ∧ H l = some (.lst xs) ∧ H b = some (.lst zs) ∧ xs.length + zs.length ≤ 9000 ∧ ∀ (p : Addr) (H' : Hp), Same H H' → H p = none → H' p = some (.lst (xs ++ zs)) → Q (.ref p) H'
theorem pe_tupS {x1} (h : PA X es t) : PE X (.Tuple es x1 pos) (tTupS t) := by
  refine ⟨fun pins s σ H Q I hq => ?_⟩
  refine wpAny_Tuple_spliced (thn (h.run pos pins s σ H _ I hq) fun us s1 ⟨xs, H1, I1, r, z, q⟩ => ⟨by rw [← r.length]; exact Nat.le_of_lt (small9000 z), ?_⟩)
  have hf : H1 s1.heap.objs.size = none := I1.hok.fresh (Nat.le_refl _)
  refine ⟨.ref s1.heap.objs.size, upd H1 s1.heap.objs.size (.tup xs), I1.laid (t' := s1.toks) (fun b u e => Heap.get?_push_of_some _ e) (Nat.le_refl _) ?_, rfl, q _ _ (Same.new hf) hf upd_same⟩
  exact ⟨Nat.le_of_lt (small9000 z), us, r, ⟨_, Heap.get?_push_size _ rfl, rfl, _, rfl⟩⟩
theorem pe_lstS (h : PA X es t) : PE X (.List es pos) (tLstS t) := by
  refine ⟨fun pins s σ H Q I hq => ?_⟩
  refine wpAny_List_spliced (thn (h.run pos pins s σ H _ I hq) fun us s1 ⟨xs, H1, I1, r, z, q⟩ => ⟨by rw [← r.length]; exact Nat.le_of_lt (small9000 z), ?_⟩)
  have hf : H1 s1.heap.objs.size = none := I1.hok.fresh (Nat.le_refl _)
  refine ⟨.ref s1.heap.objs.size, upd H1 s1.heap.objs.size (.lst xs), I1.laid (t' := s1.toks) (fun b u e => Heap.get?_push_of_some _ e) (Nat.le_refl _) ?_, rfl, q _ _ (Same.new hf) hf upd_same⟩
  exact ⟨Nat.le_of_lt (small9000 z), us, 0, r, Heap.get?_push_size _ rfl⟩
theorem op_catS : OpR X (binaryOp .Add) rCatS := by
  intro pins s σ H x y v u Q I rx ry h
  obtain ⟨l, b, xs, zs, e1, e2, hH, hB, hz, q⟩ := h
  exact op_cat pins s σ H x y v u Q I rx ry ⟨l, b, xs, zs, e1, e2, hH, hB, Nat.le_of_lt (small9000 hz), fun p hp => q p _ (Same.new hp) hp upd_same⟩
/-- len(set(xs)), xs any list of ints -/
def tLenSetJ (K : PySem.W.Frag) (ta : TE) : TE := fun σ H Q => ta σ H fun x H1 => ∃ (l : Addr) (ns : List Int), x = .ref l ∧ SqL K H1 l (ns.map V.int) ∧ ns.length ≤ 4000 ∧ Q (.int (PyProof.Rows.firstMet (fun i => ns.getD i 0) ns.length).length) H1
theorem intsAreJ : ∀ {ys : List Int} {us : List Value}, Vals (ys.map V.int) us → PyProof.Rows.IntsAre us ys
  | [], _, .nil => .nil
  | y :: ys, _, .cons r t => by
    obtain ⟨k, rfl⟩ := r
    exact .cons y k (intsAreJ t)
theorem firstMet_len (f : Nat → Int) : ∀ n, (PyProof.Rows.firstMet f n).length ≤ n
  | 0 => Nat.le_refl _
  | n + 1 => by
    have ih := firstMet_len f n
    rw [PyProof.Rows.firstMet_succ]
    show (if _ then _ else _ : List Int).length ≤ _
    split
    · omega
    · rw [List.length_append, List.length_singleton]; omega
theorem pe_lenSetJ {ta : TE} {a : Expr} {p p2 q pos : Pos} (hc : X.calm = true) (hg : Gl X "len") (hm : X.mg "len" = none) (hg2 : Gl X "set") (hm2 : X.mg "set" = none) (ha : PE X a ta)
    (na : starEach [a] X.env = (false, eval a X.env) :: starEach [] X.env := by rfl) : PE X (.Call (.Name "len" p) [.Call (.Name "set" p2) [a] [] q] [] pos) (tLenSetJ X.K ta) := by
  refine ⟨fun pins s σ H Q I h => ?_⟩
  refine Call_ (ld_blt I hg hm boot_len ?_)
  refine PyProof.Rows.callWith_builtin1 (PyProof.Rows.args_cons ?_ rfl) rfl rfl
  refine Call_ (ld_blt I hg2 hm2 boot_set ?_)
  refine PyProof.Rows.callWith_type1 (PyProof.Rows.args_cons (thn (ha.run pins s σ H _ I h) fun v s1 ⟨x, H1, I1, r1, q1⟩ => PyProof.Rows.args_nil ?_) na) na rfl
  obtain ⟨l, ns, rfl, hq, h1, q1⟩ := q1
  cases r1
  obtain ⟨its, r, pl, hz⟩ := I1.list hq
  have hl : its.toArray.size = ns.length := by rw [List.size_toArray, ← r.length, List.length_map]
  refine PySem.call_set_list (I1.ok.hd hc) pl.isList (by simpa using intsAreJ r) (by rw [hl]; exact Nat.lt_of_le_of_lt (Nat.succ_le_succ h1) (by decide)) fun h' tk hS hk => ?_
  refine PyProof.Rows.args_nil ?_
  rw [hl] at hS
  obtain ⟨o, es, ep, t, ho, hex, hd, _, _, _, hfit, hn⟩ := hS
  have I2 : Inv X pins σ H1 { s1 with heap := h', toks := tk } := I1.kept fun b o e => hk b o (Heap.lt_size e) e
  have lf := firstMet_len (fun i => ns.getD i 0) ns.length
  exact call_len_set ho hex hd hfit (by rw [hn]; omega) ⟨.int _, H1, I2.tok _, ⟨_, by rw [hn]⟩, q1⟩
theorem firstMet_const (f : Nat → Int) (c : Int) : ∀ n, (∀ i, i < n → f i = c) → 0 < n → PyProof.Rows.firstMet f n = [c]
  | 1, h, _ => by rw [PyProof.Rows.firstMet_succ]; show (if _ then _ else _) = _; rw [h 0 (by omega)]; rfl
  | n + 2, h, _ => by
    have ih := firstMet_const f c (n + 1) (fun i hi => h i (by omega)) (by omega)
    rw [PyProof.Rows.firstMet_succ, ih, h (n + 1) (by omega)]
    show (if _ then _ else _) = _
    rw [if_pos (by simp)]
end
section
variable {K : PySem.W.Frag} {σ : L2.St} {H : Hp} {Q : VK} {tl : TA} {ta : TE}
theorem x_tupS (h : tl σ H fun xs H1 => xs.length ≤ 9000 ∧ ∀ (p : Addr) (H' : Hp), Same H1 H' → H1 p = none → H' p = some (.tup xs) → Q (.ref p) H') : tTupS tl σ H Q := h
theorem x_lstS (h : tl σ H fun xs H1 => xs.length ≤ 9000 ∧ ∀ (p : Addr) (H' : Hp), Same H1 H' → H1 p = none → H' p = some (.lst xs) → Q (.ref p) H') : tLstS tl σ H Q := h
theorem y_catS {l b : Addr} {xs zs : List V} (h1 : H l = some (.lst xs)) (h2 : H b = some (.lst zs)) (hz : xs.length + zs.length ≤ 9000) (q : ∀ (p : Addr) (H' : Hp), Same H H' → H p = none → H' p = some (.lst (xs ++ zs)) → Q (.ref p) H') : rCatS (.ref l) (.ref b) H Q := ⟨l, b, xs, zs, rfl, rfl, h1, h2, hz, q⟩
theorem x_lenSetJ (h : ta σ H fun x H1 => ∃ (l : Addr) (ns : List Int), x = .ref l ∧ SqL K H1 l (ns.map V.int) ∧ ns.length ≤ 4000 ∧ Q (.int (PyProof.Rows.firstMet (fun i => ns.getD i 0) ns.length).length) H1) : tLenSetJ K ta σ H Q := h
theorem x_revL {te : TE} (h : te σ H fun x H1 => ∃ a xs, x = .ref a ∧ SqL K H1 a xs ∧ ∀ p, H1 p = none → Q (.ref p) (upd H1 p (.lst xs.reverse))) : tRevL K te σ H Q := h
theorem x_r2 {tb : TE} {QR : Int → Int → Hp → Prop} (h : ta σ H fun x H1 => tb σ H1 fun y H2 => ∃ i j, x = .int i ∧ y = .int j ∧ QR i j H2) : tRg2 ta tb σ H QR := h
theorem y_r2 {i j : Int} {R : Int → Int → Prop} (h : R i j) : ∃ i' j', V.int i = .int i' ∧ V.int j = .int j' ∧ R i' j' := ⟨i, j, rfl, rfl, h⟩
theorem wipe1 {σ : L2.St} {i : Nat} {x : Option V} : wipe ((wipe σ [i]).set i x) [i] = wipe σ [i] := by
  show ((σ.set i none).set i x).set i none = σ.set i none
  rw [List.set_set, List.set_set]
theorem wipe2 {σ : L2.St} {i j : Nat} {x y : Option V} (h : i ≠ j) : wipe (((wipe σ [i, j]).set i x).set j y) [i, j] = wipe σ [i, j] := by
  show (((((σ.set j none).set i none).set i x).set j y).set j none).set i none = (σ.set j none).set i none
  rw [List.set_set, List.set_set, List.set_comm _ _ h, List.set_set, List.set_set]
/-- the slots, written out -/
theorem x_norm {t : TS} {D : Ends} {σ σ' : L2.St} {H : Hp} (e : σ = σ') (h : t D σ' H) : t D σ H := e ▸ h
end

section
variable {P : Program} {w : World} {K : PySem.W.Frag} {mg : Str → Option Value} {base : Heap}
/-! ### law 25: its two programs -/
theorem PL.same {H H' : Hp} {l : Addr} {ps : List Addr} {ds : List Deed} (h : PL H l ps ds) (s : Same H H') : PL H' l ps ds := ⟨s _ _ h.1, Paired.mapP h.2 fun _ _ z => ⟨s _ _ z.1, z.2⟩⟩
theorem PL.cat {H H' : Hp} {l m p : Addr} {ps qs : List Addr} {ds es : List Deed} (h : PL H l ps ds) (g : PL H m qs es) (s : Same H H') (e : H' p = some (.lst (ps.map V.ref ++ qs.map V.ref))) : PL H' p (ps ++ qs) (ds ++ es) := by
  refine ⟨by rw [e, List.map_append], ?_⟩
  have app : ∀ {ps : List Addr} {ds : List Deed}, Paired (fun (p : Addr) (d : Deed) => H' p = some (.tup (deedV d)) ∧ Good d) ps ds → Paired (fun (p : Addr) (d : Deed) => H' p = some (.tup (deedV d)) ∧ Good d) (ps ++ qs) (ds ++ es) := by
    intro ps ds r
    induction r with
    | nil => exact Paired.mapP g.2 fun _ _ z => ⟨s _ _ z.1, z.2⟩
    | cons x _ ih => exact .cons x ih
  exact app (Paired.mapP h.2 fun _ _ z => ⟨s _ _ z.1, z.2⟩)
abbrev spFirst (K : PySem.W.Frag) : Sp := Sp2 fun x y H Q => ∃ (ah ac : Addr) (n : Nat), x = .ref ah ∧ y = .int (n : Int) ∧ HS H ah ac ∧ LamX.Tabs (TTs K) H ∧ n ≤ 5 ∧
  ∀ (r : Addr) (ps : List Addr) (kds : List Str) (H' : Hp), kds.length = n → (∀ k ∈ kds, k ∈ KDS) → PL H' r ps (dFirst kds) → ¬ FH ah ac r → HS H' ah ac → Fr K (FH ah ac) H H' → Q (.ref r) H'
theorem hold_len {kds : List Str} : (kds.flatMap dHold).length = 3 * kds.length := by
  induction kds with
  | nil => rfl
  | cons k l ih => rw [List.flatMap_cons, List.length_append, ih, List.length_cons]; show 3 + _ = _; omega
theorem cal__law_first (T : Tx w K mg base) : Cal P w K mg base 2 "_law_first" (spFirst K) [] := by
  obtain ⟨fd, F⟩ := T.fn__law_first
  refine cal_of F T.g__law_first sc__law_first (F.bindsN fun _ _ _ _ _ _ us hl => match us, hl with | [_, _], _ => rfl) (fun vs H Q E h => h.len) (fun cdv A outer s H vs Q E hr h => ?_)
  obtain ⟨x, y, rfl, ah, ac, n, rfl, rfl, hs, tb, n5, q⟩ := h
  have hu := hu_of hr
  have nd := sc__law_first.nd
  refine ⟨_, (pss_cons (ps_set (i := 2) nd rfl (Or.inl rfl) (pe_lstS (pa_cons (pe_tupS (pa_cons pe_str (pa_cons pe_str (pa_cons pe_str pa_nil)))) (pa_cons (pe_tupS (pa_cons pe_str (pa_cons pe_str (pa_cons pe_str pa_nil)))) pa_nil)))) (pss_cons (ps_for PassesOwn.never rfl (pi_range1 (by rfl) T.n_range (pa_cons (pv 1) pa_nil)) (pg_name (i := 3) nd rfl (Or.inl rfl)) (pss_cons (ps_set (i := 4) nd rfl (Or.inl rfl) (pe_ix ix_list (pe_lstS (pa_cons pe_str (pa_cons pe_str (pa_cons pe_str pa_nil)))) (pe_c (cal__law_next T) hr (by decide) (by rfl) (pa_cons (pv 0) (pa_cons pe_int pa_nil))) (fun _ _ => rfl))) (pss_cons (ps_set (i := 5) nd rfl (Or.inl rfl) (pe_dget hu (pe_disp (pps_cons pe_str pe_str (pps_cons pe_str pe_int (pps_cons pe_str pe_int pps_nil))) (by rfl) (by rfl) (fun z => by cases z) (by decide)) (pv 4) (fun _ _ => rfl))) (pss_one (ps_set (i := 2) nd rfl (Or.inl rfl) (pe_op op_catS (pv 2) (pe_lstS (pa_cons (pe_tupS (pa_cons pe_str (pa_cons pe_str (pa_cons (pv 4) pa_nil)))) (pa_cons (pe_tupS (pa_cons pe_str (pa_cons pe_str (pa_cons (pv 5) (pa_cons pe_str pa_nil))))) (pa_cons (pe_tupS (pa_cons pe_str (pa_cons pe_str (pa_cons pe_str pa_nil)))) pa_nil)))))))))) (pss_one (ps_ret (pe_op op_catS (pv 2) (pe_lstS (pa_cons (pe_tupS (pa_cons pe_str (pa_cons pe_str (pa_cons pe_str pa_nil)))) (pa_cons (pe_tupS (pa_cons pe_str (pa_cons pe_str (pa_cons pe_str (pa_cons pe_str pa_nil))))) (pa_cons (pe_tupS (pa_cons pe_str (pa_cons pe_str pa_nil))) pa_nil))))))))), ?_⟩
  walk_at "sx"
  refine ⟨by simp, fun p1 H1 s1 n1 e1 => ?_⟩
  walk_at "rx"
  refine ⟨by simp, fun p2 H2 s2 n2 e2 => ?_⟩
  walk_at "rx"
  refine ⟨by simp, fun l3 H3 s3 n3 e3 => ?_⟩
  have pl3 : PL H3 l3 [p1, p2] (dHead ++ [].flatMap dHold) := ⟨e3, .cons ⟨(s2.trans s3) _ _ e1, by decide +kernel, by decide +kernel⟩ (.cons ⟨s3 _ _ e2, by decide +kernel, by decide +kernel⟩ .nil)⟩
  have s03 := s1.trans (s2.trans s3)
  walk_at "rx"
  refine y_iR (by omega) (by omega) ?_
  refine y_forR (fun j σ H' => ∃ l ps kds u3 u4 u5, σ = [some (.ref ah), some (.int (n : Int)), some (.ref l), u3, u4, u5] ∧ kds.length = j ∧ (∀ k ∈ kds, k ∈ KDS) ∧ PL H' l ps (dHead ++ kds.flatMap dHold) ∧ ¬ FH ah ac l ∧ HS H' ah ac ∧ Fr K (FH ah ac) H H')
    ⟨l3, [p1, p2], [], _, _, _, rfl, rfl, fun _ m => (by cases m), pl3, FH_fresh (hs.same (s1.trans s2)) n3, hs.same s03, Fr.same s03⟩ ?_ ?_
  · rintro j σ H4 hj ⟨l, ps, kds, u3, u4, u5, rfl, lk, gk, pl4, nl4, hs4, f4⟩
    walk_at "rx"
    refine ⟨by simp, fun l5 H5 s5 n5 e5 => ?_⟩
    walk_at "rx"
    refine ⟨ah, ac, 3, rfl, rfl, hs4.same s5, by decide, by decide, fun r6 H6 r60 r61 hs6 f6 => ?_⟩
    have e6 := f6.lst e5 (FH_fresh hs4 n5)
    have pl6 := (pl4.same s5).fr f6 nl4
    obtain ⟨v, hv, kd, hk, rfl⟩ := at_all (P := fun v => ∃ k, k ∈ KDS ∧ v = V.str k) (xs := [V.str "record", V.str "row", V.str "book"]) (i := r6) r60 r61 (fun v m => by
      simp only [List.mem_cons, List.not_mem_nil, or_false] at m
      rcases m with m | m | m <;> subst m <;> exact ⟨_, by decide +kernel, rfl⟩)
    refine y_ixL e6 hv ?_
    have f06 := f4.tr ((Fr.same s5).tr f6)
    walk_at "rx"
    intro d7 hd7
    walk_at "rx"
    refine ⟨upd_same, [(.inr "record", .str "b"), (.inr "row", .int 0), (.inr "book", .int 7)], rfl, by simp, ?_⟩
    rw [upd_upd]
    have s7 := Same.new (o := .dK (mergeK [] [((.inr "record" : Key), V.str "b"), (.inr "row", .int 0), (.inr "book", .int 7)])) hd7
    have e7 : upd H6 d7 (.dK (mergeK [] [((.inr "record" : Key), V.str "b"), (.inr "row", .int 0), (.inr "book", .int 7)])) d7 = some (.dK [((.inr "record" : Key), V.str "b"), (.inr "row", .int 0), (.inr "book", .int 7)]) := by rw [upd_same]; kernel_rfl
    generalize upd H6 d7 (.dK (mergeK [] [((.inr "record" : Key), V.str "b"), (.inr "row", .int 0), (.inr "book", .int 7)])) = H7 at s7 e7 ⊢
    have hs7 := hs6.same s7
    have pl7 := pl6.same s7
    have f07 := f06.tr (Fr.same s7)
    walk_at "rx"
    refine y_dgetS (v := kV (pK kd)) e7 (by rcases kds3 hk with e | e | e <;> subst e <;> kernel_rfl) ?_
    walk_at "rx"
    refine ⟨by simp, fun q1 G1 t1 m1 g1 => ?_⟩
    walk_at "rx"
    refine ⟨by simp, fun q2 G2 t2 m2 g2 => ?_⟩
    walk_at "rx"
    refine ⟨by simp, fun q3 G3 t3 m3 g3 => ?_⟩
    walk_at "rx"
    refine ⟨by simp, fun l8 G4 t4 m4 g4 => ?_⟩
    have plB : PL G4 l8 [q1, q2, q3] (dHold kd) := by
      have gd := dh_good hk
      refine ⟨g4, .cons ⟨(t2.trans (t3.trans t4)) _ _ g1, gd _ (by simp [dHold])⟩ (.cons ⟨(t3.trans t4) _ _ g2, gd _ (by simp [dHold])⟩ (.cons ⟨t4 _ _ g3, gd _ (by simp [dHold])⟩ .nil))⟩
    have t04 := t1.trans (t2.trans (t3.trans t4))
    have pl8 := pl7.same t04
    refine y_catS pl8.1 plB.1 (by rw [List.length_map, Paired.length pl8.2, List.length_append, hold_len]; show 2 + _ + 3 ≤ 9000; omega) fun p9 G5 t5 m5 g5 => ?_
    walk_at "rx"
    have pl9 := PL.cat pl8 plB t5 g5
    rw [List.append_assoc] at pl9
    refine ⟨p9, _, kds ++ [kd], _, _, _, rfl, by rw [List.length_append, List.length_singleton, lk], fun k m => ?_, by rw [List.flatMap_append, List.flatMap_singleton]; exact pl9, FH_fresh (hs7.same t04) m5, hs7.same (t04.trans t5), f07.tr (Fr.same (t04.trans t5))⟩
    rcases List.mem_append.mp m with m | m
    · exact gk k m
    · rw [List.mem_singleton] at m; rw [m]; exact hk
  · rintro σ H4 ⟨l, ps, kds, u3, u4, u5, rfl, lk, gk, pl4, nl4, hs4, f4⟩
    walk_at "rx"
    refine ⟨by simp, fun q1 G1 t1 m1 g1 => ?_⟩
    walk_at "rx"
    refine ⟨by simp, fun q2 G2 t2 m2 g2 => ?_⟩
    walk_at "rx"
    refine ⟨by simp, fun q3 G3 t3 m3 g3 => ?_⟩
    walk_at "rx"
    refine ⟨by simp, fun l8 G4 t4 m4 g4 => ?_⟩
    have plB : PL G4 l8 [q1, q2, q3] dEnd := by
      have gd := first_good gk
      refine ⟨g4, .cons ⟨(t2.trans (t3.trans t4)) _ _ g1, gd _ (by simp [dFirst, dEnd])⟩ (.cons ⟨(t3.trans t4) _ _ g2, gd _ (by simp [dFirst, dEnd])⟩ (.cons ⟨t4 _ _ g3, gd _ (by simp [dFirst, dEnd])⟩ .nil))⟩
    have t04 := t1.trans (t2.trans (t3.trans t4))
    have pl8 := pl4.same t04
    refine y_catS pl8.1 plB.1 (by rw [List.length_map, Paired.length pl8.2, List.length_append, hold_len]; show 2 + _ + 3 ≤ 9000; omega) fun p9 G5 t5 m5 g5 => ?_
    exact q p9 _ kds G5 lk gk (PL.cat pl8 plB t5 g5) (FH_fresh (hs4.same t04) m5) (hs4.same (t04.trans t5)) (f4.tr (Fr.same (t04.trans t5)))
/-- what the law makes of a deed on its way back -/
def dnF : Deed → Option Deed
  | .put n p _ => if n = "q" then some (.take "s" "s" p) else none
  | _ => none
theorem dn_first {kds : List Str} : (dFirst kds).reverse.filterMap dnF = kds.reverse.map fun kd => Deed.take "s" "s" (pK kd) := by
  unfold dFirst
  rw [List.reverse_append, List.reverse_append, List.filterMap_append, List.filterMap_append]
  have e1 : dEnd.reverse.filterMap dnF = [] := by kernel_rfl
  have e2 : dHead.reverse.filterMap dnF = [] := by kernel_rfl
  rw [e1, e2, List.nil_append, List.append_nil]
  induction kds with
  | nil => rfl
  | cons k l ih =>
    rw [List.flatMap_cons, List.reverse_append, List.filterMap_append, ih, List.reverse_cons, List.map_append]
    rfl
abbrev spDown (K : PySem.W.Frag) : Sp := Sp2 fun x y H Q => ∃ (l : Addr) (ps : List Addr) (kds : List Str), y = .ref l ∧ PL H l ps (dFirst kds) ∧ kds.length ≤ 5 ∧ (∀ k ∈ kds, k ∈ KDS) ∧
  ∀ (r : Addr) (ps : List Addr) (H' : Hp), Same H H' → H r = none → PL H' r ps (dDown kds) → Q (.ref r) H'
theorem cal__law_down (T : Tx w K mg base) : Cal P w K mg base 1 "_law_down" (spDown K) [] := by
  obtain ⟨fd, F⟩ := T.fn__law_down
  refine cal_of F T.g__law_down sc__law_down (F.bindsN fun _ _ _ _ _ _ us hl => match us, hl with | [_, _], _ => rfl) (fun vs H Q E h => h.len) (fun cdv A outer s H vs Q E hr h => ?_)
  obtain ⟨x, y, rfl, l, ps, kds, rfl, pl, l5, gk, q⟩ := h
  have hu := hu_of hr
  have nd := sc__law_down.nd
  refine ⟨_, (pss_cons (ps_set (i := 2) nd rfl (Or.inl rfl) (pe_lstS (pa_cons (pe_tupS (pa_cons pe_str (pa_cons pe_str (pa_cons pe_str pa_nil)))) pa_nil))) (pss_cons (ps_for PassesOwn.never rfl (pi_list (pe_revL (pv 1))) (pg_name (i := 3) nd rfl (Or.inl rfl)) (pss_one (ps_if (PW.pt (pw_and (pt_cmpR op_eq (pe_ix ix_tup (pv 3) pe_int (fun _ _ => rfl)) pe_str (nomark _)) (pw_and1 (pt_cmpR op_eq (pe_ix ix_tup (pv 3) pe_int (fun _ _ => rfl)) pe_str (nomark _))))) (pss_one (ps_expr (pe_bm PySem.F.plainAttrs_list PySem.F.slot_list_append PySem.F.type_list_append mt_append (pv 2) (pa_cons (pe_tupS (pa_cons pe_str (pa_cons pe_str (pa_cons pe_str (pa_cons (pe_ix ix_tup (pv 3) pe_int (fun _ _ => rfl)) pa_nil))))) pa_nil)))) pss_nil))) (pss_one (ps_ret (pv 2))))), ?_⟩
  walk_at "sx"
  refine ⟨by simp, fun p1 H1 s1 n1 e1 => ?_⟩
  walk_at "rx"
  refine ⟨by simp, fun l2 H2 s2 n2 e2 => ?_⟩
  have pl2 := pl.same (s1.trans s2)
  walk_at "rx"
  refine ⟨l, _, rfl, sqL pl2.1, fun l3 hl3 => ?_⟩
  have s3 := Same.new (o := .lst (ps.map V.ref).reverse) hl3
  have e3 : upd H2 l3 (.lst (ps.map V.ref).reverse) l3 = some (.lst (ps.map V.ref).reverse) := upd_same
  generalize upd H2 l3 (.lst (ps.map V.ref).reverse) = H3 at s3 e3 ⊢
  have pl3 := pl2.same s3
  have rv : ∀ {ps : List Addr} {ds : List Deed}, Paired (fun (p : Addr) (d : Deed) => H3 p = some (.tup (deedV d)) ∧ Good d) ps ds → Paired (fun (p : Addr) (d : Deed) => H3 p = some (.tup (deedV d)) ∧ Good d) ps.reverse ds.reverse := by
    intro ps ds r
    induction r with
    | nil => exact .nil
    | cons x _ ih => rw [List.reverse_cons, List.reverse_cons]; exact Paired.app ih x
  have pr := rv pl3.2
  have el := Paired.length pr
  rw [← List.map_reverse] at e3
  have n20 : H l2 = none := same_none s1 n2
  have dl : (dFirst kds).length ≤ 100 := by unfold dFirst; rw [List.length_append, List.length_append, hold_len]; show 2 + _ + 3 ≤ 100; omega
  have l32 : l3 ≠ l2 := (ne_of_none e2 hl3).symm
  have e23 := s3 _ _ e2
  refine y_iL (sqL e3) ?_
  refine y_forL (xs := ps.reverse.map V.ref) (fun i σ H' => ∃ qs u3, σ = [some x, some (.ref l), some (.ref l2), u3] ∧ Same H H' ∧ H' l3 = some (.lst (ps.reverse.map V.ref)) ∧ PL H' l2 qs (.copy "s" "p" :: ((dFirst kds).reverse.take i).filterMap dnF) ∧ Paired (fun (p : Addr) (d : Deed) => H' p = some (.tup (deedV d)) ∧ Good d) ps.reverse (dFirst kds).reverse)
    ⟨[p1], _, rfl, s1.trans (s2.trans s3), e3, ⟨e23, .cons ⟨(s2.trans s3) _ _ e1, by decide +kernel, by decide +kernel⟩ .nil⟩, pr⟩ (fun i σ H' _ h => by obtain ⟨_, _, _, _, h, _⟩ := h; exact sqL h) ?_ ?_
  · rintro i v σ H4 hi ⟨qs, u3, rfl, s4, e4, pl4, pr4⟩
    rw [List.getElem?_map] at hi
    obtain ⟨pd, hpd, rfl⟩ := Option.map_eq_some_iff.mp hi
    obtain ⟨d, hd, htd, gd⟩ := paired_get pr4 hpd
    have il := (List.getElem?_eq_some_iff.mp hd).1
    rw [List.length_reverse] at il
    have tk := take_snoc hd
    have skip : dnF d = none → ∃ qs u3, [some x, some (V.ref l), some (V.ref l2), some (V.ref pd)] = [some x, some (V.ref l), some (V.ref l2), u3] ∧ Same H H4 ∧ H4 l3 = some (.lst (ps.reverse.map V.ref)) ∧ PL H4 l2 qs (.copy "s" "p" :: ((dFirst kds).reverse.take (i + 1)).filterMap dnF) ∧ Paired (fun (p : Addr) (d : Deed) => H4 p = some (.tup (deedV d)) ∧ Good d) ps.reverse (dFirst kds).reverse := fun e =>
      ⟨qs, _, rfl, s4, e4, by rw [tk, List.filterMap_append, show [d].filterMap dnF = [] by simp [e], List.append_nil]; exact pl4, pr4⟩
    cases d with
    | put n p m =>
      have g0 := htd
      walk_at "rx"
      refine y_T rfl ?_
      walk_at "rx"
      refine y_dec (fun c => ?_) (fun c => ?_)
      · have c := V.str.inj c
        subst c
        walk_at "rx"
        refine ⟨.inl ⟨rfl, _, sqL pl4.1⟩, ?_⟩
        walk_at "rx"
        refine ⟨by simp, fun p5 H5 s5 n5 e5 => ?_⟩
        have pl5 := pl4.same s5
        have ql : qs.length ≤ 101 := by
          rw [Paired.length pl4.2, List.length_cons]
          have := List.length_filterMap_le dnF ((dFirst kds).reverse.take i)
          rw [List.length_take, List.length_reverse] at this
          omega
        walk_at "rx"
        refine y_append pl5.1 (small9000 (by rw [List.length_map]; omega)) ?_
        have f5 : Fr K (fun b => b = l2) H5 (upd H5 l2 (.lst (qs.map V.ref ++ [V.ref p5]))) := Fr.upd rfl (by rw [pl5.1]; trivial)
        refine ⟨qs ++ [p5], _, rfl, same_fresh (s4.trans s5) n20, f5.lst (s5 _ _ e4) l32, ?_, Paired.mapP pr4 fun _ _ z => ⟨f5.i _ _ (s5 _ _ z.1), z.2⟩⟩
        rw [tk, List.filterMap_append, ← List.cons_append]
        refine ⟨by rw [upd_same, List.map_append]; rfl, Paired.app (Paired.mapP pl5.2 fun _ _ z => ⟨f5.i _ _ z.1, z.2⟩) ⟨f5.i _ _ e5, by decide +kernel, by decide +kernel, gd.2.1⟩⟩
      · have e : dnF (.put n p m) = none := if_neg fun z => c (by rw [z])
        walk_at "rx"
        exact skip e
    | _ =>
      walk_at "rx"
      refine y_F (by decide) ?_
      walk_at "rx"
      exact skip rfl
  · rintro σ H4 ⟨qs, u3, rfl, s4, e4, pl4, pr4⟩
    walk_at "rx"
    rw [List.length_map, el, List.take_length, dn_first] at pl4
    exact q l2 qs H4 s4 n20 pl4
end

section
variable {P : Program} {w : World} {K : PySem.W.Frag} {mg : Str → Option Value} {base : Heap}
theorem atI_lastG {l : List V} {x : V} (h : l.getLast? = some x) : atI l (-1) = some x := by
  obtain ⟨ys, rfl⟩ := List.getLast?_eq_some_iff.mp h
  exact atI_lastV
def isPut (kd : Str) : Deed → Bool
  | .put n p m => decide (n = "t") && (decide (p = tK kd) && decide (m = "u"))
  | _ => false
theorem str_beq {a b : Str} : (a == b) = decide (a = b) := by
  by_cases h : a = b
  · subst h; simp
  · simp [h]
theorem eqv_put {kd : Str} {d : Deed} (g : Good d) (hk : kd = RECORD ∨ kd = BOOK) : PyData.eqv (deedD d) (deedD (dPut kd)) = isPut kd d := by
  cases d with
  | put n p m =>
    have e : PyData.eqv (deedD (.put n p m)) (deedD (dPut kd)) = ((("put" : Str) == "put") && ((n == "t") && (PyData.eqv (atD (kV p)) (atD (kV (tK kd))) && ((m == "u") && true)))) := rfl
    rw [e]
    have ek : PyData.eqv (atD (kV p)) (atD (kV (tK kd))) = decide (p = tK kd) := by
      rcases hk with e | e <;> subst e
      · rw [show tK RECORD = .inr "a" by decide +kernel]
        cases p with
        | inl i => rfl
        | inr s =>
          show (s == "a") = _
          rw [str_beq]
          exact dec_congr ⟨fun h => by rw [h], fun h => Sum.inr.inj h⟩
      · rw [show tK BOOK = .inl 4 by decide +kernel]
        cases p with
        | inl i =>
          show (i == 4) = _
          by_cases h : i = 4
          · subst h; rfl
          · rw [decide_eq_false fun z => h (Sum.inl.inj z)]
            simp [h]
        | inr s => rfl
    rw [ek, str_beq, str_beq, str_beq]
    unfold isPut
    simp
  | _ => rfl
theorem y_neD {H : Hp} {Q : VK} {p t : Addr} {kd : Str} {d : Deed} (h : H p = some (.tup (deedV d))) (g : Good d) (ht : H t = some (.tup (deedV (dPut kd)))) (hk : kd = RECORD ∨ kd = BOOK) (q : Q (.bl (!isPut kd d)) H) : rNeD K (.ref p) (.ref t) H Q := by
  have sh : ∀ {d : Deed}, Good d → SeqAt.shaped (deedD d) = true := fun {d} g => by
    unfold SeqAt.shaped
    rw [lay_deed g, decide_eq_true (show (deedD d).depth ≤ 64 from Nat.le_trans (show PyData.depthAll ((deedV d).map atD) + 1 ≤ 1 by rw [depth_ats]; exact Nat.le_refl _) (by decide))]
    rfl
  exact ⟨_, _, dp_deed h, dp_deed ht, sh g, sh (put_good hk), by rw [eqv_put g hk]; exact q⟩
theorem filter_down {kds : List Str} {kd : Str} : (dDown kds).filter (fun d => !isPut kd d) = dDown kds := by
  refine List.filter_eq_self.mpr fun d m => ?_
  unfold dDown at m
  rcases List.mem_append.mp m with m | m
  · rw [List.mem_singleton] at m; subst m; rfl
  · obtain ⟨k, _, rfl⟩ := List.mem_map.mp m; rfl
theorem filter_again {kds : List Str} {kd : Str} (hk : kd = RECORD ∨ kd = BOOK) : (dDown kds ++ dTail kd).filter (fun d => !isPut kd d) = dDown kds ++ dTail2 kd := by
  rw [List.filter_append, filter_down]
  congr 1
  rcases hk with e | e <;> subst e <;> kernel_rfl
theorem down_len {kds : List Str} : (dDown kds).length = 1 + kds.length := by
  unfold dDown
  rw [List.length_append, List.length_map, List.length_reverse]
  rfl
theorem first_len {kds : List Str} : (dFirst kds).length = 5 + 3 * kds.length := by
  unfold dFirst
  rw [List.length_append, List.length_append, hold_len]
  show 2 + _ + 3 = _
  omega
/-- photos told by growing, as leak wants them -/
theorem Phs.phP {H0 H : Hp} {r : Addr} {vs : List V} {N : Nat → Addr → Prop} {Ms : Nat → HM} {m : Nat} (h : Phs H0 H r vs N Ms) (l : vs.length = m) (ok : ∀ i < m, (Ms i).Ok ∧ (Ms i).made ≤ 8000) : Paired (PhP H) vs (phsM Ms m) :=
  paired_of (by unfold phsM; rw [List.length_map, List.length_range, l]) fun i v p e1 e2 => by
    have hi : i < m := by have := (List.getElem?_eq_some_iff.mp e1).1; omega
    unfold phsM at e2
    rw [List.getElem?_map, List.getElem?_range hi] at e2
    cases e2
    exact ⟨(h.ph i v e1).g, PhK_M (ok i hi).1 (ok i hi).2⟩
theorem PhP.same {H H' : Hp} {v : V} {p : List AV × List PRow} (h : PhP H v p) (s : Same H H') : PhP H' v p := ⟨h.1.same s, h.2⟩
theorem y_tup2k {i j : Nat} {p : Addr} {x y : V} {σ : L2.St} {H : Hp} {QS : L2.St → Hp → Prop} (h : H p = some (.tup [x, y])) (q : QS ((σ.set i (some x)).set j (some y)) H) : gTup K 2 (gCons (gName i) (gCons (gName j) gNil)) (.ref p) σ H QS :=
  ⟨p, _, rfl, sqT h, rfl, _, _, rfl, x_name ⟨_, _, rfl, x_name ⟨rfl, q⟩⟩⟩
theorem law_fn (T : Tx w K mg base) {fd : FuncData} (F : FunD K "law" "law" (fnArgs s_law) (fnBody s_law) (fnScope s_law) [] [] (He.ga K "law") fd) : FnOk P w K mg base C8.CX0 11 (He.ga K "law") fd ["_law_script"] (spLaw K) := by
  refine F.ok sc_law (fun vs H Q E h => by obtain ⟨a, ns, rfl, _⟩ := h; rfl) (fun cdv A outer s H vs Q E hr h => ?_)
  obtain ⟨a, ns, rfl, hS, hl, hb, tb, q⟩ := h
  have hu := hu_of hr
  have nd := sc_law.nd
  refine (fun {t} (h1 : PSs _ _ t) (h2 : t _ _ _) => ⟨t, h1.nox, h2⟩) (pss_cons (ps_set (i := 1) nd rfl (Or.inl rfl) (pe_c (cal__law_mix T) hr (by decide) (by rfl) (pa_cons (pv 0) (pa_cons pe_int pa_nil)))) (pss_cons (ps_set (i := 2) nd rfl (Or.inl rfl) (pe_c (cal__law_next T) hr (by decide) (by rfl) (pa_cons (pv 1) (pa_cons pe_int pa_nil)))) (pss_cons (ps_set (i := 3) nd rfl (Or.inl rfl) (pe_c (cal__law_first T) hr (by decide) (by rfl) (pa_cons (pv 1) (pa_cons (pv 2) pa_nil)))) (pss_cons (ps_set (i := 4) nd rfl (Or.inl rfl) (pe_c (cal__law_down T) hr (by decide) (by rfl) (pa_cons (pv 1) (pa_cons (pv 3) pa_nil)))) (pss_cons (ps_set (i := 5) nd rfl (Or.inl rfl) (pe_ix ix_list (pe_lstS (pa_cons pe_str (pa_cons pe_str pa_nil))) (pe_c (cal__law_next T) hr (by decide) (by rfl) (pa_cons (pv 1) (pa_cons pe_int pa_nil))) (fun _ _ => rfl))) (pss_cons (ps_set (i := 6) nd rfl (Or.inr rfl) (pe_ix ix_list (pe_lstS (pa_cons pe_str (pa_cons pe_int pa_nil))) (pe_callTy call_int1 (by rfl) T.n_int (by decide +kernel) (pa_cons (pe_cmpR op_eq (pv 5) pe_str (nomark _)) pa_nil)) (fun _ _ => rfl))) (pss_cons (ps_set (i := 7) nd rfl (Or.inl rfl) (pe_op op_catS (pv 4) (pe_lstS (pa_cons (pe_tupS (pa_cons pe_str (pa_cons pe_str (pa_cons (pv 5) pa_nil)))) (pa_cons (pe_tupS (pa_cons pe_str (pa_cons pe_str (pa_cons pe_str (pa_cons pe_str pa_nil))))) (pa_cons (pe_tupS (pa_cons pe_str (pa_cons pe_str (pa_cons (pv 6) (pa_cons pe_str pa_nil))))) (pa_cons (pe_tupS (pa_cons pe_str (pa_cons pe_str (pa_cons pe_str (pa_cons pe_str pa_nil))))) pa_nil))))))) (pss_cons (ps_set (i := 7) nd rfl (Or.inl rfl) (pe_op op_catS (pv 7) (pe_lstS (pa_cons (pe_tupS (pa_cons pe_str (pa_cons pe_str pa_nil))) (pa_cons (pe_tupS (pa_cons pe_str (pa_cons pe_str pa_nil))) (pa_cons (pe_tupS (pa_cons pe_str (pa_cons pe_str pa_nil))) pa_nil)))))) (pss_cons (ps_set (i := 8) nd rfl (Or.inl rfl) (pe_op op_add pe_int (pe_c (cal__law_next T) hr (by decide) (by rfl) (pa_cons (pv 1) (pa_cons pe_int pa_nil))))) (pss_cons (ps_set (i := 9) nd rfl (Or.inl rfl) (pe_c (cal_growing T) hr (by decide) (by rfl) (pa_cons (pv 3) (pa_cons (pv 7) (pa_cons (pv 8) pa_nil))))) (pss_cons (ps_if (pt_cmpR (op_neD hr.units) (pe_c (cal_leak T) hr (by decide) (by rfl) (pa_cons (pv 9) pa_nil)) (pe_lstS (pa_cons pe_int pa_nil)) (nomark _)) (pss_one (ps_ret pe_bl)) pss_nil) (pss_cons (ps_asg (pe_c (cal_compared T) hr (by decide) (by rfl) (pa_cons (pe_ix ix_list (pv 9) pe_int (fun _ _ => rfl)) (pa_cons (pe_ix ix_list (pv 9) (pe_un un_neg pe_int) (fun _ _ => rfl)) pa_nil))) (pg_tup (n := 3) rfl (pgs_cons (pg_name (i := 10) nd rfl (Or.inl rfl)) (pgs_cons (pg_name (i := 11) nd rfl (Or.inl rfl)) (pgs_cons (pg_name (i := 12) nd rfl (Or.inl rfl)) pgs_nil))))) (pss_cons (ps_if (PW.pt (pw_or (pt_cmpR op_ne (pe_callB call_len_seq (by rfl) T.n_len PySem.boot_len (pa_cons (pv 10) pa_nil)) (pe_op op_sub (pv 8) pe_int) (nomark _)) (pw_or (pt_cmpR (op_neD hr.units) (pv 11) (pe_lstS pa_nil) (nomark _)) (pw_or1 (pt_cmpR op_ne (pe_lenSetJ rfl (by rfl) T.n_len (by rfl) T.n_set (pe_lc (own := [("_law_number", 14), ("_law_by", 15)]) (by rfl) nd (pi_list (pv 12)) (blkOk_by (own := [("_law_number", 14), ("_law_by", 15)]) (N := N_law) (sc := (C8.fnScope s_law)) (by decide +kernel)) (fun _ _ _ _ _ => (pg_tupK (K := K) (n := 2) rfl rfl (pgs_cons (pg_name (i := 14) nd rfl (Or.inl rfl)) (pgs_cons (pg_name (i := 15) nd rfl (Or.inl rfl)) pgs_nil)))) (fun _ _ _ _ _ => pts_nil) (fun _ _ _ _ _ => (pv 15)))) pe_int (nomark _)))))) (pss_one (ps_ret pe_bl)) pss_nil) (pss_cons (ps_if (pt_cmpR (op_neD hr.units) (pe_callB cr_sortedI (by rfl) T.n_sorted (by decide +kernel) (pa_cons (pe_lc (own := [("_law_number", 14), ("_law_by", 15)]) (by rfl) nd (pi_list (pv 12)) (blkOk_by (own := [("_law_number", 14), ("_law_by", 15)]) (N := N_law) (sc := (C8.fnScope s_law)) (by decide +kernel)) (fun _ _ _ _ _ => (pg_tupK (K := K) (n := 2) rfl rfl (pgs_cons (pg_name (i := 14) nd rfl (Or.inl rfl)) (pgs_cons (pg_name (i := 15) nd rfl (Or.inl rfl)) pgs_nil)))) (fun _ _ _ _ _ => pts_nil) (fun _ _ _ _ _ => (pv 14))) pa_nil)) (pe_op op_catS (pe_lstS (pa_cons pe_int pa_nil)) (pe_listRg rfl (by rfl) T.n_list (prg_2 (by rfl) T.n_range pe_int (pe_op op_add pe_int (pv 2))))) (nomark _)) (pss_one (ps_ret pe_bl)) pss_nil) (pss_cons (ps_setLc (i := 13) (own := [("_law_deed", 16)]) (by rfl) nd rfl rfl (sw_true rfl rfl rfl (by decide +kernel)) (pi_list (pv 7)) (blkOk_by (own := [("_law_deed", 16)]) (N := N_law) (sc := (C8.fnScope s_law)) (by decide +kernel)) (fun _ _ _ _ _ => (pg_name (i := 16) nd rfl (Or.inl rfl))) (fun _ _ _ _ _ => (pts_one (pt_cmpR (op_neDK (K := K) rfl hr.units) (pv 16) (pe_tupS (pa_cons pe_str (pa_cons pe_str (pa_cons (pv 6) (pa_cons pe_str pa_nil))))) (nomark _)))) (fun _ _ _ _ _ => (pv 16))) (pss_one (ps_ret (pe_and (pe_cmpR (op_eqD hr.units) (pe_c (cal_leak T) hr (by decide) (by rfl) (pa_cons (pe_c (cal_growing T) hr (by decide) (by rfl) (pa_cons (pv 3) (pa_cons (pv 13) (pa_cons (pv 8) pa_nil)))) pa_nil)) (pe_lstS pa_nil) (nomark _)) (pe_one (pe_cmpR (op_eqD hr.units) (pe_c (cal_leak T) hr (by decide) (by rfl) (pa_cons (pe_c (cal_growing T) hr (by decide) (by rfl) (pa_cons (pv 3) (pa_cons (pe_op op_catS (pv 4) (pe_lstS (pa_cons (pe_tupS (pa_cons pe_str (pa_cons pe_str pa_nil))) pa_nil))) (pa_cons (pv 8) pa_nil)))) pa_nil)) (pe_lstS pa_nil) (nomark _))))))))))))))))))))) ?_
  walk_at "sx"
  refine ⟨a, ns, _, rfl, rfl, hS, hl, by decide, by decide, fun ah ac H1 hah hac s1 hs => ?_⟩
  have tb1 := tb.ext s1
  walk_at "rx"
  refine ⟨ah, ac, 6, rfl, rfl, hs, by decide, by decide, fun r2 H2 r20 r21 hs2 f2 => ?_⟩
  obtain ⟨n, rfl⟩ := Int.eq_ofNat_of_zero_le r20
  have tb2 := f2.t tb1
  walk_at "rx"
  refine ⟨ah, ac, n, rfl, rfl, hs2, tb2, by omega, fun l1 ps1 kds H3 lk gk pl1 nl1 hs3 f3 => ?_⟩
  subst lk
  have lk5 : kds.length ≤ 5 := by omega
  walk_at "rx"
  refine ⟨_, _, rfl, l1, ps1, kds, rfl, pl1, lk5, gk, fun l2 ps2 H4 s4 nl2 pl2 => ?_⟩
  have hs4 := hs3.same s4
  have pl1 := pl1.same s4
  have n2 := FH_fresh hs3 nl2
  walk_at "rx"
  refine ⟨by simp, fun l5 H5 s5 n5 e5 => ?_⟩
  walk_at "rx"
  refine ⟨ah, ac, 2, rfl, rfl, hs4.same s5, by decide, by decide, fun r6 H6 r60 r61 hs6 f6 => ?_⟩
  have e6 := f6.lst e5 (FH_fresh hs4 n5)
  have pl1 := (pl1.same s5).fr f6 nl1
  have pl2 := (pl2.same s5).fr f6 n2
  obtain ⟨v, hv, kd, hk, rfl⟩ := at_all (P := fun v => ∃ k, (k = RECORD ∨ k = BOOK) ∧ v = V.str k) (xs := [V.str "record", V.str "book"]) (i := r6) r60 r61 (fun v m => by
    simp only [List.mem_cons, List.not_mem_nil, or_false] at m
    rcases m with m | m <;> subst m
    · exact ⟨_, .inl rfl, rfl⟩
    · exact ⟨_, .inr rfl, rfl⟩)
  refine y_ixL e6 hv ?_
  walk_at "rx"
  refine ⟨by simp, fun l7 H7 s7 n7 e7 => ?_⟩
  walk_at "rx"
  refine .inr ⟨_, rfl, ?_⟩
  refine y_ixL (v := kV (tK kd)) e7 (by rcases hk with e | e <;> subst e <;> kernel_rfl) ?_
  have pl1 := pl1.same s7
  have pl2 := pl2.same s7
  have hs7 := hs6.same s7
  walk_at "rx"
  refine ⟨by simp, fun q1 G1 t1 m1 g1 => ?_⟩
  walk_at "rx"
  refine ⟨by simp, fun q2 G2 t2 m2 g2 => ?_⟩
  walk_at "rx"
  refine ⟨by simp, fun q3 G3 t3 m3 g3 => ?_⟩
  walk_at "rx"
  refine ⟨by simp, fun q4 G4 t4 m4 g4 => ?_⟩
  walk_at "rx"
  refine ⟨by simp, fun q5 G5 t5 m5 g5 => ?_⟩
  have gt := tail_good hk
  have plA : PL G5 q5 [q1, q2, q3, q4] [.make "t" kd, .take "u" "s" (.inr "a"), dPut kd, .put "s" (.inr "a") "t"] :=
    ⟨g5, .cons ⟨(t2.trans (t3.trans (t4.trans t5))) _ _ g1, gt _ (by simp [dTail])⟩ (.cons ⟨(t3.trans (t4.trans t5)) _ _ g2, gt _ (by simp [dTail])⟩ (.cons ⟨(t4.trans t5) _ _ g3, gt _ (by simp [dTail])⟩ (.cons ⟨t5 _ _ g4, gt _ (by simp [dTail])⟩ .nil)))⟩
  have t05 := t1.trans (t2.trans (t3.trans (t4.trans t5)))
  have pl1 := pl1.same t05
  have pl2 := pl2.same t05
  have hs5 := hs7.same t05
  have lp2 := Paired.length pl2.2
  rw [down_len] at lp2
  refine y_catS pl2.1 plA.1 (by rw [List.length_map, lp2]; show _ + 4 ≤ 9000; omega) fun l8 H8 s8 n8 e8 => ?_
  have pl8 := PL.cat pl2 plA s8 e8
  have pl1 := pl1.same s8
  have pl2 := pl2.same s8
  have hs8 := hs5.same s8
  clear plA g1 g2 g3 g4 g5 e8
  walk_at "rx"
  refine ⟨by simp, fun q1 G1 t1 m1 g1 => ?_⟩
  walk_at "rx"
  refine ⟨by simp, fun q2 G2 t2 m2 g2 => ?_⟩
  walk_at "rx"
  refine ⟨by simp, fun q3 G3 t3 m3 g3 => ?_⟩
  walk_at "rx"
  refine ⟨by simp, fun q5 G5 t5 m5 g5 => ?_⟩
  have plB : PL G5 q5 [q1, q2, q3] [.drop "s", .drop "t", .drop "u"] :=
    ⟨g5, .cons ⟨(t2.trans (t3.trans t5)) _ _ g1, gt _ (by simp [dTail])⟩ (.cons ⟨(t3.trans t5) _ _ g2, gt _ (by simp [dTail])⟩ (.cons ⟨t5 _ _ g3, gt _ (by simp [dTail])⟩ .nil))⟩
  have t05 := t1.trans (t2.trans (t3.trans t5))
  have pl1 := pl1.same t05
  have pl2 := pl2.same t05
  have pl8 := pl8.same t05
  have hs9 := hs8.same t05
  refine y_catS pl8.1 plB.1 (by rw [List.length_map, Paired.length pl8.2, List.length_append, down_len]; show _ + 4 + 3 ≤ 9000; omega) fun l9 H9 s9 n9 e9 => ?_
  have pl9 := PL.cat pl8 plB s9 e9
  rw [List.append_assoc (dDown kds)] at pl9
  have pl9 : PL H9 l9 _ (dDown kds ++ dTail kd) := pl9
  have nl9 := FH_fresh hs9 n9
  have pl1 := pl1.same s9
  have pl2 := pl2.same s9
  have hs9 := hs9.same s9
  clear plB pl8 g1 g2 g3 g5 e9
  walk_at "rx"
  refine ⟨ah, ac, 7, rfl, rfl, hs9, by decide, by decide, fun r10 H10 r100 r101 hs10 f10 => ?_⟩
  obtain ⟨m, rfl⟩ := Int.eq_ofNat_of_zero_le r100
  have pl1 := pl1.fr f10 nl1
  have pl2 := pl2.fr f10 n2
  have pl9 := pl9.fr f10 nl9
  have lt9 : (dDown kds ++ dTail kd).length ≤ 120 := by rw [List.length_append, down_len]; show _ + 7 ≤ 120; omega
  have lt1 : (dFirst kds).length ≤ 120 := by rw [first_len]; omega
  obtain ⟨mm, hmm⟩ : ∃ mm, mm = m + 2 := ⟨_, rfl⟩
  have em : (2 : Int) + (m : Int) = (mm : Int) := by omega
  have m2 : 2 ≤ mm := by omega
  have m8 : mm ≤ 8 := by omega
  walk_at "rx"
  rw [em]
  refine ⟨l1, l9, _, _, dFirst kds, dDown kds ++ dTail kd, mm, rfl, rfl, rfl, pl1, lt1, pl9, lt9, m2, m8, fun ph vs N H11 nph hph lvs Ph f11 kp11 => ?_⟩
  have gA := app_good (down_good gk) gt
  have gF := first_good gk
  have tp := t_pos hk
  have fam : ∀ i < mm, Fam kds (kds.length + 3) (kds.length + 3 + i) (sizeT (tTh kd .non)) (turnM (dFirst kds) (dDown kds ++ dTail kd) (i + 1)) := fun i _ => by
    have := famG gk hk (i + 1)
    rw [show kds.length + 2 + (i + 1) = kds.length + 3 + i by omega] at this
    exact this
  have mul : ∀ {x y : Nat}, x ≤ 9 → y ≤ 120 → x * y ≤ 1080 := fun {x y} h1 h2 => Nat.mul_le_mul h1 h2
  have okM : ∀ {es : List Deed}, (∀ d ∈ es, Good d) → es.length ≤ 120 → ∀ i < mm, (turnM (dFirst kds) es (i + 1)).Ok ∧ (turnM (dFirst kds) es (i + 1)).made ≤ 8000 := fun {es} ge le i hi => by
    obtain ⟨h1, h2⟩ := turnM_ok gF ge (i + 1)
    have := mul (x := i + 1) (y := es.length) (by omega) le
    exact ⟨h1, by omega⟩
  have php := Ph.phP lvs (okM gA lt9)
  have pl1 := pl1.fr f11 fun z => z
  have pl2 := pl2.fr f11 fun z => z
  have pl9 := pl9.fr f11 fun z => z
  walk_at "rx"
  refine ⟨_, rfl, ph, vs, phsM (fun i => turnM (dFirst kds) (dDown kds ++ dTail kd) (i + 1)) mm, rfl, hph, php, by omega, by omega, fun r12 H12 s12 n12 e12 => ?_⟩
  rw [leak_G m2 fam tp] at e12
  walk_at "rx"
  refine ⟨by simp, fun l13 H13 s13 n13 e13 => ?_⟩
  walk_at "rx"
  refine y_neII (ns := [1]) (ms := [1]) (sqL (s13 _ _ e12)) (sqL e13) ?_
  walk_at "rx"
  refine y_nF rfl ?_
  walk_at "rx"
  have s013 := s12.trans s13
  have hph := s013 _ _ hph
  have pl1 := pl1.same s013
  have pl2 := pl2.same s013
  have pl9 := pl9.same s013
  have php := Paired.mapP php fun _ _ z => PhP.same z s013
  obtain ⟨v0, ev0⟩ : ∃ v, vs[0]? = some v := ⟨_, List.getElem?_eq_getElem (by omega)⟩
  obtain ⟨vl, evl⟩ : ∃ v, vs[mm - 1]? = some v := ⟨_, List.getElem?_eq_getElem (by omega)⟩
  have gl : vs.getLast? = some vl := by rw [List.getLast?_eq_getElem?, lvs]; exact evl
  obtain ⟨p0, hp0, hv0⟩ := paired_get php ev0
  obtain ⟨pz, hpz, hvz⟩ := paired_get php evl
  have e0 : p0 = phM (turnM (dFirst kds) (dDown kds ++ dTail kd) (0 + 1)) := by
    unfold phsM at hp0
    rw [List.getElem?_map, List.getElem?_range (by omega)] at hp0
    cases hp0; rfl
  have ez : pz = phM (turnM (dFirst kds) (dDown kds ++ dTail kd) (mm - 1 + 1)) := by
    unfold phsM at hpz
    rw [List.getElem?_map, List.getElem?_range (by omega)] at hpz
    cases hpz; rfl
  subst e0
  subst ez
  refine y_ixL hph (atI_nat (j := 0) ev0) ?_
  walk_at "rx"
  refine y_U ?_
  refine y_ixL hph (atI_lastG gl) ?_
  walk_at "rx"
  refine ⟨_, _, rfl, _, _, _, _, hv0.1, hv0.2, hvz.1, hvz.2, fun tc H14 s14 n14 cm _ => ?_⟩
  obtain ⟨c1, c2, c3, pc, k0, _, k1, k2, k3, k4⟩ := cm
  obtain ⟨en, eg⟩ := new_G m2 fam
  have ew := grown_G m2 fam tp
  have ew : cGrownL (totPL (phM (turnM (dFirst kds) (dDown kds ++ dTail kd) (0 + 1))).1 (phM (turnM (dFirst kds) (dDown kds ++ dTail kd) (0 + 1))).2) (totPL (phM (turnM (dFirst kds) (dDown kds ++ dTail kd) (mm - 1 + 1))).1 (phM (turnM (dFirst kds) (dDown kds ++ dTail kd) (mm - 1 + 1))).2) = _ := ew
  have en : (cNewL (totPL (phM (turnM (dFirst kds) (dDown kds ++ dTail kd) (0 + 1))).1 (phM (turnM (dFirst kds) (dDown kds ++ dTail kd) (0 + 1))).2) (totPL (phM (turnM (dFirst kds) (dDown kds ++ dTail kd) (mm - 1 + 1))).1 (phM (turnM (dFirst kds) (dDown kds ++ dTail kd) (mm - 1 + 1))).2)).length = mm - 1 := en
  have eg : cNewL (totPL (phM (turnM (dFirst kds) (dDown kds ++ dTail kd) (mm - 1 + 1))).1 (phM (turnM (dFirst kds) (dDown kds ++ dTail kd) (mm - 1 + 1))).2) (totPL (phM (turnM (dFirst kds) (dDown kds ++ dTail kd) (0 + 1))).1 (phM (turnM (dFirst kds) (dDown kds ++ dTail kd) (0 + 1))).2) = [] := eg
  rw [ew] at k4
  rw [eg] at k2
  obtain ⟨nl, hnl⟩ : ∃ nl, nl = cNewL (totPL (phM (turnM (dFirst kds) (dDown kds ++ dTail kd) (0 + 1))).1 (phM (turnM (dFirst kds) (dDown kds ++ dTail kd) (0 + 1))).2) (totPL (phM (turnM (dFirst kds) (dDown kds ++ dTail kd) (mm - 1 + 1))).1 (phM (turnM (dFirst kds) (dDown kds ++ dTail kd) (mm - 1 + 1))).2) := ⟨_, rfl⟩
  rw [← hnl] at k1 en
  clear hnl ew eg hv0 hvz ev0 evl gl php Ph hp0 hpz
  have pl1 := pl1.same s14
  have pl2 := pl2.same s14
  have pl9 := pl9.same s14
  refine ⟨tc, _, rfl, sqT k0, rfl, _, _, rfl, x_name ⟨_, _, rfl, x_name ⟨_, _, rfl, x_name ⟨rfl, ?_⟩⟩⟩⟩
  refine x_norm (σ' := [some (.ref a), some (.ref ah), some (.int (kds.length : Int)), some (.ref l1), some (.ref l2), some (.str kd), some (kV (tK kd)), some (.ref l9), some (.int (mm : Int)), some (.ref ph), some (.ref c1), some (.ref c2), some (.ref c3), none, none, none, none]) rfl ?_
  walk_at "rx"
  refine y_lenL (sqL k1) ?_
  walk_at "rx"
  refine y_nF (by rw [List.length_map, en]; congr 1; omega) ?_
  walk_at "rx"
  refine ⟨by simp, fun l15 H15 s15 n15 e15 => ?_⟩
  walk_at "rx"
  refine y_neII (ns := []) (ms := []) (sqL (s15 _ _ k2)) (sqL e15) ?_
  walk_at "rx"
  refine y_nF rfl ?_
  obtain ⟨zl, z1, z2, zf⟩ := paired_zip (Paired.mapP k4 fun _ _ z => s15 _ _ z)
  have k3 := s15 _ _ k3
  have zn : zl.length = kds.length + 1 := by have := congrArg List.length z2; rw [List.length_map, List.length_map, List.length_range'] at this; exact this
  have lz : zl.map (fun z => V.ref z.1) = pc.map V.ref := by rw [← z1, List.map_map]; rfl
  have pl1 := pl1.same s15
  have pl2 := pl2.same s15
  have pl9 := pl9.same s15
  clear k0 k1 k2 k4 z1 s15 e15 n15
  walk_at "rx"
  refine y_iL (sqL k3) ?_
  refine y_lcFi (l := zl) (c := fun z => V.ref z.1) (p := fun _ => true) (h := fun z => .int z.2.2) (lcj_L (by rw [lz]; exact sqL k3)) (by omega) (fun z mz H16 S N s16 hS _ => ?_) fun D H16 s16 hD hl16 => ?_
  · refine y_tup2k (s16 _ _ (zf z mz)) ?_
    refine ⟨wipe2 (by decide), y_yes (y_tt ?_)⟩
    walk_at "rx"
    exact hS rfl _ (Same.refl _)
  rw [List.filter_eq_self.mpr fun _ _ => rfl] at hl16
  have cn : ∀ i, i < (zl.map fun z => z.2.2).length → (zl.map fun z => z.2.2).getD i 0 = ((mm : Int) - 1) * sizeT (tTh kd .non) := fun i hi => by
    rw [List.length_map] at hi
    have e : zl.map (fun z => z.2.2) = (List.range' 1 (kds.length + 1)).map fun _ => ((mm : Int) - 1) * sizeT (tTh kd .non) := by
      have := congrArg (List.map (·.2)) z2
      rw [List.map_map, List.map_map] at this
      exact this
    rw [e, List.getD_eq_getElem?_getD, List.getElem?_map, List.getElem?_eq_getElem (by rw [List.length_range']; omega)]
    rfl
  refine ⟨D, zl.map (fun z => z.2.2), rfl, sqL (by rw [hl16, List.map_map]; rfl), by rw [List.length_map]; omega, ?_⟩
  rw [firstMet_const _ _ _ cn (by rw [List.length_map]; omega)]
  walk_at "rx"
  refine y_nF rfl ?_
  have k3 := s16 _ _ k3
  have zf := fun z mz => s16 _ _ (zf z mz)
  have pl1 := pl1.same s16
  have pl2 := pl2.same s16
  have pl9 := pl9.same s16
  clear cn hl16 hD
  walk_at "rx"
  refine y_iL (sqL k3) ?_
  refine y_lcFi (l := zl) (c := fun z => V.ref z.1) (p := fun _ => true) (h := fun z => .int z.2.1) (lcj_L (by rw [lz]; exact sqL k3)) (by omega) (fun z mz H17 S N s17 hS _ => ?_) fun D H17 s17 hD hl17 => ?_
  · refine y_tup2k (s17 _ _ (zf z mz)) ?_
    refine ⟨wipe2 (by decide), y_yes (y_tt ?_)⟩
    walk_at "rx"
    exact hS rfl _ (Same.refl _)
  rw [List.filter_eq_self.mpr fun _ _ => rfl] at hl17
  have zs : zl.map (fun z => z.2.1) = (List.range' 1 (kds.length + 1)).map fun (k : Nat) => (k : Int) := by
    have := congrArg (List.map (·.1)) z2
    rw [List.map_map, List.map_map] at this
    exact this
  walk_at "rx"
  refine ⟨D, zl.map (fun z => z.2.1), rfl, sqL (by rw [hl17, List.map_map]; rfl), fun ns' p17 pm sr hp17 => ?_⟩
  have en' : ns' = (List.range' 1 (kds.length + 1)).map fun (k : Nat) => (k : Int) := by
    rw [← zs]
    refine srt_eq ?_ pm sr
    rw [zs, List.pairwise_map]
    exact rng_srt.imp fun h => by omega
  have s18 := Same.new (o := .lst (ns'.map V.int)) hp17
  have e18 : upd H17 p17 (.lst (ns'.map V.int)) p17 = some (.lst (ns'.map V.int)) := upd_same
  generalize upd H17 p17 (.lst (ns'.map V.int)) = H18 at s18 e18 ⊢
  walk_at "rx"
  refine ⟨by simp, fun l19 H19 s19 n19 e19 => ?_⟩
  walk_at "rx"
  refine ⟨RgOk.of_le (by omega) (by omega) (by omega) (by omega), fun q20 hq20 => ?_⟩
  have s20 := Same.new (o := .lst (rgV 2 (2 + (kds.length : Int)))) hq20
  have e20 : upd H19 q20 (.lst (rgV 2 (2 + (kds.length : Int)))) q20 = some (.lst (rgV 2 (2 + (kds.length : Int)))) := upd_same
  generalize upd H19 q20 (.lst (rgV 2 (2 + (kds.length : Int)))) = H20 at s20 e20 ⊢
  refine y_catS (s20 _ _ e19) e20 (by rw [rgV_length]; show 1 + _ ≤ 9000; omega) fun q21 H21 s21 n21 e21 => ?_
  have es : [V.int 1] ++ rgV 2 (2 + (kds.length : Int)) = ((List.range' 1 (kds.length + 1)).map fun (k : Nat) => (k : Int)).map V.int := by
    rw [List.range'_succ, List.range'_eq_map_range]
    unfold rgV
    rw [show (2 + (kds.length : Int) - 2).toNat = kds.length by omega, List.map_cons, List.map_cons, List.map_map, List.map_map]
    show V.int 1 :: _ = V.int 1 :: _
    congr 1
  rw [es] at e21
  rw [en'] at e18
  refine y_neII (sqL ((s19.trans (s20.trans s21)) _ _ e18)) (sqL e21) ?_
  walk_at "rx"
  refine y_nF rfl ?_
  have s021 := s17.trans (s18.trans (s19.trans (s20.trans s21)))
  have pl1 := pl1.same s021
  have pl2 := pl2.same s021
  have pl9 := pl9.same s021
  clear s021 s21 s20 s19 s18 s17 s16 zf k3 lz z2 zs en' e18 e19 e20 e21 es sr pm
  obtain ⟨zl, z1, z2, zf⟩ := paired_zip pl9.2
  have lz : zl.map (fun z => V.ref z.1) = (zl.map (·.1)).map V.ref := by rw [List.map_map]; rfl
  have zn : zl.length ≤ 120 := by have := congrArg List.length z2; rw [List.length_map] at this; omega
  walk_at "rx"
  refine y_iL (sqL pl9.1) ?_
  refine y_lcFi (l := zl) (c := fun z => V.ref z.1) (p := fun z => !isPut kd z.2) (h := fun z => V.ref z.1) (lcj_L (by rw [lz, z1]; exact sqL pl9.1)) (by omega) (fun z mz H22 S N s22 hS hN => ?_) fun lo H22 s22 nlo hlo => ?_
  · obtain ⟨g1, g2⟩ := zf z mz
    walk_at "rx"
    refine ⟨wipe1, ?_⟩
    walk_at "rx"
    refine ⟨by simp, fun t23 H23 s23 n23 e23 => ?_⟩
    refine y_neD ((s22.trans s23) _ _ g1) g2 e23 hk ?_
    walk_at "rx"
    refine y_b (fun c => ?_) (fun c => ?_)
    · walk_at "rx"
      exact hS c _ s23
    · walk_at "rx"
      exact hN c _ s23
  have gO := app_good (down_good gk) (tail2_good hk)
  have lt2 : (dDown kds ++ dTail2 kd).length ≤ 120 := by rw [List.length_append, down_len]; show _ + 6 ≤ 120; omega
  have plo : PL H22 lo ((zl.filter fun z => !isPut kd z.2).map (·.1)) (dDown kds ++ dTail2 kd) := by
    refine ⟨by rw [hlo, List.map_map]; rfl, ?_⟩
    have e : (zl.filter fun z => !isPut kd z.2).map (·.2) = dDown kds ++ dTail2 kd := by
      rw [← filter_again hk, ← z2, List.filter_map]
      rfl
    rw [← e]
    have zf' : ∀ z ∈ zl.filter (fun z => !isPut kd z.2), H22 z.1 = some (.tup (deedV z.2)) ∧ Good z.2 := fun z mz => ⟨s22 _ _ (zf z (List.mem_filter.mp mz).1).1, (zf z (List.mem_filter.mp mz).1).2⟩
    clear e hlo
    generalize zl.filter (fun z => !isPut kd z.2) = xl at zf'
    induction xl with
    | nil => exact .nil
    | cons x xl ih => exact .cons (zf' x (List.mem_cons_self ..)) (ih fun z mz => zf' z (List.mem_cons_of_mem _ mz))
  have pl1 := pl1.same s22
  have pl2 := pl2.same s22
  walk_at "rx"
  refine ⟨l1, lo, _, _, dFirst kds, dDown kds ++ dTail2 kd, mm, rfl, rfl, rfl, pl1, lt1, plo, lt2, m2, m8, fun ph2 vs2 N2 H24 nph2 hph2 lvs2 Ph2 f24 kp24 => ?_⟩
  have php2 := Ph2.phP lvs2 (okM gO lt2)
  have pl1 := pl1.fr f24 fun z => z
  have pl2 := pl2.fr f24 fun z => z
  walk_at "rx"
  refine ⟨_, rfl, ph2, vs2, phsM (fun i => turnM (dFirst kds) (dDown kds ++ dTail2 kd) (i + 1)) mm, rfl, hph2, php2, by omega, by omega, fun r25 H25 s25 n25 e25 => ?_⟩
  rw [leak_O m2 fun i _ => (famO gk hk i).2.2] at e25
  walk_at "rx"
  refine ⟨by simp, fun l26 H26 s26 n26 e26 => ?_⟩
  walk_at "rx"
  refine y_eqII (ns := []) (ms := []) (sqL (s26 _ _ e25)) (sqL e26) ?_
  refine ⟨_, rfl, ?_⟩
  refine y_T rfl ?_
  have pl1 := pl1.same (s25.trans s26)
  have pl2 := pl2.same (s25.trans s26)
  walk_at "rx"
  refine ⟨by simp, fun q27 H27 s27 n27 e27 => ?_⟩
  walk_at "rx"
  refine ⟨by simp, fun l28 H28 s28 n28 e28 => ?_⟩
  have gD : Good (.drop "s") := gt _ (by simp [dTail])
  have plD : PL H28 l28 [q27] [.drop "s"] := ⟨e28, .cons ⟨s28 _ _ e27, gD⟩ .nil⟩
  have pl1 := pl1.same (s27.trans s28)
  have pl2 := pl2.same (s27.trans s28)
  refine y_catS pl2.1 plD.1 (by rw [List.length_map, lp2]; show _ + 1 ≤ 9000; omega) fun l29 H29 s29 n29 e29 => ?_
  have plS := PL.cat pl2 plD s29 e29
  have pl1 := pl1.same s29
  have gS : ∀ d ∈ dDown kds ++ [Deed.drop "s"], Good d := app_good (down_good gk) fun d m => by rw [List.mem_singleton] at m; rw [m]; exact gD
  have lt3 : (dDown kds ++ [Deed.drop "s"]).length ≤ 120 := by rw [List.length_append, down_len]; show _ + 1 ≤ 120; omega
  walk_at "rx"
  refine ⟨l1, l29, _, _, dFirst kds, dDown kds ++ [.drop "s"], mm, rfl, rfl, rfl, pl1, lt1, plS, lt3, m2, m8, fun ph3 vs3 N3 H30 nph3 hph3 lvs3 Ph3 f30 kp30 => ?_⟩
  have php3 := Ph3.phP lvs3 (okM gS lt3)
  walk_at "rx"
  refine ⟨_, rfl, ph3, vs3, phsM (fun i => turnM (dFirst kds) (dDown kds ++ [.drop "s"]) (i + 1)) mm, rfl, hph3, php3, by omega, by omega, fun r31 H31 s31 n31 e31 => ?_⟩
  rw [leak_S m2 ((turnS gk (1 + 1)).1.trans (turnS gk (0 + 1)).1.symm)] at e31
  walk_at "rx"
  refine ⟨by simp, fun l32 H32 s32 n32 e32 => ?_⟩
  walk_at "rx"
  refine y_eqII (ns := []) (ms := []) (sqL (s32 _ _ e31)) (sqL e32) ?_
  exact q _
end

theorem lawAt {w : World} {mg : Str → Option Value} {fa0 : Addr} {h : Heap} (Y : hk.says w h) (G : h.Ns mainGlobals mg) (hm : mg "law" = some (.ref fa0)) : ∃ K : PySem.W.Frag, K.In h ∧ LamX.LawAtS PySem.Challenge.rw_whokeeps_k25_whole_a_leak_is_shown w K C8.CX0 11 63 "_law_script" mg fa0 h := by
  obtain ⟨K, KX, c⟩ := Y
  have T0 : ∀ base : Heap, (∀ p ∈ tf, LamX.TabB base mg (He.cT K p).1 (He.cT K p).2) → Tx w K mg base := fun base hb => ⟨⟨h, c, KX, G⟩, hb⟩
  have hl : mg "law" = some (.ref (He.ga K "law")) := by
    obtain ⟨i, hi⟩ : ∃ i, fa[i]? = some (.glo "law") := ⟨22, rfl⟩
    exact He.glo_ok KX G (c.t.d.fact i hi)
  have e := hm.symm.trans hl
  cases e
  obtain ⟨fd, F⟩ : ∃ fd, FunD K "law" "law" (fnArgs s_law) (fnBody s_law) (fnScope s_law) [] [] (He.ga K "law") fd := c.t.d.def_ 57 (d := d_law) rfl
  refine ⟨K, KX, fd, tf.map (He.cT K), spLaw K, fun p hp => ?_, fun p hp => ?_, fun p hp => ?_, fun s v => FunD.bindsA (ps := ["_law_script"]) F (fun _ _ _ _ _ _ us hl => match us, hl with | [_], _ => rfl) s [v] rfl, fun H a ns hl hb hT hS => ⟨a, ns, rfl, hS, hl, hb, fun p hp => ?_, fun _ => rfl⟩, fun base KB GB hb => ?_⟩
  · obtain ⟨q, hq, rfl⟩ := List.mem_map.mp hp
    exact c.empty q hq
  · obtain ⟨q, hq, rfl⟩ := List.mem_map.mp hp
    exact c.out q hq
  · obtain ⟨q, hq, rfl⟩ := List.mem_map.mp hp
    exact PySem.W.codeHd_of_K KX (c.hd q hq)
  · obtain ⟨q, hq, rfl⟩ := List.mem_map.mp hp
    exact LamX.TabS.nil (hT (He.cT K q) (List.mem_map.mpr ⟨q, hq, rfl⟩))
  · exact law_fn (T0 base fun p hp => hb (He.cT K p) (List.mem_map.mpr ⟨p, hp, rfl⟩)) F
end Wk
theorem PySem.Challenge.cw_whokeeps_k25_whole_a_leak_is_shown_holds : PySem.Challenge.rw_whokeeps_k25_whole_a_leak_is_shown.Holds :=
  Wk.holdsOf fun Y G hm => Wk.lawAt Y G hm
