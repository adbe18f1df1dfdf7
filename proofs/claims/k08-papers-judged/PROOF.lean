import PyProof.Rows.All
import Wide.All
import OpenK.AllK
import Wide.FinOn
import HandS.ForMost
import HandS.Evl
import HandS.IsInst
import HandS.Wide
import HandS.WideBits
import HandS.RevRange
import HandS.Walk
import HandS.Zip
import HandS.EndBits
import HandS.Style
import HandS.More
import HandS.List
import PySem.Challenge.RW_cartelship_k08_papers_judged
set_option Elab.async false
set_option linter.all false
set_option maxRecDepth 100000
set_option synthInstance.maxHeartbeats 0
set_option synthInstance.maxSize 100000
/-! Own layer over HandS: readings run one step at a time. -/
namespace G
open PySem PySem.Spec PyProof.Rows L2 Evl RZ
/-! ### continuations with names of their own -/
def bQ (Q : Bool → Hp → Prop) : VK := fun x H => ∃ k, x = .bl k ∧ Q k H
def opQ2 (r : R2) (x : V) (Q : VK) : VK := fun y H => r x y H Q
def opQ1 (r : R2) (tb : TE) (σ : L2.St) (Q : VK) : VK := fun x H => tb σ H (opQ2 r x Q)
def unQ (r : V → Hp → VK → Prop) (Q : VK) : VK := fun x H => r x H Q
def andQ (u : TT) (σ : L2.St) (Q : Bool → Hp → Prop) : Bool → Hp → Prop := fun c H => if c = true then u σ H Q else Q false H
def orQ (u : TT) (σ : L2.St) (Q : Bool → Hp → Prop) : Bool → Hp → Prop := fun c H => if c = true then Q true H else u σ H Q
def notQ (Q : Bool → Hp → Prop) : Bool → Hp → Prop := fun c H => Q (!c) H
def ifQ (t u : TS) (D : Ends) (σ : L2.St) : Bool → Hp → Prop := fun b H => if b = true then t D σ H else u D σ H
def iteQ (ta tb : TE) (σ : L2.St) (Q : VK) : Bool → Hp → Prop := fun c H => if c = true then ta σ H Q else tb σ H Q
def asgQ (g : TG) (D : Ends) (σ : L2.St) : VK := fun x H => g x σ H D.nx
def dropQ (D : Ends) (σ : L2.St) : VK := fun _ H => D.nx σ H
def consQ (tr : TA) (σ : L2.St) (Q : List V → Hp → Prop) : VK := fun x H => tr σ H fun xs H2 => Q (x :: xs) H2
def callQ (sp : Sp) (Q : VK) (E : XK) : List V → Hp → Prop := fun vs H => sp (vs ++ []) H Q E
def cbQ (r : List V → Hp → VK → Prop) (Q : VK) : List V → Hp → Prop := fun vs H => r vs H Q
def lstQ (Q : VK) : List V → Hp → Prop := fun xs H => xs.length ≤ sizeLine ∧ ∀ p, H p = none → Q (.ref p) (upd H p (.lst xs))
def tupQ (Q : VK) : List V → Hp → Prop := fun xs H => xs.length ≤ sizeLine ∧ ∀ p, H p = none → Q (.ref p) (upd H p (.tup xs))
def andVQ (tb : TE) (σ : L2.St) (Q : VK) : VK := fun x H => ∃ c, x = .bl c ∧ if c = true then tb σ H Q else Q (.bl false) H
def orVQ (tb : TE) (σ : L2.St) (Q : VK) : VK := fun x H => ∃ c, x = .bl c ∧ if c = true then Q (.bl true) H else tb σ H Q
def notVQ (Q : VK) : VK := fun x H => ∃ c, x = .bl c ∧ Q (.bl (!c)) H
section
variable {K : PySem.W.Frag} {σ : L2.St} {H H1 : Hp} {Q : VK} {QB : Bool → Hp → Prop} {QA : List V → Hp → Prop} {v x y : V} {ta tb te : TE} {t u : TS} {c d : TT} {D : Ends} {r : R2} {i : Nat} {g : TG} {tr : TA} {sp : Sp} {E : XK}
/-! ### expressions -/
theorem x_var (h : σ[i]? = some (some v)) (k : Q v H) : tVar i σ H Q := ⟨v, h, k⟩
theorem x_c (k : Q v H) : tC v σ H Q := k
theorem x_op (k : ta σ H (opQ1 r tb σ Q)) : tOp r ta tb σ H Q := k
theorem x_opQ1 (k : tb σ H (opQ2 r x Q)) : opQ1 r tb σ Q x H := k
theorem x_opQ2 (k : r x y H Q) : opQ2 r x Q y H := k
theorem x_un {q : V → Hp → VK → Prop} (k : ta σ H (unQ q Q)) : tUn q ta σ H Q := k
theorem x_unQ {q : V → Hp → VK → Prop} (k : q x H Q) : unQ q Q x H := k
theorem x_I0 {f : Int → Int → V} {a b : Int} (k : Q (f a b) H) : rI0 f (.int a) (.int b) H Q := ⟨a, b, rfl, rfl, k⟩
theorem x_I {C : Int → Int → Prop} {f : Int → Int → V} {a b : Int} (h : C a b) (k : Q (f a b) H) : rI C f (.int a) (.int b) H Q := ⟨a, b, rfl, rfl, h, k⟩
theorem x_rU {f : Int → V} {a : Int} (k : Q (f a) H) : rU f (.int a) H Q := ⟨a, rfl, k⟩
theorem x_eq (h : scal x y = true) (k : Q (.bl (decide (x = y))) H) : rEq x y H Q := ⟨h, k⟩
theorem x_ne (h : scal x y = true) (k : Q (.bl (!decide (x = y))) H) : rNe x y H Q := ⟨h, k⟩
theorem x_eqI {a b : Int} (k : Q (.bl (decide (a = b))) H) : rEq (.int a) (.int b) H Q := ⟨rfl, by
  have e : decide (V.int a = V.int b) = decide (a = b) := by
    by_cases h : a = b
    · rw [decide_eq_true h, decide_eq_true (congrArg V.int h)]
    · rw [decide_eq_false h, decide_eq_false (fun q => h (V.int.inj q))]
  rw [e]; exact k⟩
theorem x_neI {a b : Int} (k : Q (.bl (decide (a ≠ b))) H) : rNe (.int a) (.int b) H Q := ⟨rfl, by
  have e : (!decide (V.int a = V.int b)) = decide (a ≠ b) := by
    by_cases h : a = b
    · rw [decide_eq_false (fun q : a ≠ b => q h), decide_eq_true (congrArg V.int h)]; rfl
    · rw [decide_eq_true h, decide_eq_false (fun q => h (V.int.inj q))]; rfl
  rw [e]; exact k⟩
theorem x_eqS {a b : Str} (k : Q (.bl (decide (a = b))) H) : rEq (.str a) (.str b) H Q := ⟨rfl, by
  have e : decide (V.str a = V.str b) = decide (a = b) := by
    by_cases h : a = b
    · rw [decide_eq_true h, decide_eq_true (congrArg V.str h)]
    · rw [decide_eq_false h, decide_eq_false (fun q => h (V.str.inj q))]
  rw [e]; exact k⟩
theorem x_neS {a b : Str} (k : Q (.bl (decide (a ≠ b))) H) : rNe (.str a) (.str b) H Q := ⟨rfl, by
  have e : (!decide (V.str a = V.str b)) = decide (a ≠ b) := by
    by_cases h : a = b
    · rw [decide_eq_false (fun q : a ≠ b => q h), decide_eq_true (congrArg V.str h)]; rfl
    · rw [decide_eq_true h, decide_eq_false (fun q => h (V.str.inj q))]; rfl
  rw [e]; exact k⟩
theorem x_eqB {a b : Bool} (k : Q (.bl (a == b)) H) : rEq (.bl a) (.bl b) H Q := ⟨rfl, by
  have e : decide (V.bl a = V.bl b) = (a == b) := dec_bl
  rw [e]; exact k⟩
theorem x_neB {a b : Bool} (k : Q (.bl (a != b)) H) : rNe (.bl a) (.bl b) H Q := ⟨rfl, by
  have e : decide (V.bl a = V.bl b) = (a == b) := dec_bl
  rw [e]; exact k⟩
theorem x_neBs {a : Bool} (k : Q (.bl false) H) : rNe (.bl a) (.bl a) H Q := ⟨rfl, by rw [decide_eq_true rfl]; exact k⟩
theorem x_eqBs {a : Bool} (k : Q (.bl true) H) : rEq (.bl a) (.bl a) H Q := ⟨rfl, by rw [decide_eq_true rfl]; exact k⟩
theorem x_gN {R : L2.St → Hp → Prop} (k : R (σ.set i (some v)) H) : gName i v σ H R := k
theorem x_test (k : ta σ H (bQ QB)) : tTest ta σ H QB := k
theorem x_tB (k : ta σ H (bQ QB)) : tB ta σ H QB := k
theorem x_bQ {b : Bool} (k : QB b H) : bQ QB (.bl b) H := ⟨b, rfl, k⟩
theorem x_and (k : c σ H (andQ d σ QB)) : tAnd c d σ H QB := k
theorem x_or (k : c σ H (orQ d σ QB)) : tOr c d σ H QB := k
theorem x_not (k : c σ H (notQ QB)) : tNot c σ H QB := k
theorem x_notQ {b : Bool} (k : QB (!b) H) : notQ QB b H := k
theorem x_andQ {b : Bool} (h1 : b = true → d σ H QB) (h2 : b = false → QB false H) : andQ d σ QB b H := by
  unfold andQ
  cases b with
  | true => exact h1 rfl
  | false => exact h2 rfl
theorem x_orQ {b : Bool} (h1 : b = true → QB true H) (h2 : b = false → d σ H QB) : orQ d σ QB b H := by
  unfold orQ
  cases b with
  | true => exact h1 rfl
  | false => exact h2 rfl
theorem x_ifExp (k : c σ H (iteQ ta tb σ Q)) : tIf c ta tb σ H Q := k
theorem x_iteQ {b : Bool} (h1 : b = true → ta σ H Q) (h2 : b = false → tb σ H Q) : iteQ ta tb σ Q b H := by
  unfold iteQ
  cases b with
  | true => exact h1 rfl
  | false => exact h2 rfl
theorem x_andV (k : ta σ H (andVQ tb σ Q)) : tAndV ta tb σ H Q := k
theorem x_orV (k : ta σ H (orVQ tb σ Q)) : tOrV ta tb σ H Q := k
theorem x_notV (k : ta σ H (notVQ Q)) : tNotV ta σ H Q := k
theorem x_notVQ {b : Bool} (k : Q (.bl (!b)) H) : notVQ Q (.bl b) H := ⟨b, rfl, k⟩
theorem x_andVQ {b : Bool} (h1 : b = true → tb σ H Q) (h2 : b = false → Q (.bl false) H) : andVQ tb σ Q (.bl b) H := by
  refine ⟨b, rfl, ?_⟩
  cases b with
  | true => exact h1 rfl
  | false => exact h2 rfl
theorem x_orVQ {b : Bool} (h1 : b = true → Q (.bl true) H) (h2 : b = false → tb σ H Q) : orVQ tb σ Q (.bl b) H := by
  refine ⟨b, rfl, ?_⟩
  cases b with
  | true => exact h1 rfl
  | false => exact h2 rfl
/-! ### arguments, calls, displays -/
theorem x_nil (k : QA [] H) : tNil σ H QA := k
theorem x_cons (k : te σ H (consQ tr σ QA)) : tCons te tr σ H QA := k
theorem x_consQ (k : tr σ H fun xs H2 => QA (x :: xs) H2) : consQ tr σ QA x H := k
theorem x_call (k : tr σ H (callQ sp Q E)) : tCall sp [] E tr σ H Q := k
theorem x_callQ {vs : List V} (k : sp vs H Q E) : callQ sp Q E vs H := by
  unfold callQ
  rw [List.append_nil]
  exact k
theorem x_cb {q : List V → Hp → VK → Prop} (k : tr σ H (cbQ q Q)) : tCB q tr σ H Q := k
theorem x_cbQ {q : List V → Hp → VK → Prop} {vs : List V} (k : q vs H Q) : cbQ q Q vs H := k
theorem x_lst (k : tr σ H (lstQ Q)) : tLst tr σ H Q := k
theorem x_lstQ {xs : List V} (h : xs.length ≤ sizeLine) (k : ∀ p, H p = none → Q (.ref p) (upd H p (.lst xs))) : lstQ Q xs H := ⟨h, k⟩
theorem x_tup (k : tr σ H (tupQ Q)) : tTup tr σ H Q := k
theorem x_tupQ {xs : List V} (h : xs.length ≤ sizeLine) (k : ∀ p, H p = none → Q (.ref p) (upd H p (.tup xs))) : tupQ Q xs H := ⟨h, k⟩
/-! ### statements -/
theorem x_seq (k : t { D with nx := u D } σ H) : tSeq t u D σ H := k
theorem x_next (k : D.nx σ H) : tNext D σ H := k
theorem x_asg (k : te σ H (asgQ g D σ)) : tAsg te g D σ H := k
theorem x_asgN (k : D.nx (σ.set i (some x)) H) : asgQ (gName i) D σ x H := k
theorem x_drop (k : te σ H (dropQ D σ)) : tDrop te D σ H := k
theorem x_dropQ (k : D.nx σ H) : dropQ D σ x H := k
theorem x_ret (k : te σ H D.rt) : tRet te D σ H := k
theorem x_retN (k : D.rt .non H) : tRetN D σ H := k
theorem x_if (k : c σ H (ifQ t u D σ)) : tIfS c t u D σ H := k
theorem x_ifQ {b : Bool} (h1 : b = true → t D σ H) (h2 : b = false → u D σ H) : ifQ t u D σ b H := by
  unfold ifQ
  cases b with
  | true => exact h1 rfl
  | false => exact h2 rfl
theorem x_cont (k : D.ct σ H) : tCont D σ H := k
theorem x_break (k : D.bk σ H) : tBreak D σ H := k
end

/-! ### rules by names of their own -/
def rLen (K : PySem.W.Frag) : List V → Hp → VK → Prop := fun xs H Q => ∃ p ys, xs = [.ref p] ∧ (SqL K H p ys ∨ SqT K H p ys) ∧ Q (.int ys.length) H
def rLenStr : List V → Hp → VK → Prop := fun xs H Q => ∃ z, xs = [.str z] ∧ z.length ≤ sizeLine ∧ Q (.int z.length) H
def rListOf (K : PySem.W.Frag) : List V → Hp → VK → Prop := fun xs H Q => ∃ p ys, xs = [.ref p] ∧ (SqL K H p ys ∨ SqT K H p ys) ∧ ∀ l, H l = none → Q (.ref l) (upd H l (.lst ys))
def rTupOf (K : PySem.W.Frag) : List V → Hp → VK → Prop := fun xs H Q => ∃ p ys, xs = [.ref p] ∧ ((SqL K H p ys ∧ ∀ l, H l = none → Q (.ref l) (upd H l (.tup ys))) ∨ (SqT K H p ys ∧ Q (.ref p) H))
def rIntOf : List V → Hp → VK → Prop := fun xs H Q => (∃ i, xs = [.int i] ∧ Q (.int i) H) ∨ ∃ k, xs = [.bl k] ∧ Q (.int (if k then 1 else 0)) H
def rMin2 : List V → Hp → VK → Prop := fun xs H Q => ∃ i j, xs = [.int i, .int j] ∧ Q (.int (if j < i then j else i)) H
def rMax2' : List V → Hp → VK → Prop := fun xs H Q => ∃ i j, xs = [.int i, .int j] ∧ Q (.int (if j > i then j else i)) H
def rAddS : R2 := fun x y H Q => ∃ i j, x = .str i ∧ y = .str j ∧ i.length + j.length ≤ sizeLine ∧ Q (.str (i ++ j)) H
def rIsN : R2 := fun x y H Q => y = .non ∧ Q (.bl (decide (x = .non))) H
def rNotN : R2 := fun x y H Q => y = .non ∧ Q (.bl (!decide (x = .non))) H
section
variable {X : Cx}
theorem g_len : CallR X (.builtin "len") (rLen X.K) := call_len_seq
theorem g_lenS : CallR X (.builtin "len") rLenStr := call_len_str
theorem g_list : CallR X (.type "list") (rListOf X.K) := call_list_of
theorem g_tuple : CallR X (.type "tuple") (rTupOf X.K) := call_tuple_of
theorem g_int : CallR X (.type "int") rIntOf := call_int1
theorem g_min (hc : X.calm = true) : CallR X (.builtin "min") rMin2 := call_min2 hc
theorem g_max (hc : X.calm = true) : CallR X (.builtin "max") rMax2' := call_max2 hc
theorem g_isN : OpR X (compareOp .Is) rIsN := op_isN
theorem g_notN : OpR X (compareOp .IsNot) rNotN := op_notN
theorem op_addS : OpR X (binaryOp .Add) rAddS := op_add_str
theorem op_mulB : OpR X (binaryOp .Mult) (rI CMulX fun i j => .int (i * j)) := op_mulX
theorem op_shlB : OpR X (binaryOp .LShift) (rI CShl fun i j => .int (i * 2 ^ j.toNat)) := op_shlW
end
section
variable {K : PySem.W.Frag} {σ : L2.St} {H H1 : Hp} {Q : VK} {p : Addr} {xs : List V}
theorem x_lenL (h : SqL K H p xs) (k : Q (.int xs.length) H) : rLen K [.ref p] H Q := ⟨p, xs, rfl, .inl h, k⟩
theorem x_lenT (h : SqT K H p xs) (k : Q (.int xs.length) H) : rLen K [.ref p] H Q := ⟨p, xs, rfl, .inr h, k⟩
theorem x_lenS {z : Str} (h : z.length ≤ sizeLine) (k : Q (.int z.length) H) : rLenStr [.str z] H Q := ⟨z, rfl, h, k⟩
theorem x_listL (h : SqL K H p xs) (k : ∀ l, H l = none → Q (.ref l) (upd H l (.lst xs))) : rListOf K [.ref p] H Q := ⟨p, xs, rfl, .inl h, k⟩
theorem x_listT (h : SqT K H p xs) (k : ∀ l, H l = none → Q (.ref l) (upd H l (.lst xs))) : rListOf K [.ref p] H Q := ⟨p, xs, rfl, .inr h, k⟩
theorem x_tupL (h : SqL K H p xs) (k : ∀ l, H l = none → Q (.ref l) (upd H l (.tup xs))) : rTupOf K [.ref p] H Q := ⟨p, xs, rfl, .inl ⟨h, k⟩⟩
theorem x_tupT (h : SqT K H p xs) (k : Q (.ref p) H) : rTupOf K [.ref p] H Q := ⟨p, xs, rfl, .inr ⟨h, k⟩⟩
theorem x_intB {b : Bool} (k : Q (.int (if b then 1 else 0)) H) : rIntOf [.bl b] H Q := .inr ⟨b, rfl, k⟩
theorem x_intI {i : Int} (k : Q (.int i) H) : rIntOf [.int i] H Q := .inl ⟨i, rfl, k⟩
theorem x_min {i j : Int} (k : Q (.int (if j < i then j else i)) H) : rMin2 [.int i, .int j] H Q := ⟨i, j, rfl, k⟩
theorem x_max {i j : Int} (k : Q (.int (if j > i then j else i)) H) : rMax2' [.int i, .int j] H Q := ⟨i, j, rfl, k⟩
theorem x_addS {i j : Str} (h : i.length + j.length ≤ sizeLine) (k : Q (.str (i ++ j)) H) : rAddS (.str i) (.str j) H Q := ⟨i, j, rfl, rfl, h, k⟩
theorem x_ixL {i : Int} {v : V} (h : SqL K H p xs) (ha : atI xs i = some v) (k : Q v H) : rIxL K (.ref p) (.int i) H Q := ⟨p, xs, i, v, rfl, rfl, h, ha, k⟩
theorem x_ixT {i : Int} {v : V} (h : SqT K H p xs) (ha : atI xs i = some v) (k : Q v H) : rIxT K (.ref p) (.int i) H Q := ⟨p, xs, i, v, rfl, rfl, h, ha, k⟩
theorem x_slL {lo hi : Option Int} (h : SqL K H p xs) (k : ∀ l, H l = none → Q (.ref l) (upd H l (.lst (cutV xs lo hi)))) : rSlL K (.ref p) lo hi H Q := ⟨p, xs, rfl, h, k⟩
theorem x_all {bs : List Bool} (h : SqL K H p (bs.map V.bl)) (k : Q (.bl (bs.all id)) H) : rAll K [.ref p] H Q := ⟨p, bs, rfl, h, k⟩
theorem x_allMap {n : Nat} {g : Nat → Bool} (h : H p = some (.lst ((List.range n).map fun i => V.bl (g i)))) (k : Q (.bl ((List.range n).all g)) H) : rAll K [.ref p] H Q :=
  ⟨p, (List.range n).map g, rfl, SqL.of (by rw [h, List.map_map]; rfl), by
    have e : ((List.range n).map g).all id = (List.range n).all g := by rw [List.all_map]; rfl
    rw [e]; exact k⟩
theorem x_anyMap {n : Nat} {g : Nat → Bool} (h : H p = some (.lst ((List.range n).map fun i => V.bl (g i)))) (k : Q (.bl ((List.range n).any g)) H) : rAny K [.ref p] H Q :=
  ⟨p, (List.range n).map g, rfl, SqL.of (by rw [h, List.map_map]; rfl), by
    have e : ((List.range n).map g).any id = (List.range n).any g := by rw [List.any_map]; rfl
    rw [e]; exact k⟩
theorem x_sumMap {n : Nat} {g : Nat → Int} (h : H p = some (.lst ((List.range n).map fun i => V.int (g i)))) (k : Q (.int ((List.range n).map g).sum) H) : rSum K [.ref p] H Q :=
  ⟨p, (List.range n).map g, rfl, SqL.of (by rw [h, List.map_map]; rfl), k⟩
theorem x_any {bs : List Bool} (h : SqL K H p (bs.map V.bl)) (k : Q (.bl (bs.any id)) H) : rAny K [.ref p] H Q := ⟨p, bs, rfl, h, k⟩
theorem x_sum {ns : List Int} (h : SqL K H p (ns.map V.int)) (k : Q (.int ns.sum) H) : rSum K [.ref p] H Q := ⟨p, ns, rfl, h, k⟩
theorem x_isN {x : V} (k : Q (.bl (decide (x = .non))) H) : rIsN x .non H Q := ⟨rfl, k⟩
theorem x_notN {x : V} (k : Q (.bl (!decide (x = .non))) H) : rNotN x .non H Q := ⟨rfl, k⟩
theorem x_isNN (k : Q (.bl true) H) : rIsN .non .non H Q := ⟨rfl, k⟩
theorem x_isNI {i : Int} (k : Q (.bl false) H) : rIsN (.int i) .non H Q := ⟨rfl, k⟩
theorem x_isNB {i : Bool} (k : Q (.bl false) H) : rIsN (.bl i) .non H Q := ⟨rfl, k⟩
theorem x_isNS {i : Str} (k : Q (.bl false) H) : rIsN (.str i) .non H Q := ⟨rfl, k⟩
theorem x_isNR {i : Addr} (k : Q (.bl false) H) : rIsN (.ref i) .non H Q := ⟨rfl, k⟩
theorem x_notNN (k : Q (.bl false) H) : rNotN .non .non H Q := ⟨rfl, k⟩
theorem x_notNR {i : Addr} (k : Q (.bl true) H) : rNotN (.ref i) .non H Q := ⟨rfl, k⟩
/-- a method of a list: the receiver, the arguments, the rule -/
def bmQ (K : PySem.W.Frag) (T : String) (r : V → List V → Hp → VK → Prop) (t : TA) (σ : L2.St) (Q : VK) : VK := fun x H1 => tyV K T x H1 ∧ t σ H1 fun xs H2 => r x xs H2 Q
def bmQ2 (r : V → List V → Hp → VK → Prop) (x : V) (Q : VK) : List V → Hp → Prop := fun xs H2 => r x xs H2 Q
theorem x_bm {r : V → List V → Hp → VK → Prop} {T : String} {to : TE} {t : TA} (k : to σ H (bmQ K T r t σ Q)) : tBM K T r to t σ H Q := k
theorem x_bmL {r : V → List V → Hp → VK → Prop} {t : TA} (h : SqL K H p xs) (k : t σ H (bmQ2 r (.ref p) Q)) : bmQ K "list" r t σ Q (.ref p) H := ⟨.inl ⟨rfl, _, h⟩, k⟩
theorem x_bmQ2 {r : V → List V → Hp → VK → Prop} {x : V} {vs : List V} (k : r x vs H Q) : bmQ2 r x Q vs H := k
theorem x_append {y : V} (h : H p = some (.lst xs)) (hz : xs.length < sizeLine) (k : Q .non (upd H p (.lst (xs ++ [y])))) : rAppend (.ref p) [y] H Q := ⟨p, xs, y, rfl, rfl, h, hz, k⟩
def bm0Q (K : PySem.W.Frag) (T : String) (r : V → List V → Hp → VK → Prop) (Q : VK) : VK := fun x H1 => tyV K T x H1 ∧ r x [] H1 Q
theorem x_bm0 {r : V → List V → Hp → VK → Prop} {T : String} {to : TE} (k : to σ H (bm0Q K T r Q)) : tBM0 K T r to σ H Q := k
theorem x_bm0L {r : V → List V → Hp → VK → Prop} (h : SqL K H p xs) (k : r (.ref p) [] H Q) : bm0Q K "list" r Q (.ref p) H := ⟨.inl ⟨rfl, _, h⟩, k⟩
theorem x_reverse (h : H p = some (.lst xs)) (k : Q .non (upd H p (.lst xs.reverse))) : rReverse (.ref p) [] H Q := ⟨p, xs, rfl, rfl, h, k⟩
theorem x_cat {q : Addr} {ys : List V} (h : H p = some (.lst xs)) (h2 : H q = some (.lst ys)) (hz : xs.length + ys.length ≤ sizeLine) (k : ∀ l, H l = none → Q (.ref l) (upd H l (.lst (xs ++ ys)))) : rCat (.ref p) (.ref q) H Q := ⟨p, q, xs, ys, rfl, rfl, h, h2, hz, k⟩
theorem x_rep {n : Int} (h : H p = some (.lst xs)) (h1 : -(2 ^ 63) ≤ n) (h2 : n < 2 ^ 63) (hz : xs.length * n.toNat ≤ sizeLine) (k : ∀ l, H l = none → Q (.ref l) (upd H l (.lst (List.replicate n.toNat xs).flatten))) : rRep (.ref p) (.int n) H Q := ⟨p, n, xs, rfl, rfl, h, h1, h2, hz, k⟩
/-- chains -/
def chQ3 (r' : R2) (y : V) (tc : TE) (σ : L2.St) (Q : VK) : VK := fun z H3 => ∃ k, z = .bl k ∧ (if k = true then tc σ H3 (opQ2 r' y Q) else Q (.bl false) H3)
def chQ2 (r r' : R2) (tc : TE) (σ : L2.St) (x : V) (Q : VK) : VK := fun y H2 => r x y H2 (chQ3 r' y tc σ Q)
def chQ1 (r r' : R2) (tb tc : TE) (σ : L2.St) (Q : VK) : VK := fun x H1 => tb σ H1 (chQ2 r r' tc σ x Q)
theorem x_chain {r r' : R2} {ta tb tc : TE} (k : ta σ H (chQ1 r r' tb tc σ Q)) : tChain r r' ta tb tc σ H Q := k
theorem x_chQ1 {r r' : R2} {tb tc : TE} {x : V} (k : tb σ H (chQ2 r r' tc σ x Q)) : chQ1 r r' tb tc σ Q x H := k
theorem x_chQ2 {r r' : R2} {tc : TE} {x y : V} (k : r x y H (chQ3 r' y tc σ Q)) : chQ2 r r' tc σ x Q y H := k
theorem x_chQ3 {r' : R2} {tc : TE} {y : V} {b : Bool} (h1 : b = true → tc σ H (opQ2 r' y Q)) (h2 : b = false → Q (.bl false) H) : chQ3 r' y tc σ Q (.bl b) H := by
  refine ⟨b, rfl, ?_⟩
  cases b with
  | true => exact h1 rfl
  | false => exact h2 rfl
/-- slices -/
def slQ1 (r : V → Option Int → Option Int → Hp → VK → Prop) (tl th : TO) (σ : L2.St) (Q : VK) : VK := fun x H1 => tl σ H1 fun l H2 => th σ H2 fun u H3 => r x l u H3 Q
def slQ2 (r : V → Option Int → Option Int → Hp → VK → Prop) (th : TO) (σ : L2.St) (Q : VK) (x : V) : Option Int → Hp → Prop := fun l H2 => th σ H2 fun u H3 => r x l u H3 Q
def slQ3 (r : V → Option Int → Option Int → Hp → VK → Prop) (Q : VK) (x : V) (l : Option Int) : Option Int → Hp → Prop := fun u H3 => r x l u H3 Q
def ptQ (R : Option Int → Hp → Prop) : VK := fun x H1 => ∃ i, x = .int i ∧ R (some i) H1
theorem x_sl {r : V → Option Int → Option Int → Hp → VK → Prop} {te : TE} {tl th : TO} (k : te σ H (slQ1 r tl th σ Q)) : tSl r te tl th σ H Q := k
theorem x_slQ1 {r : V → Option Int → Option Int → Hp → VK → Prop} {tl th : TO} {x : V} (k : tl σ H (slQ2 r th σ Q x)) : slQ1 r tl th σ Q x H := k
theorem x_slQ2 {r : V → Option Int → Option Int → Hp → VK → Prop} {th : TO} {x : V} {l : Option Int} (k : th σ H (slQ3 r Q x l)) : slQ2 r th σ Q x l H := k
theorem x_slQ3 {r : V → Option Int → Option Int → Hp → VK → Prop} {x : V} {l u : Option Int} (k : r x l u H Q) : slQ3 r Q x l u H := k
theorem x_noPart {R : Option Int → Hp → Prop} (k : R none H) : tNoPart σ H R := k
theorem x_part {t : TE} {R : Option Int → Hp → Prop} (k : t σ H (ptQ R)) : tPart t σ H R := k
theorem x_ptQ {R : Option Int → Hp → Prop} {i : Int} (k : R (some i) H) : ptQ R (.int i) H := ⟨i, rfl, k⟩
/-- stores into a list -/
def gsQ1 (ti : TE) (t : TSet) (σ : L2.St) (v : V) (R : Hp → Prop) : VK := fun o H1 => ti σ H1 fun i H2 => t o i v H2 R
def gsQ2 (t : TSet) (o v : V) (R : Hp → Prop) : VK := fun i H2 => t o i v H2 R
theorem x_asgS {to ti : TE} {t : TSet} {D : Ends} {v : V} (k : to σ H (gsQ1 ti t σ v (D.nx σ))) : asgQ (gSub to ti t) D σ v H := k
theorem x_gsQ1 {ti : TE} {t : TSet} {o v : V} {R : Hp → Prop} (k : ti σ H (gsQ2 t o v R)) : gsQ1 ti t σ v R o H := k
theorem x_gsQ2 {t : TSet} {o i v : V} {R : Hp → Prop} (k : t o i v H R) : gsQ2 t o v R i H := k
theorem x_setL {i : Int} {j : Nat} {v : V} {R : Hp → Prop} (h : H p = some (.lst xs)) (hj : ixN xs.length i = some j) (k : R (upd H p (.lst (xs.set j v)))) : rSetL (.ref p) (.int i) v H R := ⟨p, xs, i, j, rfl, rfl, h, hj, k⟩
/-- a, b = a tuple -/
theorem x_asgT {n : Nat} {ts : TGs} {D : Ends} (h : SqT K H p xs) (hn : xs.length = n) (k : ts xs σ H D.nx) : asgQ (gTup K n ts) D σ (.ref p) H := ⟨p, xs, rfl, h, hn, k⟩
theorem x_gNil {R : L2.St → Hp → Prop} (k : R σ H) : gNil [] σ H R := ⟨rfl, k⟩
theorem x_gCons {i : Nat} {v : V} {vs : List V} {u : TGs} {R : L2.St → Hp → Prop} (k : u vs (σ.set i (some v)) H R) : gCons (gName i) u (v :: vs) σ H R := ⟨v, vs, rfl, k⟩
/-- a, b = x, y -/
def parQ (i j : Nat) (D : Ends) (σ : L2.St) : List V → Hp → Prop := fun vs H1 => ∃ v w, vs = [v, w] ∧ D.nx ((σ.set i (some v)).set j (some w)) H1
theorem x_par {i j : Nat} {ta : TA} {D : Ends} (k : ta σ H (parQ i j D σ)) : tPar i j ta D σ H := k
theorem x_parQ {i j : Nat} {v w : V} {D : Ends} (k : D.nx ((σ.set i (some v)).set j (some w)) H) : parQ i j D σ [v, w] H := ⟨v, w, rfl, k⟩
/-! ### loops and comprehensions, over anything that is walked -/
def forQ (g : TG) (tb : TS) (D : Ends) (σ : L2.St) : It → Hp → Prop := fun J H1 => ∃ W : Nat → Nat → L2.St → Hp → Prop, (∃ m, W 0 m σ H1) ∧ ∀ i m σ H, W i m σ H →
  (J.stop i H ∧ D.nx σ H) ∨ (J.go i H ∧ ∃ N : L2.St → Hp → Prop, (∀ σ' H', N σ' H' → ∃ m', m' < m ∧ W (i + 1) m' σ' H') ∧ ∀ x H', J.yld i H x H' → g x σ H' fun σ2 H2 => tb { D with nx := N, ct := N, bk := D.nx } σ2 H2)
def tgQ (tb : TS) (N : L2.St → Hp → Prop) (D : Ends) : L2.St → Hp → Prop := fun σ2 H2 => tb { D with nx := N, ct := N, bk := D.nx } σ2 H2
def lcQ (g : TG) (tt : TT) (te : TE) (vs : List Nat) (σ : L2.St) (Q : VK) : It → Hp → Prop := fun J H1 => ∀ D, H1 D = none → ∃ W : Nat → Nat → Hp → Prop, (∃ m, W 0 m (upd H1 D (.lst []))) ∧ ∀ i m H, W i m H →
  (J.stop i H ∧ Q (.ref D) H) ∨ (J.go i H ∧ ∃ Nx : Hp → Prop, (∀ H', Nx H' → ∃ m', m' < m ∧ W (i + 1) m' H') ∧ ∀ x H', J.yld i H x H' → g x (wipe σ vs) H' fun σ2 H2 => wipe σ2 vs = wipe σ vs ∧ tt σ2 H2 fun b H3 =>
    if b = true then te σ2 H3 fun y H4 => ∃ acc, H4 D = some (.lst acc) ∧ acc.length < sizeLine ∧ Nx (upd H4 D (.lst (acc ++ [y]))) else Nx H3)
/-- behind a comprehension's element: it goes into the list at D -/
def eltQ (D : Addr) (Nx : Hp → Prop) : VK := fun y H4 => ∃ acc, H4 D = some (.lst acc) ∧ acc.length < sizeLine ∧ Nx (upd H4 D (.lst (acc ++ [y])))
def ttQ (te : TE) (D : Addr) (Nx : Hp → Prop) (σ2 : L2.St) : Bool → Hp → Prop := fun b H3 => if b = true then te σ2 H3 (eltQ D Nx) else Nx H3
def lcTg (tt : TT) (te : TE) (vs : List Nat) (σ : L2.St) (D : Addr) (Nx : Hp → Prop) : L2.St → Hp → Prop := fun σ2 H2 => wipe σ2 vs = wipe σ vs ∧ tt σ2 H2 (ttQ te D Nx σ2)
def iLQ (K : PySem.W.Frag) (R : It → Hp → Prop) : VK := fun x H1 => ∃ a, x = .ref a ∧ (∃ xs, SqL K H1 a xs) ∧ R (Itl K a) H1
def iTQ (K : PySem.W.Frag) (R : It → Hp → Prop) : VK := fun x H1 => ∃ a, x = .ref a ∧ (∃ xs, SqT K H1 a xs) ∧ R (Itt K a) H1
def iRQ (R : It → Hp → Prop) : List V → Hp → Prop := fun vs H1 => ∃ j : Int, vs = [.int j] ∧ -(2 ^ 62) ≤ j ∧ j < 2 ^ 62 ∧ R (Itr 0 j.toNat) H1
def iR2Q (R : It → Hp → Prop) : List V → Hp → Prop := fun vs H1 => ∃ i j : Int, vs = [.int i, .int j] ∧ (-(2 ^ 62) ≤ i ∧ i < 2 ^ 62 ∧ -(2 ^ 62) ≤ j ∧ j < 2 ^ 62) ∧ R (Itr i (j - i).toNat) H1
def iZQ (K : PySem.W.Frag) (R : It → Hp → Prop) : List V → Hp → Prop := fun vs H1 => ∃ a b xs ys, vs = [.ref a, .ref b] ∧ SqL K H1 a xs ∧ SqL K H1 b ys ∧ R (Itz K a b) H1
def iEQ (K : PySem.W.Frag) (R : It → Hp → Prop) : List V → Hp → Prop := fun vs H1 => ∃ a xs, vs = [.ref a] ∧ SqL K H1 a xs ∧ R (Ite K a) H1
section
variable {wi : TI} {g : TG} {tb : TS} {D : Ends} {J : It} {n : Nat} {G : Hp → Prop} {Y : Nat → Hp → V → Hp → Prop} {R : It → Hp → Prop} {tt : TT} {te : TE} {vs : List Nat}
theorem x_for (k : wi σ H (forQ g tb D σ)) : tFor wi g tb D σ H := k
theorem x_forQ (w : Walk J n G Y) (Pv : Nat → L2.St → Hp → Prop) (h0 : Pv 0 σ H) (hG : ∀ i σ H, i ≤ n → Pv i σ H → G H)
    (hs : ∀ i x σ H H', i < n → Pv i σ H → Y i H x H' → g x σ H' (tgQ tb (Pv (i + 1)) D)) (hd : ∀ σ H, Pv n σ H → D.nx σ H) : forQ g tb D σ J H := for_it w Pv h0 hG hs hd
theorem x_tgN {i : Nat} {v : V} {N : L2.St → Hp → Prop} (k : tb { D with nx := N, ct := N, bk := D.nx } (σ.set i (some v)) H) : gName i v σ H (tgQ tb N D) := k
theorem x_tgQ {N : L2.St → Hp → Prop} (k : tb { D with nx := N, ct := N, bk := D.nx } σ H) : tgQ tb N D σ H := k
theorem x_gTup {m : Nat} {ts : TGs} {S : L2.St → Hp → Prop} (h : SqT K H p xs) (hn : xs.length = m) (k : ts xs σ H S) : gTup K m ts (.ref p) σ H S := ⟨p, xs, rfl, h, hn, k⟩
theorem x_lc (k : wi σ H (lcQ g tt te vs σ Q)) : tLc wi g tt te vs σ H Q := k
theorem x_lcQ (w : Walk J n G Y) (Pv : Addr → Nat → Hp → Prop) (h0 : ∀ D, H D = none → Pv D 0 (upd H D (.lst []))) (hG : ∀ D i H, i ≤ n → Pv D i H → G H)
    (hs : ∀ D i x H H', i < n → Pv D i H → Y i H x H' → g x (wipe σ vs) H' (lcTg tt te vs σ D (Pv D (i + 1)))) (hd : ∀ D H, Pv D n H → Q (.ref D) H) : lcQ g tt te vs σ Q J H :=
  fun D hD => lc_it w (Pv D) (h0 D hD) (hG D) (hs D) (hd D)
theorem x_lcTgN {i : Nat} {v : V} {Dl : Addr} {Nx : Hp → Prop} (hw : wipe ((wipe σ vs).set i (some v)) vs = wipe σ vs) (k : tt ((wipe σ vs).set i (some v)) H (ttQ te Dl Nx ((wipe σ vs).set i (some v)))) : gName i v (wipe σ vs) H (lcTg tt te vs σ Dl Nx) := ⟨hw, k⟩
theorem x_lcTg {σ2 : L2.St} {Dl : Addr} {Nx : Hp → Prop} (hw : wipe σ2 vs = wipe σ vs) (k : tt σ2 H (ttQ te Dl Nx σ2)) : lcTg tt te vs σ Dl Nx σ2 H := ⟨hw, k⟩
theorem x_tYes {QB : Bool → Hp → Prop} (k : QB true H) : tYes σ H QB := k
theorem x_ttT {Dl : Addr} {Nx : Hp → Prop} (k : te σ H (eltQ Dl Nx)) : ttQ te Dl Nx σ true H := k
theorem x_ttQ {b : Bool} {Dl : Addr} {Nx : Hp → Prop} (h1 : b = true → te σ H (eltQ Dl Nx)) (h2 : b = false → Nx H) : ttQ te Dl Nx σ b H := by
  unfold ttQ
  cases b with
  | true => exact h1 rfl
  | false => exact h2 rfl
theorem x_elt {Dl : Addr} {Nx : Hp → Prop} {acc : List V} {y : V} (h : H Dl = some (.lst acc)) (hz : acc.length < sizeLine) (k : Nx (upd H Dl (.lst (acc ++ [y])))) : eltQ Dl Nx y H := ⟨acc, h, hz, k⟩
theorem x_iL {tl : TE} (k : tl σ H (iLQ K R)) : iList K tl σ H R := k
theorem x_iLQ (h : SqL K H p xs) (k : R (Itl K p) H) : iLQ K R (.ref p) H := ⟨p, rfl, ⟨xs, h⟩, k⟩
theorem x_iT {tl : TE} (k : tl σ H (iTQ K R)) : iTup K tl σ H R := k
theorem x_iTQ (h : SqT K H p xs) (k : R (Itt K p) H) : iTQ K R (.ref p) H := ⟨p, rfl, ⟨xs, h⟩, k⟩
theorem x_iR {ta : TA} (k : ta σ H (iRQ R)) : iRng1 ta σ H R := k
theorem x_iRQ {j : Int} (h1 : -(2 ^ 62) ≤ j) (h2 : j < 2 ^ 62) (k : R (Itr 0 j.toNat) H) : iRQ R [.int j] H := ⟨j, rfl, h1, h2, k⟩
theorem x_iR2 {ta : TA} (k : ta σ H (iR2Q R)) : iRng2 ta σ H R := k
theorem x_iR2Q {i j : Int} (h : -(2 ^ 62) ≤ i ∧ i < 2 ^ 62 ∧ -(2 ^ 62) ≤ j ∧ j < 2 ^ 62) (k : R (Itr i (j - i).toNat) H) : iR2Q R [.int i, .int j] H := ⟨i, j, rfl, h, k⟩
theorem x_iZ {ta : TA} (k : ta σ H (iZQ K R)) : iZip K ta σ H R := k
theorem x_iZQ {q : Addr} {ys : List V} (h : SqL K H p xs) (h2 : SqL K H q ys) (k : R (Itz K p q) H) : iZQ K R [.ref p, .ref q] H := ⟨p, q, xs, ys, rfl, h, h2, k⟩
theorem x_iE {ta : TA} (k : ta σ H (iEQ K R)) : iEnum K ta σ H R := k
theorem x_iEQ (h : SqL K H p xs) (k : R (Ite K p) H) : iEQ K R [.ref p] H := ⟨p, xs, rfl, h, k⟩
/-- a comprehension whose elements are the values f i, nothing else changed but by growth -/
theorem x_lcMap (w : Walk J n G Y) (f : Nat → V) (hn : n ≤ sizeLine) (hG : ∀ H', Ex H H' → G H')
    (hs : ∀ D i x H1 H2 (Nx : Hp → Prop), i < n → Ex H H1 → Y i H1 x H2 → (∀ H3, Ex H2 H3 → eltQ D Nx (f i) H3) → g x (wipe σ vs) H2 (lcTg tt te vs σ D Nx)) 
    (hY : ∀ i x H1 H2, i < n → Ex H H1 → Y i H1 x H2 → Ex H1 H2)
    (hd : ∀ D H', H D = none → Ex H H' → H' D = some (.lst ((List.range n).map f)) → Q (.ref D) H') : lcQ g tt te vs σ Q J H := by
  refine x_lcQ w (fun D i H' => H D = none ∧ Ex H H' ∧ H' D = some (.lst ((List.range i).map f))) (fun D hD => ⟨hD, Ex.new hD, upd_same⟩) (fun D i H' _ p => hG H' p.2.1) (fun D i x H1 H2 hi p y => ?_) (fun D H' p => hd D H' p.1 p.2.1 p.2.2)
  obtain ⟨hD, e1, h1⟩ := p
  have e2 := hY i x H1 H2 hi e1 y
  refine hs D i x H1 H2 _ hi e1 y fun H3 e3 => ?_
  refine ⟨(List.range i).map f, e3 _ _ (e2 _ _ h1), by rw [List.length_map, List.length_range]; omega, hD, Ex.mut ((e1.trans e2).trans e3) hD, ?_⟩
  rw [upd_same, List.range_succ, List.map_append]
  rfl
end
end
/-- range(n), range(a, n) by their turns -/
theorem walk_r0 {n : Nat} : Walk (Itr 0 n) n (fun _ => True) (fun i H x H' => H' = H ∧ x = .int (i : Int)) :=
  walk_range.mono (fun _ h => h) fun i H x H' _ _ y => ⟨y.1, by rw [y.2]; show V.int (0 + (i : Int)) = V.int (i : Int); rw [Int.zero_add]⟩
theorem walk_ra {a : Int} {n : Nat} : Walk (Itr a n) n (fun _ => True) (fun i H x H' => H' = H ∧ x = .int (a + (i : Int))) :=
  walk_range.mono (fun _ h => h) fun i H x H' _ _ y => ⟨y.1, y.2⟩
/-! ### a def of the program, ready to be called -/
structure Dn (P : Program) (w : World) (K : PySem.W.Frag) (mg : Str → Option Value) (base : Heap) (CX : CXT) (k : Nat) (x : Str) (ps : List Str) (sp : Sp) : Prop where
  ex : ∃ f fd, FnOk P w K mg base CX k f fd ps sp ∧ mg x = some (.ref f) ∧ PySem.W.keepIn K (.ref f) = true ∧ Binds K fd ps []
structure Df (K : PySem.W.Frag) (mg : Str → Option Value) (x : Str) (st : Stmt) : Prop where
  ex : ∃ f fd, Fun K x x st f fd ∧ mg x = some (.ref f)
theorem Dn.up {P : Program} {w : World} {K : PySem.W.Frag} {mg : Str → Option Value} {base : Heap} {CX : CXT} {k : Nat} {x : Str} {ps : List Str} {sp : Sp} (D : Dn P w K mg base CX k x ps sp) : Dn P w K mg base CX k x ps sp := D
section
variable {X : Cx} {CX : CXT} {k : Nat} {ps : List Str} {sp : Sp} {E : XK} {x : Str} {p pos : Pos} {e : Expr} {es : List Expr} {t : TA}
theorem pe_dn (D : Dn X.prog X.w X.K X.mg X.base CX k x ps sp) (hr : Room k X.A) (hx : Passes CX X E) (ha : PA X (e :: es) t) (hg : Gl X x := by rfl)
    (hdb : (x == ("__debug__" : Str)) = false := by decide) (he : starEach (e :: es) X.env = (false, eval e X.env) :: starEach es X.env := by rfl) (hpl : (backTo pos (starEach es X.env)).any (·.1) = false := by rfl) :
    PE X (.Call (.Name x p) (e :: es) [] pos) (tCall sp [] E t) := by
  obtain ⟨f, fd, F, hm, hk, hb⟩ := D.ex
  exact pe_call F hr hg hm hk hb .nil hx ha hdb he hpl
theorem pe_dn0 (D : Dn X.prog X.w X.K X.mg X.base CX k x ps sp) (hr : Room k X.A) (hx : Passes CX X E) (hg : Gl X x := by rfl)
    (hdb : (x == ("__debug__" : Str)) = false := by decide) : PE X (.Call (.Name x p) [] [] pos) (tCall sp [] E tNil) := by
  obtain ⟨f, fd, F, hm, hk, hb⟩ := D.ex
  exact pe_call0 F hr hg hm hk hb .nil hx hdb
/-- a number of the module -/
def Ci (mg : Str → Option Value) (x : Str) (n : Int) : Prop := ∃ t, mg x = some (.int n t)
theorem pe_cst {n : Int} (c : Ci X.mg x n) (hg : Gl X x := by rfl) (hd : (x == ("__debug__" : Str)) = false := by decide) : PE X (.Name x pos) (tC (.int n)) := by
  obtain ⟨t, h⟩ := c
  exact pe_glob hg h ⟨t, rfl⟩ hd
end
section
variable {P : Program} {w : World} {K : PySem.W.Frag} {mg : Str → Option Value} {base : Heap}
/-- a def of the text by its body, no exception leaving it -/
theorem Df.dn {x : Str} {st : Stmt} {N ps : List Str} {k : Nat} {sp : Sp} (F : Df K mg x st) (S : FnScope N ps (defScope st))
    (hb : ∀ (kV doc pm : Value) (an : Option Addr) (cdv ct : Value) (us : List Value), us.length = ps.length → bindArgs (PySem.W.fnOf x x (defArgs st) (defBody st) (defScope st) .none kV doc pm an cdv ct) ⟨us, []⟩ = pure (ps.zip us))
    (len : ∀ vs H Q E, sp vs H Q E → vs.length = ps.length)
    (hbody : ∀ (f : Addr) (cdv : Value) (A : Around) (outer : List Env) (s : Shared) (H : Hp) (vs : List V) (Q : VK) (E : XK), Room k (A.deeper (envOfC x (defScope st) s.heap.objs.size f cdv)) → (cxOf CX0 P w K mg base N x (defScope st) f cdv A outer s H E).nox.K = K → sp vs H Q E →
      ∃ t, PSs (cxOf CX0 P w K mg base N x (defScope st) f cdv A outer s H E).nox (defBody st) t ∧ t { nx := fun _ H' => Q .non H', rt := Q } (start N vs) H) : Dn P w K mg base CX0 (k + 1) x ps sp := by
  obtain ⟨f, fd, F, hm⟩ := F.ex
  exact ⟨f, fd, F.ok S len (fun cdv A outer s H vs Q E hr h => hbody f cdv A outer s H vs Q E hr rfl h), hm, F.kp, F.binds hb⟩
end
/-! ### numbers -/
theorem cdiv_of {i j : Int} (h0 : 0 < j) (h : j < 2 ^ 64) : CDivW i j := wide_div (b := 64) h0 (by omega) (by decide) (by decide)
theorem mulx_of {i j : Int} (h1 : -(2 ^ 64) < i) (h2 : i < 2 ^ 64) (h3 : -(2 ^ 64) < j) (h4 : j < 2 ^ 64) : CMulX i j := mulx_ok (a := 64) (b := 64) (by omega) (by omega) (by decide)
theorem bits_of {i : Int} (h1 : -(2 ^ 64) < i) (h2 : i < 2 ^ 64) : Builtin.Int.intBits i ≤ 1048576 := by
  have z := PySem.Flt.log2_lt_of (k := 64) (n := i.natAbs) (by decide) (by omega)
  unfold Builtin.Int.intBits
  split <;> omega
section
variable {H : Hp} {Q : VK} {i j : Int}
theorem x_mod (h : 0 < j) (k : Q (.int (i % j)) H) : rI (fun _ j => 0 < j) (fun i j => .int (i % j)) (.int i) (.int j) H Q := ⟨i, j, rfl, rfl, h, k⟩
theorem x_div (h : 0 < j) (h2 : j < 2 ^ 64) (k : Q (.int (i / j)) H) : rI CDivW (fun i j => .int (i / j)) (.int i) (.int j) H Q := ⟨i, j, rfl, rfl, cdiv_of h h2, k⟩
theorem x_mul (h1 : -(2 ^ 64) < i) (h2 : i < 2 ^ 64) (h3 : -(2 ^ 64) < j) (h4 : j < 2 ^ 64) (k : Q (.int (i * j)) H) : rI CMulX (fun i j => .int (i * j)) (.int i) (.int j) H Q := ⟨i, j, rfl, rfl, mulx_of h1 h2 h3 h4, k⟩
theorem x_mulB (h : CMulX i j) (k : Q (.int (i * j)) H) : rI CMulX (fun i j => .int (i * j)) (.int i) (.int j) H Q := ⟨i, j, rfl, rfl, h, k⟩
theorem x_pow (h : CPow i j) (k : Q (.int (i ^ j.toNat)) H) : rI CPow (fun i j => .int (i ^ j.toNat)) (.int i) (.int j) H Q := ⟨i, j, rfl, rfl, h, k⟩
end
theorem at_mem {xs : List V} {r : Int} (h0 : 0 ≤ r) (h : r < (xs.length : Int)) : ∃ v, atI xs r = some v ∧ v ∈ xs := by
  have hl : r.toNat < xs.length := by omega
  exact ⟨xs[r.toNat], at_of (j := r.toNat) (by omega) (List.getElem?_eq_getElem hl), List.getElem_mem hl⟩
theorem at_int {ns : List Int} {r : Int} (h0 : 0 ≤ r) (h : r < (ns.length : Int)) : ∃ v, atI (ns.map V.int) r = some (.int v) ∧ v ∈ ns ∧ ns[r.toNat]? = some v := by
  have hl : r.toNat < ns.length := by omega
  exact ⟨ns[r.toNat], at_of (j := r.toNat) (by omega) (by rw [List.getElem?_map, List.getElem?_eq_getElem hl]; rfl), List.getElem_mem hl, List.getElem?_eq_getElem hl⟩
theorem at_lastI (ws : List Int) (x : Int) : atI ((ws ++ [x]).map V.int) (-1) = some (.int x) := by
  rw [List.map_append]
  exact atI_last _ _
theorem cut_from {xs : List V} {k : Nat} : cutV xs (some (k : Int)) none = xs.drop k := by
  unfold cutV
  rw [HT.sIx_nat, HT.sIx_none]
  by_cases c : k ≤ xs.length
  · rw [Nat.min_eq_left c, List.take_of_length_le (by rw [List.length_drop]; omega)]
  · rw [Nat.min_eq_right (by omega), List.drop_length, List.drop_eq_nil_of_le (by omega), List.take_nil]
theorem cut_to {xs : List V} {k : Nat} : cutV xs none (some (k : Int)) = xs.take k := by
  unfold cutV
  rw [HT.sIx_nat, HT.sIx_none, List.drop_zero, Nat.sub_zero]
  by_cases c : k ≤ xs.length
  · rw [Nat.min_eq_left c]
  · rw [Nat.min_eq_right (by omega), List.take_of_length_le (Nat.le_refl _), List.take_of_length_le (by omega)]
theorem int_of {ns : List Int} {i : Nat} {x : V} (h : (ns.map V.int)[i]? = some x) : ∃ n, x = .int n ∧ ns[i]? = some n := by
  rw [List.getElem?_map] at h
  cases e : ns[i]? with
  | none => rw [e] at h; cases h
  | some u => rw [e] at h; exact ⟨u, (Option.some.inj h).symm, rfl⟩
/-- a tariff -/
structure Tar (ws : List Int) : Prop where
  pos : 1 ≤ ws.length
  len : ws.length ≤ 6
  rng : ∀ w ∈ ws, 1 ≤ w ∧ w ≤ 10000
  ch : ∀ (i : Nat) (a b : Int), ws[i]? = some a → ws[i + 1]? = some b → b % a = 0
theorem Tar.one {x : Int} (h1 : 1 ≤ x) (h2 : x ≤ 10000) : Tar [x] := ⟨Nat.le_refl _, by simp, fun w hw => by
  rw [List.mem_singleton] at hw
  subst hw
  exact ⟨h1, h2⟩, fun i a b _ h => by simp at h⟩
theorem Tar.snoc {ws : List Int} {x y : Int} (t : Tar (ws ++ [x])) (hl : (ws ++ [x]).length ≤ 5) (h1 : 1 ≤ y) (h2 : y ≤ 10000) (hd : y % x = 0) : Tar (ws ++ [x] ++ [y]) := by
  refine ⟨by simp, by rw [List.length_append, List.length_singleton]; omega, fun w hw => ?_, fun i a b ha hb => ?_⟩
  · rcases List.mem_append.mp hw with h | h
    · exact t.rng w h
    · rw [List.mem_singleton] at h
      subst h
      exact ⟨h1, h2⟩
  · by_cases c : i + 1 < (ws ++ [x]).length
    · rw [List.getElem?_append_left (by omega)] at ha
      rw [List.getElem?_append_left c] at hb
      exact t.ch i a b ha hb
    · have hlt := (List.getElem?_eq_some_iff.mp hb).1
      rw [List.length_append, List.length_singleton] at hlt
      have e : i + 1 = (ws ++ [x]).length := by omega
      have ei : i = ws.length := by rw [List.length_append, List.length_singleton] at e; omega
      rw [e, List.getElem?_concat_length] at hb
      rw [List.getElem?_append_left (by omega), ei, List.getElem?_concat_length] at ha
      cases ha; cases hb
      exact hd
/-! ### heaps that grow -/
theorem sqL_upd {K : PySem.W.Frag} {H : Hp} {p q : Addr} {o : HO} {xs : List V} (h : p ≠ q) (e : SqL K H p xs) : SqL K (upd H q o) p xs := by
  rcases e with (e | ⟨u, e⟩) | e
  · exact .inl (.inl (by rw [upd_ne h]; exact e))
  · exact .inl (.inr ⟨u, by rw [upd_ne h]; exact e⟩)
  · exact .inr e
theorem sqT_upd {K : PySem.W.Frag} {H : Hp} {p q : Addr} {o : HO} {xs : List V} (h : p ≠ q) (e : SqT K H p xs) : SqT K (upd H q o) p xs := by
  rcases e with (e | ⟨u, e⟩) | e
  · exact .inl (.inl (by rw [upd_ne h]; exact e))
  · exact .inl (.inr ⟨u, by rw [upd_ne h]; exact e⟩)
  · exact .inr e
/-- all but b is as it was -/
structure KB (b : Addr) (H H' : Hp) : Prop where
  at_ : ∀ a o, a ≠ b → H a = some o → H' a = some o
theorem KB.refl {b : Addr} {H : Hp} : KB b H H := ⟨fun _ _ _ h => h⟩
theorem KB.trans {b : Addr} {H H1 H2 : Hp} (a : KB b H H1) (c : KB b H1 H2) : KB b H H2 := ⟨fun x o n h => c.at_ x o n (a.at_ x o n h)⟩
theorem KB.of_ex {b : Addr} {H H1 : Hp} (e : Ex H H1) : KB b H H1 := ⟨fun x o _ h => e x o h⟩
theorem KB.upd {b : Addr} {H : Hp} {o : HO} : KB b H (upd H b o) := ⟨fun x u n h => by rw [upd_ne n]; exact h⟩
theorem KB.new {b p : Addr} {H : Hp} {o : HO} (h : H p = none) : KB b H (L2.upd H p o) := KB.of_ex (Ex.new h)
theorem KB.mut {b p : Addr} {H H1 : Hp} {o : HO} (e : KB b H H1) (h : H p = none) : KB b H (L2.upd H1 p o) := ⟨fun a u n ha => by
  rw [upd_ne (ne_of_none ha h)]; exact e.at_ a u n ha⟩
theorem KB.sqL {K : PySem.W.Frag} {b a : Addr} {H H' : Hp} {xs : List V} (e : KB b H H') (h : SqL K H a xs) (n : a ≠ b) : SqL K H' a xs := by
  rcases h with (h | ⟨o, h⟩) | h
  · exact .inl (.inl (e.at_ _ _ n h))
  · exact .inl (.inr ⟨o, e.at_ _ _ n h⟩)
  · exact .inr h
/-- what was read ahead of all is read on: b is new, what else changed is new -/
theorem KB.sq0 {K : PySem.W.Frag} {b a : Addr} {H H' : Hp} {xs : List V} (e : KB b H H') (hb : H b = none) (h : SqL K H a xs) : SqL K H' a xs := by
  rcases h with (h | ⟨o, h⟩) | h
  · exact .inl (.inl (e.at_ _ _ (ne_of_none h hb) h))
  · exact .inl (.inr ⟨o, e.at_ _ _ (ne_of_none h hb) h⟩)
  · exact .inr h
theorem ixN_of {n : Nat} {i : Int} (h0 : 0 ≤ i) (h : i < (n : Int)) : ixN n i = some i.toNat := by
  unfold ixN
  rw [if_pos h0, if_pos h]
theorem KB.get {b a : Addr} {H H' : Hp} {o : HO} (e : KB b H H') (n : a ≠ b) (h : H a = some o) : H' a = some o := e.at_ a o n h
theorem ex_get {a : Addr} {H H' : Hp} {o : HO} (e : Ex H H') (h : H a = some o) : H' a = some o := e a o h
theorem KB.sqT {K : PySem.W.Frag} {b a : Addr} {H H' : Hp} {xs : List V} (e : KB b H H') (h : SqT K H a xs) (n : a ≠ b) : SqT K H' a xs := by
  rcases h with (h | ⟨o, h⟩) | h
  · exact .inl (.inl (e.at_ _ _ n h))
  · exact .inl (.inr ⟨o, e.at_ _ _ n h⟩)
  · exact .inr h
theorem ne_fresh {p q : Addr} {H : Hp} {o : HO} (h : H p = none) (hq : H q = some o) : p ≠ q := fun e => by rw [e, hq] at h; cases h
theorem KB.fresh {b p : Addr} {H H' : Hp} (e : KB b H H') (hb : ∃ o, H' b = some o) (h : H' p = none) : H p = none := by
  cases q : H p with
  | none => rfl
  | some o =>
    by_cases n : p = b
    · obtain ⟨o2, h2⟩ := hb
      rw [n, h2] at h
      cases h
    · rw [e.at_ p o n q] at h
      cases h
theorem Ex.sqL {K : PySem.W.Frag} {H H' : Hp} {a : Addr} {xs : List V} (e : Ex H H') (h : SqL K H a xs) : SqL K H' a xs := ex_l e h
theorem Ex.sqT {K : PySem.W.Frag} {H H' : Hp} {a : Addr} {xs : List V} (e : Ex H H') (h : SqT K H a xs) : SqT K H' a xs := ex_t e h
/-! ### tests whose answer is known, or a proposition's -/
section
variable {σ : L2.St} {H : Hp} {Q : VK} {QB : Bool → Hp → Prop} {t u : TS} {d : TT} {D : Ends} {p : Prop} [Decidable p] {ta tb : TE}
theorem x_ifD (h1 : p → t D σ H) (h2 : ¬ p → u D σ H) : ifQ t u D σ (decide p) H := x_ifQ (fun c => h1 (of_decide_eq_true c)) fun c => h2 (of_decide_eq_false c)
theorem x_ifT (h : t D σ H) : ifQ t u D σ true H := h
theorem x_ifF (h : u D σ H) : ifQ t u D σ false H := by
  unfold ifQ
  rw [if_neg Bool.false_ne_true]
  exact h
theorem x_ifN (h1 : p → u D σ H) (h2 : ¬ p → t D σ H) : ifQ t u D σ (!decide p) H := by
  by_cases c : p
  · rw [decide_eq_true c]; exact x_ifF (h1 c)
  · rw [decide_eq_false c]; exact x_ifT (h2 c)
theorem x_notQT (k : QB false H) : notQ QB true H := k
theorem x_notQF (k : QB true H) : notQ QB false H := k
theorem x_andD (h1 : p → d σ H QB) (h2 : ¬ p → QB false H) : andQ d σ QB (decide p) H := x_andQ (fun c => h1 (of_decide_eq_true c)) fun c => h2 (of_decide_eq_false c)
theorem x_andT (h : d σ H QB) : andQ d σ QB true H := h
theorem x_andF (h : QB false H) : andQ d σ QB false H := by
  unfold andQ
  rw [if_neg Bool.false_ne_true]
  exact h
theorem x_orD (h1 : p → QB true H) (h2 : ¬ p → d σ H QB) : orQ d σ QB (decide p) H := x_orQ (fun c => h1 (of_decide_eq_true c)) fun c => h2 (of_decide_eq_false c)
theorem x_orT (h : QB true H) : orQ d σ QB true H := h
theorem x_orF (h : d σ H QB) : orQ d σ QB false H := by
  unfold orQ
  rw [if_neg Bool.false_ne_true]
  exact h
theorem x_andVD (h1 : p → tb σ H Q) (h2 : ¬ p → Q (.bl false) H) : andVQ tb σ Q (.bl (decide p)) H := x_andVQ (fun c => h1 (of_decide_eq_true c)) fun c => h2 (of_decide_eq_false c)
theorem x_andVT (h : tb σ H Q) : andVQ tb σ Q (.bl true) H := ⟨true, rfl, h⟩
theorem x_orVD (h1 : p → Q (.bl true) H) (h2 : ¬ p → tb σ H Q) : orVQ tb σ Q (.bl (decide p)) H := x_orVQ (fun c => h1 (of_decide_eq_true c)) fun c => h2 (of_decide_eq_false c)
theorem x_iteD (h1 : p → ta σ H Q) (h2 : ¬ p → tb σ H Q) : iteQ ta tb σ Q (decide p) H := x_iteQ (fun c => h1 (of_decide_eq_true c)) fun c => h2 (of_decide_eq_false c)
theorem x_chD {r' : R2} {tc : TE} {y : V} (h1 : p → tc σ H (opQ2 r' y Q)) (h2 : ¬ p → Q (.bl false) H) : chQ3 r' y tc σ Q (.bl (decide p)) H := x_chQ3 (fun c => h1 (of_decide_eq_true c)) fun c => h2 (of_decide_eq_false c)
end
/-! ### data -/
mutual
theorem dp_ex {K : PySem.W.Frag} {H H' : Hp} (e : Ex H H') : ∀ {v : V} {d : PyData}, Dp K H v d → Dp K H' v d
  | _, _, .non => .non
  | _, _, .bl b => .bl b
  | _, _, .int i => .int i
  | _, _, .str x => .str x
  | _, _, .lst s a => .lst (ex_l e s) (dpAll_ex e a)
  | _, _, .tup s a => .tup (ex_t e s) (dpAll_ex e a)
theorem dpAll_ex {K : PySem.W.Frag} {H H' : Hp} (e : Ex H H') : ∀ {vs : List V} {ds : List PyData}, DpAll K H vs ds → DpAll K H' vs ds
  | _, _, .nil => .nil
  | _, _, .cons a r => .cons (dp_ex e a) (dpAll_ex e r)
end
section
variable {K : PySem.W.Frag} {H H' : Hp}
theorem dpAll_len : ∀ {vs : List V} {ds : List PyData}, DpAll K H vs ds → vs.length = ds.length
  | _, _, .nil => rfl
  | _, _, .cons _ r => congrArg (· + 1) (dpAll_len r)
theorem dpAll_get : ∀ {vs : List V} {ds : List PyData} {i : Nat} {v : V}, DpAll K H vs ds → vs[i]? = some v → ∃ d, ds[i]? = some d ∧ Dp K H v d
  | _, _, _, _, .nil, h => by simp at h
  | _, _, 0, _, .cons a _, h => by
    have e := Option.some.inj h
    subst e
    exact ⟨_, rfl, a⟩
  | _, _, i + 1, v, .cons _ r, h => dpAll_get (i := i) r h
theorem dpAll_app : ∀ {vs ws : List V} {ds es : List PyData}, DpAll K H vs ds → DpAll K H ws es → DpAll K H (vs ++ ws) (ds ++ es)
  | _, _, _, _, .nil, b => b
  | _, _, _, _, .cons a r, b => .cons a (dpAll_app r b)
theorem dpAll_ints : ∀ ns : List Int, DpAll K H (ns.map V.int) (ns.map PyData.int)
  | [] => .nil
  | n :: r => .cons (.int n) (dpAll_ints r)
theorem dpAll_bls : ∀ ns : List Bool, DpAll K H (ns.map V.bl) (ns.map PyData.bool)
  | [] => .nil
  | n :: r => .cons (.bl n) (dpAll_bls r)
theorem dpAll_strs : ∀ ns : List Str, DpAll K H (ns.map V.str) (ns.map PyData.str)
  | [] => .nil
  | n :: r => .cons (.str n) (dpAll_strs r)
/-- a list of ints, as data -/
abbrev dInts (ns : List Int) : PyData := .list (ns.map PyData.int)
theorem dp_ints {p : Addr} {ns : List Int} (h : SqL K H p (ns.map V.int)) : Dp K H (.ref p) (dInts ns) := .lst h (dpAll_ints ns)
/-- the kind of data -/
def kindD : PyData → String
  | .none => "NoneType"
  | .bool _ => "bool"
  | .int _ => "int"
  | .str _ => "str"
  | .list _ => "list"
  | .tuple _ => "tuple"
  | .dict _ => "dict"
theorem ty_dp {v : V} {d : PyData} (h : Dp K H v d) : TyX K H v (.type (kindD d)) := by
  cases h with
  | non => exact .base .non
  | bl b => exact .base (.bl b)
  | int i => exact .base (.int i)
  | str x => exact .base (.str x)
  | lst s _ =>
    rcases s with (s | ⟨o, s⟩) | ⟨o, its, n, s, c, _⟩
    · exact .base (.lst s)
    · exact .base (.frz s)
    · exact .kList s c
  | tup s _ =>
    rcases s with (s | ⟨o, s⟩) | ⟨o, its, n, s, c, _⟩
    · exact .base (.tup s)
    · exact .fTuple s
    · exact .kTuple s c
theorem x_isi {Q : VK} {v : V} {a T : String} {b : Bool} (ty : TyX K H v (.type a)) (e : PySem.W.kitOne K (.type a) (.type T) = some b) (k : Q (.bl b) H) : rIsi K [v, .ty T] H Q := ⟨v, .ty T, _, _, b, rfl, .ty T, ty, e, k⟩
theorem eqv_same {d : PyData} (s : SeqAt.shaped d = true) : PyData.eqv d d = true := PySem.SeqAt.eqv_refl d (PySem.SeqAt.canLay_of_shaped s)
theorem x_eqD {Q : VK} {x y : V} {d e : PyData} (hx : Dp K H x d) (hy : Dp K H y e) (sx : SeqAt.shaped d = true) (sy : SeqAt.shaped e = true) (k : Q (.bl (PyData.eqv d e)) H) : rEqD K x y H Q := ⟨d, e, hx, hy, sx, sy, k⟩
theorem x_neD {Q : VK} {x y : V} {d e : PyData} (hx : Dp K H x d) (hy : Dp K H y e) (sx : SeqAt.shaped d = true) (sy : SeqAt.shaped e = true) (k : Q (.bl (!PyData.eqv d e)) H) : rNeD K x y H Q := ⟨d, e, hx, hy, sx, sy, k⟩
theorem x_eqSame {Q : VK} {x y : V} {d : PyData} (hx : Dp K H x d) (hy : Dp K H y d) (s : SeqAt.shaped d = true) (k : Q (.bl true) H) : rEqD K x y H Q := x_eqD hx hy s s (by rw [eqv_same s]; exact k)
theorem x_neSame {Q : VK} {x y : V} {d : PyData} (hx : Dp K H x d) (hy : Dp K H y d) (s : SeqAt.shaped d = true) (k : Q (.bl false) H) : rNeD K x y H Q := x_neD hx hy s s (by rw [eqv_same s]; exact k)
theorem shaped_ints (ns : List Int) : SeqAt.shaped (dInts ns) = true := by
  have h : ∀ ns : List Int, PyData.canLayAll0 (ns.map PyData.int) = true ∧ PyData.depthAll (ns.map PyData.int) = 0 := by
    intro ns
    induction ns with
    | nil => exact ⟨by simp [PyData.canLayAll0], by simp [PyData.depthAll]⟩
    | cons n r ih => exact ⟨by simp [PyData.canLayAll0, PyData.canLay0, ih.1], by simp [PyData.depthAll, PyData.depth, ih.2]⟩
  unfold SeqAt.shaped
  simp [PyData.canLay0, PyData.depth, h ns]
/-- data of a depth below n, no list longer than 100000 -/
inductive OkD : Nat → PyData → Prop
  | none {n : Nat} : OkD (n + 1) .none
  | bool {n : Nat} (b : Bool) : OkD (n + 1) (.bool b)
  | int {n : Nat} (i : Int) : OkD (n + 1) (.int i)
  | str {n : Nat} {x : Str} (h : PyData.strOk x = true) : OkD (n + 1) (.str x)
  | list {n : Nat} {ds : List PyData} (hl : ds.length ≤ 100000) (h : ∀ d ∈ ds, OkD n d) : OkD (n + 1) (.list ds)
  | tuple {n : Nat} {ds : List PyData} (hl : ds.length ≤ 100000) (h : ∀ d ∈ ds, OkD n d) : OkD (n + 1) (.tuple ds)
theorem canLayAll_of {ds : List PyData} : (∀ d ∈ ds, PyData.canLay0 d = true) → PyData.canLayAll0 ds = true := by
  induction ds with
  | nil => intro _; simp [PyData.canLayAll0]
  | cons a r ih => intro h; simp [PyData.canLayAll0, h a (List.mem_cons_self), ih fun d hd => h d (List.mem_cons_of_mem _ hd)]
theorem depthAll_of {n : Nat} {ds : List PyData} : (∀ d ∈ ds, PyData.depth d ≤ n) → PyData.depthAll ds ≤ n := by
  induction ds with
  | nil => intro _; simp [PyData.depthAll]
  | cons a r ih =>
    intro h
    have h1 := h a List.mem_cons_self
    have h2 := ih fun d hd => h d (List.mem_cons_of_mem _ hd)
    simp only [PyData.depthAll]
    omega
theorem OkD.lay {n : Nat} {d : PyData} (h : OkD n d) : PyData.canLay0 d = true ∧ PyData.depth d ≤ n := by
  induction h with
  | none => exact ⟨by simp [PyData.canLay0], by simp [PyData.depth]⟩
  | bool b => exact ⟨by simp [PyData.canLay0], by simp [PyData.depth]⟩
  | int i => exact ⟨by simp [PyData.canLay0], by simp [PyData.depth]⟩
  | str h => exact ⟨by simp [PyData.canLay0, h], by simp [PyData.depth]⟩
  | list hl h ih => exact ⟨by simp only [PyData.canLay0]; exact canLayAll_of fun d hd => (ih d hd).1, by simp only [PyData.depth]; have := depthAll_of fun d hd => (ih d hd).2; omega⟩
  | tuple hl h ih => exact ⟨by simp only [PyData.canLay0]; exact canLayAll_of fun d hd => (ih d hd).1, by simp only [PyData.depth]; have := depthAll_of fun d hd => (ih d hd).2; omega⟩
theorem OkD.shaped {n : Nat} {d : PyData} (h : OkD n d) (hn : n ≤ 64) : SeqAt.shaped d = true := by
  unfold SeqAt.shaped
  rw [h.lay.1, decide_eq_true (by have := h.lay.2; omega)]
  rfl
theorem OkD.ints {n : Nat} {ns : List Int} (h : ns.length ≤ 100000) : OkD (n + 2) (dInts ns) := .list (by rw [List.length_map]; exact h) fun d hd => by
  obtain ⟨i, _, rfl⟩ := List.mem_map.mp hd
  exact .int i
/-- zip of two lists or two tuples -/
def iZAQ (K : PySem.W.Frag) (R : It → Hp → Prop) : List V → Hp → Prop := fun vs H1 => ∃ a b xs ys, vs = [.ref a, .ref b] ∧ ((SqL K H1 a xs ∧ SqL K H1 b ys ∧ R (Itz K a b) H1) ∨ (SqT K H1 a xs ∧ SqT K H1 b ys ∧ R (ItzT K a b) H1))
theorem x_iZA {ta : TA} {σ : L2.St} {R : It → Hp → Prop} (k : ta σ H (iZAQ K R)) : iZipA K ta σ H R := k
theorem x_iZAL {R : It → Hp → Prop} {p q : Addr} {xs ys : List V} (h : SqL K H p xs) (h2 : SqL K H q ys) (k : R (Itz K p q) H) : iZAQ K R [.ref p, .ref q] H := ⟨p, q, xs, ys, rfl, .inl ⟨h, h2, k⟩⟩
theorem x_iZAT {R : It → Hp → Prop} {p q : Addr} {xs ys : List V} (h : SqT K H p xs) (h2 : SqT K H q ys) (k : R (ItzT K p q) H) : iZAQ K R [.ref p, .ref q] H := ⟨p, q, xs, ys, rfl, .inr ⟨h, h2, k⟩⟩
theorem walk_zipT {a b : Addr} {xs ys : List V} {n : Nat} (hn : n = min xs.length ys.length) : Walk (ItzT K a b) n (fun H => SqT K H a xs ∧ SqT K H b ys) (YPair (fun i => xs[i]?) (fun i => ys[i]?)) := by
  subst hn
  refine ⟨fun i _ hi q => ?_, fun _ q => ⟨xs, ys, q.1, q.2, by omega⟩, fun i H v H' _ q y => ?_⟩
  · have h1 : i < xs.length := by omega
    have h2 : i < ys.length := by omega
    exact ⟨xs, ys, xs[i], ys[i], q.1, q.2, by simp [h1], by simp [h2]⟩
  · obtain ⟨T, x, z, h1, h2, h3, h4, h5⟩ := y
    exact ⟨T, x, z, h1, h2, h3, h4 xs q.1, h5 ys q.2⟩
/-- a def's contract that can't be asked -/
theorem Df.none {P : Program} {w : World} {mg : Str → Option Value} {base : Heap} {x : Str} {st : Stmt} {ps : List Str} {sp : Sp} (F : Df K mg x st)
    (hb : ∀ (kV doc pm : Value) (an : Option Addr) (cdv ct : Value) (us : List Value), us.length = ps.length → bindArgs (PySem.W.fnOf x x (defArgs st) (defBody st) (defScope st) .none kV doc pm an cdv ct) ⟨us, []⟩ = pure (ps.zip us))
    (no : ∀ vs H Q E, ¬ sp vs H Q E) : Dn P w K mg base CX0 k x ps sp := by
  obtain ⟨f, fd, F, hm⟩ := F.ex
  exact ⟨f, fd, ⟨fun vs H Q E h => absurd h (no vs H Q E), fun A outer s H args us vs Q E _ _ _ _ h => absurd h (no vs H Q E)⟩, hm, F.kp, F.binds hb⟩
end
/-! ### steps whose premises want a tactic -/
section
variable {K : PySem.W.Frag} {H : Hp} {Q : VK} {p : Addr} {xs : List V}
theorem x_ixLn {i : Int} {v : V} (h : SqL K H p xs) (h0 : 0 ≤ i) (ha : xs[i.toNat]? = some v) (k : Q v H) : rIxL K (.ref p) (.int i) H Q := x_ixL h (at_of (j := i.toNat) (by omega) ha) k
theorem x_ixTn {i : Int} {v : V} (h : SqT K H p xs) (h0 : 0 ≤ i) (ha : xs[i.toNat]? = some v) (k : Q v H) : rIxT K (.ref p) (.int i) H Q := x_ixT h (at_of (j := i.toNat) (by omega) ha) k
theorem x_setLn {i : Int} {v : V} {R : Hp → Prop} (h : H p = some (.lst xs)) (h0 : 0 ≤ i) (ha : (xs[i.toNat]?).isSome = true) (k : R (upd H p (.lst (xs.set i.toNat v)))) : rSetL (.ref p) (.int i) v H R := by
  refine x_setL h ?_ k
  have hlt : i.toNat < xs.length := by
    rw [Option.isSome_iff_exists] at ha
    obtain ⟨y, hy⟩ := ha
    exact (List.getElem?_eq_some_iff.mp hy).1
  unfold ixN
  rw [if_pos h0, if_pos (by omega)]
end
/-- a word between two statements -/
theorem x_cut {t u : TS} {D : Ends} {σ : L2.St} {H : Hp} (Mid : L2.St → Hp → Prop) (h : t { D with nx := Mid } σ H) (k : ∀ σ' H', Mid σ' H' → u D σ' H') : tCut t u D σ H := ⟨Mid, h, k⟩
theorem cut_ints (ws : List Int) (lo hi : Option Int) : ∃ us : List Int, cutV (ws.map V.int) lo hi = us.map V.int ∧ us.length ≤ ws.length := by
  refine ⟨(ws.drop (HT.sIx (ws.map V.int).length 0 lo)).take (HT.sIx (ws.map V.int).length (ws.map V.int).length hi - HT.sIx (ws.map V.int).length 0 lo), ?_, ?_⟩
  · unfold cutV
    rw [List.map_take, List.map_drop]
  · rw [List.length_take, List.length_drop]
    omega
theorem rep_ints (ws : List Int) (k : Nat) : (List.replicate k (ws.map V.int)).flatten = ((List.replicate k ws).flatten).map V.int := by
  induction k with
  | zero => rfl
  | succ k ih => rw [List.replicate_succ, List.replicate_succ, List.flatten_cons, List.flatten_cons, List.map_append, ih]
theorem rep_len (ws : List Int) (k : Nat) : ((List.replicate k ws).flatten).length = k * ws.length := by
  induction k with
  | zero => simp
  | succ k ih => rw [List.replicate_succ, List.flatten_cons, List.length_append, ih, Nat.succ_mul]; omega
theorem set_ints (ws : List Int) (j : Nat) (z : Int) : (ws.map V.int).set j (.int z) = (ws.set j z).map V.int := List.map_set.symm
/-- the promise of a law: a list of at most 63 ints is handed in, True comes back -/
def spLaw (K : PySem.W.Frag) : Sp := fun vs H Q _ => ∃ (a : Addr) (ns : List Int), vs = [.ref a] ∧ SqL K H a (ns.map V.int) ∧ ns.length ≤ 63 ∧ (∀ z ∈ ns, Builtin.Int.intBits z ≤ 1048576) ∧ ∀ H', Q (.bl true) H'
/-- a while by a number that falls -/
def whQ (t : TS) (W : Nat → L2.St → Hp → Prop) (m : Nat) (D : Ends) (σ : L2.St) : Bool → Hp → Prop := fun b H1 => if b = true then ∃ N : L2.St → Hp → Prop, (∀ σ' H', N σ' H' → ∃ m', m' < m ∧ W m' σ' H') ∧ t { D with nx := N, ct := N, bk := D.nx } σ H1 else D.nx σ H1
theorem x_while {c : TT} {t : TS} {D : Ends} {σ : L2.St} {H : Hp} (W : Nat → L2.St → Hp → Prop) (m0 : Nat) (h0 : W m0 σ H) (hs : ∀ m σ H, W m σ H → c σ H (whQ t W m D σ)) : tWhile c t D σ H := ⟨W, ⟨m0, h0⟩, hs⟩
theorem x_whD {t : TS} {W : Nat → L2.St → Hp → Prop} {m : Nat} {f : L2.St → Hp → Prop} {rt : VK} {bk ct : L2.St → Hp → Prop} {σ : L2.St} {H : Hp} {p : Prop} [Decidable p]
    (h1 : p → t (Ends.mk (fun σ' H' => ∃ m', m' < m ∧ W m' σ' H') rt f (fun σ' H' => ∃ m', m' < m ∧ W m' σ' H')) σ H) (h2 : ¬ p → f σ H) : whQ t W m (Ends.mk f rt bk ct) σ (decide p) H := by
  unfold whQ
  by_cases c : p
  · rw [if_pos (decide_eq_true c)]
    exact ⟨_, fun _ _ h => h, h1 c⟩
  · rw [if_neg (by rw [decide_eq_false c]; exact Bool.false_ne_true)]
    exact h2 c
theorem x_shl {H : Hp} {Q : VK} {B : Nat} {k : Nat} {n : Nat} (h : B < 2 ^ n) (hn : n + k ≤ 134217728) (q : Q (.int ((B <<< k : Nat) : Int)) H) : rI CShl (fun i j => .int (i * 2 ^ j.toNat)) (.int (B : Int)) (.int (k : Int)) H Q :=
  ⟨B, k, rfl, rfl, shl_ok (by omega) hn, by
    have e : ((B <<< k : Nat) : Int) = (B : Int) * 2 ^ ((k : Int)).toNat := by
      rw [Nat.shiftLeft_eq, Int.toNat_natCast, Int.natCast_mul, Int.natCast_pow]
      rfl
    rw [e] at q
    exact q⟩
/-! ### runs: what is left of a reading when all that needs no word of ours is done (found by the search for instances) -/
class Run (P : Prop) (R : outParam Prop) : Prop where
  go : R → P
theorem run {P R : Prop} [i0 : Run P R] (h : R) : P := i0.go h
instance (priority := low) run_base {P : Prop} : Run P P := ⟨id⟩
/-- the value in a slot -/
class Slot (σ : L2.St) (i : Nat) (v : outParam V) : Prop where
  h : σ[i]? = some (some v)
instance slot_0 {v : V} {σ : L2.St} : Slot (some v :: σ) 0 v := ⟨rfl⟩
instance slot_s {o : Option V} {v : V} {σ : L2.St} {n : Nat} [i : Slot σ n v] : Slot (o :: σ) (n + 1) v := ⟨i.h⟩
/-- a slot stored -/
class SetS (σ : L2.St) (i : Nat) (o : Option V) (σ' : outParam L2.St) : Prop where
  h : σ.set i o = σ'
instance set_0 {o x : Option V} {σ : L2.St} : SetS (x :: σ) 0 o (o :: σ) := ⟨rfl⟩
instance set_s {o x : Option V} {σ σ' : L2.St} {n : Nat} [i : SetS σ n o σ'] : SetS (x :: σ) (n + 1) o (x :: σ') := ⟨by rw [List.set_cons_succ, i.h]⟩
/-- a comprehension's own slots wiped -/
class Wp (σ : L2.St) (ns : List Nat) (σ' : outParam L2.St) : Prop where
  h : wipe σ ns = σ'
instance wp_nil {σ : L2.St} : Wp σ (List.map (fun x : Str × Nat => x.2) []) σ := ⟨rfl⟩
instance wp_cons {σ σ1 σ2 : L2.St} {s : Str} {n : Nat} {l : List (Str × Nat)} [a : Wp σ (List.map (fun x : Str × Nat => x.2) l) σ1] [b : SetS σ1 n none σ2] : Wp σ (List.map (fun x : Str × Nat => x.2) ((s, n) :: l)) σ2 := ⟨by
  show (wipe σ (List.map (fun x : Str × Nat => x.2) l)).set n none = σ2
  rw [a.h, b.h]⟩
instance set_wipe {σ σ1 σ2 : L2.St} {ns : List Nat} {i : Nat} {o : Option V} [a : Wp σ ns σ1] [b : SetS σ1 i o σ2] : SetS (wipe σ ns) i o σ2 := ⟨by rw [a.h, b.h]⟩
class PosI (j : Int) : Prop where
  h : 0 < j
instance posI {m : Nat} : PosI (OfNat.ofNat (m + 1)) := ⟨Int.natCast_pos.mpr (Nat.succ_pos m)⟩
section
variable {K : PySem.W.Frag} {σ σ' : L2.St} {H : Hp} {Q : VK} {QB : Bool → Hp → Prop} {QA : List V → Hp → Prop} {R : Prop} {v x y : V} {ta tb tc te : TE} {t u : TS} {c d : TT} {D : Ends} {r r' : R2} {i j : Nat} {g : TG} {gs : TGs} {tr : TA} {sp : Sp} {E : XK} {vs : List V}
  {f : L2.St → Hp → Prop} {rt : VK} {bk ct : L2.St → Hp → Prop} {a b : Int} {z z' : Str} {k l : Bool} {p q : Addr} {G : L2.St → Hp → Prop} {S : It → Hp → Prop} {ns : List Nat} {tt : TT} {Dl : Addr} {Nx : Hp → Prop}
instance r_var [s : Slot σ i v] [n : Run (Q v H) R] : Run (tVar i σ H Q) R := ⟨fun h => x_var s.h (n.go h)⟩
instance r_c [i0 : Run (Q v H) R] : Run (tC v σ H Q) R := ⟨fun h => x_c (i0.go h)⟩
instance r_op [i0 : Run (ta σ H (opQ1 r tb σ Q)) R] : Run (tOp r ta tb σ H Q) R := ⟨fun h => x_op (i0.go h)⟩
instance r_opQ1 [i0 : Run (tb σ H (opQ2 r x Q)) R] : Run (opQ1 r tb σ Q x H) R := ⟨fun h => x_opQ1 (i0.go h)⟩
instance r_opQ2 [i0 : Run (r x y H Q) R] : Run (opQ2 r x Q y H) R := ⟨fun h => x_opQ2 (i0.go h)⟩
instance r_un {h1 : V → Hp → VK → Prop} [i0 : Run (ta σ H (unQ h1 Q)) R] : Run (tUn h1 ta σ H Q) R := ⟨fun h => x_un (i0.go h)⟩
instance r_unQ {h1 : V → Hp → VK → Prop} [i0 : Run (h1 x H Q) R] : Run (unQ h1 Q x H) R := ⟨fun h => x_unQ (i0.go h)⟩
instance r_I0 {fI : Int → Int → V} [i0 : Run (Q (fI a b) H) R] : Run (rI0 fI (.int a) (.int b) H Q) R := ⟨fun h => x_I0 (i0.go h)⟩
instance r_rU {fI : Int → V} [i0 : Run (Q (fI a) H) R] : Run (rU fI (.int a) H Q) R := ⟨fun h => x_rU (i0.go h)⟩
instance r_mod [m : PosI b] [n : Run (Q (.int (a % b)) H) R] : Run (rI (fun _ j => 0 < j) (fun i j => .int (i % j)) (.int a) (.int b) H Q) R := ⟨fun h => x_mod m.h (n.go h)⟩
instance r_eqI [i0 : Run (Q (.bl (decide (a = b))) H) R] : Run (rEq (.int a) (.int b) H Q) R := ⟨fun h => x_eqI (i0.go h)⟩
instance r_neI [i0 : Run (Q (.bl (decide (a ≠ b))) H) R] : Run (rNe (.int a) (.int b) H Q) R := ⟨fun h => x_neI (i0.go h)⟩
instance r_eqS [i0 : Run (Q (.bl (decide (z = z'))) H) R] : Run (rEq (.str z) (.str z') H Q) R := ⟨fun h => x_eqS (i0.go h)⟩
instance r_neS [i0 : Run (Q (.bl (decide (z ≠ z'))) H) R] : Run (rNe (.str z) (.str z') H Q) R := ⟨fun h => x_neS (i0.go h)⟩
instance r_eqBs [i0 : Run (Q (.bl true) H) R] : Run (rEq (.bl k) (.bl k) H Q) R := ⟨fun h => x_eqBs (i0.go h)⟩
instance r_neBs [i0 : Run (Q (.bl false) H) R] : Run (rNe (.bl k) (.bl k) H Q) R := ⟨fun h => x_neBs (i0.go h)⟩
instance r_test [i0 : Run (ta σ H (bQ QB)) R] : Run (tTest ta σ H QB) R := ⟨fun h => x_test (i0.go h)⟩
instance r_tB [i0 : Run (ta σ H (bQ QB)) R] : Run (tB ta σ H QB) R := ⟨fun h => x_tB (i0.go h)⟩
instance r_bQ [i0 : Run (QB k H) R] : Run (bQ QB (.bl k) H) R := ⟨fun h => x_bQ (i0.go h)⟩
instance r_and [i0 : Run (c σ H (andQ d σ QB)) R] : Run (tAnd c d σ H QB) R := ⟨fun h => x_and (i0.go h)⟩
instance r_or [i0 : Run (c σ H (orQ d σ QB)) R] : Run (tOr c d σ H QB) R := ⟨fun h => x_or (i0.go h)⟩
instance r_not [i0 : Run (c σ H (notQ QB)) R] : Run (tNot c σ H QB) R := ⟨fun h => x_not (i0.go h)⟩
instance (priority := low + 1) r_notQ [i0 : Run (QB (!k) H) R] : Run (notQ QB k H) R := ⟨fun h => x_notQ (i0.go h)⟩
instance r_notQT [i0 : Run (QB false H) R] : Run (notQ QB true H) R := ⟨fun h => x_notQT (i0.go h)⟩
instance r_notQF [i0 : Run (QB true H) R] : Run (notQ QB false H) R := ⟨fun h => x_notQF (i0.go h)⟩
instance r_andT [i0 : Run (d σ H QB) R] : Run (andQ d σ QB true H) R := ⟨fun h => x_andT (i0.go h)⟩
instance r_andF [i0 : Run (QB false H) R] : Run (andQ d σ QB false H) R := ⟨fun h => x_andF (i0.go h)⟩
instance r_orT [i0 : Run (QB true H) R] : Run (orQ d σ QB true H) R := ⟨fun h => x_orT (i0.go h)⟩
instance r_orF [i0 : Run (d σ H QB) R] : Run (orQ d σ QB false H) R := ⟨fun h => x_orF (i0.go h)⟩
instance r_ifExp [i0 : Run (c σ H (iteQ ta tb σ Q)) R] : Run (tIf c ta tb σ H Q) R := ⟨fun h => x_ifExp (i0.go h)⟩
instance r_andV [i0 : Run (ta σ H (andVQ tb σ Q)) R] : Run (tAndV ta tb σ H Q) R := ⟨fun h => x_andV (i0.go h)⟩
instance r_orV [i0 : Run (ta σ H (orVQ tb σ Q)) R] : Run (tOrV ta tb σ H Q) R := ⟨fun h => x_orV (i0.go h)⟩
instance r_notV [i0 : Run (ta σ H (notVQ Q)) R] : Run (tNotV ta σ H Q) R := ⟨fun h => x_notV (i0.go h)⟩
instance r_notVQ [i0 : Run (Q (.bl (!k)) H) R] : Run (notVQ Q (.bl k) H) R := ⟨fun h => x_notVQ (i0.go h)⟩
instance r_andVT [i0 : Run (tb σ H Q) R] : Run (andVQ tb σ Q (.bl true) H) R := ⟨fun h => x_andVT (i0.go h)⟩
instance r_nil [i0 : Run (QA [] H) R] : Run (tNil σ H QA) R := ⟨fun h => x_nil (i0.go h)⟩
instance r_cons [i0 : Run (te σ H (consQ tr σ QA)) R] : Run (tCons te tr σ H QA) R := ⟨fun h => x_cons (i0.go h)⟩
instance r_consQ [i0 : Run (tr σ H fun xs H2 => QA (x :: xs) H2) R] : Run (consQ tr σ QA x H) R := ⟨fun h => x_consQ (i0.go h)⟩
instance r_call [i0 : Run (tr σ H (callQ sp Q E)) R] : Run (tCall sp [] E tr σ H Q) R := ⟨fun h => x_call (i0.go h)⟩
instance r_callQ [i0 : Run (sp vs H Q E) R] : Run (callQ sp Q E vs H) R := ⟨fun h => x_callQ (i0.go h)⟩
instance r_cb {h1 : List V → Hp → VK → Prop} [i0 : Run (tr σ H (cbQ h1 Q)) R] : Run (tCB h1 tr σ H Q) R := ⟨fun h => x_cb (i0.go h)⟩
instance r_cbQ {h1 : List V → Hp → VK → Prop} [i0 : Run (h1 vs H Q) R] : Run (cbQ h1 Q vs H) R := ⟨fun h => x_cbQ (i0.go h)⟩
instance r_lst [i0 : Run (tr σ H (lstQ Q)) R] : Run (tLst tr σ H Q) R := ⟨fun h => x_lst (i0.go h)⟩
instance r_tup [i0 : Run (tr σ H (tupQ Q)) R] : Run (tTup tr σ H Q) R := ⟨fun h => x_tup (i0.go h)⟩
instance r_seq [i0 : Run (t (Ends.mk (u (Ends.mk f rt bk ct)) rt bk ct) σ H) R] : Run (tSeq t u (Ends.mk f rt bk ct) σ H) R := ⟨fun h => x_seq (i0.go h)⟩
instance r_next [i0 : Run (f σ H) R] : Run (tNext (Ends.mk f rt bk ct) σ H) R := ⟨fun h => x_next (D := Ends.mk f rt bk ct) (i0.go h)⟩
instance r_asg [i0 : Run (te σ H (asgQ g (Ends.mk f rt bk ct) σ)) R] : Run (tAsg te g (Ends.mk f rt bk ct) σ H) R := ⟨fun h => x_asg (i0.go h)⟩
instance r_asgN [s : SetS σ i (some x) σ'] [n : Run (f σ' H) R] : Run (asgQ (gName i) (Ends.mk f rt bk ct) σ x H) R := ⟨fun h => x_asgN (D := Ends.mk f rt bk ct) (by rw [s.h]; exact n.go h)⟩
instance r_drop [i0 : Run (te σ H (dropQ (Ends.mk f rt bk ct) σ)) R] : Run (tDrop te (Ends.mk f rt bk ct) σ H) R := ⟨fun h => x_drop (i0.go h)⟩
instance r_dropQ [i0 : Run (f σ H) R] : Run (dropQ (Ends.mk f rt bk ct) σ x H) R := ⟨fun h => x_dropQ (D := Ends.mk f rt bk ct) (i0.go h)⟩
instance r_ret [i0 : Run (te σ H rt) R] : Run (tRet te (Ends.mk f rt bk ct) σ H) R := ⟨fun h => x_ret (D := Ends.mk f rt bk ct) (i0.go h)⟩
instance r_retN [i0 : Run (rt .non H) R] : Run (tRetN (Ends.mk f rt bk ct) σ H) R := ⟨fun h => x_retN (D := Ends.mk f rt bk ct) (i0.go h)⟩
instance r_if [i0 : Run (c σ H (ifQ t u (Ends.mk f rt bk ct) σ)) R] : Run (tIfS c t u (Ends.mk f rt bk ct) σ H) R := ⟨fun h => x_if (i0.go h)⟩
instance r_ifT [i0 : Run (t D σ H) R] : Run (ifQ t u D σ true H) R := ⟨fun h => x_ifT (i0.go h)⟩
instance r_ifF [i0 : Run (u D σ H) R] : Run (ifQ t u D σ false H) R := ⟨fun h => x_ifF (i0.go h)⟩
instance r_cont [i0 : Run (ct σ H) R] : Run (tCont (Ends.mk f rt bk ct) σ H) R := ⟨fun h => x_cont (D := Ends.mk f rt bk ct) (i0.go h)⟩
instance r_break [i0 : Run (bk σ H) R] : Run (tBreak (Ends.mk f rt bk ct) σ H) R := ⟨fun h => x_break (D := Ends.mk f rt bk ct) (i0.go h)⟩
instance r_asgS {hS : TSet} [i0 : Run (ta σ H (gsQ1 tb hS σ v (f σ))) R] : Run (asgQ (gSub ta tb hS) (Ends.mk f rt bk ct) σ v H) R := ⟨fun h => x_asgS (D := Ends.mk f rt bk ct) (i0.go h)⟩
instance r_gsQ1 {hS : TSet} [i0 : Run (tb σ H (gsQ2 hS x v Nx)) R] : Run (gsQ1 tb hS σ v Nx x H) R := ⟨fun h => x_gsQ1 (i0.go h)⟩
instance r_gsQ2 {hS : TSet} [i0 : Run (hS x y v H Nx) R] : Run (gsQ2 hS x v Nx y H) R := ⟨fun h => x_gsQ2 (i0.go h)⟩
instance r_chain [i0 : Run (ta σ H (chQ1 r r' tb tc σ Q)) R] : Run (tChain r r' ta tb tc σ H Q) R := ⟨fun h => x_chain (i0.go h)⟩
instance r_chQ1 [i0 : Run (tb σ H (chQ2 r r' tc σ x Q)) R] : Run (chQ1 r r' tb tc σ Q x H) R := ⟨fun h => x_chQ1 (i0.go h)⟩
instance r_chQ2 [i0 : Run (r x y H (chQ3 r' y tc σ Q)) R] : Run (chQ2 r r' tc σ x Q y H) R := ⟨fun h => x_chQ2 (i0.go h)⟩
instance r_for {wi : TI} [i0 : Run (wi σ H (forQ g t (Ends.mk f rt bk ct) σ)) R] : Run (tFor wi g t (Ends.mk f rt bk ct) σ H) R := ⟨fun h => x_for (i0.go h)⟩
instance r_iL [i0 : Run (ta σ H (iLQ K S)) R] : Run (iList K ta σ H S) R := ⟨fun h => x_iL (i0.go h)⟩
instance r_iT [i0 : Run (ta σ H (iTQ K S)) R] : Run (iTup K ta σ H S) R := ⟨fun h => x_iT (i0.go h)⟩
instance r_iR [i0 : Run (tr σ H (iRQ S)) R] : Run (iRng1 tr σ H S) R := ⟨fun h => x_iR (i0.go h)⟩
instance r_iR2 [i0 : Run (tr σ H (iR2Q S)) R] : Run (iRng2 tr σ H S) R := ⟨fun h => x_iR2 (i0.go h)⟩
instance r_iZ [i0 : Run (tr σ H (iZQ K S)) R] : Run (iZip K tr σ H S) R := ⟨fun h => x_iZ (i0.go h)⟩
instance r_iZA [i0 : Run (tr σ H (iZAQ K S)) R] : Run (iZipA K tr σ H S) R := ⟨fun h => x_iZA (i0.go h)⟩
instance r_iE [i0 : Run (tr σ H (iEQ K S)) R] : Run (iEnum K tr σ H S) R := ⟨fun h => x_iE (i0.go h)⟩
instance r_lc {wi : TI} [i0 : Run (wi σ H (lcQ g tt te ns σ Q)) R] : Run (tLc wi g tt te ns σ H Q) R := ⟨fun h => x_lc (i0.go h)⟩
instance r_gN [s : SetS σ i (some v) σ'] [n : Run (G σ' H) R] : Run (gName i v σ H G) R := ⟨fun h => x_gN (by rw [s.h]; exact n.go h)⟩
instance r_tgQ [n : Run (t (Ends.mk G rt f G) σ H) R] : Run (tgQ t G (Ends.mk f rt bk ct) σ H) R := ⟨fun h => x_tgQ (D := Ends.mk f rt bk ct) (by exact n.go h)⟩
instance r_tYes [i0 : Run (QB true H) R] : Run (tYes σ H QB) R := ⟨fun h => x_tYes (i0.go h)⟩
instance r_ttT [i0 : Run (te σ H (eltQ Dl Nx)) R] : Run (ttQ te Dl Nx σ true H) R := ⟨fun h => x_ttT (i0.go h)⟩
instance r_bm {T : String} {h1 : V → List V → Hp → VK → Prop} [i0 : Run (ta σ H (bmQ K T h1 tr σ Q)) R] : Run (tBM K T h1 ta tr σ H Q) R := ⟨fun h => x_bm (i0.go h)⟩
instance r_bmQ2 {h1 : V → List V → Hp → VK → Prop} [i0 : Run (h1 x vs H Q) R] : Run (bmQ2 h1 x Q vs H) R := ⟨fun h => x_bmQ2 (i0.go h)⟩
instance r_bm0 {T : String} {h1 : V → List V → Hp → VK → Prop} [i0 : Run (ta σ H (bm0Q K T h1 Q)) R] : Run (tBM0 K T h1 ta σ H Q) R := ⟨fun h => x_bm0 (i0.go h)⟩
instance r_sl {h1 : V → Option Int → Option Int → Hp → VK → Prop} {tl th : TO} [i0 : Run (ta σ H (slQ1 h1 tl th σ Q)) R] : Run (tSl h1 ta tl th σ H Q) R := ⟨fun h => x_sl (i0.go h)⟩
instance r_slQ1 {h1 : V → Option Int → Option Int → Hp → VK → Prop} {tl th : TO} [i0 : Run (tl σ H (slQ2 h1 th σ Q x)) R] : Run (slQ1 h1 tl th σ Q x H) R := ⟨fun h => x_slQ1 (i0.go h)⟩
instance r_slQ2 {h1 : V → Option Int → Option Int → Hp → VK → Prop} {th : TO} {lo : Option Int} [i0 : Run (th σ H (slQ3 h1 Q x lo)) R] : Run (slQ2 h1 th σ Q x lo H) R := ⟨fun h => x_slQ2 (i0.go h)⟩
instance r_slQ3 {h1 : V → Option Int → Option Int → Hp → VK → Prop} {lo hi : Option Int} [i0 : Run (h1 x lo hi H Q) R] : Run (slQ3 h1 Q x lo hi H) R := ⟨fun h => x_slQ3 (i0.go h)⟩
instance r_noPart {RO : Option Int → Hp → Prop} [i0 : Run (RO none H) R] : Run (tNoPart σ H RO) R := ⟨fun h => x_noPart (i0.go h)⟩
instance r_part {RO : Option Int → Hp → Prop} [i0 : Run (ta σ H (ptQ RO)) R] : Run (tPart ta σ H RO) R := ⟨fun h => x_part (i0.go h)⟩
instance r_ptQ {RO : Option Int → Hp → Prop} [i0 : Run (RO (some a) H) R] : Run (ptQ RO (.int a) H) R := ⟨fun h => x_ptQ (i0.go h)⟩
instance r_intB [i0 : Run (Q (.int (if k then 1 else 0)) H) R] : Run (rIntOf [.bl k] H Q) R := ⟨fun h => x_intB (i0.go h)⟩
instance r_intI [i0 : Run (Q (.int a) H) R] : Run (rIntOf [.int a] H Q) R := ⟨fun h => x_intI (i0.go h)⟩
instance r_min [i0 : Run (Q (.int (if b < a then b else a)) H) R] : Run (rMin2 [.int a, .int b] H Q) R := ⟨fun h => x_min (i0.go h)⟩
instance r_max [i0 : Run (Q (.int (if b > a then b else a)) H) R] : Run (rMax2' [.int a, .int b] H Q) R := ⟨fun h => x_max (i0.go h)⟩
instance r_par [h0 : Run (tr σ H (parQ i j (Ends.mk f rt bk ct) σ)) R] : Run (tPar i j tr (Ends.mk f rt bk ct) σ H) R := ⟨fun h => x_par (h0.go h)⟩
instance r_parQ {σ2 : L2.St} [s : SetS σ i (some x) σ'] [s2 : SetS σ' j (some y) σ2] [n : Run (f σ2 H) R] : Run (parQ i j (Ends.mk f rt bk ct) σ [x, y] H) R := ⟨fun h => x_parQ (D := Ends.mk f rt bk ct) (by rw [s.h, s2.h]; exact n.go h)⟩
instance r_gCons [s : SetS σ i (some x) σ'] [n : Run (gs vs σ' H G) R] : Run (gCons (gName i) gs (x :: vs) σ H G) R := ⟨fun h => x_gCons (by rw [s.h]; exact n.go h)⟩
instance r_gNil [i0 : Run (G σ H) R] : Run (gNil [] σ H G) R := ⟨fun h => x_gNil (i0.go h)⟩
instance r_isNN [i0 : Run (Q (.bl true) H) R] : Run (rIsN .non .non H Q) R := ⟨fun h => x_isNN (i0.go h)⟩
instance r_isNI [i0 : Run (Q (.bl false) H) R] : Run (rIsN (.int a) .non H Q) R := ⟨fun h => x_isNI (i0.go h)⟩
instance r_isNB [i0 : Run (Q (.bl false) H) R] : Run (rIsN (.bl k) .non H Q) R := ⟨fun h => x_isNB (i0.go h)⟩
instance r_isNS [i0 : Run (Q (.bl false) H) R] : Run (rIsN (.str z) .non H Q) R := ⟨fun h => x_isNS (i0.go h)⟩
instance r_isNR [i0 : Run (Q (.bl false) H) R] : Run (rIsN (.ref p) .non H Q) R := ⟨fun h => x_isNR (i0.go h)⟩
instance r_notNN [i0 : Run (Q (.bl false) H) R] : Run (rNotN .non .non H Q) R := ⟨fun h => x_notNN (i0.go h)⟩
instance r_notNR [i0 : Run (Q (.bl true) H) R] : Run (rNotN (.ref p) .non H Q) R := ⟨fun h => x_notNR (i0.go h)⟩
end
section
variable {K : PySem.W.Frag} {σ : L2.St} {H : Hp} {Q : VK} {R : Prop} {ta : TE} {a : Int} {n : Nat} {S : It → Hp → Prop}
/-! ### bit_length; reversed(range(n)) -/
def bitsQ (Q : VK) : VK := fun x H => ∃ i, x = .int i ∧ Q (.int (Builtin.Int.intBits i : Nat)) H
theorem x_bits (k : ta σ H (bitsQ Q)) : tBits ta σ H Q := k
theorem x_bitsQ (k : Q (.int (Builtin.Int.intBits a : Nat)) H) : bitsQ Q (.int a) H := ⟨a, rfl, k⟩
instance r_bits [i0 : Run (ta σ H (bitsQ Q)) R] : Run (tBits ta σ H Q) R := ⟨fun h => x_bits (i0.go h)⟩
instance r_bitsQ [i0 : Run (Q (.int (Builtin.Int.intBits a : Nat)) H) R] : Run (bitsQ Q (.int a) H) R := ⟨fun h => x_bitsQ (i0.go h)⟩
def rgQ (F : Int → Int → Hp → Prop) : VK := fun x H1 => ∃ n, x = .int n ∧ F 0 n H1
def rrQ (S : It → Hp → Prop) : Int → Int → Hp → Prop := fun a b H1 => -(2 ^ 62) ≤ a ∧ a < 2 ^ 62 ∧ -(2 ^ 62) ≤ b ∧ b < 2 ^ 62 ∧ S (Itc (a + (((b - a).toNat : Nat) : Int) - 1) (-1) (b - a).toNat) H1
instance r_revR {tr : L2.St → Hp → (Int → Int → Hp → Prop) → Prop} [i0 : Run (tr σ H (rrQ S)) R] : Run (iRevR tr σ H S) R := ⟨fun h => i0.go h⟩
instance r_rg1 {F : Int → Int → Hp → Prop} [i0 : Run (ta σ H (rgQ F)) R] : Run (tRg1 ta σ H F) R := ⟨fun h => i0.go h⟩
instance r_rgQ {F : Int → Int → Hp → Prop} [i0 : Run (F 0 a H) R] : Run (rgQ F (.int a) H) R := ⟨fun h => ⟨a, rfl, i0.go h⟩⟩
theorem x_rrQ (h : n < 2 ^ 62) (k : S (Itc ((n : Int) - 1) (-1) n) H) : rrQ S 0 (n : Int) H := by
  refine ⟨by decide, by decide, by omega, by omega, ?_⟩
  rw [show ((n : Int) - 0).toNat = n by omega, show (0 : Int) + (n : Int) - 1 = (n : Int) - 1 by omega]
  exact k
end
theorem walk_rr {n : Nat} : Walk (Itc ((n : Int) - 1) (-1) n) n (fun _ => True) (fun i H x H' => H' = H ∧ x = .int ((n : Int) - 1 - (i : Int))) :=
  walk_rangeC.mono (fun _ h => h) fun i H x H' _ _ y => ⟨y.1, by rw [y.2]; show V.int ((n : Int) - 1 + (i : Int) * -1) = _; rw [Int.mul_neg, Int.mul_one, Int.add_neg_eq_sub]⟩
theorem min_if (a b : Int) : (if b < a then b else a) = min a b := by split <;> omega
theorem max_if (a b : Int) : (if b > a then b else a) = max a b := by split <;> omega
section
variable {H : Hp} {Q : VK} {R : Prop} {k : Bool}
/-! ### is, is not with True, False -/
theorem x_isT (q : Q (.bl k) H) : rIsB (.bl k) (.bl true) H Q := ⟨k, true, rfl, rfl, by cases k <;> exact q⟩
theorem x_isF (q : Q (.bl (!k)) H) : rIsB (.bl k) (.bl false) H Q := ⟨k, false, rfl, rfl, by cases k <;> exact q⟩
theorem x_notT (q : Q (.bl (!k)) H) : rNotB (.bl k) (.bl true) H Q := ⟨k, true, rfl, rfl, by cases k <;> exact q⟩
theorem x_notF (q : Q (.bl k) H) : rNotB (.bl k) (.bl false) H Q := ⟨k, false, rfl, rfl, by cases k <;> exact q⟩
instance r_isT [i0 : Run (Q (.bl k) H) R] : Run (rIsB (.bl k) (.bl true) H Q) R := ⟨fun h => x_isT (i0.go h)⟩
instance r_isF [i0 : Run (Q (.bl (!k)) H) R] : Run (rIsB (.bl k) (.bl false) H Q) R := ⟨fun h => x_isF (i0.go h)⟩
instance r_notT [i0 : Run (Q (.bl (!k)) H) R] : Run (rNotB (.bl k) (.bl true) H Q) R := ⟨fun h => x_notT (i0.go h)⟩
instance r_notF [i0 : Run (Q (.bl k) H) R] : Run (rNotB (.bl k) (.bl false) H Q) R := ⟨fun h => x_notF (i0.go h)⟩
instance r_isFF [i0 : Run (Q (.bl true) H) R] : Run (rIsB (.bl false) (.bl false) H Q) R := ⟨fun h => x_isF (i0.go h)⟩
instance r_notTT [i0 : Run (Q (.bl false) H) R] : Run (rNotB (.bl true) (.bl true) H Q) R := ⟨fun h => x_notT (i0.go h)⟩
end
theorem range_gd {α : Type} (ws : List Int) (g : Int → α) : (List.range ws.length).map (fun i => g (ws.getD i 0)) = ws.map g := by
  apply List.ext_getElem
  · rw [List.length_map, List.length_range, List.length_map]
  · intro i h1 h2
    rw [List.length_map] at h2
    rw [List.getElem_map, List.getElem_map, List.getElem_range, List.getD_eq_getElem?_getD, List.getElem?_eq_getElem h2]
    rfl
section
variable {σ : L2.St} {H : Hp} {QB : Bool → Hp → Prop} {d : TT} {p : Prop} [Decidable p]
theorem x_orN (h1 : p → d σ H QB) (h2 : ¬ p → QB true H) : orQ d σ QB (!decide p) H := by
  by_cases c : p
  · rw [decide_eq_true c]; exact x_orF (h1 c)
  · rw [decide_eq_false c]; exact x_orT (h2 c)
theorem x_andN (h1 : p → QB false H) (h2 : ¬ p → d σ H QB) : andQ d σ QB (!decide p) H := by
  by_cases c : p
  · rw [decide_eq_true c]; exact x_andF (h1 c)
  · rw [decide_eq_false c]; exact x_andT (h2 c)
end
end G

set_option Elab.async false
set_option linter.all false
set_option maxRecDepth 100000
set_option maxHeartbeats 0
set_option synthInstance.maxHeartbeats 0
set_option synthInstance.maxSize 100000
namespace Law
open PySem PySem.Spec PyProof.Rows L2 Evl RZ G
def top (i : Nat) : Stmt := PySem.Challenge.pw_cartelship_k08_papers_judged.main.body.getD i (.Pass ⟨0, 0, 0, 0⟩)
structure Txt (K : PySem.W.Frag) (mg : Str → Option Value) : Prop where
  m_all : mg "all" = none
  m_bool : mg "bool" = none
  m_int : mg "int" = none
  m_isinstance : mg "isinstance" = none
  m_len : mg "len" = none
  m_list : mg "list" = none
  m_max : mg "max" = none
  m_min : mg "min" = none
  m_range : mg "range" = none
  m_str : mg "str" = none
  m_sum : mg "sum" = none
  m_tuple : mg "tuple" = none
  m_zip : mg "zip" = none


/-! ### what stands in the heap -/
local macro_rules | `(tactic| walk_at "hp0") => `(tactic| (first
  | with_reducible assumption
  | with_reducible exact upd_same))
local macro_rules | `(tactic| walk_at "ne") => `(tactic| (first
  | with_reducible assumption
  | with_reducible exact Ne.symm (by with_reducible assumption)
  | ((with_reducible refine ne_fresh (o := ?o) (by with_reducible assumption) ?_); walk_at "hp0")
  | ((with_reducible refine Ne.symm (ne_fresh (o := ?o) (by with_reducible assumption) ?_)); walk_at "hp0")
  | walk_at "neb"))
local macro_rules | `(tactic| walk_at "hp") => `(tactic| (first
  | with_reducible assumption
  | with_reducible exact upd_same
  | ((with_reducible refine Eq.trans (upd_ne ?hne) ?_); (case hne => walk_at "ne"); walk_at "hp")
  | ((with_reducible refine KB.get (by with_reducible assumption) ?hne ?_); (case hne => walk_at "ne"); walk_at "hp")
  | ((with_reducible refine ex_get (by with_reducible assumption) ?_); walk_at "hp")))
local macro_rules | `(tactic| walk_at "sq") => `(tactic| (first
  | with_reducible assumption
  | ((with_reducible refine SqL.of ?_); walk_at "hp")
  | ((with_reducible refine SqT.of ?_); walk_at "hp")
  | ((with_reducible refine ex_l (Ex.new (by with_reducible assumption)) ?_); walk_at "sq")
  | ((with_reducible refine ex_t (Ex.new (by with_reducible assumption)) ?_); walk_at "sq")
  | ((with_reducible refine sqL_upd ?hne ?_); (case hne => walk_at "ne"); walk_at "sq")
  | ((with_reducible refine sqT_upd ?hne ?_); (case hne => walk_at "ne"); walk_at "sq")
  | ((with_reducible refine KB.sqL (by with_reducible assumption) ?_ ?hne); (case hne => walk_at "ne"); walk_at "sq")
  | ((with_reducible refine KB.sqT (by with_reducible assumption) ?_ ?hne); (case hne => walk_at "ne"); walk_at "sq")
  | ((with_reducible refine ex_l (by with_reducible assumption) ?_); walk_at "sq")
  | ((with_reducible refine ex_t (by with_reducible assumption) ?_); walk_at "sq")))
/-! ### grown heaps -/
local macro_rules | `(tactic| walk_at "ex") => `(tactic| (first
  | with_reducible assumption
  | with_reducible exact Ex.refl _
  | ((with_reducible refine Ex.trans ?_ (Ex.new (by with_reducible assumption))); walk_at "ex")
  | ((with_reducible refine Ex.mut ?_ (by with_reducible assumption)); walk_at "ex")
  | ((with_reducible refine Ex.trans ?_ (by with_reducible assumption)); walk_at "ex")))
local macro_rules | `(tactic| walk_at "kb") => `(tactic| (first
  | with_reducible assumption
  | with_reducible exact KB.refl
  | ((with_reducible refine KB.trans ?_ KB.upd); walk_at "kb")
  | ((with_reducible refine KB.trans ?_ (KB.new (by with_reducible assumption))); walk_at "kb")
  | ((with_reducible refine KB.mut ?_ (by with_reducible assumption)); walk_at "kb")
  | ((with_reducible refine KB.trans ?_ (by with_reducible assumption)); walk_at "kb")
  | ((with_reducible refine KB.trans ?_ (KB.of_ex (by with_reducible assumption))); walk_at "kb")))
/-! ### the steps, one after another -/
local macro_rules | `(tactic| walk_at "s1") => `(tactic| (first
  | ((with_reducible refine x_mod ?hc ?_); (case hc => omega))
  | ((with_reducible refine x_pow ?hc ?_); (case hc => (show _ ∧ _ ∧ _; decide)))
  | ((with_reducible refine x_div ?hc ?hd ?_); (case hc => omega); (case hd => omega))
  | ((with_reducible refine x_mul ?h1 ?h2 ?h3 ?h4 ?_); (case h1 => omega); (case h2 => omega); (case h3 => omega); (case h4 => omega))
  | ((with_reducible refine x_lstQ ?hz ?_); (case hz => exact Nat.le_of_ble_eq_true rfl))
  | ((with_reducible refine x_tupQ ?hz ?_); (case hz => exact Nat.le_of_ble_eq_true rfl))
  | ((with_reducible refine x_ixLn (xs := ?xs) (v := ?v) ?hs ?h0 ?ha ?_); (case h0 => decide); (case hs => walk_at "sq"); (case ha => exact rfl))
  | ((with_reducible refine x_ixTn (xs := ?xs) (v := ?v) ?hs ?h0 ?ha ?_); (case h0 => decide); (case hs => walk_at "sq"); (case ha => exact rfl))
  | ((with_reducible refine x_lenL (xs := ?xs) ?hs ?_); (case hs => walk_at "sq"))
  | ((with_reducible refine x_lenT (xs := ?xs) ?hs ?_); (case hs => walk_at "sq"))
  | ((with_reducible refine x_setLn (xs := ?xs) ?hs ?h0 ?ha ?_); (case h0 => decide); (case hs => walk_at "hp"); (case ha => exact rfl))
  | ((with_reducible refine x_listL (xs := ?xs) ?hs ?_); (case hs => walk_at "sq"))
  | ((with_reducible refine x_bmL (xs := ?xs) ?hs ?_); (case hs => walk_at "sq"))
  | ((with_reducible refine x_bm0L (xs := ?xs) ?hs ?_); (case hs => walk_at "sq"))
  | ((with_reducible refine x_gTup (xs := ?xs) ?hs ?hn ?_); (case hs => walk_at "sq"); (case hn => exact rfl))
  | ((with_reducible refine x_asgT (xs := ?xs) ?hs ?hn ?_); (case hs => walk_at "sq"); (case hn => exact rfl))
  | ((with_reducible refine x_lcTg ?hw ?_); (case hw => exact rfl))))
local macro_rules | `(tactic| walk_at "sx") => `(tactic| ((refine run ?_); (repeat (walk_at "s1"; (refine run ?_)))))

/-! ### the box of the script's draws -/
abbrev s__law_mixed : Stmt := top 8
abbrev N__law_mixed : List Str := ["_law_number", "_law_turn", "_law_one"]
theorem sc__law_mixed : FnScope N__law_mixed ["_law_number", "_law_turn"] (defScope s__law_mixed) := ⟨rfl, rfl, rfl, by decide +kernel, rfl, by decide +kernel, by decide +kernel⟩
abbrev s__law_take : Stmt := top 9
abbrev N__law_take : List Str := ["_law_box_here", "_law_size", "_law_left", "_law_cell"]
theorem sc__law_take : FnScope N__law_take ["_law_box_here", "_law_size"] (defScope s__law_take) := ⟨rfl, rfl, rfl, by decide +kernel, rfl, by decide +kernel, by decide +kernel⟩
abbrev s__law_box : Stmt := top 7
abbrev N__law_box : List Str := ["_law_script", "_law_seed", "_law_cell"]
theorem sc__law_box : FnScope N__law_box ["_law_script"] (defScope s__law_box) := ⟨rfl, rfl, rfl, by decide +kernel, rfl, by decide +kernel, by decide +kernel⟩

def spMixed : Sp := fun vs H Q _ => ∃ n t : Int, vs = [.int n, .int t] ∧ Builtin.Int.intBits n ≤ 1048576 ∧ 0 ≤ t ∧ t ≤ 2 ^ 61 ∧ ∀ r : Int, Q (.int r) H
/-- the box at b: the script's copy at l, the next place, what is left of a cell, how often it was asked (at most n times), the seed -/
structure BoxAt (H : Hp) (b l : Addr) (n : Nat) : Prop where
  ex : ∃ (i k t s : Int) (ns : List Int), H b = some (.lst [.ref l, .int i, .int k, .int t, .int s]) ∧ H l = some (.lst (ns.map V.int)) ∧ l ≠ b ∧ (∀ z ∈ ns, Builtin.Int.intBits z ≤ 1048576) ∧ 0 ≤ i ∧ 0 ≤ t ∧ t ≤ (n : Int) ∧ 0 ≤ s ∧ s < 2147483647
theorem BoxAt.some {H : Hp} {b l : Addr} {n : Nat} (h : BoxAt H b l n) : ∃ o, H b = some o := by
  obtain ⟨_, _, _, _, _, e, _⟩ := h.ex
  exact ⟨_, e⟩
theorem BoxAt.mono {H : Hp} {b l : Addr} {n m : Nat} (h : BoxAt H b l n) (hm : n ≤ m) : BoxAt H b l m := by
  obtain ⟨i, k, t, s, ns, e1, e2, e3, e4, e5, e6, e7, e8⟩ := h.ex
  exact ⟨i, k, t, s, ns, e1, e2, e3, e4, e5, e6, by omega, e8⟩
theorem BoxAt.ex' {H H' : Hp} {b l : Addr} {n : Nat} (h : BoxAt H b l n) (e : Ex H H') : BoxAt H' b l n := by
  obtain ⟨i, k, t, s, ns, e1, e2, e3⟩ := h.ex
  exact ⟨i, k, t, s, ns, e _ _ e1, e _ _ e2, e3⟩
theorem BoxAt.exr {H H' : Hp} {b l : Addr} {n : Nat} (e : Ex H H') (h : BoxAt H b l n) : BoxAt H' b l n := h.ex' e
theorem BoxAt.upd {H : Hp} {b l p : Addr} {n : Nat} {o : HO} (h : BoxAt H b l n) (h1 : p ≠ b) (h2 : p ≠ l) : BoxAt (L2.upd H p o) b l n := by
  obtain ⟨i, k, t, s, ns, e1, e2, e3⟩ := h.ex
  exact ⟨i, k, t, s, ns, by rw [upd_ne h1.symm]; exact e1, by rw [upd_ne h2.symm]; exact e2, e3⟩
theorem BoxAt.ne1 {H : Hp} {b l p : Addr} {n : Nat} (hp : H p = none) (h : BoxAt H b l n) : p ≠ b := by
  obtain ⟨_, _, _, _, _, e, _⟩ := h.ex
  exact ne_fresh hp e
theorem BoxAt.ne2 {H : Hp} {b l p : Addr} {n : Nat} (hp : H p = none) (h : BoxAt H b l n) : p ≠ l := by
  obtain ⟨_, _, _, _, _, _, e, _⟩ := h.ex
  exact ne_fresh hp e
def spTake : Sp := fun vs H Q _ => ∃ (b l : Addr) (z : Int) (n : Nat), vs = [.ref b, .int z] ∧ 0 < z ∧ z < 2 ^ 64 ∧ BoxAt H b l n ∧ n ≤ 2 ^ 60 ∧
  ∀ (r : Int) (H' : Hp), 0 ≤ r → r < z → KB b H H' → BoxAt H' b l (n + 1) → Q (.int r) H'
def spBox (K : PySem.W.Frag) : Sp := fun vs H Q _ => ∃ (a : Addr) (ns : List Int), vs = [.ref a] ∧ SqL K H a (ns.map V.int) ∧ (∀ z ∈ ns, Builtin.Int.intBits z ≤ 1048576) ∧
  ∀ (b l : Addr) (H' : Hp), H b = none → H l = none → Ex H H' → BoxAt H' b l 0 → Q (.ref b) H'
section
variable {P : Program} {w : World} {K : PySem.W.Frag} {mg : Str → Option Value} {base : Heap}
theorem D_mixed (F : Df K mg "_law_mixed" s__law_mixed) : Dn P w K mg base CX0 1 "_law_mixed" ["_law_number", "_law_turn"] spMixed := by
  refine F.dn sc__law_mixed (fun _ _ _ _ _ _ us hl => match us, hl with | [_, _], _ => rfl) (fun vs H Q E h => ?_) (fun f cdv A outer s H vs Q E hr hK h => ?_)
  · obtain ⟨n, t, rfl, _⟩ := h
    rfl
  · obtain ⟨n, t, rfl, hn, ht, ht2, k⟩ := h
    refine ⟨_, (pss_cons (ps_set (i := 2) sc__law_mixed.nd rfl (Or.inl rfl) (pe_op op_mod (pe_op op_add (pe_op op_add (pe_op op_mulB (pv 0) pe_int) (pe_op op_mulB (pv 1) pe_int)) pe_int) pe_int))
      (pss_one (ps_ret (pe_op op_fdivW (pe_op op_mod (pe_op op_add (pe_op op_add (pe_op op_mulB (pv 2) (pe_op op_add (pe_op op_mod (pv 2) pe_int) pe_int)) (pe_op op_mulB (pv 1) pe_int)) (pe_op op_mod (pe_op op_fdivW (pv 0) pe_int) pe_int)) pe_int) pe_int)))), ?_⟩
    try rw [hK]
    rw [show L2.start N__law_mixed [.int n, .int t] = [some (.int n), some (.int t), none] from rfl]
    walk_at "sx"
    refine x_mulB (by unfold CMulX; have e : Builtin.Int.intBits 7919 = 13 := by decide
                      omega) ?_
    walk_at "sx"
    have h1 : 0 ≤ (n * 7919 + t * 104729 + 17) % 2147483647 := by omega
    have h2 : (n * 7919 + t * 104729 + 17) % 2147483647 < 2147483647 := by omega
    generalize (n * 7919 + t * 104729 + 17) % 2147483647 = m at h1 h2 ⊢
    walk_at "sx"
    exact k _
theorem D_take (T : Txt K mg) (D__law_mixed : Dn P w K mg base CX0 1 "_law_mixed" ["_law_number", "_law_turn"] spMixed) (F : Df K mg "_law_take" s__law_take) : Dn P w K mg base CX0 2 "_law_take" ["_law_box_here", "_law_size"] spTake := by
  refine F.dn sc__law_take (fun _ _ _ _ _ _ us hl => match us, hl with | [_, _], _ => rfl) (fun vs H Q E h => ?_) (fun f cdv A outer s H vs Q E hr hK h => ?_)
  · obtain ⟨b, l, z, n, rfl, _⟩ := h
    rfl
  · obtain ⟨b, l, z, n, rfl, hz, hz2, B, hn, q⟩ := h
    obtain ⟨i, k, t, s, ns, hb, hl, hlb, hbits, hi, ht, htn, hs0, hs1⟩ := B.ex
    refine ⟨_, (pss_cons (ps_asg (pe_op op_add (pe_ix ix_list (pv 0) pe_int (fun _ _ => rfl)) pe_int) (pg_sub (pv 0) pe_int set_list))
      (pss_cons (ps_if (pt_cmpR op_gt (pe_ix ix_list (pv 0) pe_int (fun _ _ => rfl)) pe_int (nomark _)) (pss_cons (ps_set (i := 2) sc__law_take.nd rfl (Or.inl rfl) (pe_ix ix_list (pv 0) pe_int (fun _ _ => rfl)))
      (pss_cons (ps_asg (pe_op op_fdivW (pv 2) (pv 1)) (pg_sub (pv 0) pe_int set_list))
      (pss_one (ps_ret (pe_op op_mod (pv 2) (pv 1)))))) pss_nil)
      (pss_cons (ps_if (pt_cmpR op_ge (pe_ix ix_list (pv 0) pe_int (fun _ _ => rfl)) (pe_callB g_len rfl T.m_len boot_len (pa_cons (pe_ix ix_list (pv 0) pe_int (fun _ _ => rfl)) pa_nil)) (nomark _)) (pss_one (ps_ret (pe_op op_mod (pe_dn D__law_mixed (hr.mono (by first | decide | omega)) pass0 (pa_cons (pe_ix ix_list (pv 0) pe_int (fun _ _ => rfl)) (pa_cons (pe_ix ix_list (pv 0) pe_int (fun _ _ => rfl)) pa_nil))) (pv 1)))) pss_nil)
      (pss_cons (ps_set (i := 3) sc__law_take.nd rfl (Or.inl rfl) (pe_ix ix_list (pe_ix ix_list (pv 0) pe_int (fun _ _ => rfl)) (pe_ix ix_list (pv 0) pe_int (fun _ _ => rfl)) (fun _ _ => rfl)))
      (pss_cons (ps_asg (pe_op op_add (pe_ix ix_list (pv 0) pe_int (fun _ _ => rfl)) pe_int) (pg_sub (pv 0) pe_int set_list))
      (pss_cons (ps_if (pt_cmpR op_lt (pv 3) (pe_op op_pow pe_int pe_int) (nomark _)) (pss_one (ps_ret (pe_op op_mod (pe_dn D__law_mixed (hr.mono (by first | decide | omega)) pass0 (pa_cons (pv 3) (pa_cons (pe_ix ix_list (pv 0) pe_int (fun _ _ => rfl)) pa_nil))) (pv 1)))) pss_nil)
      (pss_cons (ps_asg (pe_op op_fdivW (pv 3) (pv 1)) (pg_sub (pv 0) pe_int set_list))
      (pss_one (ps_ret (pe_op op_mod (pv 3) (pv 1))))))))))), ?_⟩
    try rw [hK]
    rw [show L2.start N__law_take [.ref b, .int z] = [some (.ref b), some (.int z), none, none] from rfl]
    walk_at "sx"
    have fin : ∀ (r i' k' : Int) (H' : Hp), 0 ≤ i' → H' b = some (.lst [.ref l, .int i', .int k', .int (t + 1), .int s]) → KB b H H' → Q (.int (r % z)) H' := fun r i' k' H' hi' e kb =>
      q _ _ (Int.emod_nonneg _ (by omega)) (Int.emod_lt_of_pos _ hz) kb ⟨i', k', t + 1, s, ns, e, kb.get hlb hl, hlb, hbits, hi', by omega, by omega, hs0, hs1⟩
    have hs := bits_of (i := s) (by omega) (by omega)
    refine x_ifQ (fun c => ?_) (fun _ => ?_)
    · walk_at "sx"
      exact fin _ i _ _ hi upd_same (KB.trans KB.upd KB.upd)
    · walk_at "sx"
      refine x_ifQ (fun c => ?_) (fun c => ?_)
      · walk_at "sx"
        refine ⟨_, _, rfl, hs, by omega, by omega, fun r => ?_⟩
        walk_at "sx"
        exact fin _ i k _ hi upd_same KB.upd
      · walk_at "sx"
        have c2 := of_decide_eq_false c
        rw [List.length_map] at c2
        have hlt : i.toNat < ns.length := by omega
        have hat : atI (ns.map V.int) i = some (.int ns[i.toNat]) := at_of (j := i.toNat) (by omega) (by rw [List.getElem?_map, List.getElem?_eq_getElem hlt]; rfl)
        refine x_ixL (by walk_at "sq") hat ?_
        walk_at "sx"
        refine x_ifQ (fun _ => ?_) (fun _ => ?_)
        · walk_at "sx"
          refine ⟨_, _, rfl, hbits _ (List.getElem_mem hlt), by omega, by omega, fun r => ?_⟩
          walk_at "sx"
          exact fin _ (i + 1) k _ (by omega) upd_same (KB.trans KB.upd KB.upd)
        · walk_at "sx"
          exact fin _ (i + 1) _ _ (by omega) upd_same (KB.trans KB.upd (KB.trans KB.upd KB.upd))
theorem D_box (T : Txt K mg) (F : Df K mg "_law_box" s__law_box) : Dn P w K mg base CX0 1 "_law_box" ["_law_script"] (spBox K) := by
  refine F.dn sc__law_box (fun _ _ _ _ _ _ us hl => match us, hl with | [_], _ => rfl) (fun vs H Q E h => ?_) (fun f cdv A outer s H vs Q E hr hK h => ?_)
  · obtain ⟨a, ns, rfl, _⟩ := h
    rfl
  · obtain ⟨a, ns, rfl, hS, hb, q⟩ := h
    refine ⟨_, (pss_cons (ps_set (i := 1) sc__law_box.nd rfl (Or.inl rfl) pe_int)
      (pss_cons (ps_for PassesOwn.never rfl (pi_list (pv 0)) (pg_name (i := 2) sc__law_box.nd rfl (Or.inl rfl)) (pss_one (ps_set (i := 1) sc__law_box.nd rfl (Or.inl rfl) (pe_op op_mod (pe_op op_add (pe_op op_add (pe_op op_mulB (pv 1) pe_int) (pe_op op_mod (pv 2) pe_int)) pe_int) pe_int))))
      (pss_one (ps_ret (pe_lst (pa_cons (pe_callTy g_list rfl T.m_list boot_list (pa_cons (pv 0) pa_nil)) (pa_cons pe_int (pa_cons pe_int (pa_cons pe_int (pa_cons (pv 1) pa_nil)))))))))), ?_⟩
    try rw [hK]
    rw [show L2.start N__law_box [.ref a] = [some (.ref a), none, none] from rfl]
    walk_at "sx"
    refine x_iLQ hS ?_
    refine x_forQ walk_list (fun i σ H' => H' = H ∧ ∃ (z : Int) (v : Option V), σ = [some (.ref a), some (.int z), v] ∧ 0 ≤ z ∧ z < 2147483647) ⟨rfl, 7, none, rfl, by decide, by decide⟩ (fun i σ H' _ p => by rw [p.1]; exact hS) ?_ ?_
    · rintro i x σ H1 H2 hi ⟨rfl, z, v, rfl, hz0, hz1⟩ ⟨rfl, hx⟩
      obtain ⟨u, rfl⟩ : ∃ u, x = V.int u := by
        rw [List.getElem?_map] at hx
        cases e : ns[i]? with
        | none => rw [e] at hx; cases hx
        | some u => rw [e] at hx; exact ⟨u, (Option.some.inj hx).symm⟩
      walk_at "sx"
      exact ⟨rfl, _, _, rfl, by omega, by omega⟩
    · rintro σ H' ⟨rfl, z, v, rfl, hz0, hz1⟩
      walk_at "sx"
      intro l hl
      walk_at "sx"
      intro b hb'
      have hbl : l ≠ b := ne_of_none upd_same hb'
      exact q b l _ (Same.free (Ex.new hl) hb') hl ((Ex.new hl).trans (Ex.new hb')) ⟨0, 0, 0, z, ns, upd_same, by rw [upd_ne hbl]; exact upd_same, hbl, hb, by decide, by decide, by decide, hz0, hz1⟩
end

theorem x_take {H : Hp} {Q : VK} {E : XK} {b l : Addr} {z : Int} {n : Nat} (B : BoxAt H b l n) (hz : 0 < z) (hz2 : z < 2 ^ 64) (hn : n ≤ 2 ^ 60) (k : ∀ (r : Int) (H' : Hp), 0 ≤ r → r < z → KB b H H' → BoxAt H' b l (n + 1) → Q (.int r) H') : spTake [.ref b, .int z] H Q E :=
  ⟨b, l, z, n, rfl, hz, hz2, B, hn, k⟩

local macro_rules | `(tactic| walk_at "box") => `(tactic| (with_reducible assumption))
local macro_rules | `(tactic| walk_at "neb") => `(tactic| (first
  | with_reducible exact BoxAt.ne1 (by with_reducible assumption) (by with_reducible assumption)
  | with_reducible exact BoxAt.ne2 (by with_reducible assumption) (by with_reducible assumption)
  | with_reducible exact Ne.symm (BoxAt.ne1 (by with_reducible assumption) (by with_reducible assumption))
  | with_reducible exact Ne.symm (BoxAt.ne2 (by with_reducible assumption) (by with_reducible assumption))))

/-! ### _law_whole -/
abbrev s__law_whole : Stmt := top 10
abbrev N__law_whole : List Str := ["_law_found"]
theorem sc__law_whole : FnScope N__law_whole ["_law_found"] (defScope s__law_whole) := ⟨rfl, rfl, rfl, by decide +kernel, rfl, by decide +kernel, by decide +kernel⟩

def isIntD : PyData → Bool
  | .int _ => true
  | _ => false
def spWhole (K : PySem.W.Frag) : Sp := fun vs H Q _ => ∃ (x : V) (d : PyData), vs = [x] ∧ Dp K H x d ∧ Q (.bl (isIntD d)) H
theorem kit_n {K : PySem.W.Frag} {a T : String} {b : Bool} (h : kitB a T = some b) : PySem.W.kitOne K (.type a) (.type T) = some b := kit_ty h
section
variable {P : Program} {w : World} {K : PySem.W.Frag} {mg : Str → Option Value} {base : Heap}
theorem D_whole (T : Txt K mg) (F : Df K mg "_law_whole" s__law_whole) : Dn P w K mg base CX0 1 "_law_whole" ["_law_found"] (spWhole K) := by
  refine F.dn sc__law_whole (fun _ _ _ _ _ _ us hl => match us, hl with | [_], _ => rfl) (fun vs H Q E h => ?_) (fun f cdv A outer s H vs Q E hr hK h => ?_)
  · obtain ⟨x, d, rfl, _⟩ := h
    rfl
  · obtain ⟨x, d, rfl, hx, k⟩ := h
    refine ⟨_, (pss_one (ps_ret (pe_and (pe_callB call_isi rfl T.m_isinstance boot_isinstance (pa_cons (pv 0) (pa_cons (pe_bltn rfl T.m_int (v := .ty "int") boot_int rfl) pa_nil))) (pe_one (pe_not (pe_callB call_isi rfl T.m_isinstance boot_isinstance (pa_cons (pv 0) (pa_cons (pe_bltn rfl T.m_bool (v := .ty "bool") boot_bool rfl) pa_nil)))))))), ?_⟩
    try rw [hK]
    rw [show L2.start N__law_whole [x] = [some (x)] from rfl]
    have ty := ty_dp hx
    have two : ∀ b1 b2 : Bool, kitB (kindD d) "int" = some b1 → kitB (kindD d) "bool" = some b2 → Q (.bl (if b1 = true then !b2 else false)) H → tRet (tAndV (tCB (rIsi K) (tCons (tVar 0) (tCons (tC (V.ty "int")) tNil))) (tNotV (tCB (rIsi K) (tCons (tVar 0) (tCons (tC (V.ty "bool")) tNil))))) { nx := fun _ H' => Q .non H', rt := Q } [some x] H := fun b1 b2 h1 h2 q => by
      walk_at "sx"
      refine x_isi ty (kit_n h1) ?_
      refine x_andVQ (fun c => ?_) (fun c => ?_)
      · subst c
        walk_at "sx"
        refine x_isi ty (kit_n h2) ?_
        walk_at "sx"
        exact q
      · subst c
        exact q
    cases d with
    | none => exact two false false (show kitB "NoneType" "int" = some false by decide +kernel) (show kitB "NoneType" "bool" = some false by decide +kernel) k
    | bool b => exact two true true (show kitB "bool" "int" = some true by decide +kernel) (show kitB "bool" "bool" = some true by decide +kernel) k
    | int i => exact two true false (show kitB "int" "int" = some true by decide +kernel) (show kitB "int" "bool" = some false by decide +kernel) k
    | str z => exact two false false (show kitB "str" "int" = some false by decide +kernel) (show kitB "str" "bool" = some false by decide +kernel) k
    | list ds => exact two false false (show kitB "list" "int" = some false by decide +kernel) (show kitB "list" "bool" = some false by decide +kernel) k
    | tuple ds => exact two false false (show kitB "tuple" "int" = some false by decide +kernel) (show kitB "tuple" "bool" = some false by decide +kernel) k
    | dict ds => cases hx
end

/-! ### _law_alike -/
abbrev s__law_alike : Stmt := top 11
abbrev N__law_alike : List Str := ["_law_found", "_law_due", "_law_one", "_law_other"]
theorem sc__law_alike : FnScope N__law_alike ["_law_found", "_law_due"] (defScope s__law_alike) := ⟨rfl, rfl, rfl, by decide +kernel, rfl, by decide +kernel, by decide +kernel⟩

/-- both are the same data, of a depth below n: True -/
def spAlike (K : PySem.W.Frag) (n : Nat) : Sp := fun vs H Q _ => ∃ (x y : V) (d : PyData), vs = [x, y] ∧ Dp K H x d ∧ Dp K H y d ∧ OkD n d ∧ n ≤ 60 ∧ ∀ H', Ex H H' → Q (.bl true) H'
section
variable {P : Program} {w : World} {K : PySem.W.Frag} {mg : Str → Option Value} {base : Heap}
theorem D_alike (T : Txt K mg) (D__law_whole : Dn P w K mg base CX0 1 "_law_whole" ["_law_found"] (spWhole K)) (F : Df K mg "_law_alike" s__law_alike) :
    ∀ n : Nat, Dn P w K mg base CX0 (n + 2) "_law_alike" ["_law_found", "_law_due"] (spAlike K n)
  | 0 => F.none (fun _ _ _ _ _ _ us hl => match us, hl with | [_, _], _ => rfl) fun vs H Q E h => by
    obtain ⟨x, y, d, _, _, _, h, _⟩ := h
    cases h
  | n + 1 => by
    have D__law_alike := D_alike T D__law_whole F n
    refine F.dn sc__law_alike (fun _ _ _ _ _ _ us hl => match us, hl with | [_, _], _ => rfl) (fun vs H Q E h => ?_) (fun f cdv A outer s H vs Q E hr hK h => ?_)
    · obtain ⟨x, y, d, rfl, _⟩ := h
      rfl
    · obtain ⟨x, y, d, rfl, hx, hy, ho, hn, k⟩ := h
      have hs := ho.shaped (by omega)
      have k0 : Q (.bl true) H := k H (Ex.refl H)
      refine ⟨_, (pss_cons (ps_if (pt_cmpR g_isN (pv 1) pe_non (nomark _)) (pss_one (ps_ret (pe_cmpR g_isN (pv 0) pe_non (nomark _)))) pss_nil)
      (pss_cons (ps_if (pt_val (pe_callB call_isi rfl T.m_isinstance boot_isinstance (pa_cons (pv 1) (pa_cons (pe_bltn rfl T.m_bool (v := .ty "bool") boot_bool rfl) pa_nil)))) (pss_one (ps_ret (pe_and (pe_callB call_isi rfl T.m_isinstance boot_isinstance (pa_cons (pv 0) (pa_cons (pe_bltn rfl T.m_bool (v := .ty "bool") boot_bool rfl) pa_nil))) (pe_one (pe_cmpR (op_eqD hr.units) (pv 0) (pv 1) (nomark _)))))) pss_nil)
      (pss_cons (ps_if (pt_val (pe_callB call_isi rfl T.m_isinstance boot_isinstance (pa_cons (pv 1) (pa_cons (pe_bltn rfl T.m_int (v := .ty "int") boot_int rfl) pa_nil)))) (pss_one (ps_ret (pe_and (pe_dn D__law_whole (hr.mono (by first | decide | omega)) pass0 (pa_cons (pv 0) pa_nil)) (pe_one (pe_cmpR (op_eqD hr.units) (pv 0) (pv 1) (nomark _)))))) pss_nil)
      (pss_cons (ps_if (pt_val (pe_callB call_isi rfl T.m_isinstance boot_isinstance (pa_cons (pv 1) (pa_cons (pe_bltn rfl T.m_str (v := .ty "str") boot_str rfl) pa_nil)))) (pss_one (ps_ret (pe_and (pe_callB call_isi rfl T.m_isinstance boot_isinstance (pa_cons (pv 0) (pa_cons (pe_bltn rfl T.m_str (v := .ty "str") boot_str rfl) pa_nil))) (pe_one (pe_cmpR (op_eqD hr.units) (pv 0) (pv 1) (nomark _)))))) pss_nil)
      (pss_cons (ps_if (PW.pt (pw_or (pt_cmpR op_ne (pe_callB call_isi rfl T.m_isinstance boot_isinstance (pa_cons (pv 1) (pa_cons (pe_bltn rfl T.m_list (v := .ty "list") boot_list rfl) pa_nil))) (pe_callB call_isi rfl T.m_isinstance boot_isinstance (pa_cons (pv 0) (pa_cons (pe_bltn rfl T.m_list (v := .ty "list") boot_list rfl) pa_nil))) (nomark _)) (pw_or1 (pt_cmpR op_ne (pe_callB call_isi rfl T.m_isinstance boot_isinstance (pa_cons (pv 1) (pa_cons (pe_bltn rfl T.m_tuple (v := .ty "tuple") boot_tuple rfl) pa_nil))) (pe_callB call_isi rfl T.m_isinstance boot_isinstance (pa_cons (pv 0) (pa_cons (pe_bltn rfl T.m_tuple (v := .ty "tuple") boot_tuple rfl) pa_nil))) (nomark _))))) (pss_one (ps_ret pe_bl)) pss_nil)
      (pss_one (ps_ret (pe_and (pe_cmpR op_eq (pe_callB g_len rfl T.m_len boot_len (pa_cons (pv 0) pa_nil)) (pe_callB g_len rfl T.m_len boot_len (pa_cons (pv 1) pa_nil)) (nomark _)) (pe_one (pe_callB (cr_all rfl) rfl T.m_all boot_all (pa_cons (pe_lc (own := [("_law_one", 2), ("_law_other", 3)]) (g := gTup K 2 (gCons (gName 2) (gCons (gName 3) (gNil)))) (tt := tYes) rfl sc__law_alike.nd (pi_zipA rfl T.m_zip (pa_cons (pv 0) (pa_cons (pv 1) pa_nil))) (blkOk_by (own := [("_law_one", 2), ("_law_other", 3)]) (N := N__law_alike) (sc := defScope s__law_alike) (by decide +kernel)) (fun _ _ _ _ _ => pg_tup rfl (pgs_cons (pg_name (i := 2) sc__law_alike.nd rfl (Or.inl rfl)) (pgs_cons (pg_name (i := 3) sc__law_alike.nd rfl (Or.inl rfl)) pgs_nil))) (fun _ _ _ _ _ => pts_nil) (fun _ _ _ _ _ => (pe_dn D__law_alike (hr.mono (by first | decide | omega)) pass0 (pa_cons (pv 2) (pa_cons (pv 3) pa_nil))))) pa_nil))))))))))), ?_⟩
      try rw [hK]
      rw [show L2.start N__law_alike [x, y] = [some (x), some (y), none, none] from rfl]
      have tx := ty_dp hx
      have ty := ty_dp hy
      walk_at "sx"
      cases d with
      | none =>
        cases hx; cases hy
        walk_at "sx"
        exact k0
      | bool b =>
        cases hx; cases hy
        have tx : TyX K H _ (.type "bool") := tx
        have ty : TyX K H _ (.type "bool") := ty
        walk_at "sx"
        refine x_isi ty (b := true) (kit_n (by decide +kernel)) ?_
        walk_at "sx"
        refine x_isi tx (b := true) (kit_n (by decide +kernel)) ?_
        walk_at "sx"
        exact x_eqSame (.bl b) (.bl b) hs k0
      | int i =>
        cases hx; cases hy
        have tx : TyX K H _ (.type "int") := tx
        have ty : TyX K H _ (.type "int") := ty
        walk_at "sx"
        refine x_isi ty (b := false) (kit_n (by decide +kernel)) ?_
        walk_at "sx"
        refine x_isi ty (b := true) (kit_n (by decide +kernel)) ?_
        walk_at "sx"
        refine ⟨_, .int i, rfl, .int i, ?_⟩
        refine x_andVT ?_
        walk_at "sx"
        exact x_eqSame (.int i) (.int i) hs k0
      | str z =>
        cases hx; cases hy
        have tx : TyX K H _ (.type "str") := tx
        have ty : TyX K H _ (.type "str") := ty
        walk_at "sx"
        refine x_isi ty (b := false) (kit_n (by decide +kernel)) ?_
        walk_at "sx"
        refine x_isi ty (b := false) (kit_n (by decide +kernel)) ?_
        walk_at "sx"
        refine x_isi ty (b := true) (kit_n (by decide +kernel)) ?_
        walk_at "sx"
        refine x_isi tx (b := true) (kit_n (by decide +kernel)) ?_
        walk_at "sx"
        exact x_eqSame (.str z) (.str z) hs k0
      | list ds =>
        have tx : TyX K H _ (.type "list") := tx
        have ty : TyX K H _ (.type "list") := ty
        cases hx with
        | lst sx ax =>
        cases hy with
        | lst sy ay =>
        have lx := dpAll_len ax
        have ly := dpAll_len ay
        obtain ⟨hlen, sh⟩ : ds.length ≤ 100000 ∧ ∀ d ∈ ds, OkD n d := by
          cases ho with
          | list h1 h2 => exact ⟨h1, h2⟩
        walk_at "sx"
        refine x_isi ty (b := false) (kit_n (by decide +kernel)) ?_
        walk_at "sx"
        refine x_isi ty (b := false) (kit_n (by decide +kernel)) ?_
        walk_at "sx"
        refine x_isi ty (b := false) (kit_n (by decide +kernel)) ?_
        walk_at "sx"
        refine x_isi ty (b := true) (kit_n (by decide +kernel)) ?_
        walk_at "sx"
        refine x_isi tx (b := true) (kit_n (by decide +kernel)) ?_
        walk_at "sx"
        refine x_isi ty (b := false) (kit_n (by decide +kernel)) ?_
        walk_at "sx"
        refine x_isi tx (b := false) (kit_n (by decide +kernel)) ?_
        walk_at "sx"
        refine x_andVD (fun _ => ?_) (fun c => absurd (by rw [lx, ly]) c)
        walk_at "sx"
        refine x_iZAL sx sy ?_
        refine x_lcMap (walk_zip rfl) (fun _ => V.bl true) ?hz (fun H' e => ⟨ex_l e sx, ex_l e sy⟩) ?turn ?grow ?done
        case hz => exact sz_of (by omega)
        case turn =>
          rintro D i x H1 H2 Nx hi e1 ⟨p, a, b, rfl, hp, rfl, ha, hb⟩ kk
          walk_at "sx"
          obtain ⟨da, ea, pa⟩ := dpAll_get ax ha
          obtain ⟨db, eb, pb⟩ := dpAll_get ay hb
          rw [ea] at eb
          cases eb
          have e2 : Ex H (upd H1 p (.tup [a, b])) := e1.trans (Ex.new hp)
          refine ⟨a, b, da, rfl, dp_ex e2 pa, dp_ex e2 pb, sh _ (List.mem_of_getElem? ea), by omega, fun H3 e3 => ?_⟩
          exact kk H3 e3
        case grow =>
          rintro i x H1 H2 hi e1 ⟨p, a, b, rfl, hp, rfl, ha, hb⟩
          exact Ex.new hp
        case done =>
          intro D H' hD e hl
          walk_at "sx"
          refine x_allMap (g := fun _ => true) hl ?_
          have e0 : ∀ m : Nat, (List.range m).all (fun _ => true) = true := fun m => by simp
          rw [e0]
          exact k H' e
      | tuple ds =>
        have tx : TyX K H _ (.type "tuple") := tx
        have ty : TyX K H _ (.type "tuple") := ty
        cases hx with
        | tup sx ax =>
        cases hy with
        | tup sy ay =>
        have lx := dpAll_len ax
        have ly := dpAll_len ay
        obtain ⟨hlen, sh⟩ : ds.length ≤ 100000 ∧ ∀ d ∈ ds, OkD n d := by
          cases ho with
          | tuple h1 h2 => exact ⟨h1, h2⟩
        walk_at "sx"
        refine x_isi ty (b := false) (kit_n (by decide +kernel)) ?_
        walk_at "sx"
        refine x_isi ty (b := false) (kit_n (by decide +kernel)) ?_
        walk_at "sx"
        refine x_isi ty (b := false) (kit_n (by decide +kernel)) ?_
        walk_at "sx"
        refine x_isi ty (b := false) (kit_n (by decide +kernel)) ?_
        walk_at "sx"
        refine x_isi tx (b := false) (kit_n (by decide +kernel)) ?_
        walk_at "sx"
        refine x_isi ty (b := true) (kit_n (by decide +kernel)) ?_
        walk_at "sx"
        refine x_isi tx (b := true) (kit_n (by decide +kernel)) ?_
        walk_at "sx"
        refine x_andVD (fun _ => ?_) (fun c => absurd (by rw [lx, ly]) c)
        walk_at "sx"
        refine x_iZAT sx sy ?_
        refine x_lcMap (walk_zipT rfl) (fun _ => V.bl true) ?hz (fun H' e => ⟨ex_t e sx, ex_t e sy⟩) ?turn ?grow ?done
        case hz => exact sz_of (by omega)
        case turn =>
          rintro D i x H1 H2 Nx hi e1 ⟨p, a, b, rfl, hp, rfl, ha, hb⟩ kk
          walk_at "sx"
          obtain ⟨da, ea, pa⟩ := dpAll_get ax ha
          obtain ⟨db, eb, pb⟩ := dpAll_get ay hb
          rw [ea] at eb
          cases eb
          have e2 : Ex H (upd H1 p (.tup [a, b])) := e1.trans (Ex.new hp)
          refine ⟨a, b, da, rfl, dp_ex e2 pa, dp_ex e2 pb, sh _ (List.mem_of_getElem? ea), by omega, fun H3 e3 => ?_⟩
          exact kk H3 e3
        case grow =>
          rintro i x H1 H2 hi e1 ⟨p, a, b, rfl, hp, rfl, ha, hb⟩
          exact Ex.new hp
        case done =>
          intro D H' hD e hl
          walk_at "sx"
          refine x_allMap (g := fun _ => true) hl ?_
          have e0 : ∀ m : Nat, (List.range m).all (fun _ => true) = true := fun m => by simp
          rw [e0]
          exact k H' e
      | dict ds => cases hx
end

/-! ### drawn tariffs -/
abbrev s__law_worths : Stmt := top 12
abbrev N__law_worths : List Str := ["_law_box_here", "_law_ranks", "_law_found", "_law_rank", "_law_times"]
theorem sc__law_worths : FnScope N__law_worths ["_law_box_here", "_law_ranks"] (defScope s__law_worths) := ⟨rfl, rfl, rfl, by decide +kernel, rfl, by decide +kernel, by decide +kernel⟩

def spWorths : Sp := fun vs H Q _ => ∃ (b l : Addr) (r : Int) (n : Nat), vs = [.ref b, .int r] ∧ 1 ≤ r ∧ r ≤ 6 ∧ BoxAt H b l n ∧ n ≤ 2 ^ 59 ∧
  ∀ (p : Addr) (ws : List Int) (H' : Hp), H p = none → KB b H H' → BoxAt H' b l (n + 20) → H' p = some (.lst (ws.map V.int)) → Tar ws → (ws.length : Int) = r → Q (.ref p) H'
section
variable {P : Program} {w : World} {K : PySem.W.Frag} {mg : Str → Option Value} {base : Heap}
theorem D_worths (T : Txt K mg) (D__law_take : Dn P w K mg base CX0 2 "_law_take" ["_law_box_here", "_law_size"] spTake) (F : Df K mg "_law_worths" s__law_worths) : Dn P w K mg base CX0 3 "_law_worths" ["_law_box_here", "_law_ranks"] spWorths := by
  refine F.dn sc__law_worths (fun _ _ _ _ _ _ us hl => match us, hl with | [_, _], _ => rfl) (fun vs H Q E h => ?_) (fun f cdv A outer s H vs Q E hr hK h => ?_)
  · obtain ⟨b, l, r, n, rfl, _⟩ := h
    rfl
  · obtain ⟨b, l, r, n, rfl, hr1, hr6, B, hn, q⟩ := h
    refine ⟨_, (pss_cons (ps_set (i := 2) sc__law_worths.nd rfl (Or.inl rfl) (pe_lst (pa_cons (pe_op op_add pe_int (pe_dn D__law_take (hr.mono (by first | decide | omega)) pass0 (pa_cons (pv 0) (pa_cons (pe_ix ix_list (pe_lst (pa_cons pe_int (pa_cons pe_int (pa_cons pe_int (pa_cons pe_int pa_nil))))) (pe_dn D__law_take (hr.mono (by first | decide | omega)) pass0 (pa_cons (pv 0) (pa_cons pe_int pa_nil))) (fun _ _ => rfl)) pa_nil)))) pa_nil)))
      (pss_cons (ps_for PassesOwn.never rfl (pi_range2 rfl T.m_range (pa_cons pe_int (pa_cons (pv 1) pa_nil))) (pg_name (i := 3) sc__law_worths.nd rfl (Or.inl rfl)) (pss_cons (ps_set (i := 4) sc__law_worths.nd rfl (Or.inl rfl) (pe_ix ix_list (pe_lst (pa_cons pe_int (pa_cons pe_int (pa_cons pe_int (pa_cons pe_int (pa_cons (pe_op op_add pe_int (pe_dn D__law_take (hr.mono (by first | decide | omega)) pass0 (pa_cons (pv 0) (pa_cons pe_int pa_nil)))) (pa_cons (pe_op op_add pe_int (pe_dn D__law_take (hr.mono (by first | decide | omega)) pass0 (pa_cons (pv 0) (pa_cons pe_int pa_nil)))) pa_nil))))))) (pe_dn D__law_take (hr.mono (by first | decide | omega)) pass0 (pa_cons (pv 0) (pa_cons pe_int pa_nil))) (fun _ _ => rfl)))
      (pss_one (ps_expr (pe_bm PySem.F.plainAttrs_list PySem.F.slot_list_append PySem.F.type_list_append mt_append (pv 2) (pa_cons (pe_op op_mulB (pe_ix ix_list (pv 2) (pe_un un_neg pe_int) (fun _ _ => rfl)) (pe_ix ix_list (pe_lst (pa_cons pe_int (pa_cons (pv 4) pa_nil))) (pe_callTy g_int rfl T.m_int boot_int (pa_cons (pe_cmpR op_le (pe_op op_mulB (pe_ix ix_list (pv 2) (pe_un un_neg pe_int) (fun _ _ => rfl)) (pv 4)) pe_int (nomark _)) pa_nil)) (fun _ _ => rfl))) pa_nil))))))
      (pss_one (ps_ret (pv 2))))), ?_⟩
    try rw [hK]
    rw [show L2.start N__law_worths [.ref b, .int r] = [some (.ref b), some (.int r), none, none, none] from rfl]
    walk_at "sx"
    intro p1 hp1
    walk_at "sx"
    refine x_take (B.ex' (Ex.new hp1)) (by omega) (by omega) (by omega) fun r1 H1 a1 a2 kb1 B1 => ?_
    walk_at "sx"
    obtain ⟨v, hv, hm⟩ := at_mem (xs := [.int 1, .int 1, .int 3, .int 40]) a1 a2
    obtain ⟨z, rfl, z1, z2⟩ : ∃ z, v = V.int z ∧ 1 ≤ z ∧ z ≤ 40 := by
      simp only [List.mem_cons, List.not_mem_nil, or_false] at hm
      rcases hm with rfl | rfl | rfl | rfl <;> exact ⟨_, rfl, by decide, by decide⟩
    refine x_ixL (by walk_at "sq") hv ?_
    walk_at "sx"
    refine x_take B1 (by omega) (by omega) (by omega) fun r2 H2 b1 b2 kb2 B2 => ?_
    walk_at "sx"
    intro p hp
    have npb := BoxAt.ne1 hp B2
    have npl := BoxAt.ne2 hp B2
    have kbH : KB b H H2 := by walk_at "kb"
    have fp := kbH.fresh B2.some hp
    walk_at "sx"
    refine x_iR2Q (by omega) ?_
    refine x_forQ walk_range (fun i σ H' => KB b H H' ∧ BoxAt H' b l (n + 2 + 3 * i) ∧ ∃ (ws : List Int) (x : Int) (v3 v4 : Option V), σ = [some (.ref b), some (.int r), some (.ref p), v3, v4] ∧ H' p = some (.lst ((ws ++ [x]).map V.int)) ∧ Tar (ws ++ [x]) ∧ (ws ++ [x]).length = i + 1)
      ⟨by walk_at "kb", B2.ex' (Ex.new hp), [], 1 + r2, none, none, rfl, upd_same, Tar.one (by omega) (by omega), rfl⟩ (fun _ _ _ _ _ => trivial) ?_ ?_
    · rintro i x0 σ H3 H3' hi ⟨kb3, B3, ws, x, v3, v4, rfl, hl3, tar, hlen⟩ ⟨rfl, rfl⟩
      walk_at "sx"
      refine x_take B3 (by omega) (by omega) (by omega) fun r4 H4 c1 c2 kb4 B4 => ?_
      walk_at "sx"
      refine x_take B4 (by omega) (by omega) (by omega) fun r5 H5 d1 d2 kb5 B5 => ?_
      walk_at "sx"
      intro p5 hp5
      walk_at "sx"
      refine x_take (B5.ex' (Ex.new hp5)) (by omega) (by omega) (by omega) fun r6 H6 e1 e2 kb6 B6 => ?_
      walk_at "sx"
      obtain ⟨v, hv, hm⟩ := at_mem (xs := [.int 1, .int 2, .int 2, .int 3, .int (1 + r4), .int (1 + r5)]) e1 e2
      obtain ⟨t, rfl, t1, t2⟩ : ∃ z, v = V.int z ∧ 1 ≤ z ∧ z ≤ 60 := by
        simp only [List.mem_cons, List.not_mem_nil, or_false] at hm
        rcases hm with rfl | rfl | rfl | rfl | rfl | rfl <;> exact ⟨_, rfl, by omega, by omega⟩
      refine x_ixL (by walk_at "sq") hv ?_
      have x12 := tar.rng x (by simp)
      have hl6 : H6 p = some (.lst ((ws ++ [x]).map V.int)) := by
        have h5 : H5 p = some (.lst ((ws ++ [x]).map V.int)) := kb5.get npb (kb4.get npb hl3)
        exact kb6.get npb (by rw [upd_ne (ne_fresh hp5 h5).symm]; exact h5)
      have kb06 : KB b H H6 := by walk_at "kb"
      walk_at "sx"
      refine x_ixL (SqL.of hl6) (at_lastI ws x) ?_
      walk_at "sx"
      intro p7 hp7
      have hl7 : ∀ o, (upd H6 p7 o) p = some (.lst ((ws ++ [x]).map V.int)) := fun o => by rw [upd_ne (ne_fresh hp7 hl6).symm]; exact hl6
      walk_at "sx"
      refine x_ixL (SqL.of (hl7 _)) (at_lastI ws x) ?_
      walk_at "sx"
      have fin : ∀ y : Int, 1 ≤ y → y ≤ 10000 → y % x = 0 → (ws ++ [x]).length ≤ 5 → KB b H (upd (upd H6 p7 (.lst [.int 1, .int t])) p (.lst ((ws ++ [x]).map V.int ++ [.int y]))) ∧ BoxAt (upd (upd H6 p7 (.lst [.int 1, .int t])) p (.lst ((ws ++ [x]).map V.int ++ [.int y]))) b l (n + 2 + 3 * (i + 1)) := fun y _ _ _ _ =>
        ⟨by walk_at "kb", ((B6.ex' (Ex.new hp7)).upd npb npl).mono (by omega)⟩
      have hl5 : (ws ++ [x]).length ≤ 5 := by omega
      have hsz : ((ws ++ [x]).map V.int).length < sizeLine := by rw [List.length_map]; exact small1000 (by omega)
      by_cases c : x * t ≤ 10000
      · rw [decide_eq_true c]
        refine x_ixL (v := .int t) (SqL.of upd_same) rfl ?_
        walk_at "sx"
        refine x_append (hl7 _) hsz ?_
        have y1 : 1 ≤ x * t := by have := Int.mul_le_mul x12.1 t1 (by decide) (by omega); omega
        obtain ⟨g1, g2⟩ := fin (x * t) y1 c (Int.mul_emod_right x t) hl5
        walk_at "sx"
        exact ⟨g1, g2, ws ++ [x], x * t, _, _, rfl, by rw [upd_same, List.map_append (l₂ := [x * t])]; rfl, tar.snoc hl5 y1 c (Int.mul_emod_right x t), by rw [List.length_append, hlen]; rfl⟩
      · rw [decide_eq_false c]
        refine x_ixL (v := .int 1) (SqL.of upd_same) rfl ?_
        walk_at "sx"
        refine x_append (hl7 _) hsz ?_
        have ex1 : x * 1 % x = 0 := Int.mul_emod_right x 1
        obtain ⟨g1, g2⟩ := fin (x * 1) (by omega) (by omega) ex1 hl5
        walk_at "sx"
        exact ⟨g1, g2, ws ++ [x], x * 1, _, _, rfl, by rw [upd_same, List.map_append (l₂ := [x * 1])]; rfl, tar.snoc hl5 (by omega) (by omega) ex1, by rw [List.length_append, hlen]; rfl⟩
    · rintro σ H3 ⟨kb3, B3, ws, x, v3, v4, rfl, hl3, tar, hlen⟩
      walk_at "sx"
      exact q p _ _ fp kb3 (B3.mono (by omega)) hl3 tar (by omega)
end

/-! ### weights, in plain Lean -/
/-- what a roll weighs -/
def wt : List Int → List Int → Int
  | w :: ws, c :: cs => w * c + wt ws cs
  | _, _ => 0
theorem wt_nil (cs : List Int) : wt [] cs = 0 := by cases cs <;> rfl
theorem wt_zip : ∀ ws cs : List Int, ((List.range (min ws.length cs.length)).map fun i => ws.getD i 0 * cs.getD i 0).sum = wt ws cs
  | [], cs => by simp [wt_nil]
  | w :: ws, [] => by simp [wt]
  | w :: ws, c :: cs => by
    have e : min (w :: ws).length (c :: cs).length = min ws.length cs.length + 1 := by
      simp only [List.length_cons]; omega
    rw [e, List.range_succ_eq_map, List.map_cons, List.map_map, List.sum_cons]
    have ih := wt_zip ws cs
    show (w :: ws).getD 0 0 * (c :: cs).getD 0 0 + ((List.range (min ws.length cs.length)).map ((fun i => (w :: ws).getD i 0 * (c :: cs).getD i 0) ∘ Nat.succ)).sum = w * c + wt ws cs
    rw [← ih]
    rfl
/-- one rank more -/
theorem wt_take : ∀ (ws cs : List Int) (i : Nat), i < ws.length → i < cs.length → wt (ws.take (i + 1)) (cs.take (i + 1)) = wt (ws.take i) (cs.take i) + ws.getD i 0 * cs.getD i 0
  | [], _, i, h, _ => absurd h (Nat.not_lt_zero _)
  | _ :: _, [], i, _, h => absurd h (Nat.not_lt_zero _)
  | w :: ws, c :: cs, 0, _, _ => by simp [wt, wt_nil]
  | w :: ws, c :: cs, i + 1, h1, h2 => by
    have ih := wt_take ws cs i (by simpa using h1) (by simpa using h2)
    show w * c + wt (ws.take (i + 1)) (cs.take (i + 1)) = (w * c + wt (ws.take i) (cs.take i)) + ws.getD i 0 * cs.getD i 0
    rw [ih]; omega
/-- for each rank what all men of lower ranks weigh -/
def lowL (ws cs : List Int) : List Int := (List.range ws.length).map fun i => wt (ws.take i) (cs.take i)
theorem lowL_len (ws cs : List Int) : (lowL ws cs).length = ws.length := by unfold lowL; rw [List.length_map, List.length_range]
theorem lowL_at (ws cs : List Int) (i : Nat) (h : i < ws.length) : (lowL ws cs)[i]? = some (wt (ws.take i) (cs.take i)) := by
  unfold lowL
  rw [List.getElem?_map, List.getElem?_range h]
  rfl
/-- numbers of a common size -/
def Sm (ws : List Int) : Prop := ∀ w ∈ ws, -(2 ^ 63) < w ∧ w < 2 ^ 63
theorem Sm.take {ws : List Int} (h : Sm ws) (i : Nat) : Sm (ws.take i) := fun w hw => h w (List.mem_of_mem_take hw)
theorem Sm.at {ws : List Int} (h : Sm ws) {i : Nat} {w : Int} (e : ws[i]? = some w) : -(2 ^ 63) < w ∧ w < 2 ^ 63 := h w (List.mem_of_getElem? e)
theorem tar_sm {ws : List Int} (t : Tar ws) : Sm ws := fun w hw => by have := t.rng w hw; omega
/-- a roll of counts from 0 to m -/
structure Roll (n : Nat) (m : Int) (cs : List Int) : Prop where
  len : cs.length = n
  rng : ∀ c ∈ cs, 0 ≤ c ∧ c ≤ m
theorem Roll.sm {n : Nat} {m : Int} {cs : List Int} (r : Roll n m cs) (hm : m ≤ 100000) : Sm cs := fun c hc => by have := r.rng c hc; omega
theorem getD_of {ws : List Int} {i : Nat} {w : Int} (h : ws[i]? = some w) : ws.getD i 0 = w := by rw [List.getD_eq_getElem?_getD, h]; rfl
theorem at_getD {ws : List Int} {i : Nat} {r : Int} (e : r = (i : Int)) (h : i < ws.length) : atI (ws.map V.int) r = some (.int (ws.getD i 0)) :=
  at_of e (by rw [List.getElem?_map, List.getElem?_eq_getElem h, List.getD_eq_getElem?_getD, List.getElem?_eq_getElem h]; rfl)
theorem getD_mem {ws : List Int} {i : Nat} (h : i < ws.length) : ws.getD i 0 ∈ ws := by
  rw [List.getD_eq_getElem?_getD, List.getElem?_eq_getElem h]
  exact List.getElem_mem h

/-! ### weight, lower -/
abbrev s_weight : Stmt := top 1
abbrev N_weight : List Str := ["worths", "counts", "count", "worth"]
theorem sc_weight : FnScope N_weight ["worths", "counts"] (defScope s_weight) := ⟨rfl, rfl, rfl, by decide +kernel, rfl, by decide +kernel, by decide +kernel⟩
abbrev s_lower : Stmt := top 2
abbrev N_lower : List Str := ["worths", "counts", "rank"]
theorem sc_lower : FnScope N_lower ["worths", "counts"] (defScope s_lower) := ⟨rfl, rfl, rfl, by decide +kernel, rfl, by decide +kernel, by decide +kernel⟩

def spWeight (K : PySem.W.Frag) : Sp := fun vs H Q _ => ∃ (a b : Addr) (ws cs : List Int), vs = [.ref a, .ref b] ∧ SqL K H a (ws.map V.int) ∧ SqL K H b (cs.map V.int) ∧ Sm ws ∧ Sm cs ∧ ws.length ≤ 1000 ∧ ∀ H', Ex H H' → Q (.int (wt ws cs)) H'
def spLower (K : PySem.W.Frag) : Sp := fun vs H Q _ => ∃ (a b : Addr) (ws cs : List Int), vs = [.ref a, .ref b] ∧ SqL K H a (ws.map V.int) ∧ SqL K H b (cs.map V.int) ∧ Sm ws ∧ Sm cs ∧ ws.length ≤ 1000 ∧
  ∀ p H', H p = none → Ex H H' → H' p = some (.lst ((lowL ws cs).map V.int)) → Q (.ref p) H'
section
variable {P : Program} {w : World} {K : PySem.W.Frag} {mg : Str → Option Value} {base : Heap}
theorem D_weight (T : Txt K mg) (F : Df K mg "weight" s_weight) : Dn P w K mg base CX0 1 "weight" ["worths", "counts"] (spWeight K) := by
  refine F.dn sc_weight (fun _ _ _ _ _ _ us hl => match us, hl with | [_, _], _ => rfl) (fun vs H Q E h => ?_) (fun f cdv A outer s H vs Q E hr hK h => ?_)
  · obtain ⟨a, b, ws, cs, rfl, _⟩ := h
    rfl
  · obtain ⟨a, b, ws, cs, rfl, ha, hb, sw, sc, hl, k⟩ := h
    refine ⟨_, (pss_one (ps_ret (pe_callB (cr_sum rfl) rfl T.m_sum boot_sum (pa_cons (pe_lc (own := [("worth", 3), ("count", 2)]) (g := gTup K 2 (gCons (gName 3) (gCons (gName 2) (gNil)))) (tt := tYes) rfl sc_weight.nd (pi_zip rfl T.m_zip (pa_cons (pv 0) (pa_cons (pv 1) pa_nil))) (blkOk_by (own := [("worth", 3), ("count", 2)]) (N := N_weight) (sc := defScope s_weight) (by decide +kernel)) (fun _ _ _ _ _ => pg_tup rfl (pgs_cons (pg_name (i := 3) sc_weight.nd rfl (Or.inl rfl)) (pgs_cons (pg_name (i := 2) sc_weight.nd rfl (Or.inl rfl)) pgs_nil))) (fun _ _ _ _ _ => pts_nil) (fun _ _ _ _ _ => (pe_op op_mulB (pv 3) (pv 2)))) pa_nil)))), ?_⟩
    try rw [hK]
    rw [show L2.start N_weight [.ref a, .ref b] = [some (.ref a), some (.ref b), none, none] from rfl]
    walk_at "sx"
    refine x_iZQ ha hb ?_
    have n1 : min (ws.map V.int).length (cs.map V.int).length = min ws.length cs.length := by rw [List.length_map, List.length_map]
    refine x_lcMap (walk_zip n1.symm) (fun i => V.int (ws.getD i 0 * cs.getD i 0)) (sz_of (by omega)) (fun H' e => ⟨ex_l e ha, ex_l e hb⟩) ?turn ?grow ?done
    case turn =>
      rintro D i x H1 H2 Nx hi e1 ⟨p, x1, y1, rfl, hp, rfl, h1, h2⟩ kk
      obtain ⟨u, rfl, hu⟩ := int_of h1
      obtain ⟨v, rfl, hv⟩ := int_of h2
      have bu := sw.at hu
      have bv := sc.at hv
      walk_at "sx"
      rw [show u * v = ws.getD i 0 * cs.getD i 0 by rw [getD_of hu, getD_of hv]]
      exact kk _ (Ex.refl _)
    case grow =>
      rintro i x H1 H2 hi e1 ⟨p, x1, y1, rfl, hp, rfl, h1, h2⟩
      exact Ex.new hp
    case done =>
      intro D H' hD e hl
      walk_at "sx"
      refine x_sumMap hl ?_
      rw [wt_zip]
      exact k _ e
theorem D_lower (T : Txt K mg) (D_weight : Dn P w K mg base CX0 1 "weight" ["worths", "counts"] (spWeight K)) (F : Df K mg "lower" s_lower) : Dn P w K mg base CX0 2 "lower" ["worths", "counts"] (spLower K) := by
  refine F.dn sc_lower (fun _ _ _ _ _ _ us hl => match us, hl with | [_, _], _ => rfl) (fun vs H Q E h => ?_) (fun f cdv A outer s H vs Q E hr hK h => ?_)
  · obtain ⟨a, b, ws, cs, rfl, _⟩ := h
    rfl
  · obtain ⟨a, b, ws, cs, rfl, ha, hb, sw, sc, hl, k⟩ := h
    refine ⟨_, (pss_one (ps_ret (pe_lc (own := [("rank", 2)]) (g := gName 2) (tt := tYes) rfl sc_lower.nd (pi_range1 rfl T.m_range (pa_cons (pe_callB g_len rfl T.m_len boot_len (pa_cons (pv 0) pa_nil)) pa_nil)) (blkOk_by (own := [("rank", 2)]) (N := N_lower) (sc := defScope s_lower) (by decide +kernel)) (fun _ _ _ _ _ => pg_name (i := 2) sc_lower.nd rfl (Or.inl rfl)) (fun _ _ _ _ _ => pts_nil) (fun _ _ _ _ _ => (pe_dn D_weight (hr.mono (by first | decide | omega)) pass0 (pa_cons (pe_slice (r := rSlL K) sl_list (pv 0) po_none (po_some (pv 2))) (pa_cons (pe_slice (r := rSlL K) sl_list (pv 1) po_none (po_some (pv 2))) pa_nil))))))), ?_⟩
    try rw [hK]
    rw [show L2.start N_lower [.ref a, .ref b] = [some (.ref a), some (.ref b), none] from rfl]
    walk_at "sx"
    rw [List.length_map]
    refine x_iRQ (by omega) (by omega) ?_
    rw [show ((ws.length : Nat) : Int).toNat = ws.length from Int.toNat_natCast _]
    refine x_lcMap walk_r0 (fun i => V.int (wt (ws.take i) (cs.take i))) (sz_of (by omega)) (fun _ _ => trivial) ?turn ?grow ?done
    case turn =>
      rintro D i x H1 H2 Nx hi e1 ⟨rfl, rfl⟩ kk
      walk_at "sx"
      refine x_slL (ex_l e1 ha) ?_
      rw [cut_to, ← List.map_take]
      intro p hp
      walk_at "sx"
      refine x_slL (ex_l (e1.trans (Ex.new hp)) hb) ?_
      rw [cut_to, ← List.map_take]
      intro q hq
      walk_at "sx"
      refine ⟨p, q, ws.take i, cs.take i, rfl, ex_l (Ex.new hq) (SqL.of upd_same), SqL.of upd_same, sw.take i, sc.take i, by rw [List.length_take]; omega, fun H3 e3 => ?_⟩
      exact kk H3 ((Ex.new hp).trans ((Ex.new hq).trans e3))
    case grow =>
      rintro i x H1 H2 hi e1 ⟨rfl, rfl⟩
      exact Ex.refl _
    case done =>
      intro D H' hD e hl
      walk_at "sx"
      exact k D H' hD e (by rw [hl]; unfold lowL; rw [List.map_map]; rfl)
end

/-! ### drawn rolls; the law's own weight -/
abbrev s__law_counts : Stmt := top 13
abbrev N__law_counts : List Str := ["_law_box_here", "_law_worths_here", "_law_most", "_law_worth"]
theorem sc__law_counts : FnScope N__law_counts ["_law_box_here", "_law_worths_here", "_law_most"] (defScope s__law_counts) := ⟨rfl, rfl, rfl, by decide +kernel, rfl, by decide +kernel, by decide +kernel⟩

def spCounts (K : PySem.W.Frag) : Sp := fun vs H Q _ => ∃ (b l a : Addr) (ws : List Int) (m : Int) (n : Nat), vs = [.ref b, .ref a, .int m] ∧ BoxAt H b l n ∧ n ≤ 2 ^ 59 ∧ SqL K H a (ws.map V.int) ∧ a ≠ b ∧ ws.length ≤ 10 ∧ 3 ≤ m ∧ m ≤ 1000 ∧
  ∀ (p : Addr) (cs : List Int) (H' : Hp), H p = none → KB b H H' → BoxAt H' b l (n + 30) → H' p = some (.lst (cs.map V.int)) → Roll ws.length m cs → Q (.ref p) H'
section
variable {P : Program} {w : World} {K : PySem.W.Frag} {mg : Str → Option Value} {base : Heap}
theorem D_counts (T : Txt K mg) (D__law_take : Dn P w K mg base CX0 2 "_law_take" ["_law_box_here", "_law_size"] spTake) (F : Df K mg "_law_counts" s__law_counts) : Dn P w K mg base CX0 3 "_law_counts" ["_law_box_here", "_law_worths_here", "_law_most"] (spCounts K) := by
  refine F.dn sc__law_counts (fun _ _ _ _ _ _ us hl => match us, hl with | [_, _, _], _ => rfl) (fun vs H Q E h => ?_) (fun f cdv A outer s H vs Q E hr hK h => ?_)
  · obtain ⟨b, l, a, ws, m, n, rfl, _⟩ := h
    rfl
  · obtain ⟨b, l, a, ws, m, n, rfl, B, hn, ha, nab, hl, hm0, hm, k⟩ := h
    refine ⟨_, (pss_one (ps_ret (pe_lc (own := [("_law_worth", 3)]) (g := gName 3) (tt := tYes) rfl sc__law_counts.nd (pi_list (pv 1)) (blkOk_by (own := [("_law_worth", 3)]) (N := N__law_counts) (sc := defScope s__law_counts) (by decide +kernel)) (fun _ _ _ _ _ => pg_name (i := 3) sc__law_counts.nd rfl (Or.inl rfl)) (fun _ _ _ _ _ => pts_nil) (fun _ _ _ _ _ => (pe_ix (r := rIxL K) ix_list (pe_lst (pa_cons pe_int (pa_cons (pe_dn D__law_take (hr.mono (by first | decide | omega)) pass0 (pa_cons (pv 0) (pa_cons pe_int pa_nil))) (pa_cons (pe_dn D__law_take (hr.mono (by first | decide | omega)) pass0 (pa_cons (pv 0) (pa_cons (pe_op op_add (pv 2) pe_int) pa_nil))) pa_nil)))) (pe_dn D__law_take (hr.mono (by first | decide | omega)) pass0 (pa_cons (pv 0) (pa_cons pe_int pa_nil))) (fun _ _ => rfl)))))), ?_⟩
    try rw [hK]
    rw [show L2.start N__law_counts [.ref b, .ref a, .int m] = [some (.ref b), some (.ref a), some (.int m), none] from rfl]
    walk_at "sx"
    refine x_iLQ ha ?_
    refine x_lcQ walk_list (fun D i H' => H D = none ∧ KB b H H' ∧ BoxAt H' b l (n + 3 * i) ∧ ∃ cs : List Int, H' D = some (.lst (cs.map V.int)) ∧ Roll i m cs) (fun D hD => ⟨hD, KB.new hD, B.ex' (Ex.new hD), [], upd_same, rfl, fun c h => by cases h⟩) (fun D i H' _ p => p.2.1.sqL ha nab) ?_ ?_
    · rintro D i x H1 H1' hi ⟨hD, kb1, B1, cs, hcs, roll⟩ ⟨rfl, hx⟩
      rw [List.length_map] at hi
      have nDb := BoxAt.ne1 hD B
      have nDl := BoxAt.ne2 hD B
      walk_at "sx"
      refine x_take B1 (by omega) (by omega) (by omega) fun r1 H2 a1 a2 kb2 B2 => ?_
      walk_at "sx"
      refine x_take B2 (by omega) (by omega) (by omega) fun r2 H3 b1 b2 kb3 B3 => ?_
      walk_at "sx"
      intro q hq
      walk_at "sx"
      refine x_take (B3.ex' (Ex.new hq)) (by omega) (by omega) (by omega) fun r3 H4 c1 c2 kb4 B4 => ?_
      walk_at "sx"
      obtain ⟨v, hv, hmem⟩ := at_mem (xs := [.int 0, .int r1, .int r2]) c1 c2
      obtain ⟨z, rfl, z1, z2⟩ : ∃ z, v = V.int z ∧ 0 ≤ z ∧ z ≤ m := by
        simp only [List.mem_cons, List.not_mem_nil, or_false] at hmem
        rcases hmem with rfl | rfl | rfl <;> exact ⟨_, rfl, by omega, by omega⟩
      have nqb := BoxAt.ne1 hq B3
      refine x_ixL (kb4.sqL (SqL.of upd_same) nqb) hv ?_
      have h3 : H3 D = some (.lst (cs.map V.int)) := kb3.get nDb (kb2.get nDb hcs)
      have h4 : H4 D = some (.lst (cs.map V.int)) := kb4.get nDb (by rw [upd_ne (ne_fresh hq h3).symm]; exact h3)
      walk_at "sx"
      refine x_elt h4 (by rw [List.length_map, roll.len]; exact small1000 (by omega)) ?_
      refine ⟨hD, (show KB b H H4 by walk_at "kb").mut hD, (B4.upd nDb nDl).mono (by omega), cs ++ [z], by rw [upd_same, List.map_append]; rfl, by rw [List.length_append, roll.len]; rfl, fun c hc => ?_⟩
      rcases List.mem_append.mp hc with h | h
      · exact roll.rng c h
      · rw [List.mem_singleton] at h
        subst h
        exact ⟨z1, z2⟩
    · rintro D H1 ⟨hD, kb1, B1, cs, hcs, roll⟩
      rw [List.length_map] at B1 roll
      walk_at "sx"
      exact k D cs H1 hD kb1 (B1.mono (by omega)) hcs roll
end

/-! ### the law's own weight -/
abbrev s__law_weight : Stmt := top 14
abbrev N__law_weight : List Str := ["_law_worths_here", "_law_counts_here", "_law_total", "_law_rank"]
theorem sc__law_weight : FnScope N__law_weight ["_law_worths_here", "_law_counts_here"] (defScope s__law_weight) := ⟨rfl, rfl, rfl, by decide +kernel, rfl, by decide +kernel, by decide +kernel⟩

def spLWeight (K : PySem.W.Frag) : Sp := fun vs H Q _ => ∃ (a b : Addr) (ws cs : List Int), vs = [.ref a, .ref b] ∧ SqL K H a (ws.map V.int) ∧ SqL K H b (cs.map V.int) ∧ Sm ws ∧ Sm cs ∧ ws.length ≤ 1000 ∧ cs.length = ws.length ∧ Q (.int (wt ws cs)) H
section
variable {P : Program} {w : World} {K : PySem.W.Frag} {mg : Str → Option Value} {base : Heap}
theorem D_lweight (T : Txt K mg) (F : Df K mg "_law_weight" s__law_weight) : Dn P w K mg base CX0 1 "_law_weight" ["_law_worths_here", "_law_counts_here"] (spLWeight K) := by
  refine F.dn sc__law_weight (fun _ _ _ _ _ _ us hl => match us, hl with | [_, _], _ => rfl) (fun vs H Q E h => ?_) (fun f cdv A outer s H vs Q E hr hK h => ?_)
  · obtain ⟨a, b, ws, cs, rfl, _⟩ := h
    rfl
  · obtain ⟨a, b, ws, cs, rfl, ha, hb, sw, sc, hl, hlc, k⟩ := h
    refine ⟨_, (pss_cons (ps_set (i := 2) sc__law_weight.nd rfl (Or.inl rfl) pe_int)
      (pss_cons (ps_for PassesOwn.never rfl (pi_range1 rfl T.m_range (pa_cons (pe_callB g_len rfl T.m_len boot_len (pa_cons (pv 0) pa_nil)) pa_nil)) (pg_name (i := 3) sc__law_weight.nd rfl (Or.inl rfl)) (pss_one (ps_set (i := 2) sc__law_weight.nd rfl (Or.inl rfl) (pe_op op_add (pv 2) (pe_op op_mulB (pe_ix ix_list (pv 0) (pv 3) (fun _ _ => rfl)) (pe_ix ix_list (pv 1) (pv 3) (fun _ _ => rfl)))))))
      (pss_one (ps_ret (pv 2))))), ?_⟩
    try rw [hK]
    rw [show L2.start N__law_weight [.ref a, .ref b] = [some (.ref a), some (.ref b), none, none] from rfl]
    walk_at "sx"
    rw [List.length_map]
    refine x_iRQ (by omega) (by omega) ?_
    rw [show ((ws.length : Nat) : Int).toNat = ws.length from Int.toNat_natCast _]
    refine x_forQ walk_r0 (fun i σ H' => H' = H ∧ ∃ v : Option V, σ = [some (.ref a), some (.ref b), some (.int (wt (ws.take i) (cs.take i))), v]) ⟨rfl, none, by simp [wt_nil]⟩ (fun _ _ _ _ _ => trivial) ?_ ?_
    · rintro i x σ H1 H1' hi ⟨rfl, v, rfl⟩ ⟨rfl, rfl⟩
      have hi2 : i < cs.length := by omega
      have bw := sw _ (getD_mem hi)
      have bc := sc _ (getD_mem hi2)
      walk_at "sx"
      refine x_ixL ha (at_getD (i := i) (by omega) hi) ?_
      walk_at "sx"
      refine x_ixL hb (at_getD (i := i) (by omega) hi2) ?_
      walk_at "sx"
      exact ⟨rfl, _, by rw [wt_take ws cs i hi hi2]⟩
    · rintro σ H1 ⟨rfl, v, rfl⟩
      rw [List.take_of_length_le (Nat.le_refl _), List.take_of_length_le (by omega)]
      walk_at "sx"
      exact k
end

/-! ### what a roll can put up, in plain Lean -/
/-- the worth, the count, the weight of all men below rank i -/
abbrev gd (ws : List Int) (i : Nat) : Int := ws.getD i 0
abbrev low (ws cs : List Int) (i : Nat) : Int := wt (ws.take i) (cs.take i)
/-- the first n ranks can put up m -/
def Mk (ws cs : List Int) : Nat → Int → Prop
  | 0, m => m = 0
  | n + 1, m => ∃ k : Int, 0 ≤ k ∧ k ≤ gd cs n ∧ Mk ws cs n (m - k * gd ws n)
theorem low_zero (ws cs : List Int) : low ws cs 0 = 0 := by simp [low, wt_nil]
theorem low_succ {ws cs : List Int} {i : Nat} (h : i < ws.length) (h2 : cs.length = ws.length) : low ws cs (i + 1) = low ws cs i + gd ws i * gd cs i := wt_take ws cs i h (by omega)
theorem low_all {ws cs : List Int} (h2 : cs.length = ws.length) : low ws cs ws.length = wt ws cs := by
  unfold low
  rw [List.take_of_length_le (Nat.le_refl _), List.take_of_length_le (by omega)]
theorem tar_at {ws : List Int} (t : Tar ws) {i : Nat} (h : i < ws.length) : 1 ≤ gd ws i ∧ gd ws i ≤ 10000 := t.rng _ (getD_mem h)
theorem roll_at {n : Nat} {m : Int} {cs : List Int} (r : Roll n m cs) {i : Nat} (h : i < n) : 0 ≤ gd cs i ∧ gd cs i ≤ m := r.rng _ (getD_mem (by rw [r.len]; exact h))
theorem tar_dvd {ws : List Int} (t : Tar ws) {i : Nat} : ∀ {j : Nat}, i ≤ j → j < ws.length → gd ws i ∣ gd ws j
  | 0, h, _ => by rw [Nat.le_zero.mp h]; exact ⟨1, (Int.mul_one _).symm⟩
  | j + 1, h, hj => by
    rcases Nat.lt_or_eq_of_le h with h1 | h1
    · have d1 := tar_dvd t (i := i) (j := j) (by omega) (by omega)
      have e1 : ws[j]? = some (gd ws j) := by rw [gd, List.getD_eq_getElem?_getD, List.getElem?_eq_getElem (show j < ws.length by omega)]; rfl
      have e2 : ws[j + 1]? = some (gd ws (j + 1)) := by rw [gd, List.getD_eq_getElem?_getD, List.getElem?_eq_getElem hj]; rfl
      exact Int.dvd_trans d1 (Int.dvd_of_emod_eq_zero (t.ch j _ _ e1 e2))
    · subst h1
      exact ⟨1, (Int.mul_one _).symm⟩
theorem low_nn {ws cs : List Int} {m : Int} (t : Tar ws) (r : Roll ws.length m cs) : ∀ {i : Nat}, i ≤ ws.length → 0 ≤ low ws cs i
  | 0, _ => by rw [low_zero]; exact Int.le_refl 0
  | i + 1, h => by
    have ih := low_nn t r (i := i) (by omega)
    have h1 := tar_at t (i := i) (by omega)
    have h2 := roll_at r (i := i) (by omega)
    have h3 := Int.mul_nonneg (show 0 ≤ gd ws i by omega) h2.1
    rw [low_succ (by omega) r.len]
    omega
theorem sub_mod {m k w v : Int} (h : v ∣ w) : (m - k * w) % v = m % v := by
  obtain ⟨c, rfl⟩ := h
  rw [show m - k * (v * c) = m + v * (-(k * c)) by rw [Int.mul_neg, ← Int.mul_assoc, ← Int.mul_assoc, Int.mul_comm v k]; omega]
  exact Int.add_mul_emod_self_left m v _
/-- what can be put up, by rests -/
theorem mk_iff {ws cs : List Int} {mx : Int} (t : Tar ws) (r : Roll ws.length mx cs) : ∀ (n : Nat) (m : Int), n ≤ ws.length → (Mk ws cs n m ↔ 0 ≤ m ∧ m ≤ low ws cs n ∧ ∀ i, i < n → m % gd ws i ≤ low ws cs i)
  | 0, m, _ => by
    rw [low_zero]
    show m = 0 ↔ _
    constructor
    · rintro rfl
      exact ⟨Int.le_refl _, Int.le_refl _, fun i h => absurd h (Nat.not_lt_zero i)⟩
    · intro h
      omega
  | n + 1, m, hn => by
    have ih := fun m => mk_iff t r n m (by omega)
    have hw := tar_at t (i := n) (by omega)
    have hc := roll_at r (i := n) (by omega)
    have hl := low_nn t r (i := n) (by omega)
    have dv : ∀ i, i < n → gd ws i ∣ gd ws n := fun i h => tar_dvd t (by omega) (by omega)
    rw [low_succ (by omega) r.len]
    show (∃ k : Int, 0 ≤ k ∧ k ≤ gd cs n ∧ Mk ws cs n (m - k * gd ws n)) ↔ _
    generalize hw' : gd ws n = w at hw dv ⊢
    generalize gd cs n = c at hc ⊢
    have w0 : 0 ≤ w := by omega
    constructor
    · rintro ⟨k, k0, kc, hm⟩
      obtain ⟨h0, h1, h2⟩ := (ih _).mp hm
      have kw := Int.mul_nonneg k0 w0
      have kcw : k * w ≤ w * c := by
        rw [Int.mul_comm w c]
        exact Int.mul_le_mul_of_nonneg_right kc w0
      refine ⟨by omega, by omega, fun i hi => ?_⟩
      rcases Nat.lt_succ_iff_lt_or_eq.mp hi with h | h
      · rw [← sub_mod (m := m) (k := k) (dv i h)]
        exact h2 i h
      · subst h
        rw [hw', ← sub_mod (m := m) (k := k) (Int.dvd_refl w)]
        have e := Int.mul_ediv_add_emod (m - k * w) w
        have e2 := Int.mul_nonneg w0 (Int.ediv_nonneg h0 w0)
        omega
    · rintro ⟨h0, h1, h2⟩
      have hn2 := h2 n (Nat.lt_succ_self n)
      rw [hw'] at hn2
      have e := Int.mul_ediv_add_emod m w
      have q0 := Int.ediv_nonneg h0 w0
      have r0 := Int.emod_nonneg m (show w ≠ 0 by omega)
      by_cases hq : m / w ≤ c
      · refine ⟨m / w, q0, hq, (ih _).mpr ?_⟩
        have e1 : m - m / w * w = m % w := by rw [Int.mul_comm (m / w) w]; omega
        refine ⟨by omega, by omega, fun i hi => ?_⟩
        rw [sub_mod (dv i hi)]
        exact h2 i (by omega)
      · refine ⟨c, hc.1, Int.le_refl _, (ih _).mpr ?_⟩
        have g : c * w ≤ m / w * w := Int.mul_le_mul_of_nonneg_right (by omega) w0
        rw [Int.mul_comm (m / w) w] at g
        have g2 := Int.mul_comm c w
        refine ⟨by omega, by omega, fun i hi => ?_⟩
        rw [sub_mod (dv i hi)]
        exact h2 i (by omega)
/-- can_put's own look -/
def canB (ws cs : List Int) (m : Int) : Bool := decide (0 ≤ m ∧ m ≤ wt ws cs) && (List.range ws.length).all fun i => decide (m % gd ws i ≤ low ws cs i)
theorem canB_iff {ws cs : List Int} {mx : Int} (t : Tar ws) (r : Roll ws.length mx cs) (m : Int) : canB ws cs m = true ↔ Mk ws cs ws.length m := by
  rw [mk_iff t r ws.length m (Nat.le_refl _), low_all r.len]
  unfold canB
  simp only [Bool.and_eq_true, decide_eq_true_eq, List.all_eq_true, List.mem_range, and_assoc]
/-! ### the tables of sums: bits -/
/-- bit m of B is told by p -/
def Tells (B : Nat) (p : Int → Prop) : Prop := ∀ m : Nat, B.testBit m = true ↔ p (m : Int)
/-- up to s men more of worth w -/
def More (p : Int → Prop) (w : Int) (s : Int) : Int → Prop := fun m => ∃ k : Int, 0 ≤ k ∧ k ≤ s ∧ p (m - k * w)
/-- one doubling -/
theorem more_step {p : Int → Prop} {w s z : Int} {B : Nat} (hw : 0 ≤ w) (hs : 0 ≤ s) (hz : 0 ≤ z) (hzs : z ≤ s + 1) (hp : ∀ m, p m → 0 ≤ m) (h : Tells B (More p w s)) : Tells (B ||| (B <<< (z * w).toNat)) (More p w (s + z)) := by
  intro m
  have zw := Int.mul_nonneg hz hw
  rw [Nat.testBit_or, Nat.testBit_shiftLeft, Bool.or_eq_true, Bool.and_eq_true, decide_eq_true_eq, h m, h (m - (z * w).toNat)]
  constructor
  · rintro (⟨k, k0, k1, hk⟩ | ⟨hm, k, k0, k1, hk⟩)
    · exact ⟨k, k0, by omega, hk⟩
    · refine ⟨k + z, by omega, by omega, ?_⟩
      rw [show (m : Int) - (k + z) * w = ((m - (z * w).toNat : Nat) : Int) - k * w by rw [Int.add_mul]; omega]
      exact hk
  · rintro ⟨k, k0, k1, hk⟩
    by_cases c : k ≤ s
    · exact .inl ⟨k, k0, c, hk⟩
    · have hm := hp _ hk
      have kz : z * w ≤ k * w := Int.mul_le_mul_of_nonneg_right (by omega) hw
      refine .inr ⟨by omega, k - z, by omega, by omega, ?_⟩
      rw [show ((m - (z * w).toNat : Nat) : Int) - (k - z) * w = (m : Int) - k * w by rw [Int.sub_mul]; omega]
      exact hk
theorem more_zero {p : Int → Prop} {w : Int} {B : Nat} (h : Tells B p) : Tells B (More p w 0) := fun m => (h m).trans
  ⟨fun q => ⟨0, Int.le_refl _, Int.le_refl _, by rw [Int.zero_mul, Int.sub_zero]; exact q⟩, fun ⟨k, k0, k1, hk⟩ => by
    have e : k = 0 := by omega
    rw [e, Int.zero_mul, Int.sub_zero] at hk
    exact hk⟩
theorem mk_nn {ws cs : List Int} {mx : Int} (t : Tar ws) (r : Roll ws.length mx cs) {n : Nat} (hn : n ≤ ws.length) : ∀ m, Mk ws cs n m → 0 ≤ m := fun m h => ((mk_iff t r n m hn).mp h).1
theorem bits_lt {B n k : Nat} (h : B < 2 ^ n) : B ||| (B <<< k) < 2 ^ (n + k) := by
  refine Nat.or_lt_two_pow (Nat.lt_of_lt_of_le h (Nat.pow_le_pow_right (by decide) (by omega))) ?_
  rw [Nat.shiftLeft_eq, Nat.pow_add]
  exact Nat.mul_lt_mul_of_pos_right h (Nat.two_pow_pos k)
theorem low_le {ws cs : List Int} (t : Tar ws) (r : Roll ws.length 61 cs) : ∀ {i : Nat}, i ≤ ws.length → low ws cs i ≤ (i : Int) * 610000
  | 0, _ => by rw [low_zero]; decide
  | i + 1, h => by
    have ih := low_le t r (i := i) (by omega)
    have h1 := tar_at t (i := i) (by omega)
    have h2 := roll_at r (i := i) (by omega)
    have h3 : gd ws i * gd cs i ≤ 10000 * 61 := Int.mul_le_mul h1.2 h2.2 h2.1 (by decide)
    rw [low_succ (by omega) r.len]
    omega

/-! ### the fullest even weight, in plain Lean -/
abbrev Row := Int × Int × Int
/-- both rolls can put up m -/
def Com (ws a b : List Int) (m : Int) : Prop := Mk ws a ws.length m ∧ Mk ws b ws.length m
/-- m is the greatest weight that both can put up -/
def Top (ws a b : List Int) (m : Int) : Prop := Com ws a b m ∧ ∀ m', Com ws a b m' → m' ≤ m
theorem Top.one {ws a b : List Int} {m m' : Int} (h : Top ws a b m) (h' : Top ws a b m') : m = m' := Int.le_antisymm (h'.2 _ h.1) (h.2 _ h'.1)
theorem Com.swap {ws a b : List Int} {m : Int} (h : Com ws a b m) : Com ws b a m := ⟨h.2, h.1⟩
theorem Top.swap {ws a b : List Int} {m : Int} (h : Top ws a b m) : Top ws b a m := ⟨h.1.swap, fun m' h' => h.2 m' h'.swap⟩
abbrev mn (ws a b : List Int) (i : Nat) : Int := min (low ws a i) (low ws b i)
/-- one rank of the way down -/
def fstep (ws a b : List Int) (i : Nat) (s : List Row × Int) : List Row × Int :=
  if mn ws a b i < s.2 % gd ws i then (s.1 ++ [(s.2, s.2 - s.2 % gd ws i + mn ws a b i, (i : Int))], s.2 - s.2 % gd ws i + mn ws a b i) else s
/-- the way down through the k highest ranks -/
def fst (ws a b : List Int) : Nat → List Row × Int
  | 0 => ([], min (wt ws a) (wt ws b))
  | k + 1 => fstep ws a b (ws.length - 1 - k) (fst ws a b k)
def fallsL (ws a b : List Int) : List Row := (fst ws a b ws.length).1
def fullV (ws a b : List Int) : Int := (fst ws a b ws.length).2
theorem gd_mod {M w : Int} (hw : 1 ≤ w) : 0 ≤ M % w ∧ M % w < w := ⟨Int.emod_nonneg M (by omega), Int.emod_lt_of_pos M (by omega)⟩
theorem mod_of {q r w : Int} (h0 : 0 ≤ r) (h1 : r < w) : (w * q + r) % w = r := by
  rw [Int.add_comm, Int.add_mul_emod_self_left]
  exact Int.emod_eq_of_lt h0 h1
/-- what is known of a state on the way down -/
structure FOk (ws a b : List Int) (k : Nat) (s : List Row × Int) : Prop where
  nn : 0 ≤ s.2
  le : s.2 ≤ min (wt ws a) (wt ws b)
  mods : ∀ j, ws.length ≤ j + k → j < ws.length → s.2 % gd ws j ≤ mn ws a b j
  top : ∀ m, Com ws a b m → m ≤ s.2
  len : s.1.length ≤ k
theorem com_iff {ws a b : List Int} {mx : Int} (t : Tar ws) (ra : Roll ws.length mx a) (rb : Roll ws.length mx b) (m : Int) : Com ws a b m ↔ 0 ≤ m ∧ m ≤ min (wt ws a) (wt ws b) ∧ ∀ i, i < ws.length → m % gd ws i ≤ mn ws a b i := by
  unfold Com
  rw [mk_iff t ra _ m (Nat.le_refl _), mk_iff t rb _ m (Nat.le_refl _), low_all ra.len, low_all rb.len]
  constructor
  · rintro ⟨⟨h0, h1, h2⟩, _, h3, h4⟩
    exact ⟨h0, by omega, fun i hi => by have := h2 i hi; have := h4 i hi; show _ ≤ min _ _; omega⟩
  · rintro ⟨h0, h1, h2⟩
    exact ⟨⟨h0, by omega, fun i hi => by have : _ ≤ min _ _ := h2 i hi; omega⟩, h0, by omega, fun i hi => by have : _ ≤ min _ _ := h2 i hi; omega⟩
/-- a lesser rest at rank i: what becomes of the rests at higher ranks -/
theorem drop_mod {M v w l : Int} (hv : 1 ≤ v) (hw : 1 ≤ w) (d : v ∣ w) (l0 : 0 ≤ l) (hl : l < M % v) : (M - M % v + l) % w ≤ M % w := by
  obtain ⟨c, hc⟩ := d
  have e1 := Int.mul_ediv_add_emod M w
  have r1 := gd_mod (M := M) hw
  have e2 := Int.mul_ediv_add_emod (M % w) v
  have r2 := gd_mod (M := M % w) hv
  have e3 : M % w % v = M % v := by rw [hc]; exact Int.emod_emod_of_dvd M ⟨c, rfl⟩
  have e4 : 0 ≤ v * (M % w / v) := Int.mul_nonneg (by omega) (Int.ediv_nonneg r1.1 (by omega))
  have e5 : M - M % v + l = w * (M / w) + (M % w - M % v + l) := by omega
  rw [e5, mod_of (by omega) (by omega)]
  omega
theorem fstep_ok {ws a b : List Int} {mx : Int} (t : Tar ws) (ra : Roll ws.length mx a) (rb : Roll ws.length mx b) {k : Nat} (hk : k < ws.length) {s : List Row × Int} (h : FOk ws a b k s) : FOk ws a b (k + 1) (fstep ws a b (ws.length - 1 - k) s) := by
  have hi : ws.length - 1 - k < ws.length := by omega
  have hik : ws.length ≤ (ws.length - 1 - k) + (k + 1) := by omega
  have huniq : ∀ j, ws.length ≤ j + (k + 1) → j < ws.length → j = ws.length - 1 - k ∨ (ws.length ≤ j + k ∧ ws.length - 1 - k ≤ j) := fun j h1 h2 => by omega
  generalize ws.length - 1 - k = i at hi hik huniq ⊢
  have hw := tar_at t hi
  have la := low_nn t ra (i := i) (by omega)
  have lb := low_nn t rb (i := i) (by omega)
  have l0 : 0 ≤ mn ws a b i := by show 0 ≤ min _ _; omega
  have rm := gd_mod (M := s.2) hw.1
  have eM := Int.mul_ediv_add_emod s.2 (gd ws i)
  have q0 : 0 ≤ gd ws i * (s.2 / gd ws i) := Int.mul_nonneg (by omega) (Int.ediv_nonneg h.nn (by omega))
  have hle := h.le
  unfold fstep
  split
  · next c =>
    refine ⟨by show 0 ≤ s.2 - s.2 % gd ws i + mn ws a b i; omega, by show s.2 - s.2 % gd ws i + mn ws a b i ≤ _; omega, fun j h1 h2 => ?_, fun m hm => ?_, by show (s.1 ++ [_]).length ≤ _; rw [List.length_append]; have := h.len; simpa using this⟩
    · show (s.2 - s.2 % gd ws i + mn ws a b i) % gd ws j ≤ _
      rcases huniq j h1 h2 with rfl | ⟨h3, h4⟩
      · rw [show s.2 - s.2 % gd ws j + mn ws a b j = gd ws j * (s.2 / gd ws j) + mn ws a b j by omega, mod_of l0 (by omega)]
        exact Int.le_refl _
      · exact Int.le_trans (drop_mod hw.1 (tar_at t h2).1 (tar_dvd t h4 h2) l0 c) (h.mods j h3 h2)
    · show m ≤ s.2 - s.2 % gd ws i + mn ws a b i
      have m1 := h.top m hm
      have m2 := ((com_iff t ra rb m).mp hm).2.2 i hi
      have em := Int.mul_ediv_add_emod m (gd ws i)
      have rr := gd_mod (M := m) hw.1
      have hq : m / gd ws i ≤ s.2 / gd ws i := Int.ediv_le_ediv (by omega) m1
      rcases Int.lt_or_eq_of_le hq with g | g
      · have g2 : gd ws i * (m / gd ws i + 1) ≤ gd ws i * (s.2 / gd ws i) := Int.mul_le_mul_of_nonneg_left (by omega) (by omega)
        rw [Int.mul_add] at g2
        omega
      · rw [g] at em
        omega
  · next c =>
    refine ⟨h.nn, h.le, fun j h1 h2 => ?_, h.top, Nat.le_succ_of_le h.len⟩
    rcases huniq j h1 h2 with rfl | ⟨h3, h4⟩
    · omega
    · exact h.mods j h3 h2
theorem fst_ok {ws a b : List Int} {mx : Int} (t : Tar ws) (ra : Roll ws.length mx a) (rb : Roll ws.length mx b) : ∀ k, k ≤ ws.length → FOk ws a b k (fst ws a b k)
  | 0, _ => by
    have la := low_nn t ra (i := ws.length) (Nat.le_refl _)
    have lb := low_nn t rb (i := ws.length) (Nat.le_refl _)
    rw [low_all ra.len] at la
    rw [low_all rb.len] at lb
    refine ⟨by show 0 ≤ min _ _; omega, Int.le_refl _, fun j h1 h2 => by omega, fun m hm => ((com_iff t ra rb m).mp hm).2.1, Nat.le_refl _⟩
  | k + 1, h => fstep_ok t ra rb (by omega) (fst_ok t ra rb k (by omega))
theorem full_top {ws a b : List Int} {mx : Int} (t : Tar ws) (ra : Roll ws.length mx a) (rb : Roll ws.length mx b) : Top ws a b (fullV ws a b) := by
  have h := fst_ok t ra rb ws.length (Nat.le_refl _)
  exact ⟨(com_iff t ra rb _).mpr ⟨h.nn, h.le, fun i hi => h.mods i (by omega) hi⟩, h.top⟩
/-- the last row tells the weight -/
def lastLow (M0 : Int) (rs : List Row) : Int := (rs.getLast?.map fun r => r.2.1).getD M0
theorem fst_last (ws a b : List Int) : ∀ k, (fst ws a b k).2 = lastLow (min (wt ws a) (wt ws b)) (fst ws a b k).1
  | 0 => rfl
  | k + 1 => by
    have ih := fst_last ws a b k
    show (fstep ws a b _ _).2 = lastLow _ (fstep ws a b _ _).1
    unfold fstep
    split
    · show _ = lastLow _ (_ ++ [_])
      unfold lastLow
      rw [List.getLast?_concat]
      rfl
    · exact ih
/-! ### the law's own greatest common sum -/
theorem log2_top {B : Nat} {p : Int → Prop} (h : ∀ m : Nat, B.testBit m = true ↔ p m) (hp : ∀ m : Int, p m → 0 ≤ m) (h0 : B ≠ 0) : p (B.log2 : Nat) ∧ ∀ m : Int, p m → m ≤ (B.log2 : Nat) := by
  refine ⟨(h _).mp (Nat.testBit_log2 h0), fun m hm => ?_⟩
  have g := hp m hm
  obtain ⟨n, rfl⟩ : ∃ n : Nat, m = n := ⟨m.toNat, by omega⟩
  have hb := (h n).mpr hm
  have : n ≤ B.log2 := (Nat.le_log2 h0).mpr (Nat.ge_two_pow_of_testBit hb)
  omega

/-! ### papers, in plain Lean -/
/-- a row is due -/
structure Due (ws a b : List Int) (r : Row) : Prop where
  k0 : 0 ≤ r.2.2
  kn : r.2.2 < (ws.length : Int)
  l0 : 0 ≤ r.2.1
  lh : r.2.1 < r.1
  q : r.1 / gd ws r.2.2.toNat = r.2.1 / gd ws r.2.2.toNat
  m : mn ws a b r.2.2.toNat ≤ r.2.1 % gd ws r.2.2.toNat
/-- each row begins where the one ahead ended -/
def Chain (rs : List Row) : Prop := ∀ i r s, rs[i]? = some r → rs[i + 1]? = some s → s.1 = r.2.1
/-- the rows bar for z -/
def Bars (ws a b : List Int) (z : Int) (rs : List Row) : Prop :=
  (rs = [] ∧ min (wt ws a) (wt ws b) ≤ z) ∨ (∃ f l, rs.head? = some f ∧ rs.getLast? = some l ∧ min (wt ws a) (wt ws b) ≤ f.1 ∧ l.2.1 = z ∧ Chain rs ∧ ∀ r ∈ rs, Due ws a b r)
theorem chain_snoc {rs : List Row} {r : Row} (c : Chain rs) (h : ∀ l, rs.getLast? = some l → r.1 = l.2.1) : Chain (rs ++ [r]) := fun i x y hx hy => by
  by_cases hi : i + 1 < rs.length
  · rw [List.getElem?_append_left (by omega)] at hx
    rw [List.getElem?_append_left hi] at hy
    exact c i x y hx hy
  · have hlt := (List.getElem?_eq_some_iff.mp hy).1
    rw [List.length_append, List.length_singleton] at hlt
    have e : i + 1 = rs.length := by omega
    rw [List.getElem?_append_left (by omega)] at hx
    rw [e, List.getElem?_concat_length] at hy
    cases hy
    exact h x (by rw [List.getLast?_eq_getElem?, ← e]; exact hx)
structure FRows (ws a b : List Int) (s : List Row × Int) : Prop where
  due : ∀ r ∈ s.1, Due ws a b r
  ch : Chain s.1
  hd : ∀ f, s.1.head? = some f → f.1 = min (wt ws a) (wt ws b)
  la : s.2 = lastLow (min (wt ws a) (wt ws b)) s.1
theorem due_step {ws a b : List Int} {mx : Int} (t : Tar ws) (ra : Roll ws.length mx a) (rb : Roll ws.length mx b) {i : Nat} (hi : i < ws.length) {M : Int} (h0 : 0 ≤ M) (c : mn ws a b i < M % gd ws i) : Due ws a b (M, M - M % gd ws i + mn ws a b i, (i : Int)) := by
  have hw := tar_at t hi
  have la := low_nn t ra (i := i) (by omega)
  have lb := low_nn t rb (i := i) (by omega)
  have l0 : 0 ≤ mn ws a b i := by show 0 ≤ min _ _; omega
  have rm := gd_mod (M := M) hw.1
  have eM := Int.mul_ediv_add_emod M (gd ws i)
  have q0 : 0 ≤ gd ws i * (M / gd ws i) := Int.mul_nonneg (by omega) (Int.ediv_nonneg h0 (by omega))
  have e1 : M - M % gd ws i + mn ws a b i = gd ws i * (M / gd ws i) + mn ws a b i := by omega
  refine ⟨Int.natCast_nonneg _, by show (i : Int) < _; omega, by show 0 ≤ M - M % gd ws i + mn ws a b i; omega, by show M - M % gd ws i + mn ws a b i < M; omega, ?_, ?_⟩
  · show M / gd ws (Int.toNat (i : Int)) = (M - M % gd ws i + mn ws a b i) / gd ws (Int.toNat (i : Int))
    rw [Int.toNat_natCast, e1, Int.mul_add_ediv_left _ _ (by omega), Int.ediv_eq_zero_of_lt l0 (by omega)]
    omega
  · show mn ws a b (Int.toNat (i : Int)) ≤ (M - M % gd ws i + mn ws a b i) % gd ws (Int.toNat (i : Int))
    rw [Int.toNat_natCast, e1, mod_of l0 (by omega)]
    exact Int.le_refl _
theorem frows {ws a b : List Int} {mx : Int} (t : Tar ws) (ra : Roll ws.length mx a) (rb : Roll ws.length mx b) : ∀ k, k ≤ ws.length → FRows ws a b (fst ws a b k)
  | 0, _ => ⟨fun r h => absurd h (by simp [fst]), fun i r s h => by simp [fst] at h, fun f h => by simp [fst] at h, rfl⟩
  | k + 1, hk => by
    have ih := frows t ra rb k (by omega)
    have ok := fst_ok t ra rb k (by omega)
    have hi : ws.length - 1 - k < ws.length := by omega
    refine ⟨?_, ?_, ?_, fst_last ws a b (k + 1)⟩ <;> (show _ <;> skip)
    · show ∀ r ∈ (fstep ws a b (ws.length - 1 - k) (fst ws a b k)).1, _
      generalize ws.length - 1 - k = i at hi
      generalize fst ws a b k = s at ih ok
      unfold fstep
      split
      · next c =>
        intro r hr
        rcases List.mem_append.mp hr with h | h
        · exact ih.due r h
        · rw [List.mem_singleton] at h
          subst h
          exact due_step t ra rb hi ok.nn c
      · exact ih.due
    · show Chain (fstep ws a b (ws.length - 1 - k) (fst ws a b k)).1
      generalize ws.length - 1 - k = i at hi
      generalize fst ws a b k = s at ih ok
      unfold fstep
      split
      · refine chain_snoc ih.ch fun l hl => ?_
        show s.2 = l.2.1
        rw [ih.la]
        unfold lastLow
        rw [hl]
        rfl
      · exact ih.ch
    · show ∀ f, (fstep ws a b (ws.length - 1 - k) (fst ws a b k)).1.head? = some f → _
      generalize ws.length - 1 - k = i at hi
      generalize fst ws a b k = s at ih ok
      unfold fstep
      split
      · intro f hf
        cases e : s.1 with
        | nil =>
          have el := ih.la
          rw [e] at hf el
          have hf' := (Option.some.inj hf).symm
          rw [hf']
          exact el
        | cons x xs =>
          rw [e] at hf
          exact ih.hd f (by rw [e]; exact hf)
      · exact ih.hd
theorem falls_bar {ws a b : List Int} {mx : Int} (t : Tar ws) (ra : Roll ws.length mx a) (rb : Roll ws.length mx b) : Bars ws a b (fullV ws a b) (fallsL ws a b) := by
  have h := frows t ra rb ws.length (Nat.le_refl _)
  have e : fullV ws a b = lastLow (min (wt ws a) (wt ws b)) (fallsL ws a b) := h.la
  unfold Bars
  cases c : fallsL ws a b with
  | nil => exact .inl ⟨rfl, by rw [e, c]; exact Int.le_refl _⟩
  | cons x xs =>
    have hne : fallsL ws a b ≠ [] := by rw [c]; exact List.cons_ne_nil _ _
    refine .inr ⟨x, (x :: xs).getLast (List.cons_ne_nil _ _), rfl, List.getLast?_eq_some_getLast _, ?_, ?_, ?_, ?_⟩
    · rw [h.hd x (by show (fallsL ws a b).head? = _; rw [c]; rfl)]; exact Int.le_refl _
    · rw [e, c]
      unfold lastLow
      rw [List.getLast?_eq_some_getLast (List.cons_ne_nil _ _)]
      rfl
    · rw [← c]; exact h.ch
    · rw [← c]; exact h.due
theorem falls_not {ws a b : List Int} {z : Int} (hz : z < fullV ws a b) : ¬ Bars ws a b z (fallsL ws a b) := by
  have e := fst_last ws a b ws.length
  change fullV ws a b = lastLow _ (fallsL ws a b) at e
  rintro (⟨h1, h2⟩ | ⟨f, l, _, h2, _, h4, _⟩)
  · rw [h1] at e
    have : fullV ws a b = min (wt ws a) (wt ws b) := e
    omega
  · unfold lastLow at e
    rw [h2] at e
    have : fullV ws a b = l.2.1 := e
    omega

/-! ### papers are right, in plain Lean -/
theorem due_bar {ws a b : List Int} {mx : Int} (t : Tar ws) (ra : Roll ws.length mx a) (rb : Roll ws.length mx b) {r : Row} (d : Due ws a b r) {m : Int} (hm : Com ws a b m) (h : m ≤ r.1) : m ≤ r.2.1 := by
  have k0 := d.k0
  have kn := d.kn
  have hi : r.2.2.toNat < ws.length := by omega
  have hw := tar_at t hi
  have hmod := ((com_iff t ra rb m).mp hm).2.2 _ hi
  have dq := d.q
  have dm := d.m
  generalize r.2.2.toNat = i at hi hw hmod dq dm
  have e1 := Int.mul_ediv_add_emod m (gd ws i)
  have e2 := Int.mul_ediv_add_emod r.2.1 (gd ws i)
  have hq1 : m / gd ws i ≤ r.1 / gd ws i := Int.ediv_le_ediv (by omega) h
  rcases Int.lt_or_le r.2.1 m with g | g
  · have hq2 : r.2.1 / gd ws i ≤ m / gd ws i := Int.ediv_le_ediv (by omega) (by omega)
    have e3 : m / gd ws i = r.2.1 / gd ws i := by omega
    rw [e3] at e1
    omega
  · exact g
theorem bars_sound {ws a b : List Int} {mx : Int} (t : Tar ws) (ra : Roll ws.length mx a) (rb : Roll ws.length mx b) {z : Int} {rs : List Row} (h : Bars ws a b z rs) {m : Int} (hm : Com ws a b m) : m ≤ z := by
  have h0 := ((com_iff t ra rb m).mp hm).2.1
  rcases h with ⟨_, h⟩ | ⟨f, l, h1, h2, h3, h4, h5, h6⟩
  · omega
  · have step : ∀ (i : Nat) (r : Row), rs[i]? = some r → m ≤ r.1 := by
      intro i
      induction i with
      | zero =>
        intro r hr
        rw [List.head?_eq_getElem?, hr] at h1
        cases h1
        omega
      | succ i ih =>
        intro r hr
        have hlt := (List.getElem?_eq_some_iff.mp hr).1
        have hs : rs[i]? = some rs[i] := List.getElem?_eq_getElem (by omega)
        rw [h5 i rs[i] r hs hr]
        exact due_bar t ra rb (h6 _ (List.getElem_mem _)) hm (ih _ hs)
    rw [List.getLast?_eq_getElem?] at h2
    rw [← h4]
    exact due_bar t ra rb (h6 l (List.mem_of_getElem? h2)) hm (step _ l h2)
theorem falls_bnd {ws a b : List Int} {mx : Int} (t : Tar ws) (ra : Roll ws.length mx a) (rb : Roll ws.length mx b) : ∀ k, k ≤ ws.length → ∀ r ∈ (fst ws a b k).1, 0 ≤ r.2.1 ∧ r.2.1 ≤ r.1 ∧ r.1 ≤ min (wt ws a) (wt ws b)
  | 0, _ => fun r h => absurd h (by simp [fst])
  | k + 1, hk => by
    have ih := falls_bnd t ra rb k (by omega)
    have ok := fst_ok t ra rb k (by omega)
    have fr := frows t ra rb (k + 1) hk
    intro r hr
    have d := fr.due r hr
    refine ⟨d.l0, by have := d.lh; omega, ?_⟩
    change r ∈ (fstep ws a b (ws.length - 1 - k) (fst ws a b k)).1 at hr
    unfold fstep at hr
    split at hr
    · rcases List.mem_append.mp hr with h | h
      · exact (ih r h).2.2
      · rw [List.mem_singleton] at h
        subst h
        exact ok.le
    · exact (ih r hr).2.2

/-! ### rows on the heap -/
abbrev rowV (r : Row) : List V := [.int r.1, .int r.2.1, .int r.2.2]
abbrev rowD (r : Row) : PyData := .tuple [.int r.1, .int r.2.1, .int r.2.2]
def RowsD (K : PySem.W.Frag) (H : Hp) (vs : List V) (rs : List Row) : Prop := ∃ l : List (Addr × Row), vs = l.map (fun x => V.ref x.1) ∧ rs = l.map Prod.snd ∧ ∀ x ∈ l, SqT K H x.1 (rowV x.2)
theorem sqT_mut {K : PySem.W.Frag} {H : Hp} {p q : Addr} {xs ys zs : List V} (hp : H p = some (.lst xs)) (e : SqT K H q ys) : SqT K (upd H p (.lst zs)) q ys := by
  rcases e with (e | ⟨u, e⟩) | e
  · have n : q ≠ p := fun c => by rw [c, hp] at e; cases e
    exact .inl (.inl (by rw [upd_ne n]; exact e))
  · have n : q ≠ p := fun c => by rw [c, hp] at e; cases e
    exact .inl (.inr ⟨u, by rw [upd_ne n]; exact e⟩)
  · exact .inr e
section
variable {K : PySem.W.Frag} {H H' : Hp} {vs ws : List V} {rs qs : List Row}
theorem RowsD.nil : RowsD K H [] [] := ⟨[], rfl, rfl, fun x h => absurd h (by simp)⟩
theorem RowsD.ex (r : RowsD K H vs rs) (e : Ex H H') : RowsD K H' vs rs := by
  obtain ⟨l, h1, h2, h3⟩ := r
  exact ⟨l, h1, h2, fun x hx => ex_t e (h3 x hx)⟩
theorem RowsD.mut {p : Addr} {xs zs : List V} (r : RowsD K H vs rs) (hp : H p = some (.lst xs)) : RowsD K (upd H p (.lst zs)) vs rs := by
  obtain ⟨l, h1, h2, h3⟩ := r
  exact ⟨l, h1, h2, fun x hx => sqT_mut hp (h3 x hx)⟩
theorem RowsD.len (r : RowsD K H vs rs) : vs.length = rs.length := by
  obtain ⟨l, rfl, rfl, _⟩ := r
  rw [List.length_map, List.length_map]
theorem RowsD.app (r : RowsD K H vs rs) (s : RowsD K H ws qs) : RowsD K H (vs ++ ws) (rs ++ qs) := by
  obtain ⟨l, rfl, rfl, h3⟩ := r
  obtain ⟨m, rfl, rfl, g3⟩ := s
  exact ⟨l ++ m, by rw [List.map_append], by rw [List.map_append], fun x hx => (List.mem_append.mp hx).elim (h3 x) (g3 x)⟩
theorem RowsD.one {q : Addr} {r : Row} (h : SqT K H q (rowV r)) : RowsD K H [.ref q] [r] := ⟨[(q, r)], rfl, rfl, fun x hx => by
  rw [List.mem_singleton] at hx
  subst hx
  exact h⟩
theorem RowsD.get {i : Nat} {v : V} (r : RowsD K H vs rs) (h : vs[i]? = some v) : ∃ q row, v = .ref q ∧ rs[i]? = some row ∧ SqT K H q (rowV row) := by
  obtain ⟨l, rfl, rfl, h3⟩ := r
  rw [List.getElem?_map] at h
  cases e : l[i]? with
  | none => rw [e] at h; cases h
  | some x =>
    rw [e] at h
    have h' := (Option.some.inj h).symm
    exact ⟨x.1, x.2, h', by rw [List.getElem?_map, e]; rfl, h3 x (List.mem_of_getElem? e)⟩
theorem RowsD.last {v : V} (r : RowsD K H vs rs) (h : vs.getLast? = some v) : ∃ q row, v = .ref q ∧ rs.getLast? = some row ∧ SqT K H q (rowV row) := by
  rw [List.getLast?_eq_getElem?] at h
  obtain ⟨q, row, a, b, c⟩ := r.get h
  exact ⟨q, row, a, by rw [List.getLast?_eq_getElem?, ← r.len]; exact b, c⟩
theorem RowsD.take (r : RowsD K H vs rs) (i : Nat) : RowsD K H (vs.take i) (rs.take i) := by
  obtain ⟨l, rfl, rfl, h3⟩ := r
  exact ⟨l.take i, by rw [List.map_take], by rw [List.map_take], fun x hx => h3 x (List.mem_of_mem_take hx)⟩
theorem RowsD.drop (r : RowsD K H vs rs) (i : Nat) : RowsD K H (vs.drop i) (rs.drop i) := by
  obtain ⟨l, rfl, rfl, h3⟩ := r
  exact ⟨l.drop i, by rw [List.map_drop], by rw [List.map_drop], fun x hx => h3 x (List.mem_of_mem_drop hx)⟩
theorem RowsD.dp (r : RowsD K H vs rs) : DpAll K H vs (rs.map rowD) := by
  obtain ⟨l, rfl, rfl, h3⟩ := r
  induction l with
  | nil => exact .nil
  | cons x l ih => exact .cons (.tup (h3 x List.mem_cons_self) (.cons (.int _) (.cons (.int _) (.cons (.int _) .nil)))) (ih fun y hy => h3 y (List.mem_cons_of_mem _ hy))
end

/-! ### xs[a:c] = ys -/
/-- the pieces of a slice store -/
def slS (K : PySem.W.Frag) (v : V) (Q : L2.St → Hp → Prop) (σ : L2.St) : V → Option Int → Option Int → Hp → Prop := fun o lo hi H3 => ∃ (l b : Addr) (xs ys : List V) (a c : Int), o = .ref l ∧ lo = some a ∧ hi = some c ∧ v = .ref b ∧ H3 l = some (.lst xs) ∧ H3 b = some (.lst ys) ∧ l ≠ b ∧ 0 ≤ a ∧ a ≤ c ∧ c ≤ (xs.length : Int) ∧ xs.length + ys.length ≤ sizeLine ∧
  Q σ (upd H3 l (.lst (xs.take a.toNat ++ ys ++ xs.drop c.toNat)))
def gSl (K : PySem.W.Frag) (to : TE) (tl th : TO) : TG := fun v σ H Q => to σ H fun o H1 => tl σ H1 fun lo H2 => th σ H2 fun hi H3 => slS K v Q σ o lo hi H3
theorem pg_sl {X : Cx} {o : Expr} {lo hi : Option Expr} {to : TE} {tl th : TO} {p2 pos : Pos} (ho : PE X o to) (hl : PO X lo tl) (hu : PO X hi th)
    (ha : ∀ v, assign (.Subscript o (.Slice lo hi none p2) pos) X.env v = (do
      let ov ← holding [v] (eval o X.env)
      let iv ← holding [v, ov] (eval (.Slice lo hi none p2) X.env)
      standAt pos
      holding [v, ov, iv] (setItem ov iv v)
      release [iv, v, ov] []) := by intro _; rfl) : PG X (.Subscript o (.Slice lo hi none p2) pos) (gSl X.K to tl th) := by
  refine ⟨fun pins s σ H v u Q I r h => ?_⟩
  rw [ha]
  refine wpAny_bind (wpAny_holding (thn (ho.run pins s σ H _ I h) fun ov s1 ⟨x, H1, I1, r1, q1⟩ => ?_))
  refine wpAny_bind (wpAny_holding (wpAny_Slice (thn (hl.run pins s1 σ H1 _ I1 q1) fun vl s2 ⟨l, H2, I2, pl, q2⟩ => thn (hu.run pins s2 σ H2 _ I2 q2) fun vu s3 ⟨c, H3, I3, pu, q3⟩ => ?_)))
  rw [evalPart_none]
  refine wpAny_pure ?_
  have I4 : Inv X pins σ H3 { s3 with heap := s3.heap.push { cls := .type "slice", data := .fields #[vl, vu, .none] } } := I3.kept (t' := s3.toks) fun b ob q => Heap.get?_push_of_some _ q
  obtain ⟨ll, b, xs, ys, a, cc, rfl, rfl, rfl, rfl, g1, g2, g3, g4, g5, g6, g7, q⟩ := q3
  cases r1
  cases r
  cases pl with | int _ ta => cases pu with | int _ tc =>
  refine wpAny_bind (wpAny_standAt (wpAny_bind (wpAny_holding (set_slice I4 g1 g2 g3 (Heap.IsSliceOf.new ..) ⟨ta, rfl⟩ ⟨tc, rfl⟩ g4 g5 g6 g7 fun s' I' => ?_))))
  exact wpAny_release ⟨σ, _, I', q⟩
def glQ1 (K : PySem.W.Frag) (tl th : TO) (v : V) (σ : L2.St) (Q : L2.St → Hp → Prop) : VK := fun o H1 => tl σ H1 fun lo H2 => th σ H2 fun hi H3 => slS K v Q σ o lo hi H3
def glQ2 (K : PySem.W.Frag) (th : TO) (v : V) (σ : L2.St) (Q : L2.St → Hp → Prop) (o : V) : Option Int → Hp → Prop := fun lo H2 => th σ H2 fun hi H3 => slS K v Q σ o lo hi H3
def glQ3 (K : PySem.W.Frag) (v : V) (σ : L2.St) (Q : L2.St → Hp → Prop) (o : V) (lo : Option Int) : Option Int → Hp → Prop := fun hi H3 => slS K v Q σ o lo hi H3
section
variable {K : PySem.W.Frag} {to : TE} {tl th : TO} {v o : V} {σ : L2.St} {H : Hp} {Q : L2.St → Hp → Prop} {R : Prop} {lo hi : Option Int} {f : L2.St → Hp → Prop} {rt : VK} {bk ct : L2.St → Hp → Prop}
instance r_asgSl [i0 : Run (to σ H (glQ1 K tl th v σ f)) R] : Run (asgQ (gSl K to tl th) (Ends.mk f rt bk ct) σ v H) R := ⟨fun h => i0.go h⟩
instance r_glQ1 [i0 : Run (tl σ H (glQ2 K th v σ Q o)) R] : Run (glQ1 K tl th v σ Q o H) R := ⟨fun h => i0.go h⟩
instance r_glQ2 [i0 : Run (th σ H (glQ3 K v σ Q o lo)) R] : Run (glQ2 K th v σ Q o lo H) R := ⟨fun h => i0.go h⟩
instance r_glQ3 [i0 : Run (slS K v Q σ o lo hi H) R] : Run (glQ3 K v σ Q o lo hi H) R := ⟨fun h => i0.go h⟩
end
/-! ### xs.insert(i, y), xs.pop(i) -/
def rInsert : V → List V → Hp → VK → Prop := fun x vs H Q => ∃ (l : Addr) (xs : List V) (i : Int) (y : V), x = .ref l ∧ vs = [.int i, y] ∧ H l = some (.lst xs) ∧ xs.length < sizeLine ∧ 0 ≤ i ∧ i < 2 ^ 63 ∧ Q .non (upd H l (.lst (xs.take i.toNat ++ [y] ++ xs.drop i.toNat)))
theorem g_insert {X : Cx} : MtR X "list.insert" rInsert := mt_insert
theorem x_insert {H : Hp} {p : Addr} {xs : List V} {i : Nat} {y : V} {Q : VK} (h : H p = some (.lst xs)) (hz : xs.length < sizeLine) (hi : i < 2 ^ 63) (k : Q .non (upd H p (.lst (xs.take i ++ [y] ++ xs.drop i)))) : rInsert (.ref p) [.int (i : Int), y] H Q :=
  ⟨p, xs, i, y, rfl, rfl, h, hz, Int.natCast_nonneg _, by omega, by rw [Int.toNat_natCast]; exact k⟩
theorem x_popAt {H : Hp} {p : Addr} {xs : List V} {i : Nat} {y : V} {Q : VK} (h : H p = some (.lst xs)) (hy : xs[i]? = some y) (hs : i < 2 ^ 63) (k : Q y (upd H p (.lst (xs.eraseIdx i)))) : rPopAt (.ref p) [.int (i : Int)] H Q :=
  ⟨p, xs, i, i, y, rfl, rfl, h, by omega, by omega, (ixN_seq (ixN_nat (List.getElem?_eq_some_iff.mp hy).1)).1, hy, k⟩

/-! ### what falls tells -/
def spFalls (K : PySem.W.Frag) : Sp := fun vs H Q _ => ∃ (a b c : Addr) (ws xs ys : List Int) (mx : Int), vs = [.ref a, .ref b, .ref c] ∧ SqL K H a (ws.map V.int) ∧ SqL K H b (xs.map V.int) ∧ SqL K H c (ys.map V.int) ∧ Tar ws ∧ Roll ws.length mx xs ∧ Roll ws.length mx ys ∧ mx ≤ 1000 ∧
  ∀ p us H', H p = none → Ex H H' → H' p = some (.lst us) → RowsD K H' us (fallsL ws xs ys) → Q (.ref p) H'

/-! ### list(range(n)), xs[::-1] -/
def lrgQ (Q : VK) : Int → Int → Hp → Prop := fun a b H1 => RgOk a b ∧ ∀ q, H1 q = none → Q (.ref q) (upd H1 q (.lst (rgV a b)))
def revLQ (K : PySem.W.Frag) (Q : VK) : VK := fun x H1 => ∃ a xs, x = .ref a ∧ SqL K H1 a xs ∧ ∀ p, H1 p = none → Q (.ref p) (upd H1 p (.lst xs.reverse))
section
variable {K : PySem.W.Frag} {σ : L2.St} {H : Hp} {Q : VK} {R : Prop} {ta : TE}
instance r_lstRg {tr : L2.St → Hp → (Int → Int → Hp → Prop) → Prop} [i0 : Run (tr σ H (lrgQ Q)) R] : Run (tLstRg tr σ H Q) R := ⟨fun h => i0.go h⟩
instance r_revL [i0 : Run (ta σ H (revLQ K Q)) R] : Run (tRevL K ta σ H Q) R := ⟨fun h => i0.go h⟩
theorem x_lrgQ {n : Nat} (h : n ≤ 1000) (k : ∀ q, H q = none → Q (.ref q) (upd H q (.lst ((List.range n).map fun i => V.int (i : Nat))))) : lrgQ Q 0 (n : Int) H := by
  refine ⟨RgOk.of_le (by decide) (by omega) (by decide) (by omega), fun q hq => ?_⟩
  have e : rgV 0 (n : Int) = (List.range n).map fun i => V.int (i : Nat) := by
    unfold rgV
    rw [show ((n : Int) - 0).toNat = n by omega]
    exact List.map_congr_left fun i _ => by rw [Int.zero_add]
  rw [e]
  exact k q hq
theorem x_revLQ {p : Addr} {xs : List V} (h : SqL K H p xs) (k : ∀ q, H q = none → Q (.ref q) (upd H q (.lst xs.reverse))) : revLQ K Q (.ref p) H := ⟨p, xs, rfl, h, k⟩
theorem rev_at {n i : Nat} {x : V} (h : (((List.range n).map fun i => V.int (i : Nat)).reverse)[i]? = some x) : i < n ∧ x = .int ((n - 1 - i : Nat) : Int) := by
  have hlt := (List.getElem?_eq_some_iff.mp h).1
  rw [List.length_reverse, List.length_map, List.length_range] at hlt
  refine ⟨hlt, ?_⟩
  rw [List.getElem?_reverse (by rw [List.length_map, List.length_range]; exact hlt), List.length_map, List.length_range, List.getElem?_map, List.getElem?_range (by omega)] at h
  exact (Option.some.inj h).symm
end
/-! ### the law's own falls -/
abbrev s__law_falls : Stmt := top 20
abbrev N__law_falls : List Str := ["_law_worths_here", "_law_one", "_law_other", "_law_low", "_law_rows", "_law_rank", "_law_lesser"]
theorem sc__law_falls : FnScope N__law_falls ["_law_worths_here", "_law_one", "_law_other"] (defScope s__law_falls) := ⟨rfl, rfl, rfl, by decide +kernel, rfl, by decide +kernel, by decide +kernel⟩

section
variable {P : Program} {w : World} {K : PySem.W.Frag} {mg : Str → Option Value} {base : Heap}
theorem D_lfalls (T : Txt K mg) (D__law_weight : Dn P w K mg base CX0 1 "_law_weight" ["_law_worths_here", "_law_counts_here"] (spLWeight K)) (F : Df K mg "_law_falls" s__law_falls) : Dn P w K mg base CX0 2 "_law_falls" ["_law_worths_here", "_law_one", "_law_other"] (spFalls K) := by
  refine F.dn sc__law_falls (fun _ _ _ _ _ _ us hl => match us, hl with | [_, _, _], _ => rfl) (fun vs H Q E h => ?_) (fun f cdv A outer s H vs Q E hr hK h => ?_)
  · obtain ⟨a, b, c, ws, xs, ys, mx, rfl, _⟩ := h
    rfl
  · obtain ⟨a, b, c, ws, xs, ys, mx, rfl, ha, hb, hc, t, rx, ry, hmx, k⟩ := h
    refine ⟨_, (pss_cons (ps_set (i := 3) sc__law_falls.nd rfl (Or.inl rfl) (pe_callB (g_min rfl) rfl T.m_min boot_min (pa_cons (pe_dn D__law_weight (hr.mono (by first | decide | omega)) pass0 (pa_cons (pv 0) (pa_cons (pv 1) pa_nil))) (pa_cons (pe_dn D__law_weight (hr.mono (by first | decide | omega)) pass0 (pa_cons (pv 0) (pa_cons (pv 2) pa_nil))) pa_nil))))
      (pss_cons (ps_set (i := 4) sc__law_falls.nd rfl (Or.inl rfl) (pe_lst pa_nil))
      (pss_cons (ps_for PassesOwn.never rfl (pi_list (pe_revL (pe_listRg rfl rfl T.m_list (prg_1 rfl T.m_range (pe_callB g_len rfl T.m_len boot_len (pa_cons (pv 0) pa_nil)))))) (pg_name (i := 5) sc__law_falls.nd rfl (Or.inl rfl)) (pss_cons (ps_set (i := 6) sc__law_falls.nd rfl (Or.inl rfl) (pe_callB (g_min rfl) rfl T.m_min boot_min (pa_cons (pe_dn D__law_weight (hr.mono (by first | decide | omega)) pass0 (pa_cons (pe_slice sl_list (pv 0) po_none (po_some (pv 5))) (pa_cons (pe_slice sl_list (pv 1) po_none (po_some (pv 5))) pa_nil))) (pa_cons (pe_dn D__law_weight (hr.mono (by first | decide | omega)) pass0 (pa_cons (pe_slice sl_list (pv 0) po_none (po_some (pv 5))) (pa_cons (pe_slice sl_list (pv 2) po_none (po_some (pv 5))) pa_nil))) pa_nil))))
      (pss_one (ps_if (pt_cmpR op_gt (pe_op op_mod (pv 3) (pe_ix ix_list (pv 0) (pv 5) (fun _ _ => rfl))) (pv 6) (nomark _)) (pss_cons (ps_expr (pe_bm PySem.F.plainAttrs_list PySem.F.slot_list_append PySem.F.type_list_append mt_append (pv 4) (pa_cons (pe_tup (pa_cons (pv 3) (pa_cons (pe_op op_add (pe_op op_sub (pv 3) (pe_op op_mod (pv 3) (pe_ix ix_list (pv 0) (pv 5) (fun _ _ => rfl)))) (pv 6)) (pa_cons (pv 5) pa_nil)))) pa_nil)))
      (pss_one (ps_set (i := 3) sc__law_falls.nd rfl (Or.inl rfl) (pe_ix ix_tup (pe_ix ix_list (pv 4) (pe_un un_neg pe_int) (fun _ _ => rfl)) pe_int (fun _ _ => rfl))))) pss_nil))))
      (pss_one (ps_ret (pv 4)))))), ?_⟩
    try rw [hK]
    rw [show L2.start N__law_falls [.ref a, .ref b, .ref c] = [some (.ref a), some (.ref b), some (.ref c), none, none, none, none] from rfl]
    have tl := t.len
    have sw := tar_sm t
    have sx := rx.sm (by omega)
    have sy := ry.sm (by omega)
    have rxl := rx.len
    have ryl := ry.len
    walk_at "sx"
    refine ⟨a, b, ws, xs, rfl, ha, hb, sw, sx, by omega, rxl, ?_⟩
    walk_at "sx"
    refine ⟨a, c, ws, ys, rfl, ha, hc, sw, sy, by omega, ryl, ?_⟩
    walk_at "sx"
    rw [min_if]
    intro p hp
    walk_at "sx"
    rw [List.length_map]
    refine x_lrgQ (by omega) fun q1 hq1 => ?_
    walk_at "sx"
    refine x_revLQ (SqL.of upd_same) fun q2 hq2 => ?_
    walk_at "sx"
    refine x_iLQ (SqL.of upd_same) ?_
    have e2 : Ex H (upd (upd (upd H p (.lst [])) q1 (.lst ((List.range ws.length).map fun i => V.int (i : Nat)))) q2 (.lst ((List.range ws.length).map fun i => V.int (i : Nat)).reverse)) := (Ex.new hp).trans ((Ex.new hq1).trans (Ex.new hq2))
    have hp2 : upd (upd (upd H p (.lst [])) q1 (.lst ((List.range ws.length).map fun i => V.int (i : Nat)))) q2 (.lst ((List.range ws.length).map fun i => V.int (i : Nat)).reverse) p = some (.lst []) := Ex.new hq2 _ _ (Ex.new hq1 _ _ upd_same)
    have hq22 : upd (upd (upd H p (.lst [])) q1 (.lst ((List.range ws.length).map fun i => V.int (i : Nat)))) q2 (.lst ((List.range ws.length).map fun i => V.int (i : Nat)).reverse) q2 = some (.lst ((List.range ws.length).map fun i => V.int (i : Nat)).reverse) := upd_same
    have nq2 : q2 ≠ p := ne_fresh hq2 (Ex.new hq1 _ _ upd_same)
    generalize upd (upd (upd H p (.lst [])) q1 (.lst ((List.range ws.length).map fun i => V.int (i : Nat)))) q2 (.lst ((List.range ws.length).map fun i => V.int (i : Nat)).reverse) = H2 at e2 hp2 hq22 ⊢
    refine x_forQ walk_list (fun i σ H' => Ex H H' ∧ H' q2 = some (.lst ((List.range ws.length).map fun i => V.int (i : Nat)).reverse) ∧ ∃ us v5 v6, H' p = some (.lst us) ∧ RowsD K H' us (fst ws xs ys i).1 ∧ σ = [some (.ref a), some (.ref b), some (.ref c), some (.int (fst ws xs ys i).2), some (.ref p), v5, v6])
      ⟨e2, hq22, [], none, none, hp2, .nil, rfl⟩ (fun i σ H' _ pv => SqL.of pv.2.1) ?_ ?_
    · rintro i x σ H5 H5' hi ⟨e5, h25, us, v5, v6, hp5, hr5, rfl⟩ ⟨rfl, hx⟩
      obtain ⟨hi', rfl⟩ := rev_at hx
      have ok := fst_ok t rx ry i (by omega)
      have hstep : fst ws xs ys (i + 1) = fstep ws xs ys (ws.length - 1 - i) (fst ws xs ys i) := rfl
      have hj : ws.length - 1 - i < ws.length := by omega
      rw [hstep]
      generalize ws.length - 1 - i = j at hj hx ⊢
      generalize fst ws xs ys i = s at hr5 ok ⊢
      have hw := tar_at t hj
      have hul := hr5.len
      have hsl := ok.len
      have hatw : atI (ws.map V.int) (j : Int) = some (.int (gd ws j)) := at_getD (i := j) rfl hj
      walk_at "sx"
      refine x_slL (ex_l e5 ha) ?_
      rw [cut_to, ← List.map_take]
      intro p1 hp1
      have f1 := Ex.new hp1 (o := .lst ((ws.take j).map V.int))
      walk_at "sx"
      refine x_slL (ex_l (e5.trans f1) hb) ?_
      rw [cut_to, ← List.map_take]
      intro p2 hp2
      have f2 := f1.trans (Ex.new hp2 (o := .lst ((xs.take j).map V.int)))
      walk_at "sx"
      refine ⟨p1, p2, ws.take j, xs.take j, rfl, ex_l (Ex.new hp2) (SqL.of upd_same), SqL.of upd_same, sw.take j, sx.take j, by rw [List.length_take]; omega, by rw [List.length_take, List.length_take]; omega, ?_⟩
      walk_at "sx"
      refine x_slL (ex_l (e5.trans f2) ha) ?_
      rw [cut_to, ← List.map_take]
      intro p3 hp3
      have f3 := f2.trans (Ex.new hp3 (o := .lst ((ws.take j).map V.int)))
      walk_at "sx"
      refine x_slL (ex_l (e5.trans f3) hc) ?_
      rw [cut_to, ← List.map_take]
      intro p4 hp4
      have f4 := f3.trans (Ex.new hp4 (o := .lst ((ys.take j).map V.int)))
      walk_at "sx"
      refine ⟨p3, p4, ws.take j, ys.take j, rfl, ex_l (Ex.new hp4) (SqL.of upd_same), SqL.of upd_same, sw.take j, sy.take j, by rw [List.length_take]; omega, by rw [List.length_take, List.length_take]; omega, ?_⟩
      walk_at "sx"
      rw [min_if]
      have e9 := e5.trans f4
      have hp9 := f4 _ _ hp5
      have h29 := f4 _ _ h25
      have hr9 := hr5.ex f4
      generalize upd (upd (upd (upd H5' p1 (.lst ((ws.take j).map V.int))) p2 (.lst ((xs.take j).map V.int))) p3 (.lst ((ws.take j).map V.int))) p4 (.lst ((ys.take j).map V.int)) = H9 at e9 hp9 h29 hr9 ⊢
      refine x_ixL (ex_l e9 ha) hatw ?_
      walk_at "sx"
      refine x_ifD (fun g => ?_) (fun g => ?_)
      · have ef : fstep ws xs ys j s = (s.1 ++ [(s.2, s.2 - s.2 % gd ws j + mn ws xs ys j, (j : Int))], s.2 - s.2 % gd ws j + mn ws xs ys j) := if_pos (by show min _ _ < _; exact g)
        rw [ef]
        walk_at "sx"
        refine x_ixL (ex_l e9 ha) hatw ?_
        walk_at "sx"
        intro q hq
        walk_at "sx"
        have eq := Ex.new hq (o := .tup [.int s.2, .int (s.2 - s.2 % gd ws j + mn ws xs ys j), .int (j : Int)])
        refine x_append (eq _ _ hp9) (small1000 (by omega)) ?_
        walk_at "sx"
        refine x_ixL (SqL.of upd_same) (atI_last _ _) ?_
        walk_at "sx"
        refine x_ixTn (i := 1) (sqT_mut (eq _ _ hp9) (SqT.of upd_same)) (by decide) rfl ?_
        walk_at "sx"
        exact ⟨(e9.trans eq).mut hp, by rw [upd_ne nq2]; exact eq _ _ h29, _, _, _, upd_same, ((hr9.ex eq).app (RowsD.one (r := (s.2, s.2 - s.2 % gd ws j + mn ws xs ys j, (j : Int))) (SqT.of upd_same))).mut (eq _ _ hp9), rfl⟩
      · have ef : fstep ws xs ys j s = s := if_neg (by show ¬ min _ _ < _; exact g)
        rw [ef]
        walk_at "sx"
        exact ⟨e9, h29, us, _, _, hp9, hr9, rfl⟩
    · rintro σ H5 ⟨e5, h25, us, v5, v6, hp5, hr5, rfl⟩
      rw [List.length_reverse, List.length_map, List.length_range] at hr5 ⊢
      walk_at "sx"
      refine k p us H5 hp e5 hp5 hr5
end

/-! ### rows bent -/
abbrev s__law_bent_rows : Stmt := top 21
abbrev N__law_bent_rows : List Str := ["_law_box_here", "_law_rows", "_law_turn", "_law_at", "_law_off", "_law_high", "_law_low", "_law_rank", "_law_middle"]
theorem sc__law_bent_rows : FnScope N__law_bent_rows ["_law_box_here", "_law_rows"] (defScope s__law_bent_rows) := ⟨rfl, rfl, rfl, by decide +kernel, rfl, by decide +kernel, by decide +kernel⟩

/-- all whole numbers of the rows' weights are of a common size -/
def Bnd (m : Int) (rs : List Row) : Prop := ∀ r ∈ rs, -m ≤ r.1 ∧ r.1 ≤ m ∧ -m ≤ r.2.1 ∧ r.2.1 ≤ m
theorem Bnd.mono {m m' : Int} {rs : List Row} (h : Bnd m rs) (hm : m ≤ m') : Bnd m' rs := fun r hr => by have := h r hr; omega
theorem Bnd.app {m : Int} {rs qs : List Row} (h : Bnd m rs) (g : Bnd m qs) : Bnd m (rs ++ qs) := fun r hr => (List.mem_append.mp hr).elim (h r) (g r)
theorem Bnd.take {m : Int} {rs : List Row} (h : Bnd m rs) (i : Nat) : Bnd m (rs.take i) := fun r hr => h r (List.mem_of_mem_take hr)
theorem Bnd.drop {m : Int} {rs : List Row} (h : Bnd m rs) (i : Nat) : Bnd m (rs.drop i) := fun r hr => h r (List.mem_of_mem_drop hr)
theorem Bnd.one {m : Int} {r : Row} (h : -m ≤ r.1 ∧ r.1 ≤ m ∧ -m ≤ r.2.1 ∧ r.2.1 ≤ m) : Bnd m [r] := fun x hx => by
  rw [List.mem_singleton] at hx
  subst hx
  exact h
theorem Bnd.row {m hi lo rk : Int} (h : -m ≤ hi ∧ hi ≤ m ∧ -m ≤ lo ∧ lo ≤ m) : Bnd m [(hi, lo, rk)] := Bnd.one h
theorem sqT_kb {K : PySem.W.Frag} {H H' : Hp} {b l q : Addr} {n : Nat} {xs : List V} (kb : KB b H H') (B : BoxAt H b l n) (h : SqT K H q xs) : SqT K H' q xs := by
  obtain ⟨_, _, _, _, _, e, _⟩ := B.ex
  rcases h with (h | ⟨o, h⟩) | h
  · exact .inl (.inl (kb.at_ _ _ (fun c => by rw [c, e] at h; cases h) h))
  · exact .inl (.inr ⟨o, kb.at_ _ _ (fun c => by rw [c, e] at h; cases h) h⟩)
  · exact .inr h
section
variable {K : PySem.W.Frag} {H H' : Hp} {vs ws : List V} {rs qs : List Row}
theorem RowsD.kb {b l : Addr} {n : Nat} (r : RowsD K H vs rs) (kb : KB b H H') (B : BoxAt H b l n) : RowsD K H' vs rs := by
  obtain ⟨l, h1, h2, h3⟩ := r
  exact ⟨l, h1, h2, fun x hx => sqT_kb kb B (h3 x hx)⟩
theorem RowsD.erase (r : RowsD K H vs rs) (i : Nat) : RowsD K H (vs.eraseIdx i) (rs.eraseIdx i) := by
  rw [List.eraseIdx_eq_take_drop_succ, List.eraseIdx_eq_take_drop_succ]
  exact (r.take i).app (r.drop (i + 1))
theorem RowsD.set1 {q : Addr} {row : Row} (r : RowsD K H vs rs) {i : Nat} (hi : i < vs.length) (h : SqT K H q (rowV row)) : RowsD K H (vs.set i (.ref q)) (rs.take i ++ [row] ++ rs.drop (i + 1)) := by
  rw [List.set_eq_take_append_cons_drop, if_pos hi]
  have g := ((r.take i).app (RowsD.one h)).app (r.drop (i + 1))
  rw [List.append_assoc] at g
  exact g
end
/-- on the way through the ifs -/
def BMid (K : PySem.W.Frag) (H : Hp) (b l q : Addr) (tn : Int) (k : Nat) (off : Int) (n len : Nat) (m : Int) : L2.St → Hp → Prop := fun σ H' => ∃ us rs v5 v6 v7 v8, σ = [some (.ref b), some (.ref q), some (.int tn), some (.int (k : Int)), some (.int off), v5, v6, v7, v8] ∧ KB b H H' ∧ BoxAt H' b l n ∧ H' q = some (.lst us) ∧ RowsD K H' us rs ∧ rs.length ≤ len ∧ Bnd m rs
theorem BMid.up {K : PySem.W.Frag} {H : Hp} {b l q : Addr} {tn : Int} {k : Nat} {off : Int} {n len n' len' : Nat} {m m' : Int} {σ : L2.St} {H' : Hp} (h : BMid K H b l q tn k off n len m σ H') (g1 : n ≤ n') (g2 : len ≤ len') (g3 : m ≤ m') : BMid K H b l q tn k off n' len' m' σ H' := by
  obtain ⟨us, rs, v5, v6, v7, v8, h1, h2, h3, h4, h5, h6, h7⟩ := h
  exact ⟨us, rs, v5, v6, v7, v8, h1, h2, h3.mono g1, h4, h5, Nat.le_trans h6 g2, h7.mono g3⟩
theorem BMid.fin {K : PySem.W.Frag} {H : Hp} {b l q : Addr} {tn : Int} {k : Nat} {off : Int} {n len : Nat} {m : Int} {G : Hp} {us0 us : List V} {rs : List Row} {v5 v6 v7 v8 : Option V} (hq : H q = none) (n1 : q ≠ b) (n2 : q ≠ l) (kb : KB b H G) (B : BoxAt G b l n) (h4 : G q = some (.lst us0)) (hr : RowsD K G us rs) (hl : rs.length ≤ len) (hb : Bnd m rs) :
    BMid K H b l q tn k off n len m [some (.ref b), some (.ref q), some (.int tn), some (.int (k : Int)), some (.int off), v5, v6, v7, v8] (upd G q (.lst us)) :=
  ⟨us, rs, v5, v6, v7, v8, rfl, kb.mut hq, B.upd n1 n2, upd_same, hr.mut h4, hl, hb⟩
theorem Bnd.put {m m' : Int} {rs qs : List Row} (h : Bnd m rs) (hm : m ≤ m') (g : Bnd m' qs) (i j : Nat) : Bnd m' (rs.take i ++ qs ++ rs.drop j) := (((h.take i).mono hm).app g).app ((h.drop j).mono hm)
theorem put_len {rs qs : List Row} {i j : Nat} (h : i ≤ j) : (rs.take i ++ qs ++ rs.drop j).length ≤ rs.length + qs.length ∧ (i < j → i < rs.length → (rs.take i ++ qs ++ rs.drop j).length + 1 ≤ rs.length + qs.length) := by
  rw [List.length_append, List.length_append, List.length_take, List.length_drop]
  omega
def spBent (K : PySem.W.Frag) : Sp := fun vs H Q _ => ∃ (b l p : Addr) (n : Nat) (m : Int) (us : List V) (rs : List Row), vs = [.ref b, .ref p] ∧ BoxAt H b l n ∧ n ≤ 100000 ∧ SqL K H p us ∧ RowsD K H us rs ∧ rs.length ≤ 500 ∧ Bnd m rs ∧ 2000 ≤ m ∧ m ≤ 10 ^ 12 ∧
  ∀ q us' rs' H', H q = none → KB b H H' → BoxAt H' b l (n + 18) → H' q = some (.lst us') → RowsD K H' us' rs' → rs'.length ≤ rs.length + 7 → Bnd (m + 14000) rs' → Q (.ref q) H'
section
variable {P : Program} {w : World} {K : PySem.W.Frag} {mg : Str → Option Value} {base : Heap}
theorem D_bent (T : Txt K mg) (D__law_take : Dn P w K mg base CX0 2 "_law_take" ["_law_box_here", "_law_size"] spTake) (F : Df K mg "_law_bent_rows" s__law_bent_rows) : Dn P w K mg base CX0 3 "_law_bent_rows" ["_law_box_here", "_law_rows"] (spBent K) := by
  refine F.dn sc__law_bent_rows (fun _ _ _ _ _ _ us hl => match us, hl with | [_, _], _ => rfl) (fun vs H Q E h => ?_) (fun f cdv A outer s H vs Q E hr hK h => ?_)
  · obtain ⟨b, l, p, n, m, us, rs, rfl, _⟩ := h
    rfl
  · obtain ⟨b, l, p, n, m, us0, rs0, rfl, B, hn, hus, hrs, hrl, hb, m1, m2, k⟩ := h
    refine ⟨_, (pss_cons (ps_set (i := 1) sc__law_bent_rows.nd rfl (Or.inl rfl) (pe_callTy g_list rfl T.m_list boot_list (pa_cons (pv 1) pa_nil)))
      (pss_cons (ps_set (i := 2) sc__law_bent_rows.nd rfl (Or.inl rfl) (pe_dn D__law_take (hr.mono (by first | decide | omega)) pass0 (pa_cons (pv 0) (pa_cons pe_int pa_nil))))
      (pss_cons (ps_set (i := 3) sc__law_bent_rows.nd rfl (Or.inl rfl) (pe_dn D__law_take (hr.mono (by first | decide | omega)) pass0 (pa_cons (pv 0) (pa_cons (pe_op op_add (pe_callB g_len rfl T.m_len boot_len (pa_cons (pv 1) pa_nil)) pe_int) pa_nil))))
      (pss_cons (ps_set (i := 4) sc__law_bent_rows.nd rfl (Or.inl rfl) (pe_op op_add pe_int (pe_dn D__law_take (hr.mono (by first | decide | omega)) pass0 (pa_cons (pv 0) (pa_cons (pe_ix ix_list (pe_lst (pa_cons pe_int (pa_cons pe_int (pa_cons pe_int pa_nil)))) (pe_dn D__law_take (hr.mono (by first | decide | omega)) pass0 (pa_cons (pv 0) (pa_cons pe_int pa_nil))) (fun _ _ => rfl)) pa_nil)))))
      (pss_cut (ps_if (PW.pt (pw_and (pt_cmpR op_eq (pv 2) pe_int (nomark _)) (pw_and1 (pt_cmpR op_lt (pv 3) (pe_callB g_len rfl T.m_len boot_len (pa_cons (pv 1) pa_nil)) (nomark _))))) (pss_one (ps_asg (pe_tup (pa_cons (pe_op op_add (pe_ix ix_tup (pe_ix ix_list (pv 1) (pv 3) (fun _ _ => rfl)) pe_int (fun _ _ => rfl)) (pv 4)) (pa_cons (pe_ix ix_tup (pe_ix ix_list (pv 1) (pv 3) (fun _ _ => rfl)) pe_int (fun _ _ => rfl)) (pa_cons (pe_ix ix_tup (pe_ix ix_list (pv 1) (pv 3) (fun _ _ => rfl)) pe_int (fun _ _ => rfl)) pa_nil)))) (pg_sub (pv 1) (pv 3) set_list))) pss_nil)
      (pss_cut (ps_if (PW.pt (pw_and (pt_cmpR op_eq (pv 2) pe_int (nomark _)) (pw_and1 (pt_cmpR op_lt (pv 3) (pe_callB g_len rfl T.m_len boot_len (pa_cons (pv 1) pa_nil)) (nomark _))))) (pss_one (ps_asg (pe_tup (pa_cons (pe_ix ix_tup (pe_ix ix_list (pv 1) (pv 3) (fun _ _ => rfl)) pe_int (fun _ _ => rfl)) (pa_cons (pe_op op_add (pe_ix ix_tup (pe_ix ix_list (pv 1) (pv 3) (fun _ _ => rfl)) pe_int (fun _ _ => rfl)) (pe_ix ix_list (pe_lst (pa_cons (pv 4) (pa_cons (pe_op op_sub pe_int (pv 4)) pa_nil))) (pe_dn D__law_take (hr.mono (by first | decide | omega)) pass0 (pa_cons (pv 0) (pa_cons pe_int pa_nil))) (fun _ _ => rfl))) (pa_cons (pe_ix ix_tup (pe_ix ix_list (pv 1) (pv 3) (fun _ _ => rfl)) pe_int (fun _ _ => rfl)) pa_nil)))) (pg_sub (pv 1) (pv 3) set_list))) pss_nil)
      (pss_cut (ps_if (PW.pt (pw_and (pt_cmpR op_eq (pv 2) pe_int (nomark _)) (pw_and1 (pt_cmpR op_lt (pv 3) (pe_callB g_len rfl T.m_len boot_len (pa_cons (pv 1) pa_nil)) (nomark _))))) (pss_one (ps_asg (pe_tup (pa_cons (pe_ix ix_tup (pe_ix ix_list (pv 1) (pv 3) (fun _ _ => rfl)) pe_int (fun _ _ => rfl)) (pa_cons (pe_ix ix_tup (pe_ix ix_list (pv 1) (pv 3) (fun _ _ => rfl)) pe_int (fun _ _ => rfl)) (pa_cons (pe_op op_sub (pe_dn D__law_take (hr.mono (by first | decide | omega)) pass0 (pa_cons (pv 0) (pa_cons pe_int pa_nil))) pe_int) pa_nil)))) (pg_sub (pv 1) (pv 3) set_list))) pss_nil)
      (pss_cut (ps_if (PW.pt (pw_and (pt_cmpR op_eq (pv 2) pe_int (nomark _)) (pw_and1 (pt_cmpR op_lt (pv 3) (pe_callB g_len rfl T.m_len boot_len (pa_cons (pv 1) pa_nil)) (nomark _))))) (pss_one (ps_expr (pe_bm PySem.F.plainAttrs_list PySem.F.slot_list_pop PySem.F.type_list_pop mt_popAt (pv 1) (pa_cons (pv 3) pa_nil)))) pss_nil)
      (pss_cut (ps_if (PW.pt (pw_and (pt_cmpR op_eq (pv 2) pe_int (nomark _)) (pw_and1 (pt_cmpR op_lt (pv 3) (pe_callB g_len rfl T.m_len boot_len (pa_cons (pv 1) pa_nil)) (nomark _))))) (pss_one (ps_expr (pe_bm PySem.F.plainAttrs_list PySem.F.slot_list_insert PySem.F.type_list_insert g_insert (pv 1) (pa_cons (pv 3) (pa_cons (pe_ix ix_list (pv 1) (pv 3) (fun _ _ => rfl)) pa_nil))))) pss_nil)
      (pss_cut (ps_if (PW.pt (pw_and (pt_cmpR op_eq (pv 2) pe_int (nomark _)) (pw_and1 (pt_cmpR op_lt (pv 3) (pe_callB g_len rfl T.m_len boot_len (pa_cons (pv 1) pa_nil)) (nomark _))))) (pss_cons (ps_asg (pe_ix ix_list (pv 1) (pv 3) (fun _ _ => rfl)) (pg_tup rfl (pgs_cons (pg_name (i := 5) sc__law_bent_rows.nd rfl (Or.inl rfl)) (pgs_cons (pg_name (i := 6) sc__law_bent_rows.nd rfl (Or.inl rfl)) (pgs_cons (pg_name (i := 7) sc__law_bent_rows.nd rfl (Or.inl rfl)) pgs_nil)))))
      (pss_cons (ps_set (i := 8) sc__law_bent_rows.nd rfl (Or.inl rfl) (pe_op op_add (pv 6) (pe_dn D__law_take (hr.mono (by first | decide | omega)) pass0 (pa_cons (pv 0) (pa_cons (pe_callB (g_max rfl) rfl T.m_max boot_max (pa_cons pe_int (pa_cons (pe_op op_sub (pv 5) (pv 6)) pa_nil))) pa_nil)))))
      (pss_one (ps_asg (pe_lst (pa_cons (pe_tup (pa_cons (pv 5) (pa_cons (pv 8) (pa_cons (pv 7) pa_nil)))) (pa_cons (pe_tup (pa_cons (pv 8) (pa_cons (pv 6) (pa_cons (pv 7) pa_nil)))) pa_nil))) (pg_sl (pv 1) (po_some (pv 3)) (po_some (pe_op op_add (pv 3) pe_int))))))) pss_nil)
      (pss_cut (ps_if (pt_cmpR op_eq (pv 2) pe_int (nomark _)) (pss_one (ps_expr (pe_bm PySem.F.plainAttrs_list PySem.F.slot_list_insert PySem.F.type_list_insert g_insert (pv 1) (pa_cons (pv 3) (pa_cons (pe_tup (pa_cons (pv 4) (pa_cons (pe_dn D__law_take (hr.mono (by first | decide | omega)) pass0 (pa_cons (pv 0) (pa_cons (pv 4) pa_nil))) (pa_cons (pe_op op_sub (pe_dn D__law_take (hr.mono (by first | decide | omega)) pass0 (pa_cons (pv 0) (pa_cons pe_int pa_nil))) pe_int) pa_nil)))) pa_nil))))) pss_nil)
      (pss_one (ps_ret (pv 1)))))))))))))), ?_⟩
    try rw [hK]
    rw [show L2.start N__law_bent_rows [.ref b, .ref p] = [some (.ref b), some (.ref p), none, none, none, none, none, none, none] from rfl]
    have hul := hrs.len
    walk_at "sx"
    intro q hq
    walk_at "sx"
    have e1 := Ex.new hq (o := .lst us0)
    refine x_take (B.ex' e1) (by omega) (by omega) (by omega) fun tn H2 a1 a2 kb2 B2 => ?_
    have nqb := BoxAt.ne1 hq B
    have hq2 := kb2.get nqb upd_same
    walk_at "sx"
    refine x_take B2 (by omega) (by omega) (by omega) fun k0 H3 b1 b2 kb3 B3 => ?_
    have hq3 := kb3.get nqb hq2
    obtain ⟨kk, rfl⟩ : ∃ kk : Nat, k0 = kk := ⟨k0.toNat, by omega⟩
    walk_at "sx"
    intro q4 hq4
    walk_at "sx"
    have B4 := B3.ex' (Ex.new hq4 (o := .lst [.int 2, .int 40, .int 2000]))
    refine x_take B4 (by omega) (by omega) (by omega) fun j0 H5 c1 c2 kb5 B5 => ?_
    have hq5 := kb5.get nqb ((Ex.new hq4 (o := .lst [.int 2, .int 40, .int 2000])) _ _ hq3)
    have nq4b := BoxAt.ne1 hq4 B3
    have h45 := kb5.get nq4b (upd_same (H := H3) (a := q4) (o := .lst [.int 2, .int 40, .int 2000]))
    obtain ⟨sz, hsz, hmem, _⟩ := at_int (ns := [2, 40, 2000]) c1 (by show j0 < 3; exact c2)
    have hsz1 : 0 < sz ∧ sz ≤ 2000 := by
      simp only [List.mem_cons, List.not_mem_nil, or_false] at hmem
      omega
    refine x_ixL (SqL.of h45) hsz ?_
    walk_at "sx"
    refine x_take B5 (by omega) (by omega) (by omega) fun r0 H6 d1 d2 kb6 B6 => ?_
    have hq6 := kb6.get nqb hq5
    walk_at "sx"
    have ho1 : 1 ≤ 1 + r0 := by omega
    have ho2 : 1 + r0 ≤ 2000 := by omega
    have kbe : KB b H H6 := (KB.of_ex e1).trans (kb2.trans (kb3.trans ((KB.of_ex (Ex.new hq4 (o := .lst [.int 2, .int 40, .int 2000]))).trans (kb5.trans kb6))))
    have start : BMid K H b l q tn kk (1 + r0) (n + 4) rs0.length m [some (.ref b), some (.ref q), some (.int tn), some (.int (kk : Int)), some (.int (1 + r0)), none, none, none, none] H6 :=
      ⟨us0, rs0, none, none, none, none, rfl, kbe, B6, hq6, hrs.kb kbe B, Nat.le_refl _, hb⟩
    generalize 1 + r0 = off at ho1 ho2 start ⊢
    have nql := BoxAt.ne2 hq B
    have hrl0 := hrl
    have fin : ∀ G, BMid K H b l q tn kk off (n + 18) (rs0.length + 7) (m + 14000) [some (.ref b), some (.ref q), some (.int tn), some (.int (kk : Int)), some (.int off), none, none, none, none] G → True := fun _ _ => trivial
    clear fin
    have hkk : kk ≤ 600 := by omega
    have mid := start
    have mid0 := start
    clear start hq2 hq3 hq5 h45 hsz hmem hsz1 hq6 B2 B3 B4 B5 B6 kb2 kb3 kb5 kb6 d1 d2 c1 c2 b1 b2
    generalize H6 = G at mid mid0 ⊢
    generalize ([some (.ref b), some (.ref q), some (.int tn), some (.int (kk : Int)), some (.int off), none, none, none, none] : L2.St) = σ at mid mid0 ⊢
    refine x_cut (BMid K H b l q tn kk off (n + 6) (rs0.length + 1) (m + 2000)) ?_ ?_
    · obtain ⟨us, rs, v5, v6, v7, v8, rfl, kb, B7, h4, hr, hl, hbd⟩ := mid
      have hul := hr.len
      walk_at "sx"
      refine x_andD (fun g1 => ?_) (fun g1 => ?_)
      · walk_at "sx"
        refine x_ifD (fun g2 => ?_) (fun g2 => ?_)
        · have hk : kk < us.length := by omega
          obtain ⟨v, hv⟩ : ∃ v, us[kk]? = some v := ⟨us[kk], List.getElem?_eq_getElem hk⟩
          obtain ⟨qr, ⟨hi, lo, rk⟩, rfl, hrow, hqr0⟩ := hr.get hv
          have hqr : SqT K G qr [.int hi, .int lo, .int rk] := hqr0
          have hat : atI us (kk : Int) = some (.ref qr) := at_of (j := kk) rfl hv
          have br : -m ≤ hi ∧ hi ≤ m ∧ -m ≤ lo ∧ lo ≤ m := hbd (hi, lo, rk) (List.mem_of_getElem? hrow)
          walk_at "sx"
          refine x_ixL (SqL.of h4) hat ?_
          walk_at "sx"
          refine x_ixL (SqL.of h4) hat ?_
          walk_at "sx"
          refine x_ixL (SqL.of h4) hat ?_
          walk_at "sx"
          intro qt hqt
          walk_at "sx"
          have et := Ex.new hqt (o := .tup [.int (hi + off), .int lo, .int rk])
          refine x_setL (et _ _ h4) (ixN_nat hk) ?_
          walk_at "sx"
          exact BMid.fin hq nqb nql (kb.trans (KB.of_ex et)) ((B7.ex' et).mono (by omega)) (et _ _ h4) ((hr.ex et).set1 (row := (hi + off, lo, rk)) hk (SqT.of upd_same)) (by have := (put_len (rs := rs) (qs := [(hi + off, lo, rk)]) (i := kk) (j := kk + 1) (by omega)); simp only [List.length_singleton, List.length_cons, List.length_nil] at this; omega) (hbd.put (by omega) (Bnd.row (by omega)) _ _)
        · walk_at "sx"
          exact mid0.up (by omega) (by omega) (by omega)
      · walk_at "sx"
        exact mid0.up (by omega) (by omega) (by omega)
    · clear mid mid0
      rintro σ G mid
      have mid0 := mid
      refine x_cut (BMid K H b l q tn kk off (n + 8) (rs0.length + 2) (m + 4000)) ?_ ?_
      · obtain ⟨us, rs, v5, v6, v7, v8, rfl, kb, B7, h4, hr, hl, hbd⟩ := mid
        have hul := hr.len
        walk_at "sx"
        refine x_andD (fun g1 => ?_) (fun g1 => ?_)
        · walk_at "sx"
          refine x_ifD (fun g2 => ?_) (fun g2 => ?_)
          · have hk : kk < us.length := by omega
            obtain ⟨v, hv⟩ : ∃ v, us[kk]? = some v := ⟨us[kk], List.getElem?_eq_getElem hk⟩
            obtain ⟨qr, ⟨hi, lo, rk⟩, rfl, hrow, hqr0⟩ := hr.get hv
            have hqr : SqT K G qr [.int hi, .int lo, .int rk] := hqr0
            have hat : atI us (kk : Int) = some (.ref qr) := at_of (j := kk) rfl hv
            have br : -(m + 2000) ≤ hi ∧ hi ≤ (m + 2000) ∧ -(m + 2000) ≤ lo ∧ lo ≤ (m + 2000) := hbd (hi, lo, rk) (List.mem_of_getElem? hrow)
            walk_at "sx"
            refine x_ixL (SqL.of h4) hat ?_
            walk_at "sx"
            refine x_ixL (SqL.of h4) hat ?_
            walk_at "sx"
            intro qd hqd
            walk_at "sx"
            have ed := Ex.new hqd (o := .lst [.int off, .int (0 - off)])
            have Bd := B7.ex' ed
            refine x_take Bd (by omega) (by omega) (by omega) fun z H8 z1 z2 kb8 B8 => ?_
            have h48 := kb8.get nqb (ed _ _ h4)
            have hr8 := (hr.ex ed).kb kb8 Bd
            have hqr8 := sqT_kb kb8 Bd (ex_t ed hqr)
            have hd8 := kb8.get (BoxAt.ne1 hqd B7) (upd_same (H := G) (a := qd) (o := .lst [.int off, .int (0 - off)]))
            have kb88 := kb.trans ((KB.of_ex ed).trans kb8)
            obtain ⟨y, hy, hmem, _⟩ := at_int (ns := [off, 0 - off]) z1 (by show z < 2; exact z2)
            have hyb : -2000 ≤ y ∧ y ≤ 2000 := by
              simp only [List.mem_cons, List.not_mem_nil, or_false] at hmem
              omega
            walk_at "sx"
            refine x_ixL (SqL.of hd8) hy ?_
            walk_at "sx"
            refine x_ixL (SqL.of h48) hat ?_
            walk_at "sx"
            intro qt hqt
            walk_at "sx"
            have et := Ex.new hqt (o := .tup [.int hi, .int (lo + y), .int rk])
            refine x_setL (et _ _ h48) (ixN_nat hk) ?_
            walk_at "sx"
            exact BMid.fin hq nqb nql (kb88.trans (KB.of_ex et)) ((B8.ex' et).mono (by omega)) (et _ _ h48) ((hr8.ex et).set1 (row := (hi, lo + y, rk)) hk (SqT.of upd_same)) (by have := (put_len (rs := rs) (qs := [(hi, lo + y, rk)]) (i := kk) (j := kk + 1) (by omega)); simp only [List.length_singleton, List.length_cons, List.length_nil] at this; omega) (hbd.put (by omega) (Bnd.row (by omega)) _ _)
          · walk_at "sx"
            exact mid0.up (by omega) (by omega) (by omega)
        · walk_at "sx"
          exact mid0.up (by omega) (by omega) (by omega)
      · clear mid mid0
        rintro σ G mid
        have mid0 := mid
        refine x_cut (BMid K H b l q tn kk off (n + 10) (rs0.length + 3) (m + 6000)) ?_ ?_
        · obtain ⟨us, rs, v5, v6, v7, v8, rfl, kb, B7, h4, hr, hl, hbd⟩ := mid
          have hul := hr.len
          walk_at "sx"
          refine x_andD (fun g1 => ?_) (fun g1 => ?_)
          · walk_at "sx"
            refine x_ifD (fun g2 => ?_) (fun g2 => ?_)
            · have hk : kk < us.length := by omega
              obtain ⟨v, hv⟩ : ∃ v, us[kk]? = some v := ⟨us[kk], List.getElem?_eq_getElem hk⟩
              obtain ⟨qr, ⟨hi, lo, rk⟩, rfl, hrow, hqr0⟩ := hr.get hv
              have hqr : SqT K G qr [.int hi, .int lo, .int rk] := hqr0
              have hat : atI us (kk : Int) = some (.ref qr) := at_of (j := kk) rfl hv
              have br : -(m + 4000) ≤ hi ∧ hi ≤ (m + 4000) ∧ -(m + 4000) ≤ lo ∧ lo ≤ (m + 4000) := hbd (hi, lo, rk) (List.mem_of_getElem? hrow)
              walk_at "sx"
              refine x_ixL (SqL.of h4) hat ?_
              walk_at "sx"
              refine x_ixL (SqL.of h4) hat ?_
              walk_at "sx"
              refine x_take B7 (by omega) (by omega) (by omega) fun z H8 z1 z2 kb8 B8 => ?_
              have h48 := kb8.get nqb h4
              have hr8 := hr.kb kb8 B7
              have hqr8 := sqT_kb kb8 B7 hqr
              walk_at "sx"
              have kb88 := kb.trans kb8
              intro qt hqt
              walk_at "sx"
              have et := Ex.new hqt (o := .tup [.int hi, .int lo, .int (z - 1)])
              refine x_setL (et _ _ h48) (ixN_nat hk) ?_
              walk_at "sx"
              exact BMid.fin hq nqb nql (kb88.trans (KB.of_ex et)) ((B8.ex' et).mono (by omega)) (et _ _ h48) ((hr8.ex et).set1 (row := (hi, lo, z - 1)) hk (SqT.of upd_same)) (by have := (put_len (rs := rs) (qs := [(hi, lo, z - 1)]) (i := kk) (j := kk + 1) (by omega)); simp only [List.length_singleton, List.length_cons, List.length_nil] at this; omega) (hbd.put (by omega) (Bnd.row (by omega)) _ _)
            · walk_at "sx"
              exact mid0.up (by omega) (by omega) (by omega)
          · walk_at "sx"
            exact mid0.up (by omega) (by omega) (by omega)
        · clear mid mid0
          rintro σ G mid
          have mid0 := mid
          refine x_cut (BMid K H b l q tn kk off (n + 12) (rs0.length + 4) (m + 8000)) ?_ ?_
          · obtain ⟨us, rs, v5, v6, v7, v8, rfl, kb, B7, h4, hr, hl, hbd⟩ := mid
            have hul := hr.len
            walk_at "sx"
            refine x_andD (fun g1 => ?_) (fun g1 => ?_)
            · walk_at "sx"
              refine x_ifD (fun g2 => ?_) (fun g2 => ?_)
              · have hk : kk < us.length := by omega
                obtain ⟨v, hv⟩ : ∃ v, us[kk]? = some v := ⟨us[kk], List.getElem?_eq_getElem hk⟩
                obtain ⟨qr, ⟨hi, lo, rk⟩, rfl, hrow, hqr0⟩ := hr.get hv
                have hqr : SqT K G qr [.int hi, .int lo, .int rk] := hqr0
                have hat : atI us (kk : Int) = some (.ref qr) := at_of (j := kk) rfl hv
                have br : -(m + 6000) ≤ hi ∧ hi ≤ (m + 6000) ∧ -(m + 6000) ≤ lo ∧ lo ≤ (m + 6000) := hbd (hi, lo, rk) (List.mem_of_getElem? hrow)
                walk_at "sx"
                refine x_popAt h4 hv (by omega) ?_
                walk_at "sx"
                exact BMid.fin hq nqb nql kb (B7.mono (by omega)) h4 (hr.erase kk) (by have := List.length_eraseIdx_le rs kk; omega) (fun r hr' => (hbd.mono (by omega)) r (List.mem_of_mem_eraseIdx hr'))
              · walk_at "sx"
                exact mid0.up (by omega) (by omega) (by omega)
            · walk_at "sx"
              exact mid0.up (by omega) (by omega) (by omega)
          · clear mid mid0
            rintro σ G mid
            have mid0 := mid
            refine x_cut (BMid K H b l q tn kk off (n + 14) (rs0.length + 5) (m + 10000)) ?_ ?_
            · obtain ⟨us, rs, v5, v6, v7, v8, rfl, kb, B7, h4, hr, hl, hbd⟩ := mid
              have hul := hr.len
              walk_at "sx"
              refine x_andD (fun g1 => ?_) (fun g1 => ?_)
              · walk_at "sx"
                refine x_ifD (fun g2 => ?_) (fun g2 => ?_)
                · have hk : kk < us.length := by omega
                  obtain ⟨v, hv⟩ : ∃ v, us[kk]? = some v := ⟨us[kk], List.getElem?_eq_getElem hk⟩
                  obtain ⟨qr, ⟨hi, lo, rk⟩, rfl, hrow, hqr0⟩ := hr.get hv
                  have hqr : SqT K G qr [.int hi, .int lo, .int rk] := hqr0
                  have hat : atI us (kk : Int) = some (.ref qr) := at_of (j := kk) rfl hv
                  have br : -(m + 8000) ≤ hi ∧ hi ≤ (m + 8000) ∧ -(m + 8000) ≤ lo ∧ lo ≤ (m + 8000) := hbd (hi, lo, rk) (List.mem_of_getElem? hrow)
                  walk_at "sx"
                  refine x_ixL (SqL.of h4) hat ?_
                  walk_at "sx"
                  refine x_insert h4 (small1000 (by omega)) (by omega) ?_
                  walk_at "sx"
                  exact BMid.fin hq nqb nql kb (B7.mono (by omega)) h4 (((hr.take kk).app (RowsD.one hqr0)).app (hr.drop kk)) (by have := (put_len (rs := rs) (qs := [(hi, lo, rk)]) (i := kk) (j := kk) (by omega)); simp only [List.length_singleton, List.length_cons, List.length_nil] at this; omega) (hbd.put (by omega) (Bnd.row (by omega)) _ _)
                · walk_at "sx"
                  exact mid0.up (by omega) (by omega) (by omega)
              · walk_at "sx"
                exact mid0.up (by omega) (by omega) (by omega)
            · clear mid mid0
              rintro σ G mid
              have mid0 := mid
              refine x_cut (BMid K H b l q tn kk off (n + 16) (rs0.length + 6) (m + 12000)) ?_ ?_
              · obtain ⟨us, rs, v5, v6, v7, v8, rfl, kb, B7, h4, hr, hl, hbd⟩ := mid
                have hul := hr.len
                walk_at "sx"
                refine x_andD (fun g1 => ?_) (fun g1 => ?_)
                · walk_at "sx"
                  refine x_ifD (fun g2 => ?_) (fun g2 => ?_)
                  · have hk : kk < us.length := by omega
                    obtain ⟨v, hv⟩ : ∃ v, us[kk]? = some v := ⟨us[kk], List.getElem?_eq_getElem hk⟩
                    obtain ⟨qr, ⟨hi, lo, rk⟩, rfl, hrow, hqr0⟩ := hr.get hv
                    have hqr : SqT K G qr [.int hi, .int lo, .int rk] := hqr0
                    have hat : atI us (kk : Int) = some (.ref qr) := at_of (j := kk) rfl hv
                    have br : -(m + 10000) ≤ hi ∧ hi ≤ (m + 10000) ∧ -(m + 10000) ≤ lo ∧ lo ≤ (m + 10000) := hbd (hi, lo, rk) (List.mem_of_getElem? hrow)
                    walk_at "sx"
                    refine x_ixL (SqL.of h4) hat ?_
                    walk_at "sx"
                    rw [max_if]
                    refine x_take B7 (by omega) (by omega) (by omega) fun z H8 z1 z2 kb8 B8 => ?_
                    have h48 := kb8.get nqb h4
                    have hr8 := hr.kb kb8 B7
                    have hqr8 := sqT_kb kb8 B7 hqr
                    walk_at "sx"
                    intro t1 ht1
                    walk_at "sx"
                    intro t2 ht2
                    walk_at "sx"
                    intro ld hld
                    walk_at "sx"
                    have f1 := Ex.new ht1 (o := .tup [.int hi, .int (lo + z), .int rk])
                    have f2 := Ex.new ht2 (o := .tup [.int (lo + z), .int lo, .int rk])
                    have f3 := Ex.new hld (o := .lst [.ref t1, .ref t2])
                    have f13 := f1.trans (f2.trans f3)
                    refine ⟨q, ld, us, [.ref t1, .ref t2], kk, kk + 1, rfl, rfl, rfl, rfl, f13 _ _ h48, upd_same, (ne_fresh hld (f2 _ _ (f1 _ _ h48))).symm, by omega, by omega, by omega, sz_of (by show us.length + 2 ≤ 100000; omega), ?_⟩
                    rw [Int.toNat_natCast, show ((kk : Int) + 1).toNat = kk + 1 by omega]
                    have L6 : (rs.take kk ++ ([(hi, lo + z, rk)] ++ [(lo + z, lo, rk)]) ++ rs.drop (kk + 1)).length ≤ rs.length + 1 := by
                      simp only [List.length_append, List.length_take, List.length_drop, List.length_singleton]
                      omega
                    have g1 : RowsD K _ [.ref t1] [(hi, lo + z, rk)] := RowsD.one (r := (hi, lo + z, rk)) (ex_t (f2.trans f3) (SqT.of upd_same))
                    have g2 : RowsD K _ [.ref t2] [(lo + z, lo, rk)] := RowsD.one (r := (lo + z, lo, rk)) (ex_t f3 (SqT.of upd_same))
                    exact BMid.fin hq nqb nql ((kb.trans kb8).trans (KB.of_ex f13)) ((B8.ex' f13).mono (by omega)) (f13 _ _ h48) ((((hr8.ex f13).take kk).app (g1.app g2)).app ((hr8.ex f13).drop (kk + 1))) (Nat.le_trans L6 (by omega)) (hbd.put (by omega) (Bnd.app (rs := [(hi, lo + z, rk)]) (Bnd.row (by omega)) (Bnd.row (by omega))) _ _)
                  · walk_at "sx"
                    exact mid0.up (by omega) (by omega) (by omega)
                · walk_at "sx"
                  exact mid0.up (by omega) (by omega) (by omega)
              · clear mid mid0
                rintro σ G mid
                have mid0 := mid
                refine x_cut (BMid K H b l q tn kk off (n + 18) (rs0.length + 7) (m + 14000)) ?_ ?_
                · obtain ⟨us, rs, v5, v6, v7, v8, rfl, kb, B7, h4, hr, hl, hbd⟩ := mid
                  have hul := hr.len
                  walk_at "sx"
                  refine x_ifD (fun g1 => ?_) (fun g1 => ?_)
                  · walk_at "sx"
                    refine x_take B7 (by omega) (by omega) (by omega) fun z H8 z1 z2 kb8 B8 => ?_
                    have h48 := kb8.get nqb h4
                    have hr8 := hr.kb kb8 B7
                    walk_at "sx"
                    refine x_take B8 (by omega) (by omega) (by omega) fun y H9 y1 y2 kb9 B9 => ?_
                    have h49 := kb9.get nqb h48
                    have hr9 := hr8.kb kb9 B8
                    walk_at "sx"
                    intro qt hqt
                    walk_at "sx"
                    have et := Ex.new hqt (o := .tup [.int off, .int z, .int (y - 1)])
                    refine x_insert (et _ _ h49) (small1000 (by omega)) (by omega) ?_
                    walk_at "sx"
                    exact BMid.fin hq nqb nql ((kb.trans (kb8.trans kb9)).trans (KB.of_ex et)) ((B9.ex' et).mono (by omega)) (et _ _ h49) ((((hr9.ex et).take kk).app (RowsD.one (r := (off, z, y - 1)) (SqT.of upd_same))).app ((hr9.ex et).drop kk)) (by have := (put_len (rs := rs) (qs := [(off, z, y - 1)]) (i := kk) (j := kk) (by omega)); simp only [List.length_singleton, List.length_cons, List.length_nil] at this; omega) (hbd.put (by omega) (Bnd.row (by omega)) _ _)
                  · walk_at "sx"
                    exact mid0.up (by omega) (by omega) (by omega)
                · clear mid mid0
                  rintro σ G mid
                  have mid0 := mid
                  obtain ⟨us, rs, v5, v6, v7, v8, rfl, kb, B7, h4, hr, hl, hbd⟩ := mid
                  walk_at "sx"
                  exact k q us rs G hq kb B7 h4 hr hl hbd
end

/-! ### is_due, bars: the program's, the law's own -/
abbrev s_is_due : Stmt := top 4
abbrev N_is_due : List Str := ["worths", "one", "other", "row", "high", "low", "rank", "rest"]
theorem sc_is_due : FnScope N_is_due ["worths", "one", "other", "row"] (defScope s_is_due) := ⟨rfl, rfl, rfl, by decide +kernel, rfl, by decide +kernel, by decide +kernel⟩
abbrev s_bars : Stmt := top 5
abbrev N_bars : List Str := ["worths", "one", "other", "many", "rows", "least", "row", "later"]
theorem sc_bars : FnScope N_bars ["worths", "one", "other", "many", "rows"] (defScope s_bars) := ⟨rfl, rfl, rfl, by decide +kernel, rfl, by decide +kernel, by decide +kernel⟩

def spDue (K : PySem.W.Frag) : Sp := fun vs H Q _ => ∃ (a b c q : Addr) (ws xs ys : List Int) (mx : Int) (r : Row), vs = [.ref a, .ref b, .ref c, .ref q] ∧ SqL K H a (ws.map V.int) ∧ SqL K H b (xs.map V.int) ∧ SqL K H c (ys.map V.int) ∧ Tar ws ∧ Roll ws.length mx xs ∧ Roll ws.length mx ys ∧ mx ≤ 1000 ∧
  SqT K H q (rowV r) ∧ ∀ v H', (v = true ↔ Due ws xs ys r) → Ex H H' → Q (.bl v) H'
def spBars (K : PySem.W.Frag) : Sp := fun vs H Q _ => ∃ (a b c p : Addr) (ws xs ys : List Int) (mx z : Int) (us : List V) (rs : List Row), vs = [.ref a, .ref b, .ref c, .int z, .ref p] ∧ SqL K H a (ws.map V.int) ∧ SqL K H b (xs.map V.int) ∧ SqL K H c (ys.map V.int) ∧ Tar ws ∧ Roll ws.length mx xs ∧ Roll ws.length mx ys ∧ mx ≤ 1000 ∧
  SqL K H p us ∧ RowsD K H us rs ∧ rs.length ≤ 900 ∧ ∀ v H', (v = true ↔ Bars ws xs ys z rs) → Ex H H' → Q (.bl v) H'
noncomputable def dueB (ws xs ys : List Int) (r : Row) : Bool := @decide (Due ws xs ys r) (Classical.propDecidable _)
theorem dueB_iff (ws xs ys : List Int) (r : Row) : dueB ws xs ys r = true ↔ Due ws xs ys r := by
  unfold dueB
  exact @decide_eq_true_iff _ (Classical.propDecidable _)
section
variable {P : Program} {w : World} {K : PySem.W.Frag} {mg : Str → Option Value} {base : Heap}
theorem D_isdue (T : Txt K mg) (D_lower : Dn P w K mg base CX0 2 "lower" ["worths", "counts"] (spLower K)) (F : Df K mg "is_due" s_is_due) : Dn P w K mg base CX0 3 "is_due" ["worths", "one", "other", "row"] (spDue K) := by
  refine F.dn sc_is_due (fun _ _ _ _ _ _ us hl => match us, hl with | [_, _, _, _], _ => rfl) (fun vs H Q E h => ?_) (fun f cdv A outer s H vs Q E hr hK h => ?_)
  · obtain ⟨a, b, c, q, ws, xs, ys, mx, r, rfl, _⟩ := h
    rfl
  · obtain ⟨a, b, c, q, ws, xs, ys, mx, ⟨hi, lo, rk⟩, rfl, ha, hb, hc, t, rx, ry, hmx, hq0, k⟩ := h
    refine ⟨_, (pss_cons (ps_asg (pv 3) (pg_tup rfl (pgs_cons (pg_name (i := 4) sc_is_due.nd rfl (Or.inl rfl)) (pgs_cons (pg_name (i := 5) sc_is_due.nd rfl (Or.inl rfl)) (pgs_cons (pg_name (i := 6) sc_is_due.nd rfl (Or.inl rfl)) pgs_nil)))))
      (pss_cons (ps_if (PW.pt (pw_or (pt_not (pt_chain op_le op_lt pe_int (pv 6) (pe_callB g_len rfl T.m_len boot_len (pa_cons (pv 0) pa_nil)))) (pw_or1 (pt_not (pt_chain op_le op_lt pe_int (pv 5) (pv 4)))))) (pss_one (ps_ret pe_bl)) pss_nil)
      (pss_cons (ps_if (pt_cmpR op_ne (pe_op op_fdivW (pv 4) (pe_ix ix_list (pv 0) (pv 6) (fun _ _ => rfl))) (pe_op op_fdivW (pv 5) (pe_ix ix_list (pv 0) (pv 6) (fun _ _ => rfl))) (nomark _)) (pss_one (ps_ret pe_bl)) pss_nil)
      (pss_cons (ps_set (i := 7) sc_is_due.nd rfl (Or.inl rfl) (pe_op op_mod (pv 5) (pe_ix ix_list (pv 0) (pv 6) (fun _ _ => rfl))))
      (pss_one (ps_ret (pe_or (pe_cmpR op_ge (pv 7) (pe_ix ix_list (pe_dn D_lower (hr.mono (by first | decide | omega)) pass0 (pa_cons (pv 0) (pa_cons (pv 1) pa_nil))) (pv 6) (fun _ _ => rfl)) (nomark _)) (pe_one (pe_cmpR op_ge (pv 7) (pe_ix ix_list (pe_dn D_lower (hr.mono (by first | decide | omega)) pass0 (pa_cons (pv 0) (pa_cons (pv 2) pa_nil))) (pv 6) (fun _ _ => rfl)) (nomark _)))))))))), ?_⟩
    try rw [hK]
    rw [show L2.start N_is_due [.ref a, .ref b, .ref c, .ref q] = [some (.ref a), some (.ref b), some (.ref c), some (.ref q), none, none, none, none] from rfl]
    have tl := t.len
    have sw := tar_sm t
    have sx := rx.sm (by omega)
    have sy := ry.sm (by omega)
    have hq : SqT K H q [.int hi, .int lo, .int rk] := hq0
    have no : ∀ H', Ex H H' → ¬ Due ws xs ys (hi, lo, rk) → Q (.bl false) H' := fun H' e g => k false H' ⟨fun c => absurd c Bool.false_ne_true, fun c => absurd c g⟩ e
    walk_at "sx"
    refine x_chD (fun g1 => ?_) (fun g1 => ?_)
    · walk_at "sx"
      rw [List.length_map]
      refine x_orN (fun g2 => ?_) (fun g2 => ?_)
      · walk_at "sx"
        refine x_chD (fun g3 => ?_) (fun g3 => ?_)
        · walk_at "sx"
          refine x_ifN (fun g4 => ?_) (fun g4 => ?_)
          · obtain ⟨j, rfl⟩ : ∃ j : Nat, rk = j := ⟨rk.toNat, by omega⟩
            have hj : j < ws.length := by omega
            have hw := tar_at t hj
            have hatw : atI (ws.map V.int) (j : Int) = some (.int (gd ws j)) := at_getD (i := j) rfl hj
            walk_at "sx"
            refine x_ixL ha hatw ?_
            walk_at "sx"
            refine x_ixL ha hatw ?_
            walk_at "sx"
            refine x_ifD (fun g5 => ?_) (fun g5 => ?_)
            · walk_at "sx"
              exact no H (Ex.refl _) fun d => g5 d.q
            · have g5' : hi / gd ws j = lo / gd ws j := Decidable.not_not.mp g5
              have yes : min (low ws xs j) (low ws ys j) ≤ lo % gd ws j → Due ws xs ys (hi, lo, (j : Int)) := fun h => ⟨g1, g2, g3, g4, g5', h⟩
              walk_at "sx"
              refine x_ixL ha hatw ?_
              walk_at "sx"
              refine ⟨a, b, ws, xs, rfl, ha, hb, sw, sx, by omega, fun p1 H1 hp1 e1 h1 => ?_⟩
              walk_at "sx"
              refine x_ixLn (i := (j : Int)) (SqL.of h1) (Int.natCast_nonneg _) (by rw [Int.toNat_natCast, List.getElem?_map, lowL_at ws xs j hj]; rfl) ?_
              walk_at "sx"
              refine x_orVD (fun g6 => ?_) (fun g6 => ?_)
              · exact k true H1 ⟨fun _ => yes (by have : low ws xs j ≤ lo % gd ws j := g6; omega), fun _ => rfl⟩ e1
              · walk_at "sx"
                refine ⟨a, c, ws, ys, rfl, ex_l e1 ha, ex_l e1 hc, sw, sy, by omega, fun p2 H2 hp2 e2 h2 => ?_⟩
                walk_at "sx"
                refine x_ixLn (i := (j : Int)) (SqL.of h2) (Int.natCast_nonneg _) (by rw [Int.toNat_natCast, List.getElem?_map, lowL_at ws ys j hj]; rfl) ?_
                walk_at "sx"
                refine k _ H2 (decide_eq_true_iff.trans ⟨fun g7 => yes (by have : low ws ys j ≤ lo % gd ws j := g7; omega), fun d => ?_⟩) (e1.trans e2)
                have dm : min (low ws xs j) (low ws ys j) ≤ lo % gd ws j := d.m
                have g6' : ¬ low ws xs j ≤ lo % gd ws j := g6
                show low ws ys j ≤ lo % gd ws j
                omega
          · walk_at "sx"
            exact no H (Ex.refl _) fun d => g4 d.lh
        · walk_at "sx"
          exact no H (Ex.refl _) fun d => g3 d.l0
      · walk_at "sx"
        exact no H (Ex.refl _) fun d => g2 d.kn
    · walk_at "sx"
      exact no H (Ex.refl _) fun d => g1 d.k0
theorem D_bars (T : Txt K mg) (D_weight : Dn P w K mg base CX0 1 "weight" ["worths", "counts"] (spWeight K)) (D_is_due : Dn P w K mg base CX0 3 "is_due" ["worths", "one", "other", "row"] (spDue K)) (F : Df K mg "bars" s_bars) : Dn P w K mg base CX0 4 "bars" ["worths", "one", "other", "many", "rows"] (spBars K) := by
  refine F.dn sc_bars (fun _ _ _ _ _ _ us hl => match us, hl with | [_, _, _, _, _], _ => rfl) (fun vs H Q E h => ?_) (fun f cdv A outer s H vs Q E hr hK h => ?_)
  · obtain ⟨a, b, c, p, ws, xs, ys, mx, z, us, rs, rfl, _⟩ := h
    rfl
  · obtain ⟨a, b, c, p, ws, xs, ys, mx, z, us, rs, rfl, ha, hb, hc, t, rx, ry, hmx, hus, hrs, hrl, k⟩ := h
    refine ⟨_, (pss_cons (ps_set (i := 5) sc_bars.nd rfl (Or.inl rfl) (pe_callB (g_min rfl) rfl T.m_min boot_min (pa_cons (pe_dn D_weight (hr.mono (by first | decide | omega)) pass0 (pa_cons (pv 0) (pa_cons (pv 1) pa_nil))) (pa_cons (pe_dn D_weight (hr.mono (by first | decide | omega)) pass0 (pa_cons (pv 0) (pa_cons (pv 2) pa_nil))) pa_nil))))
      (pss_cons (ps_if (pt_cmpR op_eq (pe_callB g_len rfl T.m_len boot_len (pa_cons (pv 4) pa_nil)) pe_int (nomark _)) (pss_one (ps_ret (pe_cmpR op_ge (pv 3) (pv 5) (nomark _)))) pss_nil)
      (pss_cons (ps_if (PW.pt (pw_or (pt_cmpR op_lt (pe_ix ix_tup (pe_ix ix_list (pv 4) pe_int (fun _ _ => rfl)) pe_int (fun _ _ => rfl)) (pv 5) (nomark _)) (pw_or1 (pt_cmpR op_ne (pe_ix ix_tup (pe_ix ix_list (pv 4) (pe_un un_neg pe_int) (fun _ _ => rfl)) pe_int (fun _ _ => rfl)) (pv 3) (nomark _))))) (pss_one (ps_ret pe_bl)) pss_nil)
      (pss_cons (ps_for PassesOwn.never rfl (pi_zip rfl T.m_zip (pa_cons (pv 4) (pa_cons (pe_slice sl_list (pv 4) (po_some pe_int) po_none) pa_nil))) (pg_tup rfl (pgs_cons (pg_name (i := 6) sc_bars.nd rfl (Or.inl rfl)) (pgs_cons (pg_name (i := 7) sc_bars.nd rfl (Or.inl rfl)) pgs_nil))) (pss_one (ps_if (pt_cmpR op_ne (pe_ix ix_tup (pv 7) pe_int (fun _ _ => rfl)) (pe_ix ix_tup (pv 6) pe_int (fun _ _ => rfl)) (nomark _)) (pss_one (ps_ret pe_bl)) pss_nil)))
      (pss_one (ps_ret (pe_callB (cr_all rfl) rfl T.m_all boot_all (pa_cons (pe_lc (own := [("row", 6)]) (g := gName 6) (tt := tYes) rfl sc_bars.nd (pi_list (pv 4)) (blkOk_by (own := [("row", 6)]) (N := N_bars) (sc := defScope s_bars) (by decide +kernel)) (fun _ _ _ _ _ => pg_name (i := 6) sc_bars.nd rfl (Or.inl rfl)) (fun _ _ _ _ _ => pts_nil) (fun _ _ _ _ _ => (pe_dn D_is_due (hr.mono (by first | decide | omega)) pass0 (pa_cons (pv 0) (pa_cons (pv 1) (pa_cons (pv 2) (pa_cons (pv 6) pa_nil))))))) pa_nil)))))))), ?_⟩
    try rw [hK]
    rw [show L2.start N_bars [.ref a, .ref b, .ref c, .int z, .ref p] = [some (.ref a), some (.ref b), some (.ref c), some (.int z), some (.ref p), none, none, none] from rfl]
    have tl := t.len
    have sw := tar_sm t
    have sx := rx.sm (by omega)
    have sy := ry.sm (by omega)
    have hul := hrs.len
    have no : ∀ H', Ex H H' → ¬ Bars ws xs ys z rs → Q (.bl false) H' := fun H' e g => k false H' ⟨fun c => absurd c Bool.false_ne_true, fun c => absurd c g⟩ e
    walk_at "sx"
    refine ⟨a, b, ws, xs, rfl, ha, hb, sw, sx, by omega, fun H1 e1 => ?_⟩
    walk_at "sx"
    refine ⟨a, c, ws, ys, rfl, ex_l e1 ha, ex_l e1 hc, sw, sy, by omega, fun H2 e2' => ?_⟩
    have e2 := e1.trans e2'
    walk_at "sx"
    rw [min_if]
    walk_at "sx"
    refine x_ifD (fun g => ?_) (fun g => ?_)
    · have e0 : rs = [] := List.eq_nil_of_length_eq_zero (by omega)
      walk_at "sx"
      refine k _ H2 (decide_eq_true_iff.trans ⟨fun h => .inl ⟨e0, h⟩, fun h => ?_⟩) e2
      rcases h with ⟨_, h⟩ | ⟨f, l, h, _⟩
      · exact h
      · rw [e0] at h; cases h
    · have hpos : 0 < us.length := by omega
      obtain ⟨v0, h0⟩ : ∃ v, us[0]? = some v := ⟨us[0], List.getElem?_eq_getElem hpos⟩
      obtain ⟨q0, r0, rfl, hr0, hq0⟩ := hrs.get h0
      obtain ⟨vl, hl⟩ : ∃ v, us.getLast? = some v := ⟨us.getLast (by intro e; rw [e] at hpos; exact absurd hpos (by decide)), List.getLast?_eq_some_getLast _⟩
      obtain ⟨ql, rl, rfl, hrl2, hql⟩ := hrs.last hl
      have hal : atI us (-1) = some (.ref ql) := by
        obtain ⟨ini, e⟩ := List.getLast?_eq_some_iff.mp hl
        rw [e]
        exact atI_last _ _
      walk_at "sx"
      refine x_ixL (ex_l e2 hus) (at_of (j := 0) rfl h0) ?_
      walk_at "sx"
      refine x_orD (fun g1 => ?_) (fun g1 => ?_)
      · walk_at "sx"
        refine no H2 e2 fun hB => ?_
        rcases hB with ⟨h, _⟩ | ⟨f, l, h1, _, h3, _⟩
        · rw [h] at hr0; cases hr0
        · rw [List.head?_eq_getElem?, hr0] at h1
          cases h1
          omega
      · walk_at "sx"
        refine x_ixL (ex_l e2 hus) hal ?_
        walk_at "sx"
        refine x_ifD (fun g2 => ?_) (fun g2 => ?_)
        · walk_at "sx"
          refine no H2 e2 fun hB => ?_
          rcases hB with ⟨h, _⟩ | ⟨f, l, _, h2, _, h4, _⟩
          · rw [h] at hr0; cases hr0
          · rw [hrl2] at h2
            cases h2
            exact g2 h4
        · have g2' : rl.2.1 = z := Decidable.not_not.mp g2
          walk_at "sx"
          refine x_slL (ex_l e2 hus) ?_
          rw [show cutV us (some 1) none = us.drop 1 from cut_from (k := 1)]
          intro q hq
          have e3 := e2.trans (Ex.new hq (o := .lst (us.drop 1)))
          have hq3 : upd H2 q (.lst (us.drop 1)) q = some (.lst (us.drop 1)) := upd_same
          generalize upd H2 q (.lst (us.drop 1)) = H3 at e3 hq3 ⊢
          walk_at "sx"
          refine x_iZQ (ex_l e3 hus) (SqL.of hq3) ?_
          have n1 : min us.length (us.drop 1).length = us.length - 1 := by rw [List.length_drop]; omega
          refine x_forQ (walk_zip n1.symm) (fun i σ H' => Ex H3 H' ∧ (∀ j, j < i → ∀ r s, rs[j]? = some r → rs[j + 1]? = some s → s.1 = r.2.1) ∧ ∃ v6 v7, σ = [some (.ref a), some (.ref b), some (.ref c), some (.int z), some (.ref p), some (.int (min (wt ws xs) (wt ws ys))), v6, v7]) ⟨Ex.refl _, fun j h => absurd h (Nat.not_lt_zero j), none, none, rfl⟩ (fun i σ H' _ pv => ⟨ex_l (e3.trans pv.1) hus, ex_l pv.1 (SqL.of hq3)⟩) ?_ ?_
          · rintro i x σ H4 H4' hi ⟨e4, hch, v6, v7, rfl⟩ ⟨qq, x1, y1, rfl, hqq, rfl, h1, h2⟩
            obtain ⟨qa, ra, rfl, hra, hqa⟩ := hrs.get h1
            have h2 : (us.drop 1)[i]? = some y1 := h2
            rw [List.getElem?_drop, Nat.add_comm] at h2
            obtain ⟨qb, rb, rfl, hrb, hqb⟩ := hrs.get h2
            have e5 : Ex H (upd H4 qq (.tup [.ref qa, .ref qb])) := (e3.trans e4).trans (Ex.new hqq)
            walk_at "sx"
            refine x_ifD (fun g3 => ?_) (fun g3 => ?_)
            · walk_at "sx"
              refine no _ e5 fun hB => ?_
              rcases hB with ⟨h, _⟩ | ⟨f, l, _, _, _, _, h5, _⟩
              · rw [h] at hr0; cases hr0
              · exact g3 (h5 i ra rb hra hrb)
            · have g3' : rb.1 = ra.2.1 := Decidable.not_not.mp g3
              walk_at "sx"
              refine ⟨e4.trans (Ex.new hqq), fun j hj r s h6 h7 => ?_, _, _, rfl⟩
              rcases Nat.lt_succ_iff_lt_or_eq.mp hj with h | h
              · exact hch j h r s h6 h7
              · subst h
                rw [hra] at h6
                rw [hrb] at h7
                cases h6; cases h7
                exact g3'
          · rintro σ H4 ⟨e4, hch, v6, v7, rfl⟩
            have e5 := e3.trans e4
            have chain : Chain rs := fun i r s h6 h7 => by
              have hlt := (List.getElem?_eq_some_iff.mp h7).1
              exact hch i (by omega) r s h6 h7
            walk_at "sx"
            refine x_iLQ (ex_l e5 hus) ?_
            refine x_lcMap walk_list (fun i => V.bl (dueB ws xs ys (rs.getD i (0, 0, 0)))) (sz_of (by omega)) (fun H' e => ex_l (e5.trans e) hus) ?turn ?grow ?done
            case turn =>
              rintro D i x G1 G2 Nx hi e1 ⟨rfl, hx⟩ kk
              obtain ⟨qr, r, rfl, hr, hqr⟩ := hrs.get hx
              have e6 := e5.trans e1
              walk_at "sx"
              refine ⟨a, b, c, qr, ws, xs, ys, mx, r, rfl, ex_l e6 ha, ex_l e6 hb, ex_l e6 hc, t, rx, ry, hmx, ex_t e6 hqr, fun v H7 hv e7 => ?_⟩
              have q := kk H7 e7
              rw [List.getD_eq_getElem?_getD, hr] at q
              have ev : dueB ws xs ys r = v := by rw [Bool.eq_iff_iff, dueB_iff, hv]
              rw [show (Option.some r).getD (0, 0, 0) = r from rfl, ev] at q
              exact q
            case grow =>
              rintro i x G1 G2 hi e1 ⟨rfl, hx⟩
              exact Ex.refl _
            case done =>
              intro D H5 hD e6 hl5
              walk_at "sx"
              refine x_allMap (g := fun i => dueB ws xs ys (rs.getD i (0, 0, 0))) hl5 ?_
              refine k _ H5 ?_ (e5.trans e6)
              rw [List.all_eq_true]
              constructor
              · intro hall
                refine .inr ⟨r0, rl, by rw [List.head?_eq_getElem?, hr0], hrl2, by omega, g2', chain, fun r hr => ?_⟩
                obtain ⟨i, hi, rfl⟩ := List.getElem_of_mem hr
                have g := hall i (List.mem_range.mpr (by omega))
                rw [List.getD_eq_getElem?_getD, List.getElem?_eq_getElem hi] at g
                exact (dueB_iff _ _ _ _).mp g
              · intro hB i hi
                have hi' := List.mem_range.mp hi
                rw [List.getD_eq_getElem?_getD, List.getElem?_eq_getElem (show i < rs.length by omega)]
                refine (dueB_iff _ _ _ _).mpr ?_
                rcases hB with ⟨h, _⟩ | ⟨f, l, _, _, _, _, _, h6⟩
                · rw [h] at hr0; cases hr0
                · exact h6 _ (List.getElem_mem _)
end

/-! ### the law's own is_due, bars -/
abbrev s__law_is_due : Stmt := top 18
abbrev N__law_is_due : List Str := ["_law_worths_here", "_law_one", "_law_other", "_law_row", "_law_high", "_law_low", "_law_rank", "_law_worth", "_law_lesser"]
theorem sc__law_is_due : FnScope N__law_is_due ["_law_worths_here", "_law_one", "_law_other", "_law_row"] (defScope s__law_is_due) := ⟨rfl, rfl, rfl, by decide +kernel, rfl, by decide +kernel, by decide +kernel⟩
abbrev s__law_bars : Stmt := top 19
abbrev N__law_bars : List Str := ["_law_worths_here", "_law_one", "_law_other", "_law_many", "_law_rows", "_law_last", "_law_row"]
theorem sc__law_bars : FnScope N__law_bars ["_law_worths_here", "_law_one", "_law_other", "_law_many", "_law_rows"] (defScope s__law_bars) := ⟨rfl, rfl, rfl, by decide +kernel, rfl, by decide +kernel, by decide +kernel⟩

section
variable {P : Program} {w : World} {K : PySem.W.Frag} {mg : Str → Option Value} {base : Heap}
theorem cut_mod {hi lo v : Int} (hv : 1 ≤ v) : hi - hi % v = lo - lo % v ↔ hi / v = lo / v := by
  have e1 := Int.mul_ediv_add_emod hi v
  have e2 := Int.mul_ediv_add_emod lo v
  rw [show hi - hi % v = v * (hi / v) by omega, show lo - lo % v = v * (lo / v) by omega]
  exact ⟨fun h => Int.eq_of_mul_eq_mul_left (by omega) h, fun h => by rw [h]⟩
theorem D_lisdue (T : Txt K mg) (D__law_weight : Dn P w K mg base CX0 1 "_law_weight" ["_law_worths_here", "_law_counts_here"] (spLWeight K)) (F : Df K mg "_law_is_due" s__law_is_due) : Dn P w K mg base CX0 2 "_law_is_due" ["_law_worths_here", "_law_one", "_law_other", "_law_row"] (spDue K) := by
  refine F.dn sc__law_is_due (fun _ _ _ _ _ _ us hl => match us, hl with | [_, _, _, _], _ => rfl) (fun vs H Q E h => ?_) (fun f cdv A outer s H vs Q E hr hK h => ?_)
  · obtain ⟨a, b, c, q, ws, xs, ys, mx, r, rfl, _⟩ := h
    rfl
  · obtain ⟨a, b, c, q, ws, xs, ys, mx, ⟨hi, lo, rk⟩, rfl, ha, hb, hc, t, rx, ry, hmx, hq0, k⟩ := h
    refine ⟨_, (pss_cons (ps_asg (pv 3) (pg_tup rfl (pgs_cons (pg_name (i := 4) sc__law_is_due.nd rfl (Or.inl rfl)) (pgs_cons (pg_name (i := 5) sc__law_is_due.nd rfl (Or.inl rfl)) (pgs_cons (pg_name (i := 6) sc__law_is_due.nd rfl (Or.inl rfl)) pgs_nil)))))
      (pss_cons (ps_if (PW.pt (pw_or (pt_cmpR op_lt (pv 6) pe_int (nomark _)) (pw_or (pt_cmpR op_ge (pv 6) (pe_callB g_len rfl T.m_len boot_len (pa_cons (pv 0) pa_nil)) (nomark _)) (pw_or (pt_cmpR op_lt (pv 5) pe_int (nomark _)) (pw_or1 (pt_cmpR op_ge (pv 5) (pv 4) (nomark _))))))) (pss_one (ps_ret pe_bl)) pss_nil)
      (pss_cons (ps_set (i := 7) sc__law_is_due.nd rfl (Or.inl rfl) (pe_ix ix_list (pv 0) (pv 6) (fun _ _ => rfl)))
      (pss_cons (ps_if (pt_cmpR op_ne (pe_op op_sub (pv 4) (pe_op op_mod (pv 4) (pv 7))) (pe_op op_sub (pv 5) (pe_op op_mod (pv 5) (pv 7))) (nomark _)) (pss_one (ps_ret pe_bl)) pss_nil)
      (pss_cons (ps_set (i := 8) sc__law_is_due.nd rfl (Or.inl rfl) (pe_callB (g_min rfl) rfl T.m_min boot_min (pa_cons (pe_dn D__law_weight (hr.mono (by first | decide | omega)) pass0 (pa_cons (pe_slice sl_list (pv 0) po_none (po_some (pv 6))) (pa_cons (pe_slice sl_list (pv 1) po_none (po_some (pv 6))) pa_nil))) (pa_cons (pe_dn D__law_weight (hr.mono (by first | decide | omega)) pass0 (pa_cons (pe_slice sl_list (pv 0) po_none (po_some (pv 6))) (pa_cons (pe_slice sl_list (pv 2) po_none (po_some (pv 6))) pa_nil))) pa_nil))))
      (pss_one (ps_ret (pe_cmpR op_ge (pe_op op_mod (pv 5) (pv 7)) (pv 8) (nomark _))))))))), ?_⟩
    try rw [hK]
    rw [show L2.start N__law_is_due [.ref a, .ref b, .ref c, .ref q] = [some (.ref a), some (.ref b), some (.ref c), some (.ref q), none, none, none, none, none] from rfl]
    have tl := t.len
    have sw := tar_sm t
    have sx := rx.sm (by omega)
    have sy := ry.sm (by omega)
    have rxl := rx.len
    have ryl := ry.len
    have hq : SqT K H q [.int hi, .int lo, .int rk] := hq0
    have no : ∀ H', Ex H H' → ¬ Due ws xs ys (hi, lo, rk) → Q (.bl false) H' := fun H' e g => k false H' ⟨fun c => absurd c Bool.false_ne_true, fun c => absurd c g⟩ e
    walk_at "sx"
    refine x_orD (fun g1 => ?_) (fun g1 => ?_)
    · walk_at "sx"
      exact no H (Ex.refl _) fun d => by have : 0 ≤ rk := d.k0; omega
    · walk_at "sx"
      rw [List.length_map]
      refine x_orD (fun g2 => ?_) (fun g2 => ?_)
      · walk_at "sx"
        exact no H (Ex.refl _) fun d => by have : rk < _ := d.kn; omega
      · walk_at "sx"
        refine x_orD (fun g3 => ?_) (fun g3 => ?_)
        · walk_at "sx"
          exact no H (Ex.refl _) fun d => by have : 0 ≤ lo := d.l0; omega
        · walk_at "sx"
          refine x_ifD (fun g4 => ?_) (fun g4 => ?_)
          · walk_at "sx"
            exact no H (Ex.refl _) fun d => by have : lo < hi := d.lh; omega
          · obtain ⟨j, rfl⟩ : ∃ j : Nat, rk = j := ⟨rk.toNat, by omega⟩
            have hj : j < ws.length := by omega
            have hw := tar_at t hj
            have hatw : atI (ws.map V.int) (j : Int) = some (.int (gd ws j)) := at_getD (i := j) rfl hj
            walk_at "sx"
            refine x_ixL ha hatw ?_
            walk_at "sx"
            refine x_ifD (fun g5 => ?_) (fun g5 => ?_)
            · walk_at "sx"
              exact no H (Ex.refl _) fun d => g5 ((cut_mod hw.1).mpr d.q)
            · have g5' : hi / gd ws j = lo / gd ws j := (cut_mod hw.1).mp (Decidable.not_not.mp g5)
              have yes : min (low ws xs j) (low ws ys j) ≤ lo % gd ws j → Due ws xs ys (hi, lo, (j : Int)) := fun h => ⟨by show 0 ≤ (j : Int); omega, by show (j : Int) < _; omega, by show 0 ≤ lo; omega, by show lo < hi; omega, g5', h⟩
              walk_at "sx"
              refine x_slL ha ?_
              rw [cut_to, ← List.map_take]
              intro p1 hp1
              have e1 := Ex.new hp1 (o := .lst ((ws.take j).map V.int))
              walk_at "sx"
              refine x_slL (ex_l e1 hb) ?_
              rw [cut_to, ← List.map_take]
              intro p2 hp2
              have e2 := e1.trans (Ex.new hp2 (o := .lst ((xs.take j).map V.int)))
              walk_at "sx"
              refine ⟨p1, p2, ws.take j, xs.take j, rfl, ex_l (Ex.new hp2) (SqL.of upd_same), SqL.of upd_same, sw.take j, sx.take j, by rw [List.length_take]; omega, by rw [List.length_take, List.length_take]; omega, ?_⟩
              walk_at "sx"
              refine x_slL (ex_l e2 ha) ?_
              rw [cut_to, ← List.map_take]
              intro p3 hp3
              have e3 := e2.trans (Ex.new hp3 (o := .lst ((ws.take j).map V.int)))
              walk_at "sx"
              refine x_slL (ex_l e3 hc) ?_
              rw [cut_to, ← List.map_take]
              intro p4 hp4
              have e4 := e3.trans (Ex.new hp4 (o := .lst ((ys.take j).map V.int)))
              walk_at "sx"
              refine ⟨p3, p4, ws.take j, ys.take j, rfl, ex_l (Ex.new hp4) (SqL.of upd_same), SqL.of upd_same, sw.take j, sy.take j, by rw [List.length_take]; omega, by rw [List.length_take, List.length_take]; omega, ?_⟩
              walk_at "sx"
              rw [min_if]
              exact k _ _ (decide_eq_true_iff.trans ⟨fun g7 => yes g7, fun d => d.m⟩) e4
theorem D_lbars (T : Txt K mg) (D__law_weight : Dn P w K mg base CX0 1 "_law_weight" ["_law_worths_here", "_law_counts_here"] (spLWeight K)) (D__law_is_due : Dn P w K mg base CX0 2 "_law_is_due" ["_law_worths_here", "_law_one", "_law_other", "_law_row"] (spDue K)) (F : Df K mg "_law_bars" s__law_bars) : Dn P w K mg base CX0 3 "_law_bars" ["_law_worths_here", "_law_one", "_law_other", "_law_many", "_law_rows"] (spBars K) := by
  refine F.dn sc__law_bars (fun _ _ _ _ _ _ us hl => match us, hl with | [_, _, _, _, _], _ => rfl) (fun vs H Q E h => ?_) (fun f cdv A outer s H vs Q E hr hK h => ?_)
  · obtain ⟨a, b, c, p, ws, xs, ys, mx, z, us, rs, rfl, _⟩ := h
    rfl
  · obtain ⟨a, b, c, p, ws, xs, ys, mx, z, us, rs, rfl, ha, hb, hc, t, rx, ry, hmx, hus, hrs, hrl, k⟩ := h
    refine ⟨_, (pss_cons (ps_set (i := 5) sc__law_bars.nd rfl (Or.inl rfl) (pe_callB (g_min rfl) rfl T.m_min boot_min (pa_cons (pe_dn D__law_weight (hr.mono (by first | decide | omega)) pass0 (pa_cons (pv 0) (pa_cons (pv 1) pa_nil))) (pa_cons (pe_dn D__law_weight (hr.mono (by first | decide | omega)) pass0 (pa_cons (pv 0) (pa_cons (pv 2) pa_nil))) pa_nil))))
      (pss_cons (ps_if (pt_cmpR (op_eqD hr.units) (pv 4) (pe_lst pa_nil) (nomark _)) (pss_one (ps_ret (pe_cmpR op_ge (pv 3) (pv 5) (nomark _)))) pss_nil)
      (pss_cons (ps_if (pt_cmpR op_lt (pe_ix ix_tup (pe_ix ix_list (pv 4) pe_int (fun _ _ => rfl)) pe_int (fun _ _ => rfl)) (pv 5) (nomark _)) (pss_one (ps_ret pe_bl)) pss_nil)
      (pss_cons (ps_set (i := 5) sc__law_bars.nd rfl (Or.inl rfl) (pe_ix ix_tup (pe_ix ix_list (pv 4) pe_int (fun _ _ => rfl)) pe_int (fun _ _ => rfl)))
      (pss_cons (ps_for PassesOwn.never rfl (pi_list (pv 4)) (pg_name (i := 6) sc__law_bars.nd rfl (Or.inl rfl)) (pss_cons (ps_if (PW.pt (pw_or (pt_cmpR op_ne (pe_ix ix_tup (pv 6) pe_int (fun _ _ => rfl)) (pv 5) (nomark _)) (pw_or1 (pt_not (pt_val (pe_dn D__law_is_due (hr.mono (by first | decide | omega)) pass0 (pa_cons (pv 0) (pa_cons (pv 1) (pa_cons (pv 2) (pa_cons (pv 6) pa_nil)))))))))) (pss_one (ps_ret pe_bl)) pss_nil)
      (pss_one (ps_set (i := 5) sc__law_bars.nd rfl (Or.inl rfl) (pe_ix ix_tup (pv 6) pe_int (fun _ _ => rfl))))))
      (pss_one (ps_ret (pe_cmpR op_eq (pv 5) (pv 3) (nomark _))))))))), ?_⟩
    try rw [hK]
    rw [show L2.start N__law_bars [.ref a, .ref b, .ref c, .int z, .ref p] = [some (.ref a), some (.ref b), some (.ref c), some (.int z), some (.ref p), none, none] from rfl]
    have tl := t.len
    have sw := tar_sm t
    have sx := rx.sm (by omega)
    have sy := ry.sm (by omega)
    have rxl := rx.len
    have ryl := ry.len
    have hul := hrs.len
    have no : ∀ H', Ex H H' → ¬ Bars ws xs ys z rs → Q (.bl false) H' := fun H' e g => k false H' ⟨fun c => absurd c Bool.false_ne_true, fun c => absurd c g⟩ e
    walk_at "sx"
    refine ⟨a, b, ws, xs, rfl, ha, hb, sw, sx, by omega, rxl, ?_⟩
    walk_at "sx"
    refine ⟨a, c, ws, ys, rfl, ha, hc, sw, sy, by omega, ryl, ?_⟩
    walk_at "sx"
    rw [min_if]
    intro pn hpn
    walk_at "sx"
    have e1 := Ex.new hpn (o := .lst [])
    have okr : OkD 3 (.list (rs.map rowD)) := .list (by rw [List.length_map]; omega) fun d hd => by
      obtain ⟨r, _, rfl⟩ := List.mem_map.mp hd
      refine .tuple (by simp) fun d hd => ?_
      simp only [List.mem_cons, List.not_mem_nil, or_false] at hd
      rcases hd with rfl | rfl | rfl <;> exact .int _
    have eqv : PyData.eqv (.list (rs.map rowD)) (.list []) = decide (rs = []) := by
      cases rs with
      | nil => simp [PyData.eqv, PyData.eqvAll]
      | cons r rs => simp [PyData.eqv, PyData.eqvAll]
    refine x_eqD (d := .list (rs.map rowD)) (e := .list []) (.lst (ex_l e1 hus) (hrs.ex e1).dp) (.lst (SqL.of upd_same) .nil) (okr.shaped (by decide)) ((OkD.list (n := 0) (ds := []) (by simp) (fun d hd => absurd hd (by simp))).shaped (by decide)) ?_
    rw [eqv]
    walk_at "sx"
    refine x_ifD (fun g => ?_) (fun g => ?_)
    · walk_at "sx"
      refine k _ _ (decide_eq_true_iff.trans ⟨fun h => .inl ⟨g, h⟩, fun h => ?_⟩) e1
      rcases h with ⟨_, h⟩ | ⟨f, l, h, _⟩
      · exact h
      · rw [g] at h; cases h
    · have hpos : 0 < us.length := by
        cases rs with
        | nil => exact absurd rfl g
        | cons r rs => rw [hul]; simp
      obtain ⟨v0, h0⟩ : ∃ v, us[0]? = some v := ⟨us[0], List.getElem?_eq_getElem hpos⟩
      obtain ⟨q0, r0, rfl, hr0, hq0⟩ := hrs.get h0
      walk_at "sx"
      refine x_ixL (ex_l e1 hus) (at_of (j := 0) rfl h0) ?_
      walk_at "sx"
      refine x_ifD (fun g1 => ?_) (fun g1 => ?_)
      · walk_at "sx"
        refine no _ e1 fun hB => ?_
        rcases hB with ⟨h, _⟩ | ⟨f, l, h1, _, h3, _⟩
        · exact g h
        · rw [List.head?_eq_getElem?, hr0] at h1
          cases h1
          omega
      · walk_at "sx"
        refine x_ixL (ex_l e1 hus) (at_of (j := 0) rfl h0) ?_
        walk_at "sx"
        refine x_iLQ (ex_l e1 hus) ?_
        refine x_forQ walk_list (fun i σ H' => Ex (upd H pn (.lst [])) H' ∧ ((∀ j, j < i → ∀ r, rs[j]? = some r → Due ws xs ys r) ∧ (∀ j, j + 1 < i → ∀ r s, rs[j]? = some r → rs[j + 1]? = some s → s.1 = r.2.1)) ∧ ∃ (v : Int) (v6 : Option V), (i = 0 ∧ v = r0.1 ∨ ∃ r, i ≠ 0 ∧ rs[i - 1]? = some r ∧ v = r.2.1) ∧ σ = [some (.ref a), some (.ref b), some (.ref c), some (.int z), some (.ref p), some (.int v), v6])
          ⟨Ex.refl _, ⟨fun j h => absurd h (Nat.not_lt_zero j), fun j h => absurd h (by omega)⟩, _, none, .inl ⟨rfl, rfl⟩, rfl⟩ (fun i σ H' _ pv => ex_l (e1.trans pv.1) hus) ?_ ?_
        · rintro i x σ H4 H4' hi ⟨e4, ⟨hdu, hch⟩, v, v6, hv, rfl⟩ ⟨rfl, hx⟩
          obtain ⟨qr, r, rfl, hr', hqr⟩ := hrs.get hx
          have e5 := e1.trans e4
          walk_at "sx"
          refine x_orD (fun g3 => ?_) (fun g3 => ?_)
          · walk_at "sx"
            refine no _ e5 fun hB => ?_
            rcases hB with ⟨h, _⟩ | ⟨f, l, _, _, _, _, h5, _⟩
            · exact g h
            · rcases hv with ⟨h6, h7⟩ | ⟨s, h6, h7, h8⟩
              · subst h6
                rw [hr0] at hr'
                cases hr'
                exact g3 h7.symm
              · exact g3 (by rw [h8]; exact h5 (i - 1) s r h7 (by rw [show i - 1 + 1 = i by omega]; exact hr'))
          · have g3' : r.1 = v := Decidable.not_not.mp g3
            walk_at "sx"
            refine ⟨a, b, c, qr, ws, xs, ys, mx, r, rfl, ex_l e5 ha, ex_l e5 hb, ex_l e5 hc, t, rx, ry, hmx, ex_t e5 hqr, fun u H6 hu e6 => ?_⟩
            have e56 := e5.trans e6
            cases u with
            | false =>
              walk_at "sx"
              refine no _ e56 fun hB => ?_
              rcases hB with ⟨h, _⟩ | ⟨f, l, _, _, _, _, _, h5⟩
              · exact g h
              · exact Bool.false_ne_true (hu.mpr (h5 r (List.mem_of_getElem? hr')))
            | true =>
              walk_at "sx"
              refine ⟨e4.trans e6, ⟨fun j hj r2 h => ?_, fun j hj r2 s h h2 => ?_⟩, r.2.1, _, .inr ⟨r, by omega, hr', rfl⟩, rfl⟩
              · rcases Nat.lt_succ_iff_lt_or_eq.mp hj with h3 | h3
                · exact hdu j h3 r2 h
                · subst h3
                  rw [hr'] at h
                  cases h
                  exact hu.mp rfl
              · by_cases c : j + 1 < i
                · exact hch j c r2 s h h2
                · have ej : j + 1 = i := by omega
                  rw [ej, hr'] at h2
                  cases h2
                  rcases hv with ⟨h6, h7⟩ | ⟨s2, h6, h7, h8⟩
                  · omega
                  · rw [show i - 1 = j by omega, h] at h7
                    cases h7
                    rw [g3', h8]
        · rintro σ H4 ⟨e4, ⟨hdu, hch⟩, v, v6, hv, rfl⟩
          walk_at "sx"
          obtain ⟨rl, h7, h8⟩ : ∃ r, rs[us.length - 1]? = some r ∧ v = r.2.1 := by
            rcases hv with ⟨h6, _⟩ | ⟨r, _, h7, h8⟩
            · omega
            · exact ⟨r, h7, h8⟩
          have hlast : rs.getLast? = some rl := by rw [List.getLast?_eq_getElem?, ← hul]; exact h7
          refine k _ _ (decide_eq_true_iff.trans ⟨fun h => .inr ⟨r0, rl, by rw [List.head?_eq_getElem?, hr0], hlast, by omega, by omega, fun i r s h1 h2 => ?_, fun r hr => ?_⟩, fun h => ?_⟩) (e1.trans e4)
          · have hlt := (List.getElem?_eq_some_iff.mp h2).1
            exact hch i (by omega) r s h1 h2
          · obtain ⟨i, hi, rfl⟩ := List.getElem_of_mem hr
            exact hdu i (by omega) _ (List.getElem?_eq_getElem hi)
          · rcases h with ⟨h, _⟩ | ⟨f, l, _, h2, _, h4, _⟩
            · exact absurd h g
            · rw [hlast] at h2
              cases h2
              omega
end

/-! ### two drawn rolls -/
abbrev s__law_two_rolls : Stmt := top 16
abbrev N__law_two_rolls : List Str := ["_law_box_here", "_law_worths_here", "_law_most"]
theorem sc__law_two_rolls : FnScope N__law_two_rolls ["_law_box_here"] (defScope s__law_two_rolls) := ⟨rfl, rfl, rfl, by decide +kernel, rfl, by decide +kernel, by decide +kernel⟩

def spTwo (K : PySem.W.Frag) : Sp := fun vs H Q _ => ∃ (b l : Addr) (n : Nat), vs = [.ref b] ∧ BoxAt H b l n ∧ n ≤ 2 ^ 58 ∧
  ∀ (t p pc pd : Addr) (ws cs ds : List Int) (H' : Hp), KB b H H' → BoxAt H' b l (n + 90) → H p = none → H pc = none → H pd = none → p ≠ pc → p ≠ pd → pc ≠ pd → H' t = some (.tup [.ref p, .ref pc, .ref pd]) → H' p = some (.lst (ws.map V.int)) → H' pc = some (.lst (cs.map V.int)) → H' pd = some (.lst (ds.map V.int)) → Tar ws → Roll ws.length 60 cs → Roll ws.length 60 ds → Q (.ref t) H'
theorem Roll.mono {n : Nat} {m k : Int} {cs : List Int} (r : Roll n m cs) (h : m ≤ k) : Roll n k cs := ⟨r.len, fun c hc => by have := r.rng c hc; omega⟩
section
variable {P : Program} {w : World} {K : PySem.W.Frag} {mg : Str → Option Value} {base : Heap}
theorem D_two (T : Txt K mg) (D__law_take : Dn P w K mg base CX0 2 "_law_take" ["_law_box_here", "_law_size"] spTake) (D__law_worths : Dn P w K mg base CX0 3 "_law_worths" ["_law_box_here", "_law_ranks"] spWorths)
    (D__law_counts : Dn P w K mg base CX0 3 "_law_counts" ["_law_box_here", "_law_worths_here", "_law_most"] (spCounts K)) (F : Df K mg "_law_two_rolls" s__law_two_rolls) : Dn P w K mg base CX0 4 "_law_two_rolls" ["_law_box_here"] (spTwo K) := by
  refine F.dn sc__law_two_rolls (fun _ _ _ _ _ _ us hl => match us, hl with | [_], _ => rfl) (fun vs H Q E h => ?_) (fun f cdv A outer s H vs Q E hr hK h => ?_)
  · obtain ⟨b, l, n, rfl, _⟩ := h
    rfl
  · obtain ⟨b, l, n, rfl, B, hn, k⟩ := h
    refine ⟨_, (pss_cons (ps_set (i := 1) sc__law_two_rolls.nd rfl (Or.inl rfl) (pe_dn D__law_worths (hr.mono (by first | decide | omega)) pass0 (pa_cons (pv 0) (pa_cons (pe_ix ix_list (pe_lst (pa_cons pe_int (pa_cons pe_int (pa_cons (pe_op op_add pe_int (pe_dn D__law_take (hr.mono (by first | decide | omega)) pass0 (pa_cons (pv 0) (pa_cons pe_int pa_nil)))) pa_nil)))) (pe_dn D__law_take (hr.mono (by first | decide | omega)) pass0 (pa_cons (pv 0) (pa_cons pe_int pa_nil))) (fun _ _ => rfl)) pa_nil))))
      (pss_cons (ps_set (i := 2) sc__law_two_rolls.nd rfl (Or.inl rfl) (pe_ix ix_list (pe_lst (pa_cons pe_int (pa_cons pe_int (pa_cons pe_int pa_nil)))) (pe_dn D__law_take (hr.mono (by first | decide | omega)) pass0 (pa_cons (pv 0) (pa_cons pe_int pa_nil))) (fun _ _ => rfl)))
      (pss_one (ps_ret (pe_tup (pa_cons (pv 1) (pa_cons (pe_dn D__law_counts (hr.mono (by first | decide | omega)) pass0 (pa_cons (pv 0) (pa_cons (pv 1) (pa_cons (pv 2) pa_nil)))) (pa_cons (pe_dn D__law_counts (hr.mono (by first | decide | omega)) pass0 (pa_cons (pv 0) (pa_cons (pv 1) (pa_cons (pv 2) pa_nil)))) pa_nil)))))))), ?_⟩
    try rw [hK]
    rw [show L2.start N__law_two_rolls [.ref b] = [some (.ref b), none, none] from rfl]
    walk_at "sx"
    refine x_take B (by omega) (by omega) (by omega) fun r1 H1 a1 a2 kb1 B1 => ?_
    walk_at "sx"
    intro q1 hq1
    walk_at "sx"
    refine x_take (B1.ex' (Ex.new hq1)) (by omega) (by omega) (by omega) fun r2 H2 b1 b2 kb2 B2 => ?_
    walk_at "sx"
    obtain ⟨v, hv, hm⟩ := at_mem (xs := [.int 6, .int 6, .int (1 + r1)]) b1 b2
    obtain ⟨z, rfl, z1, z2⟩ : ∃ z, v = V.int z ∧ 1 ≤ z ∧ z ≤ 6 := by
      simp only [List.mem_cons, List.not_mem_nil, or_false] at hm
      rcases hm with rfl | rfl | rfl <;> exact ⟨_, rfl, by omega, by omega⟩
    refine x_ixL (kb2.sqL (SqL.of upd_same) (BoxAt.ne1 hq1 B1)) hv ?_
    walk_at "sx"
    refine ⟨b, l, z, _, rfl, z1, z2, B2, by omega, fun p ws H3 hp kb3 B3 hl3 tar hws => ?_⟩
    walk_at "sx"
    intro q4 hq4
    walk_at "sx"
    refine x_take (B3.ex' (Ex.new hq4)) (by omega) (by omega) (by omega) fun r5 H5 c1 c2 kb5 B5 => ?_
    walk_at "sx"
    obtain ⟨v, hv, hm⟩ := at_mem (xs := [.int 60, .int 4, .int 12]) c1 c2
    obtain ⟨y, rfl, y1, y2⟩ : ∃ z, v = V.int z ∧ 3 ≤ z ∧ z ≤ 60 := by
      simp only [List.mem_cons, List.not_mem_nil, or_false] at hm
      rcases hm with rfl | rfl | rfl <;> exact ⟨_, rfl, by omega, by omega⟩
    refine x_ixL (kb5.sqL (SqL.of upd_same) (BoxAt.ne1 hq4 B3)) hv ?_
    have npb := BoxAt.ne1 hp B2
    have h5 : H5 p = some (.lst (ws.map V.int)) := kb5.get npb (Ex.new hq4 _ _ hl3)
    have kb02 : KB b H H2 := kb1.trans ((KB.new hq1).trans kb2)
    have kb05 : KB b H H5 := kb02.trans (kb3.trans ((KB.new hq4).trans kb5))
    have tl := tar.len
    walk_at "sx"
    refine ⟨b, l, p, ws, y, _, rfl, B5, by omega, SqL.of h5, npb, by omega, y1, by omega, fun pc cs H6 hpc kb6 B6 h6 rc => ?_⟩
    have h6p : H6 p = some (.lst (ws.map V.int)) := kb6.get npb h5
    have ncb := BoxAt.ne1 hpc B5
    walk_at "sx"
    refine ⟨b, l, p, ws, y, _, rfl, B6, by omega, SqL.of h6p, npb, by omega, y1, by omega, fun pd ds H7 hpd kb7 B7 h7 rd => ?_⟩
    walk_at "sx"
    intro t ht
    walk_at "sx"
    have h7p := kb7.get npb h6p
    have h7c := kb7.get ncb h6
    have kb07 : KB b H H7 := kb05.trans (kb6.trans kb7)
    exact k t p pc pd ws cs ds _ (kb07.trans (KB.new ht)) ((B7.ex' (Ex.new ht)).mono (by omega)) (kb02.fresh B2.some hp) (kb05.fresh B5.some hpc) ((kb05.trans kb6).fresh B6.some hpd) (ne_fresh hpc h5).symm (ne_fresh hpd h6p).symm (ne_fresh hpd h6).symm upd_same
      (Ex.new ht _ _ h7p) (Ex.new ht _ _ h7c) (Ex.new ht _ _ h7) tar (rc.mono y2) (rd.mono y2)
end

/-! ### the law's own tables of sums -/
abbrev s__law_bits : Stmt := top 15
abbrev N__law_bits : List Str := ["_law_worths_here", "_law_counts_here", "_law_bits_here", "_law_worth", "_law_many", "_law_chunk", "_law_size"]
theorem sc__law_bits : FnScope N__law_bits ["_law_worths_here", "_law_counts_here"] (defScope s__law_bits) := ⟨rfl, rfl, rfl, by decide +kernel, rfl, by decide +kernel, by decide +kernel⟩

def spBits (K : PySem.W.Frag) : Sp := fun vs H Q _ => ∃ (a b : Addr) (ws cs : List Int), vs = [.ref a, .ref b] ∧ SqL K H a (ws.map V.int) ∧ SqL K H b (cs.map V.int) ∧ Tar ws ∧ Roll ws.length 61 cs ∧
  ∀ (B : Nat) H', Tells B (Mk ws cs ws.length) → B < 2 ^ ((wt ws cs).toNat + 1) → Ex H H' → Q (.int (B : Int)) H'
section
variable {P : Program} {w : World} {K : PySem.W.Frag} {mg : Str → Option Value} {base : Heap}
theorem D_bits (T : Txt K mg) (F : Df K mg "_law_bits" s__law_bits) : Dn P w K mg base CX0 1 "_law_bits" ["_law_worths_here", "_law_counts_here"] (spBits K) := by
  refine F.dn sc__law_bits (fun _ _ _ _ _ _ us hl => match us, hl with | [_, _], _ => rfl) (fun vs H Q E h => ?_) (fun f cdv A outer s H vs Q E hr hK h => ?_)
  · obtain ⟨a, b, ws, cs, rfl, _⟩ := h
    rfl
  · obtain ⟨a, b, ws, cs, rfl, ha, hb, t, r, k⟩ := h
    refine ⟨_, (pss_cons (ps_set (i := 2) sc__law_bits.nd rfl (Or.inl rfl) pe_int)
      (pss_cons (ps_for PassesOwn.never rfl (pi_zip rfl T.m_zip (pa_cons (pv 0) (pa_cons (pv 1) pa_nil))) (pg_tup rfl (pgs_cons (pg_name (i := 3) sc__law_bits.nd rfl (Or.inl rfl)) (pgs_cons (pg_name (i := 4) sc__law_bits.nd rfl (Or.inl rfl)) pgs_nil))) (pss_cons (ps_set (i := 5) sc__law_bits.nd rfl (Or.inl rfl) pe_int)
      (pss_one (ps_while PassesOwn.never (pt_cmpR op_gt (pv 4) pe_int (nomark _)) (pss_cons (ps_set (i := 6) sc__law_bits.nd rfl (Or.inl rfl) (pe_callB (g_min rfl) rfl T.m_min boot_min (pa_cons (pv 5) (pa_cons (pv 4) pa_nil))))
      (pss_cons (ps_set (i := 2) sc__law_bits.nd rfl (Or.inl rfl) (pe_op op_or (pv 2) (pe_op op_shlB (pv 2) (pe_op op_mulB (pv 6) (pv 3)))))
      (pss_cons (ps_set (i := 4) sc__law_bits.nd rfl (Or.inl rfl) (pe_op op_sub (pv 4) (pv 6)))
      (pss_one (ps_set (i := 5) sc__law_bits.nd rfl (Or.inl rfl) (pe_op op_mulB (pv 5) pe_int))))))))))
      (pss_one (ps_ret (pv 2))))), ?_⟩
    try rw [hK]
    rw [show L2.start N__law_bits [.ref a, .ref b] = [some (.ref a), some (.ref b), none, none, none, none, none] from rfl]
    have tl := t.len
    walk_at "sx"
    refine x_iZQ ha hb ?_
    have n1 : min (ws.map V.int).length (cs.map V.int).length = ws.length := by rw [List.length_map, List.length_map, r.len]; omega
    refine x_forQ (walk_zip n1.symm) (fun i σ H' => Ex H H' ∧ ∃ (B : Nat) (v1 v2 v3 v4 : Option V), σ = [some (.ref a), some (.ref b), some (.int (B : Int)), v1, v2, v3, v4] ∧ Tells B (Mk ws cs i) ∧ B < 2 ^ ((low ws cs i).toNat + 1))
      ⟨Ex.refl _, 1, none, none, none, none, rfl, fun m => ?_, ?_⟩ (fun i σ H' _ p => ⟨ex_l p.1 ha, ex_l p.1 hb⟩) ?_ ?_
    · show Nat.testBit 1 m = true ↔ (m : Int) = 0
      cases m with
      | zero => simp
      | succ m => simp [Nat.testBit_succ]; omega
    · rw [low_zero]; decide
    · rintro i x σ H1 H1' hi ⟨e1, B, v1, v2, v3, v4, rfl, hB, hlt⟩ ⟨q, x1, y1, rfl, hq, rfl, h1, h2⟩
      obtain ⟨u, rfl, hu⟩ := int_of h1
      obtain ⟨c, rfl, hc⟩ := int_of h2
      have eu : gd ws i = u := getD_of hu
      have ec : gd cs i = c := getD_of hc
      have hw := tar_at t hi
      have hr' := roll_at r hi
      have hl0 := low_nn t r (i := i) (by omega)
      have hl1 := low_le t r (i := i) (by omega)
      rw [eu] at hw
      rw [ec] at hr'
      walk_at "sx"
      refine x_while (fun m σ H' => Ex H H' ∧ ∃ (B : Nat) (s ch : Int) (v4 : Option V), σ = [some (.ref a), some (.ref b), some (.int (B : Int)), some (.int u), some (.int (c - s)), some (.int ch), v4] ∧ 0 ≤ s ∧ s ≤ c ∧ m = (c - s).toNat ∧ (c - s = 0 ∨ ch = s + 1) ∧ 1 ≤ ch ∧ ch ≤ 1000 ∧ Tells B (More (Mk ws cs i) u s) ∧ B < 2 ^ ((low ws cs i).toNat + 1 + (s * u).toNat)) c.toNat
        ⟨e1.trans (Ex.new hq), B, 0, 1, v4, by rw [Int.sub_zero], Int.le_refl _, hr'.1, by rw [Int.sub_zero], .inr rfl, by decide, by decide, more_zero hB, by rw [Int.zero_mul]; exact hlt⟩ ?_
      rintro m σ H2 ⟨e2, B, s, ch, v4, rfl, s0, sc, hm, hch, c1, c2, hB, hlt⟩
      have su0 := Int.mul_nonneg s0 (show 0 ≤ u by omega)
      have su1 : s * u ≤ 61 * 10000 := Int.mul_le_mul (by omega) hw.2 (by omega) (by decide)
      walk_at "sx"
      refine x_whD (fun g => ?_) (fun g => ?_)
      · have ech : ch = s + 1 := by omega
        have key : ∀ z : Int, 1 ≤ z → z ≤ c - s → z ≤ ch → (z = c - s ∨ z = ch) →
            ∃ m', m' < m ∧ Ex H H2 ∧ ∃ (B' : Nat) (s' ch' : Int) (v4 : Option V), [some (V.ref a), some (.ref b), some (.int (((B ||| (B <<< (z * u).toNat) : Nat)) : Int)), some (.int u), some (.int (c - s - z)), some (.int (ch * 2)), some (.int z)] = [some (.ref a), some (.ref b), some (.int (B' : Int)), some (.int u), some (.int (c - s')), some (.int ch'), v4] ∧ 0 ≤ s' ∧ s' ≤ c ∧ m' = (c - s').toNat ∧ (c - s' = 0 ∨ ch' = s' + 1) ∧ 1 ≤ ch' ∧ ch' ≤ 1000 ∧ Tells B' (More (Mk ws cs i) u s') ∧ B' < 2 ^ ((low ws cs i).toNat + 1 + (s' * u).toNat) := fun z z1 z2 z3 z4 => by
          have zu := Int.mul_nonneg (show 0 ≤ z by omega) (show 0 ≤ u by omega)
          refine ⟨(c - (s + z)).toNat, by omega, e2, _, s + z, ch * 2, some (.int z), by rw [show c - (s + z) = c - s - z by omega], by omega, by omega, rfl, by omega, by omega, by omega, more_step (by omega) s0 (by omega) (by omega) (mk_nn t r (by omega)) hB, ?_⟩
          have e := bits_lt (k := (z * u).toNat) hlt
          rw [show (low ws cs i).toNat + 1 + ((s + z) * u).toNat = (low ws cs i).toNat + 1 + (s * u).toNat + (z * u).toNat by rw [Int.add_mul]; omega]
          exact e
        have shift : ∀ z : Int, 1 ≤ z → z ≤ c - s → ∀ Q' : VK, Q' (.int (((B ||| (B <<< (z * u).toNat) : Nat)) : Int)) H2 → rI CShl (fun i j => .int (i * 2 ^ j.toNat)) (.int (B : Int)) (.int (z * u)) H2 (opQ2 (rI0 fun i j => .int (Builtin.bitOr i j)) (.int (B : Int)) Q') := fun z z1 z2 Q' hq => by
          have zu := Int.mul_nonneg (show 0 ≤ z by omega) (show 0 ≤ u by omega)
          have zu2 : z * u ≤ 61 * 10000 := Int.mul_le_mul (by omega) hw.2 (by omega) (by decide)
          have ez : z * u = (((z * u).toNat : Nat) : Int) := by omega
          rw [ez]
          refine x_shl hlt (by omega) ?_
          refine x_opQ2 (x_I0 ?_)
          rw [bitOr_nn (Int.natCast_nonneg _) (Int.natCast_nonneg _), Int.toNat_natCast, Int.toNat_natCast]
          exact hq
        walk_at "sx"
        by_cases cc : c - s < ch
        · rw [if_pos cc]
          walk_at "sx"
          refine shift (c - s) (by omega) (Int.le_refl _) _ ?_
          walk_at "sx"
          exact key (c - s) (by omega) (Int.le_refl _) (by omega) (.inl rfl)
        · rw [if_neg cc]
          walk_at "sx"
          refine shift ch (by omega) (by omega) _ ?_
          walk_at "sx"
          exact key ch (by omega) (by omega) (Int.le_refl _) (.inr rfl)
      · have es : s = c := by omega
        subst es
        walk_at "sx"
        refine ⟨e2, B, _, _, _, _, rfl, fun m => (hB m).trans (by show More (Mk ws cs i) u s m ↔ ∃ k : Int, 0 ≤ k ∧ k ≤ gd cs i ∧ Mk ws cs i (m - k * gd ws i); rw [eu, ec]; exact Iff.rfl), ?_⟩
        rw [low_succ hi r.len, eu, ec]
        rw [show (low ws cs i + u * s).toNat + 1 = (low ws cs i).toNat + 1 + (s * u).toNat by rw [Int.mul_comm u s]; omega]
        exact hlt
    · rintro σ H1 ⟨e1, B, v1, v2, v3, v4, rfl, hB, hlt⟩
      rw [low_all r.len] at hlt
      walk_at "sx"
      exact k B H1 hB hlt e1
end

/-! ### the law's own greatest common sum -/
abbrev s__law_common : Stmt := top 17
abbrev N__law_common : List Str := ["_law_worths_here", "_law_one", "_law_other"]
theorem sc__law_common : FnScope N__law_common ["_law_worths_here", "_law_one", "_law_other"] (defScope s__law_common) := ⟨rfl, rfl, rfl, by decide +kernel, rfl, by decide +kernel, by decide +kernel⟩

def spCommon (K : PySem.W.Frag) : Sp := fun vs H Q _ => ∃ (a b c : Addr) (ws xs ys : List Int), vs = [.ref a, .ref b, .ref c] ∧ SqL K H a (ws.map V.int) ∧ SqL K H b (xs.map V.int) ∧ SqL K H c (ys.map V.int) ∧ Tar ws ∧ Roll ws.length 60 xs ∧ Roll ws.length 60 ys ∧
  ∀ H', Ex H H' → Q (.int (fullV ws xs ys)) H'
section
variable {P : Program} {w : World} {K : PySem.W.Frag} {mg : Str → Option Value} {base : Heap}
theorem D_common (D__law_bits : Dn P w K mg base CX0 1 "_law_bits" ["_law_worths_here", "_law_counts_here"] (spBits K)) (F : Df K mg "_law_common" s__law_common) : Dn P w K mg base CX0 2 "_law_common" ["_law_worths_here", "_law_one", "_law_other"] (spCommon K) := by
  refine F.dn sc__law_common (fun _ _ _ _ _ _ us hl => match us, hl with | [_, _, _], _ => rfl) (fun vs H Q E h => ?_) (fun f cdv A outer s H vs Q E hr hK h => ?_)
  · obtain ⟨a, b, c, ws, xs, ys, rfl, _⟩ := h
    rfl
  · obtain ⟨a, b, c, ws, xs, ys, rfl, ha, hb, hc, t, rx, ry, k⟩ := h
    refine ⟨_, (pss_one (ps_ret (pe_op op_sub (pe_bits (pe_op op_and (pe_dn D__law_bits (hr.mono (by first | decide | omega)) pass0 (pa_cons (pv 0) (pa_cons (pv 1) pa_nil))) (pe_dn D__law_bits (hr.mono (by first | decide | omega)) pass0 (pa_cons (pv 0) (pa_cons (pv 2) pa_nil))))) pe_int))), ?_⟩
    try rw [hK]
    rw [show L2.start N__law_common [.ref a, .ref b, .ref c] = [some (.ref a), some (.ref b), some (.ref c)] from rfl]
    walk_at "sx"
    refine ⟨a, b, ws, xs, rfl, ha, hb, t, rx.mono (by decide), fun B1 H1 hB1 l1 e1 => ?_⟩
    walk_at "sx"
    refine ⟨a, c, ws, ys, rfl, ex_l e1 ha, ex_l e1 hc, t, ry.mono (by decide), fun B2 H2 hB2 l2 e2 => ?_⟩
    have tells : ∀ m : Nat, (B1 &&& B2).testBit m = true ↔ Com ws xs ys (m : Int) := fun m => by
      rw [Nat.testBit_and, Bool.and_eq_true, hB1 m, hB2 m]
      exact Iff.rfl
    have tf := full_top t rx ry
    have h0 := com_iff t rx ry (fullV ws xs ys)
    have f0 : 0 ≤ fullV ws xs ys := (h0.mp tf.1).1
    have hne : B1 &&& B2 ≠ 0 := fun z => by
      have g := (tells (fullV ws xs ys).toNat).mpr (by rw [Int.toNat_of_nonneg f0]; exact tf.1)
      rw [z, Nat.zero_testBit] at g
      cases g
    have top := log2_top tells (fun m hm => ((com_iff t rx ry m).mp hm).1) hne
    have e : fullV ws xs ys = (((B1 &&& B2).log2 : Nat) : Int) := Top.one tf ⟨top.1, top.2⟩
    walk_at "sx"
    rw [bitAnd_pp (Int.natCast_nonneg _) (Int.natCast_nonneg _), Int.toNat_natCast, Int.toNat_natCast]
    have ib : Builtin.Int.intBits ((B1 &&& B2 : Nat) : Int) = (B1 &&& B2).log2 + 1 := by
      unfold Builtin.Int.intBits
      rw [if_neg (by simpa using hne), Int.natAbs_natCast]
    rw [ib]
    have hq := k H2 (e1.trans e2)
    rw [e] at hq
    rw [show ((((B1 &&& B2).log2 + 1 : Nat) : Int) - 1) = (((B1 &&& B2).log2 : Nat) : Int) by omega]
    exact hq
end

/-! ### what two drawn rolls leave; parts drawn of a roll -/
structure Drawn (H0 H : Hp) (b l p pc pd : Addr) (ws cs ds : List Int) (n : Nat) : Prop where
  kb : KB b H0 H
  hb : H0 b = none
  box : BoxAt H b l n
  hp : H p = some (.lst (ws.map V.int))
  hc : H pc = some (.lst (cs.map V.int))
  hd : H pd = some (.lst (ds.map V.int))
  fp : H0 p = none
  fc : H0 pc = none
  fd : H0 pd = none
  np : p ≠ b
  nc : pc ≠ b
  nd : pd ≠ b
  npc : p ≠ pc
  npd : p ≠ pd
  ncd : pc ≠ pd
  tar : Tar ws
  rc : Roll ws.length 60 cs
  rd : Roll ws.length 60 ds
theorem Drawn.step {H0 H H' : Hp} {b l p pc pd : Addr} {ws cs ds : List Int} {n m : Nat} (d : Drawn H0 H b l p pc pd ws cs ds n) (kb : KB b H H') (B : BoxAt H' b l m) : Drawn H0 H' b l p pc pd ws cs ds m :=
  ⟨d.kb.trans kb, d.hb, B, kb.get d.np d.hp, kb.get d.nc d.hc, kb.get d.nd d.hd, d.fp, d.fc, d.fd, d.np, d.nc, d.nd, d.npc, d.npd, d.ncd, d.tar, d.rc, d.rd⟩
theorem Drawn.ex {H0 H H' : Hp} {b l p pc pd : Addr} {ws cs ds : List Int} {n : Nat} (d : Drawn H0 H b l p pc pd ws cs ds n) (e : Ex H H') : Drawn H0 H' b l p pc pd ws cs ds n :=
  d.step (KB.of_ex e) (d.box.ex' e)
theorem Drawn.mono {H0 H : Hp} {b l p pc pd : Addr} {ws cs ds : List Int} {n m : Nat} (d : Drawn H0 H b l p pc pd ws cs ds n) (h : n ≤ m) : Drawn H0 H b l p pc pd ws cs ds m := d.step KB.refl (d.box.mono h)
theorem Drawn.swap {H0 H : Hp} {b l p pc pd : Addr} {ws cs ds : List Int} {n : Nat} (d : Drawn H0 H b l p pc pd ws cs ds n) : Drawn H0 H b l p pd pc ws ds cs n :=
  ⟨d.kb, d.hb, d.box, d.hp, d.hd, d.hc, d.fp, d.fd, d.fc, d.np, d.nd, d.nc, d.npd, d.npc, d.ncd.symm, d.tar, d.rd, d.rc⟩
/-- behind _law_two_rolls -/
theorem x_two {K : PySem.W.Frag} {H0 H : Hp} {b l : Addr} {n : Nat} {Q : VK} {E : XK} (kb : KB b H0 H) (hb : H0 b = none) (B : BoxAt H b l n) (hn : n ≤ 1000)
    (k : ∀ (t p pc pd : Addr) (ws cs ds : List Int) (H' : Hp), Drawn H0 H' b l p pc pd ws cs ds (n + 90) → H' t = some (.tup [.ref p, .ref pc, .ref pd]) → Q (.ref t) H') : spTwo K [.ref b] H Q E :=
  ⟨b, l, n, rfl, B, by omega, fun t p pc pd ws cs ds H' kb' B' hp hpc hpd n1 n2 n3 ht h1 h2 h3 tar rc rd =>
    k t p pc pd ws cs ds H' ⟨kb.trans kb', hb, B', h1, h2, h3, kb.fresh B.some hp, kb.fresh B.some hpc, kb.fresh B.some hpd, BoxAt.ne1 hp B, BoxAt.ne1 hpc B, BoxAt.ne1 hpd B, n1, n2, n3, tar, rc, rd⟩ ht⟩
/-- [_law_take(box, many + 1) for many in counts] -/
theorem x_draws {K : PySem.W.Frag} {σ : L2.St} {ns : List Nat} {i bs : Nat} {H : Hp} {Q : VK} {b l pc : Addr} {cs : List Int} {n : Nat} (B : BoxAt H b l n) (hn : n ≤ 2 ^ 58) (hc : H pc = some (.lst (cs.map V.int))) (nc : pc ≠ b) (hl : cs.length ≤ 10) (r : ∀ c ∈ cs, 0 ≤ c ∧ c ≤ 1000)
    (h1 : ∀ v, ((wipe σ ns).set i (some v))[bs]? = some (some (.ref b))) (h2 : ∀ v, ((wipe σ ns).set i (some v))[i]? = some (some v)) (h3 : ∀ v, wipe ((wipe σ ns).set i (some v)) ns = wipe σ ns)
    (k : ∀ (D : Addr) (ps : List Int) (H' : Hp), H D = none → KB b H H' → BoxAt H' b l (n + 10) → H' D = some (.lst (ps.map V.int)) → ps.length = cs.length → (∀ j, j < cs.length → 0 ≤ ps.getD j 0 ∧ ps.getD j 0 ≤ cs.getD j 0) → Q (.ref D) H') :
    lcQ (gName i) tYes (tCall spTake [] E0 (tCons (tVar bs) (tCons (tOp (rI0 fun i j => .int (i + j)) (tVar i) (tC (.int 1))) tNil))) ns σ Q (Itl K pc) H := by
  refine x_lcQ walk_list (fun D j H' => H D = none ∧ KB b H H' ∧ BoxAt H' b l (n + j) ∧ ∃ ps : List Int, H' D = some (.lst (ps.map V.int)) ∧ ps.length = j ∧ ∀ m, m < j → 0 ≤ ps.getD m 0 ∧ ps.getD m 0 ≤ cs.getD m 0)
    (fun D hD => ⟨hD, KB.new hD, B.ex' (Ex.new hD), [], upd_same, rfl, fun m h => absurd h (Nat.not_lt_zero m)⟩) (fun D j H' _ p => p.2.1.sqL (SqL.of hc) nc) ?_ ?_
  · rintro D j x H1 H1' hj ⟨hD, kb1, B1, ps, hps, hpl, hpb⟩ ⟨rfl, hx⟩
    obtain ⟨c, rfl, hcc⟩ := int_of hx
    rw [List.length_map] at hj
    have rc := r c (List.mem_of_getElem? hcc)
    refine x_lcTgN (h3 _) ?_
    refine x_tYes (x_ttT (x_call (x_cons (x_var (h1 _) (x_consQ (x_cons (x_op (x_var (h2 _) (x_opQ1 (x_c (x_opQ2 (x_I0 (x_consQ (x_nil ?_))))))))))))))
    refine x_callQ (x_take B1 (by omega) (by omega) (by omega) fun z H2 a1 a2 kb2 B2 => ?_)
    have nDb := BoxAt.ne1 hD B
    have nDl := BoxAt.ne2 hD B
    refine x_elt (kb2.get nDb hps) (by rw [List.length_map, hpl]; exact small1000 (by omega)) ?_
    refine ⟨hD, (kb1.trans kb2).mut hD, (B2.upd nDb nDl).mono (by omega), ps ++ [z], by rw [upd_same, List.map_append]; rfl, by rw [List.length_append, hpl]; rfl, fun m hm => ?_⟩
    rcases Nat.lt_succ_iff_lt_or_eq.mp hm with h | h
    · rw [List.getD_eq_getElem?_getD, List.getElem?_append_left (by omega), ← List.getD_eq_getElem?_getD]
      exact hpb m h
    · subst h
      rw [List.getD_eq_getElem?_getD, ← hpl, List.getElem?_concat_length, hpl, getD_of hcc]
      exact ⟨a1, by show z ≤ c; omega⟩
  · rintro D H1 ⟨hD, kb1, B1, ps, hps, hpl, hpb⟩
    rw [List.length_map] at B1 hpl hpb
    exact k D ps H1 hD kb1 (B1.mono (by omega)) hps hpl hpb

/-! ### the law -/
abbrev s_law : Stmt := top 22
abbrev N_law : List Str := ["_law_script", "_law_box_here", "_law_worths_here", "_law_one", "_law_other", "_law_rows", "_law_turn", "_law_ends", "_law_handed", "_law_many", "_law_found", "_law_row"]
theorem sc_law : FnScope N_law ["_law_script"] (defScope s_law) := ⟨rfl, rfl, rfl, by decide +kernel, rfl, by decide +kernel, by decide +kernel⟩

theorem cut_last {xs : List V} : cutV xs (some (-1)) none = xs.drop (xs.length - 1) := by
  unfold cutV
  rw [HT.sIx_none]
  have e : HT.sIx xs.length 0 (some (-1)) = xs.length - 1 := by
    show (if (-1 : Int) < 0 then ((-1 : Int) + (xs.length : Int)).toNat else min (-1 : Int).toNat xs.length) = _
    rw [if_pos (by decide)]
    omega
  rw [e, List.take_of_length_le (by rw [List.length_drop]; omega)]
/-- three lists and a list of rows, their copies in a list -/
structure Four (K : PySem.W.Frag) (H : Hp) (p pc pd q q1 q2 q3 q4 qh : Addr) (ws cs ds : List Int) (us : List V) (rs : List Row) : Prop where
  p1 : SqL K H p (ws.map V.int)
  p2 : SqL K H pc (cs.map V.int)
  p3 : SqL K H pd (ds.map V.int)
  p4 : SqL K H q us
  s1 : SqL K H q1 (ws.map V.int)
  s2 : SqL K H q2 (cs.map V.int)
  s3 : SqL K H q3 (ds.map V.int)
  s4 : SqL K H q4 us
  s : SqL K H qh [.ref q1, .ref q2, .ref q3, .ref q4]
  r : RowsD K H us rs
theorem Four.upd {K : PySem.W.Frag} {H : Hp} {p pc pd q q1 q2 q3 q4 qh r : Addr} {ws cs ds : List Int} {us ys zs : List V} {rs : List Row} (m : Four K H p pc pd q q1 q2 q3 q4 qh ws cs ds us rs) (h : H r = some (.lst ys)) (n1 : p ≠ r) (n2 : pc ≠ r) (n3 : pd ≠ r) (n4 : q ≠ r) (n5 : q1 ≠ r) (n6 : q2 ≠ r) (n7 : q3 ≠ r) (n8 : q4 ≠ r) (n9 : qh ≠ r) : Four K (L2.upd H r (.lst zs)) p pc pd q q1 q2 q3 q4 qh ws cs ds us rs :=
  ⟨sqL_upd n1 m.p1, sqL_upd n2 m.p2, sqL_upd n3 m.p3, sqL_upd n4 m.p4, sqL_upd n5 m.s1, sqL_upd n6 m.s2, sqL_upd n7 m.s3, sqL_upd n8 m.s4, sqL_upd n9 m.s, m.r.mut h⟩
theorem Four.ex {K : PySem.W.Frag} {H H' : Hp} {p pc pd q q1 q2 q3 q4 qh : Addr} {ws cs ds : List Int} {us : List V} {rs : List Row} (m : Four K H p pc pd q q1 q2 q3 q4 qh ws cs ds us rs) (e : Ex H H') : Four K H' p pc pd q q1 q2 q3 q4 qh ws cs ds us rs :=
  ⟨ex_l e m.p1, ex_l e m.p2, ex_l e m.p3, ex_l e m.p4, ex_l e m.s1, ex_l e m.s2, ex_l e m.s3, ex_l e m.s4, ex_l e m.s, m.r.ex e⟩
theorem Four.same {K : PySem.W.Frag} {H : Hp} {p pc pd q q1 q2 q3 q4 qh r : Addr} {ws cs ds : List Int} {us : List V} {rs : List Row} (m : Four K H p pc pd q q1 q2 q3 q4 qh ws cs ds us rs) (hr : SqL K H r [.ref p, .ref pc, .ref pd, .ref q]) (h1 : ws.length ≤ 100000) (h2 : cs.length ≤ 100000) (h3 : ds.length ≤ 100000) (h4 : rs.length ≤ 100000) :
    Dp K H (.ref qh) (.list [dInts ws, dInts cs, dInts ds, .list (rs.map rowD)]) ∧ Dp K H (.ref r) (.list [dInts ws, dInts cs, dInts ds, .list (rs.map rowD)]) ∧ SeqAt.shaped (.list [dInts ws, dInts cs, dInts ds, .list (rs.map rowD)]) = true :=
  ⟨.lst m.s (.cons (dp_ints m.s1) (.cons (dp_ints m.s2) (.cons (dp_ints m.s3) (.cons (.lst m.s4 m.r.dp) .nil)))), .lst hr (.cons (dp_ints m.p1) (.cons (dp_ints m.p2) (.cons (dp_ints m.p3) (.cons (.lst m.p4 m.r.dp) .nil)))), OkD.shaped (n := 4) (.list (by simp) fun d hd => by
    simp only [List.mem_cons, List.not_mem_nil, or_false] at hd
    rcases hd with rfl | rfl | rfl | rfl
    · exact OkD.ints h1
    · exact OkD.ints h2
    · exact OkD.ints h3
    · refine .list (by rw [List.length_map]; exact h4) fun d hd => ?_
      obtain ⟨r, _, rfl⟩ := List.mem_map.mp hd
      refine .tuple (by simp) fun d hd => ?_
      simp only [List.mem_cons, List.not_mem_nil, or_false] at hd
      rcases hd with rfl | rfl | rfl <;> exact .int _) (by decide)⟩
section
variable {P : Program} {w : World} {K : PySem.W.Frag} {mg : Str → Option Value} {base : Heap}
theorem D_law (T : Txt K mg) (D__law_box : Dn P w K mg base CX0 1 "_law_box" ["_law_script"] (spBox K)) (D__law_take : Dn P w K mg base CX0 2 "_law_take" ["_law_box_here", "_law_size"] spTake) (D__law_two_rolls : Dn P w K mg base CX0 4 "_law_two_rolls" ["_law_box_here"] (spTwo K))
    (D__law_falls : Dn P w K mg base CX0 2 "_law_falls" ["_law_worths_here", "_law_one", "_law_other"] (spFalls K)) (D__law_bent_rows : Dn P w K mg base CX0 3 "_law_bent_rows" ["_law_box_here", "_law_rows"] (spBent K))
    (D__law_common : Dn P w K mg base CX0 2 "_law_common" ["_law_worths_here", "_law_one", "_law_other"] (spCommon K)) (D__law_weight : Dn P w K mg base CX0 1 "_law_weight" ["_law_worths_here", "_law_counts_here"] (spLWeight K))
    (D__law_bars : Dn P w K mg base CX0 3 "_law_bars" ["_law_worths_here", "_law_one", "_law_other", "_law_many", "_law_rows"] (spBars K)) (D_bars : Dn P w K mg base CX0 4 "bars" ["worths", "one", "other", "many", "rows"] (spBars K)) (D__law_alike : Dn P w K mg base CX0 6 "_law_alike" ["_law_found", "_law_due"] (spAlike K 4))
    {f : Addr} {fd : FuncData} (F : Fun K "law" "law" s_law f fd) : FnOk P w K mg base CX0 8 f fd ["_law_script"] (spLaw K) := by
  refine F.ok sc_law (fun vs H Q E h => ?_) (fun cdv A outer s H vs Q E hr h => ?_)
  · obtain ⟨a, ns, rfl, _⟩ := h
    rfl
  · obtain ⟨a, ns, rfl, hS, hlen, hbits, k⟩ := h
    have hK : (cxOf CX0 P w K mg base N_law "law" (defScope s_law) f cdv A outer s H E).nox.K = K := rfl
    refine ⟨_, (pss_cons (ps_set (i := 1) sc_law.nd rfl (Or.inl rfl) (pe_dn D__law_box (hr.mono (by first | decide | omega)) pass0 (pa_cons (pv 0) pa_nil)))
      (pss_cons (ps_asg (pe_dn D__law_two_rolls (hr.mono (by first | decide | omega)) pass0 (pa_cons (pv 1) pa_nil)) (pg_tup rfl (pgs_cons (pg_name (i := 2) sc_law.nd rfl (Or.inl rfl)) (pgs_cons (pg_name (i := 3) sc_law.nd rfl (Or.inl rfl)) (pgs_cons (pg_name (i := 4) sc_law.nd rfl (Or.inl rfl)) pgs_nil)))))
      (pss_cons (ps_set (i := 5) sc_law.nd rfl (Or.inl rfl) (pe_dn D__law_falls (hr.mono (by first | decide | omega)) pass0 (pa_cons (pv 2) (pa_cons (pv 3) (pa_cons (pv 4) pa_nil)))))
      (pss_cut (ps_for PassesOwn.never rfl (pi_range1 rfl T.m_range (pa_cons (pe_dn D__law_take (hr.mono (by first | decide | omega)) pass0 (pa_cons (pv 1) (pa_cons pe_int pa_nil))) pa_nil)) (pg_name (i := 6) sc_law.nd rfl (Or.inl rfl)) (pss_one (ps_set (i := 5) sc_law.nd rfl (Or.inl rfl) (pe_dn D__law_bent_rows (hr.mono (by first | decide | omega)) pass0 (pa_cons (pv 1) (pa_cons (pv 5) pa_nil))))))
      (pss_cons (ps_set (i := 7) sc_law.nd rfl (Or.inl rfl) (pe_op op_cat (pe_lc (own := [("_law_row", 11)]) (g := gName 11) (tt := tYes) rfl sc_law.nd (pi_list (pe_slice sl_list (pv 5) (po_some (pe_un un_neg pe_int)) po_none)) (blkOk_by (own := [("_law_row", 11)]) (N := N_law) (sc := defScope s_law) (by decide +kernel)) (fun _ _ _ _ _ => pg_name (i := 11) sc_law.nd rfl (Or.inl rfl)) (fun _ _ _ _ _ => pts_nil) (fun _ _ _ _ _ => (pe_ix (r := rIxT K) ix_tup (pv 11) pe_int (fun _ _ => rfl)))) (pe_lst (pa_cons (pe_dn D__law_common (hr.mono (by first | decide | omega)) pass0 (pa_cons (pv 2) (pa_cons (pv 3) (pa_cons (pv 4) pa_nil)))) pa_nil))))
      (pss_cons (ps_set (i := 8) sc_law.nd rfl (Or.inl rfl) (pe_lst (pa_cons (pe_callTy g_list rfl T.m_list boot_list (pa_cons (pv 2) pa_nil)) (pa_cons (pe_callTy g_list rfl T.m_list boot_list (pa_cons (pv 3) pa_nil)) (pa_cons (pe_callTy g_list rfl T.m_list boot_list (pa_cons (pv 4) pa_nil)) (pa_cons (pe_callTy g_list rfl T.m_list boot_list (pa_cons (pv 5) pa_nil)) pa_nil))))))
      (pss_cut (ps_expr (pe_bm PySem.F.plainAttrs_list PySem.F.slot_list_append PySem.F.type_list_append mt_append (pv 7) (pa_cons (pe_callB (g_min rfl) rfl T.m_min boot_min (pa_cons (pe_dn D__law_weight (hr.mono (by first | decide | omega)) pass0 (pa_cons (pv 2) (pa_cons (pv 3) pa_nil))) (pa_cons (pe_dn D__law_weight (hr.mono (by first | decide | omega)) pass0 (pa_cons (pv 2) (pa_cons (pv 4) pa_nil))) pa_nil))) pa_nil)))
      (pss_cons (ps_for PassesOwn.never rfl (pi_list (pe_op op_cat (pe_lst (pa_cons (pe_ix ix_list (pv 7) pe_int (fun _ _ => rfl)) (pa_cons (pe_op op_add (pe_ix ix_list (pv 7) pe_int (fun _ _ => rfl)) pe_int) (pa_cons (pe_op op_sub (pe_ix ix_list (pv 7) pe_int (fun _ _ => rfl)) pe_int) pa_nil)))) (pe_slice sl_list (pv 7) (po_some pe_int) po_none))) (pg_name (i := 9) sc_law.nd rfl (Or.inl rfl)) (pss_cons (ps_set (i := 10) sc_law.nd rfl (Or.inl rfl) (pe_dn D_bars (hr.mono (by first | decide | omega)) pass0 (pa_cons (pe_ix ix_list (pv 8) pe_int (fun _ _ => rfl)) (pa_cons (pe_ix ix_list (pv 8) pe_int (fun _ _ => rfl)) (pa_cons (pe_ix ix_list (pv 8) pe_int (fun _ _ => rfl)) (pa_cons (pv 9) (pa_cons (pe_ix ix_list (pv 8) pe_int (fun _ _ => rfl)) pa_nil)))))))
      (pss_one (ps_if (pt_not (pt_val (pe_dn D__law_alike (hr.mono (by first | decide | omega)) pass0 (pa_cons (pv 10) (pa_cons (pe_dn D__law_bars (hr.mono (by first | decide | omega)) pass0 (pa_cons (pv 2) (pa_cons (pv 3) (pa_cons (pv 4) (pa_cons (pv 9) (pa_cons (pv 5) pa_nil)))))) pa_nil))))) (pss_one (ps_ret pe_bl)) pss_nil))))
      (pss_one (ps_ret (pe_cmpR (op_eqD hr.units) (pv 8) (pe_lst (pa_cons (pv 2) (pa_cons (pv 3) (pa_cons (pv 4) (pa_cons (pv 5) pa_nil))))) (nomark _)))))))))))), ?_⟩
    try rw [hK]
    rw [show L2.start N_law [.ref a] = [some (.ref a), none, none, none, none, none, none, none, none, none, none, none] from rfl]
    walk_at "sx"
    refine ⟨a, ns, rfl, hS, hbits, fun b l H1 hb hl e1 B1 => ?_⟩
    walk_at "sx"
    refine x_two (KB.of_ex e1) hb B1 (by decide) fun t p pc pd ws cs ds H2 d ht => ?_
    walk_at "sx"
    have tar := d.tar
    have rc := d.rc
    have rd := d.rd
    have tl := tar.len
    have rcl := rc.len
    have rdl := rd.len
    refine ⟨p, pc, pd, ws, cs, ds, 60, rfl, SqL.of d.hp, SqL.of d.hc, SqL.of d.hd, tar, rc, rd, by decide, fun q us H3 hq e3 hus hrs => ?_⟩
    have d3 := d.ex e3
    walk_at "sx"
    refine x_cut (fun σ G => ∃ (q : Addr) (us : List V) (rs : List Row) (v6 : Option V), σ = [some (.ref a), some (.ref b), some (.ref p), some (.ref pc), some (.ref pd), some (.ref q), v6, none, none, none, none, none] ∧ Drawn H G b l p pc pd ws cs ds 1000 ∧ G q = some (.lst us) ∧ RowsD K G us rs ∧ rs.length ≤ 40) ?_ ?_
    · walk_at "sx"
      refine x_take d3.box (by omega) (by omega) (by omega) fun z H4 z1 z2 kb4 B4 => ?_
      have d4 := d3.step kb4 B4
      have nqb := BoxAt.ne1 hq d.box
      have hus4 := kb4.get nqb hus
      have hrs4 := hrs.kb kb4 d3.box
      have hwt := low_le tar (rc.mono (by decide : (60 : Int) ≤ 61)) (Nat.le_refl ws.length)
      rw [low_all rcl] at hwt
      have fl := (fst_ok tar rc rd ws.length (Nat.le_refl _)).len
      have fb : Bnd 4000000 (fallsL ws cs ds) := fun r hr => by
        have g := falls_bnd tar rc rd ws.length (Nat.le_refl _) r hr
        omega
      have fl6 : (fallsL ws cs ds).length ≤ 6 := by show (fst ws cs ds ws.length).1.length ≤ 6; omega
      walk_at "sx"
      refine x_iRQ (by omega) (by omega) ?_
      refine x_forQ walk_r0 (fun i σ G => ∃ (q : Addr) (us : List V) (rs : List Row) (v6 : Option V), σ = [some (.ref a), some (.ref b), some (.ref p), some (.ref pc), some (.ref pd), some (.ref q), v6, none, none, none, none, none] ∧ Drawn H G b l p pc pd ws cs ds (0 + 90 + 1 + 18 * i) ∧ G q = some (.lst us) ∧ RowsD K G us rs ∧ rs.length ≤ 6 + 7 * i ∧ Bnd (4000000 + 14000 * (i : Int)) rs) ⟨q, us, _, none, rfl, d4, hus4, hrs4, fl6, fb.mono (by omega)⟩ (fun _ _ _ _ _ => trivial) ?_ ?_
      · rintro i x σ H5 H5' hi ⟨q, us, rs, v6, rfl, d5, h5, hr5, hl5, hb5⟩ ⟨rfl, rfl⟩
        have hi4 : i < 4 := by omega
        walk_at "sx"
        refine ⟨b, l, q, _, _, us, rs, rfl, d5.box, by omega, SqL.of h5, hr5, by omega, hb5, by omega, by omega, fun q' us' rs' H6 hq' kb6 B6 h6 hr6 hl6 hb6 => ?_⟩
        walk_at "sx"
        exact ⟨q', us', rs', _, rfl, (d5.step kb6 B6).mono (by omega), h6, hr6, by omega, hb6.mono (by omega)⟩
      · rintro σ H5 ⟨q, us, rs, v6, rfl, d5, h5, hr5, hl5, hb5⟩
        walk_at "sx"
        exact ⟨q, us, rs, _, rfl, d5.mono (by omega), h5, hr5, by omega⟩
    · clear hus hrs hq d3 d
      rintro σ G ⟨q, us, rs, v6, rfl, d, hus, hrs, hrl⟩
      walk_at "sx"
      have hul := hrs.len
      refine x_slL (SqL.of hus) fun p1 hp1 => ?_
      rw [cut_last]
      have e1 := Ex.new hp1 (o := .lst (us.drop (us.length - 1)))
      have d1 := d.ex e1
      have h1 : upd G p1 (.lst (us.drop (us.length - 1))) p1 = some (.lst (us.drop (us.length - 1))) := upd_same
      have hus1 := e1 _ _ hus
      have hrs1 := hrs.ex e1
      generalize upd G p1 (.lst (us.drop (us.length - 1))) = G1 at d1 h1 hus1 hrs1 ⊢
      refine x_iLQ (SqL.of h1) ?_
      refine x_lcMap walk_list (fun i => V.int ((rs.drop (rs.length - 1)).getD i (0, 0, 0)).2.1) (sz_of (by rw [List.length_drop]; omega)) (fun H' e => ex_l e (SqL.of h1)) ?turn ?grow ?done
      case turn =>
        rintro D i x G3 G4 Nx hi e1 ⟨rfl, hx⟩ kk
        obtain ⟨qr, row, rfl, hrow, hqr⟩ := (hrs1.drop (us.length - 1)).get hx
        have hqr' : SqT K G1 qr [.int row.1, .int row.2.1, .int row.2.2] := hqr
        have hqr3 := ex_t e1 hqr'
        rw [hul] at hrow
        have q := kk G4 (Ex.refl _)
        rw [List.getD_eq_getElem?_getD, hrow] at q
        walk_at "sx"
        exact q
      case grow =>
        rintro i x G3 G4 hi e1 ⟨rfl, hx⟩
        exact Ex.refl _
      case done =>
        intro D H6 hD e6 hl6
        have d6 := d1.ex e6
        walk_at "sx"
        refine ⟨p, pc, pd, ws, cs, ds, rfl, SqL.of d6.hp, SqL.of d6.hc, SqL.of d6.hd, tar, rc, rd, fun H7 e7 => ?_⟩
        walk_at "sx"
        intro q7 hq7
        walk_at "sx"
        have d7 := (d6.ex e7).ex (Ex.new hq7 (o := .lst [.int (fullV ws cs ds)]))
        have hl7 : upd H7 q7 (.lst [.int (fullV ws cs ds)]) D = some (.lst (((List.range (us.drop (us.length - 1)).length).map fun i => ((rs.drop (rs.length - 1)).getD i (0, 0, 0)).2.1).map V.int)) := by
          rw [upd_ne (ne_fresh hq7 (e7 _ _ hl6)).symm, e7 _ _ hl6, List.map_map]
          rfl
        have hus7 := Ex.new hq7 (o := .lst [.int (fullV ws cs ds)]) _ _ (e7 _ _ (e6 _ _ hus1))
        have hrs7 := ((hrs1.ex e6).ex e7).ex (Ex.new hq7 (o := .lst [.int (fullV ws cs ds)]))
        have hl77 : upd H7 q7 (.lst [.int (fullV ws cs ds)]) q7 = some (.lst ([fullV ws cs ds].map V.int)) := upd_same
        have hls : ((List.range (us.drop (us.length - 1)).length).map fun i => ((rs.drop (rs.length - 1)).getD i (0, 0, 0)).2.1).length ≤ 40 := by rw [List.length_map, List.length_range, List.length_drop]; omega
        generalize (List.range (us.drop (us.length - 1)).length).map (fun i => ((rs.drop (rs.length - 1)).getD i (0, 0, 0)).2.1) = es at hl7 hls
        generalize upd H7 q7 (.lst [.int (fullV ws cs ds)]) = G7 at d7 hl7 hus7 hrs7 hl77 ⊢
        refine x_cat hl7 hl77 (by rw [List.length_map, List.length_map, List.length_singleton]; exact sz_of (by omega)) fun qe hqe => ?_
        rw [← List.map_append]
        have e8 := Ex.new hqe (o := .lst ((es ++ [fullV ws cs ds]).map V.int))
        have d8 := d7.ex e8
        have hus8 := e8 _ _ hus7
        have hrs8 := hrs7.ex e8
        have he8 : upd G7 qe (.lst ((es ++ [fullV ws cs ds]).map V.int)) qe = some (.lst ((es ++ [fullV ws cs ds]).map V.int)) := upd_same
        generalize upd G7 qe (.lst ((es ++ [fullV ws cs ds]).map V.int)) = G8 at d8 hus8 hrs8 he8 ⊢
        walk_at "sx"
        refine x_listL (SqL.of d8.hp) fun q1 hq1 => ?_
        have f1 := Ex.new hq1 (o := .lst (ws.map V.int))
        have d9 := d8.ex f1
        walk_at "sx"
        refine x_listL (SqL.of d9.hc) fun q2 hq2 => ?_
        have f2 := Ex.new hq2 (o := .lst (cs.map V.int))
        have d10 := d9.ex f2
        walk_at "sx"
        refine x_listL (SqL.of d10.hd) fun q3 hq3 => ?_
        have f3 := Ex.new hq3 (o := .lst (ds.map V.int))
        have d11 := d10.ex f3
        walk_at "sx"
        intro q4 hq4
        have f4 := Ex.new hq4 (o := .lst us)
        have d12 := d11.ex f4
        walk_at "sx"
        intro qh hqh
        walk_at "sx"
        have f5 := Ex.new hqh (o := .lst [.ref q1, .ref q2, .ref q3, .ref q4])
        have d13 := d12.ex f5
        have m : Four K _ p pc pd q q1 q2 q3 q4 qh ws cs ds us rs := ⟨SqL.of d13.hp, SqL.of d13.hc, SqL.of d13.hd, SqL.of (f5 _ _ (f4 _ _ (f3 _ _ (f2 _ _ (f1 _ _ hus8))))), SqL.of (f5 _ _ (f4 _ _ (f3 _ _ (f2 _ _ upd_same)))), SqL.of (f5 _ _ (f4 _ _ (f3 _ _ upd_same))), SqL.of (f5 _ _ (f4 _ _ upd_same)), SqL.of (f5 _ _ upd_same), SqL.of upd_same, hrs8.ex (f1.trans (f2.trans (f3.trans (f4.trans f5))))⟩
        have he13 := f5 _ _ (f4 _ _ (f3 _ _ (f2 _ _ (f1 _ _ he8))))
        have sw := tar_sm tar
        have sx := rc.sm (by decide)
        have sy := rd.sm (by decide)
        have n1 := ne_of_none d7.hp hqe
        have n2 := ne_of_none d7.hc hqe
        have n3 := ne_of_none d7.hd hqe
        have n4 := ne_of_none hus7 hqe
        have n5 := ne_fresh hq1 he8
        have n6 := ne_fresh hq2 (f1 _ _ he8)
        have n7 := ne_fresh hq3 (f2 _ _ (f1 _ _ he8))
        have n8 := ne_fresh hq4 (f3 _ _ (f2 _ _ (f1 _ _ he8)))
        have n9 := ne_fresh hqh (f4 _ _ (f3 _ _ (f2 _ _ (f1 _ _ he8))))
        generalize upd (upd (upd (upd (upd G8 q1 (.lst (ws.map V.int))) q2 (.lst (cs.map V.int))) q3 (.lst (ds.map V.int))) q4 (.lst us)) qh (.lst [.ref q1, .ref q2, .ref q3, .ref q4]) = G9 at m he13 ⊢
        refine x_cut (fun σ G => ∃ (v6 : Option V) (es : List Int), σ = [some (.ref a), some (.ref b), some (.ref p), some (.ref pc), some (.ref pd), some (.ref q), v6, some (.ref qe), some (.ref qh), none, none, none] ∧ Four K G p pc pd q q1 q2 q3 q4 qh ws cs ds us rs ∧ G qe = some (.lst (es.map V.int)) ∧ 1 ≤ es.length ∧ es.length ≤ 60) ?_ ?_
        · walk_at "sx"
          refine ⟨p, pc, ws, cs, rfl, m.p1, m.p2, sw, sx, by omega, rcl, ?_⟩
          walk_at "sx"
          refine ⟨p, pd, ws, ds, rfl, m.p1, m.p3, sw, sy, by omega, rdl, ?_⟩
          walk_at "sx"
          refine x_append he13 (by rw [List.length_map, List.length_append, List.length_singleton]; exact small1000 (by omega)) ?_
          walk_at "sx"
          refine ⟨_, es ++ [fullV ws cs ds] ++ [if wt ws ds < wt ws cs then wt ws ds else wt ws cs], rfl, m.upd he13 n1 n2 n3 n4 n5 n6 n7 n8 n9, by rw [upd_same, List.map_append (l₂ := [if wt ws ds < wt ws cs then wt ws ds else wt ws cs])]; rfl, by simp, by simp; omega⟩
        · clear hls hl6 hl7 hl77 he8 he13 m
          rintro σ G ⟨v6, es, rfl, m, he, he1, he2⟩
          walk_at "sx"
          obtain ⟨x0, es', rfl⟩ : ∃ x0 es', es = x0 :: es' := by
            cases es with
            | nil => exact absurd he1 (by decide)
            | cons x r => exact ⟨x, r, rfl⟩
          have he0 := he
          refine x_ixLn (i := 0) (SqL.of he) (by decide) rfl ?_
          walk_at "sx"
          intro p3 hp3
          walk_at "sx"
          have g3 := Ex.new hp3 (o := .lst ([x0, x0 + 1, x0 - 1].map V.int))
          refine x_slL (SqL.of (g3 _ _ he)) fun p4 hp4 => ?_
          rw [show cutV ((x0 :: es').map V.int) (some 1) none = es'.map V.int from cut_from (k := 1)]
          refine x_cat (xs := [x0, x0 + 1, x0 - 1].map V.int) (Ex.new hp4 _ _ upd_same) upd_same (by rw [List.length_map, List.length_map]; exact sz_of (by simp at he2 ⊢; omega)) fun p5 hp5 => ?_
          rw [← List.map_append]
          have g5 := g3.trans ((Ex.new hp4 (o := .lst (es'.map V.int))).trans (Ex.new hp5 (o := .lst (([x0, x0 + 1, x0 - 1] ++ es').map V.int))))
          have m5 : Four K (upd (upd (upd G p3 (.lst [.int x0, .int (x0 + 1), .int (x0 - 1)])) p4 (.lst (es'.map V.int))) p5 (.lst (([x0, x0 + 1, x0 - 1] ++ es').map V.int))) p pc pd q q1 q2 q3 q4 qh ws cs ds us rs := m.ex g5
          have h5 : upd (upd (upd G p3 (.lst [.int x0, .int (x0 + 1), .int (x0 - 1)])) p4 (.lst (es'.map V.int))) p5 (.lst (([x0, x0 + 1, x0 - 1] ++ es').map V.int)) p5 = some (.lst (([x0, x0 + 1, x0 - 1] ++ es').map V.int)) := upd_same
          generalize [x0, x0 + 1, x0 - 1] ++ es' = zs at h5 m5 ⊢
          generalize upd (upd (upd G p3 (.lst [.int x0, .int (x0 + 1), .int (x0 - 1)])) p4 (.lst (es'.map V.int))) p5 (.lst (zs.map V.int)) = G5 at h5 m5 ⊢
          refine x_iLQ (SqL.of h5) ?_
          refine x_forQ walk_list (fun i σ H' => Ex G5 H' ∧ ∃ v9 v10, σ = [some (.ref a), some (.ref b), some (.ref p), some (.ref pc), some (.ref pd), some (.ref q), v6, some (.ref qe), some (.ref qh), v9, v10, none]) ⟨Ex.refl _, _, _, rfl⟩ (fun i σ H' _ pv => ex_l pv.1 (SqL.of h5)) ?_ ?_
          · rintro i x σ H8 H8' hi ⟨e8, v9, v10, rfl⟩ ⟨rfl, hx⟩
            obtain ⟨z, rfl, _⟩ := int_of hx
            have m8 := m5.ex e8
            have h8 := m8.s
            walk_at "sx"
            refine ⟨q1, q2, q3, q4, ws, cs, ds, 60, z, us, rs, rfl, m8.s1, m8.s2, m8.s3, tar, rc, rd, by decide, m8.s4, m8.r, by omega, fun v H9 hv e9 => ?_⟩
            have m9 := m8.ex e9
            walk_at "sx"
            refine ⟨p, pc, pd, q, ws, cs, ds, 60, z, us, rs, rfl, m9.p1, m9.p2, m9.p3, tar, rc, rd, by decide, m9.p4, m9.r, by omega, fun u H10 hu e10 => ?_⟩
            have euv : u = v := Bool.eq_iff_iff.mpr (hu.trans hv.symm)
            subst euv
            walk_at "sx"
            refine ⟨_, _, .bool u, rfl, .bl _, .bl _, .bool _, by decide, fun H11 e11 => ?_⟩
            walk_at "sx"
            exact ⟨e8.trans (e9.trans (e10.trans e11)), _, _, rfl⟩
          · rintro σ H8 ⟨e8, v9, v10, rfl⟩
            have m8 := m5.ex e8
            walk_at "sx"
            intro r hr'
            walk_at "sx"
            have m9 := m8.ex (Ex.new hr' (o := .lst [.ref p, .ref pc, .ref pd, .ref q]))
            obtain ⟨t1, t2, t3⟩ := m9.same (SqL.of upd_same) (by omega) (by omega) (by omega) (by omega)
            refine x_eqSame t1 t2 t3 ?_
            exact k _
end

structure All (K : PySem.W.Frag) (mg : Str → Option Value) : Prop where
  T : Txt K mg
  F_weight : Df K mg "weight" s_weight
  F_lower : Df K mg "lower" s_lower
  F_is_due : Df K mg "is_due" s_is_due
  F_bars : Df K mg "bars" s_bars
  F__law_box : Df K mg "_law_box" s__law_box
  F__law_mixed : Df K mg "_law_mixed" s__law_mixed
  F__law_take : Df K mg "_law_take" s__law_take
  F__law_whole : Df K mg "_law_whole" s__law_whole
  F__law_alike : Df K mg "_law_alike" s__law_alike
  F__law_worths : Df K mg "_law_worths" s__law_worths
  F__law_counts : Df K mg "_law_counts" s__law_counts
  F__law_weight : Df K mg "_law_weight" s__law_weight
  F__law_bits : Df K mg "_law_bits" s__law_bits
  F__law_two_rolls : Df K mg "_law_two_rolls" s__law_two_rolls
  F__law_common : Df K mg "_law_common" s__law_common
  F__law_is_due : Df K mg "_law_is_due" s__law_is_due
  F__law_bars : Df K mg "_law_bars" s__law_bars
  F__law_falls : Df K mg "_law_falls" s__law_falls
  F__law_bent_rows : Df K mg "_law_bent_rows" s__law_bent_rows

theorem chain {P : Program} {w : World} {K : PySem.W.Frag} {mg : Str → Option Value} {base : Heap} (A : All K mg) {f : Addr} {fd : FuncData} (F : Fun K "law" "law" s_law f fd) : FnOk P w K mg base CX0 8 f fd ["_law_script"] (spLaw K) := by
  have T := A.T
  have D1 : Dn P w K mg base CX0 1 "_law_mixed" _ _ := D_mixed A.F__law_mixed
  have D2 := D_take T D1 A.F__law_take
  have D3 := D_whole (P := P) (w := w) (base := base) T A.F__law_whole
  have D4 := D_weight (P := P) (w := w) (base := base) T A.F_weight
  have D5 := D_lower T D4 A.F_lower
  have D6 := D_lweight (P := P) (w := w) (base := base) T A.F__law_weight
  exact D_law T (D_box T A.F__law_box) D2 (D_two T D2 (D_worths T D2 A.F__law_worths) (D_counts T D2 A.F__law_counts) A.F__law_two_rolls) (D_lfalls T D6 A.F__law_falls) (D_bent T D2 A.F__law_bent_rows)
    (D_common (D_bits T A.F__law_bits) A.F__law_common) D6 (D_lbars T D6 (D_lisdue T D6 A.F__law_is_due) A.F__law_bars) (D_bars T D4 (D_isdue T D5 A.F_is_due) A.F_bars) (D_alike T D3 A.F__law_alike 4) F
theorem all_ok {l : PySem.W.OpenLaw} {w : World} {K : PySem.W.Frag} {h : Heap} {mg : Str → Option Value} {fa : Addr} (X : K.In h) (G : h.Ns mainGlobals mg) (hfa : mg "law" = some (.ref fa))
    {f0 : Addr} {od0 an0 : Option Addr} {sl0 : Array (Option Value)} {oc0 kV0 dc0 pm0 cd0 ct0 : Value}
    {f1 : Addr} {od1 an1 : Option Addr} {sl1 : Array (Option Value)} {oc1 kV1 dc1 pm1 cd1 ct1 : Value}
    {f2 : Addr} {od2 an2 : Option Addr} {sl2 : Array (Option Value)} {oc2 kV2 dc2 pm2 cd2 ct2 : Value}
    {f3 : Addr} {od3 an3 : Option Addr} {sl3 : Array (Option Value)} {oc3 kV3 dc3 pm3 cd3 ct3 : Value}
    {f4 : Addr} {od4 an4 : Option Addr} {sl4 : Array (Option Value)} {oc4 kV4 dc4 pm4 cd4 ct4 : Value}
    {f5 : Addr} {od5 an5 : Option Addr} {sl5 : Array (Option Value)} {oc5 kV5 dc5 pm5 cd5 ct5 : Value}
    {f6 : Addr} {od6 an6 : Option Addr} {sl6 : Array (Option Value)} {oc6 kV6 dc6 pm6 cd6 ct6 : Value}
    {f7 : Addr} {od7 an7 : Option Addr} {sl7 : Array (Option Value)} {oc7 kV7 dc7 pm7 cd7 ct7 : Value}
    {f8 : Addr} {od8 an8 : Option Addr} {sl8 : Array (Option Value)} {oc8 kV8 dc8 pm8 cd8 ct8 : Value}
    {f9 : Addr} {od9 an9 : Option Addr} {sl9 : Array (Option Value)} {oc9 kV9 dc9 pm9 cd9 ct9 : Value}
    {f10 : Addr} {od10 an10 : Option Addr} {sl10 : Array (Option Value)} {oc10 kV10 dc10 pm10 cd10 ct10 : Value}
    {f11 : Addr} {od11 an11 : Option Addr} {sl11 : Array (Option Value)} {oc11 kV11 dc11 pm11 cd11 ct11 : Value}
    {f12 : Addr} {od12 an12 : Option Addr} {sl12 : Array (Option Value)} {oc12 kV12 dc12 pm12 cd12 ct12 : Value}
    {f13 : Addr} {od13 an13 : Option Addr} {sl13 : Array (Option Value)} {oc13 kV13 dc13 pm13 cd13 ct13 : Value}
    {f14 : Addr} {od14 an14 : Option Addr} {sl14 : Array (Option Value)} {oc14 kV14 dc14 pm14 cd14 ct14 : Value}
    {f15 : Addr} {od15 an15 : Option Addr} {sl15 : Array (Option Value)} {oc15 kV15 dc15 pm15 cd15 ct15 : Value}
    {f16 : Addr} {od16 an16 : Option Addr} {sl16 : Array (Option Value)} {oc16 kV16 dc16 pm16 cd16 ct16 : Value}
    {f17 : Addr} {od17 an17 : Option Addr} {sl17 : Array (Option Value)} {oc17 kV17 dc17 pm17 cd17 ct17 : Value}
    {f18 : Addr} {od18 an18 : Option Addr} {sl18 : Array (Option Value)} {oc18 kV18 dc18 pm18 cd18 ct18 : Value}
    {f19 : Addr} {od19 an19 : Option Addr} {sl19 : Array (Option Value)} {oc19 kV19 dc19 pm19 cd19 ct19 : Value}
    (a0 : PySem.W.nsIn K mainGlobals "weight" = some (some (.ref f0))) (l0 : K.lookup f0 = some ⟨oc0, od0, .func (PySem.W.fnOf "weight" "weight" (defArgs s_weight) (defBody s_weight) (defScope s_weight) .none kV0 dc0 pm0 an0 cd0 ct0), sl0⟩) (c0 : PySem.W.codeIn K cd0 "weight" = true) (k0 : PySem.W.keepIn K (.ref f0) = true)
    (a1 : PySem.W.nsIn K mainGlobals "lower" = some (some (.ref f1))) (l1 : K.lookup f1 = some ⟨oc1, od1, .func (PySem.W.fnOf "lower" "lower" (defArgs s_lower) (defBody s_lower) (defScope s_lower) .none kV1 dc1 pm1 an1 cd1 ct1), sl1⟩) (c1 : PySem.W.codeIn K cd1 "lower" = true) (k1 : PySem.W.keepIn K (.ref f1) = true)
    (a2 : PySem.W.nsIn K mainGlobals "is_due" = some (some (.ref f2))) (l2 : K.lookup f2 = some ⟨oc2, od2, .func (PySem.W.fnOf "is_due" "is_due" (defArgs s_is_due) (defBody s_is_due) (defScope s_is_due) .none kV2 dc2 pm2 an2 cd2 ct2), sl2⟩) (c2 : PySem.W.codeIn K cd2 "is_due" = true) (k2 : PySem.W.keepIn K (.ref f2) = true)
    (a3 : PySem.W.nsIn K mainGlobals "bars" = some (some (.ref f3))) (l3 : K.lookup f3 = some ⟨oc3, od3, .func (PySem.W.fnOf "bars" "bars" (defArgs s_bars) (defBody s_bars) (defScope s_bars) .none kV3 dc3 pm3 an3 cd3 ct3), sl3⟩) (c3 : PySem.W.codeIn K cd3 "bars" = true) (k3 : PySem.W.keepIn K (.ref f3) = true)
    (a4 : PySem.W.nsIn K mainGlobals "_law_box" = some (some (.ref f4))) (l4 : K.lookup f4 = some ⟨oc4, od4, .func (PySem.W.fnOf "_law_box" "_law_box" (defArgs s__law_box) (defBody s__law_box) (defScope s__law_box) .none kV4 dc4 pm4 an4 cd4 ct4), sl4⟩) (c4 : PySem.W.codeIn K cd4 "_law_box" = true) (k4 : PySem.W.keepIn K (.ref f4) = true)
    (a5 : PySem.W.nsIn K mainGlobals "_law_mixed" = some (some (.ref f5))) (l5 : K.lookup f5 = some ⟨oc5, od5, .func (PySem.W.fnOf "_law_mixed" "_law_mixed" (defArgs s__law_mixed) (defBody s__law_mixed) (defScope s__law_mixed) .none kV5 dc5 pm5 an5 cd5 ct5), sl5⟩) (c5 : PySem.W.codeIn K cd5 "_law_mixed" = true) (k5 : PySem.W.keepIn K (.ref f5) = true)
    (a6 : PySem.W.nsIn K mainGlobals "_law_take" = some (some (.ref f6))) (l6 : K.lookup f6 = some ⟨oc6, od6, .func (PySem.W.fnOf "_law_take" "_law_take" (defArgs s__law_take) (defBody s__law_take) (defScope s__law_take) .none kV6 dc6 pm6 an6 cd6 ct6), sl6⟩) (c6 : PySem.W.codeIn K cd6 "_law_take" = true) (k6 : PySem.W.keepIn K (.ref f6) = true)
    (a7 : PySem.W.nsIn K mainGlobals "_law_whole" = some (some (.ref f7))) (l7 : K.lookup f7 = some ⟨oc7, od7, .func (PySem.W.fnOf "_law_whole" "_law_whole" (defArgs s__law_whole) (defBody s__law_whole) (defScope s__law_whole) .none kV7 dc7 pm7 an7 cd7 ct7), sl7⟩) (c7 : PySem.W.codeIn K cd7 "_law_whole" = true) (k7 : PySem.W.keepIn K (.ref f7) = true)
    (a8 : PySem.W.nsIn K mainGlobals "_law_alike" = some (some (.ref f8))) (l8 : K.lookup f8 = some ⟨oc8, od8, .func (PySem.W.fnOf "_law_alike" "_law_alike" (defArgs s__law_alike) (defBody s__law_alike) (defScope s__law_alike) .none kV8 dc8 pm8 an8 cd8 ct8), sl8⟩) (c8 : PySem.W.codeIn K cd8 "_law_alike" = true) (k8 : PySem.W.keepIn K (.ref f8) = true)
    (a9 : PySem.W.nsIn K mainGlobals "_law_worths" = some (some (.ref f9))) (l9 : K.lookup f9 = some ⟨oc9, od9, .func (PySem.W.fnOf "_law_worths" "_law_worths" (defArgs s__law_worths) (defBody s__law_worths) (defScope s__law_worths) .none kV9 dc9 pm9 an9 cd9 ct9), sl9⟩) (c9 : PySem.W.codeIn K cd9 "_law_worths" = true) (k9 : PySem.W.keepIn K (.ref f9) = true)
    (a10 : PySem.W.nsIn K mainGlobals "_law_counts" = some (some (.ref f10))) (l10 : K.lookup f10 = some ⟨oc10, od10, .func (PySem.W.fnOf "_law_counts" "_law_counts" (defArgs s__law_counts) (defBody s__law_counts) (defScope s__law_counts) .none kV10 dc10 pm10 an10 cd10 ct10), sl10⟩) (c10 : PySem.W.codeIn K cd10 "_law_counts" = true) (k10 : PySem.W.keepIn K (.ref f10) = true)
    (a11 : PySem.W.nsIn K mainGlobals "_law_weight" = some (some (.ref f11))) (l11 : K.lookup f11 = some ⟨oc11, od11, .func (PySem.W.fnOf "_law_weight" "_law_weight" (defArgs s__law_weight) (defBody s__law_weight) (defScope s__law_weight) .none kV11 dc11 pm11 an11 cd11 ct11), sl11⟩) (c11 : PySem.W.codeIn K cd11 "_law_weight" = true) (k11 : PySem.W.keepIn K (.ref f11) = true)
    (a12 : PySem.W.nsIn K mainGlobals "_law_bits" = some (some (.ref f12))) (l12 : K.lookup f12 = some ⟨oc12, od12, .func (PySem.W.fnOf "_law_bits" "_law_bits" (defArgs s__law_bits) (defBody s__law_bits) (defScope s__law_bits) .none kV12 dc12 pm12 an12 cd12 ct12), sl12⟩) (c12 : PySem.W.codeIn K cd12 "_law_bits" = true) (k12 : PySem.W.keepIn K (.ref f12) = true)
    (a13 : PySem.W.nsIn K mainGlobals "_law_two_rolls" = some (some (.ref f13))) (l13 : K.lookup f13 = some ⟨oc13, od13, .func (PySem.W.fnOf "_law_two_rolls" "_law_two_rolls" (defArgs s__law_two_rolls) (defBody s__law_two_rolls) (defScope s__law_two_rolls) .none kV13 dc13 pm13 an13 cd13 ct13), sl13⟩) (c13 : PySem.W.codeIn K cd13 "_law_two_rolls" = true) (k13 : PySem.W.keepIn K (.ref f13) = true)
    (a14 : PySem.W.nsIn K mainGlobals "_law_common" = some (some (.ref f14))) (l14 : K.lookup f14 = some ⟨oc14, od14, .func (PySem.W.fnOf "_law_common" "_law_common" (defArgs s__law_common) (defBody s__law_common) (defScope s__law_common) .none kV14 dc14 pm14 an14 cd14 ct14), sl14⟩) (c14 : PySem.W.codeIn K cd14 "_law_common" = true) (k14 : PySem.W.keepIn K (.ref f14) = true)
    (a15 : PySem.W.nsIn K mainGlobals "_law_is_due" = some (some (.ref f15))) (l15 : K.lookup f15 = some ⟨oc15, od15, .func (PySem.W.fnOf "_law_is_due" "_law_is_due" (defArgs s__law_is_due) (defBody s__law_is_due) (defScope s__law_is_due) .none kV15 dc15 pm15 an15 cd15 ct15), sl15⟩) (c15 : PySem.W.codeIn K cd15 "_law_is_due" = true) (k15 : PySem.W.keepIn K (.ref f15) = true)
    (a16 : PySem.W.nsIn K mainGlobals "_law_bars" = some (some (.ref f16))) (l16 : K.lookup f16 = some ⟨oc16, od16, .func (PySem.W.fnOf "_law_bars" "_law_bars" (defArgs s__law_bars) (defBody s__law_bars) (defScope s__law_bars) .none kV16 dc16 pm16 an16 cd16 ct16), sl16⟩) (c16 : PySem.W.codeIn K cd16 "_law_bars" = true) (k16 : PySem.W.keepIn K (.ref f16) = true)
    (a17 : PySem.W.nsIn K mainGlobals "_law_falls" = some (some (.ref f17))) (l17 : K.lookup f17 = some ⟨oc17, od17, .func (PySem.W.fnOf "_law_falls" "_law_falls" (defArgs s__law_falls) (defBody s__law_falls) (defScope s__law_falls) .none kV17 dc17 pm17 an17 cd17 ct17), sl17⟩) (c17 : PySem.W.codeIn K cd17 "_law_falls" = true) (k17 : PySem.W.keepIn K (.ref f17) = true)
    (a18 : PySem.W.nsIn K mainGlobals "_law_bent_rows" = some (some (.ref f18))) (l18 : K.lookup f18 = some ⟨oc18, od18, .func (PySem.W.fnOf "_law_bent_rows" "_law_bent_rows" (defArgs s__law_bent_rows) (defBody s__law_bent_rows) (defScope s__law_bent_rows) .none kV18 dc18 pm18 an18 cd18 ct18), sl18⟩) (c18 : PySem.W.codeIn K cd18 "_law_bent_rows" = true) (k18 : PySem.W.keepIn K (.ref f18) = true)
    (a19 : PySem.W.nsIn K mainGlobals "law" = some (some (.ref f19))) (l19 : K.lookup f19 = some ⟨oc19, od19, .func (PySem.W.fnOf "law" "law" (defArgs s_law) (defBody s_law) (defScope s_law) .none kV19 dc19 pm19 an19 cd19 ct19), sl19⟩) (c19 : PySem.W.codeIn K cd19 "law" = true) (k19 : PySem.W.keepIn K (.ref f19) = true)
    (z_all : PySem.W.nsIn K mainGlobals "all" = some none)
    (z_bool : PySem.W.nsIn K mainGlobals "bool" = some none)
    (z_int : PySem.W.nsIn K mainGlobals "int" = some none)
    (z_isinstance : PySem.W.nsIn K mainGlobals "isinstance" = some none)
    (z_len : PySem.W.nsIn K mainGlobals "len" = some none)
    (z_list : PySem.W.nsIn K mainGlobals "list" = some none)
    (z_max : PySem.W.nsIn K mainGlobals "max" = some none)
    (z_min : PySem.W.nsIn K mainGlobals "min" = some none)
    (z_range : PySem.W.nsIn K mainGlobals "range" = some none)
    (z_str : PySem.W.nsIn K mainGlobals "str" = some none)
    (z_sum : PySem.W.nsIn K mainGlobals "sum" = some none)
    (z_tuple : PySem.W.nsIn K mainGlobals "tuple" = some none)
    (z_zip : PySem.W.nsIn K mainGlobals "zip" = some none)
    : ∃ fd : FuncData, (∀ (s : Shared) (v : Value), BindsTo s fd ⟨[v], []⟩ [("_law_script", v)]) ∧ ∀ base : Heap, K.In base → base.Ns mainGlobals mg → FnOk l.prog w K mg base CX0 8 fa fd ["_law_script"] (spLaw K) := by
  have e := hfa.symm.trans (PySem.W.mg_of X G a19)
  cases e
  have A : All K mg := ⟨{ m_all := PySem.W.mg_none_of X G z_all, m_bool := PySem.W.mg_none_of X G z_bool, m_int := PySem.W.mg_none_of X G z_int, m_isinstance := PySem.W.mg_none_of X G z_isinstance, m_len := PySem.W.mg_none_of X G z_len, m_list := PySem.W.mg_none_of X G z_list, m_max := PySem.W.mg_none_of X G z_max, m_min := PySem.W.mg_none_of X G z_min, m_range := PySem.W.mg_none_of X G z_range, m_str := PySem.W.mg_none_of X G z_str, m_sum := PySem.W.mg_none_of X G z_sum, m_tuple := PySem.W.mg_none_of X G z_tuple, m_zip := PySem.W.mg_none_of X G z_zip },
    ⟨_, _, fun_mk (st := s_weight) l0 c0 k0, PySem.W.mg_of X G a0⟩,
    ⟨_, _, fun_mk (st := s_lower) l1 c1 k1, PySem.W.mg_of X G a1⟩,
    ⟨_, _, fun_mk (st := s_is_due) l2 c2 k2, PySem.W.mg_of X G a2⟩,
    ⟨_, _, fun_mk (st := s_bars) l3 c3 k3, PySem.W.mg_of X G a3⟩,
    ⟨_, _, fun_mk (st := s__law_box) l4 c4 k4, PySem.W.mg_of X G a4⟩,
    ⟨_, _, fun_mk (st := s__law_mixed) l5 c5 k5, PySem.W.mg_of X G a5⟩,
    ⟨_, _, fun_mk (st := s__law_take) l6 c6 k6, PySem.W.mg_of X G a6⟩,
    ⟨_, _, fun_mk (st := s__law_whole) l7 c7 k7, PySem.W.mg_of X G a7⟩,
    ⟨_, _, fun_mk (st := s__law_alike) l8 c8 k8, PySem.W.mg_of X G a8⟩,
    ⟨_, _, fun_mk (st := s__law_worths) l9 c9 k9, PySem.W.mg_of X G a9⟩,
    ⟨_, _, fun_mk (st := s__law_counts) l10 c10 k10, PySem.W.mg_of X G a10⟩,
    ⟨_, _, fun_mk (st := s__law_weight) l11 c11 k11, PySem.W.mg_of X G a11⟩,
    ⟨_, _, fun_mk (st := s__law_bits) l12 c12 k12, PySem.W.mg_of X G a12⟩,
    ⟨_, _, fun_mk (st := s__law_two_rolls) l13 c13 k13, PySem.W.mg_of X G a13⟩,
    ⟨_, _, fun_mk (st := s__law_common) l14 c14 k14, PySem.W.mg_of X G a14⟩,
    ⟨_, _, fun_mk (st := s__law_is_due) l15 c15 k15, PySem.W.mg_of X G a15⟩,
    ⟨_, _, fun_mk (st := s__law_bars) l16 c16 k16, PySem.W.mg_of X G a16⟩,
    ⟨_, _, fun_mk (st := s__law_falls) l17 c17 k17, PySem.W.mg_of X G a17⟩,
    ⟨_, _, fun_mk (st := s__law_bent_rows) l18 c18 k18, PySem.W.mg_of X G a18⟩⟩
  exact ⟨_, fun s v => .of_eq rfl, fun base _ _ => chain A (fun_mk (st := s_law) l19 c19 k19)⟩
theorem walk {l : PySem.W.OpenLaw} {q : Program} {loose : List Str} {XP : (Str → Option Value) → Heap → Prop} {YP : World → Heap → Prop} {d : DefRec} {K : Params → PySem.W.Frag} (hn : l.most = some 63) (hdf : d.params.defaults = [])
    (hY : ∀ (w : World) (h : Heap), YP w h → (K w.params).In h)
    (F : ∀ (w : World) (mg : Str → Option Value) (fa : Addr) (h : Heap), (K w.params).In h → h.Ns mainGlobals mg → mg d.name = some (.ref fa) →
      ∃ fd : FuncData, (∀ (s : Shared) (u : Value), BindsTo s fd ⟨[u], []⟩ [("_law_script", u)]) ∧ ∀ base : Heap, (K w.params).In base → base.Ns mainGlobals mg → FnOk l.prog w (K w.params) mg base CX0 8 fa fd ["_law_script"] (spLaw (K w.params))) :
    PySem.W.WalkO q loose XP YP l.row.toRowW d [] (fun f vs => PySem.call f vs) :=
  L2.walk_ofB (n := 63) (k := 8) (x := "_law_script") (CX := fun _ => CX0) (sp := fun w => spLaw (K w.params)) hn (by decide) hdf ⟨rfl, by decide, by decide⟩ hY F (fun _ _ a ns hl hb _ hS => ⟨a, ns, rfl, hS, hl, hb, fun _ => rfl⟩) fun _ _ _ _ _ z => z
end Law
open PySem PySem.W PyProof.Rows
set_option maxRecDepth 100000 in
set_option maxHeartbeats 0 in
theorem PySem.Challenge.cw_cartelship_k08_papers_judged_holds : PySem.Challenge.rw_cartelship_k08_papers_judged.Holds := by
  w_on; o_law; k_head; (case hw => w_witness2)
  k_fill
  refine Law.walk (l := PySem.Challenge.rw_cartelship_k08_papers_judged) rfl rfl (fun w h Y => PySem.W.kIn_of Y) ?F
  case F =>
    intro w mg fa h KX G hmg
    refine' Law.all_ok KX G hmg ?a0 ?l0 ?c0 ?k0 ?a1 ?l1 ?c1 ?k1 ?a2 ?l2 ?c2 ?k2 ?a3 ?l3 ?c3 ?k3 ?a4 ?l4 ?c4 ?k4 ?a5 ?l5 ?c5 ?k5 ?a6 ?l6 ?c6 ?k6 ?a7 ?l7 ?c7 ?k7 ?a8 ?l8 ?c8 ?k8 ?a9 ?l9 ?c9 ?k9 ?a10 ?l10 ?c10 ?k10 ?a11 ?l11 ?c11 ?k11 ?a12 ?l12 ?c12 ?k12 ?a13 ?l13 ?c13 ?k13 ?a14 ?l14 ?c14 ?k14 ?a15 ?l15 ?c15 ?k15 ?a16 ?l16 ?c16 ?k16 ?a17 ?l17 ?c17 ?k17 ?a18 ?l18 ?c18 ?k18 ?a19 ?l19 ?c19 ?k19 ?z_all ?z_bool ?z_int ?z_isinstance ?z_len ?z_list ?z_max ?z_min ?z_range ?z_str ?z_sum ?z_tuple ?z_zip
    (case a0 => k_is); (case l0 => k_is); (case c0 => k_is); (case k0 => k_is); (case a1 => k_is); (case l1 => k_is)
    (case c1 => k_is); (case k1 => k_is); (case a2 => k_is); (case l2 => k_is); (case c2 => k_is); (case k2 => k_is)
    (case a3 => k_is); (case l3 => k_is); (case c3 => k_is); (case k3 => k_is); (case a4 => k_is); (case l4 => k_is)
    (case c4 => k_is); (case k4 => k_is); (case a5 => k_is); (case l5 => k_is); (case c5 => k_is); (case k5 => k_is)
    (case a6 => k_is); (case l6 => k_is); (case c6 => k_is); (case k6 => k_is); (case a7 => k_is); (case l7 => k_is)
    (case c7 => k_is); (case k7 => k_is); (case a8 => k_is); (case l8 => k_is); (case c8 => k_is); (case k8 => k_is)
    (case a9 => k_is); (case l9 => k_is); (case c9 => k_is); (case k9 => k_is); (case a10 => k_is); (case l10 => k_is)
    (case c10 => k_is); (case k10 => k_is); (case a11 => k_is); (case l11 => k_is); (case c11 => k_is); (case k11 => k_is)
    (case a12 => k_is); (case l12 => k_is); (case c12 => k_is); (case k12 => k_is); (case a13 => k_is); (case l13 => k_is)
    (case c13 => k_is); (case k13 => k_is); (case a14 => k_is); (case l14 => k_is); (case c14 => k_is); (case k14 => k_is)
    (case a15 => k_is); (case l15 => k_is); (case c15 => k_is); (case k15 => k_is); (case a16 => k_is); (case l16 => k_is)
    (case c16 => k_is); (case k16 => k_is); (case a17 => k_is); (case l17 => k_is); (case c17 => k_is); (case k17 => k_is)
    (case a18 => k_is); (case l18 => k_is); (case c18 => k_is); (case k18 => k_is); (case a19 => k_is); (case l19 => k_is)
    (case c19 => k_is); (case k19 => k_is); (case z_all => k_is); (case z_bool => k_is); (case z_int => k_is); (case z_isinstance => k_is)
    (case z_len => k_is); (case z_list => k_is); (case z_max => k_is); (case z_min => k_is); (case z_range => k_is); (case z_str => k_is)
    (case z_sum => k_is); (case z_tuple => k_is); (case z_zip => k_is)
#print axioms PySem.Challenge.cw_cartelship_k08_papers_judged_holds


