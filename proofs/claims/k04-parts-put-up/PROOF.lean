import PyProof.Rows.All
import Wide.All
import OpenK.AllK
import Wide.FinOn
import HandS.ForMost
import HandS.Evl
import HandS.IsInst
import HandS.Wide
import HandS.WideBits
import HandS.RevRange
import HandS.Walk
import HandS.Zip
import HandS.EndBits
import HandS.Style
import HandS.Exc
import HandS.ExcOwn
import HandS.WordsExc
import HandS.TryOnly
import HandS.ExcIs
import KE.KStateDown
import HandS.Head0
import HandS.Head1
import HandS.Head2
import HandS.HeadEnd
import HandS.HeadHook1
import HandS.More
import HandS.List
import PySem.Challenge.RW_cartelship_k04_parts_put_up
set_option Elab.async false
set_option linter.all false
set_option maxRecDepth 100000
set_option synthInstance.maxHeartbeats 0
set_option synthInstance.maxSize 100000
/-! Own layer over HandS: readings run one step at a time. -/
namespace G
open PySem PySem.Spec PyProof.Rows L2 Evl RZ
/-! ### continuations with names of their own -/
def bQ (Q : Bool → Hp → Prop) : VK := fun x H => ∃ k, x = .bl k ∧ Q k H
def opQ2 (r : R2) (x : V) (Q : VK) : VK := fun y H => r x y H Q
def opQ1 (r : R2) (tb : TE) (σ : L2.St) (Q : VK) : VK := fun x H => tb σ H (opQ2 r x Q)
def unQ (r : V → Hp → VK → Prop) (Q : VK) : VK := fun x H => r x H Q
def andQ (u : TT) (σ : L2.St) (Q : Bool → Hp → Prop) : Bool → Hp → Prop := fun c H => if c = true then u σ H Q else Q false H
def orQ (u : TT) (σ : L2.St) (Q : Bool → Hp → Prop) : Bool → Hp → Prop := fun c H => if c = true then Q true H else u σ H Q
def notQ (Q : Bool → Hp → Prop) : Bool → Hp → Prop := fun c H => Q (!c) H
def ifQ (t u : TS) (D : Ends) (σ : L2.St) : Bool → Hp → Prop := fun b H => if b = true then t D σ H else u D σ H
def iteQ (ta tb : TE) (σ : L2.St) (Q : VK) : Bool → Hp → Prop := fun c H => if c = true then ta σ H Q else tb σ H Q
def asgQ (g : TG) (D : Ends) (σ : L2.St) : VK := fun x H => g x σ H D.nx
def dropQ (D : Ends) (σ : L2.St) : VK := fun _ H => D.nx σ H
def consQ (tr : TA) (σ : L2.St) (Q : List V → Hp → Prop) : VK := fun x H => tr σ H fun xs H2 => Q (x :: xs) H2
def callQ (sp : Sp) (Q : VK) (E : XK) : List V → Hp → Prop := fun vs H => sp (vs ++ []) H Q E
def cbQ (r : List V → Hp → VK → Prop) (Q : VK) : List V → Hp → Prop := fun vs H => r vs H Q
def lstQ (Q : VK) : List V → Hp → Prop := fun xs H => xs.length ≤ sizeLine ∧ ∀ p, H p = none → Q (.ref p) (upd H p (.lst xs))
def tupQ (Q : VK) : List V → Hp → Prop := fun xs H => xs.length ≤ sizeLine ∧ ∀ p, H p = none → Q (.ref p) (upd H p (.tup xs))
def andVQ (tb : TE) (σ : L2.St) (Q : VK) : VK := fun x H => ∃ c, x = .bl c ∧ if c = true then tb σ H Q else Q (.bl false) H
def orVQ (tb : TE) (σ : L2.St) (Q : VK) : VK := fun x H => ∃ c, x = .bl c ∧ if c = true then Q (.bl true) H else tb σ H Q
def notVQ (Q : VK) : VK := fun x H => ∃ c, x = .bl c ∧ Q (.bl (!c)) H
section
variable {K : PySem.W.Frag} {σ : L2.St} {H H1 : Hp} {Q : VK} {QB : Bool → Hp → Prop} {QA : List V → Hp → Prop} {v x y : V} {ta tb te : TE} {t u : TS} {c d : TT} {D : Ends} {r : R2} {i : Nat} {g : TG} {tr : TA} {sp : Sp} {E : XK}
/-! ### expressions -/
theorem x_var (h : σ[i]? = some (some v)) (k : Q v H) : tVar i σ H Q := ⟨v, h, k⟩
theorem x_c (k : Q v H) : tC v σ H Q := k
theorem x_op (k : ta σ H (opQ1 r tb σ Q)) : tOp r ta tb σ H Q := k
theorem x_opQ1 (k : tb σ H (opQ2 r x Q)) : opQ1 r tb σ Q x H := k
theorem x_opQ2 (k : r x y H Q) : opQ2 r x Q y H := k
theorem x_un {q : V → Hp → VK → Prop} (k : ta σ H (unQ q Q)) : tUn q ta σ H Q := k
theorem x_unQ {q : V → Hp → VK → Prop} (k : q x H Q) : unQ q Q x H := k
theorem x_I0 {f : Int → Int → V} {a b : Int} (k : Q (f a b) H) : rI0 f (.int a) (.int b) H Q := ⟨a, b, rfl, rfl, k⟩
theorem x_I {C : Int → Int → Prop} {f : Int → Int → V} {a b : Int} (h : C a b) (k : Q (f a b) H) : rI C f (.int a) (.int b) H Q := ⟨a, b, rfl, rfl, h, k⟩
theorem x_rU {f : Int → V} {a : Int} (k : Q (f a) H) : rU f (.int a) H Q := ⟨a, rfl, k⟩
theorem x_eq (h : scal x y = true) (k : Q (.bl (decide (x = y))) H) : rEq x y H Q := ⟨h, k⟩
theorem x_ne (h : scal x y = true) (k : Q (.bl (!decide (x = y))) H) : rNe x y H Q := ⟨h, k⟩
theorem x_eqI {a b : Int} (k : Q (.bl (decide (a = b))) H) : rEq (.int a) (.int b) H Q := ⟨rfl, by
  have e : decide (V.int a = V.int b) = decide (a = b) := by
    by_cases h : a = b
    · rw [decide_eq_true h, decide_eq_true (congrArg V.int h)]
    · rw [decide_eq_false h, decide_eq_false (fun q => h (V.int.inj q))]
  rw [e]; exact k⟩
theorem x_neI {a b : Int} (k : Q (.bl (decide (a ≠ b))) H) : rNe (.int a) (.int b) H Q := ⟨rfl, by
  have e : (!decide (V.int a = V.int b)) = decide (a ≠ b) := by
    by_cases h : a = b
    · rw [decide_eq_false (fun q : a ≠ b => q h), decide_eq_true (congrArg V.int h)]; rfl
    · rw [decide_eq_true h, decide_eq_false (fun q => h (V.int.inj q))]; rfl
  rw [e]; exact k⟩
theorem x_eqS {a b : Str} (k : Q (.bl (decide (a = b))) H) : rEq (.str a) (.str b) H Q := ⟨rfl, by
  have e : decide (V.str a = V.str b) = decide (a = b) := by
    by_cases h : a = b
    · rw [decide_eq_true h, decide_eq_true (congrArg V.str h)]
    · rw [decide_eq_false h, decide_eq_false (fun q => h (V.str.inj q))]
  rw [e]; exact k⟩
theorem x_neS {a b : Str} (k : Q (.bl (decide (a ≠ b))) H) : rNe (.str a) (.str b) H Q := ⟨rfl, by
  have e : (!decide (V.str a = V.str b)) = decide (a ≠ b) := by
    by_cases h : a = b
    · rw [decide_eq_false (fun q : a ≠ b => q h), decide_eq_true (congrArg V.str h)]; rfl
    · rw [decide_eq_true h, decide_eq_false (fun q => h (V.str.inj q))]; rfl
  rw [e]; exact k⟩
theorem x_eqB {a b : Bool} (k : Q (.bl (a == b)) H) : rEq (.bl a) (.bl b) H Q := ⟨rfl, by
  have e : decide (V.bl a = V.bl b) = (a == b) := dec_bl
  rw [e]; exact k⟩
theorem x_neB {a b : Bool} (k : Q (.bl (a != b)) H) : rNe (.bl a) (.bl b) H Q := ⟨rfl, by
  have e : decide (V.bl a = V.bl b) = (a == b) := dec_bl
  rw [e]; exact k⟩
theorem x_neBs {a : Bool} (k : Q (.bl false) H) : rNe (.bl a) (.bl a) H Q := ⟨rfl, by rw [decide_eq_true rfl]; exact k⟩
theorem x_eqBs {a : Bool} (k : Q (.bl true) H) : rEq (.bl a) (.bl a) H Q := ⟨rfl, by rw [decide_eq_true rfl]; exact k⟩
theorem x_gN {R : L2.St → Hp → Prop} (k : R (σ.set i (some v)) H) : gName i v σ H R := k
theorem x_test (k : ta σ H (bQ QB)) : tTest ta σ H QB := k
theorem x_tB (k : ta σ H (bQ QB)) : tB ta σ H QB := k
theorem x_bQ {b : Bool} (k : QB b H) : bQ QB (.bl b) H := ⟨b, rfl, k⟩
theorem x_and (k : c σ H (andQ d σ QB)) : tAnd c d σ H QB := k
theorem x_or (k : c σ H (orQ d σ QB)) : tOr c d σ H QB := k
theorem x_not (k : c σ H (notQ QB)) : tNot c σ H QB := k
theorem x_notQ {b : Bool} (k : QB (!b) H) : notQ QB b H := k
theorem x_andQ {b : Bool} (h1 : b = true → d σ H QB) (h2 : b = false → QB false H) : andQ d σ QB b H := by
  unfold andQ
  cases b with
  | true => exact h1 rfl
  | false => exact h2 rfl
theorem x_orQ {b : Bool} (h1 : b = true → QB true H) (h2 : b = false → d σ H QB) : orQ d σ QB b H := by
  unfold orQ
  cases b with
  | true => exact h1 rfl
  | false => exact h2 rfl
theorem x_ifExp (k : c σ H (iteQ ta tb σ Q)) : tIf c ta tb σ H Q := k
theorem x_iteQ {b : Bool} (h1 : b = true → ta σ H Q) (h2 : b = false → tb σ H Q) : iteQ ta tb σ Q b H := by
  unfold iteQ
  cases b with
  | true => exact h1 rfl
  | false => exact h2 rfl
theorem x_andV (k : ta σ H (andVQ tb σ Q)) : tAndV ta tb σ H Q := k
theorem x_orV (k : ta σ H (orVQ tb σ Q)) : tOrV ta tb σ H Q := k
theorem x_notV (k : ta σ H (notVQ Q)) : tNotV ta σ H Q := k
theorem x_notVQ {b : Bool} (k : Q (.bl (!b)) H) : notVQ Q (.bl b) H := ⟨b, rfl, k⟩
theorem x_andVQ {b : Bool} (h1 : b = true → tb σ H Q) (h2 : b = false → Q (.bl false) H) : andVQ tb σ Q (.bl b) H := by
  refine ⟨b, rfl, ?_⟩
  cases b with
  | true => exact h1 rfl
  | false => exact h2 rfl
theorem x_orVQ {b : Bool} (h1 : b = true → Q (.bl true) H) (h2 : b = false → tb σ H Q) : orVQ tb σ Q (.bl b) H := by
  refine ⟨b, rfl, ?_⟩
  cases b with
  | true => exact h1 rfl
  | false => exact h2 rfl
/-! ### arguments, calls, displays -/
theorem x_nil (k : QA [] H) : tNil σ H QA := k
theorem x_cons (k : te σ H (consQ tr σ QA)) : tCons te tr σ H QA := k
theorem x_consQ (k : tr σ H fun xs H2 => QA (x :: xs) H2) : consQ tr σ QA x H := k
theorem x_call (k : tr σ H (callQ sp Q E)) : tCall sp [] E tr σ H Q := k
theorem x_callQ {vs : List V} (k : sp vs H Q E) : callQ sp Q E vs H := by
  unfold callQ
  rw [List.append_nil]
  exact k
theorem x_cb {q : List V → Hp → VK → Prop} (k : tr σ H (cbQ q Q)) : tCB q tr σ H Q := k
theorem x_cbQ {q : List V → Hp → VK → Prop} {vs : List V} (k : q vs H Q) : cbQ q Q vs H := k
theorem x_lst (k : tr σ H (lstQ Q)) : tLst tr σ H Q := k
theorem x_lstQ {xs : List V} (h : xs.length ≤ sizeLine) (k : ∀ p, H p = none → Q (.ref p) (upd H p (.lst xs))) : lstQ Q xs H := ⟨h, k⟩
theorem x_tup (k : tr σ H (tupQ Q)) : tTup tr σ H Q := k
theorem x_tupQ {xs : List V} (h : xs.length ≤ sizeLine) (k : ∀ p, H p = none → Q (.ref p) (upd H p (.tup xs))) : tupQ Q xs H := ⟨h, k⟩
/-! ### statements -/
theorem x_seq (k : t { D with nx := u D } σ H) : tSeq t u D σ H := k
theorem x_next (k : D.nx σ H) : tNext D σ H := k
theorem x_asg (k : te σ H (asgQ g D σ)) : tAsg te g D σ H := k
theorem x_asgN (k : D.nx (σ.set i (some x)) H) : asgQ (gName i) D σ x H := k
theorem x_drop (k : te σ H (dropQ D σ)) : tDrop te D σ H := k
theorem x_dropQ (k : D.nx σ H) : dropQ D σ x H := k
theorem x_ret (k : te σ H D.rt) : tRet te D σ H := k
theorem x_retN (k : D.rt .non H) : tRetN D σ H := k
theorem x_if (k : c σ H (ifQ t u D σ)) : tIfS c t u D σ H := k
theorem x_ifQ {b : Bool} (h1 : b = true → t D σ H) (h2 : b = false → u D σ H) : ifQ t u D σ b H := by
  unfold ifQ
  cases b with
  | true => exact h1 rfl
  | false => exact h2 rfl
theorem x_cont (k : D.ct σ H) : tCont D σ H := k
theorem x_break (k : D.bk σ H) : tBreak D σ H := k
end

/-! ### rules by names of their own -/
def rLen (K : PySem.W.Frag) : List V → Hp → VK → Prop := fun xs H Q => ∃ p ys, xs = [.ref p] ∧ (SqL K H p ys ∨ SqT K H p ys) ∧ Q (.int ys.length) H
def rLenStr : List V → Hp → VK → Prop := fun xs H Q => ∃ z, xs = [.str z] ∧ z.length ≤ sizeLine ∧ Q (.int z.length) H
def rListOf (K : PySem.W.Frag) : List V → Hp → VK → Prop := fun xs H Q => ∃ p ys, xs = [.ref p] ∧ (SqL K H p ys ∨ SqT K H p ys) ∧ ∀ l, H l = none → Q (.ref l) (upd H l (.lst ys))
def rTupOf (K : PySem.W.Frag) : List V → Hp → VK → Prop := fun xs H Q => ∃ p ys, xs = [.ref p] ∧ ((SqL K H p ys ∧ ∀ l, H l = none → Q (.ref l) (upd H l (.tup ys))) ∨ (SqT K H p ys ∧ Q (.ref p) H))
def rIntOf : List V → Hp → VK → Prop := fun xs H Q => (∃ i, xs = [.int i] ∧ Q (.int i) H) ∨ ∃ k, xs = [.bl k] ∧ Q (.int (if k then 1 else 0)) H
def rMin2 : List V → Hp → VK → Prop := fun xs H Q => ∃ i j, xs = [.int i, .int j] ∧ Q (.int (if j < i then j else i)) H
def rMax2' : List V → Hp → VK → Prop := fun xs H Q => ∃ i j, xs = [.int i, .int j] ∧ Q (.int (if j > i then j else i)) H
def rAddS : R2 := fun x y H Q => ∃ i j, x = .str i ∧ y = .str j ∧ i.length + j.length ≤ sizeLine ∧ Q (.str (i ++ j)) H
def rIsN : R2 := fun x y H Q => y = .non ∧ Q (.bl (decide (x = .non))) H
def rNotN : R2 := fun x y H Q => y = .non ∧ Q (.bl (!decide (x = .non))) H
section
variable {X : Cx}
theorem g_len : CallR X (.builtin "len") (rLen X.K) := call_len_seq
theorem g_lenS : CallR X (.builtin "len") rLenStr := call_len_str
theorem g_list : CallR X (.type "list") (rListOf X.K) := call_list_of
theorem g_tuple : CallR X (.type "tuple") (rTupOf X.K) := call_tuple_of
theorem g_int : CallR X (.type "int") rIntOf := call_int1
theorem g_min (hc : X.calm = true) : CallR X (.builtin "min") rMin2 := call_min2 hc
theorem g_max (hc : X.calm = true) : CallR X (.builtin "max") rMax2' := call_max2 hc
theorem g_isN : OpR X (compareOp .Is) rIsN := op_isN
theorem g_notN : OpR X (compareOp .IsNot) rNotN := op_notN
theorem op_addS : OpR X (binaryOp .Add) rAddS := op_add_str
theorem op_mulB : OpR X (binaryOp .Mult) (rI CMulX fun i j => .int (i * j)) := op_mulX
theorem op_shlB : OpR X (binaryOp .LShift) (rI CShl fun i j => .int (i * 2 ^ j.toNat)) := op_shlW
end
section
variable {K : PySem.W.Frag} {σ : L2.St} {H H1 : Hp} {Q : VK} {p : Addr} {xs : List V}
theorem x_lenL (h : SqL K H p xs) (k : Q (.int xs.length) H) : rLen K [.ref p] H Q := ⟨p, xs, rfl, .inl h, k⟩
theorem x_lenT (h : SqT K H p xs) (k : Q (.int xs.length) H) : rLen K [.ref p] H Q := ⟨p, xs, rfl, .inr h, k⟩
theorem x_lenS {z : Str} (h : z.length ≤ sizeLine) (k : Q (.int z.length) H) : rLenStr [.str z] H Q := ⟨z, rfl, h, k⟩
theorem x_listL (h : SqL K H p xs) (k : ∀ l, H l = none → Q (.ref l) (upd H l (.lst xs))) : rListOf K [.ref p] H Q := ⟨p, xs, rfl, .inl h, k⟩
theorem x_listT (h : SqT K H p xs) (k : ∀ l, H l = none → Q (.ref l) (upd H l (.lst xs))) : rListOf K [.ref p] H Q := ⟨p, xs, rfl, .inr h, k⟩
theorem x_tupL (h : SqL K H p xs) (k : ∀ l, H l = none → Q (.ref l) (upd H l (.tup xs))) : rTupOf K [.ref p] H Q := ⟨p, xs, rfl, .inl ⟨h, k⟩⟩
theorem x_tupT (h : SqT K H p xs) (k : Q (.ref p) H) : rTupOf K [.ref p] H Q := ⟨p, xs, rfl, .inr ⟨h, k⟩⟩
theorem x_intB {b : Bool} (k : Q (.int (if b then 1 else 0)) H) : rIntOf [.bl b] H Q := .inr ⟨b, rfl, k⟩
theorem x_intI {i : Int} (k : Q (.int i) H) : rIntOf [.int i] H Q := .inl ⟨i, rfl, k⟩
theorem x_min {i j : Int} (k : Q (.int (if j < i then j else i)) H) : rMin2 [.int i, .int j] H Q := ⟨i, j, rfl, k⟩
theorem x_max {i j : Int} (k : Q (.int (if j > i then j else i)) H) : rMax2' [.int i, .int j] H Q := ⟨i, j, rfl, k⟩
theorem x_addS {i j : Str} (h : i.length + j.length ≤ sizeLine) (k : Q (.str (i ++ j)) H) : rAddS (.str i) (.str j) H Q := ⟨i, j, rfl, rfl, h, k⟩
theorem x_ixL {i : Int} {v : V} (h : SqL K H p xs) (ha : atI xs i = some v) (k : Q v H) : rIxL K (.ref p) (.int i) H Q := ⟨p, xs, i, v, rfl, rfl, h, ha, k⟩
theorem x_ixT {i : Int} {v : V} (h : SqT K H p xs) (ha : atI xs i = some v) (k : Q v H) : rIxT K (.ref p) (.int i) H Q := ⟨p, xs, i, v, rfl, rfl, h, ha, k⟩
theorem x_slL {lo hi : Option Int} (h : SqL K H p xs) (k : ∀ l, H l = none → Q (.ref l) (upd H l (.lst (cutV xs lo hi)))) : rSlL K (.ref p) lo hi H Q := ⟨p, xs, rfl, h, k⟩
theorem x_all {bs : List Bool} (h : SqL K H p (bs.map V.bl)) (k : Q (.bl (bs.all id)) H) : rAll K [.ref p] H Q := ⟨p, bs, rfl, h, k⟩
theorem x_allMap {n : Nat} {g : Nat → Bool} (h : H p = some (.lst ((List.range n).map fun i => V.bl (g i)))) (k : Q (.bl ((List.range n).all g)) H) : rAll K [.ref p] H Q :=
  ⟨p, (List.range n).map g, rfl, SqL.of (by rw [h, List.map_map]; rfl), by
    have e : ((List.range n).map g).all id = (List.range n).all g := by rw [List.all_map]; rfl
    rw [e]; exact k⟩
theorem x_anyMap {n : Nat} {g : Nat → Bool} (h : H p = some (.lst ((List.range n).map fun i => V.bl (g i)))) (k : Q (.bl ((List.range n).any g)) H) : rAny K [.ref p] H Q :=
  ⟨p, (List.range n).map g, rfl, SqL.of (by rw [h, List.map_map]; rfl), by
    have e : ((List.range n).map g).any id = (List.range n).any g := by rw [List.any_map]; rfl
    rw [e]; exact k⟩
theorem x_sumMap {n : Nat} {g : Nat → Int} (h : H p = some (.lst ((List.range n).map fun i => V.int (g i)))) (k : Q (.int ((List.range n).map g).sum) H) : rSum K [.ref p] H Q :=
  ⟨p, (List.range n).map g, rfl, SqL.of (by rw [h, List.map_map]; rfl), k⟩
theorem x_any {bs : List Bool} (h : SqL K H p (bs.map V.bl)) (k : Q (.bl (bs.any id)) H) : rAny K [.ref p] H Q := ⟨p, bs, rfl, h, k⟩
theorem x_sum {ns : List Int} (h : SqL K H p (ns.map V.int)) (k : Q (.int ns.sum) H) : rSum K [.ref p] H Q := ⟨p, ns, rfl, h, k⟩
theorem x_isN {x : V} (k : Q (.bl (decide (x = .non))) H) : rIsN x .non H Q := ⟨rfl, k⟩
theorem x_notN {x : V} (k : Q (.bl (!decide (x = .non))) H) : rNotN x .non H Q := ⟨rfl, k⟩
theorem x_isNN (k : Q (.bl true) H) : rIsN .non .non H Q := ⟨rfl, k⟩
theorem x_isNI {i : Int} (k : Q (.bl false) H) : rIsN (.int i) .non H Q := ⟨rfl, k⟩
theorem x_isNB {i : Bool} (k : Q (.bl false) H) : rIsN (.bl i) .non H Q := ⟨rfl, k⟩
theorem x_isNS {i : Str} (k : Q (.bl false) H) : rIsN (.str i) .non H Q := ⟨rfl, k⟩
theorem x_isNR {i : Addr} (k : Q (.bl false) H) : rIsN (.ref i) .non H Q := ⟨rfl, k⟩
theorem x_notNN (k : Q (.bl false) H) : rNotN .non .non H Q := ⟨rfl, k⟩
theorem x_notNR {i : Addr} (k : Q (.bl true) H) : rNotN (.ref i) .non H Q := ⟨rfl, k⟩
/-- a method of a list: the receiver, the arguments, the rule -/
def bmQ (K : PySem.W.Frag) (T : String) (r : V → List V → Hp → VK → Prop) (t : TA) (σ : L2.St) (Q : VK) : VK := fun x H1 => tyV K T x H1 ∧ t σ H1 fun xs H2 => r x xs H2 Q
def bmQ2 (r : V → List V → Hp → VK → Prop) (x : V) (Q : VK) : List V → Hp → Prop := fun xs H2 => r x xs H2 Q
theorem x_bm {r : V → List V → Hp → VK → Prop} {T : String} {to : TE} {t : TA} (k : to σ H (bmQ K T r t σ Q)) : tBM K T r to t σ H Q := k
theorem x_bmL {r : V → List V → Hp → VK → Prop} {t : TA} (h : SqL K H p xs) (k : t σ H (bmQ2 r (.ref p) Q)) : bmQ K "list" r t σ Q (.ref p) H := ⟨.inl ⟨rfl, _, h⟩, k⟩
theorem x_bmQ2 {r : V → List V → Hp → VK → Prop} {x : V} {vs : List V} (k : r x vs H Q) : bmQ2 r x Q vs H := k
theorem x_append {y : V} (h : H p = some (.lst xs)) (hz : xs.length < sizeLine) (k : Q .non (upd H p (.lst (xs ++ [y])))) : rAppend (.ref p) [y] H Q := ⟨p, xs, y, rfl, rfl, h, hz, k⟩
def bm0Q (K : PySem.W.Frag) (T : String) (r : V → List V → Hp → VK → Prop) (Q : VK) : VK := fun x H1 => tyV K T x H1 ∧ r x [] H1 Q
theorem x_bm0 {r : V → List V → Hp → VK → Prop} {T : String} {to : TE} (k : to σ H (bm0Q K T r Q)) : tBM0 K T r to σ H Q := k
theorem x_bm0L {r : V → List V → Hp → VK → Prop} (h : SqL K H p xs) (k : r (.ref p) [] H Q) : bm0Q K "list" r Q (.ref p) H := ⟨.inl ⟨rfl, _, h⟩, k⟩
theorem x_reverse (h : H p = some (.lst xs)) (k : Q .non (upd H p (.lst xs.reverse))) : rReverse (.ref p) [] H Q := ⟨p, xs, rfl, rfl, h, k⟩
theorem x_cat {q : Addr} {ys : List V} (h : H p = some (.lst xs)) (h2 : H q = some (.lst ys)) (hz : xs.length + ys.length ≤ sizeLine) (k : ∀ l, H l = none → Q (.ref l) (upd H l (.lst (xs ++ ys)))) : rCat (.ref p) (.ref q) H Q := ⟨p, q, xs, ys, rfl, rfl, h, h2, hz, k⟩
theorem x_rep {n : Int} (h : H p = some (.lst xs)) (h1 : -(2 ^ 63) ≤ n) (h2 : n < 2 ^ 63) (hz : xs.length * n.toNat ≤ sizeLine) (k : ∀ l, H l = none → Q (.ref l) (upd H l (.lst (List.replicate n.toNat xs).flatten))) : rRep (.ref p) (.int n) H Q := ⟨p, n, xs, rfl, rfl, h, h1, h2, hz, k⟩
/-- chains -/
def chQ3 (r' : R2) (y : V) (tc : TE) (σ : L2.St) (Q : VK) : VK := fun z H3 => ∃ k, z = .bl k ∧ (if k = true then tc σ H3 (opQ2 r' y Q) else Q (.bl false) H3)
def chQ2 (r r' : R2) (tc : TE) (σ : L2.St) (x : V) (Q : VK) : VK := fun y H2 => r x y H2 (chQ3 r' y tc σ Q)
def chQ1 (r r' : R2) (tb tc : TE) (σ : L2.St) (Q : VK) : VK := fun x H1 => tb σ H1 (chQ2 r r' tc σ x Q)
theorem x_chain {r r' : R2} {ta tb tc : TE} (k : ta σ H (chQ1 r r' tb tc σ Q)) : tChain r r' ta tb tc σ H Q := k
theorem x_chQ1 {r r' : R2} {tb tc : TE} {x : V} (k : tb σ H (chQ2 r r' tc σ x Q)) : chQ1 r r' tb tc σ Q x H := k
theorem x_chQ2 {r r' : R2} {tc : TE} {x y : V} (k : r x y H (chQ3 r' y tc σ Q)) : chQ2 r r' tc σ x Q y H := k
theorem x_chQ3 {r' : R2} {tc : TE} {y : V} {b : Bool} (h1 : b = true → tc σ H (opQ2 r' y Q)) (h2 : b = false → Q (.bl false) H) : chQ3 r' y tc σ Q (.bl b) H := by
  refine ⟨b, rfl, ?_⟩
  cases b with
  | true => exact h1 rfl
  | false => exact h2 rfl
/-- slices -/
def slQ1 (r : V → Option Int → Option Int → Hp → VK → Prop) (tl th : TO) (σ : L2.St) (Q : VK) : VK := fun x H1 => tl σ H1 fun l H2 => th σ H2 fun u H3 => r x l u H3 Q
def slQ2 (r : V → Option Int → Option Int → Hp → VK → Prop) (th : TO) (σ : L2.St) (Q : VK) (x : V) : Option Int → Hp → Prop := fun l H2 => th σ H2 fun u H3 => r x l u H3 Q
def slQ3 (r : V → Option Int → Option Int → Hp → VK → Prop) (Q : VK) (x : V) (l : Option Int) : Option Int → Hp → Prop := fun u H3 => r x l u H3 Q
def ptQ (R : Option Int → Hp → Prop) : VK := fun x H1 => ∃ i, x = .int i ∧ R (some i) H1
theorem x_sl {r : V → Option Int → Option Int → Hp → VK → Prop} {te : TE} {tl th : TO} (k : te σ H (slQ1 r tl th σ Q)) : tSl r te tl th σ H Q := k
theorem x_slQ1 {r : V → Option Int → Option Int → Hp → VK → Prop} {tl th : TO} {x : V} (k : tl σ H (slQ2 r th σ Q x)) : slQ1 r tl th σ Q x H := k
theorem x_slQ2 {r : V → Option Int → Option Int → Hp → VK → Prop} {th : TO} {x : V} {l : Option Int} (k : th σ H (slQ3 r Q x l)) : slQ2 r th σ Q x l H := k
theorem x_slQ3 {r : V → Option Int → Option Int → Hp → VK → Prop} {x : V} {l u : Option Int} (k : r x l u H Q) : slQ3 r Q x l u H := k
theorem x_noPart {R : Option Int → Hp → Prop} (k : R none H) : tNoPart σ H R := k
theorem x_part {t : TE} {R : Option Int → Hp → Prop} (k : t σ H (ptQ R)) : tPart t σ H R := k
theorem x_ptQ {R : Option Int → Hp → Prop} {i : Int} (k : R (some i) H) : ptQ R (.int i) H := ⟨i, rfl, k⟩
/-- stores into a list -/
def gsQ1 (ti : TE) (t : TSet) (σ : L2.St) (v : V) (R : Hp → Prop) : VK := fun o H1 => ti σ H1 fun i H2 => t o i v H2 R
def gsQ2 (t : TSet) (o v : V) (R : Hp → Prop) : VK := fun i H2 => t o i v H2 R
theorem x_asgS {to ti : TE} {t : TSet} {D : Ends} {v : V} (k : to σ H (gsQ1 ti t σ v (D.nx σ))) : asgQ (gSub to ti t) D σ v H := k
theorem x_gsQ1 {ti : TE} {t : TSet} {o v : V} {R : Hp → Prop} (k : ti σ H (gsQ2 t o v R)) : gsQ1 ti t σ v R o H := k
theorem x_gsQ2 {t : TSet} {o i v : V} {R : Hp → Prop} (k : t o i v H R) : gsQ2 t o v R i H := k
theorem x_setL {i : Int} {j : Nat} {v : V} {R : Hp → Prop} (h : H p = some (.lst xs)) (hj : ixN xs.length i = some j) (k : R (upd H p (.lst (xs.set j v)))) : rSetL (.ref p) (.int i) v H R := ⟨p, xs, i, j, rfl, rfl, h, hj, k⟩
/-- a, b = a tuple -/
theorem x_asgT {n : Nat} {ts : TGs} {D : Ends} (h : SqT K H p xs) (hn : xs.length = n) (k : ts xs σ H D.nx) : asgQ (gTup K n ts) D σ (.ref p) H := ⟨p, xs, rfl, h, hn, k⟩
theorem x_gNil {R : L2.St → Hp → Prop} (k : R σ H) : gNil [] σ H R := ⟨rfl, k⟩
theorem x_gCons {i : Nat} {v : V} {vs : List V} {u : TGs} {R : L2.St → Hp → Prop} (k : u vs (σ.set i (some v)) H R) : gCons (gName i) u (v :: vs) σ H R := ⟨v, vs, rfl, k⟩
/-- a, b = x, y -/
def parQ (i j : Nat) (D : Ends) (σ : L2.St) : List V → Hp → Prop := fun vs H1 => ∃ v w, vs = [v, w] ∧ D.nx ((σ.set i (some v)).set j (some w)) H1
theorem x_par {i j : Nat} {ta : TA} {D : Ends} (k : ta σ H (parQ i j D σ)) : tPar i j ta D σ H := k
theorem x_parQ {i j : Nat} {v w : V} {D : Ends} (k : D.nx ((σ.set i (some v)).set j (some w)) H) : parQ i j D σ [v, w] H := ⟨v, w, rfl, k⟩
/-! ### loops and comprehensions, over anything that is walked -/
def forQ (g : TG) (tb : TS) (D : Ends) (σ : L2.St) : It → Hp → Prop := fun J H1 => ∃ W : Nat → Nat → L2.St → Hp → Prop, (∃ m, W 0 m σ H1) ∧ ∀ i m σ H, W i m σ H →
  (J.stop i H ∧ D.nx σ H) ∨ (J.go i H ∧ ∃ N : L2.St → Hp → Prop, (∀ σ' H', N σ' H' → ∃ m', m' < m ∧ W (i + 1) m' σ' H') ∧ ∀ x H', J.yld i H x H' → g x σ H' fun σ2 H2 => tb { D with nx := N, ct := N, bk := D.nx } σ2 H2)
def tgQ (tb : TS) (N : L2.St → Hp → Prop) (D : Ends) : L2.St → Hp → Prop := fun σ2 H2 => tb { D with nx := N, ct := N, bk := D.nx } σ2 H2
def lcQ (g : TG) (tt : TT) (te : TE) (vs : List Nat) (σ : L2.St) (Q : VK) : It → Hp → Prop := fun J H1 => ∀ D, H1 D = none → ∃ W : Nat → Nat → Hp → Prop, (∃ m, W 0 m (upd H1 D (.lst []))) ∧ ∀ i m H, W i m H →
  (J.stop i H ∧ Q (.ref D) H) ∨ (J.go i H ∧ ∃ Nx : Hp → Prop, (∀ H', Nx H' → ∃ m', m' < m ∧ W (i + 1) m' H') ∧ ∀ x H', J.yld i H x H' → g x (wipe σ vs) H' fun σ2 H2 => wipe σ2 vs = wipe σ vs ∧ tt σ2 H2 fun b H3 =>
    if b = true then te σ2 H3 fun y H4 => ∃ acc, H4 D = some (.lst acc) ∧ acc.length < sizeLine ∧ Nx (upd H4 D (.lst (acc ++ [y]))) else Nx H3)
/-- behind a comprehension's element: it goes into the list at D -/
def eltQ (D : Addr) (Nx : Hp → Prop) : VK := fun y H4 => ∃ acc, H4 D = some (.lst acc) ∧ acc.length < sizeLine ∧ Nx (upd H4 D (.lst (acc ++ [y])))
def ttQ (te : TE) (D : Addr) (Nx : Hp → Prop) (σ2 : L2.St) : Bool → Hp → Prop := fun b H3 => if b = true then te σ2 H3 (eltQ D Nx) else Nx H3
def lcTg (tt : TT) (te : TE) (vs : List Nat) (σ : L2.St) (D : Addr) (Nx : Hp → Prop) : L2.St → Hp → Prop := fun σ2 H2 => wipe σ2 vs = wipe σ vs ∧ tt σ2 H2 (ttQ te D Nx σ2)
def iLQ (K : PySem.W.Frag) (R : It → Hp → Prop) : VK := fun x H1 => ∃ a, x = .ref a ∧ (∃ xs, SqL K H1 a xs) ∧ R (Itl K a) H1
def iTQ (K : PySem.W.Frag) (R : It → Hp → Prop) : VK := fun x H1 => ∃ a, x = .ref a ∧ (∃ xs, SqT K H1 a xs) ∧ R (Itt K a) H1
def iRQ (R : It → Hp → Prop) : List V → Hp → Prop := fun vs H1 => ∃ j : Int, vs = [.int j] ∧ -(2 ^ 62) ≤ j ∧ j < 2 ^ 62 ∧ R (Itr 0 j.toNat) H1
def iR2Q (R : It → Hp → Prop) : List V → Hp → Prop := fun vs H1 => ∃ i j : Int, vs = [.int i, .int j] ∧ (-(2 ^ 62) ≤ i ∧ i < 2 ^ 62 ∧ -(2 ^ 62) ≤ j ∧ j < 2 ^ 62) ∧ R (Itr i (j - i).toNat) H1
def iZQ (K : PySem.W.Frag) (R : It → Hp → Prop) : List V → Hp → Prop := fun vs H1 => ∃ a b xs ys, vs = [.ref a, .ref b] ∧ SqL K H1 a xs ∧ SqL K H1 b ys ∧ R (Itz K a b) H1
def iEQ (K : PySem.W.Frag) (R : It → Hp → Prop) : List V → Hp → Prop := fun vs H1 => ∃ a xs, vs = [.ref a] ∧ SqL K H1 a xs ∧ R (Ite K a) H1
section
variable {wi : TI} {g : TG} {tb : TS} {D : Ends} {J : It} {n : Nat} {G : Hp → Prop} {Y : Nat → Hp → V → Hp → Prop} {R : It → Hp → Prop} {tt : TT} {te : TE} {vs : List Nat}
theorem x_for (k : wi σ H (forQ g tb D σ)) : tFor wi g tb D σ H := k
theorem x_forQ (w : Walk J n G Y) (Pv : Nat → L2.St → Hp → Prop) (h0 : Pv 0 σ H) (hG : ∀ i σ H, i ≤ n → Pv i σ H → G H)
    (hs : ∀ i x σ H H', i < n → Pv i σ H → Y i H x H' → g x σ H' (tgQ tb (Pv (i + 1)) D)) (hd : ∀ σ H, Pv n σ H → D.nx σ H) : forQ g tb D σ J H := for_it w Pv h0 hG hs hd
theorem x_tgN {i : Nat} {v : V} {N : L2.St → Hp → Prop} (k : tb { D with nx := N, ct := N, bk := D.nx } (σ.set i (some v)) H) : gName i v σ H (tgQ tb N D) := k
theorem x_tgQ {N : L2.St → Hp → Prop} (k : tb { D with nx := N, ct := N, bk := D.nx } σ H) : tgQ tb N D σ H := k
theorem x_gTup {m : Nat} {ts : TGs} {S : L2.St → Hp → Prop} (h : SqT K H p xs) (hn : xs.length = m) (k : ts xs σ H S) : gTup K m ts (.ref p) σ H S := ⟨p, xs, rfl, h, hn, k⟩
theorem x_lc (k : wi σ H (lcQ g tt te vs σ Q)) : tLc wi g tt te vs σ H Q := k
theorem x_lcQ (w : Walk J n G Y) (Pv : Addr → Nat → Hp → Prop) (h0 : ∀ D, H D = none → Pv D 0 (upd H D (.lst []))) (hG : ∀ D i H, i ≤ n → Pv D i H → G H)
    (hs : ∀ D i x H H', i < n → Pv D i H → Y i H x H' → g x (wipe σ vs) H' (lcTg tt te vs σ D (Pv D (i + 1)))) (hd : ∀ D H, Pv D n H → Q (.ref D) H) : lcQ g tt te vs σ Q J H :=
  fun D hD => lc_it w (Pv D) (h0 D hD) (hG D) (hs D) (hd D)
theorem x_lcTgN {i : Nat} {v : V} {Dl : Addr} {Nx : Hp → Prop} (hw : wipe ((wipe σ vs).set i (some v)) vs = wipe σ vs) (k : tt ((wipe σ vs).set i (some v)) H (ttQ te Dl Nx ((wipe σ vs).set i (some v)))) : gName i v (wipe σ vs) H (lcTg tt te vs σ Dl Nx) := ⟨hw, k⟩
theorem x_lcTg {σ2 : L2.St} {Dl : Addr} {Nx : Hp → Prop} (hw : wipe σ2 vs = wipe σ vs) (k : tt σ2 H (ttQ te Dl Nx σ2)) : lcTg tt te vs σ Dl Nx σ2 H := ⟨hw, k⟩
theorem x_tYes {QB : Bool → Hp → Prop} (k : QB true H) : tYes σ H QB := k
theorem x_ttT {Dl : Addr} {Nx : Hp → Prop} (k : te σ H (eltQ Dl Nx)) : ttQ te Dl Nx σ true H := k
theorem x_ttQ {b : Bool} {Dl : Addr} {Nx : Hp → Prop} (h1 : b = true → te σ H (eltQ Dl Nx)) (h2 : b = false → Nx H) : ttQ te Dl Nx σ b H := by
  unfold ttQ
  cases b with
  | true => exact h1 rfl
  | false => exact h2 rfl
theorem x_elt {Dl : Addr} {Nx : Hp → Prop} {acc : List V} {y : V} (h : H Dl = some (.lst acc)) (hz : acc.length < sizeLine) (k : Nx (upd H Dl (.lst (acc ++ [y])))) : eltQ Dl Nx y H := ⟨acc, h, hz, k⟩
theorem x_iL {tl : TE} (k : tl σ H (iLQ K R)) : iList K tl σ H R := k
theorem x_iLQ (h : SqL K H p xs) (k : R (Itl K p) H) : iLQ K R (.ref p) H := ⟨p, rfl, ⟨xs, h⟩, k⟩
theorem x_iT {tl : TE} (k : tl σ H (iTQ K R)) : iTup K tl σ H R := k
theorem x_iTQ (h : SqT K H p xs) (k : R (Itt K p) H) : iTQ K R (.ref p) H := ⟨p, rfl, ⟨xs, h⟩, k⟩
theorem x_iR {ta : TA} (k : ta σ H (iRQ R)) : iRng1 ta σ H R := k
theorem x_iRQ {j : Int} (h1 : -(2 ^ 62) ≤ j) (h2 : j < 2 ^ 62) (k : R (Itr 0 j.toNat) H) : iRQ R [.int j] H := ⟨j, rfl, h1, h2, k⟩
theorem x_iR2 {ta : TA} (k : ta σ H (iR2Q R)) : iRng2 ta σ H R := k
theorem x_iR2Q {i j : Int} (h : -(2 ^ 62) ≤ i ∧ i < 2 ^ 62 ∧ -(2 ^ 62) ≤ j ∧ j < 2 ^ 62) (k : R (Itr i (j - i).toNat) H) : iR2Q R [.int i, .int j] H := ⟨i, j, rfl, h, k⟩
theorem x_iZ {ta : TA} (k : ta σ H (iZQ K R)) : iZip K ta σ H R := k
theorem x_iZQ {q : Addr} {ys : List V} (h : SqL K H p xs) (h2 : SqL K H q ys) (k : R (Itz K p q) H) : iZQ K R [.ref p, .ref q] H := ⟨p, q, xs, ys, rfl, h, h2, k⟩
theorem x_iE {ta : TA} (k : ta σ H (iEQ K R)) : iEnum K ta σ H R := k
theorem x_iEQ (h : SqL K H p xs) (k : R (Ite K p) H) : iEQ K R [.ref p] H := ⟨p, xs, rfl, h, k⟩
/-- a comprehension whose elements are the values f i, nothing else changed but by growth -/
theorem x_lcMap (w : Walk J n G Y) (f : Nat → V) (hn : n ≤ sizeLine) (hG : ∀ H', Ex H H' → G H')
    (hs : ∀ D i x H1 H2 (Nx : Hp → Prop), i < n → Ex H H1 → Y i H1 x H2 → (∀ H3, Ex H2 H3 → eltQ D Nx (f i) H3) → g x (wipe σ vs) H2 (lcTg tt te vs σ D Nx)) 
    (hY : ∀ i x H1 H2, i < n → Ex H H1 → Y i H1 x H2 → Ex H1 H2)
    (hd : ∀ D H', H D = none → Ex H H' → H' D = some (.lst ((List.range n).map f)) → Q (.ref D) H') : lcQ g tt te vs σ Q J H := by
  refine x_lcQ w (fun D i H' => H D = none ∧ Ex H H' ∧ H' D = some (.lst ((List.range i).map f))) (fun D hD => ⟨hD, Ex.new hD, upd_same⟩) (fun D i H' _ p => hG H' p.2.1) (fun D i x H1 H2 hi p y => ?_) (fun D H' p => hd D H' p.1 p.2.1 p.2.2)
  obtain ⟨hD, e1, h1⟩ := p
  have e2 := hY i x H1 H2 hi e1 y
  refine hs D i x H1 H2 _ hi e1 y fun H3 e3 => ?_
  refine ⟨(List.range i).map f, e3 _ _ (e2 _ _ h1), by rw [List.length_map, List.length_range]; omega, hD, Ex.mut ((e1.trans e2).trans e3) hD, ?_⟩
  rw [upd_same, List.range_succ, List.map_append]
  rfl
end
end
/-- range(n), range(a, n) by their turns -/
theorem walk_r0 {n : Nat} : Walk (Itr 0 n) n (fun _ => True) (fun i H x H' => H' = H ∧ x = .int (i : Int)) :=
  walk_range.mono (fun _ h => h) fun i H x H' _ _ y => ⟨y.1, by rw [y.2]; show V.int (0 + (i : Int)) = V.int (i : Int); rw [Int.zero_add]⟩
theorem walk_ra {a : Int} {n : Nat} : Walk (Itr a n) n (fun _ => True) (fun i H x H' => H' = H ∧ x = .int (a + (i : Int))) :=
  walk_range.mono (fun _ h => h) fun i H x H' _ _ y => ⟨y.1, y.2⟩
/-! ### a def of the program, ready to be called -/
structure Dn (P : Program) (w : World) (K : PySem.W.Frag) (mg : Str → Option Value) (base : Heap) (CX : CXT) (k : Nat) (x : Str) (ps : List Str) (sp : Sp) : Prop where
  ex : ∃ f fd, FnOk P w K mg base CX k f fd ps sp ∧ mg x = some (.ref f) ∧ PySem.W.keepIn K (.ref f) = true ∧ Binds K fd ps []
structure Df (K : PySem.W.Frag) (mg : Str → Option Value) (x : Str) (st : Stmt) : Prop where
  ex : ∃ f fd, Fun K x x st f fd ∧ mg x = some (.ref f)
theorem Dn.up {P : Program} {w : World} {K : PySem.W.Frag} {mg : Str → Option Value} {base : Heap} {CX : CXT} {k : Nat} {x : Str} {ps : List Str} {sp : Sp} (D : Dn P w K mg base CX k x ps sp) : Dn P w K mg base CX k x ps sp := D
section
variable {X : Cx} {CX : CXT} {k : Nat} {ps : List Str} {sp : Sp} {E : XK} {x : Str} {p pos : Pos} {e : Expr} {es : List Expr} {t : TA}
theorem pe_dn (D : Dn X.prog X.w X.K X.mg X.base CX k x ps sp) (hr : Room k X.A) (hx : Passes CX X E) (ha : PA X (e :: es) t) (hg : Gl X x := by rfl)
    (hdb : (x == ("__debug__" : Str)) = false := by decide) (he : starEach (e :: es) X.env = (false, eval e X.env) :: starEach es X.env := by rfl) (hpl : (backTo pos (starEach es X.env)).any (·.1) = false := by rfl) :
    PE X (.Call (.Name x p) (e :: es) [] pos) (tCall sp [] E t) := by
  obtain ⟨f, fd, F, hm, hk, hb⟩ := D.ex
  exact pe_call F hr hg hm hk hb .nil hx ha hdb he hpl
theorem pe_dn0 (D : Dn X.prog X.w X.K X.mg X.base CX k x ps sp) (hr : Room k X.A) (hx : Passes CX X E) (hg : Gl X x := by rfl)
    (hdb : (x == ("__debug__" : Str)) = false := by decide) : PE X (.Call (.Name x p) [] [] pos) (tCall sp [] E tNil) := by
  obtain ⟨f, fd, F, hm, hk, hb⟩ := D.ex
  exact pe_call0 F hr hg hm hk hb .nil hx hdb
/-- a number of the module -/
def Ci (mg : Str → Option Value) (x : Str) (n : Int) : Prop := ∃ t, mg x = some (.int n t)
theorem pe_cst {n : Int} (c : Ci X.mg x n) (hg : Gl X x := by rfl) (hd : (x == ("__debug__" : Str)) = false := by decide) : PE X (.Name x pos) (tC (.int n)) := by
  obtain ⟨t, h⟩ := c
  exact pe_glob hg h ⟨t, rfl⟩ hd
end
section
variable {P : Program} {w : World} {K : PySem.W.Frag} {mg : Str → Option Value} {base : Heap}
/-- a def of the text by its body, no exception leaving it -/
theorem Df.dn {x : Str} {st : Stmt} {N ps : List Str} {k : Nat} {sp : Sp} (F : Df K mg x st) (S : FnScope N ps (defScope st))
    (hb : ∀ (kV doc pm : Value) (an : Option Addr) (cdv ct : Value) (us : List Value), us.length = ps.length → bindArgs (PySem.W.fnOf x x (defArgs st) (defBody st) (defScope st) .none kV doc pm an cdv ct) ⟨us, []⟩ = pure (ps.zip us))
    (len : ∀ vs H Q E, sp vs H Q E → vs.length = ps.length)
    (hbody : ∀ (f : Addr) (cdv : Value) (A : Around) (outer : List Env) (s : Shared) (H : Hp) (vs : List V) (Q : VK) (E : XK), Room k (A.deeper (envOfC x (defScope st) s.heap.objs.size f cdv)) → (cxOf CX0 P w K mg base N x (defScope st) f cdv A outer s H E).nox.K = K → sp vs H Q E →
      ∃ t, PSs (cxOf CX0 P w K mg base N x (defScope st) f cdv A outer s H E).nox (defBody st) t ∧ t { nx := fun _ H' => Q .non H', rt := Q } (start N vs) H) : Dn P w K mg base CX0 (k + 1) x ps sp := by
  obtain ⟨f, fd, F, hm⟩ := F.ex
  exact ⟨f, fd, F.ok S len (fun cdv A outer s H vs Q E hr h => hbody f cdv A outer s H vs Q E hr rfl h), hm, F.kp, F.binds hb⟩
end
/-! ### numbers -/
theorem cdiv_of {i j : Int} (h0 : 0 < j) (h : j < 2 ^ 64) : CDivW i j := wide_div (b := 64) h0 (by omega) (by decide) (by decide)
theorem mulx_of {i j : Int} (h1 : -(2 ^ 64) < i) (h2 : i < 2 ^ 64) (h3 : -(2 ^ 64) < j) (h4 : j < 2 ^ 64) : CMulX i j := mulx_ok (a := 64) (b := 64) (by omega) (by omega) (by decide)
theorem bits_of {i : Int} (h1 : -(2 ^ 64) < i) (h2 : i < 2 ^ 64) : Builtin.Int.intBits i ≤ 1048576 := by
  have z := PySem.Flt.log2_lt_of (k := 64) (n := i.natAbs) (by decide) (by omega)
  unfold Builtin.Int.intBits
  split <;> omega
section
variable {H : Hp} {Q : VK} {i j : Int}
theorem x_mod (h : 0 < j) (k : Q (.int (i % j)) H) : rI (fun _ j => 0 < j) (fun i j => .int (i % j)) (.int i) (.int j) H Q := ⟨i, j, rfl, rfl, h, k⟩
theorem x_div (h : 0 < j) (h2 : j < 2 ^ 64) (k : Q (.int (i / j)) H) : rI CDivW (fun i j => .int (i / j)) (.int i) (.int j) H Q := ⟨i, j, rfl, rfl, cdiv_of h h2, k⟩
theorem x_mul (h1 : -(2 ^ 64) < i) (h2 : i < 2 ^ 64) (h3 : -(2 ^ 64) < j) (h4 : j < 2 ^ 64) (k : Q (.int (i * j)) H) : rI CMulX (fun i j => .int (i * j)) (.int i) (.int j) H Q := ⟨i, j, rfl, rfl, mulx_of h1 h2 h3 h4, k⟩
theorem x_mulB (h : CMulX i j) (k : Q (.int (i * j)) H) : rI CMulX (fun i j => .int (i * j)) (.int i) (.int j) H Q := ⟨i, j, rfl, rfl, h, k⟩
theorem x_pow (h : CPow i j) (k : Q (.int (i ^ j.toNat)) H) : rI CPow (fun i j => .int (i ^ j.toNat)) (.int i) (.int j) H Q := ⟨i, j, rfl, rfl, h, k⟩
end
theorem at_mem {xs : List V} {r : Int} (h0 : 0 ≤ r) (h : r < (xs.length : Int)) : ∃ v, atI xs r = some v ∧ v ∈ xs := by
  have hl : r.toNat < xs.length := by omega
  exact ⟨xs[r.toNat], at_of (j := r.toNat) (by omega) (List.getElem?_eq_getElem hl), List.getElem_mem hl⟩
theorem at_int {ns : List Int} {r : Int} (h0 : 0 ≤ r) (h : r < (ns.length : Int)) : ∃ v, atI (ns.map V.int) r = some (.int v) ∧ v ∈ ns ∧ ns[r.toNat]? = some v := by
  have hl : r.toNat < ns.length := by omega
  exact ⟨ns[r.toNat], at_of (j := r.toNat) (by omega) (by rw [List.getElem?_map, List.getElem?_eq_getElem hl]; rfl), List.getElem_mem hl, List.getElem?_eq_getElem hl⟩
theorem at_lastI (ws : List Int) (x : Int) : atI ((ws ++ [x]).map V.int) (-1) = some (.int x) := by
  rw [List.map_append]
  exact atI_last _ _
theorem cut_from {xs : List V} {k : Nat} : cutV xs (some (k : Int)) none = xs.drop k := by
  unfold cutV
  rw [HT.sIx_nat, HT.sIx_none]
  by_cases c : k ≤ xs.length
  · rw [Nat.min_eq_left c, List.take_of_length_le (by rw [List.length_drop]; omega)]
  · rw [Nat.min_eq_right (by omega), List.drop_length, List.drop_eq_nil_of_le (by omega), List.take_nil]
theorem cut_to {xs : List V} {k : Nat} : cutV xs none (some (k : Int)) = xs.take k := by
  unfold cutV
  rw [HT.sIx_nat, HT.sIx_none, List.drop_zero, Nat.sub_zero]
  by_cases c : k ≤ xs.length
  · rw [Nat.min_eq_left c]
  · rw [Nat.min_eq_right (by omega), List.take_of_length_le (Nat.le_refl _), List.take_of_length_le (by omega)]
theorem int_of {ns : List Int} {i : Nat} {x : V} (h : (ns.map V.int)[i]? = some x) : ∃ n, x = .int n ∧ ns[i]? = some n := by
  rw [List.getElem?_map] at h
  cases e : ns[i]? with
  | none => rw [e] at h; cases h
  | some u => rw [e] at h; exact ⟨u, (Option.some.inj h).symm, rfl⟩
/-- a tariff -/
structure Tar (ws : List Int) : Prop where
  pos : 1 ≤ ws.length
  len : ws.length ≤ 6
  rng : ∀ w ∈ ws, 1 ≤ w ∧ w ≤ 10000
  ch : ∀ (i : Nat) (a b : Int), ws[i]? = some a → ws[i + 1]? = some b → b % a = 0
theorem Tar.one {x : Int} (h1 : 1 ≤ x) (h2 : x ≤ 10000) : Tar [x] := ⟨Nat.le_refl _, by simp, fun w hw => by
  rw [List.mem_singleton] at hw
  subst hw
  exact ⟨h1, h2⟩, fun i a b _ h => by simp at h⟩
theorem Tar.snoc {ws : List Int} {x y : Int} (t : Tar (ws ++ [x])) (hl : (ws ++ [x]).length ≤ 5) (h1 : 1 ≤ y) (h2 : y ≤ 10000) (hd : y % x = 0) : Tar (ws ++ [x] ++ [y]) := by
  refine ⟨by simp, by rw [List.length_append, List.length_singleton]; omega, fun w hw => ?_, fun i a b ha hb => ?_⟩
  · rcases List.mem_append.mp hw with h | h
    · exact t.rng w h
    · rw [List.mem_singleton] at h
      subst h
      exact ⟨h1, h2⟩
  · by_cases c : i + 1 < (ws ++ [x]).length
    · rw [List.getElem?_append_left (by omega)] at ha
      rw [List.getElem?_append_left c] at hb
      exact t.ch i a b ha hb
    · have hlt := (List.getElem?_eq_some_iff.mp hb).1
      rw [List.length_append, List.length_singleton] at hlt
      have e : i + 1 = (ws ++ [x]).length := by omega
      have ei : i = ws.length := by rw [List.length_append, List.length_singleton] at e; omega
      rw [e, List.getElem?_concat_length] at hb
      rw [List.getElem?_append_left (by omega), ei, List.getElem?_concat_length] at ha
      cases ha; cases hb
      exact hd
/-! ### heaps that grow -/
theorem sqL_upd {K : PySem.W.Frag} {H : Hp} {p q : Addr} {o : HO} {xs : List V} (h : p ≠ q) (e : SqL K H p xs) : SqL K (upd H q o) p xs := by
  rcases e with (e | ⟨u, e⟩) | e
  · exact .inl (.inl (by rw [upd_ne h]; exact e))
  · exact .inl (.inr ⟨u, by rw [upd_ne h]; exact e⟩)
  · exact .inr e
theorem sqT_upd {K : PySem.W.Frag} {H : Hp} {p q : Addr} {o : HO} {xs : List V} (h : p ≠ q) (e : SqT K H p xs) : SqT K (upd H q o) p xs := by
  rcases e with (e | ⟨u, e⟩) | e
  · exact .inl (.inl (by rw [upd_ne h]; exact e))
  · exact .inl (.inr ⟨u, by rw [upd_ne h]; exact e⟩)
  · exact .inr e
/-- all but b is as it was -/
structure KB (b : Addr) (H H' : Hp) : Prop where
  at_ : ∀ a o, a ≠ b → H a = some o → H' a = some o
theorem KB.refl {b : Addr} {H : Hp} : KB b H H := ⟨fun _ _ _ h => h⟩
theorem KB.trans {b : Addr} {H H1 H2 : Hp} (a : KB b H H1) (c : KB b H1 H2) : KB b H H2 := ⟨fun x o n h => c.at_ x o n (a.at_ x o n h)⟩
theorem KB.of_ex {b : Addr} {H H1 : Hp} (e : Ex H H1) : KB b H H1 := ⟨fun x o _ h => e x o h⟩
theorem KB.upd {b : Addr} {H : Hp} {o : HO} : KB b H (upd H b o) := ⟨fun x u n h => by rw [upd_ne n]; exact h⟩
theorem KB.new {b p : Addr} {H : Hp} {o : HO} (h : H p = none) : KB b H (L2.upd H p o) := KB.of_ex (Ex.new h)
theorem KB.mut {b p : Addr} {H H1 : Hp} {o : HO} (e : KB b H H1) (h : H p = none) : KB b H (L2.upd H1 p o) := ⟨fun a u n ha => by
  rw [upd_ne (ne_of_none ha h)]; exact e.at_ a u n ha⟩
theorem KB.sqL {K : PySem.W.Frag} {b a : Addr} {H H' : Hp} {xs : List V} (e : KB b H H') (h : SqL K H a xs) (n : a ≠ b) : SqL K H' a xs := by
  rcases h with (h | ⟨o, h⟩) | h
  · exact .inl (.inl (e.at_ _ _ n h))
  · exact .inl (.inr ⟨o, e.at_ _ _ n h⟩)
  · exact .inr h
/-- what was read ahead of all is read on: b is new, what else changed is new -/
theorem KB.sq0 {K : PySem.W.Frag} {b a : Addr} {H H' : Hp} {xs : List V} (e : KB b H H') (hb : H b = none) (h : SqL K H a xs) : SqL K H' a xs := by
  rcases h with (h | ⟨o, h⟩) | h
  · exact .inl (.inl (e.at_ _ _ (ne_of_none h hb) h))
  · exact .inl (.inr ⟨o, e.at_ _ _ (ne_of_none h hb) h⟩)
  · exact .inr h
theorem ixN_of {n : Nat} {i : Int} (h0 : 0 ≤ i) (h : i < (n : Int)) : ixN n i = some i.toNat := by
  unfold ixN
  rw [if_pos h0, if_pos h]
theorem KB.get {b a : Addr} {H H' : Hp} {o : HO} (e : KB b H H') (n : a ≠ b) (h : H a = some o) : H' a = some o := e.at_ a o n h
theorem ex_get {a : Addr} {H H' : Hp} {o : HO} (e : Ex H H') (h : H a = some o) : H' a = some o := e a o h
theorem KB.sqT {K : PySem.W.Frag} {b a : Addr} {H H' : Hp} {xs : List V} (e : KB b H H') (h : SqT K H a xs) (n : a ≠ b) : SqT K H' a xs := by
  rcases h with (h | ⟨o, h⟩) | h
  · exact .inl (.inl (e.at_ _ _ n h))
  · exact .inl (.inr ⟨o, e.at_ _ _ n h⟩)
  · exact .inr h
theorem ne_fresh {p q : Addr} {H : Hp} {o : HO} (h : H p = none) (hq : H q = some o) : p ≠ q := fun e => by rw [e, hq] at h; cases h
theorem KB.fresh {b p : Addr} {H H' : Hp} (e : KB b H H') (hb : ∃ o, H' b = some o) (h : H' p = none) : H p = none := by
  cases q : H p with
  | none => rfl
  | some o =>
    by_cases n : p = b
    · obtain ⟨o2, h2⟩ := hb
      rw [n, h2] at h
      cases h
    · rw [e.at_ p o n q] at h
      cases h
theorem Ex.sqL {K : PySem.W.Frag} {H H' : Hp} {a : Addr} {xs : List V} (e : Ex H H') (h : SqL K H a xs) : SqL K H' a xs := ex_l e h
theorem Ex.sqT {K : PySem.W.Frag} {H H' : Hp} {a : Addr} {xs : List V} (e : Ex H H') (h : SqT K H a xs) : SqT K H' a xs := ex_t e h
/-! ### tests whose answer is known, or a proposition's -/
section
variable {σ : L2.St} {H : Hp} {Q : VK} {QB : Bool → Hp → Prop} {t u : TS} {d : TT} {D : Ends} {p : Prop} [Decidable p] {ta tb : TE}
theorem x_ifD (h1 : p → t D σ H) (h2 : ¬ p → u D σ H) : ifQ t u D σ (decide p) H := x_ifQ (fun c => h1 (of_decide_eq_true c)) fun c => h2 (of_decide_eq_false c)
theorem x_ifT (h : t D σ H) : ifQ t u D σ true H := h
theorem x_ifF (h : u D σ H) : ifQ t u D σ false H := by
  unfold ifQ
  rw [if_neg Bool.false_ne_true]
  exact h
theorem x_ifN (h1 : p → u D σ H) (h2 : ¬ p → t D σ H) : ifQ t u D σ (!decide p) H := by
  by_cases c : p
  · rw [decide_eq_true c]; exact x_ifF (h1 c)
  · rw [decide_eq_false c]; exact x_ifT (h2 c)
theorem x_notQT (k : QB false H) : notQ QB true H := k
theorem x_notQF (k : QB true H) : notQ QB false H := k
theorem x_andD (h1 : p → d σ H QB) (h2 : ¬ p → QB false H) : andQ d σ QB (decide p) H := x_andQ (fun c => h1 (of_decide_eq_true c)) fun c => h2 (of_decide_eq_false c)
theorem x_andT (h : d σ H QB) : andQ d σ QB true H := h
theorem x_andF (h : QB false H) : andQ d σ QB false H := by
  unfold andQ
  rw [if_neg Bool.false_ne_true]
  exact h
theorem x_orD (h1 : p → QB true H) (h2 : ¬ p → d σ H QB) : orQ d σ QB (decide p) H := x_orQ (fun c => h1 (of_decide_eq_true c)) fun c => h2 (of_decide_eq_false c)
theorem x_orT (h : QB true H) : orQ d σ QB true H := h
theorem x_orF (h : d σ H QB) : orQ d σ QB false H := by
  unfold orQ
  rw [if_neg Bool.false_ne_true]
  exact h
theorem x_andVD (h1 : p → tb σ H Q) (h2 : ¬ p → Q (.bl false) H) : andVQ tb σ Q (.bl (decide p)) H := x_andVQ (fun c => h1 (of_decide_eq_true c)) fun c => h2 (of_decide_eq_false c)
theorem x_andVT (h : tb σ H Q) : andVQ tb σ Q (.bl true) H := ⟨true, rfl, h⟩
theorem x_orVD (h1 : p → Q (.bl true) H) (h2 : ¬ p → tb σ H Q) : orVQ tb σ Q (.bl (decide p)) H := x_orVQ (fun c => h1 (of_decide_eq_true c)) fun c => h2 (of_decide_eq_false c)
theorem x_iteD (h1 : p → ta σ H Q) (h2 : ¬ p → tb σ H Q) : iteQ ta tb σ Q (decide p) H := x_iteQ (fun c => h1 (of_decide_eq_true c)) fun c => h2 (of_decide_eq_false c)
theorem x_chD {r' : R2} {tc : TE} {y : V} (h1 : p → tc σ H (opQ2 r' y Q)) (h2 : ¬ p → Q (.bl false) H) : chQ3 r' y tc σ Q (.bl (decide p)) H := x_chQ3 (fun c => h1 (of_decide_eq_true c)) fun c => h2 (of_decide_eq_false c)
end
/-! ### data -/
mutual
theorem dp_ex {K : PySem.W.Frag} {H H' : Hp} (e : Ex H H') : ∀ {v : V} {d : PyData}, Dp K H v d → Dp K H' v d
  | _, _, .non => .non
  | _, _, .bl b => .bl b
  | _, _, .int i => .int i
  | _, _, .str x => .str x
  | _, _, .lst s a => .lst (ex_l e s) (dpAll_ex e a)
  | _, _, .tup s a => .tup (ex_t e s) (dpAll_ex e a)
theorem dpAll_ex {K : PySem.W.Frag} {H H' : Hp} (e : Ex H H') : ∀ {vs : List V} {ds : List PyData}, DpAll K H vs ds → DpAll K H' vs ds
  | _, _, .nil => .nil
  | _, _, .cons a r => .cons (dp_ex e a) (dpAll_ex e r)
end
section
variable {K : PySem.W.Frag} {H H' : Hp}
theorem dpAll_len : ∀ {vs : List V} {ds : List PyData}, DpAll K H vs ds → vs.length = ds.length
  | _, _, .nil => rfl
  | _, _, .cons _ r => congrArg (· + 1) (dpAll_len r)
theorem dpAll_get : ∀ {vs : List V} {ds : List PyData} {i : Nat} {v : V}, DpAll K H vs ds → vs[i]? = some v → ∃ d, ds[i]? = some d ∧ Dp K H v d
  | _, _, _, _, .nil, h => by simp at h
  | _, _, 0, _, .cons a _, h => by
    have e := Option.some.inj h
    subst e
    exact ⟨_, rfl, a⟩
  | _, _, i + 1, v, .cons _ r, h => dpAll_get (i := i) r h
theorem dpAll_app : ∀ {vs ws : List V} {ds es : List PyData}, DpAll K H vs ds → DpAll K H ws es → DpAll K H (vs ++ ws) (ds ++ es)
  | _, _, _, _, .nil, b => b
  | _, _, _, _, .cons a r, b => .cons a (dpAll_app r b)
theorem dpAll_ints : ∀ ns : List Int, DpAll K H (ns.map V.int) (ns.map PyData.int)
  | [] => .nil
  | n :: r => .cons (.int n) (dpAll_ints r)
theorem dpAll_bls : ∀ ns : List Bool, DpAll K H (ns.map V.bl) (ns.map PyData.bool)
  | [] => .nil
  | n :: r => .cons (.bl n) (dpAll_bls r)
theorem dpAll_strs : ∀ ns : List Str, DpAll K H (ns.map V.str) (ns.map PyData.str)
  | [] => .nil
  | n :: r => .cons (.str n) (dpAll_strs r)
/-- a list of ints, as data -/
abbrev dInts (ns : List Int) : PyData := .list (ns.map PyData.int)
theorem dp_ints {p : Addr} {ns : List Int} (h : SqL K H p (ns.map V.int)) : Dp K H (.ref p) (dInts ns) := .lst h (dpAll_ints ns)
/-- the kind of data -/
def kindD : PyData → String
  | .none => "NoneType"
  | .bool _ => "bool"
  | .int _ => "int"
  | .str _ => "str"
  | .list _ => "list"
  | .tuple _ => "tuple"
  | .dict _ => "dict"
theorem ty_dp {v : V} {d : PyData} (h : Dp K H v d) : TyX K H v (.type (kindD d)) := by
  cases h with
  | non => exact .base .non
  | bl b => exact .base (.bl b)
  | int i => exact .base (.int i)
  | str x => exact .base (.str x)
  | lst s _ =>
    rcases s with (s | ⟨o, s⟩) | ⟨o, its, n, s, c, _⟩
    · exact .base (.lst s)
    · exact .base (.frz s)
    · exact .kList s c
  | tup s _ =>
    rcases s with (s | ⟨o, s⟩) | ⟨o, its, n, s, c, _⟩
    · exact .base (.tup s)
    · exact .fTuple s
    · exact .kTuple s c
theorem x_isi {Q : VK} {v : V} {a T : String} {b : Bool} (ty : TyX K H v (.type a)) (e : PySem.W.kitOne K (.type a) (.type T) = some b) (k : Q (.bl b) H) : rIsi K [v, .ty T] H Q := ⟨v, .ty T, _, _, b, rfl, .ty T, ty, e, k⟩
theorem eqv_same {d : PyData} (s : SeqAt.shaped d = true) : PyData.eqv d d = true := PySem.SeqAt.eqv_refl d (PySem.SeqAt.canLay_of_shaped s)
theorem x_eqD {Q : VK} {x y : V} {d e : PyData} (hx : Dp K H x d) (hy : Dp K H y e) (sx : SeqAt.shaped d = true) (sy : SeqAt.shaped e = true) (k : Q (.bl (PyData.eqv d e)) H) : rEqD K x y H Q := ⟨d, e, hx, hy, sx, sy, k⟩
theorem x_neD {Q : VK} {x y : V} {d e : PyData} (hx : Dp K H x d) (hy : Dp K H y e) (sx : SeqAt.shaped d = true) (sy : SeqAt.shaped e = true) (k : Q (.bl (!PyData.eqv d e)) H) : rNeD K x y H Q := ⟨d, e, hx, hy, sx, sy, k⟩
theorem x_eqSame {Q : VK} {x y : V} {d : PyData} (hx : Dp K H x d) (hy : Dp K H y d) (s : SeqAt.shaped d = true) (k : Q (.bl true) H) : rEqD K x y H Q := x_eqD hx hy s s (by rw [eqv_same s]; exact k)
theorem x_neSame {Q : VK} {x y : V} {d : PyData} (hx : Dp K H x d) (hy : Dp K H y d) (s : SeqAt.shaped d = true) (k : Q (.bl false) H) : rNeD K x y H Q := x_neD hx hy s s (by rw [eqv_same s]; exact k)
theorem shaped_ints (ns : List Int) : SeqAt.shaped (dInts ns) = true := by
  have h : ∀ ns : List Int, PyData.canLayAll0 (ns.map PyData.int) = true ∧ PyData.depthAll (ns.map PyData.int) = 0 := by
    intro ns
    induction ns with
    | nil => exact ⟨by simp [PyData.canLayAll0], by simp [PyData.depthAll]⟩
    | cons n r ih => exact ⟨by simp [PyData.canLayAll0, PyData.canLay0, ih.1], by simp [PyData.depthAll, PyData.depth, ih.2]⟩
  unfold SeqAt.shaped
  simp [PyData.canLay0, PyData.depth, h ns]
/-- data of a depth below n, no list longer than 100000 -/
inductive OkD : Nat → PyData → Prop
  | none {n : Nat} : OkD (n + 1) .none
  | bool {n : Nat} (b : Bool) : OkD (n + 1) (.bool b)
  | int {n : Nat} (i : Int) : OkD (n + 1) (.int i)
  | str {n : Nat} {x : Str} (h : PyData.strOk x = true) : OkD (n + 1) (.str x)
  | list {n : Nat} {ds : List PyData} (hl : ds.length ≤ 100000) (h : ∀ d ∈ ds, OkD n d) : OkD (n + 1) (.list ds)
  | tuple {n : Nat} {ds : List PyData} (hl : ds.length ≤ 100000) (h : ∀ d ∈ ds, OkD n d) : OkD (n + 1) (.tuple ds)
theorem canLayAll_of {ds : List PyData} : (∀ d ∈ ds, PyData.canLay0 d = true) → PyData.canLayAll0 ds = true := by
  induction ds with
  | nil => intro _; simp [PyData.canLayAll0]
  | cons a r ih => intro h; simp [PyData.canLayAll0, h a (List.mem_cons_self), ih fun d hd => h d (List.mem_cons_of_mem _ hd)]
theorem depthAll_of {n : Nat} {ds : List PyData} : (∀ d ∈ ds, PyData.depth d ≤ n) → PyData.depthAll ds ≤ n := by
  induction ds with
  | nil => intro _; simp [PyData.depthAll]
  | cons a r ih =>
    intro h
    have h1 := h a List.mem_cons_self
    have h2 := ih fun d hd => h d (List.mem_cons_of_mem _ hd)
    simp only [PyData.depthAll]
    omega
theorem OkD.lay {n : Nat} {d : PyData} (h : OkD n d) : PyData.canLay0 d = true ∧ PyData.depth d ≤ n := by
  induction h with
  | none => exact ⟨by simp [PyData.canLay0], by simp [PyData.depth]⟩
  | bool b => exact ⟨by simp [PyData.canLay0], by simp [PyData.depth]⟩
  | int i => exact ⟨by simp [PyData.canLay0], by simp [PyData.depth]⟩
  | str h => exact ⟨by simp [PyData.canLay0, h], by simp [PyData.depth]⟩
  | list hl h ih => exact ⟨by simp only [PyData.canLay0]; exact canLayAll_of fun d hd => (ih d hd).1, by simp only [PyData.depth]; have := depthAll_of fun d hd => (ih d hd).2; omega⟩
  | tuple hl h ih => exact ⟨by simp only [PyData.canLay0]; exact canLayAll_of fun d hd => (ih d hd).1, by simp only [PyData.depth]; have := depthAll_of fun d hd => (ih d hd).2; omega⟩
theorem OkD.shaped {n : Nat} {d : PyData} (h : OkD n d) (hn : n ≤ 64) : SeqAt.shaped d = true := by
  unfold SeqAt.shaped
  rw [h.lay.1, decide_eq_true (by have := h.lay.2; omega)]
  rfl
theorem OkD.ints {n : Nat} {ns : List Int} (h : ns.length ≤ 100000) : OkD (n + 2) (dInts ns) := .list (by rw [List.length_map]; exact h) fun d hd => by
  obtain ⟨i, _, rfl⟩ := List.mem_map.mp hd
  exact .int i
/-- zip of two lists or two tuples -/
def iZAQ (K : PySem.W.Frag) (R : It → Hp → Prop) : List V → Hp → Prop := fun vs H1 => ∃ a b xs ys, vs = [.ref a, .ref b] ∧ ((SqL K H1 a xs ∧ SqL K H1 b ys ∧ R (Itz K a b) H1) ∨ (SqT K H1 a xs ∧ SqT K H1 b ys ∧ R (ItzT K a b) H1))
theorem x_iZA {ta : TA} {σ : L2.St} {R : It → Hp → Prop} (k : ta σ H (iZAQ K R)) : iZipA K ta σ H R := k
theorem x_iZAL {R : It → Hp → Prop} {p q : Addr} {xs ys : List V} (h : SqL K H p xs) (h2 : SqL K H q ys) (k : R (Itz K p q) H) : iZAQ K R [.ref p, .ref q] H := ⟨p, q, xs, ys, rfl, .inl ⟨h, h2, k⟩⟩
theorem x_iZAT {R : It → Hp → Prop} {p q : Addr} {xs ys : List V} (h : SqT K H p xs) (h2 : SqT K H q ys) (k : R (ItzT K p q) H) : iZAQ K R [.ref p, .ref q] H := ⟨p, q, xs, ys, rfl, .inr ⟨h, h2, k⟩⟩
theorem walk_zipT {a b : Addr} {xs ys : List V} {n : Nat} (hn : n = min xs.length ys.length) : Walk (ItzT K a b) n (fun H => SqT K H a xs ∧ SqT K H b ys) (YPair (fun i => xs[i]?) (fun i => ys[i]?)) := by
  subst hn
  refine ⟨fun i _ hi q => ?_, fun _ q => ⟨xs, ys, q.1, q.2, by omega⟩, fun i H v H' _ q y => ?_⟩
  · have h1 : i < xs.length := by omega
    have h2 : i < ys.length := by omega
    exact ⟨xs, ys, xs[i], ys[i], q.1, q.2, by simp [h1], by simp [h2]⟩
  · obtain ⟨T, x, z, h1, h2, h3, h4, h5⟩ := y
    exact ⟨T, x, z, h1, h2, h3, h4 xs q.1, h5 ys q.2⟩
/-- a def's contract that can't be asked -/
theorem Df.none {P : Program} {w : World} {mg : Str → Option Value} {base : Heap} {x : Str} {st : Stmt} {ps : List Str} {sp : Sp} (F : Df K mg x st)
    (hb : ∀ (kV doc pm : Value) (an : Option Addr) (cdv ct : Value) (us : List Value), us.length = ps.length → bindArgs (PySem.W.fnOf x x (defArgs st) (defBody st) (defScope st) .none kV doc pm an cdv ct) ⟨us, []⟩ = pure (ps.zip us))
    (no : ∀ vs H Q E, ¬ sp vs H Q E) : Dn P w K mg base CX0 k x ps sp := by
  obtain ⟨f, fd, F, hm⟩ := F.ex
  exact ⟨f, fd, ⟨fun vs H Q E h => absurd h (no vs H Q E), fun A outer s H args us vs Q E _ _ _ _ h => absurd h (no vs H Q E)⟩, hm, F.kp, F.binds hb⟩
end
/-! ### steps whose premises want a tactic -/
section
variable {K : PySem.W.Frag} {H : Hp} {Q : VK} {p : Addr} {xs : List V}
theorem x_ixLn {i : Int} {v : V} (h : SqL K H p xs) (h0 : 0 ≤ i) (ha : xs[i.toNat]? = some v) (k : Q v H) : rIxL K (.ref p) (.int i) H Q := x_ixL h (at_of (j := i.toNat) (by omega) ha) k
theorem x_ixTn {i : Int} {v : V} (h : SqT K H p xs) (h0 : 0 ≤ i) (ha : xs[i.toNat]? = some v) (k : Q v H) : rIxT K (.ref p) (.int i) H Q := x_ixT h (at_of (j := i.toNat) (by omega) ha) k
theorem x_setLn {i : Int} {v : V} {R : Hp → Prop} (h : H p = some (.lst xs)) (h0 : 0 ≤ i) (ha : (xs[i.toNat]?).isSome = true) (k : R (upd H p (.lst (xs.set i.toNat v)))) : rSetL (.ref p) (.int i) v H R := by
  refine x_setL h ?_ k
  have hlt : i.toNat < xs.length := by
    rw [Option.isSome_iff_exists] at ha
    obtain ⟨y, hy⟩ := ha
    exact (List.getElem?_eq_some_iff.mp hy).1
  unfold ixN
  rw [if_pos h0, if_pos (by omega)]
end
/-- a word between two statements -/
theorem x_cut {t u : TS} {D : Ends} {σ : L2.St} {H : Hp} (Mid : L2.St → Hp → Prop) (h : t { D with nx := Mid } σ H) (k : ∀ σ' H', Mid σ' H' → u D σ' H') : tCut t u D σ H := ⟨Mid, h, k⟩
theorem cut_ints (ws : List Int) (lo hi : Option Int) : ∃ us : List Int, cutV (ws.map V.int) lo hi = us.map V.int ∧ us.length ≤ ws.length := by
  refine ⟨(ws.drop (HT.sIx (ws.map V.int).length 0 lo)).take (HT.sIx (ws.map V.int).length (ws.map V.int).length hi - HT.sIx (ws.map V.int).length 0 lo), ?_, ?_⟩
  · unfold cutV
    rw [List.map_take, List.map_drop]
  · rw [List.length_take, List.length_drop]
    omega
theorem rep_ints (ws : List Int) (k : Nat) : (List.replicate k (ws.map V.int)).flatten = ((List.replicate k ws).flatten).map V.int := by
  induction k with
  | zero => rfl
  | succ k ih => rw [List.replicate_succ, List.replicate_succ, List.flatten_cons, List.flatten_cons, List.map_append, ih]
theorem rep_len (ws : List Int) (k : Nat) : ((List.replicate k ws).flatten).length = k * ws.length := by
  induction k with
  | zero => simp
  | succ k ih => rw [List.replicate_succ, List.flatten_cons, List.length_append, ih, Nat.succ_mul]; omega
theorem set_ints (ws : List Int) (j : Nat) (z : Int) : (ws.map V.int).set j (.int z) = (ws.set j z).map V.int := List.map_set.symm
/-- the promise of a law: a list of at most 63 ints is handed in, True comes back -/
def spLaw (K : PySem.W.Frag) : Sp := fun vs H Q _ => ∃ (a : Addr) (ns : List Int), vs = [.ref a] ∧ SqL K H a (ns.map V.int) ∧ ns.length ≤ 63 ∧ (∀ z ∈ ns, Builtin.Int.intBits z ≤ 1048576) ∧ ∀ H', Q (.bl true) H'
/-- a while by a number that falls -/
def whQ (t : TS) (W : Nat → L2.St → Hp → Prop) (m : Nat) (D : Ends) (σ : L2.St) : Bool → Hp → Prop := fun b H1 => if b = true then ∃ N : L2.St → Hp → Prop, (∀ σ' H', N σ' H' → ∃ m', m' < m ∧ W m' σ' H') ∧ t { D with nx := N, ct := N, bk := D.nx } σ H1 else D.nx σ H1
theorem x_while {c : TT} {t : TS} {D : Ends} {σ : L2.St} {H : Hp} (W : Nat → L2.St → Hp → Prop) (m0 : Nat) (h0 : W m0 σ H) (hs : ∀ m σ H, W m σ H → c σ H (whQ t W m D σ)) : tWhile c t D σ H := ⟨W, ⟨m0, h0⟩, hs⟩
theorem x_whD {t : TS} {W : Nat → L2.St → Hp → Prop} {m : Nat} {f : L2.St → Hp → Prop} {rt : VK} {bk ct : L2.St → Hp → Prop} {σ : L2.St} {H : Hp} {p : Prop} [Decidable p]
    (h1 : p → t (Ends.mk (fun σ' H' => ∃ m', m' < m ∧ W m' σ' H') rt f (fun σ' H' => ∃ m', m' < m ∧ W m' σ' H')) σ H) (h2 : ¬ p → f σ H) : whQ t W m (Ends.mk f rt bk ct) σ (decide p) H := by
  unfold whQ
  by_cases c : p
  · rw [if_pos (decide_eq_true c)]
    exact ⟨_, fun _ _ h => h, h1 c⟩
  · rw [if_neg (by rw [decide_eq_false c]; exact Bool.false_ne_true)]
    exact h2 c
theorem x_shl {H : Hp} {Q : VK} {B : Nat} {k : Nat} {n : Nat} (h : B < 2 ^ n) (hn : n + k ≤ 134217728) (q : Q (.int ((B <<< k : Nat) : Int)) H) : rI CShl (fun i j => .int (i * 2 ^ j.toNat)) (.int (B : Int)) (.int (k : Int)) H Q :=
  ⟨B, k, rfl, rfl, shl_ok (by omega) hn, by
    have e : ((B <<< k : Nat) : Int) = (B : Int) * 2 ^ ((k : Int)).toNat := by
      rw [Nat.shiftLeft_eq, Int.toNat_natCast, Int.natCast_mul, Int.natCast_pow]
      rfl
    rw [e] at q
    exact q⟩
/-! ### runs: what is left of a reading when all that needs no word of ours is done (found by the search for instances) -/
class Run (P : Prop) (R : outParam Prop) : Prop where
  go : R → P
theorem run {P R : Prop} [i0 : Run P R] (h : R) : P := i0.go h
instance (priority := low) run_base {P : Prop} : Run P P := ⟨id⟩
/-- the value in a slot -/
class Slot (σ : L2.St) (i : Nat) (v : outParam V) : Prop where
  h : σ[i]? = some (some v)
instance slot_0 {v : V} {σ : L2.St} : Slot (some v :: σ) 0 v := ⟨rfl⟩
instance slot_s {o : Option V} {v : V} {σ : L2.St} {n : Nat} [i : Slot σ n v] : Slot (o :: σ) (n + 1) v := ⟨i.h⟩
/-- a slot stored -/
class SetS (σ : L2.St) (i : Nat) (o : Option V) (σ' : outParam L2.St) : Prop where
  h : σ.set i o = σ'
instance set_0 {o x : Option V} {σ : L2.St} : SetS (x :: σ) 0 o (o :: σ) := ⟨rfl⟩
instance set_s {o x : Option V} {σ σ' : L2.St} {n : Nat} [i : SetS σ n o σ'] : SetS (x :: σ) (n + 1) o (x :: σ') := ⟨by rw [List.set_cons_succ, i.h]⟩
/-- a comprehension's own slots wiped -/
class Wp (σ : L2.St) (ns : List Nat) (σ' : outParam L2.St) : Prop where
  h : wipe σ ns = σ'
instance wp_nil {σ : L2.St} : Wp σ (List.map (fun x : Str × Nat => x.2) []) σ := ⟨rfl⟩
instance wp_cons {σ σ1 σ2 : L2.St} {s : Str} {n : Nat} {l : List (Str × Nat)} [a : Wp σ (List.map (fun x : Str × Nat => x.2) l) σ1] [b : SetS σ1 n none σ2] : Wp σ (List.map (fun x : Str × Nat => x.2) ((s, n) :: l)) σ2 := ⟨by
  show (wipe σ (List.map (fun x : Str × Nat => x.2) l)).set n none = σ2
  rw [a.h, b.h]⟩
instance set_wipe {σ σ1 σ2 : L2.St} {ns : List Nat} {i : Nat} {o : Option V} [a : Wp σ ns σ1] [b : SetS σ1 i o σ2] : SetS (wipe σ ns) i o σ2 := ⟨by rw [a.h, b.h]⟩
class PosI (j : Int) : Prop where
  h : 0 < j
instance posI {m : Nat} : PosI (OfNat.ofNat (m + 1)) := ⟨Int.natCast_pos.mpr (Nat.succ_pos m)⟩
section
variable {K : PySem.W.Frag} {σ σ' : L2.St} {H : Hp} {Q : VK} {QB : Bool → Hp → Prop} {QA : List V → Hp → Prop} {R : Prop} {v x y : V} {ta tb tc te : TE} {t u : TS} {c d : TT} {D : Ends} {r r' : R2} {i j : Nat} {g : TG} {gs : TGs} {tr : TA} {sp : Sp} {E : XK} {vs : List V}
  {f : L2.St → Hp → Prop} {rt : VK} {bk ct : L2.St → Hp → Prop} {a b : Int} {z z' : Str} {k l : Bool} {p q : Addr} {G : L2.St → Hp → Prop} {S : It → Hp → Prop} {ns : List Nat} {tt : TT} {Dl : Addr} {Nx : Hp → Prop}
instance r_var [s : Slot σ i v] [n : Run (Q v H) R] : Run (tVar i σ H Q) R := ⟨fun h => x_var s.h (n.go h)⟩
instance r_c [i0 : Run (Q v H) R] : Run (tC v σ H Q) R := ⟨fun h => x_c (i0.go h)⟩
instance r_op [i0 : Run (ta σ H (opQ1 r tb σ Q)) R] : Run (tOp r ta tb σ H Q) R := ⟨fun h => x_op (i0.go h)⟩
instance r_opQ1 [i0 : Run (tb σ H (opQ2 r x Q)) R] : Run (opQ1 r tb σ Q x H) R := ⟨fun h => x_opQ1 (i0.go h)⟩
instance r_opQ2 [i0 : Run (r x y H Q) R] : Run (opQ2 r x Q y H) R := ⟨fun h => x_opQ2 (i0.go h)⟩
instance r_un {h1 : V → Hp → VK → Prop} [i0 : Run (ta σ H (unQ h1 Q)) R] : Run (tUn h1 ta σ H Q) R := ⟨fun h => x_un (i0.go h)⟩
instance r_unQ {h1 : V → Hp → VK → Prop} [i0 : Run (h1 x H Q) R] : Run (unQ h1 Q x H) R := ⟨fun h => x_unQ (i0.go h)⟩
instance r_I0 {fI : Int → Int → V} [i0 : Run (Q (fI a b) H) R] : Run (rI0 fI (.int a) (.int b) H Q) R := ⟨fun h => x_I0 (i0.go h)⟩
instance r_rU {fI : Int → V} [i0 : Run (Q (fI a) H) R] : Run (rU fI (.int a) H Q) R := ⟨fun h => x_rU (i0.go h)⟩
instance r_mod [m : PosI b] [n : Run (Q (.int (a % b)) H) R] : Run (rI (fun _ j => 0 < j) (fun i j => .int (i % j)) (.int a) (.int b) H Q) R := ⟨fun h => x_mod m.h (n.go h)⟩
instance r_eqI [i0 : Run (Q (.bl (decide (a = b))) H) R] : Run (rEq (.int a) (.int b) H Q) R := ⟨fun h => x_eqI (i0.go h)⟩
instance r_neI [i0 : Run (Q (.bl (decide (a ≠ b))) H) R] : Run (rNe (.int a) (.int b) H Q) R := ⟨fun h => x_neI (i0.go h)⟩
instance r_eqS [i0 : Run (Q (.bl (decide (z = z'))) H) R] : Run (rEq (.str z) (.str z') H Q) R := ⟨fun h => x_eqS (i0.go h)⟩
instance r_neS [i0 : Run (Q (.bl (decide (z ≠ z'))) H) R] : Run (rNe (.str z) (.str z') H Q) R := ⟨fun h => x_neS (i0.go h)⟩
instance r_eqBs [i0 : Run (Q (.bl true) H) R] : Run (rEq (.bl k) (.bl k) H Q) R := ⟨fun h => x_eqBs (i0.go h)⟩
instance r_neBs [i0 : Run (Q (.bl false) H) R] : Run (rNe (.bl k) (.bl k) H Q) R := ⟨fun h => x_neBs (i0.go h)⟩
instance r_test [i0 : Run (ta σ H (bQ QB)) R] : Run (tTest ta σ H QB) R := ⟨fun h => x_test (i0.go h)⟩
instance r_tB [i0 : Run (ta σ H (bQ QB)) R] : Run (tB ta σ H QB) R := ⟨fun h => x_tB (i0.go h)⟩
instance r_bQ [i0 : Run (QB k H) R] : Run (bQ QB (.bl k) H) R := ⟨fun h => x_bQ (i0.go h)⟩
instance r_and [i0 : Run (c σ H (andQ d σ QB)) R] : Run (tAnd c d σ H QB) R := ⟨fun h => x_and (i0.go h)⟩
instance r_or [i0 : Run (c σ H (orQ d σ QB)) R] : Run (tOr c d σ H QB) R := ⟨fun h => x_or (i0.go h)⟩
instance r_not [i0 : Run (c σ H (notQ QB)) R] : Run (tNot c σ H QB) R := ⟨fun h => x_not (i0.go h)⟩
instance (priority := low + 1) r_notQ [i0 : Run (QB (!k) H) R] : Run (notQ QB k H) R := ⟨fun h => x_notQ (i0.go h)⟩
instance r_notQT [i0 : Run (QB false H) R] : Run (notQ QB true H) R := ⟨fun h => x_notQT (i0.go h)⟩
instance r_notQF [i0 : Run (QB true H) R] : Run (notQ QB false H) R := ⟨fun h => x_notQF (i0.go h)⟩
instance r_andT [i0 : Run (d σ H QB) R] : Run (andQ d σ QB true H) R := ⟨fun h => x_andT (i0.go h)⟩
instance r_andF [i0 : Run (QB false H) R] : Run (andQ d σ QB false H) R := ⟨fun h => x_andF (i0.go h)⟩
instance r_orT [i0 : Run (QB true H) R] : Run (orQ d σ QB true H) R := ⟨fun h => x_orT (i0.go h)⟩
instance r_orF [i0 : Run (d σ H QB) R] : Run (orQ d σ QB false H) R := ⟨fun h => x_orF (i0.go h)⟩
instance r_ifExp [i0 : Run (c σ H (iteQ ta tb σ Q)) R] : Run (tIf c ta tb σ H Q) R := ⟨fun h => x_ifExp (i0.go h)⟩
instance r_andV [i0 : Run (ta σ H (andVQ tb σ Q)) R] : Run (tAndV ta tb σ H Q) R := ⟨fun h => x_andV (i0.go h)⟩
instance r_orV [i0 : Run (ta σ H (orVQ tb σ Q)) R] : Run (tOrV ta tb σ H Q) R := ⟨fun h => x_orV (i0.go h)⟩
instance r_notV [i0 : Run (ta σ H (notVQ Q)) R] : Run (tNotV ta σ H Q) R := ⟨fun h => x_notV (i0.go h)⟩
instance r_notVQ [i0 : Run (Q (.bl (!k)) H) R] : Run (notVQ Q (.bl k) H) R := ⟨fun h => x_notVQ (i0.go h)⟩
instance r_andVT [i0 : Run (tb σ H Q) R] : Run (andVQ tb σ Q (.bl true) H) R := ⟨fun h => x_andVT (i0.go h)⟩
instance r_nil [i0 : Run (QA [] H) R] : Run (tNil σ H QA) R := ⟨fun h => x_nil (i0.go h)⟩
instance r_cons [i0 : Run (te σ H (consQ tr σ QA)) R] : Run (tCons te tr σ H QA) R := ⟨fun h => x_cons (i0.go h)⟩
instance r_consQ [i0 : Run (tr σ H fun xs H2 => QA (x :: xs) H2) R] : Run (consQ tr σ QA x H) R := ⟨fun h => x_consQ (i0.go h)⟩
instance r_call [i0 : Run (tr σ H (callQ sp Q E)) R] : Run (tCall sp [] E tr σ H Q) R := ⟨fun h => x_call (i0.go h)⟩
instance r_callQ [i0 : Run (sp vs H Q E) R] : Run (callQ sp Q E vs H) R := ⟨fun h => x_callQ (i0.go h)⟩
instance r_cb {h1 : List V → Hp → VK → Prop} [i0 : Run (tr σ H (cbQ h1 Q)) R] : Run (tCB h1 tr σ H Q) R := ⟨fun h => x_cb (i0.go h)⟩
instance r_cbQ {h1 : List V → Hp → VK → Prop} [i0 : Run (h1 vs H Q) R] : Run (cbQ h1 Q vs H) R := ⟨fun h => x_cbQ (i0.go h)⟩
instance r_lst [i0 : Run (tr σ H (lstQ Q)) R] : Run (tLst tr σ H Q) R := ⟨fun h => x_lst (i0.go h)⟩
instance r_tup [i0 : Run (tr σ H (tupQ Q)) R] : Run (tTup tr σ H Q) R := ⟨fun h => x_tup (i0.go h)⟩
instance r_seq [i0 : Run (t (Ends.mk (u (Ends.mk f rt bk ct)) rt bk ct) σ H) R] : Run (tSeq t u (Ends.mk f rt bk ct) σ H) R := ⟨fun h => x_seq (i0.go h)⟩
instance r_next [i0 : Run (f σ H) R] : Run (tNext (Ends.mk f rt bk ct) σ H) R := ⟨fun h => x_next (D := Ends.mk f rt bk ct) (i0.go h)⟩
instance r_asg [i0 : Run (te σ H (asgQ g (Ends.mk f rt bk ct) σ)) R] : Run (tAsg te g (Ends.mk f rt bk ct) σ H) R := ⟨fun h => x_asg (i0.go h)⟩
instance r_asgN [s : SetS σ i (some x) σ'] [n : Run (f σ' H) R] : Run (asgQ (gName i) (Ends.mk f rt bk ct) σ x H) R := ⟨fun h => x_asgN (D := Ends.mk f rt bk ct) (by rw [s.h]; exact n.go h)⟩
instance r_drop [i0 : Run (te σ H (dropQ (Ends.mk f rt bk ct) σ)) R] : Run (tDrop te (Ends.mk f rt bk ct) σ H) R := ⟨fun h => x_drop (i0.go h)⟩
instance r_dropQ [i0 : Run (f σ H) R] : Run (dropQ (Ends.mk f rt bk ct) σ x H) R := ⟨fun h => x_dropQ (D := Ends.mk f rt bk ct) (i0.go h)⟩
instance r_ret [i0 : Run (te σ H rt) R] : Run (tRet te (Ends.mk f rt bk ct) σ H) R := ⟨fun h => x_ret (D := Ends.mk f rt bk ct) (i0.go h)⟩
instance r_retN [i0 : Run (rt .non H) R] : Run (tRetN (Ends.mk f rt bk ct) σ H) R := ⟨fun h => x_retN (D := Ends.mk f rt bk ct) (i0.go h)⟩
instance r_if [i0 : Run (c σ H (ifQ t u (Ends.mk f rt bk ct) σ)) R] : Run (tIfS c t u (Ends.mk f rt bk ct) σ H) R := ⟨fun h => x_if (i0.go h)⟩
instance r_ifT [i0 : Run (t D σ H) R] : Run (ifQ t u D σ true H) R := ⟨fun h => x_ifT (i0.go h)⟩
instance r_ifF [i0 : Run (u D σ H) R] : Run (ifQ t u D σ false H) R := ⟨fun h => x_ifF (i0.go h)⟩
instance r_cont [i0 : Run (ct σ H) R] : Run (tCont (Ends.mk f rt bk ct) σ H) R := ⟨fun h => x_cont (D := Ends.mk f rt bk ct) (i0.go h)⟩
instance r_break [i0 : Run (bk σ H) R] : Run (tBreak (Ends.mk f rt bk ct) σ H) R := ⟨fun h => x_break (D := Ends.mk f rt bk ct) (i0.go h)⟩
instance r_asgS {hS : TSet} [i0 : Run (ta σ H (gsQ1 tb hS σ v (f σ))) R] : Run (asgQ (gSub ta tb hS) (Ends.mk f rt bk ct) σ v H) R := ⟨fun h => x_asgS (D := Ends.mk f rt bk ct) (i0.go h)⟩
instance r_gsQ1 {hS : TSet} [i0 : Run (tb σ H (gsQ2 hS x v Nx)) R] : Run (gsQ1 tb hS σ v Nx x H) R := ⟨fun h => x_gsQ1 (i0.go h)⟩
instance r_gsQ2 {hS : TSet} [i0 : Run (hS x y v H Nx) R] : Run (gsQ2 hS x v Nx y H) R := ⟨fun h => x_gsQ2 (i0.go h)⟩
instance r_chain [i0 : Run (ta σ H (chQ1 r r' tb tc σ Q)) R] : Run (tChain r r' ta tb tc σ H Q) R := ⟨fun h => x_chain (i0.go h)⟩
instance r_chQ1 [i0 : Run (tb σ H (chQ2 r r' tc σ x Q)) R] : Run (chQ1 r r' tb tc σ Q x H) R := ⟨fun h => x_chQ1 (i0.go h)⟩
instance r_chQ2 [i0 : Run (r x y H (chQ3 r' y tc σ Q)) R] : Run (chQ2 r r' tc σ x Q y H) R := ⟨fun h => x_chQ2 (i0.go h)⟩
instance r_for {wi : TI} [i0 : Run (wi σ H (forQ g t (Ends.mk f rt bk ct) σ)) R] : Run (tFor wi g t (Ends.mk f rt bk ct) σ H) R := ⟨fun h => x_for (i0.go h)⟩
instance r_iL [i0 : Run (ta σ H (iLQ K S)) R] : Run (iList K ta σ H S) R := ⟨fun h => x_iL (i0.go h)⟩
instance r_iT [i0 : Run (ta σ H (iTQ K S)) R] : Run (iTup K ta σ H S) R := ⟨fun h => x_iT (i0.go h)⟩
instance r_iR [i0 : Run (tr σ H (iRQ S)) R] : Run (iRng1 tr σ H S) R := ⟨fun h => x_iR (i0.go h)⟩
instance r_iR2 [i0 : Run (tr σ H (iR2Q S)) R] : Run (iRng2 tr σ H S) R := ⟨fun h => x_iR2 (i0.go h)⟩
instance r_iZ [i0 : Run (tr σ H (iZQ K S)) R] : Run (iZip K tr σ H S) R := ⟨fun h => x_iZ (i0.go h)⟩
instance r_iZA [i0 : Run (tr σ H (iZAQ K S)) R] : Run (iZipA K tr σ H S) R := ⟨fun h => x_iZA (i0.go h)⟩
instance r_iE [i0 : Run (tr σ H (iEQ K S)) R] : Run (iEnum K tr σ H S) R := ⟨fun h => x_iE (i0.go h)⟩
instance r_lc {wi : TI} [i0 : Run (wi σ H (lcQ g tt te ns σ Q)) R] : Run (tLc wi g tt te ns σ H Q) R := ⟨fun h => x_lc (i0.go h)⟩
instance r_gN [s : SetS σ i (some v) σ'] [n : Run (G σ' H) R] : Run (gName i v σ H G) R := ⟨fun h => x_gN (by rw [s.h]; exact n.go h)⟩
instance r_tgQ [n : Run (t (Ends.mk G rt f G) σ H) R] : Run (tgQ t G (Ends.mk f rt bk ct) σ H) R := ⟨fun h => x_tgQ (D := Ends.mk f rt bk ct) (by exact n.go h)⟩
instance r_tYes [i0 : Run (QB true H) R] : Run (tYes σ H QB) R := ⟨fun h => x_tYes (i0.go h)⟩
instance r_ttT [i0 : Run (te σ H (eltQ Dl Nx)) R] : Run (ttQ te Dl Nx σ true H) R := ⟨fun h => x_ttT (i0.go h)⟩
instance r_bm {T : String} {h1 : V → List V → Hp → VK → Prop} [i0 : Run (ta σ H (bmQ K T h1 tr σ Q)) R] : Run (tBM K T h1 ta tr σ H Q) R := ⟨fun h => x_bm (i0.go h)⟩
instance r_bmQ2 {h1 : V → List V → Hp → VK → Prop} [i0 : Run (h1 x vs H Q) R] : Run (bmQ2 h1 x Q vs H) R := ⟨fun h => x_bmQ2 (i0.go h)⟩
instance r_bm0 {T : String} {h1 : V → List V → Hp → VK → Prop} [i0 : Run (ta σ H (bm0Q K T h1 Q)) R] : Run (tBM0 K T h1 ta σ H Q) R := ⟨fun h => x_bm0 (i0.go h)⟩
instance r_sl {h1 : V → Option Int → Option Int → Hp → VK → Prop} {tl th : TO} [i0 : Run (ta σ H (slQ1 h1 tl th σ Q)) R] : Run (tSl h1 ta tl th σ H Q) R := ⟨fun h => x_sl (i0.go h)⟩
instance r_slQ1 {h1 : V → Option Int → Option Int → Hp → VK → Prop} {tl th : TO} [i0 : Run (tl σ H (slQ2 h1 th σ Q x)) R] : Run (slQ1 h1 tl th σ Q x H) R := ⟨fun h => x_slQ1 (i0.go h)⟩
instance r_slQ2 {h1 : V → Option Int → Option Int → Hp → VK → Prop} {th : TO} {lo : Option Int} [i0 : Run (th σ H (slQ3 h1 Q x lo)) R] : Run (slQ2 h1 th σ Q x lo H) R := ⟨fun h => x_slQ2 (i0.go h)⟩
instance r_slQ3 {h1 : V → Option Int → Option Int → Hp → VK → Prop} {lo hi : Option Int} [i0 : Run (h1 x lo hi H Q) R] : Run (slQ3 h1 Q x lo hi H) R := ⟨fun h => x_slQ3 (i0.go h)⟩
instance r_noPart {RO : Option Int → Hp → Prop} [i0 : Run (RO none H) R] : Run (tNoPart σ H RO) R := ⟨fun h => x_noPart (i0.go h)⟩
instance r_part {RO : Option Int → Hp → Prop} [i0 : Run (ta σ H (ptQ RO)) R] : Run (tPart ta σ H RO) R := ⟨fun h => x_part (i0.go h)⟩
instance r_ptQ {RO : Option Int → Hp → Prop} [i0 : Run (RO (some a) H) R] : Run (ptQ RO (.int a) H) R := ⟨fun h => x_ptQ (i0.go h)⟩
instance r_intB [i0 : Run (Q (.int (if k then 1 else 0)) H) R] : Run (rIntOf [.bl k] H Q) R := ⟨fun h => x_intB (i0.go h)⟩
instance r_intI [i0 : Run (Q (.int a) H) R] : Run (rIntOf [.int a] H Q) R := ⟨fun h => x_intI (i0.go h)⟩
instance r_min [i0 : Run (Q (.int (if b < a then b else a)) H) R] : Run (rMin2 [.int a, .int b] H Q) R := ⟨fun h => x_min (i0.go h)⟩
instance r_max [i0 : Run (Q (.int (if b > a then b else a)) H) R] : Run (rMax2' [.int a, .int b] H Q) R := ⟨fun h => x_max (i0.go h)⟩
instance r_par [h0 : Run (tr σ H (parQ i j (Ends.mk f rt bk ct) σ)) R] : Run (tPar i j tr (Ends.mk f rt bk ct) σ H) R := ⟨fun h => x_par (h0.go h)⟩
instance r_parQ {σ2 : L2.St} [s : SetS σ i (some x) σ'] [s2 : SetS σ' j (some y) σ2] [n : Run (f σ2 H) R] : Run (parQ i j (Ends.mk f rt bk ct) σ [x, y] H) R := ⟨fun h => x_parQ (D := Ends.mk f rt bk ct) (by rw [s.h, s2.h]; exact n.go h)⟩
instance r_gCons [s : SetS σ i (some x) σ'] [n : Run (gs vs σ' H G) R] : Run (gCons (gName i) gs (x :: vs) σ H G) R := ⟨fun h => x_gCons (by rw [s.h]; exact n.go h)⟩
instance r_gNil [i0 : Run (G σ H) R] : Run (gNil [] σ H G) R := ⟨fun h => x_gNil (i0.go h)⟩
instance r_isNN [i0 : Run (Q (.bl true) H) R] : Run (rIsN .non .non H Q) R := ⟨fun h => x_isNN (i0.go h)⟩
instance r_isNI [i0 : Run (Q (.bl false) H) R] : Run (rIsN (.int a) .non H Q) R := ⟨fun h => x_isNI (i0.go h)⟩
instance r_isNB [i0 : Run (Q (.bl false) H) R] : Run (rIsN (.bl k) .non H Q) R := ⟨fun h => x_isNB (i0.go h)⟩
instance r_isNS [i0 : Run (Q (.bl false) H) R] : Run (rIsN (.str z) .non H Q) R := ⟨fun h => x_isNS (i0.go h)⟩
instance r_isNR [i0 : Run (Q (.bl false) H) R] : Run (rIsN (.ref p) .non H Q) R := ⟨fun h => x_isNR (i0.go h)⟩
instance r_notNN [i0 : Run (Q (.bl false) H) R] : Run (rNotN .non .non H Q) R := ⟨fun h => x_notNN (i0.go h)⟩
instance r_notNR [i0 : Run (Q (.bl true) H) R] : Run (rNotN (.ref p) .non H Q) R := ⟨fun h => x_notNR (i0.go h)⟩
end
section
variable {K : PySem.W.Frag} {σ : L2.St} {H : Hp} {Q : VK} {R : Prop} {ta : TE} {a : Int} {n : Nat} {S : It → Hp → Prop}
/-! ### bit_length; reversed(range(n)) -/
def bitsQ (Q : VK) : VK := fun x H => ∃ i, x = .int i ∧ Q (.int (Builtin.Int.intBits i : Nat)) H
theorem x_bits (k : ta σ H (bitsQ Q)) : tBits ta σ H Q := k
theorem x_bitsQ (k : Q (.int (Builtin.Int.intBits a : Nat)) H) : bitsQ Q (.int a) H := ⟨a, rfl, k⟩
instance r_bits [i0 : Run (ta σ H (bitsQ Q)) R] : Run (tBits ta σ H Q) R := ⟨fun h => x_bits (i0.go h)⟩
instance r_bitsQ [i0 : Run (Q (.int (Builtin.Int.intBits a : Nat)) H) R] : Run (bitsQ Q (.int a) H) R := ⟨fun h => x_bitsQ (i0.go h)⟩
def rgQ (F : Int → Int → Hp → Prop) : VK := fun x H1 => ∃ n, x = .int n ∧ F 0 n H1
def rrQ (S : It → Hp → Prop) : Int → Int → Hp → Prop := fun a b H1 => -(2 ^ 62) ≤ a ∧ a < 2 ^ 62 ∧ -(2 ^ 62) ≤ b ∧ b < 2 ^ 62 ∧ S (Itc (a + (((b - a).toNat : Nat) : Int) - 1) (-1) (b - a).toNat) H1
instance r_revR {tr : L2.St → Hp → (Int → Int → Hp → Prop) → Prop} [i0 : Run (tr σ H (rrQ S)) R] : Run (iRevR tr σ H S) R := ⟨fun h => i0.go h⟩
instance r_rg1 {F : Int → Int → Hp → Prop} [i0 : Run (ta σ H (rgQ F)) R] : Run (tRg1 ta σ H F) R := ⟨fun h => i0.go h⟩
instance r_rgQ {F : Int → Int → Hp → Prop} [i0 : Run (F 0 a H) R] : Run (rgQ F (.int a) H) R := ⟨fun h => ⟨a, rfl, i0.go h⟩⟩
theorem x_rrQ (h : n < 2 ^ 62) (k : S (Itc ((n : Int) - 1) (-1) n) H) : rrQ S 0 (n : Int) H := by
  refine ⟨by decide, by decide, by omega, by omega, ?_⟩
  rw [show ((n : Int) - 0).toNat = n by omega, show (0 : Int) + (n : Int) - 1 = (n : Int) - 1 by omega]
  exact k
end
theorem walk_rr {n : Nat} : Walk (Itc ((n : Int) - 1) (-1) n) n (fun _ => True) (fun i H x H' => H' = H ∧ x = .int ((n : Int) - 1 - (i : Int))) :=
  walk_rangeC.mono (fun _ h => h) fun i H x H' _ _ y => ⟨y.1, by rw [y.2]; show V.int ((n : Int) - 1 + (i : Int) * -1) = _; rw [Int.mul_neg, Int.mul_one, Int.add_neg_eq_sub]⟩
theorem min_if (a b : Int) : (if b < a then b else a) = min a b := by split <;> omega
theorem max_if (a b : Int) : (if b > a then b else a) = max a b := by split <;> omega
section
variable {H : Hp} {Q : VK} {R : Prop} {k : Bool}
/-! ### is, is not with True, False -/
theorem x_isT (q : Q (.bl k) H) : rIsB (.bl k) (.bl true) H Q := ⟨k, true, rfl, rfl, by cases k <;> exact q⟩
theorem x_isF (q : Q (.bl (!k)) H) : rIsB (.bl k) (.bl false) H Q := ⟨k, false, rfl, rfl, by cases k <;> exact q⟩
theorem x_notT (q : Q (.bl (!k)) H) : rNotB (.bl k) (.bl true) H Q := ⟨k, true, rfl, rfl, by cases k <;> exact q⟩
theorem x_notF (q : Q (.bl k) H) : rNotB (.bl k) (.bl false) H Q := ⟨k, false, rfl, rfl, by cases k <;> exact q⟩
instance r_isT [i0 : Run (Q (.bl k) H) R] : Run (rIsB (.bl k) (.bl true) H Q) R := ⟨fun h => x_isT (i0.go h)⟩
instance r_isF [i0 : Run (Q (.bl (!k)) H) R] : Run (rIsB (.bl k) (.bl false) H Q) R := ⟨fun h => x_isF (i0.go h)⟩
instance r_notT [i0 : Run (Q (.bl (!k)) H) R] : Run (rNotB (.bl k) (.bl true) H Q) R := ⟨fun h => x_notT (i0.go h)⟩
instance r_notF [i0 : Run (Q (.bl k) H) R] : Run (rNotB (.bl k) (.bl false) H Q) R := ⟨fun h => x_notF (i0.go h)⟩
instance r_isFF [i0 : Run (Q (.bl true) H) R] : Run (rIsB (.bl false) (.bl false) H Q) R := ⟨fun h => x_isF (i0.go h)⟩
instance r_notTT [i0 : Run (Q (.bl false) H) R] : Run (rNotB (.bl true) (.bl true) H Q) R := ⟨fun h => x_notT (i0.go h)⟩
end
theorem range_gd {α : Type} (ws : List Int) (g : Int → α) : (List.range ws.length).map (fun i => g (ws.getD i 0)) = ws.map g := by
  apply List.ext_getElem
  · rw [List.length_map, List.length_range, List.length_map]
  · intro i h1 h2
    rw [List.length_map] at h2
    rw [List.getElem_map, List.getElem_map, List.getElem_range, List.getD_eq_getElem?_getD, List.getElem?_eq_getElem h2]
    rfl
section
variable {σ : L2.St} {H : Hp} {QB : Bool → Hp → Prop} {d : TT} {p : Prop} [Decidable p]
theorem x_orN (h1 : p → d σ H QB) (h2 : ¬ p → QB true H) : orQ d σ QB (!decide p) H := by
  by_cases c : p
  · rw [decide_eq_true c]; exact x_orF (h1 c)
  · rw [decide_eq_false c]; exact x_orT (h2 c)
theorem x_andN (h1 : p → QB false H) (h2 : ¬ p → d σ H QB) : andQ d σ QB (!decide p) H := by
  by_cases c : p
  · rw [decide_eq_true c]; exact x_andF (h1 c)
  · rw [decide_eq_false c]; exact x_andT (h2 c)
end
end G

/-! ### the head by facts -/
namespace G
open PySem PySem.Spec PyProof.Rows L2
def frN (g : Addr → Option Obj) (n : Nat) : PySem.W.Frag := He.frG g (List.range n)
abbrev AlK : Type := (Bool × Bool) × List (List He.FnV)
def obsK (fa : List (List He.Fa)) (fn : List (List He.FnD)) (ex : List (PySem.W.Frag → Bool)) (K : PySem.W.Frag) : AlK :=
  (((fa.all fun l => l.all fun f => f.ok K) && (fn.all fun l => l.all fun d => (He.Fa.code d.at_ d.qual).ok K && PySem.W.keepIn K (.ref (He.fAd K d.at_))), ex.all fun b => b K), fn.map fun l => l.map fun d => He.fnObs K d.at_)
def valK (fn : List (List He.FnD)) : AlK := ((true, true), fn.map fun l => l.map He.FnD.val)
def SaysK (fa : List (List He.Fa)) (fn : List (List He.FnD)) (ex : List (PySem.W.Frag → Bool)) (K : PySem.W.Frag) : Prop := obsK fa fn ex K = valK fn
def hookK (fa : List (List He.Fa)) (fn : List (List He.FnD)) (ex : List (PySem.W.Frag → Bool)) : PySem.W.Hook where
  α := AlK
  obs := fun s => obsK fa fn ex (frN s.heap.get? s.heap.objs.size)
  val := fun _ => valK fn
  says := fun _ h => ∃ K : PySem.W.Frag, K.In h ∧ SaysK fa fn ex K
  of := fun _ _ e => ⟨_, He.frG_in, e⟩
  keeps := fun _ _ _ ⟨K, hK, c⟩ k => ⟨K, PySem.W.Frag.In.keeps hK k, c⟩
def obKT (fa : List (List He.Fa)) (fn : List (List He.FnD)) (ex : List (PySem.W.Frag → Bool)) (s : PySem.W.SharedT) : AlK := obsK fa fn ex (frN (HandSHeadRun.getT s) s.n)
theorem obKT_eq (fa : List (List He.Fa)) (fn : List (List He.FnD)) (ex : List (PySem.W.Frag → Bool)) (s : PySem.W.SharedT) : obKT fa fn ex s = (hookK fa fn ex).obs s.abs := by
  have e : HandSHeadRun.getT s = s.abs.heap.get? := funext (HandSHeadRun.getT_eq s)
  have e2 : s.abs.heap.objs.size = s.n := PySem.W.absHeap_size s.tree s.n _
  unfold obKT
  rw [e, ← e2]
  rfl
section
variable {fa : List (List He.Fa)} {fn : List (List He.FnD)} {ex : List (PySem.W.Frag → Bool)} {K : PySem.W.Frag}
theorem SaysK.fact (c : SaysK fa fn ex K) (i j : Nat) {l : List He.Fa} {f : He.Fa} (h : fa[i]? = some l := by rfl) (h2 : l[j]? = some f := by rfl) : f.ok K = true := by
  have c1 := (He.ba (congrArg (fun z : AlK => z.1.1) c)).1
  exact List.all_eq_true.mp (List.all_eq_true.mp c1 l (List.mem_of_getElem? h)) f (List.mem_of_getElem? h2)
theorem SaysK.xf (c : SaysK fa fn ex K) (i : Nat) {b : PySem.W.Frag → Bool} (h : ex[i]? = some b := by rfl) : b K = true :=
  List.all_eq_true.mp (congrArg (fun z : AlK => z.1.2) c) b (List.mem_of_getElem? h)
theorem SaysK.def_ (c : SaysK fa fn ex K) (i j : Nat) {l : List He.FnD} {d : He.FnD} (h : fn[i]? = some l := by rfl) (h2 : l[j]? = some d := by rfl) :
    PySem.W.keepIn K (.ref (He.fAd K d.at_)) = true ∧ ∃ oc od osl kV doc pm an cdv ct, K.lookup (He.fAd K d.at_) = some ⟨oc, od, .func (PySem.W.fnOf d.name d.qual d.params d.body d.scope .none kV doc pm an cdv ct), osl⟩ ∧ PySem.W.codeIn K cdv d.qual = true := by
  have c2 := (He.ba (congrArg (fun z : AlK => z.1.1) c)).2
  have c3 := He.ba (List.all_eq_true.mp (List.all_eq_true.mp c2 l (List.mem_of_getElem? h)) d (List.mem_of_getElem? h2))
  have e : fn.map (fun l => l.map fun d => He.fnObs K d.at_) = fn.map fun l => l.map He.FnD.val := congrArg (fun z : AlK => z.2) c
  have e2 : (fn.map (fun l => l.map fun d => He.fnObs K d.at_))[i]? = (fn.map fun l => l.map He.FnD.val)[i]? := by rw [e]
  rw [List.getElem?_map, List.getElem?_map, h] at e2
  have e3 : (l.map fun d => He.fnObs K d.at_) = l.map He.FnD.val := Option.some.inj e2
  have e4 : (l.map fun d => He.fnObs K d.at_)[j]? = (l.map He.FnD.val)[j]? := by rw [e3]
  rw [List.getElem?_map, List.getElem?_map, h2] at e4
  exact ⟨c3.2, He.fn_ok (Option.some.inj e4) c3.1⟩
/-- a def of the module's top -/
theorem SaysK.df {h : Heap} {mg : Str → Option Value} (X : K.In h) (GN : h.Ns mainGlobals mg) (c : SaysK fa fn ex K) {x : Str} {st : Stmt} (i j i2 j2 : Nat) {l : List He.FnD} {l2 : List He.Fa} (h1 : fn[i]? = some l := by rfl)
    (h2 : l[j]? = some ⟨(x, none), x, x, defArgs st, defBody st, defScope st⟩ := by rfl) (h3 : fa[i2]? = some l2 := by rfl) (h4 : l2[j2]? = some (.glo x) := by rfl) : Df K mg x st := by
  obtain ⟨k, oc, od, osl, kV, doc, pm, an, cdv, ct, l, e⟩ := c.def_ i j h1 h2
  exact ⟨He.ga K x, _, fun_mk (st := st) l e k, He.glo_ok X GN (c.fact i2 j2 h3 h4)⟩
/-- a method -/
structure Mf (K : PySem.W.Frag) (C m qual : Str) (st : Stmt) : Prop where
  ex : ∃ fd, Fun K m qual st (He.ma K (He.ga K C) m) fd
theorem SaysK.mf (c : SaysK fa fn ex K) {C m qual : Str} {st : Stmt} (i j : Nat) {l : List He.FnD} (h1 : fn[i]? = some l := by rfl)
    (h2 : l[j]? = some ⟨(C, some m), m, qual, defArgs st, defBody st, defScope st⟩ := by rfl) : Mf K C m qual st := by
  obtain ⟨k, oc, od, osl, kV, doc, pm, an, cdv, ct, l, e⟩ := c.def_ i j h1 h2
  exact ⟨_, fun_mk (st := st) l e k⟩
end
theorem walk_ofEB {l : PySem.W.OpenLaw} {n k : Nat} {q : Program} {loose : List Str} {XP : (Str → Option Value) → Heap → Prop} {YP : World → Heap → Prop} {d : DefRec} {CX : CXT} {x : Str}
    (hn : l.most = some n) (hn2 : n ≤ sizeLine) (hdf : d.params.defaults = []) (hr : Room k callerA)
    (F : ∀ (w : World) (mg : Str → Option Value) (fa : Addr) (h : Heap), YP w h → h.Ns mainGlobals mg → mg d.name = some (.ref fa) →
      ∃ (K : PySem.W.Frag) (fd : FuncData) (sp : Sp), K.In h ∧ (∀ (s : Shared) (u : Value), BindsTo s fd ⟨[u], []⟩ [(x, u)]) ∧
        (∀ (H : Hp) (a : Addr) (ns : List Int), ns.length ≤ n → (∀ z ∈ ns, Builtin.Int.intBits z ≤ 1048576) → Only H → SqL K H a (ns.map V.int) → sp [.ref a] H (fun v _ => v = .bl true) fun _ _ _ => False) ∧
        ∀ base : Heap, K.In base → base.Ns mainGlobals mg → FnOk l.prog w K mg base CX k fa fd [x] sp)
    (hCX : ∀ (H : Hp) (s : Shared) (e : Value) (s' : Shared), CX [] H s (fun _ _ _ => False) e s' → False) :
    PySem.W.WalkO q loose XP YP l.row.toRowW d [] (fun f vs => PySem.call f vs) := by
  refine Att.attach_callB hn hdf fun w s₀ s₁ mg mb fa o pm cd doc a vs ns G Y ho hd hcd hmg hobj hints hlen hbits hg => ?_
  obtain ⟨K, fd, sp, KX, hb, hsp, hF⟩ := F w mg fa _ Y G.T.g hmg
  exact law_call KX G.T.g G.T.b G.T.builtins G.T.nolimit hg hobj hints (Nat.le_trans hlen hn2) hr hF hb (fun H hO hS => hsp H a ns hlen hbits hO hS) fun H e s' => hCX H s₁ e s'
/-! ### a def that may raise -/
theorem Df.dnX {P : Program} {w : World} {K : PySem.W.Frag} {mg : Str → Option Value} {base : Heap} {x : Str} {st : Stmt} {N ps : List Str} {k : Nat} {sp : Sp} (F : Df K mg x st) (S : FnScope N ps (defScope st))
    (hb : ∀ (kV doc pm : Value) (an : Option Addr) (cdv ct : Value) (us : List Value), us.length = ps.length → bindArgs (PySem.W.fnOf x x (defArgs st) (defBody st) (defScope st) .none kV doc pm an cdv ct) ⟨us, []⟩ = pure (ps.zip us))
    (len : ∀ vs H Q E, sp vs H Q E → vs.length = ps.length)
    (hbody : ∀ (f : Addr) (cdv : Value) (A : Around) (outer : List Env) (s : Shared) (H : Hp) (vs : List V) (Q : VK) (E : XK), Room k (A.deeper (envOfC x (defScope st) s.heap.objs.size f cdv)) → (cxOf (L2.CX P w) P w K mg base N x (defScope st) f cdv A outer s H E).K = K → sp vs H Q E →
      ∃ t, PSs (cxOf (L2.CX P w) P w K mg base N x (defScope st) f cdv A outer s H E) (defBody st) t ∧ t { nx := fun _ H' => Q .non H', rt := Q } (start N vs) H) : Dn P w K mg base (L2.CX P w) (k + 1) x ps sp := by
  obtain ⟨f, fd, F, hm⟩ := F.ex
  exact ⟨f, fd, F.okX S len (fun cdv A outer s H vs Q E hr h => hbody f cdv A outer s H vs Q E hr rfl h), hm, F.kp, F.binds hb⟩
section
variable {X : Cx} {CX : CXT} {k : Nat} {ps : List Str} {sp : Sp} {E : L2.St → XK} {x : Str} {p pos : Pos} {e : Expr} {es : List Expr} {t : TA}
/-- a call in a try -/
theorem pe_dnS (D : Dn X.prog X.w X.K X.mg X.base CX k x ps sp) (hr : Room k X.A) (hx : ∀ σ, PassesAt CX X σ (E σ)) (ha : PA X (e :: es) t) (hg : Gl X x := by rfl)
    (hdb : (x == ("__debug__" : Str)) = false := by decide) (he : starEach (e :: es) X.env = (false, eval e X.env) :: starEach es X.env := by rfl) (hpl : (backTo pos (starEach es X.env)).any (·.1) = false := by rfl) :
    PE X (.Call (.Name x p) (e :: es) [] pos) (tCallS sp E t) := by
  obtain ⟨f, fd, F, hm, hk, hb⟩ := D.ex
  exact pe_callS F hr hg hm hk hb hx ha hdb he hpl
end
/-- an own exception class made with a text -/
structure Xc (K : PySem.W.Frag) (mg : Str → Option Value) (x : Str) : Prop where
  g : mg x = some (.ref (He.ga K x))
  xi : PySem.W.excIn K (He.ga K x) He.veBase "ValueError.__new__" = true
  k : PySem.W.keepIn K (.ref (He.ga K x)) = true
  b : PySem.W.subIn K (.ref (He.ga K x)) (.type "BaseException") = some true
  t : PySem.W.typeIn K (.ref (He.ga K x)) = some (.type "type")
theorem Xc.of {fa : List (List He.Fa)} {fn : List (List He.FnD)} {ex : List (PySem.W.Frag → Bool)} {K : PySem.W.Frag} {h : Heap} {mg : Str → Option Value} {x : Str} (X : K.In h) (GN : h.Ns mainGlobals mg) (c : SaysK fa fn ex K) (i j i2 j2 : Nat) {l l2 : List He.Fa} (h1 : fa[i]? = some l := by rfl) (h2 : l[j]? = some (.glo x) := by rfl) (h3 : fa[i2]? = some l2 := by rfl) (h4 : l2[j2]? = some (.exc x) := by rfl) : Xc K mg x := by
  obtain ⟨a, b, d, e⟩ := He.exc_ok (c.fact i2 j2 h3 h4)
  exact ⟨He.glo_ok X GN (c.fact i j h1 h2), a, b, d, e⟩
theorem passX {P : Program} {w : World} {K : PySem.W.Frag} {mg : Str → Option Value} {base : Heap} {N : List Str} {qual : Str} {scope : Scope} {f : Addr} {cdv : Value} {A : Around} {outer : List Env} {s : Shared} {H : Hp} {E : XK} :
    Passes (L2.CX P w) (cxOf (L2.CX P w) P w K mg base N qual scope f cdv A outer s H E) E := passes_call (takes_of rfl rfl rfl rfl) fun _ _ _ _ h => h
/-! ### try -/
def wOnlyQ (K : PySem.W.Frag) (c : Value) (ts : Addr → Value → Option Addr → TS) (Wout : WX) (D : Ends) : WX := wOnly K c ts Wout D
def callSQ (sp : Sp) (E : L2.St → XK) (σ : L2.St) (Q : VK) : List V → Hp → Prop := fun vs H1 => sp vs H1 Q (E σ)
theorem x_callS {sp : Sp} {E : L2.St → XK} {t : TA} {σ : L2.St} {H : Hp} {Q : VK} (k : t σ H (callSQ sp E σ Q)) : tCallS sp E t σ H Q := k
instance r_callS {sp : Sp} {E : L2.St → XK} {t : TA} {σ : L2.St} {H : Hp} {Q : VK} {R : Prop} [i : Run (t σ H (callSQ sp E σ Q)) R] : Run (tCallS sp E t σ H Q) R := ⟨fun h => x_callS (i.go h)⟩
instance r_callSQ {sp : Sp} {E : L2.St → XK} {vs : List V} {σ : L2.St} {H : Hp} {Q : VK} {R : Prop} [i : Run (sp vs H Q (E σ)) R] : Run (callSQ sp E σ Q vs H) R := ⟨fun h => i.go h⟩
/-! ### x += e -/
section
variable {i : Nat} {te : TE} {ti : TIp} {f : L2.St → Hp → Prop} {rt : VK} {bk ct : L2.St → Hp → Prop} {σ σ' : L2.St} {H : Hp} {R : Prop} {v y z : V} {a b : Int} {fI : Int → Int → Int} {Q : VK}
def augQ1 (i : Nat) (ti : TIp) (v : V) (f : L2.St → Hp → Prop) (σ : L2.St) : VK := fun y H1 => ti v y H1 fun z H2 => f (σ.set i (some z)) H2
def augQ2 (i : Nat) (f : L2.St → Hp → Prop) (σ : L2.St) : VK := fun z H2 => f (σ.set i (some z)) H2
theorem x_aug (h : σ[i]? = some (some v)) (k : te σ H (augQ1 i ti v f σ)) : tAug i te ti (Ends.mk f rt bk ct) σ H := ⟨v, h, k⟩
instance r_aug [s : Slot σ i v] [n : Run (te σ H (augQ1 i ti v f σ)) R] : Run (tAug i te ti (Ends.mk f rt bk ct) σ H) R := ⟨fun h => x_aug s.h (n.go h)⟩
instance r_augQ1 [n : Run (ti v y H (augQ2 i f σ)) R] : Run (augQ1 i ti v f σ y H) R := ⟨fun h => n.go h⟩
instance r_ipI [n : Run (Q (.int (fI a b)) H) R] : Run (ipI fI (.int a) (.int b) H Q) R := ⟨fun h => ⟨a, b, rfl, rfl, n.go h⟩⟩
instance r_augQ2 [s : SetS σ i (some z) σ'] [n : Run (f σ' H) R] : Run (augQ2 i f σ z H) R := ⟨fun h => by
  show f (σ.set i (some z)) H
  rw [s.h]
  exact n.go h⟩
end
/-! ### isinstance of a caught error -/
def excCB (x : Str) (K : PySem.W.Frag) : Bool :=
  He.eqO (PySem.W.findIn K (.ref (He.ga K x)) "__getattribute__") (some (some (.builtin "BaseException.__getattribute__"))) && (He.eqO (PySem.W.findIn K (.ref (He.ga K x)) "__getattr__") (some none) && (decide (PySem.W.subIn K (.ref (He.ga K x)) (.type "BaseException") = some true) && (PySem.W.hasDictIn K (He.ga K x) &&
    (He.eqO (PySem.W.findIn K (.ref (He.ga K x)) "__class__") (some (some (.builtin "object.__class__"))) && (He.eqO (PySem.W.specialIn K (.builtin "object.__class__") "__get__") (some (some (.builtin "getset_descriptor.__get__"))) && (decide (PySem.W.takesIn K (.builtin "object.__class__") = some true) && decide (PySem.W.mroIn K (He.ga K x) (.type "object") = some true)))))))
theorem excCB_ok {x : Str} {K : PySem.W.Frag} (h : excCB x K = true) : ExcC K (He.ga K x) := by
  obtain ⟨a, h⟩ := He.ba h
  obtain ⟨b, h⟩ := He.ba h
  obtain ⟨c, h⟩ := He.ba h
  obtain ⟨d, h⟩ := He.ba h
  obtain ⟨e, h⟩ := He.ba h
  obtain ⟨f, h⟩ := He.ba h
  obtain ⟨g, h⟩ := He.ba h
  exact ⟨He.eqO_ok a, He.eqO_ok b, of_decide_eq_true c, d, He.eqO_ok e, He.eqO_ok f, of_decide_eq_true g, of_decide_eq_true h⟩
def rIsX (K : PySem.W.Frag) (cls : Value) (d : Option Addr) (a : Addr) : List V → Hp → VK → Prop := fun xs H Q => ∃ (D : Addr) (c : V) (cv : Value) (b : Bool), cls = .ref D ∧ d = none ∧ ExcC K D ∧ xs = [.ref a, c] ∧ (∀ u, RelV c u → u = cv) ∧ PySem.W.kitOne K (.ref D) cv = some b ∧ Q (.bl b) H
theorem call_isX {X : Cx} {a : Addr} {cls : Value} {d : Option Addr} {oe : Obj} {pn : List (Addr × Obj)} (hz : Zc cls d oe) (hf : ∃ vs, oe.data = .fields vs) : CallR (X.suite a ((a, oe) :: pn)) (.builtin "isinstance") (rIsX X.K cls d a) := by
  intro pins s σ H xs us Q I r h
  obtain ⟨D, c, cv, b, rfl, rfl, C, e, hcv, k, q⟩ := h
  exact call_isE C hz hf pins s σ H xs us Q I r ⟨c, cv, b, e, hcv, k, q⟩
theorem x_isXr {K : PySem.W.Frag} {D a C : Addr} {b : Bool} {H : Hp} {Q : VK} (C0 : ExcC K D) (k : PySem.W.kitOne K (.ref D) (.ref C) = some b) (q : Q (.bl b) H) : rIsX K (.ref D) none a [.ref a, .ref C] H Q :=
  ⟨D, .ref C, .ref C, b, rfl, rfl, C0, rfl, fun u h => h, k, q⟩
theorem x_isXt {K : PySem.W.Frag} {D a : Addr} {T : String} {b : Bool} {H : Hp} {Q : VK} (C0 : ExcC K D) (k : PySem.W.kitOne K (.ref D) (.type T) = some b) (q : Q (.bl b) H) : rIsX K (.ref D) none a [.ref a, .ty T] H Q :=
  ⟨D, .ty T, .type T, b, rfl, rfl, C0, rfl, fun u h => h, k, q⟩
instance slot_set {σ σ' : L2.St} {i n : Nat} {o : Option V} {v : V} [a : SetS σ i o σ'] [b : Slot σ' n v] : Slot (σ.set i o) n v := ⟨by rw [a.h]; exact b.h⟩
instance sets_set {σ σ1 σ2 : L2.St} {i n : Nat} {o o' : Option V} [a : SetS σ i o σ1] [b : SetS σ1 n o' σ2] : SetS (σ.set i o) n o' σ2 := ⟨by rw [a.h]; exact b.h⟩
end G

set_option Elab.async false
set_option linter.all false
set_option maxRecDepth 100000
set_option maxHeartbeats 0
set_option synthInstance.maxHeartbeats 0
set_option synthInstance.maxSize 100000
namespace Law
open PySem PySem.Spec PyProof.Rows L2 Evl RZ G
def top (i : Nat) : Stmt := PySem.Challenge.pw_cartelship_k04_parts_put_up.main.body.getD i (.Pass ⟨0, 0, 0, 0⟩)
structure Txt (K : PySem.W.Frag) (mg : Str → Option Value) : Prop where
  m_ValueError : mg "ValueError" = none
  m_all : mg "all" = none
  m_bool : mg "bool" = none
  m_int : mg "int" = none
  m_isinstance : mg "isinstance" = none
  m_len : mg "len" = none
  m_list : mg "list" = none
  m_max : mg "max" = none
  m_min : mg "min" = none
  m_range : mg "range" = none
  m_reversed : mg "reversed" = none
  m_str : mg "str" = none
  m_sum : mg "sum" = none
  m_tuple : mg "tuple" = none
  m_zip : mg "zip" = none
  x_BadRank : Xc K mg "BadRank"
  x_CartelError : Xc K mg "CartelError"
  x_NoDeed : Xc K mg "NoDeed"
  x_NoPart : Xc K mg "NoPart"
  em_NoPart_CartelError : PySem.W.exmOne K (.ref (He.ga K "NoPart")) (.ref (He.ga K "CartelError")) = some true
  ec_NoPart : ExcC K (He.ga K "NoPart")
  ki_NoPart_NoPart : PySem.W.kitOne K (.ref (He.ga K "NoPart")) (.ref (He.ga K "NoPart")) = some true
  ki_NoPart_ValueError : PySem.W.kitOne K (.ref (He.ga K "NoPart")) (.type "ValueError") = some true
  ki_NoPart_BadRank : PySem.W.kitOne K (.ref (He.ga K "NoPart")) (.ref (He.ga K "BadRank")) = some false
  ki_NoPart_NoDeed : PySem.W.kitOne K (.ref (He.ga K "NoPart")) (.ref (He.ga K "NoDeed")) = some false


/-! ### what stands in the heap -/
local macro_rules | `(tactic| walk_at "hp0") => `(tactic| (first
  | with_reducible assumption
  | with_reducible exact upd_same))
local macro_rules | `(tactic| walk_at "ne") => `(tactic| (first
  | with_reducible assumption
  | with_reducible exact Ne.symm (by with_reducible assumption)
  | ((with_reducible refine ne_fresh (o := ?o) (by with_reducible assumption) ?_); walk_at "hp0")
  | ((with_reducible refine Ne.symm (ne_fresh (o := ?o) (by with_reducible assumption) ?_)); walk_at "hp0")
  | walk_at "neb"))
local macro_rules | `(tactic| walk_at "hp") => `(tactic| (first
  | with_reducible assumption
  | with_reducible exact upd_same
  | ((with_reducible refine Eq.trans (upd_ne ?hne) ?_); (case hne => walk_at "ne"); walk_at "hp")
  | ((with_reducible refine KB.get (by with_reducible assumption) ?hne ?_); (case hne => walk_at "ne"); walk_at "hp")
  | ((with_reducible refine ex_get (by with_reducible assumption) ?_); walk_at "hp")))
local macro_rules | `(tactic| walk_at "sq") => `(tactic| (first
  | with_reducible assumption
  | ((with_reducible refine SqL.of ?_); walk_at "hp")
  | ((with_reducible refine SqT.of ?_); walk_at "hp")
  | ((with_reducible refine ex_l (Ex.new (by with_reducible assumption)) ?_); walk_at "sq")
  | ((with_reducible refine ex_t (Ex.new (by with_reducible assumption)) ?_); walk_at "sq")
  | ((with_reducible refine sqL_upd ?hne ?_); (case hne => walk_at "ne"); walk_at "sq")
  | ((with_reducible refine sqT_upd ?hne ?_); (case hne => walk_at "ne"); walk_at "sq")
  | ((with_reducible refine KB.sqL (by with_reducible assumption) ?_ ?hne); (case hne => walk_at "ne"); walk_at "sq")
  | ((with_reducible refine KB.sqT (by with_reducible assumption) ?_ ?hne); (case hne => walk_at "ne"); walk_at "sq")
  | ((with_reducible refine ex_l (by with_reducible assumption) ?_); walk_at "sq")
  | ((with_reducible refine ex_t (by with_reducible assumption) ?_); walk_at "sq")))
/-! ### grown heaps -/
local macro_rules | `(tactic| walk_at "ex") => `(tactic| (first
  | with_reducible assumption
  | with_reducible exact Ex.refl _
  | ((with_reducible refine Ex.trans ?_ (Ex.new (by with_reducible assumption))); walk_at "ex")
  | ((with_reducible refine Ex.mut ?_ (by with_reducible assumption)); walk_at "ex")
  | ((with_reducible refine Ex.trans ?_ (by with_reducible assumption)); walk_at "ex")))
local macro_rules | `(tactic| walk_at "kb") => `(tactic| (first
  | with_reducible assumption
  | with_reducible exact KB.refl
  | ((with_reducible refine KB.trans ?_ KB.upd); walk_at "kb")
  | ((with_reducible refine KB.trans ?_ (KB.new (by with_reducible assumption))); walk_at "kb")
  | ((with_reducible refine KB.mut ?_ (by with_reducible assumption)); walk_at "kb")
  | ((with_reducible refine KB.trans ?_ (by with_reducible assumption)); walk_at "kb")
  | ((with_reducible refine KB.trans ?_ (KB.of_ex (by with_reducible assumption))); walk_at "kb")))
/-! ### the steps, one after another -/
local macro_rules | `(tactic| walk_at "s1") => `(tactic| (first
  | ((with_reducible refine x_mod ?hc ?_); (case hc => omega))
  | ((with_reducible refine x_pow ?hc ?_); (case hc => (show _ ∧ _ ∧ _; decide)))
  | ((with_reducible refine x_div ?hc ?hd ?_); (case hc => omega); (case hd => omega))
  | ((with_reducible refine x_mul ?h1 ?h2 ?h3 ?h4 ?_); (case h1 => omega); (case h2 => omega); (case h3 => omega); (case h4 => omega))
  | ((with_reducible refine x_lstQ ?hz ?_); (case hz => exact Nat.le_of_ble_eq_true rfl))
  | ((with_reducible refine x_tupQ ?hz ?_); (case hz => exact Nat.le_of_ble_eq_true rfl))
  | ((with_reducible refine x_ixLn (xs := ?xs) (v := ?v) ?hs ?h0 ?ha ?_); (case h0 => decide); (case hs => walk_at "sq"); (case ha => exact rfl))
  | ((with_reducible refine x_ixTn (xs := ?xs) (v := ?v) ?hs ?h0 ?ha ?_); (case h0 => decide); (case hs => walk_at "sq"); (case ha => exact rfl))
  | ((with_reducible refine x_lenL (xs := ?xs) ?hs ?_); (case hs => walk_at "sq"))
  | ((with_reducible refine x_lenT (xs := ?xs) ?hs ?_); (case hs => walk_at "sq"))
  | ((with_reducible refine x_setLn (xs := ?xs) ?hs ?h0 ?ha ?_); (case h0 => decide); (case hs => walk_at "hp"); (case ha => exact rfl))
  | ((with_reducible refine x_listL (xs := ?xs) ?hs ?_); (case hs => walk_at "sq"))
  | ((with_reducible refine x_bmL (xs := ?xs) ?hs ?_); (case hs => walk_at "sq"))
  | ((with_reducible refine x_bm0L (xs := ?xs) ?hs ?_); (case hs => walk_at "sq"))
  | ((with_reducible refine x_gTup (xs := ?xs) ?hs ?hn ?_); (case hs => walk_at "sq"); (case hn => exact rfl))
  | ((with_reducible refine x_asgT (xs := ?xs) ?hs ?hn ?_); (case hs => walk_at "sq"); (case hn => exact rfl))
  | ((with_reducible refine x_lcTg ?hw ?_); (case hw => exact rfl))))
local macro_rules | `(tactic| walk_at "sx") => `(tactic| ((refine run ?_); (repeat (walk_at "s1"; (refine run ?_)))))

/-! ### the box of the script's draws -/
abbrev s__law_mixed : Stmt := top 13
abbrev N__law_mixed : List Str := ["_law_number", "_law_turn", "_law_one"]
theorem sc__law_mixed : FnScope N__law_mixed ["_law_number", "_law_turn"] (defScope s__law_mixed) := ⟨rfl, rfl, rfl, by decide +kernel, rfl, by decide +kernel, by decide +kernel⟩
abbrev s__law_take : Stmt := top 14
abbrev N__law_take : List Str := ["_law_box_here", "_law_size", "_law_left", "_law_cell"]
theorem sc__law_take : FnScope N__law_take ["_law_box_here", "_law_size"] (defScope s__law_take) := ⟨rfl, rfl, rfl, by decide +kernel, rfl, by decide +kernel, by decide +kernel⟩
abbrev s__law_box : Stmt := top 12
abbrev N__law_box : List Str := ["_law_script", "_law_seed", "_law_cell"]
theorem sc__law_box : FnScope N__law_box ["_law_script"] (defScope s__law_box) := ⟨rfl, rfl, rfl, by decide +kernel, rfl, by decide +kernel, by decide +kernel⟩

def spMixed : Sp := fun vs H Q _ => ∃ n t : Int, vs = [.int n, .int t] ∧ Builtin.Int.intBits n ≤ 1048576 ∧ 0 ≤ t ∧ t ≤ 2 ^ 61 ∧ ∀ r : Int, Q (.int r) H
/-- the box at b: the script's copy at l, the next place, what is left of a cell, how often it was asked (at most n times), the seed -/
structure BoxAt (H : Hp) (b l : Addr) (n : Nat) : Prop where
  ex : ∃ (i k t s : Int) (ns : List Int), H b = some (.lst [.ref l, .int i, .int k, .int t, .int s]) ∧ H l = some (.lst (ns.map V.int)) ∧ l ≠ b ∧ (∀ z ∈ ns, Builtin.Int.intBits z ≤ 1048576) ∧ 0 ≤ i ∧ 0 ≤ t ∧ t ≤ (n : Int) ∧ 0 ≤ s ∧ s < 2147483647
theorem BoxAt.some {H : Hp} {b l : Addr} {n : Nat} (h : BoxAt H b l n) : ∃ o, H b = some o := by
  obtain ⟨_, _, _, _, _, e, _⟩ := h.ex
  exact ⟨_, e⟩
theorem BoxAt.mono {H : Hp} {b l : Addr} {n m : Nat} (h : BoxAt H b l n) (hm : n ≤ m) : BoxAt H b l m := by
  obtain ⟨i, k, t, s, ns, e1, e2, e3, e4, e5, e6, e7, e8⟩ := h.ex
  exact ⟨i, k, t, s, ns, e1, e2, e3, e4, e5, e6, by omega, e8⟩
theorem BoxAt.ex' {H H' : Hp} {b l : Addr} {n : Nat} (h : BoxAt H b l n) (e : Ex H H') : BoxAt H' b l n := by
  obtain ⟨i, k, t, s, ns, e1, e2, e3⟩ := h.ex
  exact ⟨i, k, t, s, ns, e _ _ e1, e _ _ e2, e3⟩
theorem BoxAt.exr {H H' : Hp} {b l : Addr} {n : Nat} (e : Ex H H') (h : BoxAt H b l n) : BoxAt H' b l n := h.ex' e
theorem BoxAt.upd {H : Hp} {b l p : Addr} {n : Nat} {o : HO} (h : BoxAt H b l n) (h1 : p ≠ b) (h2 : p ≠ l) : BoxAt (L2.upd H p o) b l n := by
  obtain ⟨i, k, t, s, ns, e1, e2, e3⟩ := h.ex
  exact ⟨i, k, t, s, ns, by rw [upd_ne h1.symm]; exact e1, by rw [upd_ne h2.symm]; exact e2, e3⟩
theorem BoxAt.ne1 {H : Hp} {b l p : Addr} {n : Nat} (hp : H p = none) (h : BoxAt H b l n) : p ≠ b := by
  obtain ⟨_, _, _, _, _, e, _⟩ := h.ex
  exact ne_fresh hp e
theorem BoxAt.ne2 {H : Hp} {b l p : Addr} {n : Nat} (hp : H p = none) (h : BoxAt H b l n) : p ≠ l := by
  obtain ⟨_, _, _, _, _, _, e, _⟩ := h.ex
  exact ne_fresh hp e
def spTake : Sp := fun vs H Q _ => ∃ (b l : Addr) (z : Int) (n : Nat), vs = [.ref b, .int z] ∧ 0 < z ∧ z < 2 ^ 64 ∧ BoxAt H b l n ∧ n ≤ 2 ^ 60 ∧
  ∀ (r : Int) (H' : Hp), 0 ≤ r → r < z → KB b H H' → BoxAt H' b l (n + 1) → Q (.int r) H'
def spBox (K : PySem.W.Frag) : Sp := fun vs H Q _ => ∃ (a : Addr) (ns : List Int), vs = [.ref a] ∧ SqL K H a (ns.map V.int) ∧ (∀ z ∈ ns, Builtin.Int.intBits z ≤ 1048576) ∧
  ∀ (b l : Addr) (H' : Hp), H b = none → H l = none → Ex H H' → BoxAt H' b l 0 → Q (.ref b) H'
section
variable {P : Program} {w : World} {K : PySem.W.Frag} {mg : Str → Option Value} {base : Heap}
theorem D_mixed (F : Df K mg "_law_mixed" s__law_mixed) : Dn P w K mg base CX0 1 "_law_mixed" ["_law_number", "_law_turn"] spMixed := by
  refine F.dn sc__law_mixed (fun _ _ _ _ _ _ us hl => match us, hl with | [_, _], _ => rfl) (fun vs H Q E h => ?_) (fun f cdv A outer s H vs Q E hr hK h => ?_)
  · obtain ⟨n, t, rfl, _⟩ := h
    rfl
  · obtain ⟨n, t, rfl, hn, ht, ht2, k⟩ := h
    refine ⟨_, (pss_cons (ps_set (i := 2) sc__law_mixed.nd rfl (Or.inl rfl) (pe_op op_mod (pe_op op_add (pe_op op_add (pe_op op_mulB (pv 0) pe_int) (pe_op op_mulB (pv 1) pe_int)) pe_int) pe_int))
      (pss_one (ps_ret (pe_op op_fdivW (pe_op op_mod (pe_op op_add (pe_op op_add (pe_op op_mulB (pv 2) (pe_op op_add (pe_op op_mod (pv 2) pe_int) pe_int)) (pe_op op_mulB (pv 1) pe_int)) (pe_op op_mod (pe_op op_fdivW (pv 0) pe_int) pe_int)) pe_int) pe_int)))), ?_⟩
    try rw [hK]
    rw [show L2.start N__law_mixed [.int n, .int t] = [some (.int n), some (.int t), none] from rfl]
    walk_at "sx"
    refine x_mulB (by unfold CMulX; have e : Builtin.Int.intBits 7919 = 13 := by decide
                      omega) ?_
    walk_at "sx"
    have h1 : 0 ≤ (n * 7919 + t * 104729 + 17) % 2147483647 := by omega
    have h2 : (n * 7919 + t * 104729 + 17) % 2147483647 < 2147483647 := by omega
    generalize (n * 7919 + t * 104729 + 17) % 2147483647 = m at h1 h2 ⊢
    walk_at "sx"
    exact k _
theorem D_take (T : Txt K mg) (D__law_mixed : Dn P w K mg base CX0 1 "_law_mixed" ["_law_number", "_law_turn"] spMixed) (F : Df K mg "_law_take" s__law_take) : Dn P w K mg base CX0 2 "_law_take" ["_law_box_here", "_law_size"] spTake := by
  refine F.dn sc__law_take (fun _ _ _ _ _ _ us hl => match us, hl with | [_, _], _ => rfl) (fun vs H Q E h => ?_) (fun f cdv A outer s H vs Q E hr hK h => ?_)
  · obtain ⟨b, l, z, n, rfl, _⟩ := h
    rfl
  · obtain ⟨b, l, z, n, rfl, hz, hz2, B, hn, q⟩ := h
    obtain ⟨i, k, t, s, ns, hb, hl, hlb, hbits, hi, ht, htn, hs0, hs1⟩ := B.ex
    refine ⟨_, (pss_cons (ps_asg (pe_op op_add (pe_ix ix_list (pv 0) pe_int (fun _ _ => rfl)) pe_int) (pg_sub (pv 0) pe_int set_list))
      (pss_cons (ps_if (pt_cmpR op_gt (pe_ix ix_list (pv 0) pe_int (fun _ _ => rfl)) pe_int (nomark _)) (pss_cons (ps_set (i := 2) sc__law_take.nd rfl (Or.inl rfl) (pe_ix ix_list (pv 0) pe_int (fun _ _ => rfl)))
      (pss_cons (ps_asg (pe_op op_fdivW (pv 2) (pv 1)) (pg_sub (pv 0) pe_int set_list))
      (pss_one (ps_ret (pe_op op_mod (pv 2) (pv 1)))))) pss_nil)
      (pss_cons (ps_if (pt_cmpR op_ge (pe_ix ix_list (pv 0) pe_int (fun _ _ => rfl)) (pe_callB g_len rfl T.m_len boot_len (pa_cons (pe_ix ix_list (pv 0) pe_int (fun _ _ => rfl)) pa_nil)) (nomark _)) (pss_one (ps_ret (pe_op op_mod (pe_dn D__law_mixed (hr.mono (by first | decide | omega)) pass0 (pa_cons (pe_ix ix_list (pv 0) pe_int (fun _ _ => rfl)) (pa_cons (pe_ix ix_list (pv 0) pe_int (fun _ _ => rfl)) pa_nil))) (pv 1)))) pss_nil)
      (pss_cons (ps_set (i := 3) sc__law_take.nd rfl (Or.inl rfl) (pe_ix ix_list (pe_ix ix_list (pv 0) pe_int (fun _ _ => rfl)) (pe_ix ix_list (pv 0) pe_int (fun _ _ => rfl)) (fun _ _ => rfl)))
      (pss_cons (ps_asg (pe_op op_add (pe_ix ix_list (pv 0) pe_int (fun _ _ => rfl)) pe_int) (pg_sub (pv 0) pe_int set_list))
      (pss_cons (ps_if (pt_cmpR op_lt (pv 3) (pe_op op_pow pe_int pe_int) (nomark _)) (pss_one (ps_ret (pe_op op_mod (pe_dn D__law_mixed (hr.mono (by first | decide | omega)) pass0 (pa_cons (pv 3) (pa_cons (pe_ix ix_list (pv 0) pe_int (fun _ _ => rfl)) pa_nil))) (pv 1)))) pss_nil)
      (pss_cons (ps_asg (pe_op op_fdivW (pv 3) (pv 1)) (pg_sub (pv 0) pe_int set_list))
      (pss_one (ps_ret (pe_op op_mod (pv 3) (pv 1))))))))))), ?_⟩
    try rw [hK]
    rw [show L2.start N__law_take [.ref b, .int z] = [some (.ref b), some (.int z), none, none] from rfl]
    walk_at "sx"
    have fin : ∀ (r i' k' : Int) (H' : Hp), 0 ≤ i' → H' b = some (.lst [.ref l, .int i', .int k', .int (t + 1), .int s]) → KB b H H' → Q (.int (r % z)) H' := fun r i' k' H' hi' e kb =>
      q _ _ (Int.emod_nonneg _ (by omega)) (Int.emod_lt_of_pos _ hz) kb ⟨i', k', t + 1, s, ns, e, kb.get hlb hl, hlb, hbits, hi', by omega, by omega, hs0, hs1⟩
    have hs := bits_of (i := s) (by omega) (by omega)
    refine x_ifQ (fun c => ?_) (fun _ => ?_)
    · walk_at "sx"
      exact fin _ i _ _ hi upd_same (KB.trans KB.upd KB.upd)
    · walk_at "sx"
      refine x_ifQ (fun c => ?_) (fun c => ?_)
      · walk_at "sx"
        refine ⟨_, _, rfl, hs, by omega, by omega, fun r => ?_⟩
        walk_at "sx"
        exact fin _ i k _ hi upd_same KB.upd
      · walk_at "sx"
        have c2 := of_decide_eq_false c
        rw [List.length_map] at c2
        have hlt : i.toNat < ns.length := by omega
        have hat : atI (ns.map V.int) i = some (.int ns[i.toNat]) := at_of (j := i.toNat) (by omega) (by rw [List.getElem?_map, List.getElem?_eq_getElem hlt]; rfl)
        refine x_ixL (by walk_at "sq") hat ?_
        walk_at "sx"
        refine x_ifQ (fun _ => ?_) (fun _ => ?_)
        · walk_at "sx"
          refine ⟨_, _, rfl, hbits _ (List.getElem_mem hlt), by omega, by omega, fun r => ?_⟩
          walk_at "sx"
          exact fin _ (i + 1) k _ (by omega) upd_same (KB.trans KB.upd KB.upd)
        · walk_at "sx"
          exact fin _ (i + 1) _ _ (by omega) upd_same (KB.trans KB.upd (KB.trans KB.upd KB.upd))
theorem D_box (T : Txt K mg) (F : Df K mg "_law_box" s__law_box) : Dn P w K mg base CX0 1 "_law_box" ["_law_script"] (spBox K) := by
  refine F.dn sc__law_box (fun _ _ _ _ _ _ us hl => match us, hl with | [_], _ => rfl) (fun vs H Q E h => ?_) (fun f cdv A outer s H vs Q E hr hK h => ?_)
  · obtain ⟨a, ns, rfl, _⟩ := h
    rfl
  · obtain ⟨a, ns, rfl, hS, hb, q⟩ := h
    refine ⟨_, (pss_cons (ps_set (i := 1) sc__law_box.nd rfl (Or.inl rfl) pe_int)
      (pss_cons (ps_for PassesOwn.never rfl (pi_list (pv 0)) (pg_name (i := 2) sc__law_box.nd rfl (Or.inl rfl)) (pss_one (ps_set (i := 1) sc__law_box.nd rfl (Or.inl rfl) (pe_op op_mod (pe_op op_add (pe_op op_add (pe_op op_mulB (pv 1) pe_int) (pe_op op_mod (pv 2) pe_int)) pe_int) pe_int))))
      (pss_one (ps_ret (pe_lst (pa_cons (pe_callTy g_list rfl T.m_list boot_list (pa_cons (pv 0) pa_nil)) (pa_cons pe_int (pa_cons pe_int (pa_cons pe_int (pa_cons (pv 1) pa_nil)))))))))), ?_⟩
    try rw [hK]
    rw [show L2.start N__law_box [.ref a] = [some (.ref a), none, none] from rfl]
    walk_at "sx"
    refine x_iLQ hS ?_
    refine x_forQ walk_list (fun i σ H' => H' = H ∧ ∃ (z : Int) (v : Option V), σ = [some (.ref a), some (.int z), v] ∧ 0 ≤ z ∧ z < 2147483647) ⟨rfl, 7, none, rfl, by decide, by decide⟩ (fun i σ H' _ p => by rw [p.1]; exact hS) ?_ ?_
    · rintro i x σ H1 H2 hi ⟨rfl, z, v, rfl, hz0, hz1⟩ ⟨rfl, hx⟩
      obtain ⟨u, rfl⟩ : ∃ u, x = V.int u := by
        rw [List.getElem?_map] at hx
        cases e : ns[i]? with
        | none => rw [e] at hx; cases hx
        | some u => rw [e] at hx; exact ⟨u, (Option.some.inj hx).symm⟩
      walk_at "sx"
      exact ⟨rfl, _, _, rfl, by omega, by omega⟩
    · rintro σ H' ⟨rfl, z, v, rfl, hz0, hz1⟩
      walk_at "sx"
      intro l hl
      walk_at "sx"
      intro b hb'
      have hbl : l ≠ b := ne_of_none upd_same hb'
      exact q b l _ (Same.free (Ex.new hl) hb') hl ((Ex.new hl).trans (Ex.new hb')) ⟨0, 0, 0, z, ns, upd_same, by rw [upd_ne hbl]; exact upd_same, hbl, hb, by decide, by decide, by decide, hz0, hz1⟩
end

theorem x_take {H : Hp} {Q : VK} {E : XK} {b l : Addr} {z : Int} {n : Nat} (B : BoxAt H b l n) (hz : 0 < z) (hz2 : z < 2 ^ 64) (hn : n ≤ 2 ^ 60) (k : ∀ (r : Int) (H' : Hp), 0 ≤ r → r < z → KB b H H' → BoxAt H' b l (n + 1) → Q (.int r) H') : spTake [.ref b, .int z] H Q E :=
  ⟨b, l, z, n, rfl, hz, hz2, B, hn, k⟩

local macro_rules | `(tactic| walk_at "box") => `(tactic| (with_reducible assumption))
local macro_rules | `(tactic| walk_at "neb") => `(tactic| (first
  | with_reducible exact BoxAt.ne1 (by with_reducible assumption) (by with_reducible assumption)
  | with_reducible exact BoxAt.ne2 (by with_reducible assumption) (by with_reducible assumption)
  | with_reducible exact Ne.symm (BoxAt.ne1 (by with_reducible assumption) (by with_reducible assumption))
  | with_reducible exact Ne.symm (BoxAt.ne2 (by with_reducible assumption) (by with_reducible assumption))))

/-! ### _law_whole -/
abbrev s__law_whole : Stmt := top 15
abbrev N__law_whole : List Str := ["_law_found"]
theorem sc__law_whole : FnScope N__law_whole ["_law_found"] (defScope s__law_whole) := ⟨rfl, rfl, rfl, by decide +kernel, rfl, by decide +kernel, by decide +kernel⟩

def isIntD : PyData → Bool
  | .int _ => true
  | _ => false
def spWhole (K : PySem.W.Frag) : Sp := fun vs H Q _ => ∃ (x : V) (d : PyData), vs = [x] ∧ Dp K H x d ∧ Q (.bl (isIntD d)) H
theorem kit_n {K : PySem.W.Frag} {a T : String} {b : Bool} (h : kitB a T = some b) : PySem.W.kitOne K (.type a) (.type T) = some b := kit_ty h
section
variable {P : Program} {w : World} {K : PySem.W.Frag} {mg : Str → Option Value} {base : Heap}
theorem D_whole (T : Txt K mg) (F : Df K mg "_law_whole" s__law_whole) : Dn P w K mg base CX0 1 "_law_whole" ["_law_found"] (spWhole K) := by
  refine F.dn sc__law_whole (fun _ _ _ _ _ _ us hl => match us, hl with | [_], _ => rfl) (fun vs H Q E h => ?_) (fun f cdv A outer s H vs Q E hr hK h => ?_)
  · obtain ⟨x, d, rfl, _⟩ := h
    rfl
  · obtain ⟨x, d, rfl, hx, k⟩ := h
    refine ⟨_, (pss_one (ps_ret (pe_and (pe_callB call_isi rfl T.m_isinstance boot_isinstance (pa_cons (pv 0) (pa_cons (pe_bltn rfl T.m_int (v := .ty "int") boot_int rfl) pa_nil))) (pe_one (pe_not (pe_callB call_isi rfl T.m_isinstance boot_isinstance (pa_cons (pv 0) (pa_cons (pe_bltn rfl T.m_bool (v := .ty "bool") boot_bool rfl) pa_nil)))))))), ?_⟩
    try rw [hK]
    rw [show L2.start N__law_whole [x] = [some (x)] from rfl]
    have ty := ty_dp hx
    have two : ∀ b1 b2 : Bool, kitB (kindD d) "int" = some b1 → kitB (kindD d) "bool" = some b2 → Q (.bl (if b1 = true then !b2 else false)) H → tRet (tAndV (tCB (rIsi K) (tCons (tVar 0) (tCons (tC (V.ty "int")) tNil))) (tNotV (tCB (rIsi K) (tCons (tVar 0) (tCons (tC (V.ty "bool")) tNil))))) { nx := fun _ H' => Q .non H', rt := Q } [some x] H := fun b1 b2 h1 h2 q => by
      walk_at "sx"
      refine x_isi ty (kit_n h1) ?_
      refine x_andVQ (fun c => ?_) (fun c => ?_)
      · subst c
        walk_at "sx"
        refine x_isi ty (kit_n h2) ?_
        walk_at "sx"
        exact q
      · subst c
        exact q
    cases d with
    | none => exact two false false (show kitB "NoneType" "int" = some false by decide +kernel) (show kitB "NoneType" "bool" = some false by decide +kernel) k
    | bool b => exact two true true (show kitB "bool" "int" = some true by decide +kernel) (show kitB "bool" "bool" = some true by decide +kernel) k
    | int i => exact two true false (show kitB "int" "int" = some true by decide +kernel) (show kitB "int" "bool" = some false by decide +kernel) k
    | str z => exact two false false (show kitB "str" "int" = some false by decide +kernel) (show kitB "str" "bool" = some false by decide +kernel) k
    | list ds => exact two false false (show kitB "list" "int" = some false by decide +kernel) (show kitB "list" "bool" = some false by decide +kernel) k
    | tuple ds => exact two false false (show kitB "tuple" "int" = some false by decide +kernel) (show kitB "tuple" "bool" = some false by decide +kernel) k
    | dict ds => cases hx
end

/-! ### _law_alike -/
abbrev s__law_alike : Stmt := top 16
abbrev N__law_alike : List Str := ["_law_found", "_law_due", "_law_one", "_law_other"]
theorem sc__law_alike : FnScope N__law_alike ["_law_found", "_law_due"] (defScope s__law_alike) := ⟨rfl, rfl, rfl, by decide +kernel, rfl, by decide +kernel, by decide +kernel⟩

/-- both are the same data, of a depth below n: True -/
def spAlike (K : PySem.W.Frag) (n : Nat) : Sp := fun vs H Q _ => ∃ (x y : V) (d : PyData), vs = [x, y] ∧ Dp K H x d ∧ Dp K H y d ∧ OkD n d ∧ n ≤ 60 ∧ ∀ H', Ex H H' → Q (.bl true) H'
section
variable {P : Program} {w : World} {K : PySem.W.Frag} {mg : Str → Option Value} {base : Heap}
theorem D_alike (T : Txt K mg) (D__law_whole : Dn P w K mg base CX0 1 "_law_whole" ["_law_found"] (spWhole K)) (F : Df K mg "_law_alike" s__law_alike) :
    ∀ n : Nat, Dn P w K mg base CX0 (n + 2) "_law_alike" ["_law_found", "_law_due"] (spAlike K n)
  | 0 => F.none (fun _ _ _ _ _ _ us hl => match us, hl with | [_, _], _ => rfl) fun vs H Q E h => by
    obtain ⟨x, y, d, _, _, _, h, _⟩ := h
    cases h
  | n + 1 => by
    have D__law_alike := D_alike T D__law_whole F n
    refine F.dn sc__law_alike (fun _ _ _ _ _ _ us hl => match us, hl with | [_, _], _ => rfl) (fun vs H Q E h => ?_) (fun f cdv A outer s H vs Q E hr hK h => ?_)
    · obtain ⟨x, y, d, rfl, _⟩ := h
      rfl
    · obtain ⟨x, y, d, rfl, hx, hy, ho, hn, k⟩ := h
      have hs := ho.shaped (by omega)
      have k0 : Q (.bl true) H := k H (Ex.refl H)
      refine ⟨_, (pss_cons (ps_if (pt_cmpR g_isN (pv 1) pe_non (nomark _)) (pss_one (ps_ret (pe_cmpR g_isN (pv 0) pe_non (nomark _)))) pss_nil)
      (pss_cons (ps_if (pt_val (pe_callB call_isi rfl T.m_isinstance boot_isinstance (pa_cons (pv 1) (pa_cons (pe_bltn rfl T.m_bool (v := .ty "bool") boot_bool rfl) pa_nil)))) (pss_one (ps_ret (pe_and (pe_callB call_isi rfl T.m_isinstance boot_isinstance (pa_cons (pv 0) (pa_cons (pe_bltn rfl T.m_bool (v := .ty "bool") boot_bool rfl) pa_nil))) (pe_one (pe_cmpR (op_eqD hr.units) (pv 0) (pv 1) (nomark _)))))) pss_nil)
      (pss_cons (ps_if (pt_val (pe_callB call_isi rfl T.m_isinstance boot_isinstance (pa_cons (pv 1) (pa_cons (pe_bltn rfl T.m_int (v := .ty "int") boot_int rfl) pa_nil)))) (pss_one (ps_ret (pe_and (pe_dn D__law_whole (hr.mono (by first | decide | omega)) pass0 (pa_cons (pv 0) pa_nil)) (pe_one (pe_cmpR (op_eqD hr.units) (pv 0) (pv 1) (nomark _)))))) pss_nil)
      (pss_cons (ps_if (pt_val (pe_callB call_isi rfl T.m_isinstance boot_isinstance (pa_cons (pv 1) (pa_cons (pe_bltn rfl T.m_str (v := .ty "str") boot_str rfl) pa_nil)))) (pss_one (ps_ret (pe_and (pe_callB call_isi rfl T.m_isinstance boot_isinstance (pa_cons (pv 0) (pa_cons (pe_bltn rfl T.m_str (v := .ty "str") boot_str rfl) pa_nil))) (pe_one (pe_cmpR (op_eqD hr.units) (pv 0) (pv 1) (nomark _)))))) pss_nil)
      (pss_cons (ps_if (PW.pt (pw_or (pt_cmpR op_ne (pe_callB call_isi rfl T.m_isinstance boot_isinstance (pa_cons (pv 1) (pa_cons (pe_bltn rfl T.m_list (v := .ty "list") boot_list rfl) pa_nil))) (pe_callB call_isi rfl T.m_isinstance boot_isinstance (pa_cons (pv 0) (pa_cons (pe_bltn rfl T.m_list (v := .ty "list") boot_list rfl) pa_nil))) (nomark _)) (pw_or1 (pt_cmpR op_ne (pe_callB call_isi rfl T.m_isinstance boot_isinstance (pa_cons (pv 1) (pa_cons (pe_bltn rfl T.m_tuple (v := .ty "tuple") boot_tuple rfl) pa_nil))) (pe_callB call_isi rfl T.m_isinstance boot_isinstance (pa_cons (pv 0) (pa_cons (pe_bltn rfl T.m_tuple (v := .ty "tuple") boot_tuple rfl) pa_nil))) (nomark _))))) (pss_one (ps_ret pe_bl)) pss_nil)
      (pss_one (ps_ret (pe_and (pe_cmpR op_eq (pe_callB g_len rfl T.m_len boot_len (pa_cons (pv 0) pa_nil)) (pe_callB g_len rfl T.m_len boot_len (pa_cons (pv 1) pa_nil)) (nomark _)) (pe_one (pe_callB (cr_all rfl) rfl T.m_all boot_all (pa_cons (pe_lc (own := [("_law_one", 2), ("_law_other", 3)]) (g := gTup K 2 (gCons (gName 2) (gCons (gName 3) (gNil)))) (tt := tYes) rfl sc__law_alike.nd (pi_zipA rfl T.m_zip (pa_cons (pv 0) (pa_cons (pv 1) pa_nil))) (blkOk_by (own := [("_law_one", 2), ("_law_other", 3)]) (N := N__law_alike) (sc := defScope s__law_alike) (by decide +kernel)) (fun _ _ _ _ _ => pg_tup rfl (pgs_cons (pg_name (i := 2) sc__law_alike.nd rfl (Or.inl rfl)) (pgs_cons (pg_name (i := 3) sc__law_alike.nd rfl (Or.inl rfl)) pgs_nil))) (fun _ _ _ _ _ => pts_nil) (fun _ _ _ _ _ => (pe_dn D__law_alike (hr.mono (by first | decide | omega)) pass0 (pa_cons (pv 2) (pa_cons (pv 3) pa_nil))))) pa_nil))))))))))), ?_⟩
      try rw [hK]
      rw [show L2.start N__law_alike [x, y] = [some (x), some (y), none, none] from rfl]
      have tx := ty_dp hx
      have ty := ty_dp hy
      walk_at "sx"
      cases d with
      | none =>
        cases hx; cases hy
        walk_at "sx"
        exact k0
      | bool b =>
        cases hx; cases hy
        have tx : TyX K H _ (.type "bool") := tx
        have ty : TyX K H _ (.type "bool") := ty
        walk_at "sx"
        refine x_isi ty (b := true) (kit_n (by decide +kernel)) ?_
        walk_at "sx"
        refine x_isi tx (b := true) (kit_n (by decide +kernel)) ?_
        walk_at "sx"
        exact x_eqSame (.bl b) (.bl b) hs k0
      | int i =>
        cases hx; cases hy
        have tx : TyX K H _ (.type "int") := tx
        have ty : TyX K H _ (.type "int") := ty
        walk_at "sx"
        refine x_isi ty (b := false) (kit_n (by decide +kernel)) ?_
        walk_at "sx"
        refine x_isi ty (b := true) (kit_n (by decide +kernel)) ?_
        walk_at "sx"
        refine ⟨_, .int i, rfl, .int i, ?_⟩
        refine x_andVT ?_
        walk_at "sx"
        exact x_eqSame (.int i) (.int i) hs k0
      | str z =>
        cases hx; cases hy
        have tx : TyX K H _ (.type "str") := tx
        have ty : TyX K H _ (.type "str") := ty
        walk_at "sx"
        refine x_isi ty (b := false) (kit_n (by decide +kernel)) ?_
        walk_at "sx"
        refine x_isi ty (b := false) (kit_n (by decide +kernel)) ?_
        walk_at "sx"
        refine x_isi ty (b := true) (kit_n (by decide +kernel)) ?_
        walk_at "sx"
        refine x_isi tx (b := true) (kit_n (by decide +kernel)) ?_
        walk_at "sx"
        exact x_eqSame (.str z) (.str z) hs k0
      | list ds =>
        have tx : TyX K H _ (.type "list") := tx
        have ty : TyX K H _ (.type "list") := ty
        cases hx with
        | lst sx ax =>
        cases hy with
        | lst sy ay =>
        have lx := dpAll_len ax
        have ly := dpAll_len ay
        obtain ⟨hlen, sh⟩ : ds.length ≤ 100000 ∧ ∀ d ∈ ds, OkD n d := by
          cases ho with
          | list h1 h2 => exact ⟨h1, h2⟩
        walk_at "sx"
        refine x_isi ty (b := false) (kit_n (by decide +kernel)) ?_
        walk_at "sx"
        refine x_isi ty (b := false) (kit_n (by decide +kernel)) ?_
        walk_at "sx"
        refine x_isi ty (b := false) (kit_n (by decide +kernel)) ?_
        walk_at "sx"
        refine x_isi ty (b := true) (kit_n (by decide +kernel)) ?_
        walk_at "sx"
        refine x_isi tx (b := true) (kit_n (by decide +kernel)) ?_
        walk_at "sx"
        refine x_isi ty (b := false) (kit_n (by decide +kernel)) ?_
        walk_at "sx"
        refine x_isi tx (b := false) (kit_n (by decide +kernel)) ?_
        walk_at "sx"
        refine x_andVD (fun _ => ?_) (fun c => absurd (by rw [lx, ly]) c)
        walk_at "sx"
        refine x_iZAL sx sy ?_
        refine x_lcMap (walk_zip rfl) (fun _ => V.bl true) ?hz (fun H' e => ⟨ex_l e sx, ex_l e sy⟩) ?turn ?grow ?done
        case hz => exact sz_of (by omega)
        case turn =>
          rintro D i x H1 H2 Nx hi e1 ⟨p, a, b, rfl, hp, rfl, ha, hb⟩ kk
          walk_at "sx"
          obtain ⟨da, ea, pa⟩ := dpAll_get ax ha
          obtain ⟨db, eb, pb⟩ := dpAll_get ay hb
          rw [ea] at eb
          cases eb
          have e2 : Ex H (upd H1 p (.tup [a, b])) := e1.trans (Ex.new hp)
          refine ⟨a, b, da, rfl, dp_ex e2 pa, dp_ex e2 pb, sh _ (List.mem_of_getElem? ea), by omega, fun H3 e3 => ?_⟩
          exact kk H3 e3
        case grow =>
          rintro i x H1 H2 hi e1 ⟨p, a, b, rfl, hp, rfl, ha, hb⟩
          exact Ex.new hp
        case done =>
          intro D H' hD e hl
          walk_at "sx"
          refine x_allMap (g := fun _ => true) hl ?_
          have e0 : ∀ m : Nat, (List.range m).all (fun _ => true) = true := fun m => by simp
          rw [e0]
          exact k H' e
      | tuple ds =>
        have tx : TyX K H _ (.type "tuple") := tx
        have ty : TyX K H _ (.type "tuple") := ty
        cases hx with
        | tup sx ax =>
        cases hy with
        | tup sy ay =>
        have lx := dpAll_len ax
        have ly := dpAll_len ay
        obtain ⟨hlen, sh⟩ : ds.length ≤ 100000 ∧ ∀ d ∈ ds, OkD n d := by
          cases ho with
          | tuple h1 h2 => exact ⟨h1, h2⟩
        walk_at "sx"
        refine x_isi ty (b := false) (kit_n (by decide +kernel)) ?_
        walk_at "sx"
        refine x_isi ty (b := false) (kit_n (by decide +kernel)) ?_
        walk_at "sx"
        refine x_isi ty (b := false) (kit_n (by decide +kernel)) ?_
        walk_at "sx"
        refine x_isi ty (b := false) (kit_n (by decide +kernel)) ?_
        walk_at "sx"
        refine x_isi tx (b := false) (kit_n (by decide +kernel)) ?_
        walk_at "sx"
        refine x_isi ty (b := true) (kit_n (by decide +kernel)) ?_
        walk_at "sx"
        refine x_isi tx (b := true) (kit_n (by decide +kernel)) ?_
        walk_at "sx"
        refine x_andVD (fun _ => ?_) (fun c => absurd (by rw [lx, ly]) c)
        walk_at "sx"
        refine x_iZAT sx sy ?_
        refine x_lcMap (walk_zipT rfl) (fun _ => V.bl true) ?hz (fun H' e => ⟨ex_t e sx, ex_t e sy⟩) ?turn ?grow ?done
        case hz => exact sz_of (by omega)
        case turn =>
          rintro D i x H1 H2 Nx hi e1 ⟨p, a, b, rfl, hp, rfl, ha, hb⟩ kk
          walk_at "sx"
          obtain ⟨da, ea, pa⟩ := dpAll_get ax ha
          obtain ⟨db, eb, pb⟩ := dpAll_get ay hb
          rw [ea] at eb
          cases eb
          have e2 : Ex H (upd H1 p (.tup [a, b])) := e1.trans (Ex.new hp)
          refine ⟨a, b, da, rfl, dp_ex e2 pa, dp_ex e2 pb, sh _ (List.mem_of_getElem? ea), by omega, fun H3 e3 => ?_⟩
          exact kk H3 e3
        case grow =>
          rintro i x H1 H2 hi e1 ⟨p, a, b, rfl, hp, rfl, ha, hb⟩
          exact Ex.new hp
        case done =>
          intro D H' hD e hl
          walk_at "sx"
          refine x_allMap (g := fun _ => true) hl ?_
          have e0 : ∀ m : Nat, (List.range m).all (fun _ => true) = true := fun m => by simp
          rw [e0]
          exact k H' e
      | dict ds => cases hx
end

/-! ### drawn tariffs -/
abbrev s__law_worths : Stmt := top 17
abbrev N__law_worths : List Str := ["_law_box_here", "_law_ranks", "_law_found", "_law_rank", "_law_times"]
theorem sc__law_worths : FnScope N__law_worths ["_law_box_here", "_law_ranks"] (defScope s__law_worths) := ⟨rfl, rfl, rfl, by decide +kernel, rfl, by decide +kernel, by decide +kernel⟩

def spWorths : Sp := fun vs H Q _ => ∃ (b l : Addr) (r : Int) (n : Nat), vs = [.ref b, .int r] ∧ 1 ≤ r ∧ r ≤ 6 ∧ BoxAt H b l n ∧ n ≤ 2 ^ 59 ∧
  ∀ (p : Addr) (ws : List Int) (H' : Hp), H p = none → KB b H H' → BoxAt H' b l (n + 20) → H' p = some (.lst (ws.map V.int)) → Tar ws → (ws.length : Int) = r → Q (.ref p) H'
section
variable {P : Program} {w : World} {K : PySem.W.Frag} {mg : Str → Option Value} {base : Heap}
theorem D_worths (T : Txt K mg) (D__law_take : Dn P w K mg base CX0 2 "_law_take" ["_law_box_here", "_law_size"] spTake) (F : Df K mg "_law_worths" s__law_worths) : Dn P w K mg base CX0 3 "_law_worths" ["_law_box_here", "_law_ranks"] spWorths := by
  refine F.dn sc__law_worths (fun _ _ _ _ _ _ us hl => match us, hl with | [_, _], _ => rfl) (fun vs H Q E h => ?_) (fun f cdv A outer s H vs Q E hr hK h => ?_)
  · obtain ⟨b, l, r, n, rfl, _⟩ := h
    rfl
  · obtain ⟨b, l, r, n, rfl, hr1, hr6, B, hn, q⟩ := h
    refine ⟨_, (pss_cons (ps_set (i := 2) sc__law_worths.nd rfl (Or.inl rfl) (pe_lst (pa_cons (pe_op op_add pe_int (pe_dn D__law_take (hr.mono (by first | decide | omega)) pass0 (pa_cons (pv 0) (pa_cons (pe_ix ix_list (pe_lst (pa_cons pe_int (pa_cons pe_int (pa_cons pe_int (pa_cons pe_int pa_nil))))) (pe_dn D__law_take (hr.mono (by first | decide | omega)) pass0 (pa_cons (pv 0) (pa_cons pe_int pa_nil))) (fun _ _ => rfl)) pa_nil)))) pa_nil)))
      (pss_cons (ps_for PassesOwn.never rfl (pi_range2 rfl T.m_range (pa_cons pe_int (pa_cons (pv 1) pa_nil))) (pg_name (i := 3) sc__law_worths.nd rfl (Or.inl rfl)) (pss_cons (ps_set (i := 4) sc__law_worths.nd rfl (Or.inl rfl) (pe_ix ix_list (pe_lst (pa_cons pe_int (pa_cons pe_int (pa_cons pe_int (pa_cons pe_int (pa_cons (pe_op op_add pe_int (pe_dn D__law_take (hr.mono (by first | decide | omega)) pass0 (pa_cons (pv 0) (pa_cons pe_int pa_nil)))) (pa_cons (pe_op op_add pe_int (pe_dn D__law_take (hr.mono (by first | decide | omega)) pass0 (pa_cons (pv 0) (pa_cons pe_int pa_nil)))) pa_nil))))))) (pe_dn D__law_take (hr.mono (by first | decide | omega)) pass0 (pa_cons (pv 0) (pa_cons pe_int pa_nil))) (fun _ _ => rfl)))
      (pss_one (ps_expr (pe_bm PySem.F.plainAttrs_list PySem.F.slot_list_append PySem.F.type_list_append mt_append (pv 2) (pa_cons (pe_op op_mulB (pe_ix ix_list (pv 2) (pe_un un_neg pe_int) (fun _ _ => rfl)) (pe_ix ix_list (pe_lst (pa_cons pe_int (pa_cons (pv 4) pa_nil))) (pe_callTy g_int rfl T.m_int boot_int (pa_cons (pe_cmpR op_le (pe_op op_mulB (pe_ix ix_list (pv 2) (pe_un un_neg pe_int) (fun _ _ => rfl)) (pv 4)) pe_int (nomark _)) pa_nil)) (fun _ _ => rfl))) pa_nil))))))
      (pss_one (ps_ret (pv 2))))), ?_⟩
    try rw [hK]
    rw [show L2.start N__law_worths [.ref b, .int r] = [some (.ref b), some (.int r), none, none, none] from rfl]
    walk_at "sx"
    intro p1 hp1
    walk_at "sx"
    refine x_take (B.ex' (Ex.new hp1)) (by omega) (by omega) (by omega) fun r1 H1 a1 a2 kb1 B1 => ?_
    walk_at "sx"
    obtain ⟨v, hv, hm⟩ := at_mem (xs := [.int 1, .int 1, .int 3, .int 40]) a1 a2
    obtain ⟨z, rfl, z1, z2⟩ : ∃ z, v = V.int z ∧ 1 ≤ z ∧ z ≤ 40 := by
      simp only [List.mem_cons, List.not_mem_nil, or_false] at hm
      rcases hm with rfl | rfl | rfl | rfl <;> exact ⟨_, rfl, by decide, by decide⟩
    refine x_ixL (by walk_at "sq") hv ?_
    walk_at "sx"
    refine x_take B1 (by omega) (by omega) (by omega) fun r2 H2 b1 b2 kb2 B2 => ?_
    walk_at "sx"
    intro p hp
    have npb := BoxAt.ne1 hp B2
    have npl := BoxAt.ne2 hp B2
    have kbH : KB b H H2 := by walk_at "kb"
    have fp := kbH.fresh B2.some hp
    walk_at "sx"
    refine x_iR2Q (by omega) ?_
    refine x_forQ walk_range (fun i σ H' => KB b H H' ∧ BoxAt H' b l (n + 2 + 3 * i) ∧ ∃ (ws : List Int) (x : Int) (v3 v4 : Option V), σ = [some (.ref b), some (.int r), some (.ref p), v3, v4] ∧ H' p = some (.lst ((ws ++ [x]).map V.int)) ∧ Tar (ws ++ [x]) ∧ (ws ++ [x]).length = i + 1)
      ⟨by walk_at "kb", B2.ex' (Ex.new hp), [], 1 + r2, none, none, rfl, upd_same, Tar.one (by omega) (by omega), rfl⟩ (fun _ _ _ _ _ => trivial) ?_ ?_
    · rintro i x0 σ H3 H3' hi ⟨kb3, B3, ws, x, v3, v4, rfl, hl3, tar, hlen⟩ ⟨rfl, rfl⟩
      walk_at "sx"
      refine x_take B3 (by omega) (by omega) (by omega) fun r4 H4 c1 c2 kb4 B4 => ?_
      walk_at "sx"
      refine x_take B4 (by omega) (by omega) (by omega) fun r5 H5 d1 d2 kb5 B5 => ?_
      walk_at "sx"
      intro p5 hp5
      walk_at "sx"
      refine x_take (B5.ex' (Ex.new hp5)) (by omega) (by omega) (by omega) fun r6 H6 e1 e2 kb6 B6 => ?_
      walk_at "sx"
      obtain ⟨v, hv, hm⟩ := at_mem (xs := [.int 1, .int 2, .int 2, .int 3, .int (1 + r4), .int (1 + r5)]) e1 e2
      obtain ⟨t, rfl, t1, t2⟩ : ∃ z, v = V.int z ∧ 1 ≤ z ∧ z ≤ 60 := by
        simp only [List.mem_cons, List.not_mem_nil, or_false] at hm
        rcases hm with rfl | rfl | rfl | rfl | rfl | rfl <;> exact ⟨_, rfl, by omega, by omega⟩
      refine x_ixL (by walk_at "sq") hv ?_
      have x12 := tar.rng x (by simp)
      have hl6 : H6 p = some (.lst ((ws ++ [x]).map V.int)) := by
        have h5 : H5 p = some (.lst ((ws ++ [x]).map V.int)) := kb5.get npb (kb4.get npb hl3)
        exact kb6.get npb (by rw [upd_ne (ne_fresh hp5 h5).symm]; exact h5)
      have kb06 : KB b H H6 := by walk_at "kb"
      walk_at "sx"
      refine x_ixL (SqL.of hl6) (at_lastI ws x) ?_
      walk_at "sx"
      intro p7 hp7
      have hl7 : ∀ o, (upd H6 p7 o) p = some (.lst ((ws ++ [x]).map V.int)) := fun o => by rw [upd_ne (ne_fresh hp7 hl6).symm]; exact hl6
      walk_at "sx"
      refine x_ixL (SqL.of (hl7 _)) (at_lastI ws x) ?_
      walk_at "sx"
      have fin : ∀ y : Int, 1 ≤ y → y ≤ 10000 → y % x = 0 → (ws ++ [x]).length ≤ 5 → KB b H (upd (upd H6 p7 (.lst [.int 1, .int t])) p (.lst ((ws ++ [x]).map V.int ++ [.int y]))) ∧ BoxAt (upd (upd H6 p7 (.lst [.int 1, .int t])) p (.lst ((ws ++ [x]).map V.int ++ [.int y]))) b l (n + 2 + 3 * (i + 1)) := fun y _ _ _ _ =>
        ⟨by walk_at "kb", ((B6.ex' (Ex.new hp7)).upd npb npl).mono (by omega)⟩
      have hl5 : (ws ++ [x]).length ≤ 5 := by omega
      have hsz : ((ws ++ [x]).map V.int).length < sizeLine := by rw [List.length_map]; exact small1000 (by omega)
      by_cases c : x * t ≤ 10000
      · rw [decide_eq_true c]
        refine x_ixL (v := .int t) (SqL.of upd_same) rfl ?_
        walk_at "sx"
        refine x_append (hl7 _) hsz ?_
        have y1 : 1 ≤ x * t := by have := Int.mul_le_mul x12.1 t1 (by decide) (by omega); omega
        obtain ⟨g1, g2⟩ := fin (x * t) y1 c (Int.mul_emod_right x t) hl5
        walk_at "sx"
        exact ⟨g1, g2, ws ++ [x], x * t, _, _, rfl, by rw [upd_same, List.map_append (l₂ := [x * t])]; rfl, tar.snoc hl5 y1 c (Int.mul_emod_right x t), by rw [List.length_append, hlen]; rfl⟩
      · rw [decide_eq_false c]
        refine x_ixL (v := .int 1) (SqL.of upd_same) rfl ?_
        walk_at "sx"
        refine x_append (hl7 _) hsz ?_
        have ex1 : x * 1 % x = 0 := Int.mul_emod_right x 1
        obtain ⟨g1, g2⟩ := fin (x * 1) (by omega) (by omega) ex1 hl5
        walk_at "sx"
        exact ⟨g1, g2, ws ++ [x], x * 1, _, _, rfl, by rw [upd_same, List.map_append (l₂ := [x * 1])]; rfl, tar.snoc hl5 (by omega) (by omega) ex1, by rw [List.length_append, hlen]; rfl⟩
    · rintro σ H3 ⟨kb3, B3, ws, x, v3, v4, rfl, hl3, tar, hlen⟩
      walk_at "sx"
      exact q p _ _ fp kb3 (B3.mono (by omega)) hl3 tar (by omega)
end

/-! ### _law_cut -/
abbrev s__law_cut : Stmt := top 24
abbrev N__law_cut : List Str := ["_law_cell"]
theorem sc__law_cut : FnScope N__law_cut ["_law_cell"] (defScope s__law_cut) := ⟨rfl, rfl, rfl, by decide +kernel, rfl, by decide +kernel, by decide +kernel⟩

def spCut : Sp := fun vs H Q _ => ∃ n : Int, vs = [.int n] ∧ ∀ r : Int, Q (.int r) H
section
variable {P : Program} {w : World} {K : PySem.W.Frag} {mg : Str → Option Value} {base : Heap}
theorem D_cut (T : Txt K mg) (F : Df K mg "_law_cut" s__law_cut) : Dn P w K mg base CX0 1 "_law_cut" ["_law_cell"] spCut := by
  refine F.dn sc__law_cut (fun _ _ _ _ _ _ us hl => match us, hl with | [_], _ => rfl) (fun vs H Q E h => ?_) (fun f cdv A outer s H vs Q E hr hK h => ?_)
  · obtain ⟨n, rfl, _⟩ := h
    rfl
  · obtain ⟨n, rfl, k⟩ := h
    refine ⟨_, (pss_one (ps_ret (pe_callB (g_max rfl) rfl T.m_max boot_max (pa_cons (pe_op op_sub pe_int (pe_op op_pow pe_int pe_int)) (pa_cons (pe_callB (g_min rfl) rfl T.m_min boot_min (pa_cons (pe_op op_pow pe_int pe_int) (pa_cons (pv 0) pa_nil))) pa_nil))))), ?_⟩
    try rw [hK]
    rw [show L2.start N__law_cut [.int n] = [some (.int n)] from rfl]
    walk_at "sx"
    exact k _
end

/-! ### weights, in plain Lean -/
/-- what a roll weighs -/
def wt : List Int → List Int → Int
  | w :: ws, c :: cs => w * c + wt ws cs
  | _, _ => 0
theorem wt_nil (cs : List Int) : wt [] cs = 0 := by cases cs <;> rfl
theorem wt_zip : ∀ ws cs : List Int, ((List.range (min ws.length cs.length)).map fun i => ws.getD i 0 * cs.getD i 0).sum = wt ws cs
  | [], cs => by simp [wt_nil]
  | w :: ws, [] => by simp [wt]
  | w :: ws, c :: cs => by
    have e : min (w :: ws).length (c :: cs).length = min ws.length cs.length + 1 := by
      simp only [List.length_cons]; omega
    rw [e, List.range_succ_eq_map, List.map_cons, List.map_map, List.sum_cons]
    have ih := wt_zip ws cs
    show (w :: ws).getD 0 0 * (c :: cs).getD 0 0 + ((List.range (min ws.length cs.length)).map ((fun i => (w :: ws).getD i 0 * (c :: cs).getD i 0) ∘ Nat.succ)).sum = w * c + wt ws cs
    rw [← ih]
    rfl
/-- one rank more -/
theorem wt_take : ∀ (ws cs : List Int) (i : Nat), i < ws.length → i < cs.length → wt (ws.take (i + 1)) (cs.take (i + 1)) = wt (ws.take i) (cs.take i) + ws.getD i 0 * cs.getD i 0
  | [], _, i, h, _ => absurd h (Nat.not_lt_zero _)
  | _ :: _, [], i, _, h => absurd h (Nat.not_lt_zero _)
  | w :: ws, c :: cs, 0, _, _ => by simp [wt, wt_nil]
  | w :: ws, c :: cs, i + 1, h1, h2 => by
    have ih := wt_take ws cs i (by simpa using h1) (by simpa using h2)
    show w * c + wt (ws.take (i + 1)) (cs.take (i + 1)) = (w * c + wt (ws.take i) (cs.take i)) + ws.getD i 0 * cs.getD i 0
    rw [ih]; omega
/-- for each rank what all men of lower ranks weigh -/
def lowL (ws cs : List Int) : List Int := (List.range ws.length).map fun i => wt (ws.take i) (cs.take i)
theorem lowL_len (ws cs : List Int) : (lowL ws cs).length = ws.length := by unfold lowL; rw [List.length_map, List.length_range]
theorem lowL_at (ws cs : List Int) (i : Nat) (h : i < ws.length) : (lowL ws cs)[i]? = some (wt (ws.take i) (cs.take i)) := by
  unfold lowL
  rw [List.getElem?_map, List.getElem?_range h]
  rfl
/-- numbers of a common size -/
def Sm (ws : List Int) : Prop := ∀ w ∈ ws, -(2 ^ 63) < w ∧ w < 2 ^ 63
theorem Sm.take {ws : List Int} (h : Sm ws) (i : Nat) : Sm (ws.take i) := fun w hw => h w (List.mem_of_mem_take hw)
theorem Sm.at {ws : List Int} (h : Sm ws) {i : Nat} {w : Int} (e : ws[i]? = some w) : -(2 ^ 63) < w ∧ w < 2 ^ 63 := h w (List.mem_of_getElem? e)
theorem tar_sm {ws : List Int} (t : Tar ws) : Sm ws := fun w hw => by have := t.rng w hw; omega
/-- a roll of counts from 0 to m -/
structure Roll (n : Nat) (m : Int) (cs : List Int) : Prop where
  len : cs.length = n
  rng : ∀ c ∈ cs, 0 ≤ c ∧ c ≤ m
theorem Roll.sm {n : Nat} {m : Int} {cs : List Int} (r : Roll n m cs) (hm : m ≤ 100000) : Sm cs := fun c hc => by have := r.rng c hc; omega
theorem getD_of {ws : List Int} {i : Nat} {w : Int} (h : ws[i]? = some w) : ws.getD i 0 = w := by rw [List.getD_eq_getElem?_getD, h]; rfl
theorem at_getD {ws : List Int} {i : Nat} {r : Int} (e : r = (i : Int)) (h : i < ws.length) : atI (ws.map V.int) r = some (.int (ws.getD i 0)) :=
  at_of e (by rw [List.getElem?_map, List.getElem?_eq_getElem h, List.getD_eq_getElem?_getD, List.getElem?_eq_getElem h]; rfl)
theorem getD_mem {ws : List Int} {i : Nat} (h : i < ws.length) : ws.getD i 0 ∈ ws := by
  rw [List.getD_eq_getElem?_getD, List.getElem?_eq_getElem h]
  exact List.getElem_mem h

/-! ### weight, lower -/
abbrev s_weight : Stmt := top 6
abbrev N_weight : List Str := ["worths", "counts", "count", "worth"]
theorem sc_weight : FnScope N_weight ["worths", "counts"] (defScope s_weight) := ⟨rfl, rfl, rfl, by decide +kernel, rfl, by decide +kernel, by decide +kernel⟩
abbrev s_lower : Stmt := top 7
abbrev N_lower : List Str := ["worths", "counts", "rank"]
theorem sc_lower : FnScope N_lower ["worths", "counts"] (defScope s_lower) := ⟨rfl, rfl, rfl, by decide +kernel, rfl, by decide +kernel, by decide +kernel⟩

def spWeight (K : PySem.W.Frag) : Sp := fun vs H Q _ => ∃ (a b : Addr) (ws cs : List Int), vs = [.ref a, .ref b] ∧ SqL K H a (ws.map V.int) ∧ SqL K H b (cs.map V.int) ∧ Sm ws ∧ Sm cs ∧ ws.length ≤ 1000 ∧ ∀ H', Ex H H' → Q (.int (wt ws cs)) H'
def spLower (K : PySem.W.Frag) : Sp := fun vs H Q _ => ∃ (a b : Addr) (ws cs : List Int), vs = [.ref a, .ref b] ∧ SqL K H a (ws.map V.int) ∧ SqL K H b (cs.map V.int) ∧ Sm ws ∧ Sm cs ∧ ws.length ≤ 1000 ∧
  ∀ p H', H p = none → Ex H H' → H' p = some (.lst ((lowL ws cs).map V.int)) → Q (.ref p) H'
section
variable {P : Program} {w : World} {K : PySem.W.Frag} {mg : Str → Option Value} {base : Heap}
theorem D_weight (T : Txt K mg) (F : Df K mg "weight" s_weight) : Dn P w K mg base CX0 1 "weight" ["worths", "counts"] (spWeight K) := by
  refine F.dn sc_weight (fun _ _ _ _ _ _ us hl => match us, hl with | [_, _], _ => rfl) (fun vs H Q E h => ?_) (fun f cdv A outer s H vs Q E hr hK h => ?_)
  · obtain ⟨a, b, ws, cs, rfl, _⟩ := h
    rfl
  · obtain ⟨a, b, ws, cs, rfl, ha, hb, sw, sc, hl, k⟩ := h
    refine ⟨_, (pss_one (ps_ret (pe_callB (cr_sum rfl) rfl T.m_sum boot_sum (pa_cons (pe_lc (own := [("worth", 3), ("count", 2)]) (g := gTup K 2 (gCons (gName 3) (gCons (gName 2) (gNil)))) (tt := tYes) rfl sc_weight.nd (pi_zip rfl T.m_zip (pa_cons (pv 0) (pa_cons (pv 1) pa_nil))) (blkOk_by (own := [("worth", 3), ("count", 2)]) (N := N_weight) (sc := defScope s_weight) (by decide +kernel)) (fun _ _ _ _ _ => pg_tup rfl (pgs_cons (pg_name (i := 3) sc_weight.nd rfl (Or.inl rfl)) (pgs_cons (pg_name (i := 2) sc_weight.nd rfl (Or.inl rfl)) pgs_nil))) (fun _ _ _ _ _ => pts_nil) (fun _ _ _ _ _ => (pe_op op_mulB (pv 3) (pv 2)))) pa_nil)))), ?_⟩
    try rw [hK]
    rw [show L2.start N_weight [.ref a, .ref b] = [some (.ref a), some (.ref b), none, none] from rfl]
    walk_at "sx"
    refine x_iZQ ha hb ?_
    have n1 : min (ws.map V.int).length (cs.map V.int).length = min ws.length cs.length := by rw [List.length_map, List.length_map]
    refine x_lcMap (walk_zip n1.symm) (fun i => V.int (ws.getD i 0 * cs.getD i 0)) (sz_of (by omega)) (fun H' e => ⟨ex_l e ha, ex_l e hb⟩) ?turn ?grow ?done
    case turn =>
      rintro D i x H1 H2 Nx hi e1 ⟨p, x1, y1, rfl, hp, rfl, h1, h2⟩ kk
      obtain ⟨u, rfl, hu⟩ := int_of h1
      obtain ⟨v, rfl, hv⟩ := int_of h2
      have bu := sw.at hu
      have bv := sc.at hv
      walk_at "sx"
      rw [show u * v = ws.getD i 0 * cs.getD i 0 by rw [getD_of hu, getD_of hv]]
      exact kk _ (Ex.refl _)
    case grow =>
      rintro i x H1 H2 hi e1 ⟨p, x1, y1, rfl, hp, rfl, h1, h2⟩
      exact Ex.new hp
    case done =>
      intro D H' hD e hl
      walk_at "sx"
      refine x_sumMap hl ?_
      rw [wt_zip]
      exact k _ e
theorem D_lower (T : Txt K mg) (D_weight : Dn P w K mg base CX0 1 "weight" ["worths", "counts"] (spWeight K)) (F : Df K mg "lower" s_lower) : Dn P w K mg base CX0 2 "lower" ["worths", "counts"] (spLower K) := by
  refine F.dn sc_lower (fun _ _ _ _ _ _ us hl => match us, hl with | [_, _], _ => rfl) (fun vs H Q E h => ?_) (fun f cdv A outer s H vs Q E hr hK h => ?_)
  · obtain ⟨a, b, ws, cs, rfl, _⟩ := h
    rfl
  · obtain ⟨a, b, ws, cs, rfl, ha, hb, sw, sc, hl, k⟩ := h
    refine ⟨_, (pss_one (ps_ret (pe_lc (own := [("rank", 2)]) (g := gName 2) (tt := tYes) rfl sc_lower.nd (pi_range1 rfl T.m_range (pa_cons (pe_callB g_len rfl T.m_len boot_len (pa_cons (pv 0) pa_nil)) pa_nil)) (blkOk_by (own := [("rank", 2)]) (N := N_lower) (sc := defScope s_lower) (by decide +kernel)) (fun _ _ _ _ _ => pg_name (i := 2) sc_lower.nd rfl (Or.inl rfl)) (fun _ _ _ _ _ => pts_nil) (fun _ _ _ _ _ => (pe_dn D_weight (hr.mono (by first | decide | omega)) pass0 (pa_cons (pe_slice (r := rSlL K) sl_list (pv 0) po_none (po_some (pv 2))) (pa_cons (pe_slice (r := rSlL K) sl_list (pv 1) po_none (po_some (pv 2))) pa_nil))))))), ?_⟩
    try rw [hK]
    rw [show L2.start N_lower [.ref a, .ref b] = [some (.ref a), some (.ref b), none] from rfl]
    walk_at "sx"
    rw [List.length_map]
    refine x_iRQ (by omega) (by omega) ?_
    rw [show ((ws.length : Nat) : Int).toNat = ws.length from Int.toNat_natCast _]
    refine x_lcMap walk_r0 (fun i => V.int (wt (ws.take i) (cs.take i))) (sz_of (by omega)) (fun _ _ => trivial) ?turn ?grow ?done
    case turn =>
      rintro D i x H1 H2 Nx hi e1 ⟨rfl, rfl⟩ kk
      walk_at "sx"
      refine x_slL (ex_l e1 ha) ?_
      rw [cut_to, ← List.map_take]
      intro p hp
      walk_at "sx"
      refine x_slL (ex_l (e1.trans (Ex.new hp)) hb) ?_
      rw [cut_to, ← List.map_take]
      intro q hq
      walk_at "sx"
      refine ⟨p, q, ws.take i, cs.take i, rfl, ex_l (Ex.new hq) (SqL.of upd_same), SqL.of upd_same, sw.take i, sc.take i, by rw [List.length_take]; omega, fun H3 e3 => ?_⟩
      exact kk H3 ((Ex.new hp).trans ((Ex.new hq).trans e3))
    case grow =>
      rintro i x H1 H2 hi e1 ⟨rfl, rfl⟩
      exact Ex.refl _
    case done =>
      intro D H' hD e hl
      walk_at "sx"
      exact k D H' hD e (by rw [hl]; unfold lowL; rw [List.map_map]; rfl)
end

/-! ### drawn rolls; the law's own weight -/
abbrev s__law_counts : Stmt := top 18
abbrev N__law_counts : List Str := ["_law_box_here", "_law_worths_here", "_law_most", "_law_worth"]
theorem sc__law_counts : FnScope N__law_counts ["_law_box_here", "_law_worths_here", "_law_most"] (defScope s__law_counts) := ⟨rfl, rfl, rfl, by decide +kernel, rfl, by decide +kernel, by decide +kernel⟩

def spCounts (K : PySem.W.Frag) : Sp := fun vs H Q _ => ∃ (b l a : Addr) (ws : List Int) (m : Int) (n : Nat), vs = [.ref b, .ref a, .int m] ∧ BoxAt H b l n ∧ n ≤ 2 ^ 59 ∧ SqL K H a (ws.map V.int) ∧ a ≠ b ∧ ws.length ≤ 10 ∧ 3 ≤ m ∧ m ≤ 1000 ∧
  ∀ (p : Addr) (cs : List Int) (H' : Hp), H p = none → KB b H H' → BoxAt H' b l (n + 30) → H' p = some (.lst (cs.map V.int)) → Roll ws.length m cs → Q (.ref p) H'
section
variable {P : Program} {w : World} {K : PySem.W.Frag} {mg : Str → Option Value} {base : Heap}
theorem D_counts (T : Txt K mg) (D__law_take : Dn P w K mg base CX0 2 "_law_take" ["_law_box_here", "_law_size"] spTake) (F : Df K mg "_law_counts" s__law_counts) : Dn P w K mg base CX0 3 "_law_counts" ["_law_box_here", "_law_worths_here", "_law_most"] (spCounts K) := by
  refine F.dn sc__law_counts (fun _ _ _ _ _ _ us hl => match us, hl with | [_, _, _], _ => rfl) (fun vs H Q E h => ?_) (fun f cdv A outer s H vs Q E hr hK h => ?_)
  · obtain ⟨b, l, a, ws, m, n, rfl, _⟩ := h
    rfl
  · obtain ⟨b, l, a, ws, m, n, rfl, B, hn, ha, nab, hl, hm0, hm, k⟩ := h
    refine ⟨_, (pss_one (ps_ret (pe_lc (own := [("_law_worth", 3)]) (g := gName 3) (tt := tYes) rfl sc__law_counts.nd (pi_list (pv 1)) (blkOk_by (own := [("_law_worth", 3)]) (N := N__law_counts) (sc := defScope s__law_counts) (by decide +kernel)) (fun _ _ _ _ _ => pg_name (i := 3) sc__law_counts.nd rfl (Or.inl rfl)) (fun _ _ _ _ _ => pts_nil) (fun _ _ _ _ _ => (pe_ix (r := rIxL K) ix_list (pe_lst (pa_cons pe_int (pa_cons (pe_dn D__law_take (hr.mono (by first | decide | omega)) pass0 (pa_cons (pv 0) (pa_cons pe_int pa_nil))) (pa_cons (pe_dn D__law_take (hr.mono (by first | decide | omega)) pass0 (pa_cons (pv 0) (pa_cons (pe_op op_add (pv 2) pe_int) pa_nil))) pa_nil)))) (pe_dn D__law_take (hr.mono (by first | decide | omega)) pass0 (pa_cons (pv 0) (pa_cons pe_int pa_nil))) (fun _ _ => rfl)))))), ?_⟩
    try rw [hK]
    rw [show L2.start N__law_counts [.ref b, .ref a, .int m] = [some (.ref b), some (.ref a), some (.int m), none] from rfl]
    walk_at "sx"
    refine x_iLQ ha ?_
    refine x_lcQ walk_list (fun D i H' => H D = none ∧ KB b H H' ∧ BoxAt H' b l (n + 3 * i) ∧ ∃ cs : List Int, H' D = some (.lst (cs.map V.int)) ∧ Roll i m cs) (fun D hD => ⟨hD, KB.new hD, B.ex' (Ex.new hD), [], upd_same, rfl, fun c h => by cases h⟩) (fun D i H' _ p => p.2.1.sqL ha nab) ?_ ?_
    · rintro D i x H1 H1' hi ⟨hD, kb1, B1, cs, hcs, roll⟩ ⟨rfl, hx⟩
      rw [List.length_map] at hi
      have nDb := BoxAt.ne1 hD B
      have nDl := BoxAt.ne2 hD B
      walk_at "sx"
      refine x_take B1 (by omega) (by omega) (by omega) fun r1 H2 a1 a2 kb2 B2 => ?_
      walk_at "sx"
      refine x_take B2 (by omega) (by omega) (by omega) fun r2 H3 b1 b2 kb3 B3 => ?_
      walk_at "sx"
      intro q hq
      walk_at "sx"
      refine x_take (B3.ex' (Ex.new hq)) (by omega) (by omega) (by omega) fun r3 H4 c1 c2 kb4 B4 => ?_
      walk_at "sx"
      obtain ⟨v, hv, hmem⟩ := at_mem (xs := [.int 0, .int r1, .int r2]) c1 c2
      obtain ⟨z, rfl, z1, z2⟩ : ∃ z, v = V.int z ∧ 0 ≤ z ∧ z ≤ m := by
        simp only [List.mem_cons, List.not_mem_nil, or_false] at hmem
        rcases hmem with rfl | rfl | rfl <;> exact ⟨_, rfl, by omega, by omega⟩
      have nqb := BoxAt.ne1 hq B3
      refine x_ixL (kb4.sqL (SqL.of upd_same) nqb) hv ?_
      have h3 : H3 D = some (.lst (cs.map V.int)) := kb3.get nDb (kb2.get nDb hcs)
      have h4 : H4 D = some (.lst (cs.map V.int)) := kb4.get nDb (by rw [upd_ne (ne_fresh hq h3).symm]; exact h3)
      walk_at "sx"
      refine x_elt h4 (by rw [List.length_map, roll.len]; exact small1000 (by omega)) ?_
      refine ⟨hD, (show KB b H H4 by walk_at "kb").mut hD, (B4.upd nDb nDl).mono (by omega), cs ++ [z], by rw [upd_same, List.map_append]; rfl, by rw [List.length_append, roll.len]; rfl, fun c hc => ?_⟩
      rcases List.mem_append.mp hc with h | h
      · exact roll.rng c h
      · rw [List.mem_singleton] at h
        subst h
        exact ⟨z1, z2⟩
    · rintro D H1 ⟨hD, kb1, B1, cs, hcs, roll⟩
      rw [List.length_map] at B1 roll
      walk_at "sx"
      exact k D cs H1 hD kb1 (B1.mono (by omega)) hcs roll
end

/-! ### the law's own weight -/
abbrev s__law_weight : Stmt := top 19
abbrev N__law_weight : List Str := ["_law_worths_here", "_law_counts_here", "_law_total", "_law_rank"]
theorem sc__law_weight : FnScope N__law_weight ["_law_worths_here", "_law_counts_here"] (defScope s__law_weight) := ⟨rfl, rfl, rfl, by decide +kernel, rfl, by decide +kernel, by decide +kernel⟩

def spLWeight (K : PySem.W.Frag) : Sp := fun vs H Q _ => ∃ (a b : Addr) (ws cs : List Int), vs = [.ref a, .ref b] ∧ SqL K H a (ws.map V.int) ∧ SqL K H b (cs.map V.int) ∧ Sm ws ∧ Sm cs ∧ ws.length ≤ 1000 ∧ cs.length = ws.length ∧ Q (.int (wt ws cs)) H
section
variable {P : Program} {w : World} {K : PySem.W.Frag} {mg : Str → Option Value} {base : Heap}
theorem D_lweight (T : Txt K mg) (F : Df K mg "_law_weight" s__law_weight) : Dn P w K mg base CX0 1 "_law_weight" ["_law_worths_here", "_law_counts_here"] (spLWeight K) := by
  refine F.dn sc__law_weight (fun _ _ _ _ _ _ us hl => match us, hl with | [_, _], _ => rfl) (fun vs H Q E h => ?_) (fun f cdv A outer s H vs Q E hr hK h => ?_)
  · obtain ⟨a, b, ws, cs, rfl, _⟩ := h
    rfl
  · obtain ⟨a, b, ws, cs, rfl, ha, hb, sw, sc, hl, hlc, k⟩ := h
    refine ⟨_, (pss_cons (ps_set (i := 2) sc__law_weight.nd rfl (Or.inl rfl) pe_int)
      (pss_cons (ps_for PassesOwn.never rfl (pi_range1 rfl T.m_range (pa_cons (pe_callB g_len rfl T.m_len boot_len (pa_cons (pv 0) pa_nil)) pa_nil)) (pg_name (i := 3) sc__law_weight.nd rfl (Or.inl rfl)) (pss_one (ps_set (i := 2) sc__law_weight.nd rfl (Or.inl rfl) (pe_op op_add (pv 2) (pe_op op_mulB (pe_ix ix_list (pv 0) (pv 3) (fun _ _ => rfl)) (pe_ix ix_list (pv 1) (pv 3) (fun _ _ => rfl)))))))
      (pss_one (ps_ret (pv 2))))), ?_⟩
    try rw [hK]
    rw [show L2.start N__law_weight [.ref a, .ref b] = [some (.ref a), some (.ref b), none, none] from rfl]
    walk_at "sx"
    rw [List.length_map]
    refine x_iRQ (by omega) (by omega) ?_
    rw [show ((ws.length : Nat) : Int).toNat = ws.length from Int.toNat_natCast _]
    refine x_forQ walk_r0 (fun i σ H' => H' = H ∧ ∃ v : Option V, σ = [some (.ref a), some (.ref b), some (.int (wt (ws.take i) (cs.take i))), v]) ⟨rfl, none, by simp [wt_nil]⟩ (fun _ _ _ _ _ => trivial) ?_ ?_
    · rintro i x σ H1 H1' hi ⟨rfl, v, rfl⟩ ⟨rfl, rfl⟩
      have hi2 : i < cs.length := by omega
      have bw := sw _ (getD_mem hi)
      have bc := sc _ (getD_mem hi2)
      walk_at "sx"
      refine x_ixL ha (at_getD (i := i) (by omega) hi) ?_
      walk_at "sx"
      refine x_ixL hb (at_getD (i := i) (by omega) hi2) ?_
      walk_at "sx"
      exact ⟨rfl, _, by rw [wt_take ws cs i hi hi2]⟩
    · rintro σ H1 ⟨rfl, v, rfl⟩
      rw [List.take_of_length_le (Nat.le_refl _), List.take_of_length_le (by omega)]
      walk_at "sx"
      exact k
end

/-! ### what a roll can put up, in plain Lean -/
/-- the worth, the count, the weight of all men below rank i -/
abbrev gd (ws : List Int) (i : Nat) : Int := ws.getD i 0
abbrev low (ws cs : List Int) (i : Nat) : Int := wt (ws.take i) (cs.take i)
/-- the first n ranks can put up m -/
def Mk (ws cs : List Int) : Nat → Int → Prop
  | 0, m => m = 0
  | n + 1, m => ∃ k : Int, 0 ≤ k ∧ k ≤ gd cs n ∧ Mk ws cs n (m - k * gd ws n)
theorem low_zero (ws cs : List Int) : low ws cs 0 = 0 := by simp [low, wt_nil]
theorem low_succ {ws cs : List Int} {i : Nat} (h : i < ws.length) (h2 : cs.length = ws.length) : low ws cs (i + 1) = low ws cs i + gd ws i * gd cs i := wt_take ws cs i h (by omega)
theorem low_all {ws cs : List Int} (h2 : cs.length = ws.length) : low ws cs ws.length = wt ws cs := by
  unfold low
  rw [List.take_of_length_le (Nat.le_refl _), List.take_of_length_le (by omega)]
theorem tar_at {ws : List Int} (t : Tar ws) {i : Nat} (h : i < ws.length) : 1 ≤ gd ws i ∧ gd ws i ≤ 10000 := t.rng _ (getD_mem h)
theorem roll_at {n : Nat} {m : Int} {cs : List Int} (r : Roll n m cs) {i : Nat} (h : i < n) : 0 ≤ gd cs i ∧ gd cs i ≤ m := r.rng _ (getD_mem (by rw [r.len]; exact h))
theorem tar_dvd {ws : List Int} (t : Tar ws) {i : Nat} : ∀ {j : Nat}, i ≤ j → j < ws.length → gd ws i ∣ gd ws j
  | 0, h, _ => by rw [Nat.le_zero.mp h]; exact ⟨1, (Int.mul_one _).symm⟩
  | j + 1, h, hj => by
    rcases Nat.lt_or_eq_of_le h with h1 | h1
    · have d1 := tar_dvd t (i := i) (j := j) (by omega) (by omega)
      have e1 : ws[j]? = some (gd ws j) := by rw [gd, List.getD_eq_getElem?_getD, List.getElem?_eq_getElem (show j < ws.length by omega)]; rfl
      have e2 : ws[j + 1]? = some (gd ws (j + 1)) := by rw [gd, List.getD_eq_getElem?_getD, List.getElem?_eq_getElem hj]; rfl
      exact Int.dvd_trans d1 (Int.dvd_of_emod_eq_zero (t.ch j _ _ e1 e2))
    · subst h1
      exact ⟨1, (Int.mul_one _).symm⟩
theorem low_nn {ws cs : List Int} {m : Int} (t : Tar ws) (r : Roll ws.length m cs) : ∀ {i : Nat}, i ≤ ws.length → 0 ≤ low ws cs i
  | 0, _ => by rw [low_zero]; exact Int.le_refl 0
  | i + 1, h => by
    have ih := low_nn t r (i := i) (by omega)
    have h1 := tar_at t (i := i) (by omega)
    have h2 := roll_at r (i := i) (by omega)
    have h3 := Int.mul_nonneg (show 0 ≤ gd ws i by omega) h2.1
    rw [low_succ (by omega) r.len]
    omega
theorem sub_mod {m k w v : Int} (h : v ∣ w) : (m - k * w) % v = m % v := by
  obtain ⟨c, rfl⟩ := h
  rw [show m - k * (v * c) = m + v * (-(k * c)) by rw [Int.mul_neg, ← Int.mul_assoc, ← Int.mul_assoc, Int.mul_comm v k]; omega]
  exact Int.add_mul_emod_self_left m v _
/-- what can be put up, by rests -/
theorem mk_iff {ws cs : List Int} {mx : Int} (t : Tar ws) (r : Roll ws.length mx cs) : ∀ (n : Nat) (m : Int), n ≤ ws.length → (Mk ws cs n m ↔ 0 ≤ m ∧ m ≤ low ws cs n ∧ ∀ i, i < n → m % gd ws i ≤ low ws cs i)
  | 0, m, _ => by
    rw [low_zero]
    show m = 0 ↔ _
    constructor
    · rintro rfl
      exact ⟨Int.le_refl _, Int.le_refl _, fun i h => absurd h (Nat.not_lt_zero i)⟩
    · intro h
      omega
  | n + 1, m, hn => by
    have ih := fun m => mk_iff t r n m (by omega)
    have hw := tar_at t (i := n) (by omega)
    have hc := roll_at r (i := n) (by omega)
    have hl := low_nn t r (i := n) (by omega)
    have dv : ∀ i, i < n → gd ws i ∣ gd ws n := fun i h => tar_dvd t (by omega) (by omega)
    rw [low_succ (by omega) r.len]
    show (∃ k : Int, 0 ≤ k ∧ k ≤ gd cs n ∧ Mk ws cs n (m - k * gd ws n)) ↔ _
    generalize hw' : gd ws n = w at hw dv ⊢
    generalize gd cs n = c at hc ⊢
    have w0 : 0 ≤ w := by omega
    constructor
    · rintro ⟨k, k0, kc, hm⟩
      obtain ⟨h0, h1, h2⟩ := (ih _).mp hm
      have kw := Int.mul_nonneg k0 w0
      have kcw : k * w ≤ w * c := by
        rw [Int.mul_comm w c]
        exact Int.mul_le_mul_of_nonneg_right kc w0
      refine ⟨by omega, by omega, fun i hi => ?_⟩
      rcases Nat.lt_succ_iff_lt_or_eq.mp hi with h | h
      · rw [← sub_mod (m := m) (k := k) (dv i h)]
        exact h2 i h
      · subst h
        rw [hw', ← sub_mod (m := m) (k := k) (Int.dvd_refl w)]
        have e := Int.mul_ediv_add_emod (m - k * w) w
        have e2 := Int.mul_nonneg w0 (Int.ediv_nonneg h0 w0)
        omega
    · rintro ⟨h0, h1, h2⟩
      have hn2 := h2 n (Nat.lt_succ_self n)
      rw [hw'] at hn2
      have e := Int.mul_ediv_add_emod m w
      have q0 := Int.ediv_nonneg h0 w0
      have r0 := Int.emod_nonneg m (show w ≠ 0 by omega)
      by_cases hq : m / w ≤ c
      · refine ⟨m / w, q0, hq, (ih _).mpr ?_⟩
        have e1 : m - m / w * w = m % w := by rw [Int.mul_comm (m / w) w]; omega
        refine ⟨by omega, by omega, fun i hi => ?_⟩
        rw [sub_mod (dv i hi)]
        exact h2 i (by omega)
      · refine ⟨c, hc.1, Int.le_refl _, (ih _).mpr ?_⟩
        have g : c * w ≤ m / w * w := Int.mul_le_mul_of_nonneg_right (by omega) w0
        rw [Int.mul_comm (m / w) w] at g
        have g2 := Int.mul_comm c w
        refine ⟨by omega, by omega, fun i hi => ?_⟩
        rw [sub_mod (dv i hi)]
        exact h2 i (by omega)
/-- can_put's own look -/
def canB (ws cs : List Int) (m : Int) : Bool := decide (0 ≤ m ∧ m ≤ wt ws cs) && (List.range ws.length).all fun i => decide (m % gd ws i ≤ low ws cs i)
theorem canB_iff {ws cs : List Int} {mx : Int} (t : Tar ws) (r : Roll ws.length mx cs) (m : Int) : canB ws cs m = true ↔ Mk ws cs ws.length m := by
  rw [mk_iff t r ws.length m (Nat.le_refl _), low_all r.len]
  unfold canB
  simp only [Bool.and_eq_true, decide_eq_true_eq, List.all_eq_true, List.mem_range, and_assoc]
/-! ### the tables of sums: bits -/
/-- bit m of B is told by p -/
def Tells (B : Nat) (p : Int → Prop) : Prop := ∀ m : Nat, B.testBit m = true ↔ p (m : Int)
/-- up to s men more of worth w -/
def More (p : Int → Prop) (w : Int) (s : Int) : Int → Prop := fun m => ∃ k : Int, 0 ≤ k ∧ k ≤ s ∧ p (m - k * w)
/-- one doubling -/
theorem more_step {p : Int → Prop} {w s z : Int} {B : Nat} (hw : 0 ≤ w) (hs : 0 ≤ s) (hz : 0 ≤ z) (hzs : z ≤ s + 1) (hp : ∀ m, p m → 0 ≤ m) (h : Tells B (More p w s)) : Tells (B ||| (B <<< (z * w).toNat)) (More p w (s + z)) := by
  intro m
  have zw := Int.mul_nonneg hz hw
  rw [Nat.testBit_or, Nat.testBit_shiftLeft, Bool.or_eq_true, Bool.and_eq_true, decide_eq_true_eq, h m, h (m - (z * w).toNat)]
  constructor
  · rintro (⟨k, k0, k1, hk⟩ | ⟨hm, k, k0, k1, hk⟩)
    · exact ⟨k, k0, by omega, hk⟩
    · refine ⟨k + z, by omega, by omega, ?_⟩
      rw [show (m : Int) - (k + z) * w = ((m - (z * w).toNat : Nat) : Int) - k * w by rw [Int.add_mul]; omega]
      exact hk
  · rintro ⟨k, k0, k1, hk⟩
    by_cases c : k ≤ s
    · exact .inl ⟨k, k0, c, hk⟩
    · have hm := hp _ hk
      have kz : z * w ≤ k * w := Int.mul_le_mul_of_nonneg_right (by omega) hw
      refine .inr ⟨by omega, k - z, by omega, by omega, ?_⟩
      rw [show ((m - (z * w).toNat : Nat) : Int) - (k - z) * w = (m : Int) - k * w by rw [Int.sub_mul]; omega]
      exact hk
theorem more_zero {p : Int → Prop} {w : Int} {B : Nat} (h : Tells B p) : Tells B (More p w 0) := fun m => (h m).trans
  ⟨fun q => ⟨0, Int.le_refl _, Int.le_refl _, by rw [Int.zero_mul, Int.sub_zero]; exact q⟩, fun ⟨k, k0, k1, hk⟩ => by
    have e : k = 0 := by omega
    rw [e, Int.zero_mul, Int.sub_zero] at hk
    exact hk⟩
theorem mk_nn {ws cs : List Int} {mx : Int} (t : Tar ws) (r : Roll ws.length mx cs) {n : Nat} (hn : n ≤ ws.length) : ∀ m, Mk ws cs n m → 0 ≤ m := fun m h => ((mk_iff t r n m hn).mp h).1
theorem bits_lt {B n k : Nat} (h : B < 2 ^ n) : B ||| (B <<< k) < 2 ^ (n + k) := by
  refine Nat.or_lt_two_pow (Nat.lt_of_lt_of_le h (Nat.pow_le_pow_right (by decide) (by omega))) ?_
  rw [Nat.shiftLeft_eq, Nat.pow_add]
  exact Nat.mul_lt_mul_of_pos_right h (Nat.two_pow_pos k)
theorem low_le {ws cs : List Int} (t : Tar ws) (r : Roll ws.length 61 cs) : ∀ {i : Nat}, i ≤ ws.length → low ws cs i ≤ (i : Int) * 610000
  | 0, _ => by rw [low_zero]; decide
  | i + 1, h => by
    have ih := low_le t r (i := i) (by omega)
    have h1 := tar_at t (i := i) (by omega)
    have h2 := roll_at r (i := i) (by omega)
    have h3 : gd ws i * gd cs i ≤ 10000 * 61 := Int.mul_le_mul h1.2 h2.2 h2.1 (by decide)
    rw [low_succ (by omega) r.len]
    omega

/-! ### can_put -/
abbrev s_can_put : Stmt := top 9
abbrev N_can_put : List Str := ["worths", "counts", "many", "worth", "below"]
theorem sc_can_put : FnScope N_can_put ["worths", "counts", "many"] (defScope s_can_put) := ⟨rfl, rfl, rfl, by decide +kernel, rfl, by decide +kernel, by decide +kernel⟩

def spCan (K : PySem.W.Frag) : Sp := fun vs H Q _ => ∃ (a b : Addr) (ws cs : List Int) (mx m : Int), vs = [.ref a, .ref b, .int m] ∧ SqL K H a (ws.map V.int) ∧ SqL K H b (cs.map V.int) ∧ Tar ws ∧ Roll ws.length mx cs ∧ mx ≤ 1000 ∧ ∀ H', Ex H H' → Q (.bl (canB ws cs m)) H'
section
variable {P : Program} {w : World} {K : PySem.W.Frag} {mg : Str → Option Value} {base : Heap}
theorem D_can (T : Txt K mg) (D_weight : Dn P w K mg base CX0 1 "weight" ["worths", "counts"] (spWeight K)) (D_lower : Dn P w K mg base CX0 2 "lower" ["worths", "counts"] (spLower K)) (F : Df K mg "can_put" s_can_put) : Dn P w K mg base CX0 3 "can_put" ["worths", "counts", "many"] (spCan K) := by
  refine F.dn sc_can_put (fun _ _ _ _ _ _ us hl => match us, hl with | [_, _, _], _ => rfl) (fun vs H Q E h => ?_) (fun f cdv A outer s H vs Q E hr hK h => ?_)
  · obtain ⟨a, b, ws, cs, mx, m, rfl, _⟩ := h
    rfl
  · obtain ⟨a, b, ws, cs, mx, m, rfl, ha, hb, t, r, hmx, k⟩ := h
    refine ⟨_, (pss_cons (ps_if (PW.pt (pw_or (pt_cmpR op_lt (pv 2) pe_int (nomark _)) (pw_or1 (pt_cmpR op_gt (pv 2) (pe_dn D_weight (hr.mono (by first | decide | omega)) pass0 (pa_cons (pv 0) (pa_cons (pv 1) pa_nil))) (nomark _))))) (pss_one (ps_ret pe_bl)) pss_nil)
      (pss_cons (ps_for PassesOwn.never rfl (pi_zip rfl T.m_zip (pa_cons (pv 0) (pa_cons (pe_dn D_lower (hr.mono (by first | decide | omega)) pass0 (pa_cons (pv 0) (pa_cons (pv 1) pa_nil))) pa_nil))) (pg_tup rfl (pgs_cons (pg_name (i := 3) sc_can_put.nd rfl (Or.inl rfl)) (pgs_cons (pg_name (i := 4) sc_can_put.nd rfl (Or.inl rfl)) pgs_nil))) (pss_one (ps_if (pt_cmpR op_gt (pe_op op_mod (pv 2) (pv 3)) (pv 4) (nomark _)) (pss_one (ps_ret pe_bl)) pss_nil)))
      (pss_one (ps_ret pe_bl)))), ?_⟩
    try rw [hK]
    rw [show L2.start N_can_put [.ref a, .ref b, .int m] = [some (.ref a), some (.ref b), some (.int m), none, none] from rfl]
    have tl := t.len
    have sw := tar_sm t
    have sc := r.sm (by omega)
    have no : ∀ H', Ex H H' → canB ws cs m = false → Q (.bl false) H' := fun H' e g => by rw [← g]; exact k H' e
    walk_at "sx"
    refine x_orD (fun c => ?_) (fun c => ?_)
    · walk_at "sx"
      exact no _ (Ex.refl _) (by unfold canB; rw [decide_eq_false (by omega), Bool.false_and])
    · walk_at "sx"
      refine ⟨a, b, ws, cs, rfl, ha, hb, sw, sc, by omega, fun H1 e1 => ?_⟩
      walk_at "sx"
      refine x_ifD (fun c2 => ?_) (fun c2 => ?_)
      · walk_at "sx"
        exact no _ e1 (by unfold canB; rw [decide_eq_false (by omega), Bool.false_and])
      · walk_at "sx"
        refine ⟨a, b, ws, cs, rfl, ex_l e1 ha, ex_l e1 hb, sw, sc, by omega, fun p H2 hp e2 h2 => ?_⟩
        walk_at "sx"
        have e12 := e1.trans e2
        refine x_iZQ (ex_l e12 ha) (SqL.of h2) ?_
        have n1 : min (ws.map V.int).length ((lowL ws cs).map V.int).length = ws.length := by rw [List.length_map, List.length_map, lowL_len]; omega
        refine x_forQ (walk_zip n1.symm) (fun i σ H' => Ex H2 H' ∧ (∀ j, j < i → m % gd ws j ≤ low ws cs j) ∧ ∃ v1 v2, σ = [some (.ref a), some (.ref b), some (.int m), v1, v2]) ⟨Ex.refl _, fun j h => absurd h (Nat.not_lt_zero j), none, none, rfl⟩ (fun i σ H' _ p => ⟨ex_l (e12.trans p.1) ha, ex_l p.1 (SqL.of h2)⟩) ?_ ?_
        · rintro i x σ H3 H3' hi ⟨e3, hall, v1, v2, rfl⟩ ⟨q, x1, y1, rfl, hq, rfl, h1, h2⟩
          obtain ⟨u, rfl, hu⟩ := int_of h1
          obtain ⟨v, rfl, hv⟩ := int_of h2
          rw [lowL_at ws cs i hi] at hv
          cases hv
          have hw := tar_at t hi
          have eu : gd ws i = u := getD_of hu
          have ea : Ex H H3 := e12.trans e3
          have eb : Ex H3 (upd H3 q (.tup [.int u, .int (wt (ws.take i) (cs.take i))])) := Ex.new hq
          walk_at "sx"
          refine x_ifD (fun c3 => ?_) (fun c3 => ?_)
          · walk_at "sx"
            refine no _ (ea.trans eb) ?_
            have g : ((List.range ws.length).all fun i => decide (m % gd ws i ≤ low ws cs i)) = false := List.all_eq_false.mpr ⟨i, List.mem_range.mpr hi, by rw [decide_eq_true_eq, eu]; show ¬ m % u ≤ wt (ws.take i) (cs.take i); omega⟩
            unfold canB
            rw [g, Bool.and_false]
          · walk_at "sx"
            refine ⟨e3.trans eb, fun j hj => ?_, _, _, rfl⟩
            rcases Nat.lt_succ_iff_lt_or_eq.mp hj with h | h
            · exact hall j h
            · subst h
              rw [eu]
              show m % u ≤ wt (ws.take j) (cs.take j)
              omega
        · rintro σ H3 ⟨e3, hall, v1, v2, rfl⟩
          walk_at "sx"
          have g : canB ws cs m = true := by
            unfold canB
            rw [Bool.and_eq_true, decide_eq_true_eq, List.all_eq_true]
            exact ⟨by omega, fun i hi => decide_eq_true (hall i (List.mem_range.mp hi))⟩
          rw [← g]
          exact k _ (e12.trans e3)
end

/-! ### the part that is put up, in plain Lean -/
/-- the first n ranks, from the highest down -/
def gp (ws cs : List Int) : Nat → Int → List Int
  | 0, _ => []
  | n + 1, m => gp ws cs n (m - min (gd cs n) (m / gd ws n) * gd ws n) ++ [min (gd cs n) (m / gd ws n)]
theorem gp_len (ws cs : List Int) : ∀ (n : Nat) (m : Int), (gp ws cs n m).length = n
  | 0, _ => rfl
  | n + 1, m => by
    unfold gp
    rw [List.length_append, gp_len ws cs n]
    rfl
theorem gp_step {ws cs : List Int} {mx : Int} (t : Tar ws) (r : Roll ws.length mx cs) {n : Nat} {m : Int} (hn : n < ws.length) (h : Mk ws cs (n + 1) m) :
    0 ≤ m ∧ 0 ≤ min (gd cs n) (m / gd ws n) ∧ min (gd cs n) (m / gd ws n) ≤ gd cs n ∧ Mk ws cs n (m - min (gd cs n) (m / gd ws n) * gd ws n) := by
  obtain ⟨h0, h1, h2⟩ := (mk_iff t r (n + 1) m (by omega)).mp h
  have hw := tar_at t (i := n) (by omega)
  have hc := roll_at r (i := n) (by omega)
  have hl := low_nn t r (i := n) (by omega)
  have dv : ∀ i, i < n → gd ws i ∣ gd ws n := fun i h => tar_dvd t (by omega) (by omega)
  rw [low_succ (by omega) r.len] at h1
  have hn2 := h2 n (Nat.lt_succ_self n)
  generalize gd ws n = w at hw dv h1 hn2 ⊢
  generalize gd cs n = c at hc h1 ⊢
  have e := Int.mul_ediv_add_emod m w
  have q0 := Int.ediv_nonneg h0 (show (0 : Int) ≤ w by omega)
  have r0 := Int.emod_nonneg m (show w ≠ 0 by omega)
  have k0 : 0 ≤ min c (m / w) := by omega
  have kc : min c (m / w) ≤ c := by omega
  have kq : min c (m / w) ≤ m / w := by omega
  refine ⟨h0, k0, kc, (mk_iff t r n _ (by omega)).mpr ⟨?_, ?_, fun i hi => ?_⟩⟩
  · have g : min c (m / w) * w ≤ m / w * w := Int.mul_le_mul_of_nonneg_right kq (by omega)
    rw [Int.mul_comm (m / w) w] at g
    omega
  · by_cases hq : m / w ≤ c
    · rw [Int.min_eq_right hq, Int.mul_comm (m / w) w]
      omega
    · rw [Int.min_eq_left (by omega), Int.mul_comm c w]
      omega
  · rw [sub_mod (dv i hi)]
    exact h2 i (by omega)
theorem wt_snoc : ∀ (as bs : List Int) (x y : Int), as.length = bs.length → wt (as ++ [x]) (bs ++ [y]) = wt as bs + x * y
  | [], [], x, y, _ => by simp [wt]
  | [], _ :: _, _, _, h => by simp at h
  | _ :: _, [], _, _, h => by simp at h
  | a :: as, b :: bs, x, y, h => by
    have ih := wt_snoc as bs x y (by simpa using h)
    show a * b + wt (as ++ [x]) (bs ++ [y]) = (a * b + wt as bs) + x * y
    rw [ih]; omega
theorem take_snoc {ws : List Int} {n : Nat} (h : n < ws.length) : ws.take (n + 1) = ws.take n ++ [gd ws n] := by
  rw [List.take_succ, List.getElem?_eq_getElem h, gd, List.getD_eq_getElem?_getD, List.getElem?_eq_getElem h]
  rfl
/-- it is a part, and weighs what it must -/
theorem gp_ok {ws cs : List Int} {mx : Int} (t : Tar ws) (r : Roll ws.length mx cs) : ∀ (n : Nat) (m : Int), n ≤ ws.length → Mk ws cs n m → wt (ws.take n) (gp ws cs n m) = m ∧ ∀ j, j < n → 0 ≤ gd (gp ws cs n m) j ∧ gd (gp ws cs n m) j ≤ gd cs j
  | 0, m, _, h => ⟨by rw [show m = 0 from h]; rfl, fun j h => absurd h (Nat.not_lt_zero j)⟩
  | n + 1, m, hn, h => by
    obtain ⟨h0, k0, kc, hm⟩ := gp_step t r (by omega) h
    obtain ⟨i1, i2⟩ := gp_ok t r n _ (by omega) hm
    unfold gp
    refine ⟨?_, fun j hj => ?_⟩
    · rw [take_snoc (by omega), wt_snoc _ _ _ _ (by rw [gp_len, List.length_take]; omega), i1, Int.mul_comm (gd ws n)]
      omega
    · have l := gp_len ws cs n (m - min (gd cs n) (m / gd ws n) * gd ws n)
      generalize gp ws cs n (m - min (gd cs n) (m / gd ws n) * gd ws n) = g at i2 l ⊢
      generalize min (gd cs n) (m / gd ws n) = q at k0 kc ⊢
      by_cases c : j < n
      · have e2 : gd (g ++ [q]) j = gd g j := by
          rw [gd, gd, List.getD_eq_getElem?_getD, List.getD_eq_getElem?_getD, List.getElem?_append_left (by omega)]
        rw [e2]
        exact i2 j c
      · have e : j = n := by omega
        subst e
        have e2 : gd (g ++ [q]) j = q := by
          rw [gd, List.getD_eq_getElem?_getD, ← l, List.getElem?_concat_length]
          rfl
        rw [e2]
        exact ⟨k0, kc⟩
/-- the whole part -/
def gpart (ws cs : List Int) (m : Int) : List Int := gp ws cs ws.length m
theorem gpart_len (ws cs : List Int) (m : Int) : (gpart ws cs m).length = ws.length := gp_len ws cs _ m
theorem gpart_wt {ws cs : List Int} {mx : Int} (t : Tar ws) (r : Roll ws.length mx cs) {m : Int} (h : Mk ws cs ws.length m) : wt ws (gpart ws cs m) = m := by
  have q := (gp_ok t r ws.length m (Nat.le_refl _) h).1
  rw [List.take_of_length_le (Nat.le_refl _)] at q
  exact q
theorem gpart_rng {ws cs : List Int} {mx : Int} (t : Tar ws) (r : Roll ws.length mx cs) {m : Int} (h : Mk ws cs ws.length m) : ∀ j, j < ws.length → 0 ≤ gd (gpart ws cs m) j ∧ gd (gpart ws cs m) j ≤ gd cs j :=
  (gp_ok t r ws.length m (Nat.le_refl _) h).2
/-- any part of a roll is put up -/
theorem mk_part {ws cs ps : List Int} (hl : ps.length = ws.length) (h : ∀ j, j < ws.length → 0 ≤ gd ps j ∧ gd ps j ≤ gd cs j) : ∀ n, n ≤ ws.length → Mk ws cs n (low ws ps n)
  | 0, _ => low_zero ws ps
  | n + 1, hn => by
    have ih := mk_part hl h n (by omega)
    have hb := h n (by omega)
    refine ⟨gd ps n, hb.1, hb.2, ?_⟩
    rw [low_succ (by omega) hl, show low ws ps n + gd ws n * gd ps n - gd ps n * gd ws n = low ws ps n by rw [Int.mul_comm (gd ps n)]; omega]
    exact ih
theorem mk_part_all {ws cs ps : List Int} (hl : ps.length = ws.length) (h : ∀ j, j < ws.length → 0 ≤ gd ps j ∧ gd ps j ≤ gd cs j) : Mk ws cs ws.length (wt ws ps) := by
  rw [← low_all hl]
  exact mk_part hl h ws.length (Nat.le_refl _)
/-- on the way: k ranks are left, the others stand -/
theorem gp_turn {ws cs : List Int} {k : Nat} {m : Int} {suf : List Int} : (List.replicate (k + 1) (0 : Int) ++ suf).set k (min (gd cs k) (m / gd ws k)) = List.replicate k 0 ++ ([min (gd cs k) (m / gd ws k)] ++ suf) := by
  rw [List.replicate_succ', List.append_assoc, List.set_append_right _ _ (by rw [List.length_replicate]; exact Nat.le_refl k), List.length_replicate, Nat.sub_self]
  rfl

/-! ### put_up -/
abbrev s_put_up : Stmt := top 10
abbrev N_put_up : List Str := ["worths", "counts", "many", "part", "rank"]
theorem sc_put_up : FnScope N_put_up ["worths", "counts", "many"] (defScope s_put_up) := ⟨rfl, rfl, rfl, by decide +kernel, rfl, by decide +kernel, by decide +kernel⟩

def spPut (K : PySem.W.Frag) : Sp := fun vs H Q E => ∃ (a b : Addr) (ws cs : List Int) (mx m : Int), vs = [.ref a, .ref b, .int m] ∧ SqL K H a (ws.map V.int) ∧ SqL K H b (cs.map V.int) ∧ Tar ws ∧ Roll ws.length mx cs ∧ mx ≤ 1000 ∧
  (canB ws cs m = true → ∀ p H', H p = none → Ex H H' → H' p = some (.lst ((gpart ws cs m).map V.int)) → Q (.ref p) H') ∧ (canB ws cs m = false → ∀ H', Ex H H' → E (.ref (He.ga K "NoPart")) none H')
theorem at_mid (k : Nat) (q : Int) (suf : List Int) : atI ((List.replicate k (0 : Int) ++ ([q] ++ suf)).map V.int) (k : Int) = some (.int q) :=
  at_of (j := k) rfl (by rw [List.getElem?_map, List.getElem?_append_right (by rw [List.length_replicate]; exact Nat.le_refl k), List.length_replicate, Nat.sub_self]; rfl)
section
variable {P : Program} {w : World} {K : PySem.W.Frag} {mg : Str → Option Value} {base : Heap}
theorem D_put (T : Txt K mg) (D_can_put : Dn P w K mg base CX0 3 "can_put" ["worths", "counts", "many"] (spCan K)) (F : Df K mg "put_up" s_put_up) : Dn P w K mg base (L2.CX P w) 4 "put_up" ["worths", "counts", "many"] (spPut K) := by
  refine F.dnX sc_put_up (fun _ _ _ _ _ _ us hl => match us, hl with | [_, _, _], _ => rfl) (fun vs H Q E h => ?_) (fun f cdv A outer s H vs Q E hr hK h => ?_)
  · obtain ⟨a, b, ws, cs, mx, m, rfl, _⟩ := h
    rfl
  · obtain ⟨a, b, ws, cs, mx, m, rfl, ha, hb, t, r, hmx, yes, no⟩ := h
    refine ⟨_, (pss_cons (ps_if (pt_not (pt_val (pe_dn D_can_put (hr.mono (by first | decide | omega)) pass0 (pa_cons (pv 0) (pa_cons (pv 1) (pa_cons (pv 2) pa_nil)))))) (pss_one (ps_raise rfl (takes_of rfl rfl rfl rfl) (pmk_own PySem.F.excBase_ValueError T.x_NoPart.xi T.x_NoPart.g T.x_NoPart.k (raises_own T.x_NoPart.b T.x_NoPart.t) rfl))) pss_nil)
      (pss_cons (ps_set (i := 3) sc_put_up.nd rfl (Or.inl rfl) (pe_op op_rep (pe_lst (pa_cons pe_int pa_nil)) (pe_callB g_len rfl T.m_len boot_len (pa_cons (pv 0) pa_nil))))
      (pss_cons (ps_for (passes_of rfl) rfl (pi_revR rfl T.m_reversed (prg_1 rfl T.m_range (pe_callB g_len rfl T.m_len boot_len (pa_cons (pv 0) pa_nil)))) (pg_name (i := 4) sc_put_up.nd rfl (Or.inl rfl)) (pss_cons (ps_asg (pe_callB (g_min rfl) rfl T.m_min boot_min (pa_cons (pe_ix ix_list (pv 1) (pv 4) (fun _ _ => rfl)) (pa_cons (pe_op op_fdivW (pv 2) (pe_ix ix_list (pv 0) (pv 4) (fun _ _ => rfl))) pa_nil))) (pg_sub (pv 3) (pv 4) set_list))
      (pss_one (ps_aug (i := 2) sc_put_up.nd rfl (Or.inl rfl) (pe_op op_mulB (pe_ix ix_list (pv 3) (pv 4) (fun _ _ => rfl)) (pe_ix ix_list (pv 0) (pv 4) (fun _ _ => rfl))) ip_sub))))
      (pss_one (ps_ret (pv 3)))))), ?_⟩
    try rw [hK]
    rw [show L2.start N_put_up [.ref a, .ref b, .int m] = [some (.ref a), some (.ref b), some (.int m), none, none] from rfl]
    have tl := t.len
    walk_at "sx"
    refine ⟨a, b, ws, cs, mx, m, rfl, ha, hb, t, r, hmx, fun H1 e1 => ?_⟩
    cases hc : canB ws cs m with
    | false =>
      walk_at "sx"
      exact no hc H1 e1
    | true =>
      have hm := (canB_iff t r m).mp hc
      walk_at "sx"
      intro p hp
      walk_at "sx"
      rw [List.length_map]
      refine x_rep upd_same (by omega) (by omega) (by simp; exact sz_of (by omega)) fun q hq => ?_
      rw [show (List.replicate ((ws.length : Nat) : Int).toNat [V.int 0]).flatten = (List.replicate ws.length (0 : Int)).map V.int by
        rw [Int.toNat_natCast, List.map_replicate]
        simp]
      have e2 := e1.trans ((Ex.new hp (o := .lst [.int 0])).trans (Ex.new hq (o := .lst ((List.replicate ws.length (0 : Int)).map V.int))))
      have hq0 : H q = none := Same.free (e1.trans (Ex.new hp)) hq
      have hq2 : upd (upd H1 p (.lst [.int 0])) q (.lst ((List.replicate ws.length (0 : Int)).map V.int)) q = some (.lst ((List.replicate ws.length (0 : Int)).map V.int)) := upd_same
      generalize upd (upd H1 p (.lst [.int 0])) q (.lst ((List.replicate ws.length (0 : Int)).map V.int)) = H2 at e2 hq2 ⊢
      walk_at "sx"
      rw [List.length_map]
      refine x_rrQ (by omega) ?_
      refine x_forQ walk_rr (fun i σ H' => Ex H H' ∧ ∃ (z : Int) (suf : List Int) (v : Option V), σ = [some (.ref a), some (.ref b), some (.int z), some (.ref q), v] ∧ H' q = some (.lst ((List.replicate (ws.length - i) (0 : Int) ++ suf).map V.int)) ∧ Mk ws cs (ws.length - i) z ∧ gpart ws cs m = gp ws cs (ws.length - i) z ++ suf)
        ⟨e2, m, [], none, rfl, by rw [Nat.sub_zero, List.append_nil]; exact hq2, by rw [Nat.sub_zero]; exact hm, by rw [Nat.sub_zero, List.append_nil]; rfl⟩ (fun _ _ _ _ _ => trivial) ?_ ?_
      · rintro i x σ H5 H5' hi ⟨e5, z, suf, v, rfl, h5, hz, hg⟩ ⟨rfl, rfl⟩
        obtain ⟨k, hk⟩ : ∃ k, ws.length - i = k + 1 := ⟨ws.length - i - 1, by omega⟩
        have hk2 : ws.length - (i + 1) = k := by omega
        have ej : (ws.length : Int) - 1 - (i : Int) = (k : Int) := by omega
        rw [hk2]
        rw [hk] at h5 hz hg
        rw [ej]
        obtain ⟨z0, k0, kc, hz2⟩ := gp_step t r (by omega) hz
        have hw := tar_at t (i := k) (by omega)
        have hcs := roll_at r (i := k) (by omega)
        have rl := r.len
        walk_at "sx"
        refine x_ixL (ex_l e5 hb) (at_getD (i := k) rfl (by omega)) ?_
        walk_at "sx"
        refine x_ixL (ex_l e5 ha) (at_getD (i := k) rfl (by omega)) ?_
        refine run ?_
        refine x_div (by show 0 < gd ws k; omega) (by show gd ws k < 2 ^ 64; omega) ?_
        walk_at "sx"
        rw [min_if]
        have hlen : ((List.replicate (k + 1) (0 : Int) ++ suf).map V.int).length = k + 1 + suf.length := by rw [List.length_map, List.length_append, List.length_replicate]
        refine x_setL h5 (ixN_nat (by omega)) ?_
        rw [set_ints]
        have eset := gp_turn (ws := ws) (cs := cs) (k := k) (m := z) (suf := suf)
        unfold gd at eset
        rw [eset]
        walk_at "sx"
        walk_at "sx"
        refine x_ixL (SqL.of upd_same) (at_mid k (min (cs.getD k 0) (z / ws.getD k 0)) suf) ?_
        walk_at "sx"
        refine x_ixL (ex_l (Ex.mut e5 hq0) ha) (at_getD (i := k) rfl (by omega)) ?_
        have b0 : 0 ≤ min (cs.getD k 0) (z / ws.getD k 0) := k0
        have b1 : min (cs.getD k 0) (z / ws.getD k 0) ≤ cs.getD k 0 := kc
        have b2 : cs.getD k 0 ≤ mx := hcs.2
        have b3 : 1 ≤ ws.getD k 0 ∧ ws.getD k 0 ≤ 10000 := hw
        refine run ?_
        refine x_mul (by omega) (by omega) (by omega) (by omega) ?_
        walk_at "sx"
        refine ⟨Ex.mut e5 hq0, _, _, _, rfl, upd_same, hz2, ?_⟩
        rw [hg, show gp ws cs (k + 1) z = gp ws cs k (z - min (gd cs k) (z / gd ws k) * gd ws k) ++ [min (gd cs k) (z / gd ws k)] from rfl, List.append_assoc]
      · rintro σ H5 ⟨e5, z, suf, v, rfl, h5, hz, hg⟩
        rw [Nat.sub_self] at h5 hg
        have e : gpart ws cs m = suf := hg
        walk_at "sx"
        refine yes hc q H5 hq0 e5 ?_
        rw [e, h5]
        rfl
end

/-! ### two drawn rolls -/
abbrev s__law_two_rolls : Stmt := top 23
abbrev N__law_two_rolls : List Str := ["_law_box_here", "_law_worths_here", "_law_most"]
theorem sc__law_two_rolls : FnScope N__law_two_rolls ["_law_box_here"] (defScope s__law_two_rolls) := ⟨rfl, rfl, rfl, by decide +kernel, rfl, by decide +kernel, by decide +kernel⟩

def spTwo (K : PySem.W.Frag) : Sp := fun vs H Q _ => ∃ (b l : Addr) (n : Nat), vs = [.ref b] ∧ BoxAt H b l n ∧ n ≤ 2 ^ 58 ∧
  ∀ (t p pc pd : Addr) (ws cs ds : List Int) (H' : Hp), KB b H H' → BoxAt H' b l (n + 90) → H p = none → H pc = none → H pd = none → p ≠ pc → p ≠ pd → pc ≠ pd → H' t = some (.tup [.ref p, .ref pc, .ref pd]) → H' p = some (.lst (ws.map V.int)) → H' pc = some (.lst (cs.map V.int)) → H' pd = some (.lst (ds.map V.int)) → Tar ws → Roll ws.length 60 cs → Roll ws.length 60 ds → Q (.ref t) H'
theorem Roll.mono {n : Nat} {m k : Int} {cs : List Int} (r : Roll n m cs) (h : m ≤ k) : Roll n k cs := ⟨r.len, fun c hc => by have := r.rng c hc; omega⟩
section
variable {P : Program} {w : World} {K : PySem.W.Frag} {mg : Str → Option Value} {base : Heap}
theorem D_two (T : Txt K mg) (D__law_take : Dn P w K mg base CX0 2 "_law_take" ["_law_box_here", "_law_size"] spTake) (D__law_worths : Dn P w K mg base CX0 3 "_law_worths" ["_law_box_here", "_law_ranks"] spWorths)
    (D__law_counts : Dn P w K mg base CX0 3 "_law_counts" ["_law_box_here", "_law_worths_here", "_law_most"] (spCounts K)) (F : Df K mg "_law_two_rolls" s__law_two_rolls) : Dn P w K mg base CX0 4 "_law_two_rolls" ["_law_box_here"] (spTwo K) := by
  refine F.dn sc__law_two_rolls (fun _ _ _ _ _ _ us hl => match us, hl with | [_], _ => rfl) (fun vs H Q E h => ?_) (fun f cdv A outer s H vs Q E hr hK h => ?_)
  · obtain ⟨b, l, n, rfl, _⟩ := h
    rfl
  · obtain ⟨b, l, n, rfl, B, hn, k⟩ := h
    refine ⟨_, (pss_cons (ps_set (i := 1) sc__law_two_rolls.nd rfl (Or.inl rfl) (pe_dn D__law_worths (hr.mono (by first | decide | omega)) pass0 (pa_cons (pv 0) (pa_cons (pe_ix ix_list (pe_lst (pa_cons pe_int (pa_cons pe_int (pa_cons (pe_op op_add pe_int (pe_dn D__law_take (hr.mono (by first | decide | omega)) pass0 (pa_cons (pv 0) (pa_cons pe_int pa_nil)))) pa_nil)))) (pe_dn D__law_take (hr.mono (by first | decide | omega)) pass0 (pa_cons (pv 0) (pa_cons pe_int pa_nil))) (fun _ _ => rfl)) pa_nil))))
      (pss_cons (ps_set (i := 2) sc__law_two_rolls.nd rfl (Or.inl rfl) (pe_ix ix_list (pe_lst (pa_cons pe_int (pa_cons pe_int (pa_cons pe_int pa_nil)))) (pe_dn D__law_take (hr.mono (by first | decide | omega)) pass0 (pa_cons (pv 0) (pa_cons pe_int pa_nil))) (fun _ _ => rfl)))
      (pss_one (ps_ret (pe_tup (pa_cons (pv 1) (pa_cons (pe_dn D__law_counts (hr.mono (by first | decide | omega)) pass0 (pa_cons (pv 0) (pa_cons (pv 1) (pa_cons (pv 2) pa_nil)))) (pa_cons (pe_dn D__law_counts (hr.mono (by first | decide | omega)) pass0 (pa_cons (pv 0) (pa_cons (pv 1) (pa_cons (pv 2) pa_nil)))) pa_nil)))))))), ?_⟩
    try rw [hK]
    rw [show L2.start N__law_two_rolls [.ref b] = [some (.ref b), none, none] from rfl]
    walk_at "sx"
    refine x_take B (by omega) (by omega) (by omega) fun r1 H1 a1 a2 kb1 B1 => ?_
    walk_at "sx"
    intro q1 hq1
    walk_at "sx"
    refine x_take (B1.ex' (Ex.new hq1)) (by omega) (by omega) (by omega) fun r2 H2 b1 b2 kb2 B2 => ?_
    walk_at "sx"
    obtain ⟨v, hv, hm⟩ := at_mem (xs := [.int 6, .int 6, .int (1 + r1)]) b1 b2
    obtain ⟨z, rfl, z1, z2⟩ : ∃ z, v = V.int z ∧ 1 ≤ z ∧ z ≤ 6 := by
      simp only [List.mem_cons, List.not_mem_nil, or_false] at hm
      rcases hm with rfl | rfl | rfl <;> exact ⟨_, rfl, by omega, by omega⟩
    refine x_ixL (kb2.sqL (SqL.of upd_same) (BoxAt.ne1 hq1 B1)) hv ?_
    walk_at "sx"
    refine ⟨b, l, z, _, rfl, z1, z2, B2, by omega, fun p ws H3 hp kb3 B3 hl3 tar hws => ?_⟩
    walk_at "sx"
    intro q4 hq4
    walk_at "sx"
    refine x_take (B3.ex' (Ex.new hq4)) (by omega) (by omega) (by omega) fun r5 H5 c1 c2 kb5 B5 => ?_
    walk_at "sx"
    obtain ⟨v, hv, hm⟩ := at_mem (xs := [.int 60, .int 4, .int 12]) c1 c2
    obtain ⟨y, rfl, y1, y2⟩ : ∃ z, v = V.int z ∧ 3 ≤ z ∧ z ≤ 60 := by
      simp only [List.mem_cons, List.not_mem_nil, or_false] at hm
      rcases hm with rfl | rfl | rfl <;> exact ⟨_, rfl, by omega, by omega⟩
    refine x_ixL (kb5.sqL (SqL.of upd_same) (BoxAt.ne1 hq4 B3)) hv ?_
    have npb := BoxAt.ne1 hp B2
    have h5 : H5 p = some (.lst (ws.map V.int)) := kb5.get npb (Ex.new hq4 _ _ hl3)
    have kb02 : KB b H H2 := kb1.trans ((KB.new hq1).trans kb2)
    have kb05 : KB b H H5 := kb02.trans (kb3.trans ((KB.new hq4).trans kb5))
    have tl := tar.len
    walk_at "sx"
    refine ⟨b, l, p, ws, y, _, rfl, B5, by omega, SqL.of h5, npb, by omega, y1, by omega, fun pc cs H6 hpc kb6 B6 h6 rc => ?_⟩
    have h6p : H6 p = some (.lst (ws.map V.int)) := kb6.get npb h5
    have ncb := BoxAt.ne1 hpc B5
    walk_at "sx"
    refine ⟨b, l, p, ws, y, _, rfl, B6, by omega, SqL.of h6p, npb, by omega, y1, by omega, fun pd ds H7 hpd kb7 B7 h7 rd => ?_⟩
    walk_at "sx"
    intro t ht
    walk_at "sx"
    have h7p := kb7.get npb h6p
    have h7c := kb7.get ncb h6
    have kb07 : KB b H H7 := kb05.trans (kb6.trans kb7)
    exact k t p pc pd ws cs ds _ (kb07.trans (KB.new ht)) ((B7.ex' (Ex.new ht)).mono (by omega)) (kb02.fresh B2.some hp) (kb05.fresh B5.some hpc) ((kb05.trans kb6).fresh B6.some hpd) (ne_fresh hpc h5).symm (ne_fresh hpd h6p).symm (ne_fresh hpd h6).symm upd_same
      (Ex.new ht _ _ h7p) (Ex.new ht _ _ h7c) (Ex.new ht _ _ h7) tar (rc.mono y2) (rd.mono y2)
end

/-! ### the law's own tables of sums -/
abbrev s__law_bits : Stmt := top 20
abbrev N__law_bits : List Str := ["_law_worths_here", "_law_counts_here", "_law_bits_here", "_law_worth", "_law_many", "_law_chunk", "_law_size"]
theorem sc__law_bits : FnScope N__law_bits ["_law_worths_here", "_law_counts_here"] (defScope s__law_bits) := ⟨rfl, rfl, rfl, by decide +kernel, rfl, by decide +kernel, by decide +kernel⟩

def spBits (K : PySem.W.Frag) : Sp := fun vs H Q _ => ∃ (a b : Addr) (ws cs : List Int), vs = [.ref a, .ref b] ∧ SqL K H a (ws.map V.int) ∧ SqL K H b (cs.map V.int) ∧ Tar ws ∧ Roll ws.length 61 cs ∧
  ∀ (B : Nat) H', Tells B (Mk ws cs ws.length) → B < 2 ^ ((wt ws cs).toNat + 1) → Ex H H' → Q (.int (B : Int)) H'
section
variable {P : Program} {w : World} {K : PySem.W.Frag} {mg : Str → Option Value} {base : Heap}
theorem D_bits (T : Txt K mg) (F : Df K mg "_law_bits" s__law_bits) : Dn P w K mg base CX0 1 "_law_bits" ["_law_worths_here", "_law_counts_here"] (spBits K) := by
  refine F.dn sc__law_bits (fun _ _ _ _ _ _ us hl => match us, hl with | [_, _], _ => rfl) (fun vs H Q E h => ?_) (fun f cdv A outer s H vs Q E hr hK h => ?_)
  · obtain ⟨a, b, ws, cs, rfl, _⟩ := h
    rfl
  · obtain ⟨a, b, ws, cs, rfl, ha, hb, t, r, k⟩ := h
    refine ⟨_, (pss_cons (ps_set (i := 2) sc__law_bits.nd rfl (Or.inl rfl) pe_int)
      (pss_cons (ps_for PassesOwn.never rfl (pi_zip rfl T.m_zip (pa_cons (pv 0) (pa_cons (pv 1) pa_nil))) (pg_tup rfl (pgs_cons (pg_name (i := 3) sc__law_bits.nd rfl (Or.inl rfl)) (pgs_cons (pg_name (i := 4) sc__law_bits.nd rfl (Or.inl rfl)) pgs_nil))) (pss_cons (ps_set (i := 5) sc__law_bits.nd rfl (Or.inl rfl) pe_int)
      (pss_one (ps_while PassesOwn.never (pt_cmpR op_gt (pv 4) pe_int (nomark _)) (pss_cons (ps_set (i := 6) sc__law_bits.nd rfl (Or.inl rfl) (pe_callB (g_min rfl) rfl T.m_min boot_min (pa_cons (pv 5) (pa_cons (pv 4) pa_nil))))
      (pss_cons (ps_set (i := 2) sc__law_bits.nd rfl (Or.inl rfl) (pe_op op_or (pv 2) (pe_op op_shlB (pv 2) (pe_op op_mulB (pv 6) (pv 3)))))
      (pss_cons (ps_set (i := 4) sc__law_bits.nd rfl (Or.inl rfl) (pe_op op_sub (pv 4) (pv 6)))
      (pss_one (ps_set (i := 5) sc__law_bits.nd rfl (Or.inl rfl) (pe_op op_mulB (pv 5) pe_int))))))))))
      (pss_one (ps_ret (pv 2))))), ?_⟩
    try rw [hK]
    rw [show L2.start N__law_bits [.ref a, .ref b] = [some (.ref a), some (.ref b), none, none, none, none, none] from rfl]
    have tl := t.len
    walk_at "sx"
    refine x_iZQ ha hb ?_
    have n1 : min (ws.map V.int).length (cs.map V.int).length = ws.length := by rw [List.length_map, List.length_map, r.len]; omega
    refine x_forQ (walk_zip n1.symm) (fun i σ H' => Ex H H' ∧ ∃ (B : Nat) (v1 v2 v3 v4 : Option V), σ = [some (.ref a), some (.ref b), some (.int (B : Int)), v1, v2, v3, v4] ∧ Tells B (Mk ws cs i) ∧ B < 2 ^ ((low ws cs i).toNat + 1))
      ⟨Ex.refl _, 1, none, none, none, none, rfl, fun m => ?_, ?_⟩ (fun i σ H' _ p => ⟨ex_l p.1 ha, ex_l p.1 hb⟩) ?_ ?_
    · show Nat.testBit 1 m = true ↔ (m : Int) = 0
      cases m with
      | zero => simp
      | succ m => simp [Nat.testBit_succ]; omega
    · rw [low_zero]; decide
    · rintro i x σ H1 H1' hi ⟨e1, B, v1, v2, v3, v4, rfl, hB, hlt⟩ ⟨q, x1, y1, rfl, hq, rfl, h1, h2⟩
      obtain ⟨u, rfl, hu⟩ := int_of h1
      obtain ⟨c, rfl, hc⟩ := int_of h2
      have eu : gd ws i = u := getD_of hu
      have ec : gd cs i = c := getD_of hc
      have hw := tar_at t hi
      have hr' := roll_at r hi
      have hl0 := low_nn t r (i := i) (by omega)
      have hl1 := low_le t r (i := i) (by omega)
      rw [eu] at hw
      rw [ec] at hr'
      walk_at "sx"
      refine x_while (fun m σ H' => Ex H H' ∧ ∃ (B : Nat) (s ch : Int) (v4 : Option V), σ = [some (.ref a), some (.ref b), some (.int (B : Int)), some (.int u), some (.int (c - s)), some (.int ch), v4] ∧ 0 ≤ s ∧ s ≤ c ∧ m = (c - s).toNat ∧ (c - s = 0 ∨ ch = s + 1) ∧ 1 ≤ ch ∧ ch ≤ 1000 ∧ Tells B (More (Mk ws cs i) u s) ∧ B < 2 ^ ((low ws cs i).toNat + 1 + (s * u).toNat)) c.toNat
        ⟨e1.trans (Ex.new hq), B, 0, 1, v4, by rw [Int.sub_zero], Int.le_refl _, hr'.1, by rw [Int.sub_zero], .inr rfl, by decide, by decide, more_zero hB, by rw [Int.zero_mul]; exact hlt⟩ ?_
      rintro m σ H2 ⟨e2, B, s, ch, v4, rfl, s0, sc, hm, hch, c1, c2, hB, hlt⟩
      have su0 := Int.mul_nonneg s0 (show 0 ≤ u by omega)
      have su1 : s * u ≤ 61 * 10000 := Int.mul_le_mul (by omega) hw.2 (by omega) (by decide)
      walk_at "sx"
      refine x_whD (fun g => ?_) (fun g => ?_)
      · have ech : ch = s + 1 := by omega
        have key : ∀ z : Int, 1 ≤ z → z ≤ c - s → z ≤ ch → (z = c - s ∨ z = ch) →
            ∃ m', m' < m ∧ Ex H H2 ∧ ∃ (B' : Nat) (s' ch' : Int) (v4 : Option V), [some (V.ref a), some (.ref b), some (.int (((B ||| (B <<< (z * u).toNat) : Nat)) : Int)), some (.int u), some (.int (c - s - z)), some (.int (ch * 2)), some (.int z)] = [some (.ref a), some (.ref b), some (.int (B' : Int)), some (.int u), some (.int (c - s')), some (.int ch'), v4] ∧ 0 ≤ s' ∧ s' ≤ c ∧ m' = (c - s').toNat ∧ (c - s' = 0 ∨ ch' = s' + 1) ∧ 1 ≤ ch' ∧ ch' ≤ 1000 ∧ Tells B' (More (Mk ws cs i) u s') ∧ B' < 2 ^ ((low ws cs i).toNat + 1 + (s' * u).toNat) := fun z z1 z2 z3 z4 => by
          have zu := Int.mul_nonneg (show 0 ≤ z by omega) (show 0 ≤ u by omega)
          refine ⟨(c - (s + z)).toNat, by omega, e2, _, s + z, ch * 2, some (.int z), by rw [show c - (s + z) = c - s - z by omega], by omega, by omega, rfl, by omega, by omega, by omega, more_step (by omega) s0 (by omega) (by omega) (mk_nn t r (by omega)) hB, ?_⟩
          have e := bits_lt (k := (z * u).toNat) hlt
          rw [show (low ws cs i).toNat + 1 + ((s + z) * u).toNat = (low ws cs i).toNat + 1 + (s * u).toNat + (z * u).toNat by rw [Int.add_mul]; omega]
          exact e
        have shift : ∀ z : Int, 1 ≤ z → z ≤ c - s → ∀ Q' : VK, Q' (.int (((B ||| (B <<< (z * u).toNat) : Nat)) : Int)) H2 → rI CShl (fun i j => .int (i * 2 ^ j.toNat)) (.int (B : Int)) (.int (z * u)) H2 (opQ2 (rI0 fun i j => .int (Builtin.bitOr i j)) (.int (B : Int)) Q') := fun z z1 z2 Q' hq => by
          have zu := Int.mul_nonneg (show 0 ≤ z by omega) (show 0 ≤ u by omega)
          have zu2 : z * u ≤ 61 * 10000 := Int.mul_le_mul (by omega) hw.2 (by omega) (by decide)
          have ez : z * u = (((z * u).toNat : Nat) : Int) := by omega
          rw [ez]
          refine x_shl hlt (by omega) ?_
          refine x_opQ2 (x_I0 ?_)
          rw [bitOr_nn (Int.natCast_nonneg _) (Int.natCast_nonneg _), Int.toNat_natCast, Int.toNat_natCast]
          exact hq
        walk_at "sx"
        by_cases cc : c - s < ch
        · rw [if_pos cc]
          walk_at "sx"
          refine shift (c - s) (by omega) (Int.le_refl _) _ ?_
          walk_at "sx"
          exact key (c - s) (by omega) (Int.le_refl _) (by omega) (.inl rfl)
        · rw [if_neg cc]
          walk_at "sx"
          refine shift ch (by omega) (by omega) _ ?_
          walk_at "sx"
          exact key ch (by omega) (by omega) (Int.le_refl _) (.inr rfl)
      · have es : s = c := by omega
        subst es
        walk_at "sx"
        refine ⟨e2, B, _, _, _, _, rfl, fun m => (hB m).trans (by show More (Mk ws cs i) u s m ↔ ∃ k : Int, 0 ≤ k ∧ k ≤ gd cs i ∧ Mk ws cs i (m - k * gd ws i); rw [eu, ec]; exact Iff.rfl), ?_⟩
        rw [low_succ hi r.len, eu, ec]
        rw [show (low ws cs i + u * s).toNat + 1 = (low ws cs i).toNat + 1 + (s * u).toNat by rw [Int.mul_comm u s]; omega]
        exact hlt
    · rintro σ H1 ⟨e1, B, v1, v2, v3, v4, rfl, hB, hlt⟩
      rw [low_all r.len] at hlt
      walk_at "sx"
      exact k B H1 hB hlt e1
end

/-! ### _law_makes -/
abbrev s__law_makes : Stmt := top 21
abbrev N__law_makes : List Str := ["_law_bits_here", "_law_total", "_law_many"]
theorem sc__law_makes : FnScope N__law_makes ["_law_bits_here", "_law_total", "_law_many"] (defScope s__law_makes) := ⟨rfl, rfl, rfl, by decide +kernel, rfl, by decide +kernel, by decide +kernel⟩

def spMakes : Sp := fun vs H Q _ => ∃ (B : Nat) (ws cs : List Int) (mx m : Int), vs = [.int (B : Int), .int (wt ws cs), .int m] ∧ Tar ws ∧ Roll ws.length mx cs ∧ Tells B (Mk ws cs ws.length) ∧ Q (.bl (canB ws cs m)) H
section
variable {P : Program} {w : World} {K : PySem.W.Frag} {mg : Str → Option Value} {base : Heap}
theorem D_makes (F : Df K mg "_law_makes" s__law_makes) : Dn P w K mg base CX0 1 "_law_makes" ["_law_bits_here", "_law_total", "_law_many"] spMakes := by
  refine F.dn sc__law_makes (fun _ _ _ _ _ _ us hl => match us, hl with | [_, _, _], _ => rfl) (fun vs H Q E h => ?_) (fun f cdv A outer s H vs Q E hr hK h => ?_)
  · obtain ⟨B, ws, cs, mx, m, rfl, _⟩ := h
    rfl
  · obtain ⟨B, ws, cs, mx, m, rfl, t, r, hB, k⟩ := h
    refine ⟨_, (pss_one (ps_ret (pe_and (pe_cmpR op_le pe_int (pv 2) (nomark _)) (pe_and (pe_cmpR op_le (pv 2) (pv 1) (nomark _)) (pe_one (pe_cmpR op_eq (pe_op op_and (pe_op op_shr (pv 0) (pv 2)) pe_int) pe_int (nomark _))))))), ?_⟩
    try rw [hK]
    rw [show L2.start N__law_makes [.int (B : Int), .int (wt ws cs), .int m] = [some (.int (B : Int)), some (.int (wt ws cs)), some (.int m)] from rfl]
    have no : ¬ (0 ≤ m ∧ m ≤ wt ws cs) → Q (.bl false) H := fun g => by
      have e : canB ws cs m = false := by unfold canB; rw [decide_eq_false g, Bool.false_and]
      rw [← e]; exact k
    walk_at "sx"
    refine x_andVD (fun c => ?_) (fun c => ?_)
    · walk_at "sx"
      refine x_andVD (fun c2 => ?_) (fun c2 => ?_)
      · walk_at "sx"
        refine x_I c ?_
        walk_at "sx"
        have e : decide (Builtin.bitAnd ((B : Int) / 2 ^ m.toNat) 1 = 1) = canB ws cs m := by
          have h2 : Builtin.bitAnd ((B : Int) / 2 ^ m.toNat) 1 = (((B >>> m.toNat) % 2 : Nat) : Int) := by
            have g := Bits.bitAnd_mask (x := (B : Int) / 2 ^ m.toNat) 1 (Int.ediv_nonneg (Int.natCast_nonneg _) (Int.le_of_lt (Int.pow_pos (by decide))))
            rw [show (2 : Int) ^ 1 - 1 = 1 from rfl] at g
            rw [g, Nat.shiftRight_eq_div_pow, Int.natCast_emod, Int.natCast_ediv, Int.natCast_pow]
            rfl
          rw [h2, Bool.eq_iff_iff, canB_iff t r, decide_eq_true_eq, show Mk ws cs ws.length m = Mk ws cs ws.length (m.toNat : Int) by rw [Int.toNat_of_nonneg c], ← hB m.toNat]
          rw [Nat.testBit, Nat.one_and_eq_mod_two]
          have := Nat.mod_two_eq_zero_or_one (B >>> m.toNat)
          rcases this with h | h <;> rw [h] <;> decide
        rw [e]
        exact k
      · exact no (by omega)
    · exact no (by omega)
end

/-! ### what two drawn rolls leave; parts drawn of a roll -/
structure Drawn (H0 H : Hp) (b l p pc pd : Addr) (ws cs ds : List Int) (n : Nat) : Prop where
  kb : KB b H0 H
  hb : H0 b = none
  box : BoxAt H b l n
  hp : H p = some (.lst (ws.map V.int))
  hc : H pc = some (.lst (cs.map V.int))
  hd : H pd = some (.lst (ds.map V.int))
  fp : H0 p = none
  fc : H0 pc = none
  fd : H0 pd = none
  np : p ≠ b
  nc : pc ≠ b
  nd : pd ≠ b
  npc : p ≠ pc
  npd : p ≠ pd
  ncd : pc ≠ pd
  tar : Tar ws
  rc : Roll ws.length 60 cs
  rd : Roll ws.length 60 ds
theorem Drawn.step {H0 H H' : Hp} {b l p pc pd : Addr} {ws cs ds : List Int} {n m : Nat} (d : Drawn H0 H b l p pc pd ws cs ds n) (kb : KB b H H') (B : BoxAt H' b l m) : Drawn H0 H' b l p pc pd ws cs ds m :=
  ⟨d.kb.trans kb, d.hb, B, kb.get d.np d.hp, kb.get d.nc d.hc, kb.get d.nd d.hd, d.fp, d.fc, d.fd, d.np, d.nc, d.nd, d.npc, d.npd, d.ncd, d.tar, d.rc, d.rd⟩
theorem Drawn.ex {H0 H H' : Hp} {b l p pc pd : Addr} {ws cs ds : List Int} {n : Nat} (d : Drawn H0 H b l p pc pd ws cs ds n) (e : Ex H H') : Drawn H0 H' b l p pc pd ws cs ds n :=
  d.step (KB.of_ex e) (d.box.ex' e)
theorem Drawn.mono {H0 H : Hp} {b l p pc pd : Addr} {ws cs ds : List Int} {n m : Nat} (d : Drawn H0 H b l p pc pd ws cs ds n) (h : n ≤ m) : Drawn H0 H b l p pc pd ws cs ds m := d.step KB.refl (d.box.mono h)
theorem Drawn.swap {H0 H : Hp} {b l p pc pd : Addr} {ws cs ds : List Int} {n : Nat} (d : Drawn H0 H b l p pc pd ws cs ds n) : Drawn H0 H b l p pd pc ws ds cs n :=
  ⟨d.kb, d.hb, d.box, d.hp, d.hd, d.hc, d.fp, d.fd, d.fc, d.np, d.nd, d.nc, d.npd, d.npc, d.ncd.symm, d.tar, d.rd, d.rc⟩
/-- behind _law_two_rolls -/
theorem x_two {K : PySem.W.Frag} {H0 H : Hp} {b l : Addr} {n : Nat} {Q : VK} {E : XK} (kb : KB b H0 H) (hb : H0 b = none) (B : BoxAt H b l n) (hn : n ≤ 1000)
    (k : ∀ (t p pc pd : Addr) (ws cs ds : List Int) (H' : Hp), Drawn H0 H' b l p pc pd ws cs ds (n + 90) → H' t = some (.tup [.ref p, .ref pc, .ref pd]) → Q (.ref t) H') : spTwo K [.ref b] H Q E :=
  ⟨b, l, n, rfl, B, by omega, fun t p pc pd ws cs ds H' kb' B' hp hpc hpd n1 n2 n3 ht h1 h2 h3 tar rc rd =>
    k t p pc pd ws cs ds H' ⟨kb.trans kb', hb, B', h1, h2, h3, kb.fresh B.some hp, kb.fresh B.some hpc, kb.fresh B.some hpd, BoxAt.ne1 hp B, BoxAt.ne1 hpc B, BoxAt.ne1 hpd B, n1, n2, n3, tar, rc, rd⟩ ht⟩
/-- [_law_take(box, many + 1) for many in counts] -/
theorem x_draws {K : PySem.W.Frag} {σ : L2.St} {ns : List Nat} {i bs : Nat} {H : Hp} {Q : VK} {b l pc : Addr} {cs : List Int} {n : Nat} (B : BoxAt H b l n) (hn : n ≤ 2 ^ 58) (hc : H pc = some (.lst (cs.map V.int))) (nc : pc ≠ b) (hl : cs.length ≤ 10) (r : ∀ c ∈ cs, 0 ≤ c ∧ c ≤ 1000)
    (h1 : ∀ v, ((wipe σ ns).set i (some v))[bs]? = some (some (.ref b))) (h2 : ∀ v, ((wipe σ ns).set i (some v))[i]? = some (some v)) (h3 : ∀ v, wipe ((wipe σ ns).set i (some v)) ns = wipe σ ns)
    (k : ∀ (D : Addr) (ps : List Int) (H' : Hp), H D = none → KB b H H' → BoxAt H' b l (n + 10) → H' D = some (.lst (ps.map V.int)) → ps.length = cs.length → (∀ j, j < cs.length → 0 ≤ ps.getD j 0 ∧ ps.getD j 0 ≤ cs.getD j 0) → Q (.ref D) H') :
    lcQ (gName i) tYes (tCall spTake [] E0 (tCons (tVar bs) (tCons (tOp (rI0 fun i j => .int (i + j)) (tVar i) (tC (.int 1))) tNil))) ns σ Q (Itl K pc) H := by
  refine x_lcQ walk_list (fun D j H' => H D = none ∧ KB b H H' ∧ BoxAt H' b l (n + j) ∧ ∃ ps : List Int, H' D = some (.lst (ps.map V.int)) ∧ ps.length = j ∧ ∀ m, m < j → 0 ≤ ps.getD m 0 ∧ ps.getD m 0 ≤ cs.getD m 0)
    (fun D hD => ⟨hD, KB.new hD, B.ex' (Ex.new hD), [], upd_same, rfl, fun m h => absurd h (Nat.not_lt_zero m)⟩) (fun D j H' _ p => p.2.1.sqL (SqL.of hc) nc) ?_ ?_
  · rintro D j x H1 H1' hj ⟨hD, kb1, B1, ps, hps, hpl, hpb⟩ ⟨rfl, hx⟩
    obtain ⟨c, rfl, hcc⟩ := int_of hx
    rw [List.length_map] at hj
    have rc := r c (List.mem_of_getElem? hcc)
    refine x_lcTgN (h3 _) ?_
    refine x_tYes (x_ttT (x_call (x_cons (x_var (h1 _) (x_consQ (x_cons (x_op (x_var (h2 _) (x_opQ1 (x_c (x_opQ2 (x_I0 (x_consQ (x_nil ?_))))))))))))))
    refine x_callQ (x_take B1 (by omega) (by omega) (by omega) fun z H2 a1 a2 kb2 B2 => ?_)
    have nDb := BoxAt.ne1 hD B
    have nDl := BoxAt.ne2 hD B
    refine x_elt (kb2.get nDb hps) (by rw [List.length_map, hpl]; exact small1000 (by omega)) ?_
    refine ⟨hD, (kb1.trans kb2).mut hD, (B2.upd nDb nDl).mono (by omega), ps ++ [z], by rw [upd_same, List.map_append]; rfl, by rw [List.length_append, hpl]; rfl, fun m hm => ?_⟩
    rcases Nat.lt_succ_iff_lt_or_eq.mp hm with h | h
    · rw [List.getD_eq_getElem?_getD, List.getElem?_append_left (by omega), ← List.getD_eq_getElem?_getD]
      exact hpb m h
    · subst h
      rw [List.getD_eq_getElem?_getD, ← hpl, List.getElem?_concat_length, hpl, getD_of hcc]
      exact ⟨a1, by show z ≤ c; omega⟩
  · rintro D H1 ⟨hD, kb1, B1, ps, hps, hpl, hpb⟩
    rw [List.length_map] at B1 hpl hpb
    exact k D ps H1 hD kb1 (B1.mono (by omega)) hps hpl hpb

/-! ### list(range(n)), xs[::-1] -/
def lrgQ (Q : VK) : Int → Int → Hp → Prop := fun a b H1 => RgOk a b ∧ ∀ q, H1 q = none → Q (.ref q) (upd H1 q (.lst (rgV a b)))
def revLQ (K : PySem.W.Frag) (Q : VK) : VK := fun x H1 => ∃ a xs, x = .ref a ∧ SqL K H1 a xs ∧ ∀ p, H1 p = none → Q (.ref p) (upd H1 p (.lst xs.reverse))
section
variable {K : PySem.W.Frag} {σ : L2.St} {H : Hp} {Q : VK} {R : Prop} {ta : TE}
instance r_lstRg {tr : L2.St → Hp → (Int → Int → Hp → Prop) → Prop} [i0 : Run (tr σ H (lrgQ Q)) R] : Run (tLstRg tr σ H Q) R := ⟨fun h => i0.go h⟩
instance r_revL [i0 : Run (ta σ H (revLQ K Q)) R] : Run (tRevL K ta σ H Q) R := ⟨fun h => i0.go h⟩
theorem x_lrgQ {n : Nat} (h : n ≤ 1000) (k : ∀ q, H q = none → Q (.ref q) (upd H q (.lst ((List.range n).map fun i => V.int (i : Nat))))) : lrgQ Q 0 (n : Int) H := by
  refine ⟨RgOk.of_le (by decide) (by omega) (by decide) (by omega), fun q hq => ?_⟩
  have e : rgV 0 (n : Int) = (List.range n).map fun i => V.int (i : Nat) := by
    unfold rgV
    rw [show ((n : Int) - 0).toNat = n by omega]
    exact List.map_congr_left fun i _ => by rw [Int.zero_add]
  rw [e]
  exact k q hq
theorem x_revLQ {p : Addr} {xs : List V} (h : SqL K H p xs) (k : ∀ q, H q = none → Q (.ref q) (upd H q (.lst xs.reverse))) : revLQ K Q (.ref p) H := ⟨p, xs, rfl, h, k⟩
theorem rev_at {n i : Nat} {x : V} (h : (((List.range n).map fun i => V.int (i : Nat)).reverse)[i]? = some x) : i < n ∧ x = .int ((n - 1 - i : Nat) : Int) := by
  have hlt := (List.getElem?_eq_some_iff.mp h).1
  rw [List.length_reverse, List.length_map, List.length_range] at hlt
  refine ⟨hlt, ?_⟩
  rw [List.getElem?_reverse (by rw [List.length_map, List.length_range]; exact hlt), List.length_map, List.length_range, List.getElem?_map, List.getElem?_range (by omega)] at h
  exact (Option.some.inj h).symm
end

/-! ### the law's own call of put_up -/
abbrev s__law_told : Stmt := top 25
abbrev N__law_told : List Str := ["_law_worths_here", "_law_counts_here", "_law_many", "_law_told_here", "_law_kinds", "e"]
theorem sc__law_told : FnScope N__law_told ["_law_worths_here", "_law_counts_here", "_law_many"] (defScope s__law_told) := ⟨rfl, rfl, rfl, by decide +kernel, rfl, by decide +kernel, by decide +kernel⟩

def spTold (K : PySem.W.Frag) : Sp := fun vs H Q E => ∃ (a b : Addr) (ws cs : List Int) (mx m : Int), vs = [.ref a, .ref b, .int m] ∧ SqL K H a (ws.map V.int) ∧ SqL K H b (cs.map V.int) ∧ Tar ws ∧ Roll ws.length mx cs ∧ mx ≤ 1000 ∧
  (canB ws cs m = true → ∀ t p q H', H p = none → Ex H H' → SqT K H' t [.ref p, .ref q] → H' p = some (.lst ((gpart ws cs m).map V.int)) → H' q = some (.lst []) → Q (.ref t) H') ∧
  (canB ws cs m = false → ∀ t q H', Ex H H' → SqT K H' t [.non, .ref q] → H' q = some (.lst [.bl true, .bl true, .bl false, .bl false]) → Q (.ref t) H')
section
variable {P : Program} {w : World} {K : PySem.W.Frag} {mg : Str → Option Value} {base : Heap}
theorem D_told (T : Txt K mg) (D_put_up : Dn P w K mg base (L2.CX P w) 4 "put_up" ["worths", "counts", "many"] (spPut K)) (F : Df K mg "_law_told" s__law_told) : Dn P w K mg base CX0 5 "_law_told" ["_law_worths_here", "_law_counts_here", "_law_many"] (spTold K) := by
  refine F.dn sc__law_told (fun _ _ _ _ _ _ us hl => match us, hl with | [_, _, _], _ => rfl) (fun vs H Q E h => ?_) (fun f cdv A outer s H vs Q E hr hK h => ?_)
  · obtain ⟨a, b, ws, cs, mx, m, rfl, _⟩ := h
    rfl
  · obtain ⟨a, b, ws, cs, mx, m, rfl, ha, hb, t, r, hmx, yes, no⟩ := h
    refine ⟨_, (pss_cons (ps_set (i := 3) sc__law_told.nd rfl (Or.inl rfl) pe_non)
      (pss_cons (ps_set (i := 4) sc__law_told.nd rfl (Or.inl rfl) (pe_lst pa_nil))
      (pss_cons (ps_try_as (i := 5) rfl rfl sc__law_told.nd rfl rfl ⟨rfl, by decide, .inl T.x_CartelError.g⟩ takes0 (fun W pn xe tk tp => (pss_one (ps_set (i := 3) sc__law_told.nd rfl (Or.inl rfl) (pe_dnS D_put_up (hr.mono (by first | decide | omega)) (fun σ => passAt tk σ) (pa_cons (pv 0) (pa_cons (pv 1) (pa_cons (pv 2) pa_nil))))))) (fun a oe cls d pn hz hf => (pss_one (ps_set (i := 4) sc__law_told.nd rfl (Or.inl rfl) (pe_lst (pa_cons (pe_callB (call_isX hz hf) rfl T.m_isinstance boot_isinstance (pa_cons (pv 5) (pa_cons (pe_glob (v := .ref (He.ga K "NoPart")) rfl T.x_NoPart.g rfl) pa_nil))) (pa_cons (pe_callB (call_isX hz hf) rfl T.m_isinstance boot_isinstance (pa_cons (pv 5) (pa_cons (pe_bltn rfl T.m_ValueError (v := .ty "ValueError") (by decide +kernel) rfl) pa_nil))) (pa_cons (pe_callB (call_isX hz hf) rfl T.m_isinstance boot_isinstance (pa_cons (pv 5) (pa_cons (pe_glob (v := .ref (He.ga K "BadRank")) rfl T.x_BadRank.g rfl) pa_nil))) (pa_cons (pe_callB (call_isX hz hf) rfl T.m_isinstance boot_isinstance (pa_cons (pv 5) (pa_cons (pe_glob (v := .ref (He.ga K "NoDeed")) rfl T.x_NoDeed.g rfl) pa_nil))) pa_nil)))))))))
      (pss_one (ps_ret (pe_tup (pa_cons (pv 3) (pa_cons (pv 4) pa_nil)))))))), ?_⟩
    try rw [hK]
    rw [show L2.start N__law_told [.ref a, .ref b, .int m] = [some (.ref a), some (.ref b), some (.int m), none, none, none] from rfl]
    walk_at "sx"
    intro q hq
    walk_at "sx"
    have e1 := Ex.new hq (o := .lst [])
    refine ⟨a, b, ws, cs, mx, m, rfl, ex_l e1 ha, ex_l e1 hb, t, r, hmx, fun hc p H' hp e2 h2 => ?_, fun hc H' e2 => ?_⟩
    · walk_at "sx"
      intro tt htt
      walk_at "sx"
      have e3 := Ex.new htt (o := .tup [.ref p, .ref q])
      exact yes hc tt p q _ (Same.free e1 hp) (e1.trans (e2.trans e3)) (SqT.of upd_same) (e3 _ _ h2) (e3 _ _ (e2 _ _ upd_same))
    · refine ⟨true, T.em_NoPart_CartelError, fun _ x hx => ?_, fun q => nomatch q⟩
      walk_at "sx"
      refine x_isXr T.ec_NoPart T.ki_NoPart_NoPart ?_
      walk_at "sx"
      refine x_isXt T.ec_NoPart T.ki_NoPart_ValueError ?_
      walk_at "sx"
      refine x_isXr T.ec_NoPart T.ki_NoPart_BadRank ?_
      walk_at "sx"
      refine x_isXr T.ec_NoPart T.ki_NoPart_NoDeed ?_
      walk_at "sx"
      intro q2 hq2
      walk_at "sx"
      intro tt htt
      walk_at "sx"
      have e3 := Ex.new hq2 (o := .lst [.bl true, .bl true, .bl false, .bl false])
      have e4 := Ex.new htt (o := .tup [.non, .ref q2])
      exact no hc tt q2 _ (e1.trans (e2.trans (e3.trans e4))) (SqT.of upd_same) (e4 _ _ upd_same)
end

/-! ### the law's own going down, man by man -/
abbrev s__law_greedy : Stmt := top 22
abbrev N__law_greedy : List Str := ["_law_worths_here", "_law_counts_here", "_law_many", "_law_part", "_law_rank", "_law_worth"]
theorem sc__law_greedy : FnScope N__law_greedy ["_law_worths_here", "_law_counts_here", "_law_many"] (defScope s__law_greedy) := ⟨rfl, rfl, rfl, by decide +kernel, rfl, by decide +kernel, by decide +kernel⟩

def spGreedy (K : PySem.W.Frag) : Sp := fun vs H Q _ => ∃ (a b : Addr) (ws cs : List Int) (mx m : Int), vs = [.ref a, .ref b, .int m] ∧ SqL K H a (ws.map V.int) ∧ SqL K H b (cs.map V.int) ∧ Tar ws ∧ Roll ws.length mx cs ∧ mx ≤ 1000 ∧ Mk ws cs ws.length m ∧
  ∀ p H', H p = none → Ex H H' → H' p = some (.lst ((gpart ws cs m).map V.int)) → Q (.ref p) H'
theorem greedy_end {c w z j : Int} (hw : 1 ≤ w) (j0 : 0 ≤ j) (jc : j ≤ c) (hz : 0 ≤ z - j * w) (h : ¬ (j < c ∧ w ≤ z - j * w)) : j = min c (z / w) := by
  have e := Int.mul_ediv_add_emod z w
  have r := Int.emod_lt_of_pos z (show 0 < w by omega)
  have r0 := Int.emod_nonneg z (show w ≠ 0 by omega)
  have jq : j ≤ z / w := (Int.le_ediv_iff_mul_le (by omega)).mpr (by omega)
  by_cases c1 : j < c
  · have c2 : z - j * w < w := Int.not_le.mp fun q => h ⟨c1, q⟩
    have c3 : z / w < j + 1 := (Int.ediv_lt_iff_lt_mul (by omega)).mpr (by rw [Int.add_mul]; omega)
    omega
  · omega
theorem x_whF {t : TS} {W : Nat → L2.St → Hp → Prop} {m : Nat} {f : L2.St → Hp → Prop} {rt : VK} {bk ct : L2.St → Hp → Prop} {σ : L2.St} {H : Hp} (h : f σ H) : whQ t W m (Ends.mk f rt bk ct) σ false H := by
  unfold whQ
  rw [if_neg Bool.false_ne_true]
  exact h
section
variable {P : Program} {w : World} {K : PySem.W.Frag} {mg : Str → Option Value} {base : Heap}
theorem D_greedy (T : Txt K mg) (F : Df K mg "_law_greedy" s__law_greedy) : Dn P w K mg base CX0 1 "_law_greedy" ["_law_worths_here", "_law_counts_here", "_law_many"] (spGreedy K) := by
  refine F.dn sc__law_greedy (fun _ _ _ _ _ _ us hl => match us, hl with | [_, _, _], _ => rfl) (fun vs H Q E h => ?_) (fun f cdv A outer s H vs Q E hr hK h => ?_)
  · obtain ⟨a, b, ws, cs, mx, m, rfl, _⟩ := h
    rfl
  · obtain ⟨a, b, ws, cs, mx, m, rfl, ha, hb, t, r, hmx, hm, k⟩ := h
    refine ⟨_, (pss_cons (ps_setLc (i := 3) (own := [("_law_worth", 5)]) (g := gName 5) (tt := tYes) rfl sc__law_greedy.nd rfl rfl (sw_true rfl rfl rfl (by decide +kernel)) (pi_list (pv 0)) (blkOk_by (own := [("_law_worth", 5)]) (N := N__law_greedy) (sc := defScope s__law_greedy) (by decide +kernel)) (fun _ _ _ _ _ => pg_name (i := 5) sc__law_greedy.nd rfl (Or.inl rfl)) (fun _ _ _ _ _ => pts_nil) (fun _ _ _ _ _ => pe_int))
      (pss_cons (ps_for PassesOwn.never rfl (pi_list (pe_revL (pe_listRg rfl rfl T.m_list (prg_1 rfl T.m_range (pe_callB g_len rfl T.m_len boot_len (pa_cons (pv 0) pa_nil)))))) (pg_name (i := 4) sc__law_greedy.nd rfl (Or.inl rfl)) (pss_one (ps_while PassesOwn.never (PW.pt (pw_and (pt_cmpR op_lt (pe_ix ix_list (pv 3) (pv 4) (fun _ _ => rfl)) (pe_ix ix_list (pv 1) (pv 4) (fun _ _ => rfl)) (nomark _)) (pw_and1 (pt_cmpR op_le (pe_ix ix_list (pv 0) (pv 4) (fun _ _ => rfl)) (pv 2) (nomark _))))) (pss_cons (ps_asg (pe_op op_add (pe_ix ix_list (pv 3) (pv 4) (fun _ _ => rfl)) pe_int) (pg_sub (pv 3) (pv 4) set_list))
      (pss_one (ps_set (i := 2) sc__law_greedy.nd rfl (Or.inl rfl) (pe_op op_sub (pv 2) (pe_ix ix_list (pv 0) (pv 4) (fun _ _ => rfl)))))))))
      (pss_one (ps_ret (pv 3))))), ?_⟩
    try rw [hK]
    rw [show L2.start N__law_greedy [.ref a, .ref b, .int m] = [some (.ref a), some (.ref b), some (.int m), none, none, none] from rfl]
    have tl := t.len
    have rl := r.len
    walk_at "sx"
    refine x_iLQ ha ?_
    refine x_lcMap walk_list (fun _ => V.int 0) (sz_of (by rw [List.length_map]; omega)) (fun H' e => ex_l e ha) ?turn ?grow ?done
    case turn =>
      rintro D i x G3 G4 Nx hi e1 ⟨rfl, hx⟩ kk
      obtain ⟨u, rfl, _⟩ := int_of hx
      walk_at "sx"
      exact kk G4 (Ex.refl _)
    case grow =>
      rintro i x G3 G4 hi e1 ⟨rfl, hx⟩
      exact Ex.refl _
    case done =>
      intro q H1 hq0 e1 hl1
      have hq1 : H1 q = some (.lst ((List.replicate ws.length (0 : Int)).map V.int)) := by
        rw [hl1, List.length_map, List.map_replicate]
        congr 2
        apply List.ext_getElem
        · simp
        · intro i h1 h2; simp
      clear hl1
      walk_at "sx"
      rw [List.length_map]
      refine x_lrgQ (by omega) fun q1 hq1' => ?_
      have e2 := Ex.new hq1' (o := .lst ((List.range ws.length).map fun i => V.int (i : Nat)))
      walk_at "sx"
      refine x_revLQ (SqL.of upd_same) fun q2 hq2 => ?_
      have e3 := e2.trans (Ex.new hq2 (o := .lst ((List.range ws.length).map fun i => V.int (i : Nat)).reverse))
      have hq3 := e3 _ _ hq1
      have n2 : q2 ≠ q := ne_fresh hq2 (e2 _ _ hq1)
      have h2 : upd (upd H1 q1 (.lst ((List.range ws.length).map fun i => V.int (i : Nat)))) q2 (.lst ((List.range ws.length).map fun i => V.int (i : Nat)).reverse) q2 = some (.lst ((List.range ws.length).map fun i => V.int (i : Nat)).reverse) := upd_same
      have e4 := e1.trans e3
      generalize upd (upd H1 q1 (.lst ((List.range ws.length).map fun i => V.int (i : Nat)))) q2 (.lst ((List.range ws.length).map fun i => V.int (i : Nat)).reverse) = H2 at e4 hq3 h2 ⊢
      refine x_iLQ (SqL.of h2) ?_
      refine x_forQ walk_list (fun i σ H' => Ex H H' ∧ H' q2 = some (.lst ((List.range ws.length).map fun i => V.int (i : Nat)).reverse) ∧ ∃ (z : Int) (suf : List Int) (v : Option V), σ = [some (.ref a), some (.ref b), some (.int z), some (.ref q), v, none] ∧ H' q = some (.lst ((List.replicate (ws.length - i) (0 : Int) ++ suf).map V.int)) ∧ Mk ws cs (ws.length - i) z ∧ gpart ws cs m = gp ws cs (ws.length - i) z ++ suf)
        ⟨e4, h2, m, [], none, rfl, by rw [Nat.sub_zero, List.append_nil]; exact hq3, by rw [Nat.sub_zero]; exact hm, by rw [Nat.sub_zero, List.append_nil]; rfl⟩ (fun i σ H' _ pv => SqL.of pv.2.1) ?_ ?_
      · rintro i x σ H5 H5' hi ⟨e5, h25, z, suf, v, rfl, h5, hz, hg⟩ ⟨rfl, hx⟩
        obtain ⟨hi', rfl⟩ := rev_at hx
        obtain ⟨kn, hk⟩ : ∃ k, ws.length - i = k + 1 := ⟨ws.length - i - 1, by omega⟩
        have hk2 : ws.length - (i + 1) = kn := by omega
        have ej : ((ws.length - 1 - i : Nat) : Int) = (kn : Int) := by omega
        rw [hk2]
        rw [hk] at h5 hz hg
        rw [ej]
        obtain ⟨z0, k0, kc, hz2⟩ := gp_step t r (by omega) hz
        have hw := tar_at t (i := kn) (by omega)
        have hcs := roll_at r (i := kn) (by omega)
        have hatw : atI (ws.map V.int) (kn : Int) = some (.int (gd ws kn)) := at_getD (i := kn) rfl (by omega)
        have hatc : atI (cs.map V.int) (kn : Int) = some (.int (gd cs kn)) := at_getD (i := kn) rfl (by omega)
        have hrep : (List.replicate (kn + 1) (0 : Int) ++ suf) = List.replicate kn 0 ++ ([0] ++ suf) := by rw [List.replicate_succ', List.append_assoc]
        rw [hrep] at h5
        walk_at "sx"
        refine x_while (fun mm σ H' => Ex H H' ∧ H' q2 = some (.lst ((List.range ws.length).map fun i => V.int (i : Nat)).reverse) ∧ ∃ j : Int, σ = [some (.ref a), some (.ref b), some (.int (z - j * gd ws kn)), some (.ref q), some (.int (kn : Int)), none] ∧ H' q = some (.lst ((List.replicate kn (0 : Int) ++ ([j] ++ suf)).map V.int)) ∧ 0 ≤ j ∧ j ≤ gd cs kn ∧ 0 ≤ z - j * gd ws kn ∧ mm = (gd cs kn - j).toNat) (gd cs kn - 0).toNat
          ⟨e5, h25, 0, by rw [Int.zero_mul, Int.sub_zero], h5, Int.le_refl _, hcs.1, by rw [Int.zero_mul]; omega, rfl⟩ ?_
        rintro mm σ H6 ⟨e6, h26, j, rfl, h6, j0, jc, jz, rfl⟩
        walk_at "sx"
        refine x_ixL (SqL.of h6) (at_mid kn j suf) ?_
        walk_at "sx"
        refine x_ixL (ex_l e6 hb) hatc ?_
        have fin : ¬ (j < gd cs kn ∧ gd ws kn ≤ z - j * gd ws kn) → Ex H H6 ∧ H6 q2 = some (.lst ((List.range ws.length).map fun i => V.int (i : Nat)).reverse) ∧ ∃ (z' : Int) (suf' : List Int) (v : Option V), [some (V.ref a), some (.ref b), some (.int (z - j * gd ws kn)), some (.ref q), some (.int (kn : Int)), none] = [some (.ref a), some (.ref b), some (.int z'), some (.ref q), v, none] ∧ H6 q = some (.lst ((List.replicate kn (0 : Int) ++ suf').map V.int)) ∧ Mk ws cs kn z' ∧ gpart ws cs m = gp ws cs kn z' ++ suf' := fun g => by
          have ejm := greedy_end hw.1 j0 jc jz g
          refine ⟨e6, h26, _, _, _, rfl, h6, ?_, ?_⟩
          · rw [ejm]; exact hz2
          · rw [ejm, hg, show gp ws cs (kn + 1) z = gp ws cs kn (z - min (gd cs kn) (z / gd ws kn) * gd ws kn) ++ [min (gd cs kn) (z / gd ws kn)] from rfl, List.append_assoc]
        walk_at "sx"
        refine x_andD (fun g1 => ?_) (fun g1 => ?_)
        · walk_at "sx"
          refine x_ixL (ex_l e6 ha) hatw ?_
          walk_at "sx"
          refine x_whD (fun g2 => ?_) (fun g2 => ?_)
          · walk_at "sx"
            refine x_ixL (SqL.of h6) (at_mid kn j suf) ?_
            walk_at "sx"
            refine x_setL h6 (ixN_nat (by rw [List.length_map, List.length_append, List.length_replicate]; simp)) ?_
            rw [set_ints, List.set_append_right _ _ (by rw [List.length_replicate]; exact Nat.le_refl kn), List.length_replicate, Nat.sub_self]
            walk_at "sx"
            refine x_ixL (ex_l (Ex.mut e6 hq0) ha) hatw ?_
            walk_at "sx"
            exact ⟨_, by omega, Ex.mut e6 hq0, by rw [upd_ne n2]; exact h26, j + 1, by rw [Int.add_mul, Int.one_mul, Int.sub_sub], upd_same, by omega, by omega, by rw [Int.add_mul]; omega, rfl⟩
          · walk_at "sx"
            exact fin fun g => g2 g.2
        · refine x_whF ?_
          walk_at "sx"
          exact fin fun g => g1 g.1
      · rintro σ H5 ⟨e5, h25, z, suf, v, rfl, h5, hz, hg⟩
        rw [List.length_reverse, List.length_map, List.length_range, Nat.sub_self] at h5 hg
        have e : gpart ws cs m = suf := hg
        walk_at "sx"
        refine k q H5 hq0 e5 ?_
        rw [e, h5]
        rfl
end

/-! ### the law -/
abbrev s_law : Stmt := top 26
abbrev N_law : List Str := ["_law_script", "_law_box_here", "_law_worths_here", "_law_counts_here", "_law_other", "_law_bits_here", "_law_total", "_law_part", "_law_handed", "_law_some", "_law_many", "_law_found", "_law_kinds", "_law_cell"]
theorem sc_law : FnScope N_law ["_law_script"] (defScope s_law) := ⟨rfl, rfl, rfl, by decide +kernel, rfl, by decide +kernel, by decide +kernel⟩

section
variable {P : Program} {w : World} {K : PySem.W.Frag} {mg : Str → Option Value} {base : Heap}
theorem D_law (T : Txt K mg) (D__law_box : Dn P w K mg base CX0 1 "_law_box" ["_law_script"] (spBox K)) (D__law_take : Dn P w K mg base CX0 2 "_law_take" ["_law_box_here", "_law_size"] spTake) (D__law_two_rolls : Dn P w K mg base CX0 4 "_law_two_rolls" ["_law_box_here"] (spTwo K))
    (D__law_bits : Dn P w K mg base CX0 1 "_law_bits" ["_law_worths_here", "_law_counts_here"] (spBits K)) (D__law_weight : Dn P w K mg base CX0 1 "_law_weight" ["_law_worths_here", "_law_counts_here"] (spLWeight K)) (D__law_cut : Dn P w K mg base CX0 1 "_law_cut" ["_law_cell"] spCut)
    (D__law_makes : Dn P w K mg base CX0 1 "_law_makes" ["_law_bits_here", "_law_total", "_law_many"] spMakes) (D__law_told : Dn P w K mg base CX0 5 "_law_told" ["_law_worths_here", "_law_counts_here", "_law_many"] (spTold K)) (D__law_greedy : Dn P w K mg base CX0 1 "_law_greedy" ["_law_worths_here", "_law_counts_here", "_law_many"] (spGreedy K)) (D__law_alike : Dn P w K mg base CX0 6 "_law_alike" ["_law_found", "_law_due"] (spAlike K 4))
    {f : Addr} {fd : FuncData} (F : Fun K "law" "law" s_law f fd) : FnOk P w K mg base CX0 8 f fd ["_law_script"] (spLaw K) := by
  refine F.ok sc_law (fun vs H Q E h => ?_) (fun cdv A outer s H vs Q E hr h => ?_)
  · obtain ⟨a, ns, rfl, _⟩ := h
    rfl
  · obtain ⟨a, ns, rfl, hS, hlen, hbits, k⟩ := h
    have hK : (cxOf CX0 P w K mg base N_law "law" (defScope s_law) f cdv A outer s H E).nox.K = K := rfl
    refine ⟨_, (pss_cons (ps_set (i := 1) sc_law.nd rfl (Or.inr rfl) (pe_dn D__law_box (hr.mono (by first | decide | omega)) pass0 (pa_cons (pv 0) pa_nil)))
      (pss_cons (ps_asg (pe_dn D__law_two_rolls (hr.mono (by first | decide | omega)) pass0 (pa_cons (pv 1) pa_nil)) (pg_tup rfl (pgs_cons (pg_name (i := 2) sc_law.nd rfl (Or.inl rfl)) (pgs_cons (pg_name (i := 3) sc_law.nd rfl (Or.inl rfl)) (pgs_cons (pg_name (i := 4) sc_law.nd rfl (Or.inl rfl)) pgs_nil)))))
      (pss_cons (ps_set (i := 5) sc_law.nd rfl (Or.inl rfl) (pe_dn D__law_bits (hr.mono (by first | decide | omega)) pass0 (pa_cons (pv 2) (pa_cons (pv 3) pa_nil))))
      (pss_cons (ps_set (i := 6) sc_law.nd rfl (Or.inl rfl) (pe_dn D__law_weight (hr.mono (by first | decide | omega)) pass0 (pa_cons (pv 2) (pa_cons (pv 3) pa_nil))))
      (pss_cons (ps_set (i := 7) sc_law.nd rfl (Or.inl rfl) (pe_dn D__law_weight (hr.mono (by first | decide | omega)) pass0 (pa_cons (pv 2) (pa_cons (pe_lc (own := [("_law_many", 10)]) (g := gName 10) (tt := tYes) rfl sc_law.nd (pi_list (pv 3)) (blkOk_by (own := [("_law_many", 10)]) (N := N_law) (sc := defScope s_law) (by decide +kernel)) (fun _ _ _ _ _ => pg_name (i := 10) sc_law.nd rfl (Or.inl rfl)) (fun _ _ _ _ _ => pts_nil) (fun _ _ _ _ _ => (pe_dn D__law_take (hr.mono (by first | decide | omega)) pass0 (pa_cons (pv 1) (pa_cons (pe_op op_add (pv 10) pe_int) pa_nil))))) pa_nil))))
      (pss_cons (ps_set (i := 8) sc_law.nd rfl (Or.inl rfl) (pe_lst (pa_cons (pe_callTy g_list rfl T.m_list boot_list (pa_cons (pv 2) pa_nil)) (pa_cons (pe_callTy g_list rfl T.m_list boot_list (pa_cons (pv 3) pa_nil)) pa_nil))))
      (pss_cut (ps_set (i := 9) sc_law.nd rfl (Or.inl rfl) (pe_lst (pa_cons (pv 7) (pa_cons (pv 7) (pa_cons (pe_op op_add (pv 7) pe_int) (pa_cons (pv 6) (pa_cons (pe_op op_add (pv 6) pe_int) (pa_cons (pe_un un_neg pe_int) (pa_cons pe_int (pa_cons (pe_dn D__law_take (hr.mono (by first | decide | omega)) pass0 (pa_cons (pv 1) (pa_cons (pe_op op_add (pv 6) pe_int) pa_nil))) pa_nil))))))))))
      (pss_cons (ps_for PassesOwn.never rfl (pi_list (pe_op op_cat (pv 9) (pe_lc (own := [("_law_cell", 13)]) (g := gName 13) (tt := tYes) rfl sc_law.nd (pi_list (pe_slice sl_list (pv 0) po_none (po_some pe_int))) (blkOk_by (own := [("_law_cell", 13)]) (N := N_law) (sc := defScope s_law) (by decide +kernel)) (fun _ _ _ _ _ => pg_name (i := 13) sc_law.nd rfl (Or.inl rfl)) (fun _ _ _ _ _ => pts_nil) (fun _ _ _ _ _ => (pe_dn D__law_cut (hr.mono (by first | decide | omega)) pass0 (pa_cons (pv 13) pa_nil)))))) (pg_name (i := 10) sc_law.nd rfl (Or.inl rfl)) (pss_cons (ps_asg (pe_dn D__law_told (hr.mono (by first | decide | omega)) pass0 (pa_cons (pe_ix ix_list (pv 8) pe_int (fun _ _ => rfl)) (pa_cons (pe_ix ix_list (pv 8) pe_int (fun _ _ => rfl)) (pa_cons (pv 10) pa_nil)))) (pg_tup rfl (pgs_cons (pg_name (i := 11) sc_law.nd rfl (Or.inl rfl)) (pgs_cons (pg_name (i := 12) sc_law.nd rfl (Or.inl rfl)) pgs_nil))))
      (pss_cons (ps_if (pt_cmpR (op_neD hr.units) (pv 8) (pe_lst (pa_cons (pv 2) (pa_cons (pv 3) pa_nil))) (nomark _)) (pss_one (ps_ret pe_bl)) pss_nil)
      (pss_one (ps_if (pt_not (pt_val (pe_dn D__law_makes (hr.mono (by first | decide | omega)) pass0 (pa_cons (pv 5) (pa_cons (pv 6) (pa_cons (pv 10) pa_nil)))))) (pss_one (ps_if (pt_cmpR (op_neD hr.units) (pv 12) (pe_lst (pa_cons pe_bl (pa_cons pe_bl (pa_cons pe_bl (pa_cons pe_bl pa_nil))))) (nomark _)) (pss_one (ps_ret pe_bl)) pss_nil)) (pss_cons (ps_if (PW.pt (pw_or (pt_cmpR (op_neD hr.units) (pv 12) (pe_lst pa_nil) (nomark _)) (pw_or1 (pt_not (pt_val (pe_dn D__law_alike (hr.mono (by first | decide | omega)) pass0 (pa_cons (pv 11) (pa_cons (pe_dn D__law_greedy (hr.mono (by first | decide | omega)) pass0 (pa_cons (pv 2) (pa_cons (pv 3) (pa_cons (pv 10) pa_nil)))) pa_nil)))))))) (pss_one (ps_ret pe_bl)) pss_nil)
      (pss_cons (ps_if (pt_cmpR op_ne (pe_dn D__law_weight (hr.mono (by first | decide | omega)) pass0 (pa_cons (pv 2) (pa_cons (pv 11) pa_nil))) (pv 10) (nomark _)) (pss_one (ps_ret pe_bl)) pss_nil)
      (pss_one (ps_expr (pe_bm PySem.F.plainAttrs_list PySem.F.slot_list_append PySem.F.type_list_append mt_append (pv 11) (pa_cons pe_int pa_nil)))))))))))
      (pss_one (ps_ret pe_bl)))))))))), ?_⟩
    try rw [hK]
    rw [show L2.start N_law [.ref a] = [some (.ref a), none, none, none, none, none, none, none, none, none, none, none, none, none] from rfl]
    walk_at "sx"
    refine ⟨a, ns, rfl, hS, hbits, fun b l H1 hb hl e1 B1 => ?_⟩
    walk_at "sx"
    refine x_two (KB.of_ex e1) hb B1 (by decide) fun t p pc pd ws cs ds H2 d ht => ?_
    walk_at "sx"
    have tl := d.tar.len
    have tp := d.tar.pos
    have sw := tar_sm d.tar
    have sc := d.rc.sm (by decide)
    have hwc := d.rc.len
    refine ⟨p, pc, ws, cs, rfl, SqL.of d.hp, SqL.of d.hc, d.tar, d.rc.mono (by decide), fun B H3 hB hlt e3 => ?_⟩
    have d3 := d.ex e3
    walk_at "sx"
    refine ⟨p, pc, ws, cs, rfl, SqL.of d3.hp, SqL.of d3.hc, sw, sc, by omega, hwc, ?_⟩
    walk_at "sx"
    -- the drawn part
    refine x_iLQ (SqL.of d3.hc) ?_
    refine x_draws d3.box (by decide) d3.hc d3.nc (by omega) (fun c hc => by have := d3.rc.rng c hc; omega) (fun _ => rfl) (fun _ => rfl) (fun _ => rfl) fun D ps H4 hD kb4 B4 hps hpl hpb => ?_
    have d4 := d3.step kb4 B4
    have sps : Sm ps := fun x hx => by
      obtain ⟨j, hj, ej⟩ := List.getElem_of_mem hx
      have g := hpb j (by omega)
      rw [List.getD_eq_getElem?_getD, List.getElem?_eq_getElem hj, ej] at g
      have g2 := roll_at d.rc (i := j) (by omega)
      have g3 : 0 ≤ x ∧ x ≤ cs.getD j 0 := g
      have g4 : cs.getD j 0 ≤ 60 := g2.2
      omega
    walk_at "sx"
    refine ⟨p, D, ws, ps, rfl, SqL.of d4.hp, SqL.of hps, sw, sps, by omega, by omega, ?_⟩
    have hwt0 : 0 ≤ wt ws cs := by rw [← low_all hwc]; exact low_nn d.tar d.rc (Nat.le_refl _)
    have hwt1 : wt ws cs ≤ 3660000 := by
      have g := low_le d.tar (d.rc.mono (by decide : (60 : Int) ≤ 61)) (Nat.le_refl ws.length)
      rw [low_all hwc] at g
      omega
    have tar := d.tar
    have rc := d.rc
    generalize wt ws ps = pt
    walk_at "sx"
    walk_at "sx"
    refine x_listL (SqL.of d4.hp) fun q1 hq1 => ?_
    walk_at "sx"
    have d5 := d4.ex (Ex.new hq1 (o := .lst (ws.map V.int)))
    refine x_listL (SqL.of d5.hc) fun q2 hq2 => ?_
    walk_at "sx"
    intro qh hqh
    walk_at "sx"
    have d6 := (d5.ex (Ex.new hq2 (o := .lst (cs.map V.int)))).ex (Ex.new hqh (o := .lst [.ref q1, .ref q2]))
    have s1 : SqL K _ q1 (ws.map V.int) := ex_l (Ex.new hqh (o := .lst [.ref q1, .ref q2])) (ex_l (Ex.new hq2 (o := .lst (cs.map V.int))) (SqL.of upd_same))
    have s2 : SqL K _ q2 (cs.map V.int) := ex_l (Ex.new hqh (o := .lst [.ref q1, .ref q2])) (SqL.of upd_same)
    have s3 : SqL K (upd (upd (upd H4 q1 (.lst (ws.map V.int))) q2 (.lst (cs.map V.int))) qh (.lst [.ref q1, .ref q2])) qh [.ref q1, .ref q2] := SqL.of upd_same
    have n1 : q1 ≠ b := BoxAt.ne1 hq1 d4.box
    have n2 : q2 ≠ b := BoxAt.ne1 hq2 d5.box
    have n3 : qh ≠ b := BoxAt.ne1 hqh (d5.ex (Ex.new hq2 (o := .lst (cs.map V.int)))).box
    generalize upd (upd (upd H4 q1 (.lst (ws.map V.int))) q2 (.lst (cs.map V.int))) qh (.lst [.ref q1, .ref q2]) = G1 at d6 s1 s2 s3 ⊢
    refine x_cut (fun σ G => ∃ (qs : Addr) (zs : List Int) (v10 v11 v12 v13 : Option V), σ = [some (.ref a), some (.ref b), some (.ref p), some (.ref pc), some (.ref pd), some (.int (B : Int)), some (.int (wt ws cs)), some (.int pt), some (.ref qh), some (.ref qs), v10, v11, v12, v13] ∧ Drawn H G b l p pc pd ws cs ds 200 ∧ SqL K G q1 (ws.map V.int) ∧ SqL K G q2 (cs.map V.int) ∧ SqL K G qh [.ref q1, .ref q2] ∧ G qs = some (.lst (zs.map V.int)) ∧ zs.length ≤ 10) ?_ ?_
    · walk_at "sx"
      refine x_take d6.box (by omega) (by omega) (by omega) fun z G2 z1 z2 kb B2 => ?_
      have d7 := d6.step kb B2
      walk_at "sx"
      intro qs hqs
      walk_at "sx"
      have e := Ex.new hqs (o := .lst ([pt, pt, pt + 1, wt ws cs, wt ws cs + 1, -1, 0, z].map V.int))
      exact ⟨qs, [pt, pt, pt + 1, wt ws cs, wt ws cs + 1, -1, 0, z], _, _, _, _, rfl, (d7.ex e).mono (by omega), ex_l e (kb.sqL s1 n1), ex_l e (kb.sqL s2 n2), ex_l e (kb.sqL s3 n3), upd_same, by simp⟩
    · clear d6 d5 s1 s2 s3 d4 d3 d hps
      rintro σ G ⟨qs, zs, v10, v11, v12, v13, rfl, d, s1, s2, s3, hz, hzl⟩
      walk_at "sx"
      refine x_slL (d.kb.sq0 hb hS) ?_
      obtain ⟨cells, hcells, hcl⟩ := cut_ints ns none (some 1)
      rw [hcells]
      intro q8 hq8
      walk_at "sx"
      have e8 := Ex.new hq8 (o := .lst (cells.map V.int))
      have h8 : upd G q8 (.lst (cells.map V.int)) q8 = some (.lst (cells.map V.int)) := upd_same
      refine x_iLQ (SqL.of h8) ?_
      refine x_lcQ walk_list (fun D i H' => upd G q8 (.lst (cells.map V.int)) D = none ∧ Ex (upd G q8 (.lst (cells.map V.int))) H' ∧ ∃ us : List Int, H' D = some (.lst (us.map V.int)) ∧ us.length = i) (fun D hD => ⟨hD, Ex.new hD, [], upd_same, rfl⟩) (fun D i H' _ p => ex_l p.2.1 (SqL.of h8)) ?_ ?_
      · rintro D i x H9 H9' hi ⟨hD, e9, us, hus, hul⟩ ⟨rfl, hx⟩
        obtain ⟨c, rfl, hcc⟩ := int_of hx
        rw [List.length_map] at hi
        walk_at "sx"
        refine ⟨c, rfl, fun y => ?_⟩
        walk_at "sx"
        refine x_elt hus (by rw [List.length_map, hul]; exact small1000 (by omega)) ?_
        exact ⟨hD, e9.mut hD, us ++ [y], by rw [upd_same, List.map_append]; rfl, by rw [List.length_append, hul]; rfl⟩
      · rintro D H9 ⟨hD, e9, us, hus, hul⟩
        rw [List.length_map] at hul
        have e19 := e8.trans e9
        walk_at "sx"
        refine x_cat (e19 _ _ hz) hus (by rw [List.length_map, List.length_map]; exact sz_of (by omega)) fun q9 hq9 => ?_
        rw [← List.map_append]
        have e20 := e19.trans (Ex.new hq9 (o := .lst ((zs ++ us).map V.int)))
        have d2 := d.ex e20
        have s1' := ex_l e20 s1
        have s2' := ex_l e20 s2
        have s3' := ex_l e20 s3
        have h9 : upd H9 q9 (.lst ((zs ++ us).map V.int)) q9 = some (.lst ((zs ++ us).map V.int)) := upd_same
        generalize upd H9 q9 (.lst ((zs ++ us).map V.int)) = G2 at d2 s1' s2' s3' h9 ⊢
        refine x_iLQ (SqL.of h9) ?_
        refine x_forQ walk_list (fun i σ H' => Ex G2 H' ∧ ∃ v10 v11 v12, σ = [some (.ref a), some (.ref b), some (.ref p), some (.ref pc), some (.ref pd), some (.int (B : Int)), some (.int (wt ws cs)), some (.int pt), some (.ref qh), some (.ref qs), v10, v11, v12, v13]) ⟨Ex.refl _, _, _, _, rfl⟩ (fun i σ H' _ p => ex_l p.1 (SqL.of h9)) ?_ ?_
        · rintro i x σ H5 H5' hi ⟨e5, v10, v11, v12, rfl⟩ ⟨rfl, hx⟩
          obtain ⟨m, rfl, hm⟩ := int_of hx
          have t1 := ex_l e5 s1'
          have t2 := ex_l e5 s2'
          have t3 := ex_l e5 s3'
          walk_at "sx"
          have look : ∀ H7, Ex H5' H7 → ∀ r, H7 r = some (.lst [.ref p, .ref pc]) → ∀ Q' : VK, Q' (.bl false) H7 → rNeD K (.ref qh) (.ref r) H7 Q' := fun H7 e7 r hr' Q' q => by
            have d7 := d2.ex (e5.trans e7)
            refine x_neSame (d := .list [dInts ws, dInts cs]) (.lst (ex_l e7 t3) (.cons (dp_ints (ex_l e7 t1)) (.cons (dp_ints (ex_l e7 t2)) .nil))) (.lst (SqL.of hr') (.cons (dp_ints (SqL.of d7.hp)) (.cons (dp_ints (SqL.of d7.hc)) .nil))) (OkD.shaped (n := 3) (.list (by simp) fun d hd => ?_) (by decide)) q
            simp only [List.mem_cons, List.not_mem_nil, or_false] at hd
            rcases hd with rfl | rfl
            · exact OkD.ints (by omega)
            · exact OkD.ints (by omega)
          refine ⟨q1, q2, ws, cs, 60, m, rfl, t1, t2, tar, rc, by decide, fun hc tt pp qq H6 hpp e6 htt h6 hqq => ?_, fun hc tt qq H6 e6 htt hqq => ?_⟩
          · have mk := (canB_iff tar rc m).mp hc
            walk_at "sx"
            intro r hr'
            walk_at "sx"
            have e7 := e6.trans (Ex.new hr' (o := .lst [.ref p, .ref pc]))
            refine look _ e7 r upd_same _ ?_
            have h67 := Ex.new hr' (o := .lst [.ref p, .ref pc]) _ _ h6
            have hqq7 := Ex.new hr' (o := .lst [.ref p, .ref pc]) _ _ hqq
            have d7 := d2.ex (e5.trans e7)
            generalize upd H6 r (.lst [.ref p, .ref pc]) = H7 at e7 h67 hqq7 d7 ⊢
            walk_at "sx"
            refine ⟨B, ws, cs, 60, m, rfl, tar, rc, hB, ?_⟩
            rw [hc]
            walk_at "sx"
            intro r2 hr2
            walk_at "sx"
            have e8 := Ex.new hr2 (o := .lst [])
            refine x_neSame (d := .list []) (.lst (SqL.of (e8 _ _ hqq7)) .nil) (.lst (SqL.of upd_same) .nil) (by decide) ?_
            have h68 := e8 _ _ h67
            have d8 := d7.ex e8
            have e78 := e7.trans e8
            generalize upd H7 r2 (.lst []) = H8 at h68 d8 e78 ⊢
            walk_at "sx"
            refine ⟨p, pc, ws, cs, 60, m, rfl, SqL.of d8.hp, SqL.of d8.hc, tar, rc, by decide, mk, fun pg H10 hpg e10 h10 => ?_⟩
            have h610 := e10 _ _ h68
            have gl := gpart_len ws cs m
            walk_at "sx"
            refine ⟨_, _, dInts (gpart ws cs m), rfl, dp_ints (SqL.of h610), dp_ints (SqL.of h10), OkD.ints (by omega), by decide, fun H11 e11 => ?_⟩
            have d11 := d8.ex (e10.trans e11)
            have h611 := e11 _ _ h610
            have gr := gpart_rng tar rc mk
            have gsm : Sm (gpart ws cs m) := fun c hc => by
              obtain ⟨j, hj, rfl⟩ := List.getElem_of_mem hc
              have q := gr j (by omega)
              have q2 := roll_at rc (i := j) (by omega)
              rw [gd, List.getD_eq_getElem?_getD, List.getElem?_eq_getElem hj] at q
              have q3 : 0 ≤ (gpart ws cs m)[j] ∧ (gpart ws cs m)[j] ≤ gd cs j := q
              omega
            walk_at "sx"
            refine ⟨p, pp, ws, gpart ws cs m, rfl, SqL.of d11.hp, SqL.of h611, sw, gsm, by omega, by omega, ?_⟩
            rw [gpart_wt tar rc mk]
            walk_at "sx"
            refine x_ifD (fun c => absurd rfl c) (fun _ => ?_)
            walk_at "sx"
            refine x_append h611 (small1000 (by rw [List.length_map]; omega)) ?_
            walk_at "sx"
            exact ⟨Ex.mut (e5.trans (e78.trans (e10.trans e11))) (Same.free e5 hpp), _, _, _, rfl⟩
          · walk_at "sx"
            intro r hr'
            walk_at "sx"
            have e7 := e6.trans (Ex.new hr' (o := .lst [.ref p, .ref pc]))
            refine look _ e7 r upd_same _ ?_
            have hqq7 := Ex.new hr' (o := .lst [.ref p, .ref pc]) _ _ hqq
            generalize upd H6 r (.lst [.ref p, .ref pc]) = H7 at e7 hqq7 ⊢
            walk_at "sx"
            refine ⟨B, ws, cs, 60, m, rfl, tar, rc, hB, ?_⟩
            rw [hc]
            walk_at "sx"
            intro r2 hr2
            walk_at "sx"
            have e8 := Ex.new hr2 (o := .lst [.bl true, .bl true, .bl false, .bl false])
            refine x_neSame (d := .list [.bool true, .bool true, .bool false, .bool false]) (.lst (SqL.of (e8 _ _ hqq7)) (dpAll_bls [true, true, false, false])) (.lst (SqL.of upd_same) (dpAll_bls [true, true, false, false])) (by decide) ?_
            walk_at "sx"
            exact ⟨e5.trans (e7.trans e8), _, _, _, rfl⟩
        · rintro σ H5 ⟨e5, v10, v11, v12, rfl⟩
          walk_at "sx"
          exact k _
end

structure All (K : PySem.W.Frag) (mg : Str → Option Value) : Prop where
  T : Txt K mg
  F_weight : Df K mg "weight" s_weight
  F_lower : Df K mg "lower" s_lower
  F_can_put : Df K mg "can_put" s_can_put
  F_put_up : Df K mg "put_up" s_put_up
  F__law_box : Df K mg "_law_box" s__law_box
  F__law_mixed : Df K mg "_law_mixed" s__law_mixed
  F__law_take : Df K mg "_law_take" s__law_take
  F__law_whole : Df K mg "_law_whole" s__law_whole
  F__law_alike : Df K mg "_law_alike" s__law_alike
  F__law_worths : Df K mg "_law_worths" s__law_worths
  F__law_counts : Df K mg "_law_counts" s__law_counts
  F__law_weight : Df K mg "_law_weight" s__law_weight
  F__law_bits : Df K mg "_law_bits" s__law_bits
  F__law_makes : Df K mg "_law_makes" s__law_makes
  F__law_greedy : Df K mg "_law_greedy" s__law_greedy
  F__law_two_rolls : Df K mg "_law_two_rolls" s__law_two_rolls
  F__law_cut : Df K mg "_law_cut" s__law_cut
  F__law_told : Df K mg "_law_told" s__law_told

theorem chain {P : Program} {w : World} {K : PySem.W.Frag} {mg : Str → Option Value} {base : Heap} (A : All K mg) {f : Addr} {fd : FuncData} (F : Fun K "law" "law" s_law f fd) : FnOk P w K mg base CX0 8 f fd ["_law_script"] (spLaw K) := by
  have T := A.T
  have D1 : Dn P w K mg base CX0 1 "_law_mixed" _ _ := D_mixed A.F__law_mixed
  have D2 := D_take T D1 A.F__law_take
  have D3 := D_whole (P := P) (w := w) (base := base) T A.F__law_whole
  have D4 := D_weight (P := P) (w := w) (base := base) T A.F_weight
  exact D_law T (D_box T A.F__law_box) D2 (D_two T D2 (D_worths T D2 A.F__law_worths) (D_counts T D2 A.F__law_counts) A.F__law_two_rolls) (D_bits T A.F__law_bits) (D_lweight T A.F__law_weight) (D_cut T A.F__law_cut)
    (D_makes A.F__law_makes) (D_told T (D_put T (D_can T D4 (D_lower T D4 A.F_lower) A.F_can_put) A.F_put_up) A.F__law_told) (D_greedy T A.F__law_greedy) (D_alike T D3 A.F__law_alike 4) F
def fns0 : List He.FnD := [⟨("weight", none), "weight", "weight", defArgs (top 6), defBody (top 6), defScope (top 6)⟩, ⟨("lower", none), "lower", "lower", defArgs (top 7), defBody (top 7), defScope (top 7)⟩, ⟨("can_put", none), "can_put", "can_put", defArgs (top 9), defBody (top 9), defScope (top 9)⟩, ⟨("put_up", none), "put_up", "put_up", defArgs (top 10), defBody (top 10), defScope (top 10)⟩, ⟨("_law_box", none), "_law_box", "_law_box", defArgs (top 12), defBody (top 12), defScope (top 12)⟩, ⟨("_law_mixed", none), "_law_mixed", "_law_mixed", defArgs (top 13), defBody (top 13), defScope (top 13)⟩, ⟨("_law_take", none), "_law_take", "_law_take", defArgs (top 14), defBody (top 14), defScope (top 14)⟩, ⟨("_law_whole", none), "_law_whole", "_law_whole", defArgs (top 15), defBody (top 15), defScope (top 15)⟩, ⟨("_law_alike", none), "_law_alike", "_law_alike", defArgs (top 16), defBody (top 16), defScope (top 16)⟩, ⟨("_law_worths", none), "_law_worths", "_law_worths", defArgs (top 17), defBody (top 17), defScope (top 17)⟩, ⟨("_law_counts", none), "_law_counts", "_law_counts", defArgs (top 18), defBody (top 18), defScope (top 18)⟩, ⟨("_law_weight", none), "_law_weight", "_law_weight", defArgs (top 19), defBody (top 19), defScope (top 19)⟩, ⟨("_law_bits", none), "_law_bits", "_law_bits", defArgs (top 20), defBody (top 20), defScope (top 20)⟩, ⟨("_law_makes", none), "_law_makes", "_law_makes", defArgs (top 21), defBody (top 21), defScope (top 21)⟩, ⟨("_law_greedy", none), "_law_greedy", "_law_greedy", defArgs (top 22), defBody (top 22), defScope (top 22)⟩, ⟨("_law_two_rolls", none), "_law_two_rolls", "_law_two_rolls", defArgs (top 23), defBody (top 23), defScope (top 23)⟩, ⟨("_law_cut", none), "_law_cut", "_law_cut", defArgs (top 24), defBody (top 24), defScope (top 24)⟩, ⟨("_law_told", none), "_law_told", "_law_told", defArgs (top 25), defBody (top 25), defScope (top 25)⟩, ⟨("law", none), "law", "law", defArgs (top 26), defBody (top 26), defScope (top 26)⟩]
def fns : List (List He.FnD) := [fns0]
def fas0 : List He.Fa := [.glo "weight", .glo "lower", .glo "can_put", .glo "put_up", .glo "_law_box", .glo "_law_mixed", .glo "_law_take", .glo "_law_whole", .glo "_law_alike", .glo "_law_worths", .glo "_law_counts", .glo "_law_weight", .glo "_law_bits", .glo "_law_makes", .glo "_law_greedy", .glo "_law_two_rolls", .glo "_law_cut", .glo "_law_told", .glo "law", .free "ValueError", .free "all", .free "bool", .free "int", .free "isinstance", .free "len"]
def fas1 : List He.Fa := [.free "list", .free "max", .free "min", .free "range", .free "reversed", .free "str", .free "sum", .free "tuple", .free "zip", .glo "BadRank", .exc "BadRank", .glo "CartelError", .exc "CartelError", .glo "NoDeed", .exc "NoDeed", .glo "NoPart", .exc "NoPart"]
def fas : List (List He.Fa) := [fas0, fas1]
def names0 : List PySem.Str := ["__name__", "CartelError", "BadRank", "NoPart", "NoDeed", "weight", "lower", "can_put", "put_up", "_law_box", "_law_mixed", "_law_take", "_law_whole", "_law_alike", "_law_worths", "_law_counts", "_law_weight", "_law_bits", "_law_makes", "_law_greedy", "_law_two_rolls", "_law_cut", "_law_told"]
def names : List PySem.Str := names0
def xfs : List (PySem.W.Frag → Bool) := [fun K => decide (PySem.W.exmOne K (.ref (He.ga K "NoPart")) (.ref (He.ga K "CartelError")) = some true), excCB "NoPart", fun K => decide (PySem.W.kitOne K (.ref (He.ga K "NoPart")) (.ref (He.ga K "NoPart")) = some true), fun K => decide (PySem.W.kitOne K (.ref (He.ga K "NoPart")) (.type "ValueError") = some true), fun K => decide (PySem.W.kitOne K (.ref (He.ga K "NoPart")) (.ref (He.ga K "BadRank")) = some false), fun K => decide (PySem.W.kitOne K (.ref (He.ga K "NoPart")) (.ref (He.ga K "NoDeed")) = some false)]
abbrev hdR : PySem.W.OpenRow := PySem.W.OpenLaw.row PySem.Challenge.rw_cartelship_k04_parts_put_up
theorem hdrun (w : World) : HandSHeadRun.RunEq hdR (PySem.W.view hdR.prog [26]) (hookK fas fns xfs) (obKT fas fns xfs) 2500 names w := by
  intro os
  kernel_rfl
theorem all_ok {w : World} {K : PySem.W.Frag} {h : Heap} {mg : Str → Option Value} (X : K.In h) (GN : h.Ns mainGlobals mg) (c : SaysK fas fns xfs K) : All K mg :=
  ⟨{ m_ValueError := He.free_ok X GN (c.fact 0 19 (f := .free "ValueError") rfl),
     m_all := He.free_ok X GN (c.fact 0 20 (f := .free "all") rfl),
     m_bool := He.free_ok X GN (c.fact 0 21 (f := .free "bool") rfl),
     m_int := He.free_ok X GN (c.fact 0 22 (f := .free "int") rfl),
     m_isinstance := He.free_ok X GN (c.fact 0 23 (f := .free "isinstance") rfl),
     m_len := He.free_ok X GN (c.fact 0 24 (f := .free "len") rfl),
     m_list := He.free_ok X GN (c.fact 1 0 (f := .free "list") rfl),
     m_max := He.free_ok X GN (c.fact 1 1 (f := .free "max") rfl),
     m_min := He.free_ok X GN (c.fact 1 2 (f := .free "min") rfl),
     m_range := He.free_ok X GN (c.fact 1 3 (f := .free "range") rfl),
     m_reversed := He.free_ok X GN (c.fact 1 4 (f := .free "reversed") rfl),
     m_str := He.free_ok X GN (c.fact 1 5 (f := .free "str") rfl),
     m_sum := He.free_ok X GN (c.fact 1 6 (f := .free "sum") rfl),
     m_tuple := He.free_ok X GN (c.fact 1 7 (f := .free "tuple") rfl),
     m_zip := He.free_ok X GN (c.fact 1 8 (f := .free "zip") rfl),
     x_BadRank := Xc.of (x := "BadRank") X GN c 1 9 1 10 rfl rfl rfl rfl,
     x_CartelError := Xc.of (x := "CartelError") X GN c 1 11 1 12 rfl rfl rfl rfl,
     x_NoDeed := Xc.of (x := "NoDeed") X GN c 1 13 1 14 rfl rfl rfl rfl,
     x_NoPart := Xc.of (x := "NoPart") X GN c 1 15 1 16 rfl rfl rfl rfl,
     em_NoPart_CartelError := of_decide_eq_true (c.xf 0 (b := fun K => decide (PySem.W.exmOne K (.ref (He.ga K "NoPart")) (.ref (He.ga K "CartelError")) = some true)) rfl),
     ec_NoPart := excCB_ok (c.xf 1 (b := excCB "NoPart") rfl),
     ki_NoPart_NoPart := of_decide_eq_true (c.xf 2 (b := fun K => decide (PySem.W.kitOne K (.ref (He.ga K "NoPart")) (.ref (He.ga K "NoPart")) = some true)) rfl),
     ki_NoPart_ValueError := of_decide_eq_true (c.xf 3 (b := fun K => decide (PySem.W.kitOne K (.ref (He.ga K "NoPart")) (.type "ValueError") = some true)) rfl),
     ki_NoPart_BadRank := of_decide_eq_true (c.xf 4 (b := fun K => decide (PySem.W.kitOne K (.ref (He.ga K "NoPart")) (.ref (He.ga K "BadRank")) = some false)) rfl),
     ki_NoPart_NoDeed := of_decide_eq_true (c.xf 5 (b := fun K => decide (PySem.W.kitOne K (.ref (He.ga K "NoPart")) (.ref (He.ga K "NoDeed")) = some false)) rfl) },
    SaysK.df (x := "weight") (st := s_weight) X GN c 0 0 0 0 rfl rfl rfl rfl,
    SaysK.df (x := "lower") (st := s_lower) X GN c 0 1 0 1 rfl rfl rfl rfl,
    SaysK.df (x := "can_put") (st := s_can_put) X GN c 0 2 0 2 rfl rfl rfl rfl,
    SaysK.df (x := "put_up") (st := s_put_up) X GN c 0 3 0 3 rfl rfl rfl rfl,
    SaysK.df (x := "_law_box") (st := s__law_box) X GN c 0 4 0 4 rfl rfl rfl rfl,
    SaysK.df (x := "_law_mixed") (st := s__law_mixed) X GN c 0 5 0 5 rfl rfl rfl rfl,
    SaysK.df (x := "_law_take") (st := s__law_take) X GN c 0 6 0 6 rfl rfl rfl rfl,
    SaysK.df (x := "_law_whole") (st := s__law_whole) X GN c 0 7 0 7 rfl rfl rfl rfl,
    SaysK.df (x := "_law_alike") (st := s__law_alike) X GN c 0 8 0 8 rfl rfl rfl rfl,
    SaysK.df (x := "_law_worths") (st := s__law_worths) X GN c 0 9 0 9 rfl rfl rfl rfl,
    SaysK.df (x := "_law_counts") (st := s__law_counts) X GN c 0 10 0 10 rfl rfl rfl rfl,
    SaysK.df (x := "_law_weight") (st := s__law_weight) X GN c 0 11 0 11 rfl rfl rfl rfl,
    SaysK.df (x := "_law_bits") (st := s__law_bits) X GN c 0 12 0 12 rfl rfl rfl rfl,
    SaysK.df (x := "_law_makes") (st := s__law_makes) X GN c 0 13 0 13 rfl rfl rfl rfl,
    SaysK.df (x := "_law_greedy") (st := s__law_greedy) X GN c 0 14 0 14 rfl rfl rfl rfl,
    SaysK.df (x := "_law_two_rolls") (st := s__law_two_rolls) X GN c 0 15 0 15 rfl rfl rfl rfl,
    SaysK.df (x := "_law_cut") (st := s__law_cut) X GN c 0 16 0 16 rfl rfl rfl rfl,
    SaysK.df (x := "_law_told") (st := s__law_told) X GN c 0 17 0 17 rfl rfl rfl rfl⟩
end Law
open PySem PySem.W PySem.Calls PyProof.Rows
theorem PySem.Challenge.cw_cartelship_k04_parts_put_up_holds : PySem.Challenge.rw_cartelship_k04_parts_put_up.Holds := by
  w_on; o_law
  refine HandSHeadRun.head_any (r := OpenLaw.row PySem.Challenge.rw_cartelship_k04_parts_put_up) (q := view (OpenLaw.row PySem.Challenge.rw_cartelship_k04_parts_put_up).prog [26]) (H := G.hookK Law.fas Law.fns Law.xfs) (ob := G.obKT Law.fas Law.fns Law.xfs) (M := 2500) (loose := Law.names) (d := HandSHeadRun.topDef (OpenLaw.row PySem.Challenge.rw_cartelship_k04_parts_put_up).prog 26) (kwd := []) (G.obKT_eq Law.fas Law.fns Law.xfs)
    (by kernel_rfl) (fun s => by kernel_rfl) Law.hdrun (by kernel_rfl) (by kernel_rfl) (by kernel_rfl) (by rfl) (by first | assumption | decide +kernel) (by decide +kernel) ⟨rfl, rfl, rfl, rfl, rfl, by decide +kernel⟩ ?hw ?hc
  case hw => w_witness2
  case hc =>
    refine G.walk_ofEB (l := PySem.Challenge.rw_cartelship_k04_parts_put_up) (n := 63) (k := 8) (x := "_law_script") (CX := L2.CX0) rfl (by decide) (by kernel_rfl) ⟨rfl, by decide, by decide⟩ ?F (fun _ _ _ _ z => z)
    intro w mg fa h Y GN hmg0
    obtain ⟨K, KX, c⟩ := Y
    have hmg : mg ("law" : PySem.Str) = some (.ref fa) := by
      have e : (HandSHeadRun.topDef (OpenLaw.row PySem.Challenge.rw_cartelship_k04_parts_put_up).prog 26).name = ("law" : PySem.Str) := by kernel_rfl
      rw [← e]
      exact hmg0
    obtain ⟨kp, oc, od, osl, kV, doc, pm, an, cdv, ct, lk, cd⟩ := G.SaysK.def_ c 0 18 (d := ⟨("law", none), "law", "law", L2.defArgs Law.s_law, L2.defBody Law.s_law, L2.defScope Law.s_law⟩) rfl rfl
    have e := hmg.symm.trans (He.glo_ok KX GN (G.SaysK.fact c 0 18 (f := .glo "law") rfl rfl))
    cases e
    exact ⟨K, _, G.spLaw K, KX, fun s v => .of_eq rfl, fun H a ns hl hb _ hS => ⟨a, ns, rfl, hS, hl, hb, fun _ => rfl⟩, fun base _ _ => Law.chain (Law.all_ok (w := w) KX GN c) (L2.fun_mk (st := Law.s_law) lk cd kp)⟩
#print axioms PySem.Challenge.cw_cartelship_k04_parts_put_up_holds


