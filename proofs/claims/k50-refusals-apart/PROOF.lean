import PyProof.Rows.All
import Wide.All
import OpenK.AllK
import Wide.FinOn
import HandS.ForMost
import HandS.Evl
import HandS.IsInst
import HandS.Wide
import HandS.WideBits
import HandS.RevRange
import HandS.Walk
import HandS.Zip
import HandS.EndBits
import HandS.Style
import HandS.Exc
import HandS.ExcOwn
import HandS.WordsExc
import HandS.TryOnly
import HandS.ExcIs
import KE.KStateDown
import HandS.Head0
import HandS.Head1
import HandS.Head2
import HandS.HeadEnd
import HandS.HeadHook1
import HandS.Sort
import HandS.SortInts
import HandS.SortKw
import HandS.TupAny
import HandS.ExcCtx
import HandS.More
import HandS.ExcValue
import HandS.ExcInit
import KE.KExcIs
import PyProof.StrOps2
import HandS.List
import PySem.Challenge.RW_cartelship_k50_refusals_apart
set_option Elab.async false
set_option linter.all false
set_option maxRecDepth 100000
set_option synthInstance.maxHeartbeats 0
set_option synthInstance.maxSize 100000
/-! Own layer over HandS: readings run one step at a time. -/
namespace G
open PySem PySem.Spec PyProof.Rows L2 Evl RZ
/-! ### continuations with names of their own -/
def bQ (Q : Bool → Hp → Prop) : VK := fun x H => ∃ k, x = .bl k ∧ Q k H
def opQ2 (r : R2) (x : V) (Q : VK) : VK := fun y H => r x y H Q
def opQ1 (r : R2) (tb : TE) (σ : L2.St) (Q : VK) : VK := fun x H => tb σ H (opQ2 r x Q)
def unQ (r : V → Hp → VK → Prop) (Q : VK) : VK := fun x H => r x H Q
def andQ (u : TT) (σ : L2.St) (Q : Bool → Hp → Prop) : Bool → Hp → Prop := fun c H => if c = true then u σ H Q else Q false H
def orQ (u : TT) (σ : L2.St) (Q : Bool → Hp → Prop) : Bool → Hp → Prop := fun c H => if c = true then Q true H else u σ H Q
def notQ (Q : Bool → Hp → Prop) : Bool → Hp → Prop := fun c H => Q (!c) H
def ifQ (t u : TS) (D : Ends) (σ : L2.St) : Bool → Hp → Prop := fun b H => if b = true then t D σ H else u D σ H
def iteQ (ta tb : TE) (σ : L2.St) (Q : VK) : Bool → Hp → Prop := fun c H => if c = true then ta σ H Q else tb σ H Q
def asgQ (g : TG) (D : Ends) (σ : L2.St) : VK := fun x H => g x σ H D.nx
def dropQ (D : Ends) (σ : L2.St) : VK := fun _ H => D.nx σ H
def consQ (tr : TA) (σ : L2.St) (Q : List V → Hp → Prop) : VK := fun x H => tr σ H fun xs H2 => Q (x :: xs) H2
def callQ (sp : Sp) (Q : VK) (E : XK) : List V → Hp → Prop := fun vs H => sp (vs ++ []) H Q E
def cbQ (r : List V → Hp → VK → Prop) (Q : VK) : List V → Hp → Prop := fun vs H => r vs H Q
def lstQ (Q : VK) : List V → Hp → Prop := fun xs H => xs.length ≤ sizeLine ∧ ∀ p, H p = none → Q (.ref p) (upd H p (.lst xs))
def tupQ (Q : VK) : List V → Hp → Prop := fun xs H => xs.length ≤ sizeLine ∧ ∀ p, H p = none → Q (.ref p) (upd H p (.tup xs))
def andVQ (tb : TE) (σ : L2.St) (Q : VK) : VK := fun x H => ∃ c, x = .bl c ∧ if c = true then tb σ H Q else Q (.bl false) H
def orVQ (tb : TE) (σ : L2.St) (Q : VK) : VK := fun x H => ∃ c, x = .bl c ∧ if c = true then Q (.bl true) H else tb σ H Q
def notVQ (Q : VK) : VK := fun x H => ∃ c, x = .bl c ∧ Q (.bl (!c)) H
section
variable {K : PySem.W.Frag} {σ : L2.St} {H H1 : Hp} {Q : VK} {QB : Bool → Hp → Prop} {QA : List V → Hp → Prop} {v x y : V} {ta tb te : TE} {t u : TS} {c d : TT} {D : Ends} {r : R2} {i : Nat} {g : TG} {tr : TA} {sp : Sp} {E : XK}
/-! ### expressions -/
theorem x_var (h : σ[i]? = some (some v)) (k : Q v H) : tVar i σ H Q := ⟨v, h, k⟩
theorem x_c (k : Q v H) : tC v σ H Q := k
theorem x_op (k : ta σ H (opQ1 r tb σ Q)) : tOp r ta tb σ H Q := k
theorem x_opQ1 (k : tb σ H (opQ2 r x Q)) : opQ1 r tb σ Q x H := k
theorem x_opQ2 (k : r x y H Q) : opQ2 r x Q y H := k
theorem x_un {q : V → Hp → VK → Prop} (k : ta σ H (unQ q Q)) : tUn q ta σ H Q := k
theorem x_unQ {q : V → Hp → VK → Prop} (k : q x H Q) : unQ q Q x H := k
theorem x_I0 {f : Int → Int → V} {a b : Int} (k : Q (f a b) H) : rI0 f (.int a) (.int b) H Q := ⟨a, b, rfl, rfl, k⟩
theorem x_I {C : Int → Int → Prop} {f : Int → Int → V} {a b : Int} (h : C a b) (k : Q (f a b) H) : rI C f (.int a) (.int b) H Q := ⟨a, b, rfl, rfl, h, k⟩
theorem x_rU {f : Int → V} {a : Int} (k : Q (f a) H) : rU f (.int a) H Q := ⟨a, rfl, k⟩
theorem x_eq (h : scal x y = true) (k : Q (.bl (decide (x = y))) H) : rEq x y H Q := ⟨h, k⟩
theorem x_ne (h : scal x y = true) (k : Q (.bl (!decide (x = y))) H) : rNe x y H Q := ⟨h, k⟩
theorem x_eqI {a b : Int} (k : Q (.bl (decide (a = b))) H) : rEq (.int a) (.int b) H Q := ⟨rfl, by
  have e : decide (V.int a = V.int b) = decide (a = b) := by
    by_cases h : a = b
    · rw [decide_eq_true h, decide_eq_true (congrArg V.int h)]
    · rw [decide_eq_false h, decide_eq_false (fun q => h (V.int.inj q))]
  rw [e]; exact k⟩
theorem x_neI {a b : Int} (k : Q (.bl (decide (a ≠ b))) H) : rNe (.int a) (.int b) H Q := ⟨rfl, by
  have e : (!decide (V.int a = V.int b)) = decide (a ≠ b) := by
    by_cases h : a = b
    · rw [decide_eq_false (fun q : a ≠ b => q h), decide_eq_true (congrArg V.int h)]; rfl
    · rw [decide_eq_true h, decide_eq_false (fun q => h (V.int.inj q))]; rfl
  rw [e]; exact k⟩
theorem x_eqS {a b : Str} (k : Q (.bl (decide (a = b))) H) : rEq (.str a) (.str b) H Q := ⟨rfl, by
  have e : decide (V.str a = V.str b) = decide (a = b) := by
    by_cases h : a = b
    · rw [decide_eq_true h, decide_eq_true (congrArg V.str h)]
    · rw [decide_eq_false h, decide_eq_false (fun q => h (V.str.inj q))]
  rw [e]; exact k⟩
theorem x_neS {a b : Str} (k : Q (.bl (decide (a ≠ b))) H) : rNe (.str a) (.str b) H Q := ⟨rfl, by
  have e : (!decide (V.str a = V.str b)) = decide (a ≠ b) := by
    by_cases h : a = b
    · rw [decide_eq_false (fun q : a ≠ b => q h), decide_eq_true (congrArg V.str h)]; rfl
    · rw [decide_eq_true h, decide_eq_false (fun q => h (V.str.inj q))]; rfl
  rw [e]; exact k⟩
theorem x_eqB {a b : Bool} (k : Q (.bl (a == b)) H) : rEq (.bl a) (.bl b) H Q := ⟨rfl, by
  have e : decide (V.bl a = V.bl b) = (a == b) := dec_bl
  rw [e]; exact k⟩
theorem x_neB {a b : Bool} (k : Q (.bl (a != b)) H) : rNe (.bl a) (.bl b) H Q := ⟨rfl, by
  have e : decide (V.bl a = V.bl b) = (a == b) := dec_bl
  rw [e]; exact k⟩
theorem x_neBs {a : Bool} (k : Q (.bl false) H) : rNe (.bl a) (.bl a) H Q := ⟨rfl, by rw [decide_eq_true rfl]; exact k⟩
theorem x_eqBs {a : Bool} (k : Q (.bl true) H) : rEq (.bl a) (.bl a) H Q := ⟨rfl, by rw [decide_eq_true rfl]; exact k⟩
theorem x_gN {R : L2.St → Hp → Prop} (k : R (σ.set i (some v)) H) : gName i v σ H R := k
theorem x_test (k : ta σ H (bQ QB)) : tTest ta σ H QB := k
theorem x_tB (k : ta σ H (bQ QB)) : tB ta σ H QB := k
theorem x_bQ {b : Bool} (k : QB b H) : bQ QB (.bl b) H := ⟨b, rfl, k⟩
theorem x_and (k : c σ H (andQ d σ QB)) : tAnd c d σ H QB := k
theorem x_or (k : c σ H (orQ d σ QB)) : tOr c d σ H QB := k
theorem x_not (k : c σ H (notQ QB)) : tNot c σ H QB := k
theorem x_notQ {b : Bool} (k : QB (!b) H) : notQ QB b H := k
theorem x_andQ {b : Bool} (h1 : b = true → d σ H QB) (h2 : b = false → QB false H) : andQ d σ QB b H := by
  unfold andQ
  cases b with
  | true => exact h1 rfl
  | false => exact h2 rfl
theorem x_orQ {b : Bool} (h1 : b = true → QB true H) (h2 : b = false → d σ H QB) : orQ d σ QB b H := by
  unfold orQ
  cases b with
  | true => exact h1 rfl
  | false => exact h2 rfl
theorem x_ifExp (k : c σ H (iteQ ta tb σ Q)) : tIf c ta tb σ H Q := k
theorem x_iteQ {b : Bool} (h1 : b = true → ta σ H Q) (h2 : b = false → tb σ H Q) : iteQ ta tb σ Q b H := by
  unfold iteQ
  cases b with
  | true => exact h1 rfl
  | false => exact h2 rfl
theorem x_andV (k : ta σ H (andVQ tb σ Q)) : tAndV ta tb σ H Q := k
theorem x_orV (k : ta σ H (orVQ tb σ Q)) : tOrV ta tb σ H Q := k
theorem x_notV (k : ta σ H (notVQ Q)) : tNotV ta σ H Q := k
theorem x_notVQ {b : Bool} (k : Q (.bl (!b)) H) : notVQ Q (.bl b) H := ⟨b, rfl, k⟩
theorem x_andVQ {b : Bool} (h1 : b = true → tb σ H Q) (h2 : b = false → Q (.bl false) H) : andVQ tb σ Q (.bl b) H := by
  refine ⟨b, rfl, ?_⟩
  cases b with
  | true => exact h1 rfl
  | false => exact h2 rfl
theorem x_orVQ {b : Bool} (h1 : b = true → Q (.bl true) H) (h2 : b = false → tb σ H Q) : orVQ tb σ Q (.bl b) H := by
  refine ⟨b, rfl, ?_⟩
  cases b with
  | true => exact h1 rfl
  | false => exact h2 rfl
/-! ### arguments, calls, displays -/
theorem x_nil (k : QA [] H) : tNil σ H QA := k
theorem x_cons (k : te σ H (consQ tr σ QA)) : tCons te tr σ H QA := k
theorem x_consQ (k : tr σ H fun xs H2 => QA (x :: xs) H2) : consQ tr σ QA x H := k
theorem x_call (k : tr σ H (callQ sp Q E)) : tCall sp [] E tr σ H Q := k
theorem x_callQ {vs : List V} (k : sp vs H Q E) : callQ sp Q E vs H := by
  unfold callQ
  rw [List.append_nil]
  exact k
theorem x_cb {q : List V → Hp → VK → Prop} (k : tr σ H (cbQ q Q)) : tCB q tr σ H Q := k
theorem x_cbQ {q : List V → Hp → VK → Prop} {vs : List V} (k : q vs H Q) : cbQ q Q vs H := k
theorem x_lst (k : tr σ H (lstQ Q)) : tLst tr σ H Q := k
theorem x_lstQ {xs : List V} (h : xs.length ≤ sizeLine) (k : ∀ p, H p = none → Q (.ref p) (upd H p (.lst xs))) : lstQ Q xs H := ⟨h, k⟩
theorem x_tup (k : tr σ H (tupQ Q)) : tTup tr σ H Q := k
theorem x_tupQ {xs : List V} (h : xs.length ≤ sizeLine) (k : ∀ p, H p = none → Q (.ref p) (upd H p (.tup xs))) : tupQ Q xs H := ⟨h, k⟩
/-! ### statements -/
theorem x_seq (k : t { D with nx := u D } σ H) : tSeq t u D σ H := k
theorem x_next (k : D.nx σ H) : tNext D σ H := k
theorem x_asg (k : te σ H (asgQ g D σ)) : tAsg te g D σ H := k
theorem x_asgN (k : D.nx (σ.set i (some x)) H) : asgQ (gName i) D σ x H := k
theorem x_drop (k : te σ H (dropQ D σ)) : tDrop te D σ H := k
theorem x_dropQ (k : D.nx σ H) : dropQ D σ x H := k
theorem x_ret (k : te σ H D.rt) : tRet te D σ H := k
theorem x_retN (k : D.rt .non H) : tRetN D σ H := k
theorem x_if (k : c σ H (ifQ t u D σ)) : tIfS c t u D σ H := k
theorem x_ifQ {b : Bool} (h1 : b = true → t D σ H) (h2 : b = false → u D σ H) : ifQ t u D σ b H := by
  unfold ifQ
  cases b with
  | true => exact h1 rfl
  | false => exact h2 rfl
theorem x_cont (k : D.ct σ H) : tCont D σ H := k
theorem x_break (k : D.bk σ H) : tBreak D σ H := k
end

/-! ### rules by names of their own -/
def rLen (K : PySem.W.Frag) : List V → Hp → VK → Prop := fun xs H Q => ∃ p ys, xs = [.ref p] ∧ (SqL K H p ys ∨ SqT K H p ys) ∧ Q (.int ys.length) H
def rLenStr : List V → Hp → VK → Prop := fun xs H Q => ∃ z, xs = [.str z] ∧ z.length ≤ sizeLine ∧ Q (.int z.length) H
def rListOf (K : PySem.W.Frag) : List V → Hp → VK → Prop := fun xs H Q => ∃ p ys, xs = [.ref p] ∧ (SqL K H p ys ∨ SqT K H p ys) ∧ ∀ l, H l = none → Q (.ref l) (upd H l (.lst ys))
def rTupOf (K : PySem.W.Frag) : List V → Hp → VK → Prop := fun xs H Q => ∃ p ys, xs = [.ref p] ∧ ((SqL K H p ys ∧ ∀ l, H l = none → Q (.ref l) (upd H l (.tup ys))) ∨ (SqT K H p ys ∧ Q (.ref p) H))
def rIntOf : List V → Hp → VK → Prop := fun xs H Q => (∃ i, xs = [.int i] ∧ Q (.int i) H) ∨ ∃ k, xs = [.bl k] ∧ Q (.int (if k then 1 else 0)) H
def rMin2 : List V → Hp → VK → Prop := fun xs H Q => ∃ i j, xs = [.int i, .int j] ∧ Q (.int (if j < i then j else i)) H
def rMax2' : List V → Hp → VK → Prop := fun xs H Q => ∃ i j, xs = [.int i, .int j] ∧ Q (.int (if j > i then j else i)) H
def rAddS : R2 := fun x y H Q => ∃ i j, x = .str i ∧ y = .str j ∧ i.length + j.length ≤ sizeLine ∧ Q (.str (i ++ j)) H
def rIsN : R2 := fun x y H Q => y = .non ∧ Q (.bl (decide (x = .non))) H
def rNotN : R2 := fun x y H Q => y = .non ∧ Q (.bl (!decide (x = .non))) H
section
variable {X : Cx}
theorem g_len : CallR X (.builtin "len") (rLen X.K) := call_len_seq
theorem g_lenS : CallR X (.builtin "len") rLenStr := call_len_str
theorem g_list : CallR X (.type "list") (rListOf X.K) := call_list_of
theorem g_tuple : CallR X (.type "tuple") (rTupOf X.K) := call_tuple_of
theorem g_int : CallR X (.type "int") rIntOf := call_int1
theorem g_min (hc : X.calm = true) : CallR X (.builtin "min") rMin2 := call_min2 hc
theorem g_max (hc : X.calm = true) : CallR X (.builtin "max") rMax2' := call_max2 hc
theorem g_isN : OpR X (compareOp .Is) rIsN := op_isN
theorem g_notN : OpR X (compareOp .IsNot) rNotN := op_notN
theorem op_addS : OpR X (binaryOp .Add) rAddS := op_add_str
theorem op_mulB : OpR X (binaryOp .Mult) (rI CMulX fun i j => .int (i * j)) := op_mulX
theorem op_shlB : OpR X (binaryOp .LShift) (rI CShl fun i j => .int (i * 2 ^ j.toNat)) := op_shlW
end
section
variable {K : PySem.W.Frag} {σ : L2.St} {H H1 : Hp} {Q : VK} {p : Addr} {xs : List V}
theorem x_lenL (h : SqL K H p xs) (k : Q (.int xs.length) H) : rLen K [.ref p] H Q := ⟨p, xs, rfl, .inl h, k⟩
theorem x_lenT (h : SqT K H p xs) (k : Q (.int xs.length) H) : rLen K [.ref p] H Q := ⟨p, xs, rfl, .inr h, k⟩
theorem x_lenS {z : Str} (h : z.length ≤ sizeLine) (k : Q (.int z.length) H) : rLenStr [.str z] H Q := ⟨z, rfl, h, k⟩
theorem x_listL (h : SqL K H p xs) (k : ∀ l, H l = none → Q (.ref l) (upd H l (.lst xs))) : rListOf K [.ref p] H Q := ⟨p, xs, rfl, .inl h, k⟩
theorem x_listT (h : SqT K H p xs) (k : ∀ l, H l = none → Q (.ref l) (upd H l (.lst xs))) : rListOf K [.ref p] H Q := ⟨p, xs, rfl, .inr h, k⟩
theorem x_tupL (h : SqL K H p xs) (k : ∀ l, H l = none → Q (.ref l) (upd H l (.tup xs))) : rTupOf K [.ref p] H Q := ⟨p, xs, rfl, .inl ⟨h, k⟩⟩
theorem x_tupT (h : SqT K H p xs) (k : Q (.ref p) H) : rTupOf K [.ref p] H Q := ⟨p, xs, rfl, .inr ⟨h, k⟩⟩
theorem x_intB {b : Bool} (k : Q (.int (if b then 1 else 0)) H) : rIntOf [.bl b] H Q := .inr ⟨b, rfl, k⟩
theorem x_intI {i : Int} (k : Q (.int i) H) : rIntOf [.int i] H Q := .inl ⟨i, rfl, k⟩
theorem x_min {i j : Int} (k : Q (.int (if j < i then j else i)) H) : rMin2 [.int i, .int j] H Q := ⟨i, j, rfl, k⟩
theorem x_max {i j : Int} (k : Q (.int (if j > i then j else i)) H) : rMax2' [.int i, .int j] H Q := ⟨i, j, rfl, k⟩
theorem x_addS {i j : Str} (h : i.length + j.length ≤ sizeLine) (k : Q (.str (i ++ j)) H) : rAddS (.str i) (.str j) H Q := ⟨i, j, rfl, rfl, h, k⟩
theorem x_ixL {i : Int} {v : V} (h : SqL K H p xs) (ha : atI xs i = some v) (k : Q v H) : rIxL K (.ref p) (.int i) H Q := ⟨p, xs, i, v, rfl, rfl, h, ha, k⟩
theorem x_ixT {i : Int} {v : V} (h : SqT K H p xs) (ha : atI xs i = some v) (k : Q v H) : rIxT K (.ref p) (.int i) H Q := ⟨p, xs, i, v, rfl, rfl, h, ha, k⟩
theorem x_slL {lo hi : Option Int} (h : SqL K H p xs) (k : ∀ l, H l = none → Q (.ref l) (upd H l (.lst (cutV xs lo hi)))) : rSlL K (.ref p) lo hi H Q := ⟨p, xs, rfl, h, k⟩
theorem x_all {bs : List Bool} (h : SqL K H p (bs.map V.bl)) (k : Q (.bl (bs.all id)) H) : rAll K [.ref p] H Q := ⟨p, bs, rfl, h, k⟩
theorem x_allMap {n : Nat} {g : Nat → Bool} (h : H p = some (.lst ((List.range n).map fun i => V.bl (g i)))) (k : Q (.bl ((List.range n).all g)) H) : rAll K [.ref p] H Q :=
  ⟨p, (List.range n).map g, rfl, SqL.of (by rw [h, List.map_map]; rfl), by
    have e : ((List.range n).map g).all id = (List.range n).all g := by rw [List.all_map]; rfl
    rw [e]; exact k⟩
theorem x_anyMap {n : Nat} {g : Nat → Bool} (h : H p = some (.lst ((List.range n).map fun i => V.bl (g i)))) (k : Q (.bl ((List.range n).any g)) H) : rAny K [.ref p] H Q :=
  ⟨p, (List.range n).map g, rfl, SqL.of (by rw [h, List.map_map]; rfl), by
    have e : ((List.range n).map g).any id = (List.range n).any g := by rw [List.any_map]; rfl
    rw [e]; exact k⟩
theorem x_sumMap {n : Nat} {g : Nat → Int} (h : H p = some (.lst ((List.range n).map fun i => V.int (g i)))) (k : Q (.int ((List.range n).map g).sum) H) : rSum K [.ref p] H Q :=
  ⟨p, (List.range n).map g, rfl, SqL.of (by rw [h, List.map_map]; rfl), k⟩
theorem x_any {bs : List Bool} (h : SqL K H p (bs.map V.bl)) (k : Q (.bl (bs.any id)) H) : rAny K [.ref p] H Q := ⟨p, bs, rfl, h, k⟩
theorem x_sum {ns : List Int} (h : SqL K H p (ns.map V.int)) (k : Q (.int ns.sum) H) : rSum K [.ref p] H Q := ⟨p, ns, rfl, h, k⟩
theorem x_isN {x : V} (k : Q (.bl (decide (x = .non))) H) : rIsN x .non H Q := ⟨rfl, k⟩
theorem x_notN {x : V} (k : Q (.bl (!decide (x = .non))) H) : rNotN x .non H Q := ⟨rfl, k⟩
theorem x_isNN (k : Q (.bl true) H) : rIsN .non .non H Q := ⟨rfl, k⟩
theorem x_isNI {i : Int} (k : Q (.bl false) H) : rIsN (.int i) .non H Q := ⟨rfl, k⟩
theorem x_isNB {i : Bool} (k : Q (.bl false) H) : rIsN (.bl i) .non H Q := ⟨rfl, k⟩
theorem x_isNS {i : Str} (k : Q (.bl false) H) : rIsN (.str i) .non H Q := ⟨rfl, k⟩
theorem x_isNR {i : Addr} (k : Q (.bl false) H) : rIsN (.ref i) .non H Q := ⟨rfl, k⟩
theorem x_notNN (k : Q (.bl false) H) : rNotN .non .non H Q := ⟨rfl, k⟩
theorem x_notNR {i : Addr} (k : Q (.bl true) H) : rNotN (.ref i) .non H Q := ⟨rfl, k⟩
/-- a method of a list: the receiver, the arguments, the rule -/
def bmQ (K : PySem.W.Frag) (T : String) (r : V → List V → Hp → VK → Prop) (t : TA) (σ : L2.St) (Q : VK) : VK := fun x H1 => tyV K T x H1 ∧ t σ H1 fun xs H2 => r x xs H2 Q
def bmQ2 (r : V → List V → Hp → VK → Prop) (x : V) (Q : VK) : List V → Hp → Prop := fun xs H2 => r x xs H2 Q
theorem x_bm {r : V → List V → Hp → VK → Prop} {T : String} {to : TE} {t : TA} (k : to σ H (bmQ K T r t σ Q)) : tBM K T r to t σ H Q := k
theorem x_bmL {r : V → List V → Hp → VK → Prop} {t : TA} (h : SqL K H p xs) (k : t σ H (bmQ2 r (.ref p) Q)) : bmQ K "list" r t σ Q (.ref p) H := ⟨.inl ⟨rfl, _, h⟩, k⟩
theorem x_bmQ2 {r : V → List V → Hp → VK → Prop} {x : V} {vs : List V} (k : r x vs H Q) : bmQ2 r x Q vs H := k
theorem x_append {y : V} (h : H p = some (.lst xs)) (hz : xs.length < sizeLine) (k : Q .non (upd H p (.lst (xs ++ [y])))) : rAppend (.ref p) [y] H Q := ⟨p, xs, y, rfl, rfl, h, hz, k⟩
def bm0Q (K : PySem.W.Frag) (T : String) (r : V → List V → Hp → VK → Prop) (Q : VK) : VK := fun x H1 => tyV K T x H1 ∧ r x [] H1 Q
theorem x_bm0 {r : V → List V → Hp → VK → Prop} {T : String} {to : TE} (k : to σ H (bm0Q K T r Q)) : tBM0 K T r to σ H Q := k
theorem x_bm0L {r : V → List V → Hp → VK → Prop} (h : SqL K H p xs) (k : r (.ref p) [] H Q) : bm0Q K "list" r Q (.ref p) H := ⟨.inl ⟨rfl, _, h⟩, k⟩
theorem x_reverse (h : H p = some (.lst xs)) (k : Q .non (upd H p (.lst xs.reverse))) : rReverse (.ref p) [] H Q := ⟨p, xs, rfl, rfl, h, k⟩
theorem x_cat {q : Addr} {ys : List V} (h : H p = some (.lst xs)) (h2 : H q = some (.lst ys)) (hz : xs.length + ys.length ≤ sizeLine) (k : ∀ l, H l = none → Q (.ref l) (upd H l (.lst (xs ++ ys)))) : rCat (.ref p) (.ref q) H Q := ⟨p, q, xs, ys, rfl, rfl, h, h2, hz, k⟩
theorem x_rep {n : Int} (h : H p = some (.lst xs)) (h1 : -(2 ^ 63) ≤ n) (h2 : n < 2 ^ 63) (hz : xs.length * n.toNat ≤ sizeLine) (k : ∀ l, H l = none → Q (.ref l) (upd H l (.lst (List.replicate n.toNat xs).flatten))) : rRep (.ref p) (.int n) H Q := ⟨p, n, xs, rfl, rfl, h, h1, h2, hz, k⟩
/-- chains -/
def chQ3 (r' : R2) (y : V) (tc : TE) (σ : L2.St) (Q : VK) : VK := fun z H3 => ∃ k, z = .bl k ∧ (if k = true then tc σ H3 (opQ2 r' y Q) else Q (.bl false) H3)
def chQ2 (r r' : R2) (tc : TE) (σ : L2.St) (x : V) (Q : VK) : VK := fun y H2 => r x y H2 (chQ3 r' y tc σ Q)
def chQ1 (r r' : R2) (tb tc : TE) (σ : L2.St) (Q : VK) : VK := fun x H1 => tb σ H1 (chQ2 r r' tc σ x Q)
theorem x_chain {r r' : R2} {ta tb tc : TE} (k : ta σ H (chQ1 r r' tb tc σ Q)) : tChain r r' ta tb tc σ H Q := k
theorem x_chQ1 {r r' : R2} {tb tc : TE} {x : V} (k : tb σ H (chQ2 r r' tc σ x Q)) : chQ1 r r' tb tc σ Q x H := k
theorem x_chQ2 {r r' : R2} {tc : TE} {x y : V} (k : r x y H (chQ3 r' y tc σ Q)) : chQ2 r r' tc σ x Q y H := k
theorem x_chQ3 {r' : R2} {tc : TE} {y : V} {b : Bool} (h1 : b = true → tc σ H (opQ2 r' y Q)) (h2 : b = false → Q (.bl false) H) : chQ3 r' y tc σ Q (.bl b) H := by
  refine ⟨b, rfl, ?_⟩
  cases b with
  | true => exact h1 rfl
  | false => exact h2 rfl
/-- slices -/
def slQ1 (r : V → Option Int → Option Int → Hp → VK → Prop) (tl th : TO) (σ : L2.St) (Q : VK) : VK := fun x H1 => tl σ H1 fun l H2 => th σ H2 fun u H3 => r x l u H3 Q
def slQ2 (r : V → Option Int → Option Int → Hp → VK → Prop) (th : TO) (σ : L2.St) (Q : VK) (x : V) : Option Int → Hp → Prop := fun l H2 => th σ H2 fun u H3 => r x l u H3 Q
def slQ3 (r : V → Option Int → Option Int → Hp → VK → Prop) (Q : VK) (x : V) (l : Option Int) : Option Int → Hp → Prop := fun u H3 => r x l u H3 Q
def ptQ (R : Option Int → Hp → Prop) : VK := fun x H1 => ∃ i, x = .int i ∧ R (some i) H1
theorem x_sl {r : V → Option Int → Option Int → Hp → VK → Prop} {te : TE} {tl th : TO} (k : te σ H (slQ1 r tl th σ Q)) : tSl r te tl th σ H Q := k
theorem x_slQ1 {r : V → Option Int → Option Int → Hp → VK → Prop} {tl th : TO} {x : V} (k : tl σ H (slQ2 r th σ Q x)) : slQ1 r tl th σ Q x H := k
theorem x_slQ2 {r : V → Option Int → Option Int → Hp → VK → Prop} {th : TO} {x : V} {l : Option Int} (k : th σ H (slQ3 r Q x l)) : slQ2 r th σ Q x l H := k
theorem x_slQ3 {r : V → Option Int → Option Int → Hp → VK → Prop} {x : V} {l u : Option Int} (k : r x l u H Q) : slQ3 r Q x l u H := k
theorem x_noPart {R : Option Int → Hp → Prop} (k : R none H) : tNoPart σ H R := k
theorem x_part {t : TE} {R : Option Int → Hp → Prop} (k : t σ H (ptQ R)) : tPart t σ H R := k
theorem x_ptQ {R : Option Int → Hp → Prop} {i : Int} (k : R (some i) H) : ptQ R (.int i) H := ⟨i, rfl, k⟩
/-- stores into a list -/
def gsQ1 (ti : TE) (t : TSet) (σ : L2.St) (v : V) (R : Hp → Prop) : VK := fun o H1 => ti σ H1 fun i H2 => t o i v H2 R
def gsQ2 (t : TSet) (o v : V) (R : Hp → Prop) : VK := fun i H2 => t o i v H2 R
theorem x_asgS {to ti : TE} {t : TSet} {D : Ends} {v : V} (k : to σ H (gsQ1 ti t σ v (D.nx σ))) : asgQ (gSub to ti t) D σ v H := k
theorem x_gsQ1 {ti : TE} {t : TSet} {o v : V} {R : Hp → Prop} (k : ti σ H (gsQ2 t o v R)) : gsQ1 ti t σ v R o H := k
theorem x_gsQ2 {t : TSet} {o i v : V} {R : Hp → Prop} (k : t o i v H R) : gsQ2 t o v R i H := k
theorem x_setL {i : Int} {j : Nat} {v : V} {R : Hp → Prop} (h : H p = some (.lst xs)) (hj : ixN xs.length i = some j) (k : R (upd H p (.lst (xs.set j v)))) : rSetL (.ref p) (.int i) v H R := ⟨p, xs, i, j, rfl, rfl, h, hj, k⟩
/-- a, b = a tuple -/
theorem x_asgT {n : Nat} {ts : TGs} {D : Ends} (h : SqT K H p xs) (hn : xs.length = n) (k : ts xs σ H D.nx) : asgQ (gTup K n ts) D σ (.ref p) H := ⟨p, xs, rfl, h, hn, k⟩
theorem x_gNil {R : L2.St → Hp → Prop} (k : R σ H) : gNil [] σ H R := ⟨rfl, k⟩
theorem x_gCons {i : Nat} {v : V} {vs : List V} {u : TGs} {R : L2.St → Hp → Prop} (k : u vs (σ.set i (some v)) H R) : gCons (gName i) u (v :: vs) σ H R := ⟨v, vs, rfl, k⟩
/-- a, b = x, y -/
def parQ (i j : Nat) (D : Ends) (σ : L2.St) : List V → Hp → Prop := fun vs H1 => ∃ v w, vs = [v, w] ∧ D.nx ((σ.set i (some v)).set j (some w)) H1
theorem x_par {i j : Nat} {ta : TA} {D : Ends} (k : ta σ H (parQ i j D σ)) : tPar i j ta D σ H := k
theorem x_parQ {i j : Nat} {v w : V} {D : Ends} (k : D.nx ((σ.set i (some v)).set j (some w)) H) : parQ i j D σ [v, w] H := ⟨v, w, rfl, k⟩
/-! ### loops and comprehensions, over anything that is walked -/
def forQ (g : TG) (tb : TS) (D : Ends) (σ : L2.St) : It → Hp → Prop := fun J H1 => ∃ W : Nat → Nat → L2.St → Hp → Prop, (∃ m, W 0 m σ H1) ∧ ∀ i m σ H, W i m σ H →
  (J.stop i H ∧ D.nx σ H) ∨ (J.go i H ∧ ∃ N : L2.St → Hp → Prop, (∀ σ' H', N σ' H' → ∃ m', m' < m ∧ W (i + 1) m' σ' H') ∧ ∀ x H', J.yld i H x H' → g x σ H' fun σ2 H2 => tb { D with nx := N, ct := N, bk := D.nx } σ2 H2)
def tgQ (tb : TS) (N : L2.St → Hp → Prop) (D : Ends) : L2.St → Hp → Prop := fun σ2 H2 => tb { D with nx := N, ct := N, bk := D.nx } σ2 H2
def lcQ (g : TG) (tt : TT) (te : TE) (vs : List Nat) (σ : L2.St) (Q : VK) : It → Hp → Prop := fun J H1 => ∀ D, H1 D = none → ∃ W : Nat → Nat → Hp → Prop, (∃ m, W 0 m (upd H1 D (.lst []))) ∧ ∀ i m H, W i m H →
  (J.stop i H ∧ Q (.ref D) H) ∨ (J.go i H ∧ ∃ Nx : Hp → Prop, (∀ H', Nx H' → ∃ m', m' < m ∧ W (i + 1) m' H') ∧ ∀ x H', J.yld i H x H' → g x (wipe σ vs) H' fun σ2 H2 => wipe σ2 vs = wipe σ vs ∧ tt σ2 H2 fun b H3 =>
    if b = true then te σ2 H3 fun y H4 => ∃ acc, H4 D = some (.lst acc) ∧ acc.length < sizeLine ∧ Nx (upd H4 D (.lst (acc ++ [y]))) else Nx H3)
/-- behind a comprehension's element: it goes into the list at D -/
def eltQ (D : Addr) (Nx : Hp → Prop) : VK := fun y H4 => ∃ acc, H4 D = some (.lst acc) ∧ acc.length < sizeLine ∧ Nx (upd H4 D (.lst (acc ++ [y])))
def ttQ (te : TE) (D : Addr) (Nx : Hp → Prop) (σ2 : L2.St) : Bool → Hp → Prop := fun b H3 => if b = true then te σ2 H3 (eltQ D Nx) else Nx H3
def lcTg (tt : TT) (te : TE) (vs : List Nat) (σ : L2.St) (D : Addr) (Nx : Hp → Prop) : L2.St → Hp → Prop := fun σ2 H2 => wipe σ2 vs = wipe σ vs ∧ tt σ2 H2 (ttQ te D Nx σ2)
def iLQ (K : PySem.W.Frag) (R : It → Hp → Prop) : VK := fun x H1 => ∃ a, x = .ref a ∧ (∃ xs, SqL K H1 a xs) ∧ R (Itl K a) H1
def iTQ (K : PySem.W.Frag) (R : It → Hp → Prop) : VK := fun x H1 => ∃ a, x = .ref a ∧ (∃ xs, SqT K H1 a xs) ∧ R (Itt K a) H1
def iRQ (R : It → Hp → Prop) : List V → Hp → Prop := fun vs H1 => ∃ j : Int, vs = [.int j] ∧ -(2 ^ 62) ≤ j ∧ j < 2 ^ 62 ∧ R (Itr 0 j.toNat) H1
def iR2Q (R : It → Hp → Prop) : List V → Hp → Prop := fun vs H1 => ∃ i j : Int, vs = [.int i, .int j] ∧ (-(2 ^ 62) ≤ i ∧ i < 2 ^ 62 ∧ -(2 ^ 62) ≤ j ∧ j < 2 ^ 62) ∧ R (Itr i (j - i).toNat) H1
def iZQ (K : PySem.W.Frag) (R : It → Hp → Prop) : List V → Hp → Prop := fun vs H1 => ∃ a b xs ys, vs = [.ref a, .ref b] ∧ SqL K H1 a xs ∧ SqL K H1 b ys ∧ R (Itz K a b) H1
def iEQ (K : PySem.W.Frag) (R : It → Hp → Prop) : List V → Hp → Prop := fun vs H1 => ∃ a xs, vs = [.ref a] ∧ SqL K H1 a xs ∧ R (Ite K a) H1
section
variable {wi : TI} {g : TG} {tb : TS} {D : Ends} {J : It} {n : Nat} {G : Hp → Prop} {Y : Nat → Hp → V → Hp → Prop} {R : It → Hp → Prop} {tt : TT} {te : TE} {vs : List Nat}
theorem x_for (k : wi σ H (forQ g tb D σ)) : tFor wi g tb D σ H := k
theorem x_forQ (w : Walk J n G Y) (Pv : Nat → L2.St → Hp → Prop) (h0 : Pv 0 σ H) (hG : ∀ i σ H, i ≤ n → Pv i σ H → G H)
    (hs : ∀ i x σ H H', i < n → Pv i σ H → Y i H x H' → g x σ H' (tgQ tb (Pv (i + 1)) D)) (hd : ∀ σ H, Pv n σ H → D.nx σ H) : forQ g tb D σ J H := for_it w Pv h0 hG hs hd
theorem x_tgN {i : Nat} {v : V} {N : L2.St → Hp → Prop} (k : tb { D with nx := N, ct := N, bk := D.nx } (σ.set i (some v)) H) : gName i v σ H (tgQ tb N D) := k
theorem x_tgQ {N : L2.St → Hp → Prop} (k : tb { D with nx := N, ct := N, bk := D.nx } σ H) : tgQ tb N D σ H := k
theorem x_gTup {m : Nat} {ts : TGs} {S : L2.St → Hp → Prop} (h : SqT K H p xs) (hn : xs.length = m) (k : ts xs σ H S) : gTup K m ts (.ref p) σ H S := ⟨p, xs, rfl, h, hn, k⟩
theorem x_lc (k : wi σ H (lcQ g tt te vs σ Q)) : tLc wi g tt te vs σ H Q := k
theorem x_lcQ (w : Walk J n G Y) (Pv : Addr → Nat → Hp → Prop) (h0 : ∀ D, H D = none → Pv D 0 (upd H D (.lst []))) (hG : ∀ D i H, i ≤ n → Pv D i H → G H)
    (hs : ∀ D i x H H', i < n → Pv D i H → Y i H x H' → g x (wipe σ vs) H' (lcTg tt te vs σ D (Pv D (i + 1)))) (hd : ∀ D H, Pv D n H → Q (.ref D) H) : lcQ g tt te vs σ Q J H :=
  fun D hD => lc_it w (Pv D) (h0 D hD) (hG D) (hs D) (hd D)
theorem x_lcTgN {i : Nat} {v : V} {Dl : Addr} {Nx : Hp → Prop} (hw : wipe ((wipe σ vs).set i (some v)) vs = wipe σ vs) (k : tt ((wipe σ vs).set i (some v)) H (ttQ te Dl Nx ((wipe σ vs).set i (some v)))) : gName i v (wipe σ vs) H (lcTg tt te vs σ Dl Nx) := ⟨hw, k⟩
theorem x_lcTg {σ2 : L2.St} {Dl : Addr} {Nx : Hp → Prop} (hw : wipe σ2 vs = wipe σ vs) (k : tt σ2 H (ttQ te Dl Nx σ2)) : lcTg tt te vs σ Dl Nx σ2 H := ⟨hw, k⟩
theorem x_tYes {QB : Bool → Hp → Prop} (k : QB true H) : tYes σ H QB := k
theorem x_ttT {Dl : Addr} {Nx : Hp → Prop} (k : te σ H (eltQ Dl Nx)) : ttQ te Dl Nx σ true H := k
theorem x_ttQ {b : Bool} {Dl : Addr} {Nx : Hp → Prop} (h1 : b = true → te σ H (eltQ Dl Nx)) (h2 : b = false → Nx H) : ttQ te Dl Nx σ b H := by
  unfold ttQ
  cases b with
  | true => exact h1 rfl
  | false => exact h2 rfl
theorem x_elt {Dl : Addr} {Nx : Hp → Prop} {acc : List V} {y : V} (h : H Dl = some (.lst acc)) (hz : acc.length < sizeLine) (k : Nx (upd H Dl (.lst (acc ++ [y])))) : eltQ Dl Nx y H := ⟨acc, h, hz, k⟩
theorem x_iL {tl : TE} (k : tl σ H (iLQ K R)) : iList K tl σ H R := k
theorem x_iLQ (h : SqL K H p xs) (k : R (Itl K p) H) : iLQ K R (.ref p) H := ⟨p, rfl, ⟨xs, h⟩, k⟩
theorem x_iT {tl : TE} (k : tl σ H (iTQ K R)) : iTup K tl σ H R := k
theorem x_iTQ (h : SqT K H p xs) (k : R (Itt K p) H) : iTQ K R (.ref p) H := ⟨p, rfl, ⟨xs, h⟩, k⟩
theorem x_iR {ta : TA} (k : ta σ H (iRQ R)) : iRng1 ta σ H R := k
theorem x_iRQ {j : Int} (h1 : -(2 ^ 62) ≤ j) (h2 : j < 2 ^ 62) (k : R (Itr 0 j.toNat) H) : iRQ R [.int j] H := ⟨j, rfl, h1, h2, k⟩
theorem x_iR2 {ta : TA} (k : ta σ H (iR2Q R)) : iRng2 ta σ H R := k
theorem x_iR2Q {i j : Int} (h : -(2 ^ 62) ≤ i ∧ i < 2 ^ 62 ∧ -(2 ^ 62) ≤ j ∧ j < 2 ^ 62) (k : R (Itr i (j - i).toNat) H) : iR2Q R [.int i, .int j] H := ⟨i, j, rfl, h, k⟩
theorem x_iZ {ta : TA} (k : ta σ H (iZQ K R)) : iZip K ta σ H R := k
theorem x_iZQ {q : Addr} {ys : List V} (h : SqL K H p xs) (h2 : SqL K H q ys) (k : R (Itz K p q) H) : iZQ K R [.ref p, .ref q] H := ⟨p, q, xs, ys, rfl, h, h2, k⟩
theorem x_iE {ta : TA} (k : ta σ H (iEQ K R)) : iEnum K ta σ H R := k
theorem x_iEQ (h : SqL K H p xs) (k : R (Ite K p) H) : iEQ K R [.ref p] H := ⟨p, xs, rfl, h, k⟩
/-- a comprehension whose elements are the values f i, nothing else changed but by growth -/
theorem x_lcMap (w : Walk J n G Y) (f : Nat → V) (hn : n ≤ sizeLine) (hG : ∀ H', Ex H H' → G H')
    (hs : ∀ D i x H1 H2 (Nx : Hp → Prop), i < n → Ex H H1 → Y i H1 x H2 → (∀ H3, Ex H2 H3 → eltQ D Nx (f i) H3) → g x (wipe σ vs) H2 (lcTg tt te vs σ D Nx)) 
    (hY : ∀ i x H1 H2, i < n → Ex H H1 → Y i H1 x H2 → Ex H1 H2)
    (hd : ∀ D H', H D = none → Ex H H' → H' D = some (.lst ((List.range n).map f)) → Q (.ref D) H') : lcQ g tt te vs σ Q J H := by
  refine x_lcQ w (fun D i H' => H D = none ∧ Ex H H' ∧ H' D = some (.lst ((List.range i).map f))) (fun D hD => ⟨hD, Ex.new hD, upd_same⟩) (fun D i H' _ p => hG H' p.2.1) (fun D i x H1 H2 hi p y => ?_) (fun D H' p => hd D H' p.1 p.2.1 p.2.2)
  obtain ⟨hD, e1, h1⟩ := p
  have e2 := hY i x H1 H2 hi e1 y
  refine hs D i x H1 H2 _ hi e1 y fun H3 e3 => ?_
  refine ⟨(List.range i).map f, e3 _ _ (e2 _ _ h1), by rw [List.length_map, List.length_range]; omega, hD, Ex.mut ((e1.trans e2).trans e3) hD, ?_⟩
  rw [upd_same, List.range_succ, List.map_append]
  rfl
end
end
/-- range(n), range(a, n) by their turns -/
theorem walk_r0 {n : Nat} : Walk (Itr 0 n) n (fun _ => True) (fun i H x H' => H' = H ∧ x = .int (i : Int)) :=
  walk_range.mono (fun _ h => h) fun i H x H' _ _ y => ⟨y.1, by rw [y.2]; show V.int (0 + (i : Int)) = V.int (i : Int); rw [Int.zero_add]⟩
theorem walk_ra {a : Int} {n : Nat} : Walk (Itr a n) n (fun _ => True) (fun i H x H' => H' = H ∧ x = .int (a + (i : Int))) :=
  walk_range.mono (fun _ h => h) fun i H x H' _ _ y => ⟨y.1, y.2⟩
/-! ### a def of the program, ready to be called -/
structure Dn (P : Program) (w : World) (K : PySem.W.Frag) (mg : Str → Option Value) (base : Heap) (CX : CXT) (k : Nat) (x : Str) (ps : List Str) (sp : Sp) : Prop where
  ex : ∃ f fd, FnOk P w K mg base CX k f fd ps sp ∧ mg x = some (.ref f) ∧ PySem.W.keepIn K (.ref f) = true ∧ Binds K fd ps []
structure Df (K : PySem.W.Frag) (mg : Str → Option Value) (x : Str) (st : Stmt) : Prop where
  ex : ∃ f fd, Fun K x x st f fd ∧ mg x = some (.ref f)
theorem Dn.up {P : Program} {w : World} {K : PySem.W.Frag} {mg : Str → Option Value} {base : Heap} {CX : CXT} {k : Nat} {x : Str} {ps : List Str} {sp : Sp} (D : Dn P w K mg base CX k x ps sp) : Dn P w K mg base CX k x ps sp := D
section
variable {X : Cx} {CX : CXT} {k : Nat} {ps : List Str} {sp : Sp} {E : XK} {x : Str} {p pos : Pos} {e : Expr} {es : List Expr} {t : TA}
theorem pe_dn (D : Dn X.prog X.w X.K X.mg X.base CX k x ps sp) (hr : Room k X.A) (hx : Passes CX X E) (ha : PA X (e :: es) t) (hg : Gl X x := by rfl)
    (hdb : (x == ("__debug__" : Str)) = false := by decide) (he : starEach (e :: es) X.env = (false, eval e X.env) :: starEach es X.env := by rfl) (hpl : (backTo pos (starEach es X.env)).any (·.1) = false := by rfl) :
    PE X (.Call (.Name x p) (e :: es) [] pos) (tCall sp [] E t) := by
  obtain ⟨f, fd, F, hm, hk, hb⟩ := D.ex
  exact pe_call F hr hg hm hk hb .nil hx ha hdb he hpl
theorem pe_dn0 (D : Dn X.prog X.w X.K X.mg X.base CX k x ps sp) (hr : Room k X.A) (hx : Passes CX X E) (hg : Gl X x := by rfl)
    (hdb : (x == ("__debug__" : Str)) = false := by decide) : PE X (.Call (.Name x p) [] [] pos) (tCall sp [] E tNil) := by
  obtain ⟨f, fd, F, hm, hk, hb⟩ := D.ex
  exact pe_call0 F hr hg hm hk hb .nil hx hdb
/-- a number of the module -/
def Ci (mg : Str → Option Value) (x : Str) (n : Int) : Prop := ∃ t, mg x = some (.int n t)
theorem pe_cst {n : Int} (c : Ci X.mg x n) (hg : Gl X x := by rfl) (hd : (x == ("__debug__" : Str)) = false := by decide) : PE X (.Name x pos) (tC (.int n)) := by
  obtain ⟨t, h⟩ := c
  exact pe_glob hg h ⟨t, rfl⟩ hd
end
section
variable {P : Program} {w : World} {K : PySem.W.Frag} {mg : Str → Option Value} {base : Heap}
/-- a def of the text by its body, no exception leaving it -/
theorem Df.dn {x : Str} {st : Stmt} {N ps : List Str} {k : Nat} {sp : Sp} (F : Df K mg x st) (S : FnScope N ps (defScope st))
    (hb : ∀ (kV doc pm : Value) (an : Option Addr) (cdv ct : Value) (us : List Value), us.length = ps.length → bindArgs (PySem.W.fnOf x x (defArgs st) (defBody st) (defScope st) .none kV doc pm an cdv ct) ⟨us, []⟩ = pure (ps.zip us))
    (len : ∀ vs H Q E, sp vs H Q E → vs.length = ps.length)
    (hbody : ∀ (f : Addr) (cdv : Value) (A : Around) (outer : List Env) (s : Shared) (H : Hp) (vs : List V) (Q : VK) (E : XK), Room k (A.deeper (envOfC x (defScope st) s.heap.objs.size f cdv)) → (cxOf CX0 P w K mg base N x (defScope st) f cdv A outer s H E).nox.K = K → sp vs H Q E →
      ∃ t, PSs (cxOf CX0 P w K mg base N x (defScope st) f cdv A outer s H E).nox (defBody st) t ∧ t { nx := fun _ H' => Q .non H', rt := Q } (start N vs) H) : Dn P w K mg base CX0 (k + 1) x ps sp := by
  obtain ⟨f, fd, F, hm⟩ := F.ex
  exact ⟨f, fd, F.ok S len (fun cdv A outer s H vs Q E hr h => hbody f cdv A outer s H vs Q E hr rfl h), hm, F.kp, F.binds hb⟩
end
/-! ### numbers -/
theorem cdiv_of {i j : Int} (h0 : 0 < j) (h : j < 2 ^ 64) : CDivW i j := wide_div (b := 64) h0 (by omega) (by decide) (by decide)
theorem mulx_of {i j : Int} (h1 : -(2 ^ 64) < i) (h2 : i < 2 ^ 64) (h3 : -(2 ^ 64) < j) (h4 : j < 2 ^ 64) : CMulX i j := mulx_ok (a := 64) (b := 64) (by omega) (by omega) (by decide)
theorem bits_of {i : Int} (h1 : -(2 ^ 64) < i) (h2 : i < 2 ^ 64) : Builtin.Int.intBits i ≤ 1048576 := by
  have z := PySem.Flt.log2_lt_of (k := 64) (n := i.natAbs) (by decide) (by omega)
  unfold Builtin.Int.intBits
  split <;> omega
section
variable {H : Hp} {Q : VK} {i j : Int}
theorem x_mod (h : 0 < j) (k : Q (.int (i % j)) H) : rI (fun _ j => 0 < j) (fun i j => .int (i % j)) (.int i) (.int j) H Q := ⟨i, j, rfl, rfl, h, k⟩
theorem x_div (h : 0 < j) (h2 : j < 2 ^ 64) (k : Q (.int (i / j)) H) : rI CDivW (fun i j => .int (i / j)) (.int i) (.int j) H Q := ⟨i, j, rfl, rfl, cdiv_of h h2, k⟩
theorem x_mul (h1 : -(2 ^ 64) < i) (h2 : i < 2 ^ 64) (h3 : -(2 ^ 64) < j) (h4 : j < 2 ^ 64) (k : Q (.int (i * j)) H) : rI CMulX (fun i j => .int (i * j)) (.int i) (.int j) H Q := ⟨i, j, rfl, rfl, mulx_of h1 h2 h3 h4, k⟩
theorem x_mulB (h : CMulX i j) (k : Q (.int (i * j)) H) : rI CMulX (fun i j => .int (i * j)) (.int i) (.int j) H Q := ⟨i, j, rfl, rfl, h, k⟩
theorem x_pow (h : CPow i j) (k : Q (.int (i ^ j.toNat)) H) : rI CPow (fun i j => .int (i ^ j.toNat)) (.int i) (.int j) H Q := ⟨i, j, rfl, rfl, h, k⟩
end
theorem at_mem {xs : List V} {r : Int} (h0 : 0 ≤ r) (h : r < (xs.length : Int)) : ∃ v, atI xs r = some v ∧ v ∈ xs := by
  have hl : r.toNat < xs.length := by omega
  exact ⟨xs[r.toNat], at_of (j := r.toNat) (by omega) (List.getElem?_eq_getElem hl), List.getElem_mem hl⟩
theorem at_int {ns : List Int} {r : Int} (h0 : 0 ≤ r) (h : r < (ns.length : Int)) : ∃ v, atI (ns.map V.int) r = some (.int v) ∧ v ∈ ns ∧ ns[r.toNat]? = some v := by
  have hl : r.toNat < ns.length := by omega
  exact ⟨ns[r.toNat], at_of (j := r.toNat) (by omega) (by rw [List.getElem?_map, List.getElem?_eq_getElem hl]; rfl), List.getElem_mem hl, List.getElem?_eq_getElem hl⟩
theorem at_lastI (ws : List Int) (x : Int) : atI ((ws ++ [x]).map V.int) (-1) = some (.int x) := by
  rw [List.map_append]
  exact atI_last _ _
theorem cut_from {xs : List V} {k : Nat} : cutV xs (some (k : Int)) none = xs.drop k := by
  unfold cutV
  rw [HT.sIx_nat, HT.sIx_none]
  by_cases c : k ≤ xs.length
  · rw [Nat.min_eq_left c, List.take_of_length_le (by rw [List.length_drop]; omega)]
  · rw [Nat.min_eq_right (by omega), List.drop_length, List.drop_eq_nil_of_le (by omega), List.take_nil]
theorem cut_to {xs : List V} {k : Nat} : cutV xs none (some (k : Int)) = xs.take k := by
  unfold cutV
  rw [HT.sIx_nat, HT.sIx_none, List.drop_zero, Nat.sub_zero]
  by_cases c : k ≤ xs.length
  · rw [Nat.min_eq_left c]
  · rw [Nat.min_eq_right (by omega), List.take_of_length_le (Nat.le_refl _), List.take_of_length_le (by omega)]
theorem int_of {ns : List Int} {i : Nat} {x : V} (h : (ns.map V.int)[i]? = some x) : ∃ n, x = .int n ∧ ns[i]? = some n := by
  rw [List.getElem?_map] at h
  cases e : ns[i]? with
  | none => rw [e] at h; cases h
  | some u => rw [e] at h; exact ⟨u, (Option.some.inj h).symm, rfl⟩
/-- a tariff -/
structure Tar (ws : List Int) : Prop where
  pos : 1 ≤ ws.length
  len : ws.length ≤ 6
  rng : ∀ w ∈ ws, 1 ≤ w ∧ w ≤ 10000
  ch : ∀ (i : Nat) (a b : Int), ws[i]? = some a → ws[i + 1]? = some b → b % a = 0
theorem Tar.one {x : Int} (h1 : 1 ≤ x) (h2 : x ≤ 10000) : Tar [x] := ⟨Nat.le_refl _, by simp, fun w hw => by
  rw [List.mem_singleton] at hw
  subst hw
  exact ⟨h1, h2⟩, fun i a b _ h => by simp at h⟩
theorem Tar.snoc {ws : List Int} {x y : Int} (t : Tar (ws ++ [x])) (hl : (ws ++ [x]).length ≤ 5) (h1 : 1 ≤ y) (h2 : y ≤ 10000) (hd : y % x = 0) : Tar (ws ++ [x] ++ [y]) := by
  refine ⟨by simp, by rw [List.length_append, List.length_singleton]; omega, fun w hw => ?_, fun i a b ha hb => ?_⟩
  · rcases List.mem_append.mp hw with h | h
    · exact t.rng w h
    · rw [List.mem_singleton] at h
      subst h
      exact ⟨h1, h2⟩
  · by_cases c : i + 1 < (ws ++ [x]).length
    · rw [List.getElem?_append_left (by omega)] at ha
      rw [List.getElem?_append_left c] at hb
      exact t.ch i a b ha hb
    · have hlt := (List.getElem?_eq_some_iff.mp hb).1
      rw [List.length_append, List.length_singleton] at hlt
      have e : i + 1 = (ws ++ [x]).length := by omega
      have ei : i = ws.length := by rw [List.length_append, List.length_singleton] at e; omega
      rw [e, List.getElem?_concat_length] at hb
      rw [List.getElem?_append_left (by omega), ei, List.getElem?_concat_length] at ha
      cases ha; cases hb
      exact hd
/-! ### heaps that grow -/
theorem sqL_upd {K : PySem.W.Frag} {H : Hp} {p q : Addr} {o : HO} {xs : List V} (h : p ≠ q) (e : SqL K H p xs) : SqL K (upd H q o) p xs := by
  rcases e with (e | ⟨u, e⟩) | e
  · exact .inl (.inl (by rw [upd_ne h]; exact e))
  · exact .inl (.inr ⟨u, by rw [upd_ne h]; exact e⟩)
  · exact .inr e
theorem sqT_upd {K : PySem.W.Frag} {H : Hp} {p q : Addr} {o : HO} {xs : List V} (h : p ≠ q) (e : SqT K H p xs) : SqT K (upd H q o) p xs := by
  rcases e with (e | ⟨u, e⟩) | e
  · exact .inl (.inl (by rw [upd_ne h]; exact e))
  · exact .inl (.inr ⟨u, by rw [upd_ne h]; exact e⟩)
  · exact .inr e
/-- all but b is as it was -/
structure KB (b : Addr) (H H' : Hp) : Prop where
  at_ : ∀ a o, a ≠ b → H a = some o → H' a = some o
theorem KB.refl {b : Addr} {H : Hp} : KB b H H := ⟨fun _ _ _ h => h⟩
theorem KB.trans {b : Addr} {H H1 H2 : Hp} (a : KB b H H1) (c : KB b H1 H2) : KB b H H2 := ⟨fun x o n h => c.at_ x o n (a.at_ x o n h)⟩
theorem KB.of_ex {b : Addr} {H H1 : Hp} (e : Ex H H1) : KB b H H1 := ⟨fun x o _ h => e x o h⟩
theorem KB.upd {b : Addr} {H : Hp} {o : HO} : KB b H (upd H b o) := ⟨fun x u n h => by rw [upd_ne n]; exact h⟩
theorem KB.new {b p : Addr} {H : Hp} {o : HO} (h : H p = none) : KB b H (L2.upd H p o) := KB.of_ex (Ex.new h)
theorem KB.mut {b p : Addr} {H H1 : Hp} {o : HO} (e : KB b H H1) (h : H p = none) : KB b H (L2.upd H1 p o) := ⟨fun a u n ha => by
  rw [upd_ne (ne_of_none ha h)]; exact e.at_ a u n ha⟩
theorem KB.sqL {K : PySem.W.Frag} {b a : Addr} {H H' : Hp} {xs : List V} (e : KB b H H') (h : SqL K H a xs) (n : a ≠ b) : SqL K H' a xs := by
  rcases h with (h | ⟨o, h⟩) | h
  · exact .inl (.inl (e.at_ _ _ n h))
  · exact .inl (.inr ⟨o, e.at_ _ _ n h⟩)
  · exact .inr h
/-- what was read ahead of all is read on: b is new, what else changed is new -/
theorem KB.sq0 {K : PySem.W.Frag} {b a : Addr} {H H' : Hp} {xs : List V} (e : KB b H H') (hb : H b = none) (h : SqL K H a xs) : SqL K H' a xs := by
  rcases h with (h | ⟨o, h⟩) | h
  · exact .inl (.inl (e.at_ _ _ (ne_of_none h hb) h))
  · exact .inl (.inr ⟨o, e.at_ _ _ (ne_of_none h hb) h⟩)
  · exact .inr h
theorem ixN_of {n : Nat} {i : Int} (h0 : 0 ≤ i) (h : i < (n : Int)) : ixN n i = some i.toNat := by
  unfold ixN
  rw [if_pos h0, if_pos h]
theorem KB.get {b a : Addr} {H H' : Hp} {o : HO} (e : KB b H H') (n : a ≠ b) (h : H a = some o) : H' a = some o := e.at_ a o n h
theorem ex_get {a : Addr} {H H' : Hp} {o : HO} (e : Ex H H') (h : H a = some o) : H' a = some o := e a o h
theorem KB.sqT {K : PySem.W.Frag} {b a : Addr} {H H' : Hp} {xs : List V} (e : KB b H H') (h : SqT K H a xs) (n : a ≠ b) : SqT K H' a xs := by
  rcases h with (h | ⟨o, h⟩) | h
  · exact .inl (.inl (e.at_ _ _ n h))
  · exact .inl (.inr ⟨o, e.at_ _ _ n h⟩)
  · exact .inr h
theorem ne_fresh {p q : Addr} {H : Hp} {o : HO} (h : H p = none) (hq : H q = some o) : p ≠ q := fun e => by rw [e, hq] at h; cases h
theorem KB.fresh {b p : Addr} {H H' : Hp} (e : KB b H H') (hb : ∃ o, H' b = some o) (h : H' p = none) : H p = none := by
  cases q : H p with
  | none => rfl
  | some o =>
    by_cases n : p = b
    · obtain ⟨o2, h2⟩ := hb
      rw [n, h2] at h
      cases h
    · rw [e.at_ p o n q] at h
      cases h
theorem Ex.sqL {K : PySem.W.Frag} {H H' : Hp} {a : Addr} {xs : List V} (e : Ex H H') (h : SqL K H a xs) : SqL K H' a xs := ex_l e h
theorem Ex.sqT {K : PySem.W.Frag} {H H' : Hp} {a : Addr} {xs : List V} (e : Ex H H') (h : SqT K H a xs) : SqT K H' a xs := ex_t e h
/-! ### tests whose answer is known, or a proposition's -/
section
variable {σ : L2.St} {H : Hp} {Q : VK} {QB : Bool → Hp → Prop} {t u : TS} {d : TT} {D : Ends} {p : Prop} [Decidable p] {ta tb : TE}
theorem x_ifD (h1 : p → t D σ H) (h2 : ¬ p → u D σ H) : ifQ t u D σ (decide p) H := x_ifQ (fun c => h1 (of_decide_eq_true c)) fun c => h2 (of_decide_eq_false c)
theorem x_ifT (h : t D σ H) : ifQ t u D σ true H := h
theorem x_ifF (h : u D σ H) : ifQ t u D σ false H := by
  unfold ifQ
  rw [if_neg Bool.false_ne_true]
  exact h
theorem x_ifN (h1 : p → u D σ H) (h2 : ¬ p → t D σ H) : ifQ t u D σ (!decide p) H := by
  by_cases c : p
  · rw [decide_eq_true c]; exact x_ifF (h1 c)
  · rw [decide_eq_false c]; exact x_ifT (h2 c)
theorem x_notQT (k : QB false H) : notQ QB true H := k
theorem x_notQF (k : QB true H) : notQ QB false H := k
theorem x_andD (h1 : p → d σ H QB) (h2 : ¬ p → QB false H) : andQ d σ QB (decide p) H := x_andQ (fun c => h1 (of_decide_eq_true c)) fun c => h2 (of_decide_eq_false c)
theorem x_andT (h : d σ H QB) : andQ d σ QB true H := h
theorem x_andF (h : QB false H) : andQ d σ QB false H := by
  unfold andQ
  rw [if_neg Bool.false_ne_true]
  exact h
theorem x_orD (h1 : p → QB true H) (h2 : ¬ p → d σ H QB) : orQ d σ QB (decide p) H := x_orQ (fun c => h1 (of_decide_eq_true c)) fun c => h2 (of_decide_eq_false c)
theorem x_orT (h : QB true H) : orQ d σ QB true H := h
theorem x_orF (h : d σ H QB) : orQ d σ QB false H := by
  unfold orQ
  rw [if_neg Bool.false_ne_true]
  exact h
theorem x_andVD (h1 : p → tb σ H Q) (h2 : ¬ p → Q (.bl false) H) : andVQ tb σ Q (.bl (decide p)) H := x_andVQ (fun c => h1 (of_decide_eq_true c)) fun c => h2 (of_decide_eq_false c)
theorem x_andVT (h : tb σ H Q) : andVQ tb σ Q (.bl true) H := ⟨true, rfl, h⟩
theorem x_orVD (h1 : p → Q (.bl true) H) (h2 : ¬ p → tb σ H Q) : orVQ tb σ Q (.bl (decide p)) H := x_orVQ (fun c => h1 (of_decide_eq_true c)) fun c => h2 (of_decide_eq_false c)
theorem x_iteD (h1 : p → ta σ H Q) (h2 : ¬ p → tb σ H Q) : iteQ ta tb σ Q (decide p) H := x_iteQ (fun c => h1 (of_decide_eq_true c)) fun c => h2 (of_decide_eq_false c)
theorem x_chD {r' : R2} {tc : TE} {y : V} (h1 : p → tc σ H (opQ2 r' y Q)) (h2 : ¬ p → Q (.bl false) H) : chQ3 r' y tc σ Q (.bl (decide p)) H := x_chQ3 (fun c => h1 (of_decide_eq_true c)) fun c => h2 (of_decide_eq_false c)
end
/-! ### data -/
mutual
theorem dp_ex {K : PySem.W.Frag} {H H' : Hp} (e : Ex H H') : ∀ {v : V} {d : PyData}, Dp K H v d → Dp K H' v d
  | _, _, .non => .non
  | _, _, .bl b => .bl b
  | _, _, .int i => .int i
  | _, _, .str x => .str x
  | _, _, .lst s a => .lst (ex_l e s) (dpAll_ex e a)
  | _, _, .tup s a => .tup (ex_t e s) (dpAll_ex e a)
theorem dpAll_ex {K : PySem.W.Frag} {H H' : Hp} (e : Ex H H') : ∀ {vs : List V} {ds : List PyData}, DpAll K H vs ds → DpAll K H' vs ds
  | _, _, .nil => .nil
  | _, _, .cons a r => .cons (dp_ex e a) (dpAll_ex e r)
end
section
variable {K : PySem.W.Frag} {H H' : Hp}
theorem dpAll_len : ∀ {vs : List V} {ds : List PyData}, DpAll K H vs ds → vs.length = ds.length
  | _, _, .nil => rfl
  | _, _, .cons _ r => congrArg (· + 1) (dpAll_len r)
theorem dpAll_get : ∀ {vs : List V} {ds : List PyData} {i : Nat} {v : V}, DpAll K H vs ds → vs[i]? = some v → ∃ d, ds[i]? = some d ∧ Dp K H v d
  | _, _, _, _, .nil, h => by simp at h
  | _, _, 0, _, .cons a _, h => by
    have e := Option.some.inj h
    subst e
    exact ⟨_, rfl, a⟩
  | _, _, i + 1, v, .cons _ r, h => dpAll_get (i := i) r h
theorem dpAll_app : ∀ {vs ws : List V} {ds es : List PyData}, DpAll K H vs ds → DpAll K H ws es → DpAll K H (vs ++ ws) (ds ++ es)
  | _, _, _, _, .nil, b => b
  | _, _, _, _, .cons a r, b => .cons a (dpAll_app r b)
theorem dpAll_ints : ∀ ns : List Int, DpAll K H (ns.map V.int) (ns.map PyData.int)
  | [] => .nil
  | n :: r => .cons (.int n) (dpAll_ints r)
theorem dpAll_bls : ∀ ns : List Bool, DpAll K H (ns.map V.bl) (ns.map PyData.bool)
  | [] => .nil
  | n :: r => .cons (.bl n) (dpAll_bls r)
theorem dpAll_strs : ∀ ns : List Str, DpAll K H (ns.map V.str) (ns.map PyData.str)
  | [] => .nil
  | n :: r => .cons (.str n) (dpAll_strs r)
/-- a list of ints, as data -/
abbrev dInts (ns : List Int) : PyData := .list (ns.map PyData.int)
theorem dp_ints {p : Addr} {ns : List Int} (h : SqL K H p (ns.map V.int)) : Dp K H (.ref p) (dInts ns) := .lst h (dpAll_ints ns)
/-- the kind of data -/
def kindD : PyData → String
  | .none => "NoneType"
  | .bool _ => "bool"
  | .int _ => "int"
  | .str _ => "str"
  | .list _ => "list"
  | .tuple _ => "tuple"
  | .dict _ => "dict"
theorem ty_dp {v : V} {d : PyData} (h : Dp K H v d) : TyX K H v (.type (kindD d)) := by
  cases h with
  | non => exact .base .non
  | bl b => exact .base (.bl b)
  | int i => exact .base (.int i)
  | str x => exact .base (.str x)
  | lst s _ =>
    rcases s with (s | ⟨o, s⟩) | ⟨o, its, n, s, c, _⟩
    · exact .base (.lst s)
    · exact .base (.frz s)
    · exact .kList s c
  | tup s _ =>
    rcases s with (s | ⟨o, s⟩) | ⟨o, its, n, s, c, _⟩
    · exact .base (.tup s)
    · exact .fTuple s
    · exact .kTuple s c
theorem x_isi {Q : VK} {v : V} {a T : String} {b : Bool} (ty : TyX K H v (.type a)) (e : PySem.W.kitOne K (.type a) (.type T) = some b) (k : Q (.bl b) H) : rIsi K [v, .ty T] H Q := ⟨v, .ty T, _, _, b, rfl, .ty T, ty, e, k⟩
theorem eqv_same {d : PyData} (s : SeqAt.shaped d = true) : PyData.eqv d d = true := PySem.SeqAt.eqv_refl d (PySem.SeqAt.canLay_of_shaped s)
theorem x_eqD {Q : VK} {x y : V} {d e : PyData} (hx : Dp K H x d) (hy : Dp K H y e) (sx : SeqAt.shaped d = true) (sy : SeqAt.shaped e = true) (k : Q (.bl (PyData.eqv d e)) H) : rEqD K x y H Q := ⟨d, e, hx, hy, sx, sy, k⟩
theorem x_neD {Q : VK} {x y : V} {d e : PyData} (hx : Dp K H x d) (hy : Dp K H y e) (sx : SeqAt.shaped d = true) (sy : SeqAt.shaped e = true) (k : Q (.bl (!PyData.eqv d e)) H) : rNeD K x y H Q := ⟨d, e, hx, hy, sx, sy, k⟩
theorem x_eqSame {Q : VK} {x y : V} {d : PyData} (hx : Dp K H x d) (hy : Dp K H y d) (s : SeqAt.shaped d = true) (k : Q (.bl true) H) : rEqD K x y H Q := x_eqD hx hy s s (by rw [eqv_same s]; exact k)
theorem x_neSame {Q : VK} {x y : V} {d : PyData} (hx : Dp K H x d) (hy : Dp K H y d) (s : SeqAt.shaped d = true) (k : Q (.bl false) H) : rNeD K x y H Q := x_neD hx hy s s (by rw [eqv_same s]; exact k)
theorem shaped_ints (ns : List Int) : SeqAt.shaped (dInts ns) = true := by
  have h : ∀ ns : List Int, PyData.canLayAll0 (ns.map PyData.int) = true ∧ PyData.depthAll (ns.map PyData.int) = 0 := by
    intro ns
    induction ns with
    | nil => exact ⟨by simp [PyData.canLayAll0], by simp [PyData.depthAll]⟩
    | cons n r ih => exact ⟨by simp [PyData.canLayAll0, PyData.canLay0, ih.1], by simp [PyData.depthAll, PyData.depth, ih.2]⟩
  unfold SeqAt.shaped
  simp [PyData.canLay0, PyData.depth, h ns]
/-- data of a depth below n, no list longer than 100000 -/
inductive OkD : Nat → PyData → Prop
  | none {n : Nat} : OkD (n + 1) .none
  | bool {n : Nat} (b : Bool) : OkD (n + 1) (.bool b)
  | int {n : Nat} (i : Int) : OkD (n + 1) (.int i)
  | str {n : Nat} {x : Str} (h : PyData.strOk x = true) : OkD (n + 1) (.str x)
  | list {n : Nat} {ds : List PyData} (hl : ds.length ≤ 100000) (h : ∀ d ∈ ds, OkD n d) : OkD (n + 1) (.list ds)
  | tuple {n : Nat} {ds : List PyData} (hl : ds.length ≤ 100000) (h : ∀ d ∈ ds, OkD n d) : OkD (n + 1) (.tuple ds)
theorem canLayAll_of {ds : List PyData} : (∀ d ∈ ds, PyData.canLay0 d = true) → PyData.canLayAll0 ds = true := by
  induction ds with
  | nil => intro _; simp [PyData.canLayAll0]
  | cons a r ih => intro h; simp [PyData.canLayAll0, h a (List.mem_cons_self), ih fun d hd => h d (List.mem_cons_of_mem _ hd)]
theorem depthAll_of {n : Nat} {ds : List PyData} : (∀ d ∈ ds, PyData.depth d ≤ n) → PyData.depthAll ds ≤ n := by
  induction ds with
  | nil => intro _; simp [PyData.depthAll]
  | cons a r ih =>
    intro h
    have h1 := h a List.mem_cons_self
    have h2 := ih fun d hd => h d (List.mem_cons_of_mem _ hd)
    simp only [PyData.depthAll]
    omega
theorem OkD.lay {n : Nat} {d : PyData} (h : OkD n d) : PyData.canLay0 d = true ∧ PyData.depth d ≤ n := by
  induction h with
  | none => exact ⟨by simp [PyData.canLay0], by simp [PyData.depth]⟩
  | bool b => exact ⟨by simp [PyData.canLay0], by simp [PyData.depth]⟩
  | int i => exact ⟨by simp [PyData.canLay0], by simp [PyData.depth]⟩
  | str h => exact ⟨by simp [PyData.canLay0, h], by simp [PyData.depth]⟩
  | list hl h ih => exact ⟨by simp only [PyData.canLay0]; exact canLayAll_of fun d hd => (ih d hd).1, by simp only [PyData.depth]; have := depthAll_of fun d hd => (ih d hd).2; omega⟩
  | tuple hl h ih => exact ⟨by simp only [PyData.canLay0]; exact canLayAll_of fun d hd => (ih d hd).1, by simp only [PyData.depth]; have := depthAll_of fun d hd => (ih d hd).2; omega⟩
theorem OkD.shaped {n : Nat} {d : PyData} (h : OkD n d) (hn : n ≤ 64) : SeqAt.shaped d = true := by
  unfold SeqAt.shaped
  rw [h.lay.1, decide_eq_true (by have := h.lay.2; omega)]
  rfl
theorem OkD.ints {n : Nat} {ns : List Int} (h : ns.length ≤ 100000) : OkD (n + 2) (dInts ns) := .list (by rw [List.length_map]; exact h) fun d hd => by
  obtain ⟨i, _, rfl⟩ := List.mem_map.mp hd
  exact .int i
/-- zip of two lists or two tuples -/
def iZAQ (K : PySem.W.Frag) (R : It → Hp → Prop) : List V → Hp → Prop := fun vs H1 => ∃ a b xs ys, vs = [.ref a, .ref b] ∧ ((SqL K H1 a xs ∧ SqL K H1 b ys ∧ R (Itz K a b) H1) ∨ (SqT K H1 a xs ∧ SqT K H1 b ys ∧ R (ItzT K a b) H1))
theorem x_iZA {ta : TA} {σ : L2.St} {R : It → Hp → Prop} (k : ta σ H (iZAQ K R)) : iZipA K ta σ H R := k
theorem x_iZAL {R : It → Hp → Prop} {p q : Addr} {xs ys : List V} (h : SqL K H p xs) (h2 : SqL K H q ys) (k : R (Itz K p q) H) : iZAQ K R [.ref p, .ref q] H := ⟨p, q, xs, ys, rfl, .inl ⟨h, h2, k⟩⟩
theorem x_iZAT {R : It → Hp → Prop} {p q : Addr} {xs ys : List V} (h : SqT K H p xs) (h2 : SqT K H q ys) (k : R (ItzT K p q) H) : iZAQ K R [.ref p, .ref q] H := ⟨p, q, xs, ys, rfl, .inr ⟨h, h2, k⟩⟩
theorem walk_zipT {a b : Addr} {xs ys : List V} {n : Nat} (hn : n = min xs.length ys.length) : Walk (ItzT K a b) n (fun H => SqT K H a xs ∧ SqT K H b ys) (YPair (fun i => xs[i]?) (fun i => ys[i]?)) := by
  subst hn
  refine ⟨fun i _ hi q => ?_, fun _ q => ⟨xs, ys, q.1, q.2, by omega⟩, fun i H v H' _ q y => ?_⟩
  · have h1 : i < xs.length := by omega
    have h2 : i < ys.length := by omega
    exact ⟨xs, ys, xs[i], ys[i], q.1, q.2, by simp [h1], by simp [h2]⟩
  · obtain ⟨T, x, z, h1, h2, h3, h4, h5⟩ := y
    exact ⟨T, x, z, h1, h2, h3, h4 xs q.1, h5 ys q.2⟩
/-- a def's contract that can't be asked -/
theorem Df.none {P : Program} {w : World} {mg : Str → Option Value} {base : Heap} {x : Str} {st : Stmt} {ps : List Str} {sp : Sp} (F : Df K mg x st)
    (hb : ∀ (kV doc pm : Value) (an : Option Addr) (cdv ct : Value) (us : List Value), us.length = ps.length → bindArgs (PySem.W.fnOf x x (defArgs st) (defBody st) (defScope st) .none kV doc pm an cdv ct) ⟨us, []⟩ = pure (ps.zip us))
    (no : ∀ vs H Q E, ¬ sp vs H Q E) : Dn P w K mg base CX0 k x ps sp := by
  obtain ⟨f, fd, F, hm⟩ := F.ex
  exact ⟨f, fd, ⟨fun vs H Q E h => absurd h (no vs H Q E), fun A outer s H args us vs Q E _ _ _ _ h => absurd h (no vs H Q E)⟩, hm, F.kp, F.binds hb⟩
end
/-! ### steps whose premises want a tactic -/
section
variable {K : PySem.W.Frag} {H : Hp} {Q : VK} {p : Addr} {xs : List V}
theorem x_ixLn {i : Int} {v : V} (h : SqL K H p xs) (h0 : 0 ≤ i) (ha : xs[i.toNat]? = some v) (k : Q v H) : rIxL K (.ref p) (.int i) H Q := x_ixL h (at_of (j := i.toNat) (by omega) ha) k
theorem x_ixTn {i : Int} {v : V} (h : SqT K H p xs) (h0 : 0 ≤ i) (ha : xs[i.toNat]? = some v) (k : Q v H) : rIxT K (.ref p) (.int i) H Q := x_ixT h (at_of (j := i.toNat) (by omega) ha) k
theorem x_setLn {i : Int} {v : V} {R : Hp → Prop} (h : H p = some (.lst xs)) (h0 : 0 ≤ i) (ha : (xs[i.toNat]?).isSome = true) (k : R (upd H p (.lst (xs.set i.toNat v)))) : rSetL (.ref p) (.int i) v H R := by
  refine x_setL h ?_ k
  have hlt : i.toNat < xs.length := by
    rw [Option.isSome_iff_exists] at ha
    obtain ⟨y, hy⟩ := ha
    exact (List.getElem?_eq_some_iff.mp hy).1
  unfold ixN
  rw [if_pos h0, if_pos (by omega)]
end
/-- a word between two statements -/
theorem x_cut {t u : TS} {D : Ends} {σ : L2.St} {H : Hp} (Mid : L2.St → Hp → Prop) (h : t { D with nx := Mid } σ H) (k : ∀ σ' H', Mid σ' H' → u D σ' H') : tCut t u D σ H := ⟨Mid, h, k⟩
theorem cut_ints (ws : List Int) (lo hi : Option Int) : ∃ us : List Int, cutV (ws.map V.int) lo hi = us.map V.int ∧ us.length ≤ ws.length := by
  refine ⟨(ws.drop (HT.sIx (ws.map V.int).length 0 lo)).take (HT.sIx (ws.map V.int).length (ws.map V.int).length hi - HT.sIx (ws.map V.int).length 0 lo), ?_, ?_⟩
  · unfold cutV
    rw [List.map_take, List.map_drop]
  · rw [List.length_take, List.length_drop]
    omega
theorem rep_ints (ws : List Int) (k : Nat) : (List.replicate k (ws.map V.int)).flatten = ((List.replicate k ws).flatten).map V.int := by
  induction k with
  | zero => rfl
  | succ k ih => rw [List.replicate_succ, List.replicate_succ, List.flatten_cons, List.flatten_cons, List.map_append, ih]
theorem rep_len (ws : List Int) (k : Nat) : ((List.replicate k ws).flatten).length = k * ws.length := by
  induction k with
  | zero => simp
  | succ k ih => rw [List.replicate_succ, List.flatten_cons, List.length_append, ih, Nat.succ_mul]; omega
theorem set_ints (ws : List Int) (j : Nat) (z : Int) : (ws.map V.int).set j (.int z) = (ws.set j z).map V.int := List.map_set.symm
/-- the promise of a law: a list of at most 63 ints is handed in, True comes back -/
def spLaw (K : PySem.W.Frag) : Sp := fun vs H Q _ => ∃ (a : Addr) (ns : List Int), vs = [.ref a] ∧ SqL K H a (ns.map V.int) ∧ ns.length ≤ 63 ∧ (∀ z ∈ ns, Builtin.Int.intBits z ≤ 1048576) ∧ ∀ H', Q (.bl true) H'
/-- a while by a number that falls -/
def whQ (t : TS) (W : Nat → L2.St → Hp → Prop) (m : Nat) (D : Ends) (σ : L2.St) : Bool → Hp → Prop := fun b H1 => if b = true then ∃ N : L2.St → Hp → Prop, (∀ σ' H', N σ' H' → ∃ m', m' < m ∧ W m' σ' H') ∧ t { D with nx := N, ct := N, bk := D.nx } σ H1 else D.nx σ H1
theorem x_while {c : TT} {t : TS} {D : Ends} {σ : L2.St} {H : Hp} (W : Nat → L2.St → Hp → Prop) (m0 : Nat) (h0 : W m0 σ H) (hs : ∀ m σ H, W m σ H → c σ H (whQ t W m D σ)) : tWhile c t D σ H := ⟨W, ⟨m0, h0⟩, hs⟩
theorem x_whD {t : TS} {W : Nat → L2.St → Hp → Prop} {m : Nat} {f : L2.St → Hp → Prop} {rt : VK} {bk ct : L2.St → Hp → Prop} {σ : L2.St} {H : Hp} {p : Prop} [Decidable p]
    (h1 : p → t (Ends.mk (fun σ' H' => ∃ m', m' < m ∧ W m' σ' H') rt f (fun σ' H' => ∃ m', m' < m ∧ W m' σ' H')) σ H) (h2 : ¬ p → f σ H) : whQ t W m (Ends.mk f rt bk ct) σ (decide p) H := by
  unfold whQ
  by_cases c : p
  · rw [if_pos (decide_eq_true c)]
    exact ⟨_, fun _ _ h => h, h1 c⟩
  · rw [if_neg (by rw [decide_eq_false c]; exact Bool.false_ne_true)]
    exact h2 c
theorem x_shl {H : Hp} {Q : VK} {B : Nat} {k : Nat} {n : Nat} (h : B < 2 ^ n) (hn : n + k ≤ 134217728) (q : Q (.int ((B <<< k : Nat) : Int)) H) : rI CShl (fun i j => .int (i * 2 ^ j.toNat)) (.int (B : Int)) (.int (k : Int)) H Q :=
  ⟨B, k, rfl, rfl, shl_ok (by omega) hn, by
    have e : ((B <<< k : Nat) : Int) = (B : Int) * 2 ^ ((k : Int)).toNat := by
      rw [Nat.shiftLeft_eq, Int.toNat_natCast, Int.natCast_mul, Int.natCast_pow]
      rfl
    rw [e] at q
    exact q⟩
/-! ### runs: what is left of a reading when all that needs no word of ours is done (found by the search for instances) -/
class Run (P : Prop) (R : outParam Prop) : Prop where
  go : R → P
theorem run {P R : Prop} [i0 : Run P R] (h : R) : P := i0.go h
instance (priority := low) run_base {P : Prop} : Run P P := ⟨id⟩
/-- the value in a slot -/
class Slot (σ : L2.St) (i : Nat) (v : outParam V) : Prop where
  h : σ[i]? = some (some v)
instance slot_0 {v : V} {σ : L2.St} : Slot (some v :: σ) 0 v := ⟨rfl⟩
instance slot_s {o : Option V} {v : V} {σ : L2.St} {n : Nat} [i : Slot σ n v] : Slot (o :: σ) (n + 1) v := ⟨i.h⟩
/-- a slot stored -/
class SetS (σ : L2.St) (i : Nat) (o : Option V) (σ' : outParam L2.St) : Prop where
  h : σ.set i o = σ'
instance set_0 {o x : Option V} {σ : L2.St} : SetS (x :: σ) 0 o (o :: σ) := ⟨rfl⟩
instance set_s {o x : Option V} {σ σ' : L2.St} {n : Nat} [i : SetS σ n o σ'] : SetS (x :: σ) (n + 1) o (x :: σ') := ⟨by rw [List.set_cons_succ, i.h]⟩
/-- a comprehension's own slots wiped -/
class Wp (σ : L2.St) (ns : List Nat) (σ' : outParam L2.St) : Prop where
  h : wipe σ ns = σ'
instance wp_nil {σ : L2.St} : Wp σ (List.map (fun x : Str × Nat => x.2) []) σ := ⟨rfl⟩
instance wp_cons {σ σ1 σ2 : L2.St} {s : Str} {n : Nat} {l : List (Str × Nat)} [a : Wp σ (List.map (fun x : Str × Nat => x.2) l) σ1] [b : SetS σ1 n none σ2] : Wp σ (List.map (fun x : Str × Nat => x.2) ((s, n) :: l)) σ2 := ⟨by
  show (wipe σ (List.map (fun x : Str × Nat => x.2) l)).set n none = σ2
  rw [a.h, b.h]⟩
instance set_wipe {σ σ1 σ2 : L2.St} {ns : List Nat} {i : Nat} {o : Option V} [a : Wp σ ns σ1] [b : SetS σ1 i o σ2] : SetS (wipe σ ns) i o σ2 := ⟨by rw [a.h, b.h]⟩
class PosI (j : Int) : Prop where
  h : 0 < j
instance posI {m : Nat} : PosI (OfNat.ofNat (m + 1)) := ⟨Int.natCast_pos.mpr (Nat.succ_pos m)⟩
section
variable {K : PySem.W.Frag} {σ σ' : L2.St} {H : Hp} {Q : VK} {QB : Bool → Hp → Prop} {QA : List V → Hp → Prop} {R : Prop} {v x y : V} {ta tb tc te : TE} {t u : TS} {c d : TT} {D : Ends} {r r' : R2} {i j : Nat} {g : TG} {gs : TGs} {tr : TA} {sp : Sp} {E : XK} {vs : List V}
  {f : L2.St → Hp → Prop} {rt : VK} {bk ct : L2.St → Hp → Prop} {a b : Int} {z z' : Str} {k l : Bool} {p q : Addr} {G : L2.St → Hp → Prop} {S : It → Hp → Prop} {ns : List Nat} {tt : TT} {Dl : Addr} {Nx : Hp → Prop}
instance r_var [s : Slot σ i v] [n : Run (Q v H) R] : Run (tVar i σ H Q) R := ⟨fun h => x_var s.h (n.go h)⟩
instance r_c [i0 : Run (Q v H) R] : Run (tC v σ H Q) R := ⟨fun h => x_c (i0.go h)⟩
instance r_op [i0 : Run (ta σ H (opQ1 r tb σ Q)) R] : Run (tOp r ta tb σ H Q) R := ⟨fun h => x_op (i0.go h)⟩
instance r_opQ1 [i0 : Run (tb σ H (opQ2 r x Q)) R] : Run (opQ1 r tb σ Q x H) R := ⟨fun h => x_opQ1 (i0.go h)⟩
instance r_opQ2 [i0 : Run (r x y H Q) R] : Run (opQ2 r x Q y H) R := ⟨fun h => x_opQ2 (i0.go h)⟩
instance r_un {h1 : V → Hp → VK → Prop} [i0 : Run (ta σ H (unQ h1 Q)) R] : Run (tUn h1 ta σ H Q) R := ⟨fun h => x_un (i0.go h)⟩
instance r_unQ {h1 : V → Hp → VK → Prop} [i0 : Run (h1 x H Q) R] : Run (unQ h1 Q x H) R := ⟨fun h => x_unQ (i0.go h)⟩
instance r_I0 {fI : Int → Int → V} [i0 : Run (Q (fI a b) H) R] : Run (rI0 fI (.int a) (.int b) H Q) R := ⟨fun h => x_I0 (i0.go h)⟩
instance r_rU {fI : Int → V} [i0 : Run (Q (fI a) H) R] : Run (rU fI (.int a) H Q) R := ⟨fun h => x_rU (i0.go h)⟩
instance r_mod [m : PosI b] [n : Run (Q (.int (a % b)) H) R] : Run (rI (fun _ j => 0 < j) (fun i j => .int (i % j)) (.int a) (.int b) H Q) R := ⟨fun h => x_mod m.h (n.go h)⟩
instance r_eqI [i0 : Run (Q (.bl (decide (a = b))) H) R] : Run (rEq (.int a) (.int b) H Q) R := ⟨fun h => x_eqI (i0.go h)⟩
instance r_neI [i0 : Run (Q (.bl (decide (a ≠ b))) H) R] : Run (rNe (.int a) (.int b) H Q) R := ⟨fun h => x_neI (i0.go h)⟩
instance r_eqS [i0 : Run (Q (.bl (decide (z = z'))) H) R] : Run (rEq (.str z) (.str z') H Q) R := ⟨fun h => x_eqS (i0.go h)⟩
instance r_neS [i0 : Run (Q (.bl (decide (z ≠ z'))) H) R] : Run (rNe (.str z) (.str z') H Q) R := ⟨fun h => x_neS (i0.go h)⟩
instance r_eqBs [i0 : Run (Q (.bl true) H) R] : Run (rEq (.bl k) (.bl k) H Q) R := ⟨fun h => x_eqBs (i0.go h)⟩
instance r_neBs [i0 : Run (Q (.bl false) H) R] : Run (rNe (.bl k) (.bl k) H Q) R := ⟨fun h => x_neBs (i0.go h)⟩
instance r_test [i0 : Run (ta σ H (bQ QB)) R] : Run (tTest ta σ H QB) R := ⟨fun h => x_test (i0.go h)⟩
instance r_tB [i0 : Run (ta σ H (bQ QB)) R] : Run (tB ta σ H QB) R := ⟨fun h => x_tB (i0.go h)⟩
instance r_bQ [i0 : Run (QB k H) R] : Run (bQ QB (.bl k) H) R := ⟨fun h => x_bQ (i0.go h)⟩
instance r_and [i0 : Run (c σ H (andQ d σ QB)) R] : Run (tAnd c d σ H QB) R := ⟨fun h => x_and (i0.go h)⟩
instance r_or [i0 : Run (c σ H (orQ d σ QB)) R] : Run (tOr c d σ H QB) R := ⟨fun h => x_or (i0.go h)⟩
instance r_not [i0 : Run (c σ H (notQ QB)) R] : Run (tNot c σ H QB) R := ⟨fun h => x_not (i0.go h)⟩
instance (priority := low + 1) r_notQ [i0 : Run (QB (!k) H) R] : Run (notQ QB k H) R := ⟨fun h => x_notQ (i0.go h)⟩
instance r_notQT [i0 : Run (QB false H) R] : Run (notQ QB true H) R := ⟨fun h => x_notQT (i0.go h)⟩
instance r_notQF [i0 : Run (QB true H) R] : Run (notQ QB false H) R := ⟨fun h => x_notQF (i0.go h)⟩
instance r_andT [i0 : Run (d σ H QB) R] : Run (andQ d σ QB true H) R := ⟨fun h => x_andT (i0.go h)⟩
instance r_andF [i0 : Run (QB false H) R] : Run (andQ d σ QB false H) R := ⟨fun h => x_andF (i0.go h)⟩
instance r_orT [i0 : Run (QB true H) R] : Run (orQ d σ QB true H) R := ⟨fun h => x_orT (i0.go h)⟩
instance r_orF [i0 : Run (d σ H QB) R] : Run (orQ d σ QB false H) R := ⟨fun h => x_orF (i0.go h)⟩
instance r_ifExp [i0 : Run (c σ H (iteQ ta tb σ Q)) R] : Run (tIf c ta tb σ H Q) R := ⟨fun h => x_ifExp (i0.go h)⟩
instance r_andV [i0 : Run (ta σ H (andVQ tb σ Q)) R] : Run (tAndV ta tb σ H Q) R := ⟨fun h => x_andV (i0.go h)⟩
instance r_orV [i0 : Run (ta σ H (orVQ tb σ Q)) R] : Run (tOrV ta tb σ H Q) R := ⟨fun h => x_orV (i0.go h)⟩
instance r_notV [i0 : Run (ta σ H (notVQ Q)) R] : Run (tNotV ta σ H Q) R := ⟨fun h => x_notV (i0.go h)⟩
instance r_notVQ [i0 : Run (Q (.bl (!k)) H) R] : Run (notVQ Q (.bl k) H) R := ⟨fun h => x_notVQ (i0.go h)⟩
instance r_andVT [i0 : Run (tb σ H Q) R] : Run (andVQ tb σ Q (.bl true) H) R := ⟨fun h => x_andVT (i0.go h)⟩
instance r_nil [i0 : Run (QA [] H) R] : Run (tNil σ H QA) R := ⟨fun h => x_nil (i0.go h)⟩
instance r_cons [i0 : Run (te σ H (consQ tr σ QA)) R] : Run (tCons te tr σ H QA) R := ⟨fun h => x_cons (i0.go h)⟩
instance r_consQ [i0 : Run (tr σ H fun xs H2 => QA (x :: xs) H2) R] : Run (consQ tr σ QA x H) R := ⟨fun h => x_consQ (i0.go h)⟩
instance r_call [i0 : Run (tr σ H (callQ sp Q E)) R] : Run (tCall sp [] E tr σ H Q) R := ⟨fun h => x_call (i0.go h)⟩
instance r_callQ [i0 : Run (sp vs H Q E) R] : Run (callQ sp Q E vs H) R := ⟨fun h => x_callQ (i0.go h)⟩
instance r_cb {h1 : List V → Hp → VK → Prop} [i0 : Run (tr σ H (cbQ h1 Q)) R] : Run (tCB h1 tr σ H Q) R := ⟨fun h => x_cb (i0.go h)⟩
instance r_cbQ {h1 : List V → Hp → VK → Prop} [i0 : Run (h1 vs H Q) R] : Run (cbQ h1 Q vs H) R := ⟨fun h => x_cbQ (i0.go h)⟩
instance r_lst [i0 : Run (tr σ H (lstQ Q)) R] : Run (tLst tr σ H Q) R := ⟨fun h => x_lst (i0.go h)⟩
instance r_tup [i0 : Run (tr σ H (tupQ Q)) R] : Run (tTup tr σ H Q) R := ⟨fun h => x_tup (i0.go h)⟩
instance r_seq [i0 : Run (t (Ends.mk (u (Ends.mk f rt bk ct)) rt bk ct) σ H) R] : Run (tSeq t u (Ends.mk f rt bk ct) σ H) R := ⟨fun h => x_seq (i0.go h)⟩
instance r_next [i0 : Run (f σ H) R] : Run (tNext (Ends.mk f rt bk ct) σ H) R := ⟨fun h => x_next (D := Ends.mk f rt bk ct) (i0.go h)⟩
instance r_asg [i0 : Run (te σ H (asgQ g (Ends.mk f rt bk ct) σ)) R] : Run (tAsg te g (Ends.mk f rt bk ct) σ H) R := ⟨fun h => x_asg (i0.go h)⟩
instance r_asgN [s : SetS σ i (some x) σ'] [n : Run (f σ' H) R] : Run (asgQ (gName i) (Ends.mk f rt bk ct) σ x H) R := ⟨fun h => x_asgN (D := Ends.mk f rt bk ct) (by rw [s.h]; exact n.go h)⟩
instance r_drop [i0 : Run (te σ H (dropQ (Ends.mk f rt bk ct) σ)) R] : Run (tDrop te (Ends.mk f rt bk ct) σ H) R := ⟨fun h => x_drop (i0.go h)⟩
instance r_dropQ [i0 : Run (f σ H) R] : Run (dropQ (Ends.mk f rt bk ct) σ x H) R := ⟨fun h => x_dropQ (D := Ends.mk f rt bk ct) (i0.go h)⟩
instance r_ret [i0 : Run (te σ H rt) R] : Run (tRet te (Ends.mk f rt bk ct) σ H) R := ⟨fun h => x_ret (D := Ends.mk f rt bk ct) (i0.go h)⟩
instance r_retN [i0 : Run (rt .non H) R] : Run (tRetN (Ends.mk f rt bk ct) σ H) R := ⟨fun h => x_retN (D := Ends.mk f rt bk ct) (i0.go h)⟩
instance r_if [i0 : Run (c σ H (ifQ t u (Ends.mk f rt bk ct) σ)) R] : Run (tIfS c t u (Ends.mk f rt bk ct) σ H) R := ⟨fun h => x_if (i0.go h)⟩
instance r_ifT [i0 : Run (t D σ H) R] : Run (ifQ t u D σ true H) R := ⟨fun h => x_ifT (i0.go h)⟩
instance r_ifF [i0 : Run (u D σ H) R] : Run (ifQ t u D σ false H) R := ⟨fun h => x_ifF (i0.go h)⟩
instance r_cont [i0 : Run (ct σ H) R] : Run (tCont (Ends.mk f rt bk ct) σ H) R := ⟨fun h => x_cont (D := Ends.mk f rt bk ct) (i0.go h)⟩
instance r_break [i0 : Run (bk σ H) R] : Run (tBreak (Ends.mk f rt bk ct) σ H) R := ⟨fun h => x_break (D := Ends.mk f rt bk ct) (i0.go h)⟩
instance r_asgS {hS : TSet} [i0 : Run (ta σ H (gsQ1 tb hS σ v (f σ))) R] : Run (asgQ (gSub ta tb hS) (Ends.mk f rt bk ct) σ v H) R := ⟨fun h => x_asgS (D := Ends.mk f rt bk ct) (i0.go h)⟩
instance r_gsQ1 {hS : TSet} [i0 : Run (tb σ H (gsQ2 hS x v Nx)) R] : Run (gsQ1 tb hS σ v Nx x H) R := ⟨fun h => x_gsQ1 (i0.go h)⟩
instance r_gsQ2 {hS : TSet} [i0 : Run (hS x y v H Nx) R] : Run (gsQ2 hS x v Nx y H) R := ⟨fun h => x_gsQ2 (i0.go h)⟩
instance r_chain [i0 : Run (ta σ H (chQ1 r r' tb tc σ Q)) R] : Run (tChain r r' ta tb tc σ H Q) R := ⟨fun h => x_chain (i0.go h)⟩
instance r_chQ1 [i0 : Run (tb σ H (chQ2 r r' tc σ x Q)) R] : Run (chQ1 r r' tb tc σ Q x H) R := ⟨fun h => x_chQ1 (i0.go h)⟩
instance r_chQ2 [i0 : Run (r x y H (chQ3 r' y tc σ Q)) R] : Run (chQ2 r r' tc σ x Q y H) R := ⟨fun h => x_chQ2 (i0.go h)⟩
instance r_for {wi : TI} [i0 : Run (wi σ H (forQ g t (Ends.mk f rt bk ct) σ)) R] : Run (tFor wi g t (Ends.mk f rt bk ct) σ H) R := ⟨fun h => x_for (i0.go h)⟩
instance r_iL [i0 : Run (ta σ H (iLQ K S)) R] : Run (iList K ta σ H S) R := ⟨fun h => x_iL (i0.go h)⟩
instance r_iT [i0 : Run (ta σ H (iTQ K S)) R] : Run (iTup K ta σ H S) R := ⟨fun h => x_iT (i0.go h)⟩
instance r_iR [i0 : Run (tr σ H (iRQ S)) R] : Run (iRng1 tr σ H S) R := ⟨fun h => x_iR (i0.go h)⟩
instance r_iR2 [i0 : Run (tr σ H (iR2Q S)) R] : Run (iRng2 tr σ H S) R := ⟨fun h => x_iR2 (i0.go h)⟩
instance r_iZ [i0 : Run (tr σ H (iZQ K S)) R] : Run (iZip K tr σ H S) R := ⟨fun h => x_iZ (i0.go h)⟩
instance r_iZA [i0 : Run (tr σ H (iZAQ K S)) R] : Run (iZipA K tr σ H S) R := ⟨fun h => x_iZA (i0.go h)⟩
instance r_iE [i0 : Run (tr σ H (iEQ K S)) R] : Run (iEnum K tr σ H S) R := ⟨fun h => x_iE (i0.go h)⟩
instance r_lc {wi : TI} [i0 : Run (wi σ H (lcQ g tt te ns σ Q)) R] : Run (tLc wi g tt te ns σ H Q) R := ⟨fun h => x_lc (i0.go h)⟩
instance r_gN [s : SetS σ i (some v) σ'] [n : Run (G σ' H) R] : Run (gName i v σ H G) R := ⟨fun h => x_gN (by rw [s.h]; exact n.go h)⟩
instance r_tgQ [n : Run (t (Ends.mk G rt f G) σ H) R] : Run (tgQ t G (Ends.mk f rt bk ct) σ H) R := ⟨fun h => x_tgQ (D := Ends.mk f rt bk ct) (by exact n.go h)⟩
instance r_tYes [i0 : Run (QB true H) R] : Run (tYes σ H QB) R := ⟨fun h => x_tYes (i0.go h)⟩
instance r_ttT [i0 : Run (te σ H (eltQ Dl Nx)) R] : Run (ttQ te Dl Nx σ true H) R := ⟨fun h => x_ttT (i0.go h)⟩
instance r_bm {T : String} {h1 : V → List V → Hp → VK → Prop} [i0 : Run (ta σ H (bmQ K T h1 tr σ Q)) R] : Run (tBM K T h1 ta tr σ H Q) R := ⟨fun h => x_bm (i0.go h)⟩
instance r_bmQ2 {h1 : V → List V → Hp → VK → Prop} [i0 : Run (h1 x vs H Q) R] : Run (bmQ2 h1 x Q vs H) R := ⟨fun h => x_bmQ2 (i0.go h)⟩
instance r_bm0 {T : String} {h1 : V → List V → Hp → VK → Prop} [i0 : Run (ta σ H (bm0Q K T h1 Q)) R] : Run (tBM0 K T h1 ta σ H Q) R := ⟨fun h => x_bm0 (i0.go h)⟩
instance r_sl {h1 : V → Option Int → Option Int → Hp → VK → Prop} {tl th : TO} [i0 : Run (ta σ H (slQ1 h1 tl th σ Q)) R] : Run (tSl h1 ta tl th σ H Q) R := ⟨fun h => x_sl (i0.go h)⟩
instance r_slQ1 {h1 : V → Option Int → Option Int → Hp → VK → Prop} {tl th : TO} [i0 : Run (tl σ H (slQ2 h1 th σ Q x)) R] : Run (slQ1 h1 tl th σ Q x H) R := ⟨fun h => x_slQ1 (i0.go h)⟩
instance r_slQ2 {h1 : V → Option Int → Option Int → Hp → VK → Prop} {th : TO} {lo : Option Int} [i0 : Run (th σ H (slQ3 h1 Q x lo)) R] : Run (slQ2 h1 th σ Q x lo H) R := ⟨fun h => x_slQ2 (i0.go h)⟩
instance r_slQ3 {h1 : V → Option Int → Option Int → Hp → VK → Prop} {lo hi : Option Int} [i0 : Run (h1 x lo hi H Q) R] : Run (slQ3 h1 Q x lo hi H) R := ⟨fun h => x_slQ3 (i0.go h)⟩
instance r_noPart {RO : Option Int → Hp → Prop} [i0 : Run (RO none H) R] : Run (tNoPart σ H RO) R := ⟨fun h => x_noPart (i0.go h)⟩
instance r_part {RO : Option Int → Hp → Prop} [i0 : Run (ta σ H (ptQ RO)) R] : Run (tPart ta σ H RO) R := ⟨fun h => x_part (i0.go h)⟩
instance r_ptQ {RO : Option Int → Hp → Prop} [i0 : Run (RO (some a) H) R] : Run (ptQ RO (.int a) H) R := ⟨fun h => x_ptQ (i0.go h)⟩
instance r_intB [i0 : Run (Q (.int (if k then 1 else 0)) H) R] : Run (rIntOf [.bl k] H Q) R := ⟨fun h => x_intB (i0.go h)⟩
instance r_intI [i0 : Run (Q (.int a) H) R] : Run (rIntOf [.int a] H Q) R := ⟨fun h => x_intI (i0.go h)⟩
instance r_min [i0 : Run (Q (.int (if b < a then b else a)) H) R] : Run (rMin2 [.int a, .int b] H Q) R := ⟨fun h => x_min (i0.go h)⟩
instance r_max [i0 : Run (Q (.int (if b > a then b else a)) H) R] : Run (rMax2' [.int a, .int b] H Q) R := ⟨fun h => x_max (i0.go h)⟩
instance r_par [h0 : Run (tr σ H (parQ i j (Ends.mk f rt bk ct) σ)) R] : Run (tPar i j tr (Ends.mk f rt bk ct) σ H) R := ⟨fun h => x_par (h0.go h)⟩
instance r_parQ {σ2 : L2.St} [s : SetS σ i (some x) σ'] [s2 : SetS σ' j (some y) σ2] [n : Run (f σ2 H) R] : Run (parQ i j (Ends.mk f rt bk ct) σ [x, y] H) R := ⟨fun h => x_parQ (D := Ends.mk f rt bk ct) (by rw [s.h, s2.h]; exact n.go h)⟩
instance r_gCons [s : SetS σ i (some x) σ'] [n : Run (gs vs σ' H G) R] : Run (gCons (gName i) gs (x :: vs) σ H G) R := ⟨fun h => x_gCons (by rw [s.h]; exact n.go h)⟩
instance r_gNil [i0 : Run (G σ H) R] : Run (gNil [] σ H G) R := ⟨fun h => x_gNil (i0.go h)⟩
instance r_isNN [i0 : Run (Q (.bl true) H) R] : Run (rIsN .non .non H Q) R := ⟨fun h => x_isNN (i0.go h)⟩
instance r_isNI [i0 : Run (Q (.bl false) H) R] : Run (rIsN (.int a) .non H Q) R := ⟨fun h => x_isNI (i0.go h)⟩
instance r_isNB [i0 : Run (Q (.bl false) H) R] : Run (rIsN (.bl k) .non H Q) R := ⟨fun h => x_isNB (i0.go h)⟩
instance r_isNS [i0 : Run (Q (.bl false) H) R] : Run (rIsN (.str z) .non H Q) R := ⟨fun h => x_isNS (i0.go h)⟩
instance r_isNR [i0 : Run (Q (.bl false) H) R] : Run (rIsN (.ref p) .non H Q) R := ⟨fun h => x_isNR (i0.go h)⟩
instance r_notNN [i0 : Run (Q (.bl false) H) R] : Run (rNotN .non .non H Q) R := ⟨fun h => x_notNN (i0.go h)⟩
instance r_notNR [i0 : Run (Q (.bl true) H) R] : Run (rNotN (.ref p) .non H Q) R := ⟨fun h => x_notNR (i0.go h)⟩
end
section
variable {K : PySem.W.Frag} {σ : L2.St} {H : Hp} {Q : VK} {R : Prop} {ta : TE} {a : Int} {n : Nat} {S : It → Hp → Prop}
/-! ### bit_length; reversed(range(n)) -/
def bitsQ (Q : VK) : VK := fun x H => ∃ i, x = .int i ∧ Q (.int (Builtin.Int.intBits i : Nat)) H
theorem x_bits (k : ta σ H (bitsQ Q)) : tBits ta σ H Q := k
theorem x_bitsQ (k : Q (.int (Builtin.Int.intBits a : Nat)) H) : bitsQ Q (.int a) H := ⟨a, rfl, k⟩
instance r_bits [i0 : Run (ta σ H (bitsQ Q)) R] : Run (tBits ta σ H Q) R := ⟨fun h => x_bits (i0.go h)⟩
instance r_bitsQ [i0 : Run (Q (.int (Builtin.Int.intBits a : Nat)) H) R] : Run (bitsQ Q (.int a) H) R := ⟨fun h => x_bitsQ (i0.go h)⟩
def rgQ (F : Int → Int → Hp → Prop) : VK := fun x H1 => ∃ n, x = .int n ∧ F 0 n H1
def rrQ (S : It → Hp → Prop) : Int → Int → Hp → Prop := fun a b H1 => -(2 ^ 62) ≤ a ∧ a < 2 ^ 62 ∧ -(2 ^ 62) ≤ b ∧ b < 2 ^ 62 ∧ S (Itc (a + (((b - a).toNat : Nat) : Int) - 1) (-1) (b - a).toNat) H1
instance r_revR {tr : L2.St → Hp → (Int → Int → Hp → Prop) → Prop} [i0 : Run (tr σ H (rrQ S)) R] : Run (iRevR tr σ H S) R := ⟨fun h => i0.go h⟩
instance r_rg1 {F : Int → Int → Hp → Prop} [i0 : Run (ta σ H (rgQ F)) R] : Run (tRg1 ta σ H F) R := ⟨fun h => i0.go h⟩
instance r_rgQ {F : Int → Int → Hp → Prop} [i0 : Run (F 0 a H) R] : Run (rgQ F (.int a) H) R := ⟨fun h => ⟨a, rfl, i0.go h⟩⟩
theorem x_rrQ (h : n < 2 ^ 62) (k : S (Itc ((n : Int) - 1) (-1) n) H) : rrQ S 0 (n : Int) H := by
  refine ⟨by decide, by decide, by omega, by omega, ?_⟩
  rw [show ((n : Int) - 0).toNat = n by omega, show (0 : Int) + (n : Int) - 1 = (n : Int) - 1 by omega]
  exact k
end
theorem walk_rr {n : Nat} : Walk (Itc ((n : Int) - 1) (-1) n) n (fun _ => True) (fun i H x H' => H' = H ∧ x = .int ((n : Int) - 1 - (i : Int))) :=
  walk_rangeC.mono (fun _ h => h) fun i H x H' _ _ y => ⟨y.1, by rw [y.2]; show V.int ((n : Int) - 1 + (i : Int) * -1) = _; rw [Int.mul_neg, Int.mul_one, Int.add_neg_eq_sub]⟩
theorem min_if (a b : Int) : (if b < a then b else a) = min a b := by split <;> omega
theorem max_if (a b : Int) : (if b > a then b else a) = max a b := by split <;> omega
section
variable {H : Hp} {Q : VK} {R : Prop} {k : Bool}
/-! ### is, is not with True, False -/
theorem x_isT (q : Q (.bl k) H) : rIsB (.bl k) (.bl true) H Q := ⟨k, true, rfl, rfl, by cases k <;> exact q⟩
theorem x_isF (q : Q (.bl (!k)) H) : rIsB (.bl k) (.bl false) H Q := ⟨k, false, rfl, rfl, by cases k <;> exact q⟩
theorem x_notT (q : Q (.bl (!k)) H) : rNotB (.bl k) (.bl true) H Q := ⟨k, true, rfl, rfl, by cases k <;> exact q⟩
theorem x_notF (q : Q (.bl k) H) : rNotB (.bl k) (.bl false) H Q := ⟨k, false, rfl, rfl, by cases k <;> exact q⟩
instance r_isT [i0 : Run (Q (.bl k) H) R] : Run (rIsB (.bl k) (.bl true) H Q) R := ⟨fun h => x_isT (i0.go h)⟩
instance r_isF [i0 : Run (Q (.bl (!k)) H) R] : Run (rIsB (.bl k) (.bl false) H Q) R := ⟨fun h => x_isF (i0.go h)⟩
instance r_notT [i0 : Run (Q (.bl (!k)) H) R] : Run (rNotB (.bl k) (.bl true) H Q) R := ⟨fun h => x_notT (i0.go h)⟩
instance r_notF [i0 : Run (Q (.bl k) H) R] : Run (rNotB (.bl k) (.bl false) H Q) R := ⟨fun h => x_notF (i0.go h)⟩
instance r_isFF [i0 : Run (Q (.bl true) H) R] : Run (rIsB (.bl false) (.bl false) H Q) R := ⟨fun h => x_isF (i0.go h)⟩
instance r_notTT [i0 : Run (Q (.bl false) H) R] : Run (rNotB (.bl true) (.bl true) H Q) R := ⟨fun h => x_notT (i0.go h)⟩
end
theorem range_gd {α : Type} (ws : List Int) (g : Int → α) : (List.range ws.length).map (fun i => g (ws.getD i 0)) = ws.map g := by
  apply List.ext_getElem
  · rw [List.length_map, List.length_range, List.length_map]
  · intro i h1 h2
    rw [List.length_map] at h2
    rw [List.getElem_map, List.getElem_map, List.getElem_range, List.getD_eq_getElem?_getD, List.getElem?_eq_getElem h2]
    rfl
section
variable {σ : L2.St} {H : Hp} {QB : Bool → Hp → Prop} {d : TT} {p : Prop} [Decidable p]
theorem x_orN (h1 : p → d σ H QB) (h2 : ¬ p → QB true H) : orQ d σ QB (!decide p) H := by
  by_cases c : p
  · rw [decide_eq_true c]; exact x_orF (h1 c)
  · rw [decide_eq_false c]; exact x_orT (h2 c)
theorem x_andN (h1 : p → QB false H) (h2 : ¬ p → d σ H QB) : andQ d σ QB (!decide p) H := by
  by_cases c : p
  · rw [decide_eq_true c]; exact x_andF (h1 c)
  · rw [decide_eq_false c]; exact x_andT (h2 c)
end
end G

/-! ### the head by facts -/
namespace G
open PySem PySem.Spec PyProof.Rows L2
def frN (g : Addr → Option Obj) (n : Nat) : PySem.W.Frag := He.frG g (List.range n)
abbrev AlK : Type := (Bool × Bool) × List (List He.FnV)
def obsK (fa : List (List He.Fa)) (fn : List (List He.FnD)) (ex : List (PySem.W.Frag → Bool)) (K : PySem.W.Frag) : AlK :=
  (((fa.all fun l => l.all fun f => f.ok K) && (fn.all fun l => l.all fun d => (He.Fa.code d.at_ d.qual).ok K && PySem.W.keepIn K (.ref (He.fAd K d.at_))), ex.all fun b => b K), fn.map fun l => l.map fun d => He.fnObs K d.at_)
def valK (fn : List (List He.FnD)) : AlK := ((true, true), fn.map fun l => l.map He.FnD.val)
def SaysK (fa : List (List He.Fa)) (fn : List (List He.FnD)) (ex : List (PySem.W.Frag → Bool)) (K : PySem.W.Frag) : Prop := obsK fa fn ex K = valK fn
def hookK (fa : List (List He.Fa)) (fn : List (List He.FnD)) (ex : List (PySem.W.Frag → Bool)) : PySem.W.Hook where
  α := AlK
  obs := fun s => obsK fa fn ex (frN s.heap.get? s.heap.objs.size)
  val := fun _ => valK fn
  says := fun _ h => ∃ K : PySem.W.Frag, K.In h ∧ SaysK fa fn ex K
  of := fun _ _ e => ⟨_, He.frG_in, e⟩
  keeps := fun _ _ _ ⟨K, hK, c⟩ k => ⟨K, PySem.W.Frag.In.keeps hK k, c⟩
def obKT (fa : List (List He.Fa)) (fn : List (List He.FnD)) (ex : List (PySem.W.Frag → Bool)) (s : PySem.W.SharedT) : AlK := obsK fa fn ex (frN (HandSHeadRun.getT s) s.n)
theorem obKT_eq (fa : List (List He.Fa)) (fn : List (List He.FnD)) (ex : List (PySem.W.Frag → Bool)) (s : PySem.W.SharedT) : obKT fa fn ex s = (hookK fa fn ex).obs s.abs := by
  have e : HandSHeadRun.getT s = s.abs.heap.get? := funext (HandSHeadRun.getT_eq s)
  have e2 : s.abs.heap.objs.size = s.n := PySem.W.absHeap_size s.tree s.n _
  unfold obKT
  rw [e, ← e2]
  rfl
section
variable {fa : List (List He.Fa)} {fn : List (List He.FnD)} {ex : List (PySem.W.Frag → Bool)} {K : PySem.W.Frag}
theorem SaysK.fact (c : SaysK fa fn ex K) (i j : Nat) {l : List He.Fa} {f : He.Fa} (h : fa[i]? = some l := by rfl) (h2 : l[j]? = some f := by rfl) : f.ok K = true := by
  have c1 := (He.ba (congrArg (fun z : AlK => z.1.1) c)).1
  exact List.all_eq_true.mp (List.all_eq_true.mp c1 l (List.mem_of_getElem? h)) f (List.mem_of_getElem? h2)
theorem SaysK.xf (c : SaysK fa fn ex K) (i : Nat) {b : PySem.W.Frag → Bool} (h : ex[i]? = some b := by rfl) : b K = true :=
  List.all_eq_true.mp (congrArg (fun z : AlK => z.1.2) c) b (List.mem_of_getElem? h)
theorem SaysK.def_ (c : SaysK fa fn ex K) (i j : Nat) {l : List He.FnD} {d : He.FnD} (h : fn[i]? = some l := by rfl) (h2 : l[j]? = some d := by rfl) :
    PySem.W.keepIn K (.ref (He.fAd K d.at_)) = true ∧ ∃ oc od osl kV doc pm an cdv ct, K.lookup (He.fAd K d.at_) = some ⟨oc, od, .func (PySem.W.fnOf d.name d.qual d.params d.body d.scope .none kV doc pm an cdv ct), osl⟩ ∧ PySem.W.codeIn K cdv d.qual = true := by
  have c2 := (He.ba (congrArg (fun z : AlK => z.1.1) c)).2
  have c3 := He.ba (List.all_eq_true.mp (List.all_eq_true.mp c2 l (List.mem_of_getElem? h)) d (List.mem_of_getElem? h2))
  have e : fn.map (fun l => l.map fun d => He.fnObs K d.at_) = fn.map fun l => l.map He.FnD.val := congrArg (fun z : AlK => z.2) c
  have e2 : (fn.map (fun l => l.map fun d => He.fnObs K d.at_))[i]? = (fn.map fun l => l.map He.FnD.val)[i]? := by rw [e]
  rw [List.getElem?_map, List.getElem?_map, h] at e2
  have e3 : (l.map fun d => He.fnObs K d.at_) = l.map He.FnD.val := Option.some.inj e2
  have e4 : (l.map fun d => He.fnObs K d.at_)[j]? = (l.map He.FnD.val)[j]? := by rw [e3]
  rw [List.getElem?_map, List.getElem?_map, h2] at e4
  exact ⟨c3.2, He.fn_ok (Option.some.inj e4) c3.1⟩
/-- a def of the module's top -/
theorem SaysK.df {h : Heap} {mg : Str → Option Value} (X : K.In h) (GN : h.Ns mainGlobals mg) (c : SaysK fa fn ex K) {x : Str} {st : Stmt} (i j i2 j2 : Nat) {l : List He.FnD} {l2 : List He.Fa} (h1 : fn[i]? = some l := by rfl)
    (h2 : l[j]? = some ⟨(x, none), x, x, defArgs st, defBody st, defScope st⟩ := by rfl) (h3 : fa[i2]? = some l2 := by rfl) (h4 : l2[j2]? = some (.glo x) := by rfl) : Df K mg x st := by
  obtain ⟨k, oc, od, osl, kV, doc, pm, an, cdv, ct, l, e⟩ := c.def_ i j h1 h2
  exact ⟨He.ga K x, _, fun_mk (st := st) l e k, He.glo_ok X GN (c.fact i2 j2 h3 h4)⟩
/-- a method -/
structure Mf (K : PySem.W.Frag) (C m qual : Str) (st : Stmt) : Prop where
  ex : ∃ fd, Fun K m qual st (He.ma K (He.ga K C) m) fd
theorem SaysK.mf (c : SaysK fa fn ex K) {C m qual : Str} {st : Stmt} (i j : Nat) {l : List He.FnD} (h1 : fn[i]? = some l := by rfl)
    (h2 : l[j]? = some ⟨(C, some m), m, qual, defArgs st, defBody st, defScope st⟩ := by rfl) : Mf K C m qual st := by
  obtain ⟨k, oc, od, osl, kV, doc, pm, an, cdv, ct, l, e⟩ := c.def_ i j h1 h2
  exact ⟨_, fun_mk (st := st) l e k⟩
end
theorem walk_ofEB {l : PySem.W.OpenLaw} {n k : Nat} {q : Program} {loose : List Str} {XP : (Str → Option Value) → Heap → Prop} {YP : World → Heap → Prop} {d : DefRec} {CX : CXT} {x : Str}
    (hn : l.most = some n) (hn2 : n ≤ sizeLine) (hdf : d.params.defaults = []) (hr : Room k callerA)
    (F : ∀ (w : World) (mg : Str → Option Value) (fa : Addr) (h : Heap), YP w h → h.Ns mainGlobals mg → mg d.name = some (.ref fa) →
      ∃ (K : PySem.W.Frag) (fd : FuncData) (sp : Sp), K.In h ∧ (∀ (s : Shared) (u : Value), BindsTo s fd ⟨[u], []⟩ [(x, u)]) ∧
        (∀ (H : Hp) (a : Addr) (ns : List Int), ns.length ≤ n → (∀ z ∈ ns, Builtin.Int.intBits z ≤ 1048576) → Only H → SqL K H a (ns.map V.int) → sp [.ref a] H (fun v _ => v = .bl true) fun _ _ _ => False) ∧
        ∀ base : Heap, K.In base → base.Ns mainGlobals mg → FnOk l.prog w K mg base CX k fa fd [x] sp)
    (hCX : ∀ (H : Hp) (s : Shared) (e : Value) (s' : Shared), CX [] H s (fun _ _ _ => False) e s' → False) :
    PySem.W.WalkO q loose XP YP l.row.toRowW d [] (fun f vs => PySem.call f vs) := by
  refine Att.attach_callB hn hdf fun w s₀ s₁ mg mb fa o pm cd doc a vs ns G Y ho hd hcd hmg hobj hints hlen hbits hg => ?_
  obtain ⟨K, fd, sp, KX, hb, hsp, hF⟩ := F w mg fa _ Y G.T.g hmg
  exact law_call KX G.T.g G.T.b G.T.builtins G.T.nolimit hg hobj hints (Nat.le_trans hlen hn2) hr hF hb (fun H hO hS => hsp H a ns hlen hbits hO hS) fun H e s' => hCX H s₁ e s'
/-! ### a def that may raise -/
theorem Df.dnX {P : Program} {w : World} {K : PySem.W.Frag} {mg : Str → Option Value} {base : Heap} {x : Str} {st : Stmt} {N ps : List Str} {k : Nat} {sp : Sp} (F : Df K mg x st) (S : FnScope N ps (defScope st))
    (hb : ∀ (kV doc pm : Value) (an : Option Addr) (cdv ct : Value) (us : List Value), us.length = ps.length → bindArgs (PySem.W.fnOf x x (defArgs st) (defBody st) (defScope st) .none kV doc pm an cdv ct) ⟨us, []⟩ = pure (ps.zip us))
    (len : ∀ vs H Q E, sp vs H Q E → vs.length = ps.length)
    (hbody : ∀ (f : Addr) (cdv : Value) (A : Around) (outer : List Env) (s : Shared) (H : Hp) (vs : List V) (Q : VK) (E : XK), Room k (A.deeper (envOfC x (defScope st) s.heap.objs.size f cdv)) → (cxOf (L2.CX P w) P w K mg base N x (defScope st) f cdv A outer s H E).K = K → sp vs H Q E →
      ∃ t, PSs (cxOf (L2.CX P w) P w K mg base N x (defScope st) f cdv A outer s H E) (defBody st) t ∧ t { nx := fun _ H' => Q .non H', rt := Q } (start N vs) H) : Dn P w K mg base (L2.CX P w) (k + 1) x ps sp := by
  obtain ⟨f, fd, F, hm⟩ := F.ex
  exact ⟨f, fd, F.okX S len (fun cdv A outer s H vs Q E hr h => hbody f cdv A outer s H vs Q E hr rfl h), hm, F.kp, F.binds hb⟩
section
variable {X : Cx} {CX : CXT} {k : Nat} {ps : List Str} {sp : Sp} {E : L2.St → XK} {x : Str} {p pos : Pos} {e : Expr} {es : List Expr} {t : TA}
/-- a call in a try -/
theorem pe_dnS (D : Dn X.prog X.w X.K X.mg X.base CX k x ps sp) (hr : Room k X.A) (hx : ∀ σ, PassesAt CX X σ (E σ)) (ha : PA X (e :: es) t) (hg : Gl X x := by rfl)
    (hdb : (x == ("__debug__" : Str)) = false := by decide) (he : starEach (e :: es) X.env = (false, eval e X.env) :: starEach es X.env := by rfl) (hpl : (backTo pos (starEach es X.env)).any (·.1) = false := by rfl) :
    PE X (.Call (.Name x p) (e :: es) [] pos) (tCallS sp E t) := by
  obtain ⟨f, fd, F, hm, hk, hb⟩ := D.ex
  exact pe_callS F hr hg hm hk hb hx ha hdb he hpl
end
/-- an own exception class made with a text -/
structure Xc (K : PySem.W.Frag) (mg : Str → Option Value) (x : Str) : Prop where
  g : mg x = some (.ref (He.ga K x))
  xi : PySem.W.excIn K (He.ga K x) He.veBase "ValueError.__new__" = true
  k : PySem.W.keepIn K (.ref (He.ga K x)) = true
  b : PySem.W.subIn K (.ref (He.ga K x)) (.type "BaseException") = some true
  t : PySem.W.typeIn K (.ref (He.ga K x)) = some (.type "type")
theorem Xc.of {fa : List (List He.Fa)} {fn : List (List He.FnD)} {ex : List (PySem.W.Frag → Bool)} {K : PySem.W.Frag} {h : Heap} {mg : Str → Option Value} {x : Str} (X : K.In h) (GN : h.Ns mainGlobals mg) (c : SaysK fa fn ex K) (i j i2 j2 : Nat) {l l2 : List He.Fa} (h1 : fa[i]? = some l := by rfl) (h2 : l[j]? = some (.glo x) := by rfl) (h3 : fa[i2]? = some l2 := by rfl) (h4 : l2[j2]? = some (.exc x) := by rfl) : Xc K mg x := by
  obtain ⟨a, b, d, e⟩ := He.exc_ok (c.fact i2 j2 h3 h4)
  exact ⟨He.glo_ok X GN (c.fact i j h1 h2), a, b, d, e⟩
theorem passX {P : Program} {w : World} {K : PySem.W.Frag} {mg : Str → Option Value} {base : Heap} {N : List Str} {qual : Str} {scope : Scope} {f : Addr} {cdv : Value} {A : Around} {outer : List Env} {s : Shared} {H : Hp} {E : XK} :
    Passes (L2.CX P w) (cxOf (L2.CX P w) P w K mg base N qual scope f cdv A outer s H E) E := passes_call (takes_of rfl rfl rfl rfl) fun _ _ _ _ h => h
/-! ### try -/
def wOnlyQ (K : PySem.W.Frag) (c : Value) (ts : Addr → Value → Option Addr → TS) (Wout : WX) (D : Ends) : WX := wOnly K c ts Wout D
def callSQ (sp : Sp) (E : L2.St → XK) (σ : L2.St) (Q : VK) : List V → Hp → Prop := fun vs H1 => sp vs H1 Q (E σ)
theorem x_callS {sp : Sp} {E : L2.St → XK} {t : TA} {σ : L2.St} {H : Hp} {Q : VK} (k : t σ H (callSQ sp E σ Q)) : tCallS sp E t σ H Q := k
instance r_callS {sp : Sp} {E : L2.St → XK} {t : TA} {σ : L2.St} {H : Hp} {Q : VK} {R : Prop} [i : Run (t σ H (callSQ sp E σ Q)) R] : Run (tCallS sp E t σ H Q) R := ⟨fun h => x_callS (i.go h)⟩
instance r_callSQ {sp : Sp} {E : L2.St → XK} {vs : List V} {σ : L2.St} {H : Hp} {Q : VK} {R : Prop} [i : Run (sp vs H Q (E σ)) R] : Run (callSQ sp E σ Q vs H) R := ⟨fun h => i.go h⟩
/-! ### x += e -/
section
variable {i : Nat} {te : TE} {ti : TIp} {f : L2.St → Hp → Prop} {rt : VK} {bk ct : L2.St → Hp → Prop} {σ σ' : L2.St} {H : Hp} {R : Prop} {v y z : V} {a b : Int} {fI : Int → Int → Int} {Q : VK}
def augQ1 (i : Nat) (ti : TIp) (v : V) (f : L2.St → Hp → Prop) (σ : L2.St) : VK := fun y H1 => ti v y H1 fun z H2 => f (σ.set i (some z)) H2
def augQ2 (i : Nat) (f : L2.St → Hp → Prop) (σ : L2.St) : VK := fun z H2 => f (σ.set i (some z)) H2
theorem x_aug (h : σ[i]? = some (some v)) (k : te σ H (augQ1 i ti v f σ)) : tAug i te ti (Ends.mk f rt bk ct) σ H := ⟨v, h, k⟩
instance r_aug [s : Slot σ i v] [n : Run (te σ H (augQ1 i ti v f σ)) R] : Run (tAug i te ti (Ends.mk f rt bk ct) σ H) R := ⟨fun h => x_aug s.h (n.go h)⟩
instance r_augQ1 [n : Run (ti v y H (augQ2 i f σ)) R] : Run (augQ1 i ti v f σ y H) R := ⟨fun h => n.go h⟩
instance r_ipI [n : Run (Q (.int (fI a b)) H) R] : Run (ipI fI (.int a) (.int b) H Q) R := ⟨fun h => ⟨a, b, rfl, rfl, n.go h⟩⟩
instance r_augQ2 [s : SetS σ i (some z) σ'] [n : Run (f σ' H) R] : Run (augQ2 i f σ z H) R := ⟨fun h => by
  show f (σ.set i (some z)) H
  rw [s.h]
  exact n.go h⟩
end
/-! ### isinstance of a caught error -/
def excCB (x : Str) (K : PySem.W.Frag) : Bool :=
  He.eqO (PySem.W.findIn K (.ref (He.ga K x)) "__getattribute__") (some (some (.builtin "BaseException.__getattribute__"))) && (He.eqO (PySem.W.findIn K (.ref (He.ga K x)) "__getattr__") (some none) && (decide (PySem.W.subIn K (.ref (He.ga K x)) (.type "BaseException") = some true) && (PySem.W.hasDictIn K (He.ga K x) &&
    (He.eqO (PySem.W.findIn K (.ref (He.ga K x)) "__class__") (some (some (.builtin "object.__class__"))) && (He.eqO (PySem.W.specialIn K (.builtin "object.__class__") "__get__") (some (some (.builtin "getset_descriptor.__get__"))) && (decide (PySem.W.takesIn K (.builtin "object.__class__") = some true) && decide (PySem.W.mroIn K (He.ga K x) (.type "object") = some true)))))))
theorem excCB_ok {x : Str} {K : PySem.W.Frag} (h : excCB x K = true) : ExcC K (He.ga K x) := by
  obtain ⟨a, h⟩ := He.ba h
  obtain ⟨b, h⟩ := He.ba h
  obtain ⟨c, h⟩ := He.ba h
  obtain ⟨d, h⟩ := He.ba h
  obtain ⟨e, h⟩ := He.ba h
  obtain ⟨f, h⟩ := He.ba h
  obtain ⟨g, h⟩ := He.ba h
  exact ⟨He.eqO_ok a, He.eqO_ok b, of_decide_eq_true c, d, He.eqO_ok e, He.eqO_ok f, of_decide_eq_true g, of_decide_eq_true h⟩
def rIsX (K : PySem.W.Frag) (cls : Value) (d : Option Addr) (a : Addr) : List V → Hp → VK → Prop := fun xs H Q => ∃ (D : Addr) (c : V) (cv : Value) (b : Bool), cls = .ref D ∧ d = none ∧ ExcC K D ∧ xs = [.ref a, c] ∧ (∀ u, RelV c u → u = cv) ∧ PySem.W.kitOne K (.ref D) cv = some b ∧ Q (.bl b) H
theorem call_isX {X : Cx} {a : Addr} {cls : Value} {d : Option Addr} {oe : Obj} {pn : List (Addr × Obj)} (hz : Zc cls d oe) (hf : ∃ vs, oe.data = .fields vs) : CallR (X.suite a ((a, oe) :: pn)) (.builtin "isinstance") (rIsX X.K cls d a) := by
  intro pins s σ H xs us Q I r h
  obtain ⟨D, c, cv, b, rfl, rfl, C, e, hcv, k, q⟩ := h
  exact call_isE C hz hf pins s σ H xs us Q I r ⟨c, cv, b, e, hcv, k, q⟩
theorem x_isXr {K : PySem.W.Frag} {D a C : Addr} {b : Bool} {H : Hp} {Q : VK} (C0 : ExcC K D) (k : PySem.W.kitOne K (.ref D) (.ref C) = some b) (q : Q (.bl b) H) : rIsX K (.ref D) none a [.ref a, .ref C] H Q :=
  ⟨D, .ref C, .ref C, b, rfl, rfl, C0, rfl, fun u h => h, k, q⟩
theorem x_isXt {K : PySem.W.Frag} {D a : Addr} {T : String} {b : Bool} {H : Hp} {Q : VK} (C0 : ExcC K D) (k : PySem.W.kitOne K (.ref D) (.type T) = some b) (q : Q (.bl b) H) : rIsX K (.ref D) none a [.ref a, .ty T] H Q :=
  ⟨D, .ty T, .type T, b, rfl, rfl, C0, rfl, fun u h => h, k, q⟩
instance slot_set {σ σ' : L2.St} {i n : Nat} {o : Option V} {v : V} [a : SetS σ i o σ'] [b : Slot σ' n v] : Slot (σ.set i o) n v := ⟨by rw [a.h]; exact b.h⟩
instance sets_set {σ σ1 σ2 : L2.St} {i n : Nat} {o o' : Option V} [a : SetS σ i o σ1] [b : SetS σ1 n o' σ2] : SetS (σ.set i o) n o' σ2 := ⟨by rw [a.h]; exact b.h⟩
end G

set_option Elab.async false
set_option linter.all false
set_option maxRecDepth 100000
set_option synthInstance.maxHeartbeats 0
set_option synthInstance.maxSize 100000
/-! A heap in parts: what stands in it is told by a list of parts that stand apart (but for what never changes). -/
namespace G
open PySem PySem.Spec PyProof.Rows L2 Evl RZ
/-! ### what never changes once it stands -/
def Per : HO → Prop
  | .tup _ => True
  | _ => False
/-- what never changes is kept -/
def PK (H H' : Hp) : Prop := ∀ a o, Per o → H a = some o → H' a = some o
theorem PK.refl {H : Hp} : PK H H := fun _ _ _ h => h
theorem PK.trans {H H1 H2 : Hp} (a : PK H H1) (b : PK H1 H2) : PK H H2 := fun x o p h => b x o p (a x o p h)
theorem PK.of_ex {H H1 : Hp} (e : Ex H H1) : PK H H1 := fun x o _ h => e x o h
theorem PK.upd {H : Hp} {a : Addr} {o u : HO} (h : H a = some o) (n : ¬ Per o) : PK H (upd H a u) := fun x w p hx => by
  have ne : x ≠ a := fun e => by
    rw [e, h] at hx
    cases hx
    exact n p
  rw [upd_ne ne]
  exact hx
theorem PK.tup {H H' : Hp} {a : Addr} {xs : List V} (p : PK H H') (h : H a = some (.tup xs)) : H' a = some (.tup xs) := p _ _ trivial h
/-! ### data: ints, texts, bools, None, tuples of them -/
mutual
inductive Tp (H : Hp) : V → PyData → Prop
  | non : Tp H .non .none
  | bl (b : Bool) : Tp H (.bl b) (.bool b)
  | int (i : Int) : Tp H (.int i) (.int i)
  | str (x : Str) : Tp H (.str x) (.str x)
  | tup {a : Addr} {xs : List V} {ds : List PyData} : H a = some (.tup xs) → TpAll H xs ds → Tp H (.ref a) (.tuple ds)
inductive TpAll (H : Hp) : List V → List PyData → Prop
  | nil : TpAll H [] []
  | cons {v : V} {vs : List V} {d : PyData} {ds : List PyData} : Tp H v d → TpAll H vs ds → TpAll H (v :: vs) (d :: ds)
end
mutual
theorem Tp.pk {H H' : Hp} (p : PK H H') : ∀ {v : V} {d : PyData}, Tp H v d → Tp H' v d
  | _, _, .non => .non
  | _, _, .bl b => .bl b
  | _, _, .int i => .int i
  | _, _, .str x => .str x
  | _, _, .tup s a => .tup (p.tup s) (TpAll.pk p a)
theorem TpAll.pk {H H' : Hp} (p : PK H H') : ∀ {vs : List V} {ds : List PyData}, TpAll H vs ds → TpAll H' vs ds
  | _, _, .nil => .nil
  | _, _, .cons a r => .cons (Tp.pk p a) (TpAll.pk p r)
end
mutual
theorem Tp.dp {K : PySem.W.Frag} {H : Hp} : ∀ {v : V} {d : PyData}, Tp H v d → Dp K H v d
  | _, _, .non => .non
  | _, _, .bl b => .bl b
  | _, _, .int i => .int i
  | _, _, .str x => .str x
  | _, _, .tup s a => .tup (SqT.of s) (TpAll.dp a)
theorem TpAll.dp {K : PySem.W.Frag} {H : Hp} : ∀ {vs : List V} {ds : List PyData}, TpAll H vs ds → DpAll K H vs ds
  | _, _, .nil => .nil
  | _, _, .cons a r => .cons (Tp.dp a) (TpAll.dp r)
end
theorem TpAll.len {H : Hp} : ∀ {vs : List V} {ds : List PyData}, TpAll H vs ds → vs.length = ds.length
  | _, _, .nil => rfl
  | _, _, .cons _ r => congrArg (· + 1) r.len
theorem TpAll.get {H : Hp} : ∀ {vs : List V} {ds : List PyData} {i : Nat} {v : V}, TpAll H vs ds → vs[i]? = some v → ∃ d, ds[i]? = some d ∧ Tp H v d
  | _, _, _, _, .nil, h => by simp at h
  | _, _, 0, _, .cons a _, h => by
    have e := Option.some.inj h
    subst e
    exact ⟨_, rfl, a⟩
  | _, _, i + 1, v, .cons _ r, h => TpAll.get (i := i) r h
theorem TpAll.app {H : Hp} : ∀ {vs ws : List V} {ds es : List PyData}, TpAll H vs ds → TpAll H ws es → TpAll H (vs ++ ws) (ds ++ es)
  | _, _, _, _, .nil, b => b
  | _, _, _, _, .cons a r, b => .cons a (TpAll.app r b)
theorem TpAll.strs {H : Hp} : ∀ ns : List Str, TpAll H (ns.map V.str) (ns.map PyData.str)
  | [] => .nil
  | n :: r => .cons (.str n) (TpAll.strs r)
theorem TpAll.ints {H : Hp} : ∀ ns : List Int, TpAll H (ns.map V.int) (ns.map PyData.int)
  | [] => .nil
  | n :: r => .cons (.int n) (TpAll.ints r)
/-! ### parts -/
abbrev Res := Hp → Prop
def Apart (h k : Hp) : Prop := ∀ a o, h a = some o → k a ≠ none → Per o
def SatL (H : Hp) : List Res → List Hp → Prop
  | [], [] => True
  | R :: Rs, h :: hs => R h ∧ Ex h H ∧ (∀ k ∈ hs, Apart h k ∧ Apart k h) ∧ SatL H Rs hs
  | _, _ => False
class Sat (H : Hp) (Rs : outParam (List Res)) : Prop where
  ex : ∃ hs, SatL H Rs hs
/-- the same, no class (a hypothesis that ends in a class is taken for an instance) -/
structure SatP (H : Hp) (Rs : List Res) : Prop where
  s : Sat H Rs
/-- one cell -/
def cell (a : Addr) (o : HO) : Res := fun h => h a = some o
theorem Ex.up {H : Hp} {p : Addr} {o : HO} (h : H p = some o) : Ex (fun a => if a = p then some o else none) H := fun a u e => by
  by_cases c : a = p
  · subst c
    simp only [if_true] at e
    cases e
    exact h
  · simp [c] at e
theorem SatL.mono {H H' : Hp} (e : Ex H H') : ∀ {Rs : List Res} {hs : List Hp}, SatL H Rs hs → SatL H' Rs hs
  | [], [], _ => trivial
  | _ :: _, _ :: _, ⟨r, x, d, t⟩ => ⟨r, x.trans e, d, SatL.mono e t⟩
  | [], _ :: _, h => h.elim
  | _ :: _, [], h => h.elim
theorem Sat.nil {H : Hp} : Sat H [] := ⟨[], trivial⟩
theorem Sat.mono {H H' : Hp} {Rs : List Res} (S : Sat H Rs) (e : Ex H H') : Sat H' Rs := by
  obtain ⟨hs, h⟩ := S.ex
  exact ⟨hs, h.mono e⟩
theorem Sat.tail {H : Hp} {R : Res} {Rs : List Res} (S : Sat H (R :: Rs)) : Sat H Rs := by
  obtain ⟨hs, h⟩ := S.ex
  match hs, h with
  | _ :: hs, ⟨_, _, _, t⟩ => exact ⟨hs, t⟩
theorem Sat.swap {H : Hp} {R S : Res} {Rs : List Res} (h : Sat H (R :: S :: Rs)) : Sat H (S :: R :: Rs) := by
  obtain ⟨hs, h⟩ := h.ex
  match hs, h with
  | h :: k :: hs, ⟨r, x, d, s, y, e, t⟩ =>
    refine ⟨k :: h :: hs, s, y, fun z hz => ?_, r, x, fun z hz => d z (List.mem_cons_of_mem _ hz), t⟩
    rcases List.mem_cons.mp hz with rfl | hz
    · exact (d k List.mem_cons_self).symm
    · exact e z hz
theorem Sat.under {H : Hp} {R : Res} {Rs Ss : List Res} (k : ∀ H' : Hp, ∀ hs, SatL H' Rs hs → ∃ hs', SatL H' Ss hs' ∧ ∀ z : Hp, (∀ q ∈ hs, Apart z q ∧ Apart q z) → ∀ q ∈ hs', Apart z q ∧ Apart q z) (h : Sat H (R :: Rs)) : Sat H (R :: Ss) := by
  obtain ⟨hs, h⟩ := h.ex
  match hs, h with
  | h :: hs, ⟨r, x, d, t⟩ =>
    obtain ⟨hs', t', d'⟩ := k H hs t
    exact ⟨h :: hs', r, x, d' h d, t'⟩
theorem satL_perm {Rs Ss : List Res} (p : Rs.Perm Ss) : ∀ (H : Hp) (hs : List Hp), SatL H Rs hs → ∃ hs', SatL H Ss hs' ∧ ∀ z : Hp, (∀ q ∈ hs, Apart z q ∧ Apart q z) → ∀ q ∈ hs', Apart z q ∧ Apart q z := by
  induction p with
  | nil => exact fun H hs h => ⟨hs, h, fun z d => d⟩
  | cons R p ih =>
    intro H hs h
    match hs, h with
    | h :: hs, ⟨r, x, d, t⟩ =>
      obtain ⟨hs', t', d'⟩ := ih H hs t
      refine ⟨h :: hs', ⟨r, x, d' h d, t'⟩, fun z dz q hq => ?_⟩
      rcases List.mem_cons.mp hq with rfl | hq
      · exact dz _ List.mem_cons_self
      · exact d' z (fun q hq => dz q (List.mem_cons_of_mem _ hq)) q hq
  | swap R S Rs =>
    intro H hs h
    match hs, h with
    | h :: k :: hs, ⟨r, x, d, s, y, e, t⟩ =>
      refine ⟨k :: h :: hs, ⟨s, y, fun z hz => ?_, r, x, fun z hz => d z (List.mem_cons_of_mem _ hz), t⟩, fun z dz q hq => ?_⟩
      · rcases List.mem_cons.mp hz with rfl | hz
        · exact (d k List.mem_cons_self).symm
        · exact e z hz
      · refine dz q ?_
        simp only [List.mem_cons] at hq ⊢
        rcases hq with h | h | h
        · exact .inr (.inl h)
        · exact .inl h
        · exact .inr (.inr h)
  | trans _ _ ih1 ih2 =>
    intro H hs h
    obtain ⟨h1, t1, d1⟩ := ih1 H hs h
    obtain ⟨h2, t2, d2⟩ := ih2 H h1 t1
    exact ⟨h2, t2, fun z d => d2 z (d1 z d)⟩
theorem Sat.perm {H : Hp} {Rs Ss : List Res} (S : Sat H Rs) (p : Rs.Perm Ss) : Sat H Ss := by
  obtain ⟨hs, h⟩ := S.ex
  obtain ⟨hs', h', _⟩ := satL_perm p H hs h
  exact ⟨hs', h'⟩
theorem Sat.get {H : Hp} {a : Addr} {o : HO} {Rs : List Res} (S : Sat H (cell a o :: Rs)) : H a = some o := by
  obtain ⟨hs, h⟩ := S.ex
  match hs, h with
  | _ :: _, ⟨r, x, _, _⟩ => exact x _ _ r
/-- a part weakened -/
theorem Sat.imp {H : Hp} {R R' : Res} {Rs : List Res} (S : Sat H (R :: Rs)) (k : ∀ h, Ex h H → R h → R' h) : Sat H (R' :: Rs) := by
  obtain ⟨hs, h⟩ := S.ex
  match hs, h with
  | h :: hs, ⟨r, x, d, t⟩ => exact ⟨h :: hs, k h x r, x, d, t⟩
theorem Sat.fact {H : Hp} {R : Res} {Rs : List Res} {P : Prop} (S : Sat H (R :: Rs)) (k : ∀ h, Ex h H → R h → P) : P := by
  obtain ⟨hs, h⟩ := S.ex
  match hs, h with
  | h :: hs, ⟨r, x, d, t⟩ => exact k h x r
theorem satL_dom {H : Hp} : ∀ {Rs : List Res} {hs : List Hp}, SatL H Rs hs → ∀ k ∈ hs, Ex k H
  | [], [], _, k, hk => by simp at hk
  | _ :: _, h :: hs, ⟨_, x, _, t⟩, k, hk => by
    rcases List.mem_cons.mp hk with rfl | hk
    · exact x
    · exact satL_dom t k hk
  | [], _ :: _, h, _, _ => h.elim
  | _ :: _, [], h, _, _ => h.elim
/-- a new cell -/
theorem Sat.new {H : Hp} {p : Addr} {o : HO} {Rs : List Res} (S : Sat H Rs) (hp : H p = none) : Sat (upd H p o) (cell p o :: Rs) := by
  obtain ⟨hs, h⟩ := S.ex
  refine ⟨(fun a => if a = p then some o else none) :: hs, if_pos rfl, Ex.up upd_same, fun k hk => ?_, h.mono (Ex.new hp)⟩
  have ek := satL_dom h k hk
  have kp : k p = none := by
    cases e : k p with
    | none => rfl
    | some u => rw [ek _ _ e] at hp; cases hp
  refine ⟨fun a u e n => ?_, fun a u e n => ?_⟩
  · by_cases c : a = p
    · subst c; exact absurd kp n
    · simp [c] at e
  · by_cases c : a = p
    · subst c; rw [kp] at e; cases e
    · simp [c] at n
/-- a cell changed -/
theorem satL_upd {H : Hp} {p : Addr} {o' : HO} : ∀ {Rs : List Res} {hs : List Hp}, SatL H Rs hs → (∀ k ∈ hs, k p = none) → SatL (upd H p o') Rs hs
  | [], [], _, _ => trivial
  | _ :: _, h :: hs, ⟨r, x, d, t⟩, n => ⟨r, fun a u e => by
      have c : a ≠ p := fun c => by rw [c, n h List.mem_cons_self] at e; cases e
      rw [upd_ne c]
      exact x a u e, d, satL_upd t fun k hk => n k (List.mem_cons_of_mem _ hk)⟩
  | [], _ :: _, h, _ => h.elim
  | _ :: _, [], h, _ => h.elim
theorem Sat.set {H : Hp} {p : Addr} {o o' : HO} {Rs : List Res} (S : Sat H (cell p o :: Rs)) (n : ¬ Per o) : Sat (upd H p o') (cell p o' :: Rs) := by
  obtain ⟨hs, h⟩ := S.ex
  match hs, h with
  | h :: hs, ⟨r, x, d, t⟩ =>
    have kn : ∀ k ∈ hs, k p = none := fun k hk => by
      cases e : k p with
      | none => rfl
      | some u => exact absurd ((d k hk).1 p o r (by rw [e]; exact Option.some_ne_none u)) n
    refine ⟨(fun a => if a = p then some o' else none) :: hs, if_pos rfl, Ex.up upd_same, fun k hk => ⟨fun a u e q => ?_, fun a u e q => ?_⟩, satL_upd t kn⟩
    · by_cases c : a = p
      · subst c; exact absurd (kn k hk) q
      · simp [c] at e
    · by_cases c : a = p
      · subst c; rw [kn k hk] at e; cases e
      · simp [c] at q
theorem Sat.pkset {H : Hp} {p : Addr} {o o' : HO} {Rs : List Res} (S : Sat H (cell p o :: Rs)) (n : ¬ Per o) : PK H (upd H p o') := PK.upd S.get n
/-! ### parts put together -/
/-- several parts as one -/
def star (Rs : List Res) : Res := fun h => Sat h Rs
theorem satL_app {H : Hp} : ∀ {As Bs : List Res} {xs ys : List Hp}, SatL H As xs → SatL H Bs ys → (∀ x ∈ xs, ∀ y ∈ ys, Apart x y ∧ Apart y x) → SatL H (As ++ Bs) (xs ++ ys)
  | [], _, [], _, _, b, _ => b
  | _ :: _, _, x :: xs, ys, ⟨r, e, d, t⟩, b, q => ⟨r, e, fun k hk => by
      rcases List.mem_append.mp hk with h | h
      · exact d k h
      · exact q x List.mem_cons_self k h, satL_app t b fun z hz y hy => q z (List.mem_cons_of_mem _ hz) y hy⟩
  | [], _, _ :: _, _, h, _, _ => h.elim
  | _ :: _, _, [], _, h, _, _ => h.elim
theorem satL_split {H : Hp} : ∀ {As Bs : List Res} {zs : List Hp}, SatL H (As ++ Bs) zs → ∃ xs ys, zs = xs ++ ys ∧ SatL H As xs ∧ SatL H Bs ys ∧ (∀ x ∈ xs, ∀ y ∈ ys, Apart x y ∧ Apart y x)
  | [], _, zs, h => ⟨[], zs, rfl, trivial, h, fun x hx => by simp at hx⟩
  | _ :: As, Bs, z :: zs, ⟨r, e, d, t⟩ => by
    obtain ⟨xs, ys, rfl, h1, h2, h3⟩ := satL_split (As := As) (Bs := Bs) t
    refine ⟨z :: xs, ys, rfl, ⟨r, e, fun k hk => d k (List.mem_append_left _ hk), h1⟩, h2, fun x hx y hy => ?_⟩
    rcases List.mem_cons.mp hx with rfl | hx
    · exact d y (List.mem_append_right _ hy)
    · exact h3 x hx y hy
  | _ :: _, _, [], h => h.elim
theorem Sat.open_ {H : Hp} {As Bs : List Res} (S : Sat H (star As :: Bs)) : Sat H (As ++ Bs) := by
  obtain ⟨hs, h⟩ := S.ex
  match hs, h with
  | h :: hs, ⟨r, x, d, t⟩ =>
    obtain ⟨xs, hx⟩ := r.ex
    refine ⟨xs ++ hs, satL_app (hx.mono x) t fun z hz y hy => ?_⟩
    have ez := satL_dom hx z hz
    exact ⟨fun a o e n => (d y hy).1 a o (ez a o e) n, fun a o e n => (d y hy).2 a o e fun q => by
      cases c : z a with
      | none => exact n c
      | some u => rw [ez a u c] at q; cases q⟩
theorem Sat.close {H : Hp} {As Bs : List Res} (S : Sat H (As ++ Bs)) : Sat H (star As :: Bs) := by
  obtain ⟨zs, h⟩ := S.ex
  obtain ⟨xs, ys, rfl, h1, h2, h3⟩ := satL_split h
  classical
  have ex : ∀ x ∈ xs, Ex x (fun a => if ∃ x ∈ xs, x a ≠ none then H a else none) := fun x hx a o e => by
    have : ∃ x ∈ xs, x a ≠ none := ⟨x, hx, by rw [e]; exact Option.some_ne_none o⟩
    simp only [this, if_true]
    exact satL_dom h1 x hx a o e
  have re : ∀ {Rs : List Res} {zs : List Hp}, SatL H Rs zs → (∀ x ∈ zs, x ∈ xs) → SatL (fun a => if ∃ x ∈ xs, x a ≠ none then H a else none) Rs zs := by
    intro Rs
    induction Rs with
    | nil => intro zs h _; cases zs with
      | nil => trivial
      | cons _ _ => exact h.elim
    | cons R Rs ih =>
      intro zs h m
      cases zs with
      | nil => exact h.elim
      | cons z zs =>
        obtain ⟨r, e, d, t⟩ := h
        exact ⟨r, ex z (m z List.mem_cons_self), d, ih t fun x hx => m x (List.mem_cons_of_mem _ hx)⟩
  refine ⟨(fun a => if ∃ x ∈ xs, x a ≠ none then H a else none) :: ys, ⟨xs, re h1 fun _ h => h⟩, fun a o e => ?_, fun y hy => ⟨fun a o e n => ?_, fun a o e n => ?_⟩, h2⟩
  · by_cases c : ∃ x ∈ xs, x a ≠ none
    · simp only [c, if_true] at e; exact e
    · simp only [c, if_false] at e; cases e
  · by_cases c : ∃ x ∈ xs, x a ≠ none
    · simp only [c, if_true] at e
      obtain ⟨x, hx, nx⟩ := c
      cases q : x a with
      | none => exact absurd q nx
      | some u =>
        have := satL_dom h1 x hx a u q
        rw [e] at this
        cases this
        exact (h3 x hx y hy).1 a o q n
    · simp only [c, if_false] at e; cases e
  · by_cases c : ∃ x ∈ xs, x a ≠ none
    · obtain ⟨x, hx, nx⟩ := c
      exact (h3 x hx y hy).2 a o e nx
    · simp only [c, if_false] at n; exact absurd rfl n
theorem Sat.exE {H : Hp} {α : Type} {f : α → Res} {Rs : List Res} (S : Sat H ((fun h => ∃ x, f x h) :: Rs)) : ∃ x, Sat H (f x :: Rs) := by
  obtain ⟨hs, h⟩ := S.ex
  match hs, h with
  | h :: hs, ⟨⟨x, r⟩, e, d, t⟩ => exact ⟨x, ⟨h :: hs, r, e, d, t⟩⟩
theorem Sat.exI {H : Hp} {α : Type} {f : α → Res} {Rs : List Res} (x : α) (S : Sat H (f x :: Rs)) : Sat H ((fun h => ∃ x, f x h) :: Rs) := S.imp fun _ _ r => ⟨x, r⟩
/-- what never changes may stand in two parts -/
theorem Sat.per {H : Hp} {p : Addr} {o : HO} {Rs : List Res} (S : Sat H Rs) (h : H p = some o) (n : Per o) : Sat H (cell p o :: Rs) := by
  obtain ⟨hs, t⟩ := S.ex
  refine ⟨(fun a => if a = p then some o else none) :: hs, if_pos rfl, Ex.up h, fun k hk => ⟨fun a u e q => ?_, fun a u e q => ?_⟩, t⟩
  · by_cases c : a = p
    · subst c; simp only [if_true] at e; cases e; exact n
    · simp [c] at e
  · by_cases c : a = p
    · subst c
      have := satL_dom t k hk _ _ e
      rw [h] at this
      cases this
      exact n
    · simp [c] at q
/-- the same of anything that leans on what never changes alone -/
def perOf (H : Hp) : Hp := fun a => match H a with
  | some (.tup xs) => some (.tup xs)
  | _ => none
theorem perOf_ex (H : Hp) : Ex (perOf H) H := fun a o e => by
  unfold perOf at e
  split at e
  · next h => cases e; exact h
  · cases e
theorem perOf_per {H : Hp} {a : Addr} {o : HO} (e : perOf H a = some o) : Per o := by
  unfold perOf at e
  split at e
  · cases e; trivial
  · cases e
theorem perOf_pk (H : Hp) : PK H (perOf H) := fun a o p h => by
  unfold perOf
  cases o with
  | tup xs => rw [h]
  | _ => exact p.elim
theorem Sat.perR {H : Hp} {R : Res} {Rs : List Res} (S : Sat H Rs) (h : R (perOf H)) : Sat H (R :: Rs) := by
  obtain ⟨hs, t⟩ := S.ex
  refine ⟨perOf H :: hs, h, perOf_ex H, fun k hk => ⟨fun a u e q => perOf_per e, fun a u e q => ?_⟩, t⟩
  cases c : perOf H a with
  | none => exact absurd c q
  | some z =>
    have h1 := perOf_ex H _ _ c
    have h2 := satL_dom t k hk _ _ e
    rw [h1] at h2
    cases h2
    exact perOf_per c
/-! ### a part by its place -/
class Foc {α β : Type} (fam : α → β → Res) (a : α) (b : outParam β) (Rs : List Res) (T : outParam (List Res)) (F : outParam (Res → List Res)) : Prop where
  perm : ∀ X, (X :: T).Perm (F X)
  eq : F (fam a b) = Rs
instance foc_0 {α β : Type} {fam : α → β → Res} {a : α} {b : β} {Rs : List Res} : Foc fam a b (fam a b :: Rs) Rs (fun X => X :: Rs) := ⟨fun _ => .refl _, rfl⟩
instance foc_s {α β : Type} {fam : α → β → Res} {a : α} {b : β} {S : Res} {Rs T : List Res} {F : Res → List Res} [f : Foc fam a b Rs T F] : Foc fam a b (S :: Rs) (S :: T) (fun X => S :: F X) :=
  ⟨fun X => (List.Perm.swap S X T).trans ((f.perm X).cons S), by rw [f.eq]⟩
section
variable {α β : Type} {fam : α → β → Res} {a : α} {b : β} {Rs T : List Res} {F : Res → List Res} {H : Hp}
theorem Foc.out (f : Foc fam a b Rs T F) (S : Sat H Rs) : Sat H (fam a b :: T) := S.perm (by rw [← f.eq]; exact (f.perm _).symm)
theorem Foc.back (f : Foc fam a b Rs T F) {X : Res} (S : Sat H (X :: T)) : Sat H (F X) := S.perm (f.perm X)
end
theorem foc_perm {α β : Type} {fam : α → β → Res} {a : α} {b : β} {Rs T : List Res} {F : Res → List Res} (f : Foc fam a b Rs T F) : Rs.Perm (fam a b :: T) := by
  have h := f.perm (fam a b)
  rw [f.eq] at h
  exact h.symm
/-- a list of parts that are had among others, in another order -/
inductive SubR : List Res → List Res → Prop
  | nil {Rs : List Res} : SubR [] Rs
  | cons {R : Res} {Rs Ss T : List Res} (h : (R :: T).Perm Ss) (t : SubR Rs T) : SubR (R :: Rs) Ss
theorem Sat.sub {H : Hp} {Rs Ss : List Res} (s : SubR Ss Rs) (S : Sat H Rs) : Sat H Ss := by
  have key : ∀ {Ss Rs : List Res}, SubR Ss Rs → ∃ T, (Ss ++ T).Perm Rs := by
    intro Ss Rs s
    induction s with
    | nil => exact ⟨_, .refl _⟩
    | cons h t ih =>
      obtain ⟨T, q⟩ := ih
      exact ⟨T, (q.cons _).trans h⟩
  have dropR : ∀ {A B : List Res}, Sat H (A ++ B) → Sat H A := by
    intro A B S
    have S2 : Sat H (B ++ A) := S.perm List.perm_append_comm
    clear S
    induction B with
    | nil => exact S2
    | cons b B ih => exact ih S2.tail
  obtain ⟨T, q⟩ := key s
  exact dropR (S.perm q.symm)
class PickR (R : Res) (Ss : List Res) (T : outParam (List Res)) : Prop where
  perm : (R :: T).Perm Ss
instance pick_0 {R : Res} {Rs : List Res} : PickR R (R :: Rs) Rs := ⟨.refl _⟩
instance pick_s {R S : Res} {Rs T : List Res} [p : PickR R Rs T] : PickR R (S :: Rs) (S :: T) := ⟨(List.Perm.swap S R T).trans (p.perm.cons S)⟩
class SubC (Rs Ss : List Res) : Prop where
  sub : SubR Rs Ss
instance subc_nil {Rs : List Res} : SubC [] Rs := ⟨.nil⟩
theorem SubR.refl : ∀ Rs : List Res, SubR Rs Rs
  | [] => .nil
  | _ :: r => .cons (.refl _) (SubR.refl r)
theorem SubR.skip {Rs Ss : List Res} {S : Res} (h : SubR Rs Ss) : SubR Rs (S :: Ss) := by
  induction h with
  | nil => exact .nil
  | @cons R Rs Ss T h t ih => exact .cons ((List.Perm.swap S R T).trans (h.cons S)) ih
class Suf (Rs Ss : List Res) : Prop where
  sub : SubR Rs Ss
instance suf_skip {Rs Ss : List Res} {S : Res} [s : Suf Rs Ss] : Suf Rs (S :: Ss) := ⟨s.sub.skip⟩
instance suf_refl {Rs : List Res} : Suf Rs Rs := ⟨SubR.refl Rs⟩
instance (priority := low) subc_suf {Rs Ss : List Res} [s : Suf Rs Ss] : SubC Rs Ss := ⟨s.sub⟩
instance subc_cons {R : Res} {Rs Ss T : List Res} [p : PickR R Ss T] [s : SubC Rs T] : SubC (R :: Rs) Ss := ⟨.cons p.perm s.sub⟩
theorem Sat.pick {H : Hp} {Rs Ss : List Res} (S : Sat H Rs) [s : SubC Ss Rs] : Sat H Ss := S.sub s.sub
/-! ### classes -/
structure DnM (P : Program) (w : World) (K : PySem.W.Frag) (mg : Str → Option Value) (base : Heap) (CX : CXT) (k : Nat) (f : Addr) (ps : List Str) (sp : Sp) : Prop where
  ex : ∃ fd, FnOk P w K mg base CX k f fd ps sp ∧ Binds K fd ps []
section
variable {P : Program} {w : World} {K : PySem.W.Frag} {mg : Str → Option Value} {base : Heap} {C m qual : Str} {st : Stmt} {N ps : List Str} {k : Nat} {sp : Sp}
abbrev BindOk (m qual : Str) (st : Stmt) (ps : List Str) : Prop := ∀ (kV doc pm : Value) (an : Option Addr) (cdv ct : Value) (us : List Value), us.length = ps.length → bindArgs (PySem.W.fnOf m qual (defArgs st) (defBody st) (defScope st) .none kV doc pm an cdv ct) ⟨us, []⟩ = pure (ps.zip us)
theorem Mf.dm (F : Mf K C m qual st) (S : FnScope N ps (defScope st)) (hb : BindOk m qual st ps) (len : ∀ vs H Q E, sp vs H Q E → vs.length = ps.length)
    (hbody : ∀ (f : Addr) (cdv : Value) (A : Around) (outer : List Env) (s : Shared) (H : Hp) (vs : List V) (Q : VK) (E : XK), Room k (A.deeper (envOfC qual (defScope st) s.heap.objs.size f cdv)) → (cxOf CX0 P w K mg base N qual (defScope st) f cdv A outer s H E).nox.K = K → sp vs H Q E →
      ∃ t, PSs (cxOf CX0 P w K mg base N qual (defScope st) f cdv A outer s H E).nox (defBody st) t ∧ t { nx := fun _ H' => Q .non H', rt := Q } (start N vs) H) : DnM P w K mg base CX0 (k + 1) (He.ma K (He.ga K C) m) ps sp := by
  obtain ⟨fd, F⟩ := F.ex
  exact ⟨fd, F.ok S len (fun cdv A outer s H vs Q E hr h => hbody _ cdv A outer s H vs Q E hr rfl h), F.binds hb⟩
theorem Mf.dmX (F : Mf K C m qual st) (S : FnScope N ps (defScope st)) (hb : BindOk m qual st ps) (len : ∀ vs H Q E, sp vs H Q E → vs.length = ps.length)
    (hbody : ∀ (f : Addr) (cdv : Value) (A : Around) (outer : List Env) (s : Shared) (H : Hp) (vs : List V) (Q : VK) (E : XK), Room k (A.deeper (envOfC qual (defScope st) s.heap.objs.size f cdv)) → (cxOf (L2.CX P w) P w K mg base N qual (defScope st) f cdv A outer s H E).K = K → sp vs H Q E →
      ∃ t, PSs (cxOf (L2.CX P w) P w K mg base N qual (defScope st) f cdv A outer s H E) (defBody st) t ∧ t { nx := fun _ H' => Q .non H', rt := Q } (start N vs) H) : DnM P w K mg base (L2.CX P w) (k + 1) (He.ma K (He.ga K C) m) ps sp := by
  obtain ⟨fd, F⟩ := F.ex
  exact ⟨fd, F.okX S len (fun cdv A outer s H vs Q E hr h => hbody _ cdv A outer s H vs Q E hr rfl h), F.binds hb⟩
theorem Mf.dmN (F : Mf K C m qual st) (S : FnScope N ps (defScope st)) (hb : BindOk m qual st ps) (len : ∀ vs H Q E, sp vs H Q E → vs.length = ps.length)
    (hbody : ∀ (f : Addr) (cdv : Value) (A : Around) (outer : List Env) (s : Shared) (H : Hp) (vs : List V) (Q : VK) (E : XK), Room k (A.deeper (envOfC qual (defScope st) s.heap.objs.size f cdv)) → (cxOf (L2N.CX P w) P w K mg base N qual (defScope st) f cdv A outer s H E).K = K → sp vs H Q E →
      ∃ t, PSs (cxOf (L2N.CX P w) P w K mg base N qual (defScope st) f cdv A outer s H E) (defBody st) t ∧ t { nx := fun _ H' => Q .non H', rt := Q } (start N vs) H) : DnM P w K mg base (L2N.CX P w) (k + 1) (He.ma K (He.ga K C) m) ps sp := by
  obtain ⟨fd, F⟩ := F.ex
  obtain ⟨oc, od, kV, doc, pm, an, cdv, ct, osl, rfl, lk, hcd⟩ := F.ex
  exact ⟨_, fn_of lk hcd S len (fun A outer s H vs Q E hr hsp => hbody _ cdv A outer s H vs Q E hr rfl hsp), F.binds hb⟩
end
theorem passN {P : Program} {w : World} {K : PySem.W.Frag} {mg : Str → Option Value} {base : Heap} {N : List Str} {qual : Str} {scope : Scope} {f : Addr} {cdv : Value} {A : Around} {outer : List Env} {s : Shared} {H : Hp} {E : XK} :
    Passes (L2N.CX P w) (cxOf (L2N.CX P w) P w K mg base N qual scope f cdv A outer s H E) E := L2N.passes_call (L2N.takes_of rfl rfl rfl rfl) fun _ _ _ _ h => h
theorem passNL {X : Cx} : Passes (L2N.CX X.prog X.w) X E0 := fun _ _ _ _ _ _ _ h => by
  obtain ⟨_, _, _, _, _, _, _, _, _, _, _, _, z⟩ := h
  exact z.elim
section
variable {X : Cx} {CX : CXT} {k : Nat} {C f : Addr} {ps : List Str} {sp : Sp} {E : XK} {ES : L2.St → XK} {x m : Str} {p pos apos : Pos} {e o : Expr} {es : List Expr} {ta : TE} {t : TA}
theorem pe_mk (M : Mk X.K C f) (D : DnM X.prog X.w X.K X.mg X.base CX k f ps sp) (hr : Room (k + 1) X.A) (hx : Passes CX X E) (hm : X.mg x = some (.ref C)) (ha : PA X (e :: es) t) (hg : Gl X x := by rfl)
    (hdb : (x == ("__debug__" : Str)) = false := by decide) (he : starEach (e :: es) X.env = (false, eval e X.env) :: starEach es X.env := by rfl) (hpl : (backTo pos (starEach es X.env)).any (·.1) = false := by rfl) :
    PE X (.Call (.Name x p) (e :: es) [] pos) (tMake C sp [] E t) := by
  obtain ⟨fd, F, hb⟩ := D.ex
  exact pe_make M F hr hg hm hb .nil hx ha hdb he hpl
theorem pe_mk0 (M : Mk X.K C f) (D : DnM X.prog X.w X.K X.mg X.base CX k f ps sp) (hr : Room (k + 1) X.A) (hx : Passes CX X E) (hm : X.mg x = some (.ref C)) (hg : Gl X x := by rfl)
    (hdb : (x == ("__debug__" : Str)) = false := by decide) : PE X (.Call (.Name x p) [] [] pos) (tMake C sp [] E tNil) := by
  obtain ⟨fd, F, hb⟩ := D.ex
  exact pe_make0 M F hr hg hm hb .nil hx hdb
theorem pe_mt {pl : Sem Bool} (he : PE X o ta) (c : Cls X.K C) (hm : Meth X.K C m f) (D : DnM X.prog X.w X.K X.mg X.base CX k f ps sp) (hr : Room k X.A) (hx : Passes CX X E) (ha : PA X (e :: es) t)
    (hst : starEach (e :: es) X.env = (false, eval e X.env) :: starEach es X.env := by rfl) (hpl : (backTo pos (starEach es X.env)).any (·.1) = false := by rfl)
    (ht : eval (.Call (.Attribute o m apos) (e :: es) [] pos) X.env = (do
      let ov ← eval o X.env
      standAt apos.atName
      let (f, first) ← holding [ov] (getMethod ov m pl)
      callWith pos f first (backTo pos (starEach (e :: es) X.env)) (backToKw pos (keywordEach [] X.env))) := by rfl) :
    PE X (.Call (.Attribute o m apos) (e :: es) [] pos) (tMeth C m sp [] E ta t) := by
  obtain ⟨fd, F, hb⟩ := D.ex
  exact pe_meth he c hm F hr hb .nil hx ha hst hpl ht
theorem pe_mt0 {pl : Sem Bool} (he : PE X o ta) (c : Cls X.K C) (hm : Meth X.K C m f) (D : DnM X.prog X.w X.K X.mg X.base CX k f ps sp) (hr : Room k X.A) (hx : Passes CX X E)
    (ht : eval (.Call (.Attribute o m apos) [] [] pos) X.env = (do
      let ov ← eval o X.env
      standAt apos.atName
      let (f, first) ← holding [ov] (getMethod ov m pl)
      callWith pos f first (backTo pos (starEach [] X.env)) (backToKw pos (keywordEach [] X.env))) := by rfl) :
    PE X (.Call (.Attribute o m apos) [] [] pos) (tMeth C m sp [] E ta tNil) := by
  obtain ⟨fd, F, hb⟩ := D.ex
  exact pe_meth0 he c hm F hr hb .nil hx ht
/-- a method's call in a try -/
def tMethS (C : Addr) (m : Str) (sp : Sp) (ES : L2.St → XK) (ta : TE) (t : TA) : TE := fun σ H Q => ta σ H fun x H1 => ∃ a dx fs, x = .ref a ∧ H1 a = some (.ins C dx fs) ∧ fs.lookup m = none ∧
  t σ H1 fun vs H2 => sp (x :: vs) H2 Q (ES σ)
theorem pe_mtS {pl : Sem Bool} (he : PE X o ta) (c : Cls X.K C) (hm : Meth X.K C m f) (D : DnM X.prog X.w X.K X.mg X.base CX k f ps sp) (hr : Room k X.A) (hx : ∀ σ, PassesAt CX X σ (ES σ)) (ha : PA X (e :: es) t)
    (hst : starEach (e :: es) X.env = (false, eval e X.env) :: starEach es X.env := by rfl) (hpl : (backTo pos (starEach es X.env)).any (·.1) = false := by rfl)
    (ht : eval (.Call (.Attribute o m apos) (e :: es) [] pos) X.env = (do
      let ov ← eval o X.env
      standAt apos.atName
      let (f, first) ← holding [ov] (getMethod ov m pl)
      callWith pos f first (backTo pos (starEach (e :: es) X.env)) (backToKw pos (keywordEach [] X.env))) := by rfl) :
    PE X (.Call (.Attribute o m apos) (e :: es) [] pos) (tMethS C m sp ES ta t) := by
  obtain ⟨fd, F, hb⟩ := D.ex
  refine ⟨fun pins s σ H Q I h => ?_⟩
  refine PySem.W.methodCall_KW (pl := pl) (thn (he.run pins s σ H _ I h) fun u s1 ⟨x, H1, I1, rx, a, dx, fs, ex, ea, l, q⟩ => ?_) ht
  subst ex
  obtain rfl : u = Value.ref a := rx
  refine getmeth_ok I1 ea c hm l ?_
  refine PySem.W.callWith_K (first := [.ref a]) (h₀ := X.base) I.ok.mod.kin hm.kp (thn (ha.run pos pins s1 σ H1 _ I1 q) fun us s2 ⟨vs, H2, I2, r, q2⟩ => ⟨I2.kIn, ?_⟩) hst hpl
  exact run_fnS (us := .ref a :: us) (vs := .ref a :: vs) F hr hb (hx σ) I2 (.cons rfl r) q2
theorem pe_mt0S {pl : Sem Bool} (he : PE X o ta) (c : Cls X.K C) (hm : Meth X.K C m f) (D : DnM X.prog X.w X.K X.mg X.base CX k f ps sp) (hr : Room k X.A) (hx : ∀ σ, PassesAt CX X σ (ES σ))
    (ht : eval (.Call (.Attribute o m apos) [] [] pos) X.env = (do
      let ov ← eval o X.env
      standAt apos.atName
      let (f, first) ← holding [ov] (getMethod ov m pl)
      callWith pos f first (backTo pos (starEach [] X.env)) (backToKw pos (keywordEach [] X.env))) := by rfl) :
    PE X (.Call (.Attribute o m apos) [] [] pos) (tMethS C m sp ES ta tNil) := by
  obtain ⟨fd, F, hb⟩ := D.ex
  refine ⟨fun pins s σ H Q I h => ?_⟩
  refine PySem.W.methodCall_KW (pl := pl) (thn (he.run pins s σ H _ I h) fun u s1 ⟨x, H1, I1, rx, a, dx, fs, ex, ea, l, q⟩ => ?_) ht
  subst ex
  obtain rfl : u = Value.ref a := rx
  refine getmeth_ok I1 ea c hm l ?_
  exact PySem.W.callWith_K0 (first := [.ref a]) I1.kIn hm.kp (run_fnS (us := [.ref a]) (vs := [.ref a]) F hr hb (hx σ) I1 (.cons rfl .nil) q)
/-! ### fields -/
variable {g : Str} {value : Expr} {tv : TE} {pos' : Pos}
def tFldC (C : Addr) (ta : TE) (g : Str) : TE := fun σ H Q => ta σ H fun x H1 => ∃ a dx fs v, x = .ref a ∧ H1 a = some (.ins C dx fs) ∧ fs.lookup g = some v ∧ Q v H1
def sFldC (C : Addr) (ta tv : TE) (g : Str) : TS := fun D σ H => tv σ H fun y H1 => ta σ H1 fun x H2 => ∃ a dx fs, x = .ref a ∧ H2 a = some (.ins C dx fs) ∧ fs.length < 1000 ∧ D.nx σ (upd H2 a (.ins C dx (putF g y fs)))
theorem pe_fldC (c : Cls X.K C) (n : NoAttr X.K C g) (he : PE X e ta) (hb : attributeBase e g X.env (eval e X.env) = eval e X.env) : PE X (.Attribute e g pos) (tFldC C ta g) := by
  refine ⟨fun pins s σ H Q I h => ?_⟩
  refine attr_of hb (thn (he.run pins s σ H _ I h) fun u s1 ⟨x, H1, I1, rx, a, dx, fs, v, ex, ea, l, q⟩ => ?_)
  subst ex
  obtain rfl : u = Value.ref a := rx
  exact getattr_ok I1 ea c n l fun u' s2 I2 ru => ⟨v, H1, I2, ru, q⟩
theorem ps_fldC (c : Cls X.K C) (n : NoAttr X.K C g) (ha : PE X o ta) (hv : PE X value tv) (hs : swapsWith value (some (.Attribute o g pos')) pos.line X.env = pure false) : PS X (.Assign [.Attribute o g pos'] value pos) (sFldC C ta tv g) := by
  refine ⟨fun pins s σ H D I h => ?_⟩
  refine plainObj_wpAny_Assign_Attribute (thn (hv.run pins s σ H _ I h) fun u s1 ⟨y, H1, I1, ry, q⟩ => thn (ha.run pins s1 σ H1 _ I1 q) fun ov s2 ⟨x, H2, I2, rx, a, dx, fs, ex, ea, l, q2⟩ => ?_) hs
  subst ex
  obtain rfl : ov = Value.ref a := rx
  exact setattr_ok I2 ea c n l ry fun s3 I3 => ⟨σ, _, I3, q2⟩
/-- a text of the module -/
def Cs (mg : Str → Option Value) (x : Str) (z : Str) : Prop := ∃ t, mg x = some (.str z t)
theorem pe_csts {z : Str} (c : Cs X.mg x z) (hg : Gl X x := by rfl) (hd : (x == ("__debug__" : Str)) = false := by decide) : PE X (.Name x pos) (tC (.str z)) := by
  obtain ⟨t, h⟩ := c
  exact pe_glob hg h ⟨t, rfl⟩ hd
end
/-! ### data in dicts -/
abbrev KDs := List (Key × PyData)
inductive KD (h : Hp) : List (Key × V) → KDs → Prop
  | nil : KD h [] []
  | cons {k : Key} {v : V} {d : PyData} {r : List (Key × V)} {t : KDs} : Tp h v d → KD h r t → KD h ((k, v) :: r) ((k, d) :: t)
theorem KD.pk {H H' : Hp} (p : PK H H') {kvs : List (Key × V)} {kds : KDs} (r : KD H kvs kds) : KD H' kvs kds := by
  induction r with
  | nil => exact .nil
  | cons a _ ih => exact .cons (a.pk p) ih
theorem KD.len {H : Hp} {kvs : List (Key × V)} {kds : KDs} (r : KD H kvs kds) : kvs.length = kds.length := by
  induction r with
  | nil => rfl
  | cons _ _ ih => exact congrArg (· + 1) ih
def valD (kds : KDs) (k : Key) : Option PyData := (kds.find? fun kv => decide (kv.1 = k)).map (·.2)
def hasD (kds : KDs) (k : Key) : Bool := kds.any fun kv => decide (kv.1 = k)
def putD (kds : KDs) (k : Key) (d : PyData) : KDs := if hasD kds k = true then kds.map (fun kv => if kv.1 = k then (kv.1, d) else kv) else kds ++ [(k, d)]
def dropD (kds : KDs) (k : Key) : KDs := kds.filter fun kv => decide (kv.1 ≠ k)
section
variable {H : Hp} {kvs : List (Key × V)} {kds : KDs} {k : Key} {v : V} {d : PyData}
theorem KD.sm (r : KD H kvs kds) (h : valD kds k = some d) : ∃ v, valV kvs k = some v ∧ Tp H v d := by
  induction r with
  | nil => cases h
  | @cons j v e r t a q ih =>
    by_cases c : j = k
    · have h2 : valD ((j, e) :: t) k = some e := by simp [valD, List.find?_cons, c]
      rw [h2] at h
      cases h
      exact ⟨v, valV_pos (p := (j, v)) c, a⟩
    · have h2 : valD ((j, e) :: t) k = valD t k := by simp [valD, List.find?_cons, c]
      rw [h2] at h
      obtain ⟨u, e1, e2⟩ := ih h
      exact ⟨u, by rw [valV_neg (p := (j, v)) c]; exact e1, e2⟩
theorem KD.any (r : KD H kvs kds) : (kvs.any fun kv => decide (kv.1 = k)) = hasD kds k := by
  unfold hasD
  induction r with
  | nil => rfl
  | cons a q ih => rw [List.any_cons, List.any_cons, ih]
theorem KD.has (r : KD H kvs kds) : (valV kvs k).isSome = hasD kds k := by rw [← valV_any, r.any]
theorem KD.snoc (r : KD H kvs kds) (a : Tp H v d) : KD H (kvs ++ [(k, v)]) (kds ++ [(k, d)]) := by
  induction r with
  | nil => exact .cons a .nil
  | cons b q ih => exact .cons b ih
theorem KD.put (r : KD H kvs kds) (a : Tp H v d) : KD H (putK kvs k v) (putD kds k d) := by
  unfold putK putD
  rw [r.any]
  split
  · next c =>
    clear c
    induction r with
    | nil => exact .nil
    | @cons j u e r t b q ih =>
      rw [List.map_cons, List.map_cons]
      by_cases c : j = k
      · rw [if_pos c, if_pos c]; exact .cons a ih
      · rw [if_neg c, if_neg c]; exact .cons b ih
  · exact r.snoc a
theorem KD.drop (r : KD H kvs kds) : KD H (dropK kvs k) (dropD kds k) := by
  unfold dropK dropD
  induction r with
  | nil => exact .nil
  | @cons j u e r t b q ih =>
    rw [List.filter_cons, List.filter_cons]
    split
    · exact .cons b ih
    · exact ih
theorem KD.keys (r : KD H kvs kds) : kvs.map (fun kv => kV kv.1) = kds.map (fun kv => kV kv.1) := by
  induction r with
  | nil => rfl
  | cons b q ih => rw [List.map_cons, List.map_cons, ih]
theorem KD.at_ {i : Nat} (r : KD H kvs kds) {u : V} (h : kvs[i]? = some (k, u)) : ∃ e, kds[i]? = some (k, e) ∧ Tp H u e := by
  induction r generalizing i with
  | nil => simp at h
  | cons b q ih =>
    cases i with
    | zero => cases h; exact ⟨_, rfl, b⟩
    | succ i => exact ih (i := i) h
end
/-! ### dicts, lists, tuples as parts -/
theorem ex_join {h H : Hp} (e : Ex h H) : ∃ h', Ex h h' ∧ Ex h' H ∧ PK H h' ∧ (∀ k, Apart h k → Apart k h → Ex k H → Apart h' k ∧ Apart k h') := by
  refine ⟨fun a => match h a with | some o => some o | none => perOf H a, fun a o q => by simp only [q], fun a o q => ?_, fun a o p q => ?_, fun k h1 h2 ek => ⟨fun a o q n => ?_, fun a o q n => ?_⟩⟩
  · cases c : h a with
    | some u => simp only [c] at q; cases q; exact e a _ c
    | none => simp only [c] at q; exact perOf_ex H a o q
  · cases c : h a with
    | some u =>
      have := e a u c
      rw [q] at this
      cases this
      simp only [c]
    | none => simp only [c]; exact perOf_pk H a o p q
  · cases c : h a with
    | some u => simp only [c] at q; cases q; exact h1 a _ c n
    | none => simp only [c] at q; exact perOf_per q
  · cases c : h a with
    | some u => exact h2 a o q (by rw [c]; exact Option.some_ne_none _)
    | none =>
      simp only [c] at n
      cases c2 : perOf H a with
      | none => exact absurd c2 n
      | some z =>
        have h3 := perOf_ex H _ _ c2
        have h4 := ek _ _ q
        rw [h3] at h4
        cases h4
        exact perOf_per c2
/-- a part weakened, all tuples at hand -/
theorem Sat.impP {H : Hp} {R R' : Res} {Rs : List Res} (S : Sat H (R :: Rs)) (mono : ∀ h h', Ex h h' → R h → R h') (k : ∀ h, Ex h H → PK H h → R h → R' h) : Sat H (R' :: Rs) := by
  obtain ⟨hs, h⟩ := S.ex
  match hs, h with
  | h :: hs, ⟨r, x, d, t⟩ =>
    obtain ⟨h', e1, e2, e3, e4⟩ := ex_join x
    exact ⟨h' :: hs, k h' e2 e3 (mono _ _ e1 r), e2, fun z hz => e4 z (d z hz).1 (d z hz).2 (satL_dom t z hz), t⟩
/-- a dict with data in it -/
def dct (p : Addr) (kds : KDs) : Res := fun h => ∃ kvs, h p = some (.dK kvs) ∧ KD h kvs kds
section
variable {H : Hp} {Rs T : List Res} {F : Res → List Res} {p a : Addr} {kds : KDs} {kvs : List (Key × V)} {o : HO}
theorem Sat.dctE (S : Sat H (dct p kds :: Rs)) : ∃ kvs, Sat H (cell p (.dK kvs) :: Rs) ∧ KD H kvs kds := by
  obtain ⟨hs, h⟩ := S.ex
  match hs, h with
  | h :: hs, ⟨⟨kvs, r, kd⟩, x, d, t⟩ => exact ⟨kvs, ⟨h :: hs, r, x, d, t⟩, kd.pk (PK.of_ex x)⟩
theorem Sat.dctI (S : Sat H (cell p (.dK kvs) :: Rs)) (k : KD H kvs kds) : Sat H (dct p kds :: Rs) :=
  S.impP (fun h h' e r => e _ _ r) fun h e pk r => ⟨kvs, r, k.pk pk⟩
theorem Sat.at_ (S : Sat H Rs) [f : Foc cell a o Rs T F] : H a = some o := (f.out S).get
theorem Sat.dat (S : Sat H Rs) [f : Foc dct a kds Rs T F] : ∃ kvs, H a = some (.dK kvs) ∧ KD H kvs kds := by
  obtain ⟨kvs, S, k⟩ := (f.out S).dctE
  exact ⟨kvs, S.get, k⟩
/-- a dict changed -/
theorem Sat.dset (S : Sat H Rs) [f : Foc dct a kds Rs T F] {kvs' : List (Key × V)} {kds' : KDs} (k : KD H kvs' kds') : PK H (upd H a (.dK kvs')) ∧ Sat (upd H a (.dK kvs')) (F (dct a kds')) := by
  obtain ⟨kvs, S, _⟩ := (f.out S).dctE
  have n : ¬ Per (.dK kvs) := id
  have pk := S.pkset (o' := .dK kvs') n
  exact ⟨pk, f.back ((S.set (o' := .dK kvs') n).dctI (k.pk pk))⟩
theorem Sat.dnew (S : Sat H Rs) (hp : H p = none) (k : KD H kvs kds) : PK H (upd H p (.dK kvs)) ∧ Sat (upd H p (.dK kvs)) (dct p kds :: Rs) :=
  ⟨PK.of_ex (Ex.new hp), (S.new hp).dctI (k.pk (PK.of_ex (Ex.new hp)))⟩
/-- a cell changed, by its place -/
theorem Sat.cset (S : Sat H Rs) [f : Foc cell a o Rs T F] (n : ¬ Per o) {o' : HO} : PK H (upd H a o') ∧ Sat (upd H a o') (F (cell a o')) :=
  ⟨(f.out S).pkset n, f.back ((f.out S).set n)⟩
end
/-! ### steps over parts -/
class Lk (g : Str) (fs : List (Str × V)) (v : outParam V) : Prop where
  h : fs.lookup g = some v
class Nk (m : Str) (fs : List (Str × V)) : Prop where
  h : fs.lookup m = none
class Pt (g : Str) (y : V) (fs : List (Str × V)) (fs' : outParam (List (Str × V))) : Prop where
  h : putF g y fs = fs'
  l : fs.length < 1000
/-- an instance of C whose fields do not hide m -/
class HasIns (C : Addr) (m : Str) (a : Addr) (H : Hp) : Prop where
  h : ∃ dx fs, H a = some (.ins C dx fs) ∧ fs.lookup m = none
instance hasIns_cell {C a dx : Addr} {m : Str} {H : Hp} {fs : List (Str × V)} {Rs T : List Res} {F : Res → List Res} [S : Sat H Rs] [f : Foc cell a (.ins C dx fs) Rs T F] [n : Nk m fs] : HasIns C m a H := ⟨dx, fs, S.at_, n.h⟩
def fldQ (C : Addr) (g : Str) (Q : VK) : VK := fun x H1 => ∃ a dx fs v, x = .ref a ∧ H1 a = some (.ins C dx fs) ∧ fs.lookup g = some v ∧ Q v H1
def sfQ1 (C : Addr) (ta : TE) (g : Str) (D : Ends) (σ : L2.St) : VK := fun y H1 => ta σ H1 fun x H2 => ∃ a dx fs, x = .ref a ∧ H2 a = some (.ins C dx fs) ∧ fs.length < 1000 ∧ D.nx σ (upd H2 a (.ins C dx (putF g y fs)))
def sfQ2 (C : Addr) (g : Str) (D : Ends) (σ : L2.St) (y : V) : VK := fun x H2 => ∃ a dx fs, x = .ref a ∧ H2 a = some (.ins C dx fs) ∧ fs.length < 1000 ∧ D.nx σ (upd H2 a (.ins C dx (putF g y fs)))
def methQ (C : Addr) (m : Str) (sp : Sp) (E : XK) (t : TA) (σ : L2.St) (Q : VK) : VK := fun x H1 => ∃ a dx fs, x = .ref a ∧ H1 a = some (.ins C dx fs) ∧ fs.lookup m = none ∧ t σ H1 fun vs H2 => sp (x :: (vs ++ [])) H2 Q E
def methQ2 (sp : Sp) (E : XK) (Q : VK) (x : V) : List V → Hp → Prop := fun vs H2 => sp (x :: (vs ++ [])) H2 Q E
def methSQ (C : Addr) (m : Str) (sp : Sp) (ES : L2.St → XK) (t : TA) (σ : L2.St) (Q : VK) : VK := fun x H1 => ∃ a dx fs, x = .ref a ∧ H1 a = some (.ins C dx fs) ∧ fs.lookup m = none ∧ t σ H1 fun vs H2 => sp (x :: vs) H2 Q (ES σ)
def methSQ2 (sp : Sp) (ES : L2.St → XK) (σ : L2.St) (Q : VK) (x : V) : List V → Hp → Prop := fun vs H2 => sp (x :: vs) H2 Q (ES σ)
def initQ (Q : VK) (x : Addr) : VK := fun v H2 => v = .non ∧ Q (.ref x) H2
def makeQ (C : Addr) (sp : Sp) (E : XK) (Q : VK) : List V → Hp → Prop := fun vs H1 => ∀ x dx, H1 x = none → H1 dx = none → dx ≠ x → sp (.ref x :: (vs ++ [])) (upd (upd H1 dx (.own x)) x (.ins C dx [])) (fun v H2 => v = .non ∧ Q (.ref x) H2) E
def rDictD : List V → Hp → VK → Prop := fun xs H Q => ∃ (a : Addr) (kvs : List (Key × V)), xs = [.ref a] ∧ Rd H a (.dK kvs) ∧ ∀ p, H p = none → Q (.ref p) (upd H p (.dK kvs))
def rLenD : List V → Hp → VK → Prop := fun xs H Q => ∃ a kvs, xs = [V.ref a] ∧ H a = some (.dK kvs) ∧ Q (.int kvs.length) H
theorem g_dictD {X : Cx} : CallR X (.type "dict") rDictD := call_dictD
theorem g_lenD {X : Cx} : CallR X (.builtin "len") rLenD := call_lenD
def dgQ1 (ty : TE) (σ : L2.St) (Q : VK) : VK := fun x H1 => ty σ H1 fun y H2 => ∃ a v, x = .ref a ∧ DGet H2 a y (some v) ∧ Q v H2
def dgQ2 (x : V) (Q : VK) : VK := fun y H2 => ∃ a v, x = .ref a ∧ DGet H2 a y (some v) ∧ Q v H2
def diQ1 (td : TE) (σ : L2.St) (Q : VK) : VK := fun y H1 => td σ H1 fun x H2 => ∃ a o, x = .ref a ∧ DGet H2 a y o ∧ Q (.bl o.isSome) H2
def diQ2 (y : V) (Q : VK) : VK := fun x H2 => ∃ a o, x = .ref a ∧ DGet H2 a y o ∧ Q (.bl o.isSome) H2
def dnQ1 (td : TE) (σ : L2.St) (Q : VK) : VK := fun y H1 => td σ H1 fun x H2 => ∃ a o, x = .ref a ∧ DGet H2 a y o ∧ Q (.bl (!o.isSome)) H2
def dnQ2 (y : V) (Q : VK) : VK := fun x H2 => ∃ a o, x = .ref a ∧ DGet H2 a y o ∧ Q (.bl (!o.isSome)) H2
def dpQ1 (td ty : TE) (D : Ends) (σ : L2.St) : VK := fun v H1 => td σ H1 fun x H2 => ty σ H2 fun y H3 => ∃ a H4, x = .ref a ∧ DPut H3 a y v H4 ∧ D.nx σ H4
def dpQ2 (ty : TE) (D : Ends) (σ : L2.St) (v : V) : VK := fun x H2 => ty σ H2 fun y H3 => ∃ a H4, x = .ref a ∧ DPut H3 a y v H4 ∧ D.nx σ H4
def dpQ3 (D : Ends) (σ : L2.St) (v x : V) : VK := fun y H3 => ∃ a H4, x = .ref a ∧ DPut H3 a y v H4 ∧ D.nx σ H4
def poQ1 (ty : TE) (σ : L2.St) (Q : VK) : VK := fun x H1 => ∃ a, x = .ref a ∧ IsD H1 a ∧ ty σ H1 fun y H2 => ∃ kvs k v, H2 a = some (.dK kvs) ∧ y = kV k ∧ valV kvs k = some v ∧ Q v (upd H2 a (.dK (dropK kvs k)))
def poQ2 (a : Addr) (Q : VK) : VK := fun y H2 => ∃ kvs k v, H2 a = some (.dK kvs) ∧ y = kV k ∧ valV kvs k = some v ∧ Q v (upd H2 a (.dK (dropK kvs k)))
/-- the key of a value -/
class KeyOf (y : V) (k : outParam Key) : Prop where
  h : y = kV k
instance keyOf_i {i : Int} : KeyOf (.int i) (.inl i) := ⟨rfl⟩
instance keyOf_s {z : Str} : KeyOf (.str z) (.inr z) := ⟨rfl⟩
section
variable {K : PySem.W.Frag} {H : Hp} {σ σ' : L2.St} {Rs T : List Res} {F : Res → List Res} {p a C dx : Addr} {kds : KDs} {k : Key} {x y v : V} {d : PyData} {Q : VK} {R : Prop} {fs fs' : List (Str × V)} {g m : Str} {ta tv td ty : TE} {t : TA} {sp : Sp} {E : XK} {ES : L2.St → XK}
  {f : L2.St → Hp → Prop} {rt : VK} {bk ct : L2.St → Hp → Prop} {vs xs : List V} {QA : List V → Hp → Prop} {D : Ends}
instance r_fld [n : Run (ta σ H (fldQ C g Q)) R] : Run (tFldC C ta g σ H Q) R := ⟨fun h => n.go h⟩
instance r_fldQ [S : Sat H Rs] [fo : Foc cell a (.ins C dx fs) Rs T F] [l : Lk g fs v] [n : Run (Q v H) R] : Run (fldQ C g Q (.ref a) H) R := ⟨fun h => ⟨a, dx, fs, v, rfl, S.at_, l.h, n.go h⟩⟩
instance r_sf [n : Run (tv σ H (sfQ1 C ta g D σ)) R] : Run (sFldC C ta tv g D σ H) R := ⟨fun h => n.go h⟩
instance r_sf1 [n : Run (ta σ H (sfQ2 C g D σ y)) R] : Run (sfQ1 C ta g D σ y H) R := ⟨fun h => n.go h⟩
theorem x_sf [S : Sat H Rs] [fo : Foc cell a (.ins C dx fs) Rs T F] [pt : Pt g y fs fs'] (q : ∀ H', PK H H' → Sat H' (F (cell a (.ins C dx fs'))) → f σ H') : sfQ2 C g (Ends.mk f rt bk ct) σ y (.ref a) H := by
  refine ⟨a, dx, fs, rfl, S.at_, pt.l, ?_⟩
  rw [pt.h]
  exact q _ (S.cset id (o' := .ins C dx fs')).1 (S.cset id (o' := .ins C dx fs')).2
instance r_meth [n : Run (ta σ H (methQ C m sp E t σ Q)) R] : Run (tMeth C m sp [] E ta t σ H Q) R := ⟨fun h => n.go h⟩
instance r_methQ [i : HasIns C m a H] [n : Run (t σ H (methQ2 sp E Q (.ref a))) R] : Run (methQ C m sp E t σ Q (.ref a) H) R := ⟨fun h => by
  obtain ⟨dx, fs, e, l⟩ := i.h
  exact ⟨a, dx, fs, rfl, e, l, n.go h⟩⟩
instance r_methQ2 [n : Run (sp (x :: vs) H Q E) R] : Run (methQ2 sp E Q x vs H) R := ⟨fun h => by
  unfold methQ2
  rw [List.append_nil]
  exact n.go h⟩
instance r_methS [n : Run (ta σ H (methSQ C m sp ES t σ Q)) R] : Run (tMethS C m sp ES ta t σ H Q) R := ⟨fun h => n.go h⟩
instance r_methSQ [i : HasIns C m a H] [n : Run (t σ H (methSQ2 sp ES σ Q (.ref a))) R] : Run (methSQ C m sp ES t σ Q (.ref a) H) R := ⟨fun h => by
  obtain ⟨dx, fs, e, l⟩ := i.h
  exact ⟨a, dx, fs, rfl, e, l, n.go h⟩⟩
instance r_methSQ2 [n : Run (sp (x :: vs) H Q (ES σ)) R] : Run (methSQ2 sp ES σ Q x vs H) R := ⟨fun h => n.go h⟩
instance r_make [n : Run (t σ H (makeQ C sp E Q)) R] : Run (tMake C sp [] E t σ H Q) R := ⟨fun h => n.go h⟩
theorem x_make [S : Sat H Rs] (q : ∀ x dx H', PK H H' → Sat H' (cell x (.ins C dx []) :: Rs) → sp (.ref x :: vs) H' (initQ Q x) E) : makeQ C sp E Q vs H := by
  intro x dx hx hdx ne
  rw [List.append_nil]
  have e1 : Ex H (upd H dx (.own x)) := Ex.new hdx
  have h2 : upd H dx (.own x) x = none := by rw [upd_ne (Ne.symm ne)]; exact hx
  exact q x dx _ (PK.of_ex (e1.trans (Ex.new h2))) ((S.mono e1).new h2)
instance r_initQ [n : Run (Q (.ref a) H) R] : Run (initQ Q a .non H) R := ⟨fun h => ⟨rfl, n.go h⟩⟩
theorem x_lstS [S : Sat H Rs] (hz : xs.length ≤ sizeLine) (q : ∀ p H', PK H H' → Sat H' (cell p (.lst xs) :: Rs) → Q (.ref p) H') : lstQ Q xs H := ⟨hz, fun p hp => q p _ (PK.of_ex (Ex.new hp)) (S.new hp)⟩
theorem x_tupS [S : Sat H Rs] (hz : xs.length ≤ sizeLine) (q : ∀ p H', PK H H' → Sat H' Rs → H' p = some (.tup xs) → Q (.ref p) H') : tupQ Q xs H := ⟨hz, fun p hp => q p _ (PK.of_ex (Ex.new hp)) (S.mono (Ex.new hp)) upd_same⟩
theorem x_dnewS [S : Sat H Rs] (q : ∀ p H', PK H H' → Sat H' (dct p [] :: Rs) → Q (.ref p) H') : tDNewK σ H Q := fun p hp => q p _ (S.dnew hp .nil).1 (S.dnew hp .nil).2
theorem x_dictS [S : Sat H Rs] [fo : Foc dct a kds Rs T F] (q : ∀ p H', PK H H' → Sat H' (dct p kds :: Rs) → Q (.ref p) H') : rDictD [.ref a] H Q := by
  obtain ⟨kvs, h, kd⟩ := S.dat (a := a)
  exact ⟨a, kvs, rfl, .inl h, fun p hp => q p _ (S.dnew hp kd).1 (S.dnew hp kd).2⟩
instance r_lenD [S : Sat H Rs] [fo : Foc dct a kds Rs T F] [n : Run (Q (.int kds.length) H) R] : Run (rLenD [.ref a] H Q) R := ⟨fun h => by
  obtain ⟨kvs, e, kd⟩ := S.dat (a := a)
  exact ⟨a, kvs, rfl, e, by rw [kd.len]; exact n.go h⟩⟩
theorem x_listDS [S : Sat H Rs] [fo : Foc dct a kds Rs T F] (q : ∀ p H', PK H H' → Sat H' (cell p (.lst (kds.map fun kv => kV kv.1)) :: Rs) → Q (.ref p) H') : rListD [.ref a] H Q := by
  obtain ⟨kvs, h, kd⟩ := S.dat (a := a)
  refine ⟨a, kvs, rfl, h, fun p hp => ?_⟩
  rw [kd.keys]
  exact q p _ (PK.of_ex (Ex.new hp)) (S.new hp)
instance r_dg [n : Run (td σ H (dgQ1 ty σ Q)) R] : Run (tDGet td ty σ H Q) R := ⟨fun h => n.go h⟩
instance r_dg1 [n : Run (ty σ H (dgQ2 x Q)) R] : Run (dgQ1 ty σ Q x H) R := ⟨fun h => n.go h⟩
theorem x_dg [S : Sat H Rs] [fo : Foc dct a kds Rs T F] [ko : KeyOf y k] (h : valD kds k = some d) (q : ∀ v, Tp H v d → Q v H) : dgQ2 (.ref a) Q y H := by
  obtain ⟨kvs, e, kd⟩ := S.dat (a := a)
  obtain ⟨v, ev, tp⟩ := kd.sm h
  refine ⟨a, v, rfl, ?_, q v tp⟩
  rw [ko.h, ← ev]
  exact DGet.k e
instance r_di [n : Run (ty σ H (diQ1 td σ Q)) R] : Run (tDIn ty td σ H Q) R := ⟨fun h => n.go h⟩
instance r_di1 [n : Run (td σ H (diQ2 y Q)) R] : Run (diQ1 td σ Q y H) R := ⟨fun h => n.go h⟩
instance r_di2 [S : Sat H Rs] [fo : Foc dct a kds Rs T F] [ko : KeyOf y k] [n : Run (Q (.bl (hasD kds k)) H) R] : Run (diQ2 y Q (.ref a) H) R := ⟨fun h => by
  obtain ⟨kvs, e, kd⟩ := S.dat (a := a)
  refine ⟨a, valV kvs k, rfl, by rw [ko.h]; exact DGet.k e, ?_⟩
  rw [kd.has]
  exact n.go h⟩
instance r_dn [n : Run (ty σ H (dnQ1 td σ Q)) R] : Run (tDNotIn ty td σ H Q) R := ⟨fun h => n.go h⟩
instance r_dn1 [n : Run (td σ H (dnQ2 y Q)) R] : Run (dnQ1 td σ Q y H) R := ⟨fun h => n.go h⟩
instance r_dn2 [S : Sat H Rs] [fo : Foc dct a kds Rs T F] [ko : KeyOf y k] [n : Run (Q (.bl (!hasD kds k)) H) R] : Run (dnQ2 y Q (.ref a) H) R := ⟨fun h => by
  obtain ⟨kvs, e, kd⟩ := S.dat (a := a)
  refine ⟨a, valV kvs k, rfl, by rw [ko.h]; exact DGet.k e, ?_⟩
  rw [kd.has]
  exact n.go h⟩
instance r_dp [n : Run (tv σ H (dpQ1 td ty D σ)) R] : Run (sDPut td ty tv D σ H) R := ⟨fun h => n.go h⟩
instance r_dp1 [n : Run (td σ H (dpQ2 ty D σ v)) R] : Run (dpQ1 td ty D σ v H) R := ⟨fun h => n.go h⟩
instance r_dp2 [n : Run (ty σ H (dpQ3 D σ v x)) R] : Run (dpQ2 ty D σ v x H) R := ⟨fun h => n.go h⟩
theorem x_dp [S : Sat H Rs] [fo : Foc dct a kds Rs T F] [ko : KeyOf y k] (hz : kds.length < sizeLine) (tp : Tp H v d) (q : ∀ H', PK H H' → Sat H' (F (dct a (putD kds k d))) → f σ H') : dpQ3 (Ends.mk f rt bk ct) σ v (.ref a) y H := by
  obtain ⟨kvs, e, kd⟩ := S.dat (a := a)
  refine ⟨a, _, rfl, by rw [ko.h]; exact DPut.k e (by rw [kd.len]; exact hz), q _ (S.dset (kd.put tp)).1 (S.dset (kd.put tp)).2⟩
instance r_po [n : Run (td σ H (poQ1 ty σ Q)) R] : Run (tDPop1 td ty σ H Q) R := ⟨fun h => n.go h⟩
instance r_po1 [S : Sat H Rs] [fo : Foc dct a kds Rs T F] [n : Run (ty σ H (poQ2 a Q)) R] : Run (poQ1 ty σ Q (.ref a) H) R := ⟨fun h => by
  obtain ⟨kvs, e, kd⟩ := S.dat (a := a)
  exact ⟨a, rfl, .inl ⟨kvs, .inl e⟩, n.go h⟩⟩
theorem x_po [S : Sat H Rs] [fo : Foc dct a kds Rs T F] [ko : KeyOf y k] (h : valD kds k = some d) (q : ∀ v H', Tp H v d → PK H H' → Sat H' (F (dct a (dropD kds k))) → Q v H') : poQ2 a Q y H := by
  obtain ⟨kvs, e, kd⟩ := S.dat (a := a)
  obtain ⟨v, ev, tp⟩ := kd.sm h
  exact ⟨kvs, k, v, e, ko.h, ev, q v _ tp (S.dset kd.drop).1 (S.dset kd.drop).2⟩
theorem x_appendS [S : Sat H Rs] [fo : Foc cell p (.lst xs) Rs T F] (hz : xs.length < sizeLine) (q : ∀ H', PK H H' → Sat H' (F (cell p (.lst (xs ++ [y])))) → Q .non H') : rAppend (.ref p) [y] H Q :=
  x_append S.at_ hz (q _ (S.cset id (o' := .lst (xs ++ [y]))).1 (S.cset id (o' := .lst (xs ++ [y]))).2)
theorem x_setS {i : Int} {P : Hp → Prop} [S : Sat H Rs] [fo : Foc cell p (.lst xs) Rs T F] (h0 : 0 ≤ i) (ha : (xs[i.toNat]?).isSome = true) (q : ∀ H', PK H H' → Sat H' (F (cell p (.lst (xs.set i.toNat v)))) → P H') : rSetL (.ref p) (.int i) v H P :=
  x_setLn S.at_ h0 ha (q _ (S.cset id (o' := .lst (xs.set i.toNat v))).1 (S.cset id (o' := .lst (xs.set i.toNat v))).2)
/-- a dict locked while it is walked -/
def lkN (a : Addr) (od : Obj) (u : HO) (f : L2.St → Hp → Prop) : L2.St → Hp → Prop := fun σ' H' => H' a = some (.frz od u) ∧ f σ' (upd H' a u)
def lkV (a : Addr) (od : Obj) (u : HO) (f : VK) : VK := fun v H' => H' a = some (.frz od u) ∧ f v (upd H' a u)
theorem lock_sat [S : Sat H Rs] [fo : Foc dct a kds Rs T F] (od : Obj) {kvs : List (Key × V)} (e : H a = some (.dK kvs)) : PK H (upd H a (.frz od (.dK kvs))) ∧ Sat (upd H a (.frz od (.dK kvs))) (F (cell a (.frz od (.dK kvs)))) := by
  obtain ⟨kvs2, S2, _⟩ := (fo.out S).dctE
  have e2 : kvs2 = kvs := by
    have := S2.get
    rw [e] at this
    cases this
    rfl
  subst e2
  exact ⟨S2.pkset id, fo.back (S2.set id)⟩
theorem x_lock {t : TS} (a : Addr) [S : Sat H Rs] [fo : Foc dct a kds Rs T F] (q : ∀ od kvs H', PK H H' → KD H' kvs kds → Sat H' (F (cell a (.frz od (.dK kvs)))) → t (Ends.mk (lkN a od (.dK kvs) f) (lkV a od (.dK kvs) rt) (lkN a od (.dK kvs) bk) (lkN a od (.dK kvs) ct)) σ H') : tLock t (Ends.mk f rt bk ct) σ H := by
  obtain ⟨kvs, e, kd⟩ := S.dat (a := a)
  exact ⟨a, .dK kvs, e, trivial, fun od => q od kvs _ (lock_sat od e).1 (kd.pk (lock_sat od e).1) (lock_sat od e).2⟩
theorem x_lockE {t : TE} (a : Addr) [S : Sat H Rs] [fo : Foc dct a kds Rs T F] (q : ∀ od kvs H', PK H H' → KD H' kvs kds → Sat H' (F (cell a (.frz od (.dK kvs)))) → t σ H' (lkV a od (.dK kvs) Q)) : tLockE t σ H Q := by
  obtain ⟨kvs, e, kd⟩ := S.dat (a := a)
  exact ⟨a, .dK kvs, e, trivial, fun od => q od kvs _ (lock_sat od e).1 (kd.pk (lock_sat od e).1) (lock_sat od e).2⟩
theorem unlock_sat {od : Obj} {kvs : List (Key × V)} [S : Sat H Rs] [fo : Foc cell a (.frz od (.dK kvs)) Rs T F] (kd : KD H kvs kds) : PK H (upd H a (.dK kvs)) ∧ Sat (upd H a (.dK kvs)) (F (dct a kds)) := by
  have S2 := fo.out S
  have pk := S2.pkset (o' := .dK kvs) id
  exact ⟨pk, fo.back ((S2.set (o' := .dK kvs) id).dctI (kd.pk pk))⟩
theorem x_unlock {od : Obj} {kvs : List (Key × V)} [S : Sat H Rs] [fo : Foc cell a (.frz od (.dK kvs)) Rs T F] (kd : KD H kvs kds) (q : ∀ H', PK H H' → Sat H' (F (dct a kds)) → f σ H') : lkN a od (.dK kvs) f σ H :=
  ⟨S.at_, q _ (unlock_sat kd).1 (unlock_sat kd).2⟩
theorem x_unlockV {od : Obj} {kvs : List (Key × V)} [S : Sat H Rs] [fo : Foc cell a (.frz od (.dK kvs)) Rs T F] (kd : KD H kvs kds) (q : ∀ H', PK H H' → Sat H' (F (dct a kds)) → Q v H') : lkV a od (.dK kvs) Q v H :=
  ⟨S.at_, q _ (unlock_sat kd).1 (unlock_sat kd).2⟩
def ikQ (S : It → Hp → Prop) : VK := fun x H1 => ∃ d o, x = .ref d ∧ ((∃ kvs, H1 d = some (.frz o (.dK kvs)) ∧ S (Itk d o kvs) H1) ∨ ∃ kvs, H1 d = some (.frz o (.dT kvs)) ∧ S (Itkt d o kvs) H1)
instance r_ik {W : It → Hp → Prop} [n : Run (td σ H (ikQ W)) R] : Run (iKeys td σ H W) R := ⟨fun h => n.go h⟩
instance r_ikQ {W : It → Hp → Prop} {od : Obj} {kvs : List (Key × V)} [S : Sat H Rs] [fo : Foc cell a (.frz od (.dK kvs)) Rs T F] [n : Run (W (Itk a od kvs) H) R] : Run (ikQ W (.ref a) H) R := ⟨fun h => ⟨a, od, rfl, .inl ⟨kvs, S.at_, n.go h⟩⟩⟩
end
theorem sat_at {H : Hp} {Rs T : List Res} {F : Res → List Res} {a : Addr} {o : HO} [S : Sat H Rs] [f : Foc cell a o Rs T F] : H a = some o := S.at_
/-- a method's contract that can't be asked -/
theorem Mf.none {P : Program} {w : World} {K : PySem.W.Frag} {mg : Str → Option Value} {base : Heap} {C m qual : Str} {st : Stmt} {ps : List Str} {k : Nat} {sp : Sp} (F : Mf K C m qual st) (hb : BindOk m qual st ps) (no : ∀ vs H Q E, ¬ sp vs H Q E) : DnM P w K mg base CX0 k (He.ma K (He.ga K C) m) ps sp := by
  obtain ⟨fd, F⟩ := F.ex
  exact ⟨fd, ⟨fun vs H Q E h => absurd h (no vs H Q E), fun A outer s H args us vs Q E _ _ _ _ h => absurd h (no vs H Q E)⟩, F.binds hb⟩
/-- the parts of a heap in another order, some left out -/
theorem pick {H : Hp} {Rs Ss : List Res} [S : Sat H Rs] [s : SubC Ss Rs] : Sat H Ss := S.pick
section
variable {K : PySem.W.Frag} {H : Hp} {σ : L2.St} {Rs T : List Res} {F : Res → List Res} {p : Addr} {xs : List V} {Q : VK} {R : Prop} {t : TA} {r : V → List V → Hp → VK → Prop} {W : It → Hp → Prop}
instance r_bmLS [S : Sat H Rs] [f : Foc cell p (.lst xs) Rs T F] [n : Run (t σ H (bmQ2 r (.ref p) Q)) R] : Run (bmQ K "list" r t σ Q (.ref p) H) R := ⟨fun h => x_bmL (SqL.of S.at_) (n.go h)⟩
instance r_bm0LS [S : Sat H Rs] [f : Foc cell p (.lst xs) Rs T F] [n : Run (r (.ref p) [] H Q) R] : Run (bm0Q K "list" r Q (.ref p) H) R := ⟨fun h => x_bm0L (SqL.of S.at_) (n.go h)⟩
instance r_lenLS [S : Sat H Rs] [f : Foc cell p (.lst xs) Rs T F] [n : Run (Q (.int xs.length) H) R] : Run (rLen K [.ref p] H Q) R := ⟨fun h => x_lenL (SqL.of S.at_) (n.go h)⟩
instance r_iLQS [S : Sat H Rs] [f : Foc cell p (.lst xs) Rs T F] [n : Run (W (Itl K p) H) R] : Run (iLQ K W (.ref p) H) R := ⟨fun h => x_iLQ (SqL.of S.at_) (n.go h)⟩
end
def isQ (W : It → Hp → Prop) : VK := fun v H1 => ∃ x, v = .str x ∧ W (Its x) H1
section
variable {H : Hp} {σ : L2.St} {te : TE} {W : It → Hp → Prop} {R : Prop} {z : Str}
instance r_is [n : Run (te σ H (isQ W)) R] : Run (iStr te σ H W) R := ⟨fun h => n.go h⟩
instance r_isQ [n : Run (W (Its z) H) R] : Run (isQ W (.str z) H) R := ⟨fun h => ⟨z, rfl, n.go h⟩⟩
end
theorem x_popS {H : Hp} {Rs T : List Res} {F : Res → List Res} {p : Addr} {ws : List V} {v : V} {Q : VK} [S : Sat H Rs] [f : Foc cell p (.lst (ws ++ [v])) Rs T F] (q : ∀ H', PK H H' → Sat H' (F (cell p (.lst ws))) → Q v H') : rPop (.ref p) [] H Q :=
  ⟨p, ws ++ [v], v, rfl, rfl, S.at_, by simp, by
    rw [List.dropLast_concat]
    exact q _ (S.cset id (o' := .lst ws)).1 (S.cset id (o' := .lst ws)).2⟩
section
variable {H : Hp} {σ : L2.St} {Rs T : List Res} {F : Res → List Res} {a : Addr} {kvs : List (Key × V)} {k : Key} {y v : V} {Q : VK} {od : Obj} {f : L2.St → Hp → Prop} {rt : VK} {bk ct : L2.St → Hp → Prop}
theorem x_dgC [S : Sat H Rs] [fo : Foc cell a (.dK kvs) Rs T F] [ko : KeyOf y k] (h : valV kvs k = some v) (q : Q v H) : dgQ2 (.ref a) Q y H :=
  ⟨a, v, rfl, by rw [ko.h, ← h]; exact DGet.k S.at_, q⟩
theorem x_dgF [S : Sat H Rs] [fo : Foc cell a (.frz od (.dK kvs)) Rs T F] [ko : KeyOf y k] (h : valV kvs k = some v) (q : Q v H) : dgQ2 (.ref a) Q y H :=
  ⟨a, v, rfl, by rw [ko.h, ← h]; exact .inl ⟨kvs, k, .inr ⟨od, S.at_⟩, rfl, rfl⟩, q⟩
theorem x_dpC [S : Sat H Rs] [fo : Foc cell a (.dK kvs) Rs T F] [ko : KeyOf y k] (hz : kvs.length < sizeLine) (q : ∀ H', PK H H' → Sat H' (F (cell a (.dK (putK kvs k v)))) → f σ H') : dpQ3 (Ends.mk f rt bk ct) σ v (.ref a) y H :=
  ⟨a, _, rfl, by rw [ko.h]; exact DPut.k S.at_ hz, q _ (S.cset id (o' := .dK (putK kvs k v))).1 (S.cset id (o' := .dK (putK kvs k v))).2⟩
end
theorem dropD_id {kds : KDs} {k : Key} (h : hasD kds k = false) : dropD kds k = kds := by
  unfold dropD hasD at *
  refine List.filter_eq_self.mpr fun kv hkv => ?_
  have := List.any_eq_false.mp h kv hkv
  simpa using this
theorem hasD_val {kds : KDs} {k : Key} (h : hasD kds k = true) : ∃ d, valD kds k = some d := by
  unfold hasD at h
  obtain ⟨kv, h1, h2⟩ := List.any_eq_true.mp h
  unfold valD
  cases e : kds.find? (fun kv => decide (kv.1 = k)) with
  | none => exact absurd h2 (by simpa using List.find?_eq_none.mp e kv h1)
  | some u => exact ⟨u.2, rfl⟩
theorem x_eltS {H : Hp} {Rs T : List Res} {F : Res → List Res} {D : Addr} {Nx : Hp → Prop} {acc : List V} {y : V} [S : Sat H Rs] [fo : Foc cell D (.lst acc) Rs T F] (hz : acc.length < sizeLine) (q : ∀ H', PK H H' → Sat H' (F (cell D (.lst (acc ++ [y])))) → Nx H') : eltQ D Nx y H :=
  x_elt S.at_ hz (q _ (S.cset id (o' := .lst (acc ++ [y]))).1 (S.cset id (o' := .lst (acc ++ [y]))).2)
theorem valV_nodup : ∀ {kvs : List (Key × V)} {i : Nat} {k : Key} {v : V}, (kvs.map (·.1)).Nodup → kvs[i]? = some (k, v) → valV kvs k = some v
  | [], _, _, _, _, h => by simp at h
  | (j, u) :: r, 0, k, v, _, h => by
    cases h
    exact valV_pos (p := (j, u)) rfl
  | (j, u) :: r, i + 1, k, v, nd, h => by
    rw [List.map_cons, List.nodup_cons] at nd
    have hm : k ∈ r.map (·.1) := List.mem_map.mpr ⟨(k, v), List.mem_of_getElem? (i := i) h, rfl⟩
    have hj : j ≠ k := fun e => nd.1 (by rw [show (j, u).1 = k from e]; exact hm)
    rw [valV_neg (p := (j, u)) hj]
    exact valV_nodup (i := i) nd.2 h
/-! ### range with a step -/
def ir3Q (S : It → Hp → Prop) : List V → Hp → Prop := fun vs H1 => ∃ (i j c : Int) (n : Nat), vs = [.int i, .int j, .int c] ∧ RgC i j c n ∧ S (Itc i c n) H1
instance r_ir3 {σ : L2.St} {H : Hp} {ta : TA} {S : It → Hp → Prop} {R : Prop} [n : Run (ta σ H (ir3Q S)) R] : Run (iRng3 ta σ H S) R := ⟨fun h => n.go h⟩
theorem x_ir3 {i j : Int} {H : Hp} {S : It → Hp → Prop} (ha : -(2 ^ 62) ≤ i) (ha' : i < 2 ^ 62) (hb : -(2 ^ 62) ≤ j) (hb' : j < 2 ^ 62) (k : S (Itc i (-1) (i - j).toNat) H) : ir3Q S [.int i, .int j, .int (-1)] H :=
  ⟨i, j, -1, _, rfl, .neg ha ha' hb hb', k⟩
/-! ### join -/
def rJoin (K : PySem.W.Frag) : V → List V → Hp → VK → Prop := fun x xs H Q => ∃ a p, ∃ ys : List Str, x = .str a ∧ xs = [.ref p] ∧ (SqL K H p (ys.map V.str) ∨ SqT K H p (ys.map V.str)) ∧
  (ys.map (·.length)).sum + ys.length * a.length ≤ 16777216 ∧ Q (.str (Txt.join a ys)) H
theorem pe_joinN {X : Cx} {o e : Expr} {to te : TE} {apos pos : Pos} (ho : PE X o to) (he : PE X e te) (hs : starEach [e] X.env = [(false, eval e X.env)] := by rfl) (hbase : attributeBase o "join" X.env (eval o X.env) = eval o X.env := by rfl) (hline : (apos.endLine == pos.line) = true := by rfl) :
    PE X (.Call (.Attribute o "join" apos) [e] [] pos) (tM1 (rJoin X.K) to te) := pe_join ho he hs hbase hline
def m1Q1 (r : V → List V → Hp → VK → Prop) (te : TE) (σ : L2.St) (Q : VK) : VK := fun x H1 => (∃ a, x = .str a) ∧ te σ H1 fun y H2 => r x [y] H2 Q
def m1Q2 (r : V → List V → Hp → VK → Prop) (x : V) (Q : VK) : VK := fun y H2 => r x [y] H2 Q
section
variable {K : PySem.W.Frag} {H : Hp} {σ : L2.St} {to te : TE} {r : V → List V → Hp → VK → Prop} {z : Str} {x y : V} {Q : VK} {R : Prop} {p : Addr} {ys : List Str}
instance r_m1 [n : Run (to σ H (m1Q1 r te σ Q)) R] : Run (tM1 r to te σ H Q) R := ⟨fun h => n.go h⟩
instance r_m1Q1 [n : Run (te σ H (m1Q2 r (.str z) Q)) R] : Run (m1Q1 r te σ Q (.str z) H) R := ⟨fun h => ⟨⟨z, rfl⟩, n.go h⟩⟩
instance r_m1Q2 [n : Run (r x [y] H Q) R] : Run (m1Q2 r x Q y H) R := ⟨fun h => n.go h⟩
theorem x_joinL (h : SqL K H p (ys.map V.str)) (hz : (ys.map (·.length)).sum + ys.length * z.length ≤ 16777216) (q : Q (.str (Txt.join z ys)) H) : rJoin K (.str z) [.ref p] H Q := ⟨z, p, ys, rfl, rfl, .inl h, hz, q⟩
end
end G

set_option Elab.async false
set_option linter.all false
set_option maxRecDepth 100000
set_option maxHeartbeats 4000000
set_option synthInstance.maxHeartbeats 0
set_option synthInstance.maxSize 100000
/-! Exceptions of the program's own classes as values: made, kept, asked of which class, read. -/
namespace G
open PySem PySem.Spec PyProof.Rows L2 Evl RZ
/-- at a: an exception of the class at C; its dict, if it has one, stands by itself -/
def XV (H : Hp) (a C : Addr) (fs : List (Str × V)) : Prop := (fs = [] ∧ H a = some (exo a C none)) ∨ ∃ dx, H a = some (exo a C (some dx)) ∧ H dx = some (exd dx fs)
theorem XV.ex {H H' : Hp} {a C : Addr} {fs : List (Str × V)} (e : Ex H H') (x : XV H a C fs) : XV H' a C fs := by
  rcases x with ⟨h1, h2⟩ | ⟨dx, h1, h2⟩
  · exact .inl ⟨h1, e _ _ h2⟩
  · exact .inr ⟨dx, e _ _ h1, e _ _ h2⟩
theorem XV.inst {P : Program} {w : World} {H : Hp} {h : Heap} {a C : Addr} {fs : List (Str × V)} (ok : HOk P w H h) (x : XV H a C fs) : ∃ (oe : Obj) (od : Option Obj), PySem.W.InstAt h a oe C od ∧ ((∃ o, od = some o ∧ ∃ mA, h.Ns1 (oe.dict.getD 0) mA ∧ (∀ f, RelO (fs.lookup f) (mA f)) ∧ ∀ name, PySem.W.lookIn name o = some (mA name)) ∨ od = none ∧ fs = []) := by
  rcases x with ⟨h1, h2⟩ | ⟨dx, h1, h2⟩
  · obtain ⟨t1, e⟩ := exo_at ok h2
    exact ⟨_, none, ⟨e, rfl, rfl, trivial⟩, .inr ⟨rfl, h1⟩⟩
  · obtain ⟨t1, e⟩ := exo_at ok h1
    obtain ⟨mA, hns, rel⟩ := exd_at ok h2
    obtain ⟨od, ho, hl⟩ := lookIn_ns hns
    exact ⟨_, some od, ⟨e, rfl, rfl, ho⟩, .inl ⟨od, rfl, mA, hns, rel, hl⟩⟩
/-! ### isinstance -/
theorem _root_.L2.ExcC.hc {K : PySem.W.Frag} {D : Addr} (C : ExcC K D) : (PySem.W.clsIn K D).isSome = true := by
  have h := C.hd
  obtain ⟨cd, hc, _⟩ := PySem.W.any_some h
  rw [hc]
  rfl
def rIsV (K : PySem.W.Frag) : List V → Hp → VK → Prop := fun xs H Q => ∃ (a C : Addr) (fs : List (Str × V)) (c : V) (cv : Value) (b : Bool), xs = [.ref a, c] ∧ XV H a C fs ∧ ExcC K C ∧ (∀ u, RelV c u → u = cv) ∧ PySem.W.kitOne K (.ref C) cv = some b ∧ Q (.bl b) H
theorem call_isV {X : Cx} : CallR X (.builtin "isinstance") (rIsV X.K) := by
  intro pins s σ H xs us Q I r h
  obtain ⟨a, C, fs, c, cv, b, rfl, x, F, hcv, e, q⟩ := h
  cases r with
  | cons rx rr =>
    cases rr with
    | cons rt rr =>
      cases rr
      cases rx
      have ec := hcv _ rt
      subst ec
      obtain ⟨oe, od, J, _⟩ := x.inst I.hok
      exact PySem.W.kia_one (PySem.W.kitx_exc F.hc F.hg F.hk F.hs F.ha F.hn F.ht F.hm) I.kIn J e (fun z => nomatch z) fun tk => ⟨.bl b, H, I.kept (t' := tk) fun _ _ z => z, rfl, q⟩
theorem x_isVr {K : PySem.W.Frag} {a C D : Addr} {fs : List (Str × V)} {b : Bool} {H : Hp} {Q : VK} (x : XV H a C fs) (F : ExcC K C) (k : PySem.W.kitOne K (.ref C) (.ref D) = some b) (q : Q (.bl b) H) : rIsV K [.ref a, .ref D] H Q :=
  ⟨a, C, fs, .ref D, .ref D, b, rfl, x, F, fun u h => h, k, q⟩
theorem x_isVt {K : PySem.W.Frag} {a C : Addr} {T : String} {fs : List (Str × V)} {b : Bool} {H : Hp} {Q : VK} (x : XV H a C fs) (F : ExcC K C) (k : PySem.W.kitOne K (.ref C) (.type T) = some b) (q : Q (.bl b) H) : rIsV K [.ref a, .ty T] H Q :=
  ⟨a, C, fs, .ty T, .type T, b, rfl, x, F, fun u h => h, k, q⟩
/-! ### x.f -/
def tExcF (K : PySem.W.Frag) (f : Str) (ta : TE) : TE := fun σ H Q => ta σ H fun x H1 => ∃ (a C : Addr) (fs : List (Str × V)) (v : V), x = .ref a ∧ XV H1 a C fs ∧ ExcC K C ∧ PySem.W.findIn K (.ref C) f = some none ∧ fs.lookup f = some v ∧ Q v H1
theorem pe_excF {X : Cx} {e : Expr} {te : TE} {f : Str} {pos : Pos} (he : PE X e te) (hb : attributeBase e f X.env (eval e X.env) = eval e X.env := by rfl) : PE X (.Attribute e f pos) (tExcF X.K f te) := by
  refine ⟨fun pins s σ H Q I h => ?_⟩
  refine attr_of hb (thn (he.run pins s σ H _ I h) fun u s1 hh => ?_)
  obtain ⟨x, H1, I1, rx, a, C, fs, v, rfl, xv, F, no, l, q⟩ := hh
  obtain rfl : u = Value.ref a := rx
  obtain ⟨oe, od, J, z⟩ := xv.inst I1.hok
  rcases z with ⟨o, rfl, mA, hns, hr, hl⟩ | ⟨_, rfl⟩
  · obtain ⟨w, hu, ru⟩ := RelO.some_of (v := v) (o := mA f) (by rw [← l]; exact hr f)
    exact HandSPX.exc_get I1.kIn J F.hg F.hk F.hs (PySem.W.findObj_own F.hd no rfl (by rw [hl, hu])) (handed_of ru) ⟨v, H1, I1.tok _, ru, q⟩
  · cases l
/-! ### X(e): a class without an own __init__ -/
def tExcV (C : Addr) (ta : TE) : TE := fun σ H Q => ta σ H fun _ H1 => ∀ a, H1 a = none → Q (.ref a) (upd H1 a (exo a C none))
theorem pe_excV {X : Cx} {C : Addr} {bmB : List Value} {B newId initId : String} {x : Str} {e : Expr} {ta : TE} {p pos : Pos} (F : ExcBaseFacts B newId initId bmB) (q : PySem.W.excIn X.K C bmB newId = true) (gC : X.mg x = some (.ref C)) (kC : PySem.W.keepIn X.K (.ref C) = true) (he : PE X e ta) (hg : Gl X x := by rfl)
    (hs : starEach [e] X.env = (false, eval e X.env) :: starEach [] X.env := by rfl) (hdb : (x == ("__debug__" : Str)) = false := by decide) :
    PE X (.Call (.Name x p) [e] [] pos) (tExcV C ta) := by
  refine ⟨fun pins s σ H Q I h => ?_⟩
  refine wpAny_Call_Name_kw (ld_glob I hg gC ?_ hdb)
  refine PySem.W.callWith_K (h₀ := X.base) I.ok.mod.kin kC ?_ hs (by rfl)
  rw [hs]
  show wpAny _ _ (spliced ((false, eval e X.env) :: backTo pos (starEach [] X.env))) _ _ s
  refine Calls.spliced_cons (thn (he.run pins s σ H _ I h) fun u s1 ⟨v, H1, I1, r1, q1⟩ => ?_)
  refine Calls.spliced_nil ⟨I1.kIn, ?_⟩
  show wpAny _ _ (call (.ref C) [u]) _ _ _
  obtain ⟨bm, N, nm, qn, bs, hdct, sn, sub, ab, col, dd, k0, k1, k2, k3, k5, mN, hC, hN, hni, T⟩ := exc_obj I1.kIn q
  refine wpAny_call_exc_subT F T hC hN hni (fun h' a hm => ?_) (by show 1 ≤ sizeLine; rw [sizeLine_eq]; omega)
  have hn : H1 a = none := I1.hok.gone hm.new
  obtain ⟨t, ht, _, _⟩ := hm.there
  exact ⟨.ref a, upd H1 a (exo a C none), I1.laidN hm.keeps hm.new hn (exo_ok ht), rfl, q1 a hn⟩
/-! ### X(e, ..): a class with an own __init__ -/
def tExcI (C : Addr) (sp : Sp) (ta : TA) : TE := fun σ H Q => ta σ H fun vs H1 => vs.length ≤ 1000 ∧ ∀ a, H1 a = none → sp (.ref a :: (vs ++ [])) (upd H1 a (exo a C none)) (fun v H2 => v = .non ∧ Q (.ref a) H2) (fun _ _ _ => False)
structure OexX (K : PySem.W.Frag) (C fI : Addr) : Prop extends OexC K C where
  ini : PySem.W.findIn K (.ref C) "__init__" = some (some (.ref fI))
  tyI : PySem.W.typeIn K (.ref fI) = some (.type "function")
theorem pe_excI {X : Cx} {x : Str} {C fI : Addr} {k : Nat} {ps : List Str} {sp : Sp} {e : Expr} {es : List Expr} {ta : TA} {p pos : Pos} (T : OexX X.K C fI) (D : DnM X.prog X.w X.K X.mg X.base CX0 k fI ps sp) (hr : Room (k + 1) X.A) (hx : Passes CX0 X (fun _ _ _ => False)) (hm : X.mg x = some (.ref C)) (ha : PA X (e :: es) ta) (hg : Gl X x := by rfl)
    (hdb : (x == ("__debug__" : Str)) = false := by decide) (he : starEach (e :: es) X.env = (false, eval e X.env) :: starEach es X.env := by rfl) (hpl : (backTo pos (starEach es X.env)).any (·.1) = false := by rfl) :
    PE X (.Call (.Name x p) (e :: es) [] pos) (tExcI C sp ta) := by
  refine ⟨fun pins s σ H Q I h => ?_⟩
  obtain ⟨fd, F1, hb⟩ := D.ex
  obtain ⟨nm, q, N, bs, bm, sn, sub, ab, col, dd, k0, k1, k2, k3, k5, hC, hbm⟩ := T.cls
  refine wpAny_Call_Name_kw (ld_glob I hg hm ?_ hdb)
  refine PySem.W.callWith_K (h₀ := X.base) I.ok.mod.kin T.kC (thn (ha.run pos pins s σ H _ I h) fun us s1 ⟨vs, H1, I1, r1, hz, q1⟩ => ⟨I1.kIn, ?_⟩) he hpl
  show wpAny _ _ (call (.ref C) us) _ _ _
  obtain ⟨hp, g, dr, tk, os⟩ := s1
  have hsz : hp.objs.size ≤ hp.objs.size + 1 := Nat.le_succ _
  have hn : H1 (hp.objs.size + 1) = none := I1.hok.fresh hsz
  have hq := q1 (hp.objs.size + 1) hn
  have kk : ∀ b o, hp.get? b = some o → ((hp.push (PySem.W.kdv_tup us)).push (PySem.HandSPX.excO C hp.objs.size)).get? b = some o := fun b o e => Heap.get?_push_of_some _ (Heap.get?_push_of_some _ e)
  have hget : ((hp.push (PySem.W.kdv_tup us)).push (PySem.HandSPX.excO C hp.objs.size)).get? (hp.objs.size + 1) = some (PySem.HandSPX.excO C hp.objs.size) := by heap_get
  have I2 : Inv X pins σ (upd H1 (hp.objs.size + 1) (exo (hp.objs.size + 1) C none)) ⟨(hp.push (PySem.W.kdv_tup us)).push (PySem.HandSPX.excO C hp.objs.size), g, dr, tk, os⟩ :=
    I1.laid (t' := tk) (a := hp.objs.size + 1) (o := exo (hp.objs.size + 1) C none) (h' := (hp.push (PySem.W.kdv_tup us)).push (PySem.HandSPX.excO C hp.objs.size)) kk hsz (exo_ok hget)
  have r2 : Vals (V.ref (hp.objs.size + 1) :: (vs ++ [])) (Value.ref (hp.objs.size + 1) :: (us ++ [])) := .cons rfl (r1.append .nil)
  have hl : (Value.ref (hp.objs.size + 1) :: us ++ []).length = ps.length := by
    have e := r2.length
    rw [F1.len _ _ _ _ hq] at e
    exact e.symm
  have hus : us.length ≤ sizeLine := by
    rw [← Paired.length r1, sizeLine_eq]
    omega
  refine wpAny_call (PySem.HandSPX.call_own F.excBase_ValueError (fun Y => PySem.HandSPX.refsVE_contains Y bm hbm) (I1.kIn _ _ hC) (PySem.W.looks_findIn I1.kIn T.ini) (fun self => PySem.W.bind_fn I1.kIn self T.tyI) hus
    (codeAny_mono (F1.run _ X.stack _ _ ⟨Value.ref (hp.objs.size + 1) :: us, []⟩ (Value.ref (hp.objs.size + 1) :: (us ++ [])) _ _ (fun _ _ _ => False) (hr.make C us []) (I2.env0.make C us []) (by have z := hb _ (Value.ref (hp.objs.size + 1) :: us) I2.kIn hl; rw [List.cons_append] at z; exact z) r2 hq) fun r s' hq' => ?_))
  cases r with
  | error er => exact hx pins σ _ _ er s' I2 hq'
  | ok fl =>
    cases fl with
    | ret u =>
      obtain ⟨v, H2, I3, rv, ev, q3⟩ := I2.after hq'
      subst ev
      exact ⟨rv, ⟨V.ref (hp.objs.size + 1), H2, I3, rfl, q3⟩⟩
    | next => exact False.elim hq'
    | brk => exact False.elim hq'
    | cont => exact False.elim hq'
/-- what is asked of the written part for such a class -/
def oexB (x : Str) (K : PySem.W.Frag) : Bool := (match K.lookup (He.ga K x) with
  | some ⟨.type "type", _, .cls cd, sl⟩ => (match cd.mro, sl.toList with
    | .ref C' :: bm, [_, _, _, _, some (.builtin n), _] => C' == He.ga K x && n == "ValueError.__new__" && !cd.hasDel && cd.hasDict && PySem.HandSPX.refsVE bm
    | _, _ => false)
  | _ => false) &&
  (He.eqO (PySem.W.findIn K (.ref (He.ga K x)) "__setattr__") (some (some (.builtin "object.__setattr__"))) && (decide (PySem.W.subIn K (.ref (He.ga K x)) (.type "BaseException") = some true) && (decide (PySem.W.typeIn K (.ref (He.ga K x)) = some (.type "type")) && (PySem.W.keepIn K (.ref (He.ga K x)) &&
  (He.eqO (PySem.W.findIn K (.ref (He.ga K x)) "__init__") (some (some (.ref (He.ma K (He.ga K x) "__init__")))) && decide (PySem.W.typeIn K (.ref (He.ma K (He.ga K x) "__init__")) = some (.type "function")))))))
theorem oexB_ok {x : Str} {K : PySem.W.Frag} (h : oexB x K = true) : OexX K (He.ga K x) (He.ma K (He.ga K x) "__init__") := by
  obtain ⟨a, h⟩ := He.ba h
  obtain ⟨b, h⟩ := He.ba h
  obtain ⟨c, h⟩ := He.ba h
  obtain ⟨d, h⟩ := He.ba h
  obtain ⟨e, h⟩ := He.ba h
  obtain ⟨f, h⟩ := He.ba h
  refine ⟨⟨?_, He.eqO_ok b, of_decide_eq_true c, of_decide_eq_true d, e⟩, He.eqO_ok f, of_decide_eq_true h⟩
  split at a
  · rename_i dd cd sl ho
    split at a
    · rename_i C' bm k0 k1 k2 k3 n k5 hm hs
      simp only [Bool.and_eq_true, beq_iff_eq, Bool.not_eq_true'] at a
      obtain ⟨⟨⟨⟨rfl, rfl⟩, hdel⟩, hdct⟩, hbm⟩ := a
      obtain ⟨nm, bs, mro, ns, qn, hd, sn, sub, ab, col, del⟩ := cd
      dsimp only at hm hdel hdct
      subst hm hdel hdct
      have hsl : sl = #[k0, k1, k2, k3, some (.builtin "ValueError.__new__"), k5] := by
        obtain ⟨l⟩ := sl
        simp only at hs
        rw [hs]
      subst hsl
      exact ⟨nm, qn, ns, bs, bm, sn, sub, ab, col, dd, k0, k1, k2, k3, k5, ho, hbm⟩
    · cases a
  · cases a
/-! ### a text so many times -/
def rRepS : R2 := fun x y H Q => ∃ (a : Str) (k : Int), x = .str a ∧ y = .int k ∧ 0 ≤ k ∧ k ≤ 1000 ∧ a.length ≤ 1000 ∧ ∀ z : Str, Q (.str z) H
theorem rep_size (arr : Array Nat) : ∀ (m : Nat) (acc : Array Nat), ((List.replicate m arr).foldl (· ++ ·) acc).size = acc.size + m * arr.size
  | 0, acc => by simp
  | m + 1, acc => by
    rw [List.replicate_succ, List.foldl_cons, rep_size arr m, Array.size_append, Nat.add_mul, Nat.one_mul]
    omega
theorem op_mulS {X : Cx} : OpR X (binaryOp .Mult) rRepS := by
  intro pins s σ H x y v u Q I rx ry h
  obtain ⟨a, k, rfl, rfl, h0, h1, h2, q⟩ := h
  obtain ⟨t, rfl⟩ := rx
  obtain ⟨t', rfl⟩ := ry
  have hm : a.length * k.toNat ≤ 1000 * 1000 := Nat.mul_le_mul h2 (by omega)
  refine P.mul_str (by rw [decide_eq_false (by omega), decide_eq_false (by omega)]; rfl) (fun c _ => ?_) (fun _ _ => ?_) ?_
  · have c2 : (2 ^ 63 - 1) / 1000 ≤ (2 ^ 63 - 1) / k := by
      refine (Int.le_ediv_iff_mul_le (by omega)).mpr ?_
      have : (2 ^ 63 - 1) / 1000 * k ≤ (2 ^ 63 - 1) / 1000 * 1000 := Int.mul_le_mul_of_nonneg_left h1 (by decide)
      omega
    omega
  · show decide (a.length * k.toNat > sizeLine) = false
    exact decide_eq_false (by rw [sizeLine_eq]; omega)
  · split
    · exact ⟨Nat.zero_le _, .str Str.empty, H, I.tok _, ⟨_, rfl⟩, q _⟩
    · split
      · exact ⟨.str a, H, I, ⟨t, rfl⟩, q _⟩
      · refine ⟨?_, .str _, H, I.tok _, ⟨_, rfl⟩, q _⟩
        show ((List.replicate k.toNat a.cps).foldl (· ++ ·) #[]).size ≤ sizeLine
        rw [rep_size, sizeLine_eq]
        have e : a.cps.size = a.length := rfl
        rw [e, Nat.mul_comm]
        show 0 + a.length * k.toNat ≤ _
        omega
/-! ### steps -/
def excQ (C : Addr) (Q : VK) : VK := fun _ H1 => ∀ a, H1 a = none → Q (.ref a) (upd H1 a (exo a C none))
def excIQ (C : Addr) (sp : Sp) (Q : VK) : List V → Hp → Prop := fun vs H1 => vs.length ≤ 1000 ∧ ∀ a, H1 a = none → sp (.ref a :: (vs ++ [])) (upd H1 a (exo a C none)) (fun v H2 => v = .non ∧ Q (.ref a) H2) (fun _ _ _ => False)
def exfQ (K : PySem.W.Frag) (f : Str) (Q : VK) : VK := fun x H1 => ∃ (a C : Addr) (fs : List (Str × V)) (v : V), x = .ref a ∧ XV H1 a C fs ∧ ExcC K C ∧ PySem.W.findIn K (.ref C) f = some none ∧ fs.lookup f = some v ∧ Q v H1
def spExcInit (C : Addr) (f : Str) : Sp := fun vs H Q _ => ∃ (a : Addr) (v : V), vs = [.ref a, v] ∧ H a = some (exo a C none) ∧ ∀ dx, H dx = none → dx ≠ a → Q .non (upd (upd H dx (exd dx [(f, v)])) a (exo a C (some dx)))
section
variable {K : PySem.W.Frag} {C a : Addr} {sp : Sp} {Q : VK} {R : Prop} {te : TE} {ta : TA} {σ : L2.St} {H : Hp} {f : Str} {v x : V} {fs : List (Str × V)}
instance r_excV [n : Run (te σ H (excQ C Q)) R] : Run (tExcV C te σ H Q) R := ⟨fun h => n.go h⟩
instance r_excI [n : Run (ta σ H (excIQ C sp Q)) R] : Run (tExcI C sp ta σ H Q) R := ⟨fun h => n.go h⟩
instance r_excF [n : Run (te σ H (exfQ K f Q)) R] : Run (tExcF K f te σ H Q) R := ⟨fun h => n.go h⟩
theorem x_excV (q : ∀ a H', Ex H H' → XV H' a C [] → Q (.ref a) H') : excQ C Q x H := fun a ha => q a _ (Ex.new ha) (.inl ⟨rfl, upd_same⟩)
theorem x_excI (q : ∀ a H', Ex H H' → XV H' a C [(f, v)] → Q (.ref a) H') : excIQ C (spExcInit C f) Q [v] H :=
  ⟨Nat.le_of_ble_eq_true rfl, fun a ha => ⟨a, v, rfl, upd_same, fun dx hd hne => ⟨rfl, q a _ (fun b o e => by
    have nb : b ≠ a := fun z => by rw [z, ha] at e; cases e
    rw [upd_ne nb]
    have nd : b ≠ dx := fun z => by rw [← z, upd_ne nb, e] at hd; cases hd
    rw [upd_ne nd, upd_ne nb]
    exact e) (.inr ⟨dx, upd_same, by rw [upd_ne hne]; exact upd_same⟩)⟩⟩⟩
theorem x_exF (xv : XV H a C fs) (F : ExcC K C) (no : PySem.W.findIn K (.ref C) f = some none) (l : fs.lookup f = some v) (q : Q v H) : exfQ K f Q (.ref a) H := ⟨a, C, fs, v, rfl, xv, F, no, l, q⟩
theorem x_lstE {xs : List V} (hz : xs.length ≤ sizeLine) (q : ∀ p H', Ex H H' → H' p = some (.lst xs) → Q (.ref p) H') : lstQ Q xs H := ⟨hz, fun p hp => q p _ (Ex.new hp) upd_same⟩
theorem x_catE {p q : Addr} {xs ys : List V} (h : H p = some (.lst xs)) (h2 : H q = some (.lst ys)) (hz : xs.length + ys.length ≤ sizeLine) (k : ∀ l H', Ex H H' → H' l = some (.lst (xs ++ ys)) → Q (.ref l) H') : rCat (.ref p) (.ref q) H Q :=
  x_cat h h2 hz fun l hl => k l _ (Ex.new hl) upd_same
end
/-- exceptions one by one, of the classes named -/
inductive XVs (K : PySem.W.Frag) (H : Hp) : List Addr → List Str → Prop
  | nil : XVs K H [] []
  | cons {a : Addr} {x : Str} {as : List Addr} {xs : List Str} (fs : List (Str × V)) : XV H a (He.ga K x) fs → XVs K H as xs → XVs K H (a :: as) (x :: xs)
theorem XVs.ex {K : PySem.W.Frag} {H H' : Hp} (e : Ex H H') {as : List Addr} {xs : List Str} (h : XVs K H as xs) : XVs K H' as xs := by
  induction h with
  | nil => exact .nil
  | cons fs x _ ih => exact .cons fs (x.ex e) ih
theorem XVs.get {K : PySem.W.Frag} {H : Hp} {as : List Addr} {xs : List Str} (h : XVs K H as xs) : ∀ {i : Nat} {x : Str}, xs[i]? = some x → ∃ a fs, as[i]? = some a ∧ XV H a (He.ga K x) fs := by
  induction h with
  | nil => intro i x e; cases i <;> simp at e
  | cons fs xv _ ih =>
    intro i x e
    match i, e with
    | 0, e => cases e; exact ⟨_, fs, rfl, xv⟩
    | i + 1, e => exact ih (i := i) (by simpa using e)
theorem XVs.app {K : PySem.W.Frag} {H : Hp} {as bs : List Addr} {xs ys : List Str} (h : XVs K H as xs) (h2 : XVs K H bs ys) : XVs K H (as ++ bs) (xs ++ ys) := by
  induction h with
  | nil => exact h2
  | cons fs x _ ih => exact .cons fs x ih
end G

set_option Elab.async false
set_option linter.all false
set_option maxRecDepth 100000
set_option maxHeartbeats 0
set_option synthInstance.maxHeartbeats 0
set_option synthInstance.maxSize 100000
namespace Law
open PySem PySem.Spec PyProof.Rows L2 Evl RZ G
def top (i : Nat) : Stmt := PySem.Challenge.pw_cartelship_k50_refusals_apart.main.body.getD i (.Pass ⟨0, 0, 0, 0⟩)
def xcls : List Str := ["BadName", "Taken", "Full", "NoSide", "NoMan", "BadRank", "Own", "BadTariff", "BadLimit", "BadDay", "NoCartel", "NoMen", "Twice", "Gone", "Held", "NotHeld", "OffRoll", "Uneven", "NoPart", "NoDeed", "NoStep", "Breaks", "BadRow"]
/-- isinstance tells the classes apart -/
def kisB (K : PySem.W.Frag) : Bool := xcls.all fun x => xcls.all fun y => decide (PySem.W.kitOne K (.ref (He.ga K x)) (.ref (He.ga K y)) = some (x == y))
def kitB1 (K : PySem.W.Frag) : Bool := xcls.all fun x => excCB x K && (decide (PySem.W.kitOne K (.ref (He.ga K x)) (.ref (He.ga K "CartelError")) = some true) && decide (PySem.W.kitOne K (.ref (He.ga K x)) (.type "ValueError") = some true))
structure Kis (K : PySem.W.Frag) : Prop where
  ec : ∀ x ∈ xcls, ExcC K (He.ga K x)
  kc : ∀ x ∈ xcls, PySem.W.kitOne K (.ref (He.ga K x)) (.ref (He.ga K "CartelError")) = some true
  kv : ∀ x ∈ xcls, PySem.W.kitOne K (.ref (He.ga K x)) (.type "ValueError") = some true
theorem kis_ok {K : PySem.W.Frag} (h : kisB K = true) : ∀ x ∈ xcls, ∀ y ∈ xcls, PySem.W.kitOne K (.ref (He.ga K x)) (.ref (He.ga K y)) = some (x == y) := fun x hx y hy =>
  of_decide_eq_true (List.all_eq_true.mp (List.all_eq_true.mp h x hx) y hy)
theorem kit1_ok {K : PySem.W.Frag} (h : kitB1 K = true) : Kis K := by
  have g : ∀ x ∈ xcls, _ := fun x hx => List.all_eq_true.mp h x hx
  exact ⟨fun x hx => excCB_ok (He.ba (g x hx)).1, fun x hx => of_decide_eq_true (He.ba (He.ba (g x hx)).2).1, fun x hx => of_decide_eq_true (He.ba (He.ba (g x hx)).2).2⟩
structure Txt (K : PySem.W.Frag) (mg : Str → Option Value) : Prop where
  m_ValueError : mg "ValueError" = none
  m_all : mg "all" = none
  m_bool : mg "bool" = none
  m_int : mg "int" = none
  m_isinstance : mg "isinstance" = none
  m_len : mg "len" = none
  m_list : mg "list" = none
  m_max : mg "max" = none
  m_min : mg "min" = none
  m_range : mg "range" = none
  m_str : mg "str" = none
  m_tuple : mg "tuple" = none
  m_zip : mg "zip" = none
  x_BadDay : Xc K mg "BadDay"
  x_BadLimit : Xc K mg "BadLimit"
  x_BadName : Xc K mg "BadName"
  x_BadRank : Xc K mg "BadRank"
  x_BadTariff : Xc K mg "BadTariff"
  x_CartelError : Xc K mg "CartelError"
  x_Full : Xc K mg "Full"
  x_Gone : Xc K mg "Gone"
  x_Held : Xc K mg "Held"
  x_NoCartel : Xc K mg "NoCartel"
  x_NoDeed : Xc K mg "NoDeed"
  x_NoMan : Xc K mg "NoMan"
  x_NoMen : Xc K mg "NoMen"
  x_NoPart : Xc K mg "NoPart"
  x_NoSide : Xc K mg "NoSide"
  x_NoStep : Xc K mg "NoStep"
  x_NotHeld : Xc K mg "NotHeld"
  x_OffRoll : Xc K mg "OffRoll"
  x_Own : Xc K mg "Own"
  x_Taken : Xc K mg "Taken"
  x_Twice : Xc K mg "Twice"
  x_Uneven : Xc K mg "Uneven"
  g_BadRow : mg "BadRow" = some (.ref (He.ga K "BadRow"))
  ox_BadRow : OexX K (He.ga K "BadRow") (He.ma K (He.ga K "BadRow") "__init__")
  g_Breaks : mg "Breaks" = some (.ref (He.ga K "Breaks"))
  ox_Breaks : OexX K (He.ga K "Breaks") (He.ma K (He.ga K "Breaks") "__init__")
  kis : ∀ x ∈ xcls, ∀ y ∈ xcls, PySem.W.kitOne K (.ref (He.ga K x)) (.ref (He.ga K y)) = some (x == y)
  kit1 : Kis K
  no_number : PySem.W.findIn K (.ref (He.ga K "Breaks")) "number" = some none
  no_at : PySem.W.findIn K (.ref (He.ga K "BadRow")) "at" = some none


/-! ### what stands in the heap -/
local macro_rules | `(tactic| walk_at "hp0") => `(tactic| (first
  | with_reducible assumption
  | with_reducible exact upd_same))
local macro_rules | `(tactic| walk_at "ne") => `(tactic| (first
  | with_reducible assumption
  | with_reducible exact Ne.symm (by with_reducible assumption)
  | ((with_reducible refine ne_fresh (o := ?o) (by with_reducible assumption) ?_); walk_at "hp0")
  | ((with_reducible refine Ne.symm (ne_fresh (o := ?o) (by with_reducible assumption) ?_)); walk_at "hp0")
  | walk_at "neb"))
local macro_rules | `(tactic| walk_at "hp") => `(tactic| (first
  | with_reducible assumption
  | with_reducible exact upd_same
  | ((with_reducible refine Eq.trans (upd_ne ?hne) ?_); (case hne => walk_at "ne"); walk_at "hp")
  | ((with_reducible refine KB.get (by with_reducible assumption) ?hne ?_); (case hne => walk_at "ne"); walk_at "hp")
  | ((with_reducible refine ex_get (by with_reducible assumption) ?_); walk_at "hp")))
local macro_rules | `(tactic| walk_at "sq") => `(tactic| (first
  | with_reducible assumption
  | ((with_reducible refine SqL.of ?_); walk_at "hp")
  | ((with_reducible refine SqT.of ?_); walk_at "hp")
  | ((with_reducible refine ex_l (Ex.new (by with_reducible assumption)) ?_); walk_at "sq")
  | ((with_reducible refine ex_t (Ex.new (by with_reducible assumption)) ?_); walk_at "sq")
  | ((with_reducible refine sqL_upd ?hne ?_); (case hne => walk_at "ne"); walk_at "sq")
  | ((with_reducible refine sqT_upd ?hne ?_); (case hne => walk_at "ne"); walk_at "sq")
  | ((with_reducible refine KB.sqL (by with_reducible assumption) ?_ ?hne); (case hne => walk_at "ne"); walk_at "sq")
  | ((with_reducible refine KB.sqT (by with_reducible assumption) ?_ ?hne); (case hne => walk_at "ne"); walk_at "sq")
  | ((with_reducible refine ex_l (by with_reducible assumption) ?_); walk_at "sq")
  | ((with_reducible refine ex_t (by with_reducible assumption) ?_); walk_at "sq")))
/-! ### grown heaps -/
local macro_rules | `(tactic| walk_at "ex") => `(tactic| (first
  | with_reducible assumption
  | with_reducible exact Ex.refl _
  | ((with_reducible refine Ex.trans ?_ (Ex.new (by with_reducible assumption))); walk_at "ex")
  | ((with_reducible refine Ex.mut ?_ (by with_reducible assumption)); walk_at "ex")
  | ((with_reducible refine Ex.trans ?_ (by with_reducible assumption)); walk_at "ex")))
local macro_rules | `(tactic| walk_at "kb") => `(tactic| (first
  | with_reducible assumption
  | with_reducible exact KB.refl
  | ((with_reducible refine KB.trans ?_ KB.upd); walk_at "kb")
  | ((with_reducible refine KB.trans ?_ (KB.new (by with_reducible assumption))); walk_at "kb")
  | ((with_reducible refine KB.mut ?_ (by with_reducible assumption)); walk_at "kb")
  | ((with_reducible refine KB.trans ?_ (by with_reducible assumption)); walk_at "kb")
  | ((with_reducible refine KB.trans ?_ (KB.of_ex (by with_reducible assumption))); walk_at "kb")))
/-! ### the steps, one after another -/
local macro_rules | `(tactic| walk_at "s1") => `(tactic| (first
  | ((with_reducible refine x_mod ?hc ?_); (case hc => omega))
  | ((with_reducible refine x_pow ?hc ?_); (case hc => (show _ ∧ _ ∧ _; decide)))
  | ((with_reducible refine x_div ?hc ?hd ?_); (case hc => omega); (case hd => omega))
  | ((with_reducible refine x_mul ?h1 ?h2 ?h3 ?h4 ?_); (case h1 => omega); (case h2 => omega); (case h3 => omega); (case h4 => omega))
  | ((with_reducible refine x_lstQ ?hz ?_); (case hz => exact Nat.le_of_ble_eq_true rfl))
  | ((with_reducible refine x_tupQ ?hz ?_); (case hz => exact Nat.le_of_ble_eq_true rfl))
  | ((with_reducible refine x_ixLn (xs := ?xs) (v := ?v) ?hs ?h0 ?ha ?_); (case h0 => decide); (case hs => walk_at "sq"); (case ha => exact rfl))
  | ((with_reducible refine x_ixTn (xs := ?xs) (v := ?v) ?hs ?h0 ?ha ?_); (case h0 => decide); (case hs => walk_at "sq"); (case ha => exact rfl))
  | ((with_reducible refine x_lenL (xs := ?xs) ?hs ?_); (case hs => walk_at "sq"))
  | ((with_reducible refine x_lenT (xs := ?xs) ?hs ?_); (case hs => walk_at "sq"))
  | ((with_reducible refine x_setLn (xs := ?xs) ?hs ?h0 ?ha ?_); (case h0 => decide); (case hs => walk_at "hp"); (case ha => exact rfl))
  | ((with_reducible refine x_listL (xs := ?xs) ?hs ?_); (case hs => walk_at "sq"))
  | ((with_reducible refine x_bmL (xs := ?xs) ?hs ?_); (case hs => walk_at "sq"))
  | ((with_reducible refine x_bm0L (xs := ?xs) ?hs ?_); (case hs => walk_at "sq"))
  | ((with_reducible refine x_gTup (xs := ?xs) ?hs ?hn ?_); (case hs => walk_at "sq"); (case hn => exact rfl))
  | ((with_reducible refine x_asgT (xs := ?xs) ?hs ?hn ?_); (case hs => walk_at "sq"); (case hn => exact rfl))
  | ((with_reducible refine x_lcTg ?hw ?_); (case hw => exact rfl))))
local macro_rules | `(tactic| walk_at "sx") => `(tactic| ((refine run ?_); (repeat (walk_at "s1"; (refine run ?_)))))

/-! ### _law_whole -/
abbrev s__law_whole : Stmt := top 26
abbrev N__law_whole : List Str := ["_law_found"]
theorem sc__law_whole : FnScope N__law_whole ["_law_found"] (defScope s__law_whole) := ⟨rfl, rfl, rfl, by decide +kernel, rfl, by decide +kernel, by decide +kernel⟩

def isIntD : PyData → Bool
  | .int _ => true
  | _ => false
def spWhole (K : PySem.W.Frag) : Sp := fun vs H Q _ => ∃ (x : V) (d : PyData), vs = [x] ∧ Dp K H x d ∧ Q (.bl (isIntD d)) H
theorem kit_n {K : PySem.W.Frag} {a T : String} {b : Bool} (h : kitB a T = some b) : PySem.W.kitOne K (.type a) (.type T) = some b := kit_ty h
section
variable {P : Program} {w : World} {K : PySem.W.Frag} {mg : Str → Option Value} {base : Heap}
theorem D_whole (T : Txt K mg) (F : Df K mg "_law_whole" s__law_whole) : Dn P w K mg base CX0 1 "_law_whole" ["_law_found"] (spWhole K) := by
  refine F.dn sc__law_whole (fun _ _ _ _ _ _ us hl => match us, hl with | [_], _ => rfl) (fun vs H Q E h => ?_) (fun f cdv A outer s H vs Q E hr hK h => ?_)
  · obtain ⟨x, d, rfl, _⟩ := h
    rfl
  · obtain ⟨x, d, rfl, hx, k⟩ := h
    refine ⟨_, (pss_one (ps_ret (pe_and (pe_callB call_isi rfl T.m_isinstance boot_isinstance (pa_cons (pv 0) (pa_cons (pe_bltn rfl T.m_int (v := .ty "int") boot_int rfl) pa_nil))) (pe_one (pe_not (pe_callB call_isi rfl T.m_isinstance boot_isinstance (pa_cons (pv 0) (pa_cons (pe_bltn rfl T.m_bool (v := .ty "bool") boot_bool rfl) pa_nil)))))))), ?_⟩
    try rw [hK]
    rw [show L2.start N__law_whole [x] = [some (x)] from rfl]
    have ty := ty_dp hx
    have two : ∀ b1 b2 : Bool, kitB (kindD d) "int" = some b1 → kitB (kindD d) "bool" = some b2 → Q (.bl (if b1 = true then !b2 else false)) H → tRet (tAndV (tCB (rIsi K) (tCons (tVar 0) (tCons (tC (V.ty "int")) tNil))) (tNotV (tCB (rIsi K) (tCons (tVar 0) (tCons (tC (V.ty "bool")) tNil))))) { nx := fun _ H' => Q .non H', rt := Q } [some x] H := fun b1 b2 h1 h2 q => by
      walk_at "sx"
      refine x_isi ty (kit_n h1) ?_
      refine x_andVQ (fun c => ?_) (fun c => ?_)
      · subst c
        walk_at "sx"
        refine x_isi ty (kit_n h2) ?_
        walk_at "sx"
        exact q
      · subst c
        exact q
    cases d with
    | none => exact two false false (show kitB "NoneType" "int" = some false by decide +kernel) (show kitB "NoneType" "bool" = some false by decide +kernel) k
    | bool b => exact two true true (show kitB "bool" "int" = some true by decide +kernel) (show kitB "bool" "bool" = some true by decide +kernel) k
    | int i => exact two true false (show kitB "int" "int" = some true by decide +kernel) (show kitB "int" "bool" = some false by decide +kernel) k
    | str z => exact two false false (show kitB "str" "int" = some false by decide +kernel) (show kitB "str" "bool" = some false by decide +kernel) k
    | list ds => exact two false false (show kitB "list" "int" = some false by decide +kernel) (show kitB "list" "bool" = some false by decide +kernel) k
    | tuple ds => exact two false false (show kitB "tuple" "int" = some false by decide +kernel) (show kitB "tuple" "bool" = some false by decide +kernel) k
    | dict ds => cases hx
end

/-! ### _law_alike -/
abbrev s__law_alike : Stmt := top 27
abbrev N__law_alike : List Str := ["_law_found", "_law_due", "_law_one", "_law_other"]
theorem sc__law_alike : FnScope N__law_alike ["_law_found", "_law_due"] (defScope s__law_alike) := ⟨rfl, rfl, rfl, by decide +kernel, rfl, by decide +kernel, by decide +kernel⟩

/-- both are the same data, of a depth below n: True -/
def spAlike (K : PySem.W.Frag) (n : Nat) : Sp := fun vs H Q _ => ∃ (x y : V) (d : PyData), vs = [x, y] ∧ Dp K H x d ∧ Dp K H y d ∧ OkD n d ∧ n ≤ 60 ∧ ∀ H', Ex H H' → Q (.bl true) H'
section
variable {P : Program} {w : World} {K : PySem.W.Frag} {mg : Str → Option Value} {base : Heap}
theorem D_alike (T : Txt K mg) (D__law_whole : Dn P w K mg base CX0 1 "_law_whole" ["_law_found"] (spWhole K)) (F : Df K mg "_law_alike" s__law_alike) :
    ∀ n : Nat, Dn P w K mg base CX0 (n + 2) "_law_alike" ["_law_found", "_law_due"] (spAlike K n)
  | 0 => F.none (fun _ _ _ _ _ _ us hl => match us, hl with | [_, _], _ => rfl) fun vs H Q E h => by
    obtain ⟨x, y, d, _, _, _, h, _⟩ := h
    cases h
  | n + 1 => by
    have D__law_alike := D_alike T D__law_whole F n
    refine F.dn sc__law_alike (fun _ _ _ _ _ _ us hl => match us, hl with | [_, _], _ => rfl) (fun vs H Q E h => ?_) (fun f cdv A outer s H vs Q E hr hK h => ?_)
    · obtain ⟨x, y, d, rfl, _⟩ := h
      rfl
    · obtain ⟨x, y, d, rfl, hx, hy, ho, hn, k⟩ := h
      have hs := ho.shaped (by omega)
      have k0 : Q (.bl true) H := k H (Ex.refl H)
      refine ⟨_, (pss_cons (ps_if (pt_cmpR g_isN (pv 1) pe_non (nomark _)) (pss_one (ps_ret (pe_cmpR g_isN (pv 0) pe_non (nomark _)))) pss_nil)
      (pss_cons (ps_if (pt_val (pe_callB call_isi rfl T.m_isinstance boot_isinstance (pa_cons (pv 1) (pa_cons (pe_bltn rfl T.m_bool (v := .ty "bool") boot_bool rfl) pa_nil)))) (pss_one (ps_ret (pe_and (pe_callB call_isi rfl T.m_isinstance boot_isinstance (pa_cons (pv 0) (pa_cons (pe_bltn rfl T.m_bool (v := .ty "bool") boot_bool rfl) pa_nil))) (pe_one (pe_cmpR (op_eqD hr.units) (pv 0) (pv 1) (nomark _)))))) pss_nil)
      (pss_cons (ps_if (pt_val (pe_callB call_isi rfl T.m_isinstance boot_isinstance (pa_cons (pv 1) (pa_cons (pe_bltn rfl T.m_int (v := .ty "int") boot_int rfl) pa_nil)))) (pss_one (ps_ret (pe_and (pe_dn D__law_whole (hr.mono (by first | decide | omega)) pass0 (pa_cons (pv 0) pa_nil)) (pe_one (pe_cmpR (op_eqD hr.units) (pv 0) (pv 1) (nomark _)))))) pss_nil)
      (pss_cons (ps_if (pt_val (pe_callB call_isi rfl T.m_isinstance boot_isinstance (pa_cons (pv 1) (pa_cons (pe_bltn rfl T.m_str (v := .ty "str") boot_str rfl) pa_nil)))) (pss_one (ps_ret (pe_and (pe_callB call_isi rfl T.m_isinstance boot_isinstance (pa_cons (pv 0) (pa_cons (pe_bltn rfl T.m_str (v := .ty "str") boot_str rfl) pa_nil))) (pe_one (pe_cmpR (op_eqD hr.units) (pv 0) (pv 1) (nomark _)))))) pss_nil)
      (pss_cons (ps_if (PW.pt (pw_or (pt_cmpR op_ne (pe_callB call_isi rfl T.m_isinstance boot_isinstance (pa_cons (pv 1) (pa_cons (pe_bltn rfl T.m_list (v := .ty "list") boot_list rfl) pa_nil))) (pe_callB call_isi rfl T.m_isinstance boot_isinstance (pa_cons (pv 0) (pa_cons (pe_bltn rfl T.m_list (v := .ty "list") boot_list rfl) pa_nil))) (nomark _)) (pw_or1 (pt_cmpR op_ne (pe_callB call_isi rfl T.m_isinstance boot_isinstance (pa_cons (pv 1) (pa_cons (pe_bltn rfl T.m_tuple (v := .ty "tuple") boot_tuple rfl) pa_nil))) (pe_callB call_isi rfl T.m_isinstance boot_isinstance (pa_cons (pv 0) (pa_cons (pe_bltn rfl T.m_tuple (v := .ty "tuple") boot_tuple rfl) pa_nil))) (nomark _))))) (pss_one (ps_ret pe_bl)) pss_nil)
      (pss_one (ps_ret (pe_and (pe_cmpR op_eq (pe_callB g_len rfl T.m_len boot_len (pa_cons (pv 0) pa_nil)) (pe_callB g_len rfl T.m_len boot_len (pa_cons (pv 1) pa_nil)) (nomark _)) (pe_one (pe_callB (cr_all rfl) rfl T.m_all boot_all (pa_cons (pe_lc (own := [("_law_one", 2), ("_law_other", 3)]) (g := gTup K 2 (gCons (gName 2) (gCons (gName 3) (gNil)))) (tt := tYes) rfl sc__law_alike.nd (pi_zipA rfl T.m_zip (pa_cons (pv 0) (pa_cons (pv 1) pa_nil))) (blkOk_by (own := [("_law_one", 2), ("_law_other", 3)]) (N := N__law_alike) (sc := defScope s__law_alike) (by decide +kernel)) (fun _ _ _ _ _ => pg_tup rfl (pgs_cons (pg_name (i := 2) sc__law_alike.nd rfl (Or.inl rfl)) (pgs_cons (pg_name (i := 3) sc__law_alike.nd rfl (Or.inl rfl)) pgs_nil))) (fun _ _ _ _ _ => pts_nil) (fun _ _ _ _ _ => (pe_dn D__law_alike (hr.mono (by first | decide | omega)) pass0 (pa_cons (pv 2) (pa_cons (pv 3) pa_nil))))) pa_nil))))))))))), ?_⟩
      try rw [hK]
      rw [show L2.start N__law_alike [x, y] = [some (x), some (y), none, none] from rfl]
      have tx := ty_dp hx
      have ty := ty_dp hy
      walk_at "sx"
      cases d with
      | none =>
        cases hx; cases hy
        walk_at "sx"
        exact k0
      | bool b =>
        cases hx; cases hy
        have tx : TyX K H _ (.type "bool") := tx
        have ty : TyX K H _ (.type "bool") := ty
        walk_at "sx"
        refine x_isi ty (b := true) (kit_n (by decide +kernel)) ?_
        walk_at "sx"
        refine x_isi tx (b := true) (kit_n (by decide +kernel)) ?_
        walk_at "sx"
        exact x_eqSame (.bl b) (.bl b) hs k0
      | int i =>
        cases hx; cases hy
        have tx : TyX K H _ (.type "int") := tx
        have ty : TyX K H _ (.type "int") := ty
        walk_at "sx"
        refine x_isi ty (b := false) (kit_n (by decide +kernel)) ?_
        walk_at "sx"
        refine x_isi ty (b := true) (kit_n (by decide +kernel)) ?_
        walk_at "sx"
        refine ⟨_, .int i, rfl, .int i, ?_⟩
        refine x_andVT ?_
        walk_at "sx"
        exact x_eqSame (.int i) (.int i) hs k0
      | str z =>
        cases hx; cases hy
        have tx : TyX K H _ (.type "str") := tx
        have ty : TyX K H _ (.type "str") := ty
        walk_at "sx"
        refine x_isi ty (b := false) (kit_n (by decide +kernel)) ?_
        walk_at "sx"
        refine x_isi ty (b := false) (kit_n (by decide +kernel)) ?_
        walk_at "sx"
        refine x_isi ty (b := true) (kit_n (by decide +kernel)) ?_
        walk_at "sx"
        refine x_isi tx (b := true) (kit_n (by decide +kernel)) ?_
        walk_at "sx"
        exact x_eqSame (.str z) (.str z) hs k0
      | list ds =>
        have tx : TyX K H _ (.type "list") := tx
        have ty : TyX K H _ (.type "list") := ty
        cases hx with
        | lst sx ax =>
        cases hy with
        | lst sy ay =>
        have lx := dpAll_len ax
        have ly := dpAll_len ay
        obtain ⟨hlen, sh⟩ : ds.length ≤ 100000 ∧ ∀ d ∈ ds, OkD n d := by
          cases ho with
          | list h1 h2 => exact ⟨h1, h2⟩
        walk_at "sx"
        refine x_isi ty (b := false) (kit_n (by decide +kernel)) ?_
        walk_at "sx"
        refine x_isi ty (b := false) (kit_n (by decide +kernel)) ?_
        walk_at "sx"
        refine x_isi ty (b := false) (kit_n (by decide +kernel)) ?_
        walk_at "sx"
        refine x_isi ty (b := true) (kit_n (by decide +kernel)) ?_
        walk_at "sx"
        refine x_isi tx (b := true) (kit_n (by decide +kernel)) ?_
        walk_at "sx"
        refine x_isi ty (b := false) (kit_n (by decide +kernel)) ?_
        walk_at "sx"
        refine x_isi tx (b := false) (kit_n (by decide +kernel)) ?_
        walk_at "sx"
        refine x_andVD (fun _ => ?_) (fun c => absurd (by rw [lx, ly]) c)
        walk_at "sx"
        refine x_iZAL sx sy ?_
        refine x_lcMap (walk_zip rfl) (fun _ => V.bl true) ?hz (fun H' e => ⟨ex_l e sx, ex_l e sy⟩) ?turn ?grow ?done
        case hz => exact sz_of (by omega)
        case turn =>
          rintro D i x H1 H2 Nx hi e1 ⟨p, a, b, rfl, hp, rfl, ha, hb⟩ kk
          walk_at "sx"
          obtain ⟨da, ea, pa⟩ := dpAll_get ax ha
          obtain ⟨db, eb, pb⟩ := dpAll_get ay hb
          rw [ea] at eb
          cases eb
          have e2 : Ex H (upd H1 p (.tup [a, b])) := e1.trans (Ex.new hp)
          refine ⟨a, b, da, rfl, dp_ex e2 pa, dp_ex e2 pb, sh _ (List.mem_of_getElem? ea), by omega, fun H3 e3 => ?_⟩
          exact kk H3 e3
        case grow =>
          rintro i x H1 H2 hi e1 ⟨p, a, b, rfl, hp, rfl, ha, hb⟩
          exact Ex.new hp
        case done =>
          intro D H' hD e hl
          walk_at "sx"
          refine x_allMap (g := fun _ => true) hl ?_
          have e0 : ∀ m : Nat, (List.range m).all (fun _ => true) = true := fun m => by simp
          rw [e0]
          exact k H' e
      | tuple ds =>
        have tx : TyX K H _ (.type "tuple") := tx
        have ty : TyX K H _ (.type "tuple") := ty
        cases hx with
        | tup sx ax =>
        cases hy with
        | tup sy ay =>
        have lx := dpAll_len ax
        have ly := dpAll_len ay
        obtain ⟨hlen, sh⟩ : ds.length ≤ 100000 ∧ ∀ d ∈ ds, OkD n d := by
          cases ho with
          | tuple h1 h2 => exact ⟨h1, h2⟩
        walk_at "sx"
        refine x_isi ty (b := false) (kit_n (by decide +kernel)) ?_
        walk_at "sx"
        refine x_isi ty (b := false) (kit_n (by decide +kernel)) ?_
        walk_at "sx"
        refine x_isi ty (b := false) (kit_n (by decide +kernel)) ?_
        walk_at "sx"
        refine x_isi ty (b := false) (kit_n (by decide +kernel)) ?_
        walk_at "sx"
        refine x_isi tx (b := false) (kit_n (by decide +kernel)) ?_
        walk_at "sx"
        refine x_isi ty (b := true) (kit_n (by decide +kernel)) ?_
        walk_at "sx"
        refine x_isi tx (b := true) (kit_n (by decide +kernel)) ?_
        walk_at "sx"
        refine x_andVD (fun _ => ?_) (fun c => absurd (by rw [lx, ly]) c)
        walk_at "sx"
        refine x_iZAT sx sy ?_
        refine x_lcMap (walk_zipT rfl) (fun _ => V.bl true) ?hz (fun H' e => ⟨ex_t e sx, ex_t e sy⟩) ?turn ?grow ?done
        case hz => exact sz_of (by omega)
        case turn =>
          rintro D i x H1 H2 Nx hi e1 ⟨p, a, b, rfl, hp, rfl, ha, hb⟩ kk
          walk_at "sx"
          obtain ⟨da, ea, pa⟩ := dpAll_get ax ha
          obtain ⟨db, eb, pb⟩ := dpAll_get ay hb
          rw [ea] at eb
          cases eb
          have e2 : Ex H (upd H1 p (.tup [a, b])) := e1.trans (Ex.new hp)
          refine ⟨a, b, da, rfl, dp_ex e2 pa, dp_ex e2 pb, sh _ (List.mem_of_getElem? ea), by omega, fun H3 e3 => ?_⟩
          exact kk H3 e3
        case grow =>
          rintro i x H1 H2 hi e1 ⟨p, a, b, rfl, hp, rfl, ha, hb⟩
          exact Ex.new hp
        case done =>
          intro D H' hD e hl
          walk_at "sx"
          refine x_allMap (g := fun _ => true) hl ?_
          have e0 : ∀ m : Nat, (List.range m).all (fun _ => true) = true := fun m => by simp
          rw [e0]
          exact k H' e
      | dict ds => cases hx
end

/-! ### _law_cut -/
abbrev s__law_cut : Stmt := top 28
abbrev N__law_cut : List Str := ["_law_cell"]
theorem sc__law_cut : FnScope N__law_cut ["_law_cell"] (defScope s__law_cut) := ⟨rfl, rfl, rfl, by decide +kernel, rfl, by decide +kernel, by decide +kernel⟩

def spCut : Sp := fun vs H Q _ => ∃ n : Int, vs = [.int n] ∧ ∀ r : Int, Q (.int r) H
section
variable {P : Program} {w : World} {K : PySem.W.Frag} {mg : Str → Option Value} {base : Heap}
theorem D_cut (T : Txt K mg) (F : Df K mg "_law_cut" s__law_cut) : Dn P w K mg base CX0 1 "_law_cut" ["_law_cell"] spCut := by
  refine F.dn sc__law_cut (fun _ _ _ _ _ _ us hl => match us, hl with | [_], _ => rfl) (fun vs H Q E h => ?_) (fun f cdv A outer s H vs Q E hr hK h => ?_)
  · obtain ⟨n, rfl, _⟩ := h
    rfl
  · obtain ⟨n, rfl, k⟩ := h
    refine ⟨_, (pss_one (ps_ret (pe_callB (g_max rfl) rfl T.m_max boot_max (pa_cons (pe_op op_sub pe_int (pe_op op_pow pe_int pe_int)) (pa_cons (pe_callB (g_min rfl) rfl T.m_min boot_min (pa_cons (pe_op op_pow pe_int pe_int) (pa_cons (pv 0) pa_nil))) pa_nil))))), ?_⟩
    try rw [hK]
    rw [show L2.start N__law_cut [.int n] = [some (.int n)] from rfl]
    walk_at "sx"
    exact k _
end

/-! ### exceptions with a field; the classes of an exception -/
abbrev s_Breaks___init__ : Stmt := inClass (top 23) 0
abbrev N_Breaks___init__ : List Str := ["self", "number"]
theorem sc_Breaks___init__ : FnScope N_Breaks___init__ ["self", "number"] (defScope s_Breaks___init__) := ⟨rfl, rfl, rfl, by decide +kernel, rfl, by decide +kernel, by decide +kernel⟩
abbrev s_BadRow___init__ : Stmt := inClass (top 24) 0
abbrev N_BadRow___init__ : List Str := ["self", "at"]
theorem sc_BadRow___init__ : FnScope N_BadRow___init__ ["self", "at"] (defScope s_BadRow___init__) := ⟨rfl, rfl, rfl, by decide +kernel, rfl, by decide +kernel, by decide +kernel⟩
abbrev s__law_kinds : Stmt := top 29
abbrev N__law_kinds : List Str := ["_law_e", "_law_kinds_here"]
theorem sc__law_kinds : FnScope N__law_kinds ["_law_e"] (defScope s__law_kinds) := ⟨rfl, rfl, rfl, by decide +kernel, rfl, by decide +kernel, by decide +kernel⟩

def spKinds (K : PySem.W.Frag) : Sp := fun vs H Q _ => ∃ (a : Addr) (x : Str) (fs : List (Str × V)), vs = [.ref a] ∧ x ∈ xcls ∧ XV H a (He.ga K x) fs ∧ ∀ p H', Ex H H' → H' p = some (.lst (xcls.map fun y => V.bl (x == y))) → Q (.ref p) H'
section
variable {P : Program} {w : World} {K : PySem.W.Frag} {mg : Str → Option Value} {base : Heap}
theorem D_Breaks_init (T : Txt K mg) (F : Mf K "Breaks" "__init__" "Breaks.__init__" s_Breaks___init__) : DnM P w K mg base CX0 1 (He.ma K (He.ga K "Breaks") "__init__") ["self", "number"] (spExcInit (He.ga K "Breaks") "number") := by
  refine F.dm sc_Breaks___init__ (fun _ _ _ _ _ _ us hl => match us, hl with | [_, _], _ => rfl) (fun vs H Q E h => ?_) (fun f cdv A outer s H vs Q E hr hK h => ?_)
  · obtain ⟨a, v, rfl, _⟩ := h
    rfl
  · obtain ⟨a, v, rfl, ha, k⟩ := h
    refine ⟨_, (pss_one (ps_ost (pv 0) (pv 1))), ?_⟩
    try rw [hK]
    exact ⟨v, rfl, .ref a, rfl, a, He.ga K "Breaks", rfl, T.ox_Breaks.toOexC, T.no_number, .inl ⟨ha, fun dx hd hne => k dx hd hne⟩⟩
theorem D_BadRow_init (T : Txt K mg) (F : Mf K "BadRow" "__init__" "BadRow.__init__" s_BadRow___init__) : DnM P w K mg base CX0 1 (He.ma K (He.ga K "BadRow") "__init__") ["self", "at"] (spExcInit (He.ga K "BadRow") "at") := by
  refine F.dm sc_BadRow___init__ (fun _ _ _ _ _ _ us hl => match us, hl with | [_, _], _ => rfl) (fun vs H Q E h => ?_) (fun f cdv A outer s H vs Q E hr hK h => ?_)
  · obtain ⟨a, v, rfl, _⟩ := h
    rfl
  · obtain ⟨a, v, rfl, ha, k⟩ := h
    refine ⟨_, (pss_one (ps_ost (pv 0) (pv 1))), ?_⟩
    try rw [hK]
    exact ⟨v, rfl, .ref a, rfl, a, He.ga K "BadRow", rfl, T.ox_BadRow.toOexC, T.no_at, .inl ⟨ha, fun dx hd hne => k dx hd hne⟩⟩
theorem D_kinds (T : Txt K mg) (F : Df K mg "_law_kinds" s__law_kinds) : Dn P w K mg base CX0 1 "_law_kinds" ["_law_e"] (spKinds K) := by
  refine F.dn sc__law_kinds (fun _ _ _ _ _ _ us hl => match us, hl with | [_], _ => rfl) (fun vs H Q E h => ?_) (fun f cdv A outer s H vs Q E hr hK h => ?_)
  · obtain ⟨a, x, fs, rfl, _⟩ := h
    rfl
  · obtain ⟨a, x, fs, rfl, hx, xv, k⟩ := h
    have F0 := T.kit1.ec x hx
    refine ⟨_, (pss_cons (ps_set (i := 1) sc__law_kinds.nd rfl (Or.inl rfl) (pe_lst (pa_cons (pe_callB call_isV rfl T.m_isinstance boot_isinstance (pa_cons (pv 0) (pa_cons (pe_glob (v := .ref (He.ga K "BadName")) rfl T.x_BadName.g rfl) pa_nil))) (pa_cons (pe_callB call_isV rfl T.m_isinstance boot_isinstance (pa_cons (pv 0) (pa_cons (pe_glob (v := .ref (He.ga K "Taken")) rfl T.x_Taken.g rfl) pa_nil))) (pa_cons (pe_callB call_isV rfl T.m_isinstance boot_isinstance (pa_cons (pv 0) (pa_cons (pe_glob (v := .ref (He.ga K "Full")) rfl T.x_Full.g rfl) pa_nil))) (pa_cons (pe_callB call_isV rfl T.m_isinstance boot_isinstance (pa_cons (pv 0) (pa_cons (pe_glob (v := .ref (He.ga K "NoSide")) rfl T.x_NoSide.g rfl) pa_nil))) pa_nil))))))
      (pss_cons (ps_set (i := 1) sc__law_kinds.nd rfl (Or.inl rfl) (pe_op op_cat (pv 1) (pe_lst (pa_cons (pe_callB call_isV rfl T.m_isinstance boot_isinstance (pa_cons (pv 0) (pa_cons (pe_glob (v := .ref (He.ga K "NoMan")) rfl T.x_NoMan.g rfl) pa_nil))) (pa_cons (pe_callB call_isV rfl T.m_isinstance boot_isinstance (pa_cons (pv 0) (pa_cons (pe_glob (v := .ref (He.ga K "BadRank")) rfl T.x_BadRank.g rfl) pa_nil))) (pa_cons (pe_callB call_isV rfl T.m_isinstance boot_isinstance (pa_cons (pv 0) (pa_cons (pe_glob (v := .ref (He.ga K "Own")) rfl T.x_Own.g rfl) pa_nil))) (pa_cons (pe_callB call_isV rfl T.m_isinstance boot_isinstance (pa_cons (pv 0) (pa_cons (pe_glob (v := .ref (He.ga K "BadTariff")) rfl T.x_BadTariff.g rfl) pa_nil))) pa_nil)))))))
      (pss_cons (ps_set (i := 1) sc__law_kinds.nd rfl (Or.inl rfl) (pe_op op_cat (pv 1) (pe_lst (pa_cons (pe_callB call_isV rfl T.m_isinstance boot_isinstance (pa_cons (pv 0) (pa_cons (pe_glob (v := .ref (He.ga K "BadLimit")) rfl T.x_BadLimit.g rfl) pa_nil))) (pa_cons (pe_callB call_isV rfl T.m_isinstance boot_isinstance (pa_cons (pv 0) (pa_cons (pe_glob (v := .ref (He.ga K "BadDay")) rfl T.x_BadDay.g rfl) pa_nil))) (pa_cons (pe_callB call_isV rfl T.m_isinstance boot_isinstance (pa_cons (pv 0) (pa_cons (pe_glob (v := .ref (He.ga K "NoCartel")) rfl T.x_NoCartel.g rfl) pa_nil))) (pa_cons (pe_callB call_isV rfl T.m_isinstance boot_isinstance (pa_cons (pv 0) (pa_cons (pe_glob (v := .ref (He.ga K "NoMen")) rfl T.x_NoMen.g rfl) pa_nil))) pa_nil)))))))
      (pss_cons (ps_set (i := 1) sc__law_kinds.nd rfl (Or.inl rfl) (pe_op op_cat (pv 1) (pe_lst (pa_cons (pe_callB call_isV rfl T.m_isinstance boot_isinstance (pa_cons (pv 0) (pa_cons (pe_glob (v := .ref (He.ga K "Twice")) rfl T.x_Twice.g rfl) pa_nil))) (pa_cons (pe_callB call_isV rfl T.m_isinstance boot_isinstance (pa_cons (pv 0) (pa_cons (pe_glob (v := .ref (He.ga K "Gone")) rfl T.x_Gone.g rfl) pa_nil))) (pa_cons (pe_callB call_isV rfl T.m_isinstance boot_isinstance (pa_cons (pv 0) (pa_cons (pe_glob (v := .ref (He.ga K "Held")) rfl T.x_Held.g rfl) pa_nil))) (pa_cons (pe_callB call_isV rfl T.m_isinstance boot_isinstance (pa_cons (pv 0) (pa_cons (pe_glob (v := .ref (He.ga K "NotHeld")) rfl T.x_NotHeld.g rfl) pa_nil))) pa_nil)))))))
      (pss_cons (ps_set (i := 1) sc__law_kinds.nd rfl (Or.inl rfl) (pe_op op_cat (pv 1) (pe_lst (pa_cons (pe_callB call_isV rfl T.m_isinstance boot_isinstance (pa_cons (pv 0) (pa_cons (pe_glob (v := .ref (He.ga K "OffRoll")) rfl T.x_OffRoll.g rfl) pa_nil))) (pa_cons (pe_callB call_isV rfl T.m_isinstance boot_isinstance (pa_cons (pv 0) (pa_cons (pe_glob (v := .ref (He.ga K "Uneven")) rfl T.x_Uneven.g rfl) pa_nil))) (pa_cons (pe_callB call_isV rfl T.m_isinstance boot_isinstance (pa_cons (pv 0) (pa_cons (pe_glob (v := .ref (He.ga K "NoPart")) rfl T.x_NoPart.g rfl) pa_nil))) (pa_cons (pe_callB call_isV rfl T.m_isinstance boot_isinstance (pa_cons (pv 0) (pa_cons (pe_glob (v := .ref (He.ga K "NoDeed")) rfl T.x_NoDeed.g rfl) pa_nil))) pa_nil)))))))
      (pss_one (ps_ret (pe_op op_cat (pv 1) (pe_lst (pa_cons (pe_callB call_isV rfl T.m_isinstance boot_isinstance (pa_cons (pv 0) (pa_cons (pe_glob (v := .ref (He.ga K "NoStep")) rfl T.x_NoStep.g rfl) pa_nil))) (pa_cons (pe_callB call_isV rfl T.m_isinstance boot_isinstance (pa_cons (pv 0) (pa_cons (pe_glob (v := .ref (He.ga K "Breaks")) rfl T.g_Breaks rfl) pa_nil))) (pa_cons (pe_callB call_isV rfl T.m_isinstance boot_isinstance (pa_cons (pv 0) (pa_cons (pe_glob (v := .ref (He.ga K "BadRow")) rfl T.g_BadRow rfl) pa_nil))) pa_nil)))))))))))), ?_⟩
    try rw [hK]
    rw [show L2.start N__law_kinds [.ref a] = [some (.ref a), none] from rfl]
    walk_at "sx"
    refine x_isVr xv F0 (T.kis x hx _ (by decide)) ?_
    walk_at "sx"
    refine x_isVr xv F0 (T.kis x hx _ (by decide)) ?_
    walk_at "sx"
    refine x_isVr xv F0 (T.kis x hx _ (by decide)) ?_
    walk_at "sx"
    refine x_isVr xv F0 (T.kis x hx _ (by decide)) ?_
    walk_at "sx"
    intro p1 hp1
    have e1 : Ex H (upd H p1 (.lst [.bl (x == "BadName"), .bl (x == "Taken"), .bl (x == "Full"), .bl (x == "NoSide")])) := Ex.new hp1
    have h1 : upd H p1 (.lst [.bl (x == "BadName"), .bl (x == "Taken"), .bl (x == "Full"), .bl (x == "NoSide")]) p1 = some (.lst [.bl (x == "BadName"), .bl (x == "Taken"), .bl (x == "Full"), .bl (x == "NoSide")]) := upd_same
    generalize upd H p1 (.lst [.bl (x == "BadName"), .bl (x == "Taken"), .bl (x == "Full"), .bl (x == "NoSide")]) = H1 at e1 h1 ⊢
    have xv1 := xv.ex e1
    walk_at "sx"
    refine x_isVr xv1 F0 (T.kis x hx _ (by decide)) ?_
    walk_at "sx"
    refine x_isVr xv1 F0 (T.kis x hx _ (by decide)) ?_
    walk_at "sx"
    refine x_isVr xv1 F0 (T.kis x hx _ (by decide)) ?_
    walk_at "sx"
    refine x_isVr xv1 F0 (T.kis x hx _ (by decide)) ?_
    walk_at "sx"
    intro p2 hp2
    have e2 : Ex H1 (upd H1 p2 (.lst [.bl (x == "NoMan"), .bl (x == "BadRank"), .bl (x == "Own"), .bl (x == "BadTariff")])) := Ex.new hp2
    have h2 : upd H1 p2 (.lst [.bl (x == "NoMan"), .bl (x == "BadRank"), .bl (x == "Own"), .bl (x == "BadTariff")]) p2 = some (.lst [.bl (x == "NoMan"), .bl (x == "BadRank"), .bl (x == "Own"), .bl (x == "BadTariff")]) := upd_same
    generalize upd H1 p2 (.lst [.bl (x == "NoMan"), .bl (x == "BadRank"), .bl (x == "Own"), .bl (x == "BadTariff")]) = H2 at e2 h2 ⊢
    have xv2 := xv1.ex e2
    walk_at "sx"
    refine x_catE (e2 _ _ h1) h2 (Nat.le_of_ble_eq_true rfl) fun p3 H3 e3 h3 => ?_
    have xv3 := xv2.ex e3
    walk_at "sx"
    refine x_isVr xv3 F0 (T.kis x hx _ (by decide)) ?_
    walk_at "sx"
    refine x_isVr xv3 F0 (T.kis x hx _ (by decide)) ?_
    walk_at "sx"
    refine x_isVr xv3 F0 (T.kis x hx _ (by decide)) ?_
    walk_at "sx"
    refine x_isVr xv3 F0 (T.kis x hx _ (by decide)) ?_
    walk_at "sx"
    intro p4 hp4
    have e4 : Ex H3 (upd H3 p4 (.lst [.bl (x == "BadLimit"), .bl (x == "BadDay"), .bl (x == "NoCartel"), .bl (x == "NoMen")])) := Ex.new hp4
    have h4 : upd H3 p4 (.lst [.bl (x == "BadLimit"), .bl (x == "BadDay"), .bl (x == "NoCartel"), .bl (x == "NoMen")]) p4 = some (.lst [.bl (x == "BadLimit"), .bl (x == "BadDay"), .bl (x == "NoCartel"), .bl (x == "NoMen")]) := upd_same
    generalize upd H3 p4 (.lst [.bl (x == "BadLimit"), .bl (x == "BadDay"), .bl (x == "NoCartel"), .bl (x == "NoMen")]) = H4 at e4 h4 ⊢
    have xv4 := xv3.ex e4
    walk_at "sx"
    refine x_catE (e4 _ _ h3) h4 (Nat.le_of_ble_eq_true rfl) fun p5 H5 e5 h5 => ?_
    have xv5 := xv4.ex e5
    walk_at "sx"
    refine x_isVr xv5 F0 (T.kis x hx _ (by decide)) ?_
    walk_at "sx"
    refine x_isVr xv5 F0 (T.kis x hx _ (by decide)) ?_
    walk_at "sx"
    refine x_isVr xv5 F0 (T.kis x hx _ (by decide)) ?_
    walk_at "sx"
    refine x_isVr xv5 F0 (T.kis x hx _ (by decide)) ?_
    walk_at "sx"
    intro p6 hp6
    have e6 : Ex H5 (upd H5 p6 (.lst [.bl (x == "Twice"), .bl (x == "Gone"), .bl (x == "Held"), .bl (x == "NotHeld")])) := Ex.new hp6
    have h6 : upd H5 p6 (.lst [.bl (x == "Twice"), .bl (x == "Gone"), .bl (x == "Held"), .bl (x == "NotHeld")]) p6 = some (.lst [.bl (x == "Twice"), .bl (x == "Gone"), .bl (x == "Held"), .bl (x == "NotHeld")]) := upd_same
    generalize upd H5 p6 (.lst [.bl (x == "Twice"), .bl (x == "Gone"), .bl (x == "Held"), .bl (x == "NotHeld")]) = H6 at e6 h6 ⊢
    have xv6 := xv5.ex e6
    walk_at "sx"
    refine x_catE (e6 _ _ h5) h6 (Nat.le_of_ble_eq_true rfl) fun p7 H7 e7 h7 => ?_
    have xv7 := xv6.ex e7
    walk_at "sx"
    refine x_isVr xv7 F0 (T.kis x hx _ (by decide)) ?_
    walk_at "sx"
    refine x_isVr xv7 F0 (T.kis x hx _ (by decide)) ?_
    walk_at "sx"
    refine x_isVr xv7 F0 (T.kis x hx _ (by decide)) ?_
    walk_at "sx"
    refine x_isVr xv7 F0 (T.kis x hx _ (by decide)) ?_
    walk_at "sx"
    intro p8 hp8
    have e8 : Ex H7 (upd H7 p8 (.lst [.bl (x == "OffRoll"), .bl (x == "Uneven"), .bl (x == "NoPart"), .bl (x == "NoDeed")])) := Ex.new hp8
    have h8 : upd H7 p8 (.lst [.bl (x == "OffRoll"), .bl (x == "Uneven"), .bl (x == "NoPart"), .bl (x == "NoDeed")]) p8 = some (.lst [.bl (x == "OffRoll"), .bl (x == "Uneven"), .bl (x == "NoPart"), .bl (x == "NoDeed")]) := upd_same
    generalize upd H7 p8 (.lst [.bl (x == "OffRoll"), .bl (x == "Uneven"), .bl (x == "NoPart"), .bl (x == "NoDeed")]) = H8 at e8 h8 ⊢
    have xv8 := xv7.ex e8
    walk_at "sx"
    refine x_catE (e8 _ _ h7) h8 (Nat.le_of_ble_eq_true rfl) fun p9 H9 e9 h9 => ?_
    have xv9 := xv8.ex e9
    walk_at "sx"
    refine x_isVr xv9 F0 (T.kis x hx _ (by decide)) ?_
    walk_at "sx"
    refine x_isVr xv9 F0 (T.kis x hx _ (by decide)) ?_
    walk_at "sx"
    refine x_isVr xv9 F0 (T.kis x hx _ (by decide)) ?_
    walk_at "sx"
    intro p10 hp10
    have e10 : Ex H9 (upd H9 p10 (.lst [.bl (x == "NoStep"), .bl (x == "Breaks"), .bl (x == "BadRow")])) := Ex.new hp10
    have h10 : upd H9 p10 (.lst [.bl (x == "NoStep"), .bl (x == "Breaks"), .bl (x == "BadRow")]) p10 = some (.lst [.bl (x == "NoStep"), .bl (x == "Breaks"), .bl (x == "BadRow")]) := upd_same
    generalize upd H9 p10 (.lst [.bl (x == "NoStep"), .bl (x == "Breaks"), .bl (x == "BadRow")]) = H10 at e10 h10 ⊢
    have xv10 := xv9.ex e10
    walk_at "sx"
    refine x_catE (e10 _ _ h9) h10 (Nat.le_of_ble_eq_true rfl) fun p11 H11 e11 h11 => ?_
    exact k p11 H11 (e1.trans (e2.trans (e3.trans (e4.trans (e5.trans (e6.trans (e7.trans (e8.trans (e9.trans (e10.trans (e11))))))))))) h11
end

/-! ### the law -/
abbrev s_law : Stmt := top 30
abbrev N_law : List Str := ["_law_script", "_law_number", "_law_word", "_law_made", "_law_ends", "_law_at", "_law_k"]
theorem sc_law : FnScope N_law ["_law_script"] (defScope s_law) := ⟨rfl, rfl, rfl, by decide +kernel, rfl, by decide +kernel, by decide +kernel⟩

theorem kinds_row {i : Nat} {x : Str} (h : xcls[i]? = some x) : (xcls.map fun y => x == y) = (List.range 23).map fun k : Nat => decide ((i : Int) = (k : Int)) := by
  have hi : i < 23 := (List.getElem?_eq_some_iff.mp h).1
  have g : ∀ j : Fin 23, (xcls.map fun y => xcls.getD j.val "" == y) = (List.range 23).map fun k : Nat => decide ((j.val : Int) = (k : Int)) := by decide +kernel
  have e : xcls.getD i "" = x := by rw [List.getD_eq_getElem?_getD, h]; rfl
  have := g ⟨i, hi⟩
  rw [e] at this
  exact this
section
variable {P : Program} {w : World} {K : PySem.W.Frag} {mg : Str → Option Value} {base : Heap}
theorem D_law (T : Txt K mg) (D__law_cut : Dn P w K mg base CX0 1 "_law_cut" ["_law_cell"] spCut) (D_Breaks___init__ : DnM P w K mg base CX0 1 (He.ma K (He.ga K "Breaks") "__init__") ["self", "number"] (spExcInit (He.ga K "Breaks") "number")) (D_BadRow___init__ : DnM P w K mg base CX0 1 (He.ma K (He.ga K "BadRow") "__init__") ["self", "at"] (spExcInit (He.ga K "BadRow") "at"))
    (D__law_kinds : Dn P w K mg base CX0 1 "_law_kinds" ["_law_e"] (spKinds K)) (D__law_alike : Dn P w K mg base CX0 6 "_law_alike" ["_law_found", "_law_due"] (spAlike K 4)) {f : Addr} {fd : FuncData} (F : Fun K "law" "law" s_law f fd) : FnOk P w K mg base CX0 7 f fd ["_law_script"] (spLaw K) := by
  refine F.ok sc_law (fun vs H Q E h => ?_) (fun cdv A outer s H0 vs Q E hr h => ?_)
  · obtain ⟨a, ns, rfl, _⟩ := h
    rfl
  · obtain ⟨sc, ns, rfl, hS, hlen, hbits, k⟩ := h
    have hK : (cxOf CX0 P w K mg base N_law "law" (defScope s_law) f cdv A outer s H0 E).nox.K = K := rfl
    refine ⟨_, (pss_cons (ps_set (i := 1) sc_law.nd rfl (Or.inl rfl) pe_int)
      (pss_cut (ps_if (pt_cmpR op_gt (pe_callB g_len rfl T.m_len boot_len (pa_cons (pv 0) pa_nil)) pe_int (nomark _)) (pss_one (ps_set (i := 1) sc_law.nd rfl (Or.inl rfl) (pe_dn D__law_cut (hr.mono (by first | decide | omega)) pass0 (pa_cons (pe_ix ix_list (pv 0) pe_int (fun _ _ => rfl)) pa_nil)))) pss_nil)
      (pss_cons (ps_set (i := 2) sc_law.nd rfl (Or.inl rfl) (pe_op op_mulS pe_str (pe_op op_mod (pv 1) pe_int)))
      (pss_cons (ps_set (i := 3) sc_law.nd rfl (Or.inl rfl) (pe_lst (pa_cons (pe_excV PySem.F.excBase_ValueError T.x_BadName.xi T.x_BadName.g T.x_BadName.k (pv 2)) (pa_cons (pe_excV PySem.F.excBase_ValueError T.x_Taken.xi T.x_Taken.g T.x_Taken.k (pv 2)) (pa_cons (pe_excV PySem.F.excBase_ValueError T.x_Full.xi T.x_Full.g T.x_Full.k (pv 2)) (pa_cons (pe_excV PySem.F.excBase_ValueError T.x_NoSide.xi T.x_NoSide.g T.x_NoSide.k (pv 2)) (pa_cons (pe_excV PySem.F.excBase_ValueError T.x_NoMan.xi T.x_NoMan.g T.x_NoMan.k (pv 2)) (pa_cons (pe_excV PySem.F.excBase_ValueError T.x_BadRank.xi T.x_BadRank.g T.x_BadRank.k (pv 2)) (pa_cons (pe_excV PySem.F.excBase_ValueError T.x_Own.xi T.x_Own.g T.x_Own.k (pv 2)) pa_nil)))))))))
      (pss_cons (ps_set (i := 3) sc_law.nd rfl (Or.inl rfl) (pe_op op_cat (pv 3) (pe_lst (pa_cons (pe_excV PySem.F.excBase_ValueError T.x_BadTariff.xi T.x_BadTariff.g T.x_BadTariff.k (pv 2)) (pa_cons (pe_excV PySem.F.excBase_ValueError T.x_BadLimit.xi T.x_BadLimit.g T.x_BadLimit.k (pv 2)) (pa_cons (pe_excV PySem.F.excBase_ValueError T.x_BadDay.xi T.x_BadDay.g T.x_BadDay.k (pv 2)) (pa_cons (pe_excV PySem.F.excBase_ValueError T.x_NoCartel.xi T.x_NoCartel.g T.x_NoCartel.k (pv 2)) (pa_cons (pe_excV PySem.F.excBase_ValueError T.x_NoMen.xi T.x_NoMen.g T.x_NoMen.k (pv 2)) (pa_cons (pe_excV PySem.F.excBase_ValueError T.x_Twice.xi T.x_Twice.g T.x_Twice.k (pv 2)) pa_nil)))))))))
      (pss_cons (ps_set (i := 3) sc_law.nd rfl (Or.inl rfl) (pe_op op_cat (pv 3) (pe_lst (pa_cons (pe_excV PySem.F.excBase_ValueError T.x_Gone.xi T.x_Gone.g T.x_Gone.k (pv 2)) (pa_cons (pe_excV PySem.F.excBase_ValueError T.x_Held.xi T.x_Held.g T.x_Held.k (pv 2)) (pa_cons (pe_excV PySem.F.excBase_ValueError T.x_NotHeld.xi T.x_NotHeld.g T.x_NotHeld.k (pv 2)) (pa_cons (pe_excV PySem.F.excBase_ValueError T.x_OffRoll.xi T.x_OffRoll.g T.x_OffRoll.k (pv 2)) (pa_cons (pe_excV PySem.F.excBase_ValueError T.x_Uneven.xi T.x_Uneven.g T.x_Uneven.k (pv 2)) (pa_cons (pe_excV PySem.F.excBase_ValueError T.x_NoPart.xi T.x_NoPart.g T.x_NoPart.k (pv 2)) pa_nil)))))))))
      (pss_cons (ps_set (i := 3) sc_law.nd rfl (Or.inl rfl) (pe_op op_cat (pv 3) (pe_lst (pa_cons (pe_excV PySem.F.excBase_ValueError T.x_NoDeed.xi T.x_NoDeed.g T.x_NoDeed.k (pv 2)) (pa_cons (pe_excV PySem.F.excBase_ValueError T.x_NoStep.xi T.x_NoStep.g T.x_NoStep.k (pv 2)) pa_nil)))))
      (pss_cons (ps_set (i := 4) sc_law.nd rfl (Or.inl rfl) (pe_lst (pa_cons (pe_excI T.ox_Breaks D_Breaks___init__ (hr.mono (by first | decide | omega)) pass0 T.g_Breaks (pa_cons (pv 1) pa_nil)) (pa_cons (pe_excI T.ox_BadRow D_BadRow___init__ (hr.mono (by first | decide | omega)) pass0 T.g_BadRow (pa_cons (pv 1) pa_nil)) pa_nil))))
      (pss_cons (ps_if (pt_not (pt_val (pe_dn D__law_alike (hr.mono (by first | decide | omega)) pass0 (pa_cons (pe_lst (pa_cons (pe_excF (pe_ix ix_list (pv 4) pe_int (fun _ _ => rfl))) (pa_cons (pe_excF (pe_ix ix_list (pv 4) pe_int (fun _ _ => rfl))) pa_nil))) (pa_cons (pe_lst (pa_cons (pv 1) (pa_cons (pv 1) pa_nil))) pa_nil))))) (pss_one (ps_ret pe_bl)) pss_nil)
      (pss_cons (ps_set (i := 3) sc_law.nd rfl (Or.inl rfl) (pe_op op_cat (pv 3) (pv 4)))
      (pss_cons (ps_for PassesOwn.never rfl (pi_range1 rfl T.m_range (pa_cons pe_int pa_nil)) (pg_name (i := 5) sc_law.nd rfl (Or.inr rfl)) (pss_cons (ps_if (pt_cmpR (op_neD hr.units) (pe_dn D__law_kinds (hr.mono (by first | decide | omega)) pass0 (pa_cons (pe_ix ix_list (pv 3) (pv 5) (fun _ _ => rfl)) pa_nil)) (pe_lc (own := [("_law_k", 6)]) (g := gName 6) (tt := tYes) rfl sc_law.nd (pi_range1 rfl T.m_range (pa_cons pe_int pa_nil)) (blkOk_by (own := [("_law_k", 6)]) (N := N_law) (sc := defScope s_law) (by decide +kernel)) (fun _ _ _ _ _ => pg_name (i := 6) sc_law.nd rfl (Or.inl rfl)) (fun _ _ _ _ _ => pts_nil) (fun _ _ _ _ _ => (pe_cmpR op_eq (pv 5) (pv 6) (nomark _)))) (nomark _)) (pss_one (ps_ret pe_bl)) pss_nil)
      (pss_one (ps_if (PW.pt (pw_or (pt_not (pt_val (pe_callB call_isV rfl T.m_isinstance boot_isinstance (pa_cons (pe_ix ix_list (pv 3) (pv 5) (fun _ _ => rfl)) (pa_cons (pe_glob (v := .ref (He.ga K "CartelError")) rfl T.x_CartelError.g rfl) pa_nil))))) (pw_or1 (pt_not (pt_val (pe_callB call_isV rfl T.m_isinstance boot_isinstance (pa_cons (pe_ix ix_list (pv 3) (pv 5) (fun _ _ => rfl)) (pa_cons (pe_bltn rfl T.m_ValueError (v := .ty "ValueError") (by decide +kernel) rfl) pa_nil)))))))) (pss_one (ps_ret pe_bl)) pss_nil))))
      (pss_one (ps_ret pe_bl))))))))))))), ?_⟩
    try rw [hK]
    rw [show L2.start N_law [.ref sc] = [some (.ref sc), none, none, none, none, none, none] from rfl]
    walk_at "sx"
    refine x_cut (fun σ G => G = H0 ∧ ∃ nn : Int, σ = [some (.ref sc), some (.int nn), none, none, none, none, none]) ?_ ?_
    · walk_at "sx"
      rw [List.length_map]
      refine x_ifD (fun c => ?_) (fun c => ?_)
      · obtain ⟨n0, nr, rfl⟩ : ∃ n0 nr, ns = n0 :: nr := by
          match ns, c with
          | [], c => exact absurd (show (0 : Int) < ((0 : Nat) : Int) from c) (by decide)
          | n0 :: nr, _ => exact ⟨n0, nr, rfl⟩
        walk_at "sx"
        refine ⟨n0, rfl, fun r => ?_⟩
        walk_at "sx"
        exact ⟨rfl, r, rfl⟩
      · walk_at "sx"
        exact ⟨rfl, 5, rfl⟩
    rintro σ G ⟨rfl, nn, rfl⟩
    walk_at "sx"
    refine ⟨"a", nn % 9, rfl, rfl, Int.emod_nonneg _ (by decide), by have := Int.emod_lt_of_pos nn (show (0 : Int) < 9 by decide); omega, by decide, fun z => ?_⟩
    walk_at "sx"
    refine x_excV fun a0 H1 e1 v0 => ?_
    walk_at "sx"
    refine x_excV fun a1 H2 e2 v1 => ?_
    walk_at "sx"
    refine x_excV fun a2 H3 e3 v2 => ?_
    walk_at "sx"
    refine x_excV fun a3 H4 e4 v3 => ?_
    walk_at "sx"
    refine x_excV fun a4 H5 e5 v4 => ?_
    walk_at "sx"
    refine x_excV fun a5 H6 e6 v5 => ?_
    walk_at "sx"
    refine x_excV fun a6 H7 e7 v6 => ?_
    walk_at "sx"
    intro p8 hp8
    have e8 : Ex H7 (upd H7 p8 (.lst [.ref a0, .ref a1, .ref a2, .ref a3, .ref a4, .ref a5, .ref a6])) := Ex.new hp8
    have h8 : upd H7 p8 (.lst [.ref a0, .ref a1, .ref a2, .ref a3, .ref a4, .ref a5, .ref a6]) p8 = some (.lst [.ref a0, .ref a1, .ref a2, .ref a3, .ref a4, .ref a5, .ref a6]) := upd_same
    generalize upd H7 p8 (.lst [.ref a0, .ref a1, .ref a2, .ref a3, .ref a4, .ref a5, .ref a6]) = H8 at e8 h8 ⊢
    walk_at "sx"
    refine x_excV fun a7 H9 e9 v7 => ?_
    walk_at "sx"
    refine x_excV fun a8 H10 e10 v8 => ?_
    walk_at "sx"
    refine x_excV fun a9 H11 e11 v9 => ?_
    walk_at "sx"
    refine x_excV fun a10 H12 e12 v10 => ?_
    walk_at "sx"
    refine x_excV fun a11 H13 e13 v11 => ?_
    walk_at "sx"
    refine x_excV fun a12 H14 e14 v12 => ?_
    walk_at "sx"
    intro p15 hp15
    have e15 : Ex H14 (upd H14 p15 (.lst [.ref a7, .ref a8, .ref a9, .ref a10, .ref a11, .ref a12])) := Ex.new hp15
    have h15 : upd H14 p15 (.lst [.ref a7, .ref a8, .ref a9, .ref a10, .ref a11, .ref a12]) p15 = some (.lst [.ref a7, .ref a8, .ref a9, .ref a10, .ref a11, .ref a12]) := upd_same
    generalize upd H14 p15 (.lst [.ref a7, .ref a8, .ref a9, .ref a10, .ref a11, .ref a12]) = H15 at e15 h15 ⊢
    walk_at "sx"
    refine x_catE ((((((((e9).trans e10).trans e11).trans e12).trans e13).trans e14).trans e15) _ _ h8) h15 (Nat.le_of_ble_eq_true rfl) fun p16 H16 e16 h16 => ?_
    walk_at "sx"
    refine x_excV fun a13 H17 e17 v13 => ?_
    walk_at "sx"
    refine x_excV fun a14 H18 e18 v14 => ?_
    walk_at "sx"
    refine x_excV fun a15 H19 e19 v15 => ?_
    walk_at "sx"
    refine x_excV fun a16 H20 e20 v16 => ?_
    walk_at "sx"
    refine x_excV fun a17 H21 e21 v17 => ?_
    walk_at "sx"
    refine x_excV fun a18 H22 e22 v18 => ?_
    walk_at "sx"
    intro p23 hp23
    have e23 : Ex H22 (upd H22 p23 (.lst [.ref a13, .ref a14, .ref a15, .ref a16, .ref a17, .ref a18])) := Ex.new hp23
    have h23 : upd H22 p23 (.lst [.ref a13, .ref a14, .ref a15, .ref a16, .ref a17, .ref a18]) p23 = some (.lst [.ref a13, .ref a14, .ref a15, .ref a16, .ref a17, .ref a18]) := upd_same
    generalize upd H22 p23 (.lst [.ref a13, .ref a14, .ref a15, .ref a16, .ref a17, .ref a18]) = H23 at e23 h23 ⊢
    walk_at "sx"
    refine x_catE ((((((((e17).trans e18).trans e19).trans e20).trans e21).trans e22).trans e23) _ _ h16) h23 (Nat.le_of_ble_eq_true rfl) fun p24 H24 e24 h24 => ?_
    walk_at "sx"
    refine x_excV fun a19 H25 e25 v19 => ?_
    walk_at "sx"
    refine x_excV fun a20 H26 e26 v20 => ?_
    walk_at "sx"
    intro p27 hp27
    have e27 : Ex H26 (upd H26 p27 (.lst [.ref a19, .ref a20])) := Ex.new hp27
    have h27 : upd H26 p27 (.lst [.ref a19, .ref a20]) p27 = some (.lst [.ref a19, .ref a20]) := upd_same
    generalize upd H26 p27 (.lst [.ref a19, .ref a20]) = H27 at e27 h27 ⊢
    walk_at "sx"
    refine x_catE ((((e25).trans e26).trans e27) _ _ h24) h27 (Nat.le_of_ble_eq_true rfl) fun p28 H28 e28 h28 => ?_
    walk_at "sx"
    refine x_excI fun a21 H29 e29 v21 => ?_
    walk_at "sx"
    refine x_excI fun a22 H30 e30 v22 => ?_
    walk_at "sx"
    intro p31 hp31
    have e31 : Ex H30 (upd H30 p31 (.lst [.ref a21, .ref a22])) := Ex.new hp31
    have h31 : upd H30 p31 (.lst [.ref a21, .ref a22]) p31 = some (.lst [.ref a21, .ref a22]) := upd_same
    generalize upd H30 p31 (.lst [.ref a21, .ref a22]) = H31 at e31 h31 ⊢
    walk_at "sx"
    refine x_exF (v21.ex ((e30).trans e31)) (T.kit1.ec "Breaks" (by decide)) T.no_number rfl ?_
    walk_at "sx"
    refine x_exF (v22.ex (e31)) (T.kit1.ec "BadRow" (by decide)) T.no_at rfl ?_
    walk_at "sx"
    intro pa hp32
    have e32 : Ex H31 (upd H31 pa (.lst ([nn, nn].map V.int))) := Ex.new hp32
    have hpa : upd H31 pa (.lst ([nn, nn].map V.int)) pa = some (.lst ([nn, nn].map V.int)) := upd_same
    generalize hg32 : upd H31 pa (.lst [.int nn, .int nn]) = H32
    have e32 : Ex H31 H32 := hg32 ▸ e32
    have hpa : H32 pa = some (.lst ([nn, nn].map V.int)) := hg32 ▸ hpa
    walk_at "sx"
    intro pb hp33
    have e33 : Ex H32 (upd H32 pb (.lst ([nn, nn].map V.int))) := Ex.new hp33
    have hpb : upd H32 pb (.lst ([nn, nn].map V.int)) pb = some (.lst ([nn, nn].map V.int)) := upd_same
    generalize hg33 : upd H32 pb (.lst [.int nn, .int nn]) = H33
    have e33 : Ex H32 H33 := hg33 ▸ e33
    have hpb : H33 pb = some (.lst ([nn, nn].map V.int)) := hg33 ▸ hpb
    walk_at "sx"
    refine ⟨.ref pa, .ref pb, dInts [nn, nn], rfl, .lst (SqL.of ((e33) _ _ hpa)) (dpAll_ints _), .lst (SqL.of hpb) (dpAll_ints _), OkD.ints (Nat.le_of_ble_eq_true rfl), by decide, fun H34 e34 => ?_⟩
    walk_at "sx"
    refine x_catE (((((((e29).trans e30).trans e31).trans e32).trans e33).trans e34) _ _ h28) ((((e32).trans e33).trans e34) _ _ h31) (Nat.le_of_ble_eq_true rfl) fun pM H35 e35 hM => ?_
    walk_at "sx"
    have hX : XVs K H35 [a0, a1, a2, a3, a4, a5, a6, a7, a8, a9, a10, a11, a12, a13, a14, a15, a16, a17, a18, a19, a20, a21, a22] xcls := .cons [] (v0.ex ((((((((((((((((((((((((((((((((((e2).trans e3).trans e4).trans e5).trans e6).trans e7).trans e8).trans e9).trans e10).trans e11).trans e12).trans e13).trans e14).trans e15).trans e16).trans e17).trans e18).trans e19).trans e20).trans e21).trans e22).trans e23).trans e24).trans e25).trans e26).trans e27).trans e28).trans e29).trans e30).trans e31).trans e32).trans e33).trans e34).trans e35)) (.cons [] (v1.ex (((((((((((((((((((((((((((((((((e3).trans e4).trans e5).trans e6).trans e7).trans e8).trans e9).trans e10).trans e11).trans e12).trans e13).trans e14).trans e15).trans e16).trans e17).trans e18).trans e19).trans e20).trans e21).trans e22).trans e23).trans e24).trans e25).trans e26).trans e27).trans e28).trans e29).trans e30).trans e31).trans e32).trans e33).trans e34).trans e35)) (.cons [] (v2.ex ((((((((((((((((((((((((((((((((e4).trans e5).trans e6).trans e7).trans e8).trans e9).trans e10).trans e11).trans e12).trans e13).trans e14).trans e15).trans e16).trans e17).trans e18).trans e19).trans e20).trans e21).trans e22).trans e23).trans e24).trans e25).trans e26).trans e27).trans e28).trans e29).trans e30).trans e31).trans e32).trans e33).trans e34).trans e35)) (.cons [] (v3.ex (((((((((((((((((((((((((((((((e5).trans e6).trans e7).trans e8).trans e9).trans e10).trans e11).trans e12).trans e13).trans e14).trans e15).trans e16).trans e17).trans e18).trans e19).trans e20).trans e21).trans e22).trans e23).trans e24).trans e25).trans e26).trans e27).trans e28).trans e29).trans e30).trans e31).trans e32).trans e33).trans e34).trans e35)) (.cons [] (v4.ex ((((((((((((((((((((((((((((((e6).trans e7).trans e8).trans e9).trans e10).trans e11).trans e12).trans e13).trans e14).trans e15).trans e16).trans e17).trans e18).trans e19).trans e20).trans e21).trans e22).trans e23).trans e24).trans e25).trans e26).trans e27).trans e28).trans e29).trans e30).trans e31).trans e32).trans e33).trans e34).trans e35)) (.cons [] (v5.ex (((((((((((((((((((((((((((((e7).trans e8).trans e9).trans e10).trans e11).trans e12).trans e13).trans e14).trans e15).trans e16).trans e17).trans e18).trans e19).trans e20).trans e21).trans e22).trans e23).trans e24).trans e25).trans e26).trans e27).trans e28).trans e29).trans e30).trans e31).trans e32).trans e33).trans e34).trans e35)) (.cons [] (v6.ex ((((((((((((((((((((((((((((e8).trans e9).trans e10).trans e11).trans e12).trans e13).trans e14).trans e15).trans e16).trans e17).trans e18).trans e19).trans e20).trans e21).trans e22).trans e23).trans e24).trans e25).trans e26).trans e27).trans e28).trans e29).trans e30).trans e31).trans e32).trans e33).trans e34).trans e35)) (.cons [] (v7.ex ((((((((((((((((((((((((((e10).trans e11).trans e12).trans e13).trans e14).trans e15).trans e16).trans e17).trans e18).trans e19).trans e20).trans e21).trans e22).trans e23).trans e24).trans e25).trans e26).trans e27).trans e28).trans e29).trans e30).trans e31).trans e32).trans e33).trans e34).trans e35)) (.cons [] (v8.ex (((((((((((((((((((((((((e11).trans e12).trans e13).trans e14).trans e15).trans e16).trans e17).trans e18).trans e19).trans e20).trans e21).trans e22).trans e23).trans e24).trans e25).trans e26).trans e27).trans e28).trans e29).trans e30).trans e31).trans e32).trans e33).trans e34).trans e35)) (.cons [] (v9.ex ((((((((((((((((((((((((e12).trans e13).trans e14).trans e15).trans e16).trans e17).trans e18).trans e19).trans e20).trans e21).trans e22).trans e23).trans e24).trans e25).trans e26).trans e27).trans e28).trans e29).trans e30).trans e31).trans e32).trans e33).trans e34).trans e35)) (.cons [] (v10.ex (((((((((((((((((((((((e13).trans e14).trans e15).trans e16).trans e17).trans e18).trans e19).trans e20).trans e21).trans e22).trans e23).trans e24).trans e25).trans e26).trans e27).trans e28).trans e29).trans e30).trans e31).trans e32).trans e33).trans e34).trans e35)) (.cons [] (v11.ex ((((((((((((((((((((((e14).trans e15).trans e16).trans e17).trans e18).trans e19).trans e20).trans e21).trans e22).trans e23).trans e24).trans e25).trans e26).trans e27).trans e28).trans e29).trans e30).trans e31).trans e32).trans e33).trans e34).trans e35)) (.cons [] (v12.ex (((((((((((((((((((((e15).trans e16).trans e17).trans e18).trans e19).trans e20).trans e21).trans e22).trans e23).trans e24).trans e25).trans e26).trans e27).trans e28).trans e29).trans e30).trans e31).trans e32).trans e33).trans e34).trans e35)) (.cons [] (v13.ex ((((((((((((((((((e18).trans e19).trans e20).trans e21).trans e22).trans e23).trans e24).trans e25).trans e26).trans e27).trans e28).trans e29).trans e30).trans e31).trans e32).trans e33).trans e34).trans e35)) (.cons [] (v14.ex (((((((((((((((((e19).trans e20).trans e21).trans e22).trans e23).trans e24).trans e25).trans e26).trans e27).trans e28).trans e29).trans e30).trans e31).trans e32).trans e33).trans e34).trans e35)) (.cons [] (v15.ex ((((((((((((((((e20).trans e21).trans e22).trans e23).trans e24).trans e25).trans e26).trans e27).trans e28).trans e29).trans e30).trans e31).trans e32).trans e33).trans e34).trans e35)) (.cons [] (v16.ex (((((((((((((((e21).trans e22).trans e23).trans e24).trans e25).trans e26).trans e27).trans e28).trans e29).trans e30).trans e31).trans e32).trans e33).trans e34).trans e35)) (.cons [] (v17.ex ((((((((((((((e22).trans e23).trans e24).trans e25).trans e26).trans e27).trans e28).trans e29).trans e30).trans e31).trans e32).trans e33).trans e34).trans e35)) (.cons [] (v18.ex (((((((((((((e23).trans e24).trans e25).trans e26).trans e27).trans e28).trans e29).trans e30).trans e31).trans e32).trans e33).trans e34).trans e35)) (.cons [] (v19.ex ((((((((((e26).trans e27).trans e28).trans e29).trans e30).trans e31).trans e32).trans e33).trans e34).trans e35)) (.cons [] (v20.ex (((((((((e27).trans e28).trans e29).trans e30).trans e31).trans e32).trans e33).trans e34).trans e35)) (.cons [("number", .int nn)] (v21.ex ((((((e30).trans e31).trans e32).trans e33).trans e34).trans e35)) (.cons [("at", .int nn)] (v22.ex (((((e31).trans e32).trans e33).trans e34).trans e35)) (.nil)))))))))))))))))))))))
    have hM : H35 pM = some (.lst ([a0, a1, a2, a3, a4, a5, a6, a7, a8, a9, a10, a11, a12, a13, a14, a15, a16, a17, a18, a19, a20, a21, a22].map V.ref)) := hM
    generalize [a0, a1, a2, a3, a4, a5, a6, a7, a8, a9, a10, a11, a12, a13, a14, a15, a16, a17, a18, a19, a20, a21, a22] = As at hX hM
    refine x_iRQ (by decide) (by decide) ?_
    refine x_forQ walk_r0 (fun i σ H' => Ex H35 H' ∧ ∃ v4 v5 : Option V, σ = [some (.ref sc), some (.int nn), some (.str z), some (.ref pM), v4, v5, none]) ⟨Ex.refl _, _, _, rfl⟩ (fun _ _ _ _ _ => trivial) (fun i u σ H1' H2' hi h y => ?_) (fun σ H1' h => ?_)
    · obtain ⟨eL, v4, v5, rfl⟩ := h
      obtain ⟨rfl, rfl⟩ := y
      have hi : i < 23 := hi
      have hM1 := eL _ _ hM
      obtain ⟨x, hx⟩ : ∃ x, xcls[i]? = some x := ⟨_, List.getElem?_eq_getElem hi⟩
      have hxm := List.mem_of_getElem? hx
      obtain ⟨a, fs, ha, xv⟩ := (hX.ex eL).get hx
      have hai : ∀ j : Int, j = (i : Int) → (As.map V.ref)[j.toNat]? = some (.ref a) := fun j e => by
        rw [e, Int.toNat_natCast, List.getElem?_map, ha]
        rfl
      clear hX hM
      walk_at "sx"
      refine x_ixLn (SqL.of hM1) (by omega) (hai _ rfl) ?_
      walk_at "sx"
      refine ⟨a, x, fs, rfl, hxm, xv, fun p H3 e3 h3 => ?_⟩
      walk_at "sx"
      refine x_iRQ (by decide) (by decide) ?_
      refine x_lcMap walk_r0 (fun k => V.bl (decide ((i : Int) = (k : Int)))) (Nat.le_of_ble_eq_true rfl) (fun _ _ => trivial) (fun Dl j x H1 H2 Nx hj e1 y k2 => ?_) (fun j x H1 H2 hj e1 y => by rw [y.1]; exact Ex.refl _) (fun Dl H4 _ e4 hD => ?_)
      · obtain ⟨rfl, rfl⟩ := y
        walk_at "sx"
        exact k2 _ (Ex.refl _)
      · have h3 : H4 p = some (.lst ((xcls.map fun y => x == y).map V.bl)) := by
          rw [List.map_map]
          exact e4 _ _ h3
        have hD : H4 Dl = some (.lst ((xcls.map fun y => x == y).map V.bl)) := by
          rw [kinds_row hx, List.map_map]
          exact hD
        walk_at "sx"
        refine x_neSame (d := .list ((xcls.map fun y => x == y).map PyData.bool)) (.lst (SqL.of h3) (dpAll_bls _)) (.lst (SqL.of hD) (dpAll_bls _)) (OkD.shaped (n := 2) (.list (Nat.le_of_ble_eq_true rfl) fun d hd => by
          obtain ⟨b, _, rfl⟩ := List.mem_map.mp hd
          exact .bool b) (by decide)) ?_
        have hM2 := e4 _ _ (e3 _ _ hM1)
        have xv2 := (xv.ex e3).ex e4
        walk_at "sx"
        refine x_ixLn (SqL.of hM2) (by omega) (hai _ rfl) ?_
        walk_at "sx"
        refine x_isVr xv2 (T.kit1.ec x hxm) (T.kit1.kc x hxm) ?_
        walk_at "sx"
        refine x_ixLn (SqL.of hM2) (by omega) (hai _ rfl) ?_
        walk_at "sx"
        refine x_isVt xv2 (T.kit1.ec x hxm) (T.kit1.kv x hxm) ?_
        walk_at "sx"
        exact ⟨eL.trans (e3.trans e4), _, _, rfl⟩
    · obtain ⟨eL, v4, v5, rfl⟩ := h
      walk_at "sx"
      exact k _
end
structure All (K : PySem.W.Frag) (mg : Str → Option Value) : Prop where
  T : Txt K mg
  F__law_whole : Df K mg "_law_whole" s__law_whole
  F__law_alike : Df K mg "_law_alike" s__law_alike
  F__law_cut : Df K mg "_law_cut" s__law_cut
  F__law_kinds : Df K mg "_law_kinds" s__law_kinds
  M_Breaks___init__ : Mf K "Breaks" "__init__" "Breaks.__init__" s_Breaks___init__
  M_BadRow___init__ : Mf K "BadRow" "__init__" "BadRow.__init__" s_BadRow___init__

theorem chain {P : Program} {w : World} {K : PySem.W.Frag} {mg : Str → Option Value} {base : Heap} (A : All K mg) {f : Addr} {fd : FuncData} (F : Fun K "law" "law" s_law f fd) : FnOk P w K mg base CX0 7 f fd ["_law_script"] (spLaw K) := by
  have T := A.T
  have D3 := D_whole (P := P) (w := w) (base := base) T A.F__law_whole
  exact D_law T (D_cut T A.F__law_cut) (D_Breaks_init T A.M_Breaks___init__) (D_BadRow_init T A.M_BadRow___init__) (D_kinds T A.F__law_kinds) (D_alike T D3 A.F__law_alike 4) F
def fns0 : List He.FnD := [⟨("_law_whole", none), "_law_whole", "_law_whole", defArgs (top 26), defBody (top 26), defScope (top 26)⟩, ⟨("_law_alike", none), "_law_alike", "_law_alike", defArgs (top 27), defBody (top 27), defScope (top 27)⟩, ⟨("_law_cut", none), "_law_cut", "_law_cut", defArgs (top 28), defBody (top 28), defScope (top 28)⟩, ⟨("_law_kinds", none), "_law_kinds", "_law_kinds", defArgs (top 29), defBody (top 29), defScope (top 29)⟩, ⟨("law", none), "law", "law", defArgs (top 30), defBody (top 30), defScope (top 30)⟩, ⟨("Breaks", some "__init__"), "__init__", "Breaks.__init__", defArgs (inClass (top 23) 0), defBody (inClass (top 23) 0), defScope (inClass (top 23) 0)⟩, ⟨("BadRow", some "__init__"), "__init__", "BadRow.__init__", defArgs (inClass (top 24) 0), defBody (inClass (top 24) 0), defScope (inClass (top 24) 0)⟩]
def fns : List (List He.FnD) := [fns0]
def fas0 : List He.Fa := [.glo "_law_whole", .glo "_law_alike", .glo "_law_cut", .glo "_law_kinds", .glo "law", .free "ValueError", .free "all", .free "bool", .free "int", .free "isinstance", .free "len", .free "list", .free "max", .free "min", .free "range", .free "str", .free "tuple", .free "zip", .glo "BadDay", .exc "BadDay", .glo "BadLimit", .exc "BadLimit", .glo "BadName", .exc "BadName", .glo "BadRank"]
def fas1 : List He.Fa := [.exc "BadRank", .glo "BadTariff", .exc "BadTariff", .glo "CartelError", .exc "CartelError", .glo "Full", .exc "Full", .glo "Gone", .exc "Gone", .glo "Held", .exc "Held", .glo "NoCartel", .exc "NoCartel", .glo "NoDeed", .exc "NoDeed", .glo "NoMan", .exc "NoMan", .glo "NoMen", .exc "NoMen", .glo "NoPart", .exc "NoPart", .glo "NoSide", .exc "NoSide", .glo "NoStep", .exc "NoStep"]
def fas2 : List He.Fa := [.glo "NotHeld", .exc "NotHeld", .glo "OffRoll", .exc "OffRoll", .glo "Own", .exc "Own", .glo "Taken", .exc "Taken", .glo "Twice", .exc "Twice", .glo "Uneven", .exc "Uneven", .glo "BadRow", .glo "Breaks"]
def fas : List (List He.Fa) := [fas0, fas1, fas2]
def names0 : List PySem.Str := ["__name__", "CartelError", "BadName", "Taken", "Full", "NoSide", "NoMan", "BadRank", "Own", "BadTariff", "BadLimit", "BadDay", "NoCartel", "NoMen", "Twice", "Gone", "Held", "NotHeld", "OffRoll", "Uneven", "NoPart", "NoDeed", "NoStep", "Breaks", "BadRow"]
def names1 : List PySem.Str := ["_law_whole", "_law_alike", "_law_cut", "_law_kinds"]
def names : List PySem.Str := names0 ++ (names1)
def xfs : List (PySem.W.Frag → Bool) := [kisB, kitB1, fun K => He.eqO (PySem.W.findIn K (.ref (He.ga K "Breaks")) "number") (some none), fun K => He.eqO (PySem.W.findIn K (.ref (He.ga K "BadRow")) "at") (some none), oexB "BadRow", oexB "Breaks"]
abbrev hdR : PySem.W.OpenRow := PySem.W.OpenLaw.row PySem.Challenge.rw_cartelship_k50_refusals_apart
theorem hdrun (w : World) : HandSHeadRun.RunEq hdR (PySem.W.view hdR.prog [30]) (hookK fas fns xfs) (obKT fas fns xfs) 9000 names w := by
  intro os
  kernel_rfl
theorem all_ok {w : World} {K : PySem.W.Frag} {h : Heap} {mg : Str → Option Value} (X : K.In h) (GN : h.Ns mainGlobals mg) (c : SaysK fas fns xfs K) : All K mg :=
  ⟨{ m_ValueError := He.free_ok X GN (c.fact 0 5 (f := .free "ValueError") rfl),
     m_all := He.free_ok X GN (c.fact 0 6 (f := .free "all") rfl),
     m_bool := He.free_ok X GN (c.fact 0 7 (f := .free "bool") rfl),
     m_int := He.free_ok X GN (c.fact 0 8 (f := .free "int") rfl),
     m_isinstance := He.free_ok X GN (c.fact 0 9 (f := .free "isinstance") rfl),
     m_len := He.free_ok X GN (c.fact 0 10 (f := .free "len") rfl),
     m_list := He.free_ok X GN (c.fact 0 11 (f := .free "list") rfl),
     m_max := He.free_ok X GN (c.fact 0 12 (f := .free "max") rfl),
     m_min := He.free_ok X GN (c.fact 0 13 (f := .free "min") rfl),
     m_range := He.free_ok X GN (c.fact 0 14 (f := .free "range") rfl),
     m_str := He.free_ok X GN (c.fact 0 15 (f := .free "str") rfl),
     m_tuple := He.free_ok X GN (c.fact 0 16 (f := .free "tuple") rfl),
     m_zip := He.free_ok X GN (c.fact 0 17 (f := .free "zip") rfl),
     x_BadDay := Xc.of (x := "BadDay") X GN c 0 18 0 19 rfl rfl rfl rfl,
     x_BadLimit := Xc.of (x := "BadLimit") X GN c 0 20 0 21 rfl rfl rfl rfl,
     x_BadName := Xc.of (x := "BadName") X GN c 0 22 0 23 rfl rfl rfl rfl,
     x_BadRank := Xc.of (x := "BadRank") X GN c 0 24 1 0 rfl rfl rfl rfl,
     x_BadTariff := Xc.of (x := "BadTariff") X GN c 1 1 1 2 rfl rfl rfl rfl,
     x_CartelError := Xc.of (x := "CartelError") X GN c 1 3 1 4 rfl rfl rfl rfl,
     x_Full := Xc.of (x := "Full") X GN c 1 5 1 6 rfl rfl rfl rfl,
     x_Gone := Xc.of (x := "Gone") X GN c 1 7 1 8 rfl rfl rfl rfl,
     x_Held := Xc.of (x := "Held") X GN c 1 9 1 10 rfl rfl rfl rfl,
     x_NoCartel := Xc.of (x := "NoCartel") X GN c 1 11 1 12 rfl rfl rfl rfl,
     x_NoDeed := Xc.of (x := "NoDeed") X GN c 1 13 1 14 rfl rfl rfl rfl,
     x_NoMan := Xc.of (x := "NoMan") X GN c 1 15 1 16 rfl rfl rfl rfl,
     x_NoMen := Xc.of (x := "NoMen") X GN c 1 17 1 18 rfl rfl rfl rfl,
     x_NoPart := Xc.of (x := "NoPart") X GN c 1 19 1 20 rfl rfl rfl rfl,
     x_NoSide := Xc.of (x := "NoSide") X GN c 1 21 1 22 rfl rfl rfl rfl,
     x_NoStep := Xc.of (x := "NoStep") X GN c 1 23 1 24 rfl rfl rfl rfl,
     x_NotHeld := Xc.of (x := "NotHeld") X GN c 2 0 2 1 rfl rfl rfl rfl,
     x_OffRoll := Xc.of (x := "OffRoll") X GN c 2 2 2 3 rfl rfl rfl rfl,
     x_Own := Xc.of (x := "Own") X GN c 2 4 2 5 rfl rfl rfl rfl,
     x_Taken := Xc.of (x := "Taken") X GN c 2 6 2 7 rfl rfl rfl rfl,
     x_Twice := Xc.of (x := "Twice") X GN c 2 8 2 9 rfl rfl rfl rfl,
     x_Uneven := Xc.of (x := "Uneven") X GN c 2 10 2 11 rfl rfl rfl rfl,
     g_BadRow := He.glo_ok X GN (c.fact 2 12 (f := .glo "BadRow") rfl),
     ox_BadRow := oexB_ok (c.xf 4 (b := oexB "BadRow") rfl),
     g_Breaks := He.glo_ok X GN (c.fact 2 13 (f := .glo "Breaks") rfl),
     ox_Breaks := oexB_ok (c.xf 5 (b := oexB "Breaks") rfl),
     kis := kis_ok (c.xf 0 (b := kisB) rfl),
     kit1 := kit1_ok (c.xf 1 (b := kitB1) rfl),
     no_number := He.eqO_ok (c.xf 2 (b := fun K => He.eqO (PySem.W.findIn K (.ref (He.ga K "Breaks")) "number") (some none)) rfl),
     no_at := He.eqO_ok (c.xf 3 (b := fun K => He.eqO (PySem.W.findIn K (.ref (He.ga K "BadRow")) "at") (some none)) rfl) },
    SaysK.df (x := "_law_whole") (st := s__law_whole) X GN c 0 0 0 0 rfl rfl rfl rfl,
    SaysK.df (x := "_law_alike") (st := s__law_alike) X GN c 0 1 0 1 rfl rfl rfl rfl,
    SaysK.df (x := "_law_cut") (st := s__law_cut) X GN c 0 2 0 2 rfl rfl rfl rfl,
    SaysK.df (x := "_law_kinds") (st := s__law_kinds) X GN c 0 3 0 3 rfl rfl rfl rfl,
    SaysK.mf (C := "Breaks") (m := "__init__") (qual := "Breaks.__init__") (st := s_Breaks___init__) c 0 5 rfl rfl,
    SaysK.mf (C := "BadRow") (m := "__init__") (qual := "BadRow.__init__") (st := s_BadRow___init__) c 0 6 rfl rfl⟩
end Law
open PySem PySem.W PySem.Calls PyProof.Rows
theorem PySem.Challenge.cw_cartelship_k50_refusals_apart_holds : PySem.Challenge.rw_cartelship_k50_refusals_apart.Holds := by
  w_on; o_law
  refine HandSHeadRun.head_any (r := OpenLaw.row PySem.Challenge.rw_cartelship_k50_refusals_apart) (q := view (OpenLaw.row PySem.Challenge.rw_cartelship_k50_refusals_apart).prog [30]) (H := G.hookK Law.fas Law.fns Law.xfs) (ob := G.obKT Law.fas Law.fns Law.xfs) (M := 9000) (loose := Law.names) (d := HandSHeadRun.topDef (OpenLaw.row PySem.Challenge.rw_cartelship_k50_refusals_apart).prog 30) (kwd := []) (G.obKT_eq Law.fas Law.fns Law.xfs)
    (by kernel_rfl) (fun s => by kernel_rfl) Law.hdrun (by kernel_rfl) (by kernel_rfl) (by kernel_rfl) (by rfl) (by first | assumption | decide +kernel) (by decide +kernel) ⟨rfl, rfl, rfl, rfl, rfl, by decide +kernel⟩ ?hw ?hc
  case hw => w_witness2
  case hc =>
    refine G.walk_ofEB (l := PySem.Challenge.rw_cartelship_k50_refusals_apart) (n := 63) (k := 7) (x := "_law_script") (CX := L2.CX0) rfl (by decide) (by kernel_rfl) ⟨rfl, by decide, by decide⟩ ?F (fun _ _ _ _ z => z)
    intro w mg fa h Y GN hmg0
    obtain ⟨K, KX, c⟩ := Y
    have hmg : mg ("law" : PySem.Str) = some (.ref fa) := by
      have e : (HandSHeadRun.topDef (OpenLaw.row PySem.Challenge.rw_cartelship_k50_refusals_apart).prog 30).name = ("law" : PySem.Str) := by kernel_rfl
      rw [← e]
      exact hmg0
    obtain ⟨kp, oc, od, osl, kV, doc, pm, an, cdv, ct, lk, cd⟩ := G.SaysK.def_ c 0 4 (d := ⟨("law", none), "law", "law", L2.defArgs Law.s_law, L2.defBody Law.s_law, L2.defScope Law.s_law⟩) rfl rfl
    have e := hmg.symm.trans (He.glo_ok KX GN (G.SaysK.fact c 0 4 (f := .glo "law") rfl rfl))
    cases e
    exact ⟨K, _, G.spLaw K, KX, fun s v => .of_eq rfl, fun H a ns hl hb _ hS => ⟨a, ns, rfl, hS, hl, hb, fun _ => rfl⟩, fun base _ _ => Law.chain (Law.all_ok (w := w) KX GN c) (L2.fun_mk (st := Law.s_law) lk cd kp)⟩
#print axioms PySem.Challenge.cw_cartelship_k50_refusals_apart_holds


