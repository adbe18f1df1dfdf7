import PyProof.Rows.All
import Wide.All
import OpenK.AllK
import Wide.FinOn
import HandS.ForMost
import HandS.Evl
import HandS.IsInst
import HandS.Wide
import HandS.WideBits
import HandS.RevRange
import HandS.Walk
import HandS.Zip
import HandS.EndBits
import HandS.Style
import HandS.Exc
import HandS.ExcOwn
import HandS.WordsExc
import HandS.TryOnly
import HandS.ExcIs
import KE.KStateDown
import HandS.Head0
import HandS.Head1
import HandS.Head2
import HandS.HeadEnd
import HandS.HeadHook1
import HandS.Sort
import HandS.SortInts
import HandS.SortKw
import HandS.TupAny
import HandS.ExcCtx
import HandS.More
import HandS.ExcValue
import HandS.ExcInit
import KE.KExcIs
import PyProof.StrOps2
import HandS.HotCalls
import HandS.SetFor
import HandS.FStr
import HandS.TupLe
import HandS.HeadHook3
import HandS.ExcField
import HandS.RaiseMore
import HandS.Text
import HandS.NoneIn
import KE.KIntText
import PyProof.StrLawsReplace
import KE.KDictOf
import KE.KDictCopyH
import HandS.Conv
import HandS.SuiteRaise
import HandS.RaiseFrom
import HandS.ExcInitHot
import HandS.SortRule
import HandS.Strs
import HandS.List
import PySem.Challenge.RW_cartelship_k51_two_refusals_due
set_option Elab.async false
set_option linter.all false
set_option maxRecDepth 100000
set_option maxHeartbeats 0
set_option synthInstance.maxHeartbeats 0
set_option synthInstance.maxSize 100000
namespace G
open PySem PySem.Spec PyProof.Rows L2
def frN (g : Addr → Option Obj) (n : Nat) : PySem.W.Frag := He.frG g (List.range n)
abbrev AlK : Type := (Bool × Bool) × List (List He.FnV)
def obsK (fa : List (List He.Fa)) (fn : List (List He.FnD)) (ex : List (PySem.W.Frag → Bool)) (K : PySem.W.Frag) : AlK :=
  (((fa.all fun l => l.all fun f => f.ok K) && (fn.all fun l => l.all fun d => (He.Fa.code d.at_ d.qual).ok K && PySem.W.keepIn K (.ref (He.fAd K d.at_))), ex.all fun b => b K), fn.map fun l => l.map fun d => He.fnObs K d.at_)
def valK (fn : List (List He.FnD)) : AlK := ((true, true), fn.map fun l => l.map He.FnD.val)
def SaysK (fa : List (List He.Fa)) (fn : List (List He.FnD)) (ex : List (PySem.W.Frag → Bool)) (K : PySem.W.Frag) : Prop := obsK fa fn ex K = valK fn
def hookK (fa : List (List He.Fa)) (fn : List (List He.FnD)) (ex : List (PySem.W.Frag → Bool)) : PySem.W.Hook where
  α := AlK
  obs := fun s => obsK fa fn ex (frN s.heap.get? s.heap.objs.size)
  val := fun _ => valK fn
  says := fun _ h => ∃ K : PySem.W.Frag, K.In h ∧ SaysK fa fn ex K
  of := fun _ _ e => ⟨_, He.frG_in, e⟩
  keeps := fun _ _ _ ⟨K, hK, c⟩ k => ⟨K, PySem.W.Frag.In.keeps hK k, c⟩
def obKT (fa : List (List He.Fa)) (fn : List (List He.FnD)) (ex : List (PySem.W.Frag → Bool)) (s : PySem.W.SharedT) : AlK := obsK fa fn ex (frN (HandSHeadRun.getT s) s.n)
theorem obKT_eq (fa : List (List He.Fa)) (fn : List (List He.FnD)) (ex : List (PySem.W.Frag → Bool)) (s : PySem.W.SharedT) : obKT fa fn ex s = (hookK fa fn ex).obs s.abs := by
  have e : HandSHeadRun.getT s = s.abs.heap.get? := funext (HandSHeadRun.getT_eq s)
  have e2 : s.abs.heap.objs.size = s.n := PySem.W.absHeap_size s.tree s.n _
  unfold obKT
  rw [e, ← e2]
  rfl
def excCB (x : Str) (K : PySem.W.Frag) : Bool :=
  He.eqO (PySem.W.findIn K (.ref (He.ga K x)) "__getattribute__") (some (some (.builtin "BaseException.__getattribute__"))) && (He.eqO (PySem.W.findIn K (.ref (He.ga K x)) "__getattr__") (some none) && (decide (PySem.W.subIn K (.ref (He.ga K x)) (.type "BaseException") = some true) && (PySem.W.hasDictIn K (He.ga K x) &&
    (He.eqO (PySem.W.findIn K (.ref (He.ga K x)) "__class__") (some (some (.builtin "object.__class__"))) && (He.eqO (PySem.W.specialIn K (.builtin "object.__class__") "__get__") (some (some (.builtin "getset_descriptor.__get__"))) && (decide (PySem.W.takesIn K (.builtin "object.__class__") = some true) && decide (PySem.W.mroIn K (He.ga K x) (.type "object") = some true)))))))
def oexB (x : Str) (K : PySem.W.Frag) : Bool := (match K.lookup (He.ga K x) with
  | some ⟨.type "type", _, .cls cd, sl⟩ => (match cd.mro, sl.toList with
    | .ref C' :: bm, [_, _, _, _, some (.builtin n), _] => C' == He.ga K x && n == "ValueError.__new__" && !cd.hasDel && cd.hasDict && PySem.HandSPX.refsVE bm
    | _, _ => false)
  | _ => false) &&
  (He.eqO (PySem.W.findIn K (.ref (He.ga K x)) "__setattr__") (some (some (.builtin "object.__setattr__"))) && (decide (PySem.W.subIn K (.ref (He.ga K x)) (.type "BaseException") = some true) && (decide (PySem.W.typeIn K (.ref (He.ga K x)) = some (.type "type")) && (PySem.W.keepIn K (.ref (He.ga K x)) &&
  (He.eqO (PySem.W.findIn K (.ref (He.ga K x)) "__init__") (some (some (.ref (He.ma K (He.ga K x) "__init__")))) && decide (PySem.W.typeIn K (.ref (He.ma K (He.ga K x) "__init__")) = some (.type "function")))))))
abbrev TabK : Type := Str × List Str
abbrev AlT : Type := AlK × List (Option (List (Option (Str × Int))))
def obsT (fa : List (List He.Fa)) (fn : List (List He.FnD)) (ex : List (PySem.W.Frag → Bool)) (ts : List TabK) (K : PySem.W.Frag) : AlT := (obsK fa fn ex K, ts.map fun t => He.dicW K (He.ga K t.1))
def valT (fn : List (List He.FnD)) (ts : List TabK) (w : World) : AlT := (valK fn, ts.map fun t => some (He.keysIn w.params t.2))
def SaysT (fa : List (List He.Fa)) (fn : List (List He.FnD)) (ex : List (PySem.W.Frag → Bool)) (ts : List TabK) (w : World) (K : PySem.W.Frag) : Prop := obsT fa fn ex ts K = valT fn ts w
def hookT (fa : List (List He.Fa)) (fn : List (List He.FnD)) (ex : List (PySem.W.Frag → Bool)) (ts : List TabK) : PySem.W.Hook where
  α := AlT
  obs := fun s => obsT fa fn ex ts (frN s.heap.get? s.heap.objs.size)
  val := fun w => valT fn ts w
  says := fun w h => ∃ K : PySem.W.Frag, K.In h ∧ SaysT fa fn ex ts w K
  of := fun _ _ e => ⟨_, He.frG_in, e⟩
  keeps := fun _ _ _ ⟨K, hK, c⟩ k => ⟨K, PySem.W.Frag.In.keeps hK k, c⟩
def obTT (fa : List (List He.Fa)) (fn : List (List He.FnD)) (ex : List (PySem.W.Frag → Bool)) (ts : List TabK) (s : PySem.W.SharedT) : AlT := obsT fa fn ex ts (frN (HandSHeadRun.getT s) s.n)
theorem obTT_eq (fa : List (List He.Fa)) (fn : List (List He.FnD)) (ex : List (PySem.W.Frag → Bool)) (ts : List TabK) (s : PySem.W.SharedT) : obTT fa fn ex ts s = (hookT fa fn ex ts).obs s.abs := by
  have e : HandSHeadRun.getT s = s.abs.heap.get? := funext (HandSHeadRun.getT_eq s)
  have e2 : s.abs.heap.objs.size = s.n := PySem.W.absHeap_size s.tree s.n _
  unfold obTT
  rw [e, ← e2]
  rfl
def tabB (x : Str) (kvs : List (Str × Int)) (no : List Str) (K : PySem.W.Frag) : Bool := (kvs.all fun q => match PySem.W.nsIn K (He.ga K x) q.1 with
  | some (some (.int i _)) => decide (i = q.2)
  | _ => false) && (no.all fun z => match PySem.W.nsIn K (He.ga K x) z with
  | some none => true
  | _ => false)
end G
namespace Law
open PySem PySem.Spec PyProof.Rows L2 Evl RZ G
def top (i : Nat) : Stmt := PySem.Challenge.pw_cartelship_k51_two_refusals_due.main.body.getD i (.Pass ⟨0, 0, 0, 0⟩)
def xcls : List Str := ["BadName", "Taken", "Full", "NoSide", "NoMan", "BadRank", "Own", "BadTariff", "BadLimit", "BadDay", "NoCartel", "NoMen", "Twice", "Gone", "Held", "NotHeld", "OffRoll", "Uneven", "NoDeed", "Breaks"]
/-- isinstance tells the classes apart -/
def kisB (K : PySem.W.Frag) : Bool := xcls.all fun x => xcls.all fun y => decide (PySem.W.kitOne K (.ref (He.ga K x)) (.ref (He.ga K y)) = some (x == y))
def kitB1 (K : PySem.W.Frag) : Bool := xcls.all fun x => excCB x K && (decide (PySem.W.exmOne K (.ref (He.ga K x)) (.ref (He.ga K "CartelError")) = some true) && decide (PySem.W.kitOne K (.ref (He.ga K x)) (.type "ValueError") = some true))
def fns0 : List He.FnD := [⟨("good_tariff", none), "good_tariff", "good_tariff", defArgs (top 26), defBody (top 26), defScope (top 26)⟩, ⟨("in_order", none), "in_order", "in_order", defArgs (top 33), defBody (top 33), defScope (top 33)⟩, ⟨("look_through", none), "look_through", "look_through", defArgs (top 35), defBody (top 35), defScope (top 35)⟩, ⟨("all_in", none), "all_in", "all_in", defArgs (top 39), defBody (top 39), defScope (top 39)⟩, ⟨("is_name", none), "is_name", "is_name", defArgs (top 40), defBody (top 40), defScope (top 40)⟩, ⟨("pair_of", none), "pair_of", "pair_of", defArgs (top 47), defBody (top 47), defScope (top 47)⟩, ⟨("_law_box", none), "_law_box", "_law_box", defArgs (top 50), defBody (top 50), defScope (top 50)⟩, ⟨("_law_mixed", none), "_law_mixed", "_law_mixed", defArgs (top 51), defBody (top 51), defScope (top 51)⟩, ⟨("_law_take", none), "_law_take", "_law_take", defArgs (top 52), defBody (top 52), defScope (top 52)⟩, ⟨("_law_named", none), "_law_named", "_law_named", defArgs (top 53), defBody (top 53), defScope (top 53)⟩, ⟨("_law_called", none), "_law_called", "_law_called", defArgs (top 54), defBody (top 54), defScope (top 54)⟩, ⟨("_law_many_names", none), "_law_many_names", "_law_many_names", defArgs (top 55), defBody (top 55), defScope (top 55)⟩, ⟨("_law_limit_first", none), "_law_limit_first", "_law_limit_first", defArgs (top 56), defBody (top 56), defScope (top 56)⟩, ⟨("_law_wrong_names", none), "_law_wrong_names", "_law_wrong_names", defArgs (top 57), defBody (top 57), defScope (top 57)⟩, ⟨("_law_wrong_deed", none), "_law_wrong_deed", "_law_wrong_deed", defArgs (top 58), defBody (top 58), defScope (top 58)⟩, ⟨("_law_refused", none), "_law_refused", "_law_refused", defArgs (top 59), defBody (top 59), defScope (top 59)⟩, ⟨("law", none), "law", "law", defArgs (top 60), defBody (top 60), defScope (top 60)⟩, ⟨("Breaks", some "__init__"), "__init__", "Breaks.__init__", defArgs (inClass (top 22) 0), defBody (inClass (top 22) 0), defScope (inClass (top 22) 0)⟩, ⟨("Man", some "__init__"), "__init__", "Man.__init__", defArgs (inClass (top 31) 0), defBody (inClass (top 31) 0), defScope (inClass (top 31) 0)⟩, ⟨("Man", some "on_roll"), "on_roll", "Man.on_roll", defArgs (inClass (top 31) 1), defBody (inClass (top 31) 1), defScope (inClass (top 31) 1)⟩, ⟨("Man", some "goes_from"), "goes_from", "Man.goes_from", defArgs (inClass (top 31) 3), defBody (inClass (top 31) 3), defScope (inClass (top 31) 3)⟩, ⟨("Scene", some "__init__"), "__init__", "Scene.__init__", defArgs (inClass (top 32) 0), defBody (inClass (top 32) 0), defScope (inClass (top 32) 0)⟩, ⟨("Scene", some "living"), "living", "Scene.living", defArgs (inClass (top 32) 1), defBody (inClass (top 32) 1), defScope (inClass (top 32) 1)⟩, ⟨("Scene", some "kept"), "kept", "Scene.kept", defArgs (inClass (top 32) 2), defBody (inClass (top 32) 2), defScope (inClass (top 32) 2)⟩, ⟨("Scene", some "taken"), "taken", "Scene.taken", defArgs (inClass (top 32) 3), defBody (inClass (top 32) 3), defScope (inClass (top 32) 3)⟩]
def fns1 : List He.FnD := [⟨("Scene", some "sent"), "sent", "Scene.sent", defArgs (inClass (top 32) 4), defBody (inClass (top 32) 4), defScope (inClass (top 32) 4)⟩, ⟨("Scene", some "let_go"), "let_go", "Scene.let_go", defArgs (inClass (top 32) 5), defBody (inClass (top 32) 5), defScope (inClass (top 32) 5)⟩, ⟨("Scene", some "graded"), "graded", "Scene.graded", defArgs (inClass (top 32) 6), defBody (inClass (top 32) 6), defScope (inClass (top 32) 6)⟩, ⟨("Scene", some "dies"), "dies", "Scene.dies", defArgs (inClass (top 32) 7), defBody (inClass (top 32) 7), defScope (inClass (top 32) 7)⟩, ⟨("Scene", some "gone_over"), "gone_over", "Scene.gone_over", defArgs (inClass (top 32) 8), defBody (inClass (top 32) 8), defScope (inClass (top 32) 8)⟩, ⟨("Scene", some "swapped"), "swapped", "Scene.swapped", defArgs (inClass (top 32) 9), defBody (inClass (top 32) 9), defScope (inClass (top 32) 9)⟩, ⟨("Scene", some "befalls"), "befalls", "Scene.befalls", defArgs (inClass (top 32) 10), defBody (inClass (top 32) 10), defScope (inClass (top 32) 10)⟩, ⟨("Book", some "__init__"), "__init__", "Book.__init__", defArgs (inClass (top 48) 0), defBody (inClass (top 48) 0), defScope (inClass (top 48) 0)⟩, ⟨("Book", some "state"), "state", "Book.state", defArgs (inClass (top 48) 1), defBody (inClass (top 48) 1), defScope (inClass (top 48) 1)⟩, ⟨("Book", some "keep"), "keep", "Book.keep", defArgs (inClass (top 48) 3), defBody (inClass (top 48) 3), defScope (inClass (top 48) 3)⟩, ⟨("Book", some "need_side"), "need_side", "Book.need_side", defArgs (inClass (top 48) 5), defBody (inClass (top 48) 5), defScope (inClass (top 48) 5)⟩, ⟨("Book", some "need_man"), "need_man", "Book.need_man", defArgs (inClass (top 48) 6), defBody (inClass (top 48) 6), defScope (inClass (top 48) 6)⟩, ⟨("Book", some "need_two"), "need_two", "Book.need_two", defArgs (inClass (top 48) 7), defBody (inClass (top 48) 7), defScope (inClass (top 48) 7)⟩, ⟨("Book", some "need_cartel"), "need_cartel", "Book.need_cartel", defArgs (inClass (top 48) 8), defBody (inClass (top 48) 8), defScope (inClass (top 48) 8)⟩, ⟨("Book", some "side"), "side", "Book.side", defArgs (inClass (top 48) 9), defBody (inClass (top 48) 9), defScope (inClass (top 48) 9)⟩, ⟨("Book", some "man"), "man", "Book.man", defArgs (inClass (top 48) 10), defBody (inClass (top 48) 10), defScope (inClass (top 48) 10)⟩, ⟨("Book", some "cartel"), "cartel", "Book.cartel", defArgs (inClass (top 48) 11), defBody (inClass (top 48) 11), defScope (inClass (top 48) 11)⟩, ⟨("Book", some "need_day"), "need_day", "Book.need_day", defArgs (inClass (top 48) 12), defBody (inClass (top 48) 12), defScope (inClass (top 48) 12)⟩, ⟨("Book", some "enter"), "enter", "Book.enter", defArgs (inClass (top 48) 13), defBody (inClass (top 48) 13), defScope (inClass (top 48) 13)⟩, ⟨("Book", some "of_man"), "of_man", "Book.of_man", defArgs (inClass (top 48) 14), defBody (inClass (top 48) 14), defScope (inClass (top 48) 14)⟩, ⟨("Book", some "take"), "take", "Book.take", defArgs (inClass (top 48) 15), defBody (inClass (top 48) 15), defScope (inClass (top 48) 15)⟩, ⟨("Book", some "word"), "word", "Book.word", defArgs (inClass (top 48) 16), defBody (inClass (top 48) 16), defScope (inClass (top 48) 16)⟩, ⟨("Book", some "die"), "die", "Book.die", defArgs (inClass (top 48) 19), defBody (inClass (top 48) 19), defScope (inClass (top 48) 19)⟩, ⟨("Book", some "rank"), "rank", "Book.rank", defArgs (inClass (top 48) 20), defBody (inClass (top 48) 20), defScope (inClass (top 48) 20)⟩, ⟨("Book", some "swap"), "swap", "Book.swap", defArgs (inClass (top 48) 21), defBody (inClass (top 48) 21), defScope (inClass (top 48) 21)⟩]
def fns2 : List He.FnD := [⟨("Book", some "redate"), "redate", "Book.redate", defArgs (inClass (top 48) 23), defBody (inClass (top 48) 23), defScope (inClass (top 48) 23)⟩, ⟨("Book", some "sides"), "sides", "Book.sides", defArgs (inClass (top 48) 26), defBody (inClass (top 48) 26), defScope (inClass (top 48) 26)⟩, ⟨("Book", some "men"), "men", "Book.men", defArgs (inClass (top 48) 27), defBody (inClass (top 48) 27), defScope (inClass (top 48) 27)⟩, ⟨("Book", some "cartels"), "cartels", "Book.cartels", defArgs (inClass (top 48) 28), defBody (inClass (top 48) 28), defScope (inClass (top 48) 28)⟩, ⟨("Book", some "deeds"), "deeds", "Book.deeds", defArgs (inClass (top 48) 29), defBody (inClass (top 48) 29), defScope (inClass (top 48) 29)⟩]
def fns : List (List He.FnD) := [fns0, fns1, fns2]
def fas0 : List He.Fa := [.glo "good_tariff", .glo "in_order", .glo "look_through", .glo "all_in", .glo "is_name", .glo "pair_of", .glo "_law_box", .glo "_law_mixed", .glo "_law_take", .glo "_law_named", .glo "_law_called", .glo "_law_many_names", .glo "_law_limit_first", .glo "_law_wrong_names", .glo "_law_wrong_deed", .glo "_law_refused", .glo "law", .free "ValueError", .free "abs", .free "all", .free "dict", .free "int", .free "isinstance", .free "len", .free "list"]
def fas1 : List He.Fa := [.free "max", .free "min", .free "range", .free "set", .free "sorted", .free "tuple", .free "zip", .int "LAST_DAY" 1000000, .int "MOST_DEEDS" 120, .int "MOST_LETTERS" 8, .int "MOST_LIMIT" 1000000, .int "MOST_MEN" 40, .int "MOST_RANKS" 6, .int "MOST_SIDES" 6, .int "MOST_WORTH" 10000, .glo "BadDay", .exc "BadDay", .glo "BadLimit", .exc "BadLimit", .glo "BadName", .exc "BadName", .glo "BadRank", .exc "BadRank", .glo "BadTariff", .exc "BadTariff"]
def fas2 : List He.Fa := [.glo "CartelError", .exc "CartelError", .glo "Full", .exc "Full", .glo "Gone", .exc "Gone", .glo "Held", .exc "Held", .glo "NoCartel", .exc "NoCartel", .glo "NoDeed", .exc "NoDeed", .glo "NoMan", .exc "NoMan", .glo "NoMen", .exc "NoMen", .glo "NoSide", .exc "NoSide", .glo "NotHeld", .exc "NotHeld", .glo "OffRoll", .exc "OffRoll", .glo "Own", .exc "Own", .glo "Taken"]
def fas3 : List He.Fa := [.exc "Taken", .glo "Twice", .exc "Twice", .glo "Uneven", .exc "Uneven", .glo "Breaks", .cls "Book", .cls "Man", .cls "Scene", .mkr "Book", .glo "Book", .mkr "Man", .glo "Man", .mkr "Scene", .glo "Scene", .noat "Book" "banners", .noat "Book" "folk", .noat "Book" "future", .noat "Book" "later", .noat "Book" "pacts", .noat "Book" "past", .noat "Book" "told", .noat "Man" "bonds", .noat "Man" "caught", .noat "Man" "dead"]
def fas4 : List He.Fa := [.noat "Man" "grade", .noat "Man" "home", .noat "Man" "keeper", .noat "Scene" "crew", .noat "Scene" "dues", .noat "Scene" "pacts", .meth "Book" "cartel", .meth "Book" "cartels", .meth "Book" "deeds", .meth "Book" "die", .meth "Book" "enter", .meth "Book" "keep", .meth "Book" "man", .meth "Book" "men", .meth "Book" "need_cartel", .meth "Book" "need_day", .meth "Book" "need_man", .meth "Book" "need_side", .meth "Book" "need_two", .meth "Book" "of_man", .meth "Book" "rank", .meth "Book" "redate", .meth "Book" "side", .meth "Book" "sides", .meth "Book" "state"]
def fas5 : List He.Fa := [.meth "Book" "swap", .meth "Book" "take", .meth "Book" "word", .meth "Man" "goes_from", .meth "Man" "on_roll", .meth "Scene" "befalls", .meth "Scene" "dies", .meth "Scene" "gone_over", .meth "Scene" "graded", .meth "Scene" "kept", .meth "Scene" "let_go", .meth "Scene" "living", .meth "Scene" "sent", .meth "Scene" "swapped", .meth "Scene" "taken", .str "LETTERS" "abcdefghijklmnopqrstuvwxyz"]
def fas : List (List He.Fa) := [fas0, fas1, fas2, fas3, fas4, fas5]
def names0 : List PySem.Str := ["_wall", "__name__", "CartelError", "BadName", "Taken", "Full", "NoSide", "NoMan", "BadRank", "Own", "BadTariff", "BadLimit", "BadDay", "NoCartel", "NoMen", "Twice", "Gone", "Held", "NotHeld", "OffRoll", "Uneven", "NoDeed", "Breaks", "MOST_RANKS", "MOST_WORTH"]
def names1 : List PySem.Str := ["good_tariff", "place_of", "roll_of", "Man", "Scene", "in_order", "scene_at", "look_through", "LETTERS", "MOST_LETTERS", "all_in", "is_name", "MOST_SIDES", "MOST_MEN", "MOST_DEEDS", "LAST_DAY", "MOST_LIMIT", "pair_of", "Book", "_law_box", "_law_mixed", "_law_take", "_law_named", "_law_called", "_law_many_names"]
def names2 : List PySem.Str := ["_law_limit_first", "_law_wrong_names", "_law_wrong_deed", "_law_refused"]
def names : List PySem.Str := names0 ++ (names1 ++ (names2))
def xfs : List (PySem.W.Frag → Bool) := [kisB, kitB1, fun K => He.eqO (PySem.W.findIn K (.ref (He.ga K "Breaks")) "number") (some none), oexB "Breaks"]
abbrev hdR : PySem.W.OpenRow := PySem.W.OpenLaw.row PySem.Challenge.rw_cartelship_k51_two_refusals_due
theorem hdrun (w : World) : HandSHeadRun.RunEq hdR (PySem.W.view hdR.prog [60]) (hookK fas fns xfs) (obKT fas fns xfs) 12000 names w := by
  intro os
  kernel_rfl
end Law
set_option Elab.async false
set_option linter.all false
set_option maxRecDepth 100000
set_option synthInstance.maxHeartbeats 0
set_option synthInstance.maxSize 100000
/-! Own layer over HandS: readings run one step at a time. -/
namespace G
open PySem PySem.Spec PyProof.Rows L2 Evl RZ
/-! ### continuations with names of their own -/
def bQ (Q : Bool → Hp → Prop) : VK := fun x H => ∃ k, x = .bl k ∧ Q k H
def opQ2 (r : R2) (x : V) (Q : VK) : VK := fun y H => r x y H Q
def opQ1 (r : R2) (tb : TE) (σ : L2.St) (Q : VK) : VK := fun x H => tb σ H (opQ2 r x Q)
def unQ (r : V → Hp → VK → Prop) (Q : VK) : VK := fun x H => r x H Q
def andQ (u : TT) (σ : L2.St) (Q : Bool → Hp → Prop) : Bool → Hp → Prop := fun c H => if c = true then u σ H Q else Q false H
def orQ (u : TT) (σ : L2.St) (Q : Bool → Hp → Prop) : Bool → Hp → Prop := fun c H => if c = true then Q true H else u σ H Q
def notQ (Q : Bool → Hp → Prop) : Bool → Hp → Prop := fun c H => Q (!c) H
def ifQ (t u : TS) (D : Ends) (σ : L2.St) : Bool → Hp → Prop := fun b H => if b = true then t D σ H else u D σ H
def iteQ (ta tb : TE) (σ : L2.St) (Q : VK) : Bool → Hp → Prop := fun c H => if c = true then ta σ H Q else tb σ H Q
def asgQ (g : TG) (D : Ends) (σ : L2.St) : VK := fun x H => g x σ H D.nx
def dropQ (D : Ends) (σ : L2.St) : VK := fun _ H => D.nx σ H
def consQ (tr : TA) (σ : L2.St) (Q : List V → Hp → Prop) : VK := fun x H => tr σ H fun xs H2 => Q (x :: xs) H2
def callQ (sp : Sp) (Q : VK) (E : XK) : List V → Hp → Prop := fun vs H => sp (vs ++ []) H Q E
def cbQ (r : List V → Hp → VK → Prop) (Q : VK) : List V → Hp → Prop := fun vs H => r vs H Q
def lstQ (Q : VK) : List V → Hp → Prop := fun xs H => xs.length ≤ sizeLine ∧ ∀ p, H p = none → Q (.ref p) (upd H p (.lst xs))
def tupQ (Q : VK) : List V → Hp → Prop := fun xs H => xs.length ≤ sizeLine ∧ ∀ p, H p = none → Q (.ref p) (upd H p (.tup xs))
def andVQ (tb : TE) (σ : L2.St) (Q : VK) : VK := fun x H => ∃ c, x = .bl c ∧ if c = true then tb σ H Q else Q (.bl false) H
def orVQ (tb : TE) (σ : L2.St) (Q : VK) : VK := fun x H => ∃ c, x = .bl c ∧ if c = true then Q (.bl true) H else tb σ H Q
def notVQ (Q : VK) : VK := fun x H => ∃ c, x = .bl c ∧ Q (.bl (!c)) H
section
variable {K : PySem.W.Frag} {σ : L2.St} {H H1 : Hp} {Q : VK} {QB : Bool → Hp → Prop} {QA : List V → Hp → Prop} {v x y : V} {ta tb te : TE} {t u : TS} {c d : TT} {D : Ends} {r : R2} {i : Nat} {g : TG} {tr : TA} {sp : Sp} {E : XK}
/-! ### expressions -/
theorem x_var (h : σ[i]? = some (some v)) (k : Q v H) : tVar i σ H Q := ⟨v, h, k⟩
theorem x_c (k : Q v H) : tC v σ H Q := k
theorem x_op (k : ta σ H (opQ1 r tb σ Q)) : tOp r ta tb σ H Q := k
theorem x_opQ1 (k : tb σ H (opQ2 r x Q)) : opQ1 r tb σ Q x H := k
theorem x_opQ2 (k : r x y H Q) : opQ2 r x Q y H := k
theorem x_un {q : V → Hp → VK → Prop} (k : ta σ H (unQ q Q)) : tUn q ta σ H Q := k
theorem x_unQ {q : V → Hp → VK → Prop} (k : q x H Q) : unQ q Q x H := k
theorem x_I0 {f : Int → Int → V} {a b : Int} (k : Q (f a b) H) : rI0 f (.int a) (.int b) H Q := ⟨a, b, rfl, rfl, k⟩
theorem x_I {C : Int → Int → Prop} {f : Int → Int → V} {a b : Int} (h : C a b) (k : Q (f a b) H) : rI C f (.int a) (.int b) H Q := ⟨a, b, rfl, rfl, h, k⟩
theorem x_rU {f : Int → V} {a : Int} (k : Q (f a) H) : rU f (.int a) H Q := ⟨a, rfl, k⟩
theorem x_eq (h : scal x y = true) (k : Q (.bl (decide (x = y))) H) : rEq x y H Q := ⟨h, k⟩
theorem x_ne (h : scal x y = true) (k : Q (.bl (!decide (x = y))) H) : rNe x y H Q := ⟨h, k⟩
theorem x_eqI {a b : Int} (k : Q (.bl (decide (a = b))) H) : rEq (.int a) (.int b) H Q := ⟨rfl, by
  have e : decide (V.int a = V.int b) = decide (a = b) := by
    by_cases h : a = b
    · rw [decide_eq_true h, decide_eq_true (congrArg V.int h)]
    · rw [decide_eq_false h, decide_eq_false (fun q => h (V.int.inj q))]
  rw [e]; exact k⟩
theorem x_neI {a b : Int} (k : Q (.bl (decide (a ≠ b))) H) : rNe (.int a) (.int b) H Q := ⟨rfl, by
  have e : (!decide (V.int a = V.int b)) = decide (a ≠ b) := by
    by_cases h : a = b
    · rw [decide_eq_false (fun q : a ≠ b => q h), decide_eq_true (congrArg V.int h)]; rfl
    · rw [decide_eq_true h, decide_eq_false (fun q => h (V.int.inj q))]; rfl
  rw [e]; exact k⟩
theorem x_eqS {a b : Str} (k : Q (.bl (decide (a = b))) H) : rEq (.str a) (.str b) H Q := ⟨rfl, by
  have e : decide (V.str a = V.str b) = decide (a = b) := by
    by_cases h : a = b
    · rw [decide_eq_true h, decide_eq_true (congrArg V.str h)]
    · rw [decide_eq_false h, decide_eq_false (fun q => h (V.str.inj q))]
  rw [e]; exact k⟩
theorem x_neS {a b : Str} (k : Q (.bl (decide (a ≠ b))) H) : rNe (.str a) (.str b) H Q := ⟨rfl, by
  have e : (!decide (V.str a = V.str b)) = decide (a ≠ b) := by
    by_cases h : a = b
    · rw [decide_eq_false (fun q : a ≠ b => q h), decide_eq_true (congrArg V.str h)]; rfl
    · rw [decide_eq_true h, decide_eq_false (fun q => h (V.str.inj q))]; rfl
  rw [e]; exact k⟩
theorem x_eqB {a b : Bool} (k : Q (.bl (a == b)) H) : rEq (.bl a) (.bl b) H Q := ⟨rfl, by
  have e : decide (V.bl a = V.bl b) = (a == b) := dec_bl
  rw [e]; exact k⟩
theorem x_neB {a b : Bool} (k : Q (.bl (a != b)) H) : rNe (.bl a) (.bl b) H Q := ⟨rfl, by
  have e : decide (V.bl a = V.bl b) = (a == b) := dec_bl
  rw [e]; exact k⟩
theorem x_neBs {a : Bool} (k : Q (.bl false) H) : rNe (.bl a) (.bl a) H Q := ⟨rfl, by rw [decide_eq_true rfl]; exact k⟩
theorem x_eqBs {a : Bool} (k : Q (.bl true) H) : rEq (.bl a) (.bl a) H Q := ⟨rfl, by rw [decide_eq_true rfl]; exact k⟩
theorem x_gN {R : L2.St → Hp → Prop} (k : R (σ.set i (some v)) H) : gName i v σ H R := k
theorem x_test (k : ta σ H (bQ QB)) : tTest ta σ H QB := k
theorem x_tB (k : ta σ H (bQ QB)) : tB ta σ H QB := k
theorem x_bQ {b : Bool} (k : QB b H) : bQ QB (.bl b) H := ⟨b, rfl, k⟩
theorem x_and (k : c σ H (andQ d σ QB)) : tAnd c d σ H QB := k
theorem x_or (k : c σ H (orQ d σ QB)) : tOr c d σ H QB := k
theorem x_not (k : c σ H (notQ QB)) : tNot c σ H QB := k
theorem x_notQ {b : Bool} (k : QB (!b) H) : notQ QB b H := k
theorem x_andQ {b : Bool} (h1 : b = true → d σ H QB) (h2 : b = false → QB false H) : andQ d σ QB b H := by
  unfold andQ
  cases b with
  | true => exact h1 rfl
  | false => exact h2 rfl
theorem x_orQ {b : Bool} (h1 : b = true → QB true H) (h2 : b = false → d σ H QB) : orQ d σ QB b H := by
  unfold orQ
  cases b with
  | true => exact h1 rfl
  | false => exact h2 rfl
theorem x_ifExp (k : c σ H (iteQ ta tb σ Q)) : tIf c ta tb σ H Q := k
theorem x_iteQ {b : Bool} (h1 : b = true → ta σ H Q) (h2 : b = false → tb σ H Q) : iteQ ta tb σ Q b H := by
  unfold iteQ
  cases b with
  | true => exact h1 rfl
  | false => exact h2 rfl
theorem x_andV (k : ta σ H (andVQ tb σ Q)) : tAndV ta tb σ H Q := k
theorem x_orV (k : ta σ H (orVQ tb σ Q)) : tOrV ta tb σ H Q := k
theorem x_notV (k : ta σ H (notVQ Q)) : tNotV ta σ H Q := k
theorem x_notVQ {b : Bool} (k : Q (.bl (!b)) H) : notVQ Q (.bl b) H := ⟨b, rfl, k⟩
theorem x_andVQ {b : Bool} (h1 : b = true → tb σ H Q) (h2 : b = false → Q (.bl false) H) : andVQ tb σ Q (.bl b) H := by
  refine ⟨b, rfl, ?_⟩
  cases b with
  | true => exact h1 rfl
  | false => exact h2 rfl
theorem x_orVQ {b : Bool} (h1 : b = true → Q (.bl true) H) (h2 : b = false → tb σ H Q) : orVQ tb σ Q (.bl b) H := by
  refine ⟨b, rfl, ?_⟩
  cases b with
  | true => exact h1 rfl
  | false => exact h2 rfl
/-! ### arguments, calls, displays -/
theorem x_nil (k : QA [] H) : tNil σ H QA := k
theorem x_cons (k : te σ H (consQ tr σ QA)) : tCons te tr σ H QA := k
theorem x_consQ (k : tr σ H fun xs H2 => QA (x :: xs) H2) : consQ tr σ QA x H := k
theorem x_call (k : tr σ H (callQ sp Q E)) : tCall sp [] E tr σ H Q := k
theorem x_callQ {vs : List V} (k : sp vs H Q E) : callQ sp Q E vs H := by
  unfold callQ
  rw [List.append_nil]
  exact k
theorem x_cb {q : List V → Hp → VK → Prop} (k : tr σ H (cbQ q Q)) : tCB q tr σ H Q := k
theorem x_cbQ {q : List V → Hp → VK → Prop} {vs : List V} (k : q vs H Q) : cbQ q Q vs H := k
theorem x_lst (k : tr σ H (lstQ Q)) : tLst tr σ H Q := k
theorem x_lstQ {xs : List V} (h : xs.length ≤ sizeLine) (k : ∀ p, H p = none → Q (.ref p) (upd H p (.lst xs))) : lstQ Q xs H := ⟨h, k⟩
theorem x_tup (k : tr σ H (tupQ Q)) : tTup tr σ H Q := k
theorem x_tupQ {xs : List V} (h : xs.length ≤ sizeLine) (k : ∀ p, H p = none → Q (.ref p) (upd H p (.tup xs))) : tupQ Q xs H := ⟨h, k⟩
/-! ### statements -/
theorem x_seq (k : t { D with nx := u D } σ H) : tSeq t u D σ H := k
theorem x_next (k : D.nx σ H) : tNext D σ H := k
theorem x_asg (k : te σ H (asgQ g D σ)) : tAsg te g D σ H := k
theorem x_asgN (k : D.nx (σ.set i (some x)) H) : asgQ (gName i) D σ x H := k
theorem x_drop (k : te σ H (dropQ D σ)) : tDrop te D σ H := k
theorem x_dropQ (k : D.nx σ H) : dropQ D σ x H := k
theorem x_ret (k : te σ H D.rt) : tRet te D σ H := k
theorem x_retN (k : D.rt .non H) : tRetN D σ H := k
theorem x_if (k : c σ H (ifQ t u D σ)) : tIfS c t u D σ H := k
theorem x_ifQ {b : Bool} (h1 : b = true → t D σ H) (h2 : b = false → u D σ H) : ifQ t u D σ b H := by
  unfold ifQ
  cases b with
  | true => exact h1 rfl
  | false => exact h2 rfl
theorem x_cont (k : D.ct σ H) : tCont D σ H := k
theorem x_break (k : D.bk σ H) : tBreak D σ H := k
end

/-! ### rules by names of their own -/
def rLen (K : PySem.W.Frag) : List V → Hp → VK → Prop := fun xs H Q => ∃ p ys, xs = [.ref p] ∧ (SqL K H p ys ∨ SqT K H p ys) ∧ Q (.int ys.length) H
def rLenStr : List V → Hp → VK → Prop := fun xs H Q => ∃ z, xs = [.str z] ∧ z.length ≤ sizeLine ∧ Q (.int z.length) H
def rListOf (K : PySem.W.Frag) : List V → Hp → VK → Prop := fun xs H Q => ∃ p ys, xs = [.ref p] ∧ (SqL K H p ys ∨ SqT K H p ys) ∧ ∀ l, H l = none → Q (.ref l) (upd H l (.lst ys))
def rTupOf (K : PySem.W.Frag) : List V → Hp → VK → Prop := fun xs H Q => ∃ p ys, xs = [.ref p] ∧ ((SqL K H p ys ∧ ∀ l, H l = none → Q (.ref l) (upd H l (.tup ys))) ∨ (SqT K H p ys ∧ Q (.ref p) H))
def rIntOf : List V → Hp → VK → Prop := fun xs H Q => (∃ i, xs = [.int i] ∧ Q (.int i) H) ∨ ∃ k, xs = [.bl k] ∧ Q (.int (if k then 1 else 0)) H
def rMin2 : List V → Hp → VK → Prop := fun xs H Q => ∃ i j, xs = [.int i, .int j] ∧ Q (.int (if j < i then j else i)) H
def rMax2' : List V → Hp → VK → Prop := fun xs H Q => ∃ i j, xs = [.int i, .int j] ∧ Q (.int (if j > i then j else i)) H
def rAddS : R2 := fun x y H Q => ∃ i j, x = .str i ∧ y = .str j ∧ i.length + j.length ≤ sizeLine ∧ Q (.str (i ++ j)) H
def rIsN : R2 := fun x y H Q => y = .non ∧ Q (.bl (decide (x = .non))) H
def rNotN : R2 := fun x y H Q => y = .non ∧ Q (.bl (!decide (x = .non))) H
section
variable {X : Cx}
theorem g_len : CallR X (.builtin "len") (rLen X.K) := call_len_seq
theorem g_lenS : CallR X (.builtin "len") rLenStr := call_len_str
theorem g_list : CallR X (.type "list") (rListOf X.K) := call_list_of
theorem g_tuple : CallR X (.type "tuple") (rTupOf X.K) := call_tuple_of
theorem g_int : CallR X (.type "int") rIntOf := call_int1
theorem g_min (hc : X.calm = true) : CallR X (.builtin "min") rMin2 := call_min2 hc
theorem g_max (hc : X.calm = true) : CallR X (.builtin "max") rMax2' := call_max2 hc
theorem g_isN : OpR X (compareOp .Is) rIsN := op_isN
theorem g_notN : OpR X (compareOp .IsNot) rNotN := op_notN
theorem op_addS : OpR X (binaryOp .Add) rAddS := op_add_str
theorem op_mulB : OpR X (binaryOp .Mult) (rI CMulX fun i j => .int (i * j)) := op_mulX
theorem op_shlB : OpR X (binaryOp .LShift) (rI CShl fun i j => .int (i * 2 ^ j.toNat)) := op_shlW
end
section
variable {K : PySem.W.Frag} {σ : L2.St} {H H1 : Hp} {Q : VK} {p : Addr} {xs : List V}
theorem x_lenL (h : SqL K H p xs) (k : Q (.int xs.length) H) : rLen K [.ref p] H Q := ⟨p, xs, rfl, .inl h, k⟩
theorem x_lenT (h : SqT K H p xs) (k : Q (.int xs.length) H) : rLen K [.ref p] H Q := ⟨p, xs, rfl, .inr h, k⟩
theorem x_lenS {z : Str} (h : z.length ≤ sizeLine) (k : Q (.int z.length) H) : rLenStr [.str z] H Q := ⟨z, rfl, h, k⟩
theorem x_listL (h : SqL K H p xs) (k : ∀ l, H l = none → Q (.ref l) (upd H l (.lst xs))) : rListOf K [.ref p] H Q := ⟨p, xs, rfl, .inl h, k⟩
theorem x_listT (h : SqT K H p xs) (k : ∀ l, H l = none → Q (.ref l) (upd H l (.lst xs))) : rListOf K [.ref p] H Q := ⟨p, xs, rfl, .inr h, k⟩
theorem x_tupL (h : SqL K H p xs) (k : ∀ l, H l = none → Q (.ref l) (upd H l (.tup xs))) : rTupOf K [.ref p] H Q := ⟨p, xs, rfl, .inl ⟨h, k⟩⟩
theorem x_tupT (h : SqT K H p xs) (k : Q (.ref p) H) : rTupOf K [.ref p] H Q := ⟨p, xs, rfl, .inr ⟨h, k⟩⟩
theorem x_intB {b : Bool} (k : Q (.int (if b then 1 else 0)) H) : rIntOf [.bl b] H Q := .inr ⟨b, rfl, k⟩
theorem x_intI {i : Int} (k : Q (.int i) H) : rIntOf [.int i] H Q := .inl ⟨i, rfl, k⟩
theorem x_min {i j : Int} (k : Q (.int (if j < i then j else i)) H) : rMin2 [.int i, .int j] H Q := ⟨i, j, rfl, k⟩
theorem x_max {i j : Int} (k : Q (.int (if j > i then j else i)) H) : rMax2' [.int i, .int j] H Q := ⟨i, j, rfl, k⟩
theorem x_addS {i j : Str} (h : i.length + j.length ≤ sizeLine) (k : Q (.str (i ++ j)) H) : rAddS (.str i) (.str j) H Q := ⟨i, j, rfl, rfl, h, k⟩
theorem x_ixL {i : Int} {v : V} (h : SqL K H p xs) (ha : atI xs i = some v) (k : Q v H) : rIxL K (.ref p) (.int i) H Q := ⟨p, xs, i, v, rfl, rfl, h, ha, k⟩
theorem x_ixT {i : Int} {v : V} (h : SqT K H p xs) (ha : atI xs i = some v) (k : Q v H) : rIxT K (.ref p) (.int i) H Q := ⟨p, xs, i, v, rfl, rfl, h, ha, k⟩
theorem x_slL {lo hi : Option Int} (h : SqL K H p xs) (k : ∀ l, H l = none → Q (.ref l) (upd H l (.lst (cutV xs lo hi)))) : rSlL K (.ref p) lo hi H Q := ⟨p, xs, rfl, h, k⟩
theorem x_all {bs : List Bool} (h : SqL K H p (bs.map V.bl)) (k : Q (.bl (bs.all id)) H) : rAll K [.ref p] H Q := ⟨p, bs, rfl, h, k⟩
theorem x_allMap {n : Nat} {g : Nat → Bool} (h : H p = some (.lst ((List.range n).map fun i => V.bl (g i)))) (k : Q (.bl ((List.range n).all g)) H) : rAll K [.ref p] H Q :=
  ⟨p, (List.range n).map g, rfl, SqL.of (by rw [h, List.map_map]; rfl), by
    have e : ((List.range n).map g).all id = (List.range n).all g := by rw [List.all_map]; rfl
    rw [e]; exact k⟩
theorem x_anyMap {n : Nat} {g : Nat → Bool} (h : H p = some (.lst ((List.range n).map fun i => V.bl (g i)))) (k : Q (.bl ((List.range n).any g)) H) : rAny K [.ref p] H Q :=
  ⟨p, (List.range n).map g, rfl, SqL.of (by rw [h, List.map_map]; rfl), by
    have e : ((List.range n).map g).any id = (List.range n).any g := by rw [List.any_map]; rfl
    rw [e]; exact k⟩
theorem x_sumMap {n : Nat} {g : Nat → Int} (h : H p = some (.lst ((List.range n).map fun i => V.int (g i)))) (k : Q (.int ((List.range n).map g).sum) H) : rSum K [.ref p] H Q :=
  ⟨p, (List.range n).map g, rfl, SqL.of (by rw [h, List.map_map]; rfl), k⟩
theorem x_any {bs : List Bool} (h : SqL K H p (bs.map V.bl)) (k : Q (.bl (bs.any id)) H) : rAny K [.ref p] H Q := ⟨p, bs, rfl, h, k⟩
theorem x_sum {ns : List Int} (h : SqL K H p (ns.map V.int)) (k : Q (.int ns.sum) H) : rSum K [.ref p] H Q := ⟨p, ns, rfl, h, k⟩
theorem x_isN {x : V} (k : Q (.bl (decide (x = .non))) H) : rIsN x .non H Q := ⟨rfl, k⟩
theorem x_notN {x : V} (k : Q (.bl (!decide (x = .non))) H) : rNotN x .non H Q := ⟨rfl, k⟩
theorem x_isNN (k : Q (.bl true) H) : rIsN .non .non H Q := ⟨rfl, k⟩
theorem x_isNI {i : Int} (k : Q (.bl false) H) : rIsN (.int i) .non H Q := ⟨rfl, k⟩
theorem x_isNB {i : Bool} (k : Q (.bl false) H) : rIsN (.bl i) .non H Q := ⟨rfl, k⟩
theorem x_isNS {i : Str} (k : Q (.bl false) H) : rIsN (.str i) .non H Q := ⟨rfl, k⟩
theorem x_isNR {i : Addr} (k : Q (.bl false) H) : rIsN (.ref i) .non H Q := ⟨rfl, k⟩
theorem x_notNN (k : Q (.bl false) H) : rNotN .non .non H Q := ⟨rfl, k⟩
theorem x_notNR {i : Addr} (k : Q (.bl true) H) : rNotN (.ref i) .non H Q := ⟨rfl, k⟩
/-- a method of a list: the receiver, the arguments, the rule -/
def bmQ (K : PySem.W.Frag) (T : String) (r : V → List V → Hp → VK → Prop) (t : TA) (σ : L2.St) (Q : VK) : VK := fun x H1 => tyV K T x H1 ∧ t σ H1 fun xs H2 => r x xs H2 Q
def bmQ2 (r : V → List V → Hp → VK → Prop) (x : V) (Q : VK) : List V → Hp → Prop := fun xs H2 => r x xs H2 Q
theorem x_bm {r : V → List V → Hp → VK → Prop} {T : String} {to : TE} {t : TA} (k : to σ H (bmQ K T r t σ Q)) : tBM K T r to t σ H Q := k
theorem x_bmL {r : V → List V → Hp → VK → Prop} {t : TA} (h : SqL K H p xs) (k : t σ H (bmQ2 r (.ref p) Q)) : bmQ K "list" r t σ Q (.ref p) H := ⟨.inl ⟨rfl, _, h⟩, k⟩
theorem x_bmQ2 {r : V → List V → Hp → VK → Prop} {x : V} {vs : List V} (k : r x vs H Q) : bmQ2 r x Q vs H := k
theorem x_append {y : V} (h : H p = some (.lst xs)) (hz : xs.length < sizeLine) (k : Q .non (upd H p (.lst (xs ++ [y])))) : rAppend (.ref p) [y] H Q := ⟨p, xs, y, rfl, rfl, h, hz, k⟩
def bm0Q (K : PySem.W.Frag) (T : String) (r : V → List V → Hp → VK → Prop) (Q : VK) : VK := fun x H1 => tyV K T x H1 ∧ r x [] H1 Q
theorem x_bm0 {r : V → List V → Hp → VK → Prop} {T : String} {to : TE} (k : to σ H (bm0Q K T r Q)) : tBM0 K T r to σ H Q := k
theorem x_bm0L {r : V → List V → Hp → VK → Prop} (h : SqL K H p xs) (k : r (.ref p) [] H Q) : bm0Q K "list" r Q (.ref p) H := ⟨.inl ⟨rfl, _, h⟩, k⟩
theorem x_reverse (h : H p = some (.lst xs)) (k : Q .non (upd H p (.lst xs.reverse))) : rReverse (.ref p) [] H Q := ⟨p, xs, rfl, rfl, h, k⟩
theorem x_cat {q : Addr} {ys : List V} (h : H p = some (.lst xs)) (h2 : H q = some (.lst ys)) (hz : xs.length + ys.length ≤ sizeLine) (k : ∀ l, H l = none → Q (.ref l) (upd H l (.lst (xs ++ ys)))) : rCat (.ref p) (.ref q) H Q := ⟨p, q, xs, ys, rfl, rfl, h, h2, hz, k⟩
theorem x_rep {n : Int} (h : H p = some (.lst xs)) (h1 : -(2 ^ 63) ≤ n) (h2 : n < 2 ^ 63) (hz : xs.length * n.toNat ≤ sizeLine) (k : ∀ l, H l = none → Q (.ref l) (upd H l (.lst (List.replicate n.toNat xs).flatten))) : rRep (.ref p) (.int n) H Q := ⟨p, n, xs, rfl, rfl, h, h1, h2, hz, k⟩
/-- chains -/
def chQ3 (r' : R2) (y : V) (tc : TE) (σ : L2.St) (Q : VK) : VK := fun z H3 => ∃ k, z = .bl k ∧ (if k = true then tc σ H3 (opQ2 r' y Q) else Q (.bl false) H3)
def chQ2 (r r' : R2) (tc : TE) (σ : L2.St) (x : V) (Q : VK) : VK := fun y H2 => r x y H2 (chQ3 r' y tc σ Q)
def chQ1 (r r' : R2) (tb tc : TE) (σ : L2.St) (Q : VK) : VK := fun x H1 => tb σ H1 (chQ2 r r' tc σ x Q)
theorem x_chain {r r' : R2} {ta tb tc : TE} (k : ta σ H (chQ1 r r' tb tc σ Q)) : tChain r r' ta tb tc σ H Q := k
theorem x_chQ1 {r r' : R2} {tb tc : TE} {x : V} (k : tb σ H (chQ2 r r' tc σ x Q)) : chQ1 r r' tb tc σ Q x H := k
theorem x_chQ2 {r r' : R2} {tc : TE} {x y : V} (k : r x y H (chQ3 r' y tc σ Q)) : chQ2 r r' tc σ x Q y H := k
theorem x_chQ3 {r' : R2} {tc : TE} {y : V} {b : Bool} (h1 : b = true → tc σ H (opQ2 r' y Q)) (h2 : b = false → Q (.bl false) H) : chQ3 r' y tc σ Q (.bl b) H := by
  refine ⟨b, rfl, ?_⟩
  cases b with
  | true => exact h1 rfl
  | false => exact h2 rfl
/-- slices -/
def slQ1 (r : V → Option Int → Option Int → Hp → VK → Prop) (tl th : TO) (σ : L2.St) (Q : VK) : VK := fun x H1 => tl σ H1 fun l H2 => th σ H2 fun u H3 => r x l u H3 Q
def slQ2 (r : V → Option Int → Option Int → Hp → VK → Prop) (th : TO) (σ : L2.St) (Q : VK) (x : V) : Option Int → Hp → Prop := fun l H2 => th σ H2 fun u H3 => r x l u H3 Q
def slQ3 (r : V → Option Int → Option Int → Hp → VK → Prop) (Q : VK) (x : V) (l : Option Int) : Option Int → Hp → Prop := fun u H3 => r x l u H3 Q
def ptQ (R : Option Int → Hp → Prop) : VK := fun x H1 => ∃ i, x = .int i ∧ R (some i) H1
theorem x_sl {r : V → Option Int → Option Int → Hp → VK → Prop} {te : TE} {tl th : TO} (k : te σ H (slQ1 r tl th σ Q)) : tSl r te tl th σ H Q := k
theorem x_slQ1 {r : V → Option Int → Option Int → Hp → VK → Prop} {tl th : TO} {x : V} (k : tl σ H (slQ2 r th σ Q x)) : slQ1 r tl th σ Q x H := k
theorem x_slQ2 {r : V → Option Int → Option Int → Hp → VK → Prop} {th : TO} {x : V} {l : Option Int} (k : th σ H (slQ3 r Q x l)) : slQ2 r th σ Q x l H := k
theorem x_slQ3 {r : V → Option Int → Option Int → Hp → VK → Prop} {x : V} {l u : Option Int} (k : r x l u H Q) : slQ3 r Q x l u H := k
theorem x_noPart {R : Option Int → Hp → Prop} (k : R none H) : tNoPart σ H R := k
theorem x_part {t : TE} {R : Option Int → Hp → Prop} (k : t σ H (ptQ R)) : tPart t σ H R := k
theorem x_ptQ {R : Option Int → Hp → Prop} {i : Int} (k : R (some i) H) : ptQ R (.int i) H := ⟨i, rfl, k⟩
/-- stores into a list -/
def gsQ1 (ti : TE) (t : TSet) (σ : L2.St) (v : V) (R : Hp → Prop) : VK := fun o H1 => ti σ H1 fun i H2 => t o i v H2 R
def gsQ2 (t : TSet) (o v : V) (R : Hp → Prop) : VK := fun i H2 => t o i v H2 R
theorem x_asgS {to ti : TE} {t : TSet} {D : Ends} {v : V} (k : to σ H (gsQ1 ti t σ v (D.nx σ))) : asgQ (gSub to ti t) D σ v H := k
theorem x_gsQ1 {ti : TE} {t : TSet} {o v : V} {R : Hp → Prop} (k : ti σ H (gsQ2 t o v R)) : gsQ1 ti t σ v R o H := k
theorem x_gsQ2 {t : TSet} {o i v : V} {R : Hp → Prop} (k : t o i v H R) : gsQ2 t o v R i H := k
theorem x_setL {i : Int} {j : Nat} {v : V} {R : Hp → Prop} (h : H p = some (.lst xs)) (hj : ixN xs.length i = some j) (k : R (upd H p (.lst (xs.set j v)))) : rSetL (.ref p) (.int i) v H R := ⟨p, xs, i, j, rfl, rfl, h, hj, k⟩
/-- a, b = a tuple -/
theorem x_asgT {n : Nat} {ts : TGs} {D : Ends} (h : SqT K H p xs) (hn : xs.length = n) (k : ts xs σ H D.nx) : asgQ (gTup K n ts) D σ (.ref p) H := ⟨p, xs, rfl, h, hn, k⟩
theorem x_gNil {R : L2.St → Hp → Prop} (k : R σ H) : gNil [] σ H R := ⟨rfl, k⟩
theorem x_gCons {i : Nat} {v : V} {vs : List V} {u : TGs} {R : L2.St → Hp → Prop} (k : u vs (σ.set i (some v)) H R) : gCons (gName i) u (v :: vs) σ H R := ⟨v, vs, rfl, k⟩
/-- a, b = x, y -/
def parQ (i j : Nat) (D : Ends) (σ : L2.St) : List V → Hp → Prop := fun vs H1 => ∃ v w, vs = [v, w] ∧ D.nx ((σ.set i (some v)).set j (some w)) H1
theorem x_par {i j : Nat} {ta : TA} {D : Ends} (k : ta σ H (parQ i j D σ)) : tPar i j ta D σ H := k
theorem x_parQ {i j : Nat} {v w : V} {D : Ends} (k : D.nx ((σ.set i (some v)).set j (some w)) H) : parQ i j D σ [v, w] H := ⟨v, w, rfl, k⟩
/-! ### loops and comprehensions, over anything that is walked -/
def forQ (g : TG) (tb : TS) (D : Ends) (σ : L2.St) : It → Hp → Prop := fun J H1 => ∃ W : Nat → Nat → L2.St → Hp → Prop, (∃ m, W 0 m σ H1) ∧ ∀ i m σ H, W i m σ H →
  (J.stop i H ∧ D.nx σ H) ∨ (J.go i H ∧ ∃ N : L2.St → Hp → Prop, (∀ σ' H', N σ' H' → ∃ m', m' < m ∧ W (i + 1) m' σ' H') ∧ ∀ x H', J.yld i H x H' → g x σ H' fun σ2 H2 => tb { D with nx := N, ct := N, bk := D.nx } σ2 H2)
def tgQ (tb : TS) (N : L2.St → Hp → Prop) (D : Ends) : L2.St → Hp → Prop := fun σ2 H2 => tb { D with nx := N, ct := N, bk := D.nx } σ2 H2
def lcQ (g : TG) (tt : TT) (te : TE) (vs : List Nat) (σ : L2.St) (Q : VK) : It → Hp → Prop := fun J H1 => ∀ D, H1 D = none → ∃ W : Nat → Nat → Hp → Prop, (∃ m, W 0 m (upd H1 D (.lst []))) ∧ ∀ i m H, W i m H →
  (J.stop i H ∧ Q (.ref D) H) ∨ (J.go i H ∧ ∃ Nx : Hp → Prop, (∀ H', Nx H' → ∃ m', m' < m ∧ W (i + 1) m' H') ∧ ∀ x H', J.yld i H x H' → g x (wipe σ vs) H' fun σ2 H2 => wipe σ2 vs = wipe σ vs ∧ tt σ2 H2 fun b H3 =>
    if b = true then te σ2 H3 fun y H4 => ∃ acc, H4 D = some (.lst acc) ∧ acc.length < sizeLine ∧ Nx (upd H4 D (.lst (acc ++ [y]))) else Nx H3)
/-- behind a comprehension's element: it goes into the list at D -/
def eltQ (D : Addr) (Nx : Hp → Prop) : VK := fun y H4 => ∃ acc, H4 D = some (.lst acc) ∧ acc.length < sizeLine ∧ Nx (upd H4 D (.lst (acc ++ [y])))
def ttQ (te : TE) (D : Addr) (Nx : Hp → Prop) (σ2 : L2.St) : Bool → Hp → Prop := fun b H3 => if b = true then te σ2 H3 (eltQ D Nx) else Nx H3
def lcTg (tt : TT) (te : TE) (vs : List Nat) (σ : L2.St) (D : Addr) (Nx : Hp → Prop) : L2.St → Hp → Prop := fun σ2 H2 => wipe σ2 vs = wipe σ vs ∧ tt σ2 H2 (ttQ te D Nx σ2)
def iLQ (K : PySem.W.Frag) (R : It → Hp → Prop) : VK := fun x H1 => ∃ a, x = .ref a ∧ (∃ xs, SqL K H1 a xs) ∧ R (Itl K a) H1
def iTQ (K : PySem.W.Frag) (R : It → Hp → Prop) : VK := fun x H1 => ∃ a, x = .ref a ∧ (∃ xs, SqT K H1 a xs) ∧ R (Itt K a) H1
def iRQ (R : It → Hp → Prop) : List V → Hp → Prop := fun vs H1 => ∃ j : Int, vs = [.int j] ∧ -(2 ^ 62) ≤ j ∧ j < 2 ^ 62 ∧ R (Itr 0 j.toNat) H1
def iR2Q (R : It → Hp → Prop) : List V → Hp → Prop := fun vs H1 => ∃ i j : Int, vs = [.int i, .int j] ∧ (-(2 ^ 62) ≤ i ∧ i < 2 ^ 62 ∧ -(2 ^ 62) ≤ j ∧ j < 2 ^ 62) ∧ R (Itr i (j - i).toNat) H1
def iZQ (K : PySem.W.Frag) (R : It → Hp → Prop) : List V → Hp → Prop := fun vs H1 => ∃ a b xs ys, vs = [.ref a, .ref b] ∧ SqL K H1 a xs ∧ SqL K H1 b ys ∧ R (Itz K a b) H1
def iEQ (K : PySem.W.Frag) (R : It → Hp → Prop) : List V → Hp → Prop := fun vs H1 => ∃ a xs, vs = [.ref a] ∧ SqL K H1 a xs ∧ R (Ite K a) H1
section
variable {wi : TI} {g : TG} {tb : TS} {D : Ends} {J : It} {n : Nat} {G : Hp → Prop} {Y : Nat → Hp → V → Hp → Prop} {R : It → Hp → Prop} {tt : TT} {te : TE} {vs : List Nat}
theorem x_for (k : wi σ H (forQ g tb D σ)) : tFor wi g tb D σ H := k
theorem x_forQ (w : Walk J n G Y) (Pv : Nat → L2.St → Hp → Prop) (h0 : Pv 0 σ H) (hG : ∀ i σ H, i ≤ n → Pv i σ H → G H)
    (hs : ∀ i x σ H H', i < n → Pv i σ H → Y i H x H' → g x σ H' (tgQ tb (Pv (i + 1)) D)) (hd : ∀ σ H, Pv n σ H → D.nx σ H) : forQ g tb D σ J H := for_it w Pv h0 hG hs hd
theorem x_tgN {i : Nat} {v : V} {N : L2.St → Hp → Prop} (k : tb { D with nx := N, ct := N, bk := D.nx } (σ.set i (some v)) H) : gName i v σ H (tgQ tb N D) := k
theorem x_tgQ {N : L2.St → Hp → Prop} (k : tb { D with nx := N, ct := N, bk := D.nx } σ H) : tgQ tb N D σ H := k
theorem x_gTup {m : Nat} {ts : TGs} {S : L2.St → Hp → Prop} (h : SqT K H p xs) (hn : xs.length = m) (k : ts xs σ H S) : gTup K m ts (.ref p) σ H S := ⟨p, xs, rfl, h, hn, k⟩
theorem x_lc (k : wi σ H (lcQ g tt te vs σ Q)) : tLc wi g tt te vs σ H Q := k
theorem x_lcQ (w : Walk J n G Y) (Pv : Addr → Nat → Hp → Prop) (h0 : ∀ D, H D = none → Pv D 0 (upd H D (.lst []))) (hG : ∀ D i H, i ≤ n → Pv D i H → G H)
    (hs : ∀ D i x H H', i < n → Pv D i H → Y i H x H' → g x (wipe σ vs) H' (lcTg tt te vs σ D (Pv D (i + 1)))) (hd : ∀ D H, Pv D n H → Q (.ref D) H) : lcQ g tt te vs σ Q J H :=
  fun D hD => lc_it w (Pv D) (h0 D hD) (hG D) (hs D) (hd D)
theorem x_lcTgN {i : Nat} {v : V} {Dl : Addr} {Nx : Hp → Prop} (hw : wipe ((wipe σ vs).set i (some v)) vs = wipe σ vs) (k : tt ((wipe σ vs).set i (some v)) H (ttQ te Dl Nx ((wipe σ vs).set i (some v)))) : gName i v (wipe σ vs) H (lcTg tt te vs σ Dl Nx) := ⟨hw, k⟩
theorem x_lcTg {σ2 : L2.St} {Dl : Addr} {Nx : Hp → Prop} (hw : wipe σ2 vs = wipe σ vs) (k : tt σ2 H (ttQ te Dl Nx σ2)) : lcTg tt te vs σ Dl Nx σ2 H := ⟨hw, k⟩
theorem x_tYes {QB : Bool → Hp → Prop} (k : QB true H) : tYes σ H QB := k
theorem x_ttT {Dl : Addr} {Nx : Hp → Prop} (k : te σ H (eltQ Dl Nx)) : ttQ te Dl Nx σ true H := k
theorem x_ttQ {b : Bool} {Dl : Addr} {Nx : Hp → Prop} (h1 : b = true → te σ H (eltQ Dl Nx)) (h2 : b = false → Nx H) : ttQ te Dl Nx σ b H := by
  unfold ttQ
  cases b with
  | true => exact h1 rfl
  | false => exact h2 rfl
theorem x_elt {Dl : Addr} {Nx : Hp → Prop} {acc : List V} {y : V} (h : H Dl = some (.lst acc)) (hz : acc.length < sizeLine) (k : Nx (upd H Dl (.lst (acc ++ [y])))) : eltQ Dl Nx y H := ⟨acc, h, hz, k⟩
theorem x_iL {tl : TE} (k : tl σ H (iLQ K R)) : iList K tl σ H R := k
theorem x_iLQ (h : SqL K H p xs) (k : R (Itl K p) H) : iLQ K R (.ref p) H := ⟨p, rfl, ⟨xs, h⟩, k⟩
theorem x_iT {tl : TE} (k : tl σ H (iTQ K R)) : iTup K tl σ H R := k
theorem x_iTQ (h : SqT K H p xs) (k : R (Itt K p) H) : iTQ K R (.ref p) H := ⟨p, rfl, ⟨xs, h⟩, k⟩
theorem x_iR {ta : TA} (k : ta σ H (iRQ R)) : iRng1 ta σ H R := k
theorem x_iRQ {j : Int} (h1 : -(2 ^ 62) ≤ j) (h2 : j < 2 ^ 62) (k : R (Itr 0 j.toNat) H) : iRQ R [.int j] H := ⟨j, rfl, h1, h2, k⟩
theorem x_iR2 {ta : TA} (k : ta σ H (iR2Q R)) : iRng2 ta σ H R := k
theorem x_iR2Q {i j : Int} (h : -(2 ^ 62) ≤ i ∧ i < 2 ^ 62 ∧ -(2 ^ 62) ≤ j ∧ j < 2 ^ 62) (k : R (Itr i (j - i).toNat) H) : iR2Q R [.int i, .int j] H := ⟨i, j, rfl, h, k⟩
theorem x_iZ {ta : TA} (k : ta σ H (iZQ K R)) : iZip K ta σ H R := k
theorem x_iZQ {q : Addr} {ys : List V} (h : SqL K H p xs) (h2 : SqL K H q ys) (k : R (Itz K p q) H) : iZQ K R [.ref p, .ref q] H := ⟨p, q, xs, ys, rfl, h, h2, k⟩
theorem x_iE {ta : TA} (k : ta σ H (iEQ K R)) : iEnum K ta σ H R := k
theorem x_iEQ (h : SqL K H p xs) (k : R (Ite K p) H) : iEQ K R [.ref p] H := ⟨p, xs, rfl, h, k⟩
/-- a comprehension whose elements are the values f i, nothing else changed but by growth -/
theorem x_lcMap (w : Walk J n G Y) (f : Nat → V) (hn : n ≤ sizeLine) (hG : ∀ H', Ex H H' → G H')
    (hs : ∀ D i x H1 H2 (Nx : Hp → Prop), i < n → Ex H H1 → Y i H1 x H2 → (∀ H3, Ex H2 H3 → eltQ D Nx (f i) H3) → g x (wipe σ vs) H2 (lcTg tt te vs σ D Nx)) 
    (hY : ∀ i x H1 H2, i < n → Ex H H1 → Y i H1 x H2 → Ex H1 H2)
    (hd : ∀ D H', H D = none → Ex H H' → H' D = some (.lst ((List.range n).map f)) → Q (.ref D) H') : lcQ g tt te vs σ Q J H := by
  refine x_lcQ w (fun D i H' => H D = none ∧ Ex H H' ∧ H' D = some (.lst ((List.range i).map f))) (fun D hD => ⟨hD, Ex.new hD, upd_same⟩) (fun D i H' _ p => hG H' p.2.1) (fun D i x H1 H2 hi p y => ?_) (fun D H' p => hd D H' p.1 p.2.1 p.2.2)
  obtain ⟨hD, e1, h1⟩ := p
  have e2 := hY i x H1 H2 hi e1 y
  refine hs D i x H1 H2 _ hi e1 y fun H3 e3 => ?_
  refine ⟨(List.range i).map f, e3 _ _ (e2 _ _ h1), by rw [List.length_map, List.length_range]; omega, hD, Ex.mut ((e1.trans e2).trans e3) hD, ?_⟩
  rw [upd_same, List.range_succ, List.map_append]
  rfl
end
end
/-- range(n), range(a, n) by their turns -/
theorem walk_r0 {n : Nat} : Walk (Itr 0 n) n (fun _ => True) (fun i H x H' => H' = H ∧ x = .int (i : Int)) :=
  walk_range.mono (fun _ h => h) fun i H x H' _ _ y => ⟨y.1, by rw [y.2]; show V.int (0 + (i : Int)) = V.int (i : Int); rw [Int.zero_add]⟩
theorem walk_ra {a : Int} {n : Nat} : Walk (Itr a n) n (fun _ => True) (fun i H x H' => H' = H ∧ x = .int (a + (i : Int))) :=
  walk_range.mono (fun _ h => h) fun i H x H' _ _ y => ⟨y.1, y.2⟩
/-! ### a def of the program, ready to be called -/
structure Dn (P : Program) (w : World) (K : PySem.W.Frag) (mg : Str → Option Value) (base : Heap) (CX : CXT) (k : Nat) (x : Str) (ps : List Str) (sp : Sp) : Prop where
  ex : ∃ f fd, FnOk P w K mg base CX k f fd ps sp ∧ mg x = some (.ref f) ∧ PySem.W.keepIn K (.ref f) = true ∧ Binds K fd ps []
structure Df (K : PySem.W.Frag) (mg : Str → Option Value) (x : Str) (st : Stmt) : Prop where
  ex : ∃ f fd, Fun K x x st f fd ∧ mg x = some (.ref f)
theorem Dn.up {P : Program} {w : World} {K : PySem.W.Frag} {mg : Str → Option Value} {base : Heap} {CX : CXT} {k : Nat} {x : Str} {ps : List Str} {sp : Sp} (D : Dn P w K mg base CX k x ps sp) : Dn P w K mg base CX k x ps sp := D
section
variable {X : Cx} {CX : CXT} {k : Nat} {ps : List Str} {sp : Sp} {E : XK} {x : Str} {p pos : Pos} {e : Expr} {es : List Expr} {t : TA}
theorem pe_dn (D : Dn X.prog X.w X.K X.mg X.base CX k x ps sp) (hr : Room k X.A) (hx : Passes CX X E) (ha : PA X (e :: es) t) (hg : Gl X x := by rfl)
    (hdb : (x == ("__debug__" : Str)) = false := by decide) (he : starEach (e :: es) X.env = (false, eval e X.env) :: starEach es X.env := by rfl) (hpl : (backTo pos (starEach es X.env)).any (·.1) = false := by rfl) :
    PE X (.Call (.Name x p) (e :: es) [] pos) (tCall sp [] E t) := by
  obtain ⟨f, fd, F, hm, hk, hb⟩ := D.ex
  exact pe_call F hr hg hm hk hb .nil hx ha hdb he hpl
theorem pe_dn0 (D : Dn X.prog X.w X.K X.mg X.base CX k x ps sp) (hr : Room k X.A) (hx : Passes CX X E) (hg : Gl X x := by rfl)
    (hdb : (x == ("__debug__" : Str)) = false := by decide) : PE X (.Call (.Name x p) [] [] pos) (tCall sp [] E tNil) := by
  obtain ⟨f, fd, F, hm, hk, hb⟩ := D.ex
  exact pe_call0 F hr hg hm hk hb .nil hx hdb
/-- a number of the module -/
def Ci (mg : Str → Option Value) (x : Str) (n : Int) : Prop := ∃ t, mg x = some (.int n t)
theorem pe_cst {n : Int} (c : Ci X.mg x n) (hg : Gl X x := by rfl) (hd : (x == ("__debug__" : Str)) = false := by decide) : PE X (.Name x pos) (tC (.int n)) := by
  obtain ⟨t, h⟩ := c
  exact pe_glob hg h ⟨t, rfl⟩ hd
end
section
variable {P : Program} {w : World} {K : PySem.W.Frag} {mg : Str → Option Value} {base : Heap}
/-- a def of the text by its body, no exception leaving it -/
theorem Df.dn {x : Str} {st : Stmt} {N ps : List Str} {k : Nat} {sp : Sp} (F : Df K mg x st) (S : FnScope N ps (defScope st))
    (hb : ∀ (kV doc pm : Value) (an : Option Addr) (cdv ct : Value) (us : List Value), us.length = ps.length → bindArgs (PySem.W.fnOf x x (defArgs st) (defBody st) (defScope st) .none kV doc pm an cdv ct) ⟨us, []⟩ = pure (ps.zip us))
    (len : ∀ vs H Q E, sp vs H Q E → vs.length = ps.length)
    (hbody : ∀ (f : Addr) (cdv : Value) (A : Around) (outer : List Env) (s : Shared) (H : Hp) (vs : List V) (Q : VK) (E : XK), Room k (A.deeper (envOfC x (defScope st) s.heap.objs.size f cdv)) → (cxOf CX0 P w K mg base N x (defScope st) f cdv A outer s H E).nox.K = K → sp vs H Q E →
      ∃ t, PSs (cxOf CX0 P w K mg base N x (defScope st) f cdv A outer s H E).nox (defBody st) t ∧ t { nx := fun _ H' => Q .non H', rt := Q } (start N vs) H) : Dn P w K mg base CX0 (k + 1) x ps sp := by
  obtain ⟨f, fd, F, hm⟩ := F.ex
  exact ⟨f, fd, F.ok S len (fun cdv A outer s H vs Q E hr h => hbody f cdv A outer s H vs Q E hr rfl h), hm, F.kp, F.binds hb⟩
end
/-! ### numbers -/
theorem cdiv_of {i j : Int} (h0 : 0 < j) (h : j < 2 ^ 64) : CDivW i j := wide_div (b := 64) h0 (by omega) (by decide) (by decide)
theorem mulx_of {i j : Int} (h1 : -(2 ^ 64) < i) (h2 : i < 2 ^ 64) (h3 : -(2 ^ 64) < j) (h4 : j < 2 ^ 64) : CMulX i j := mulx_ok (a := 64) (b := 64) (by omega) (by omega) (by decide)
theorem bits_of {i : Int} (h1 : -(2 ^ 64) < i) (h2 : i < 2 ^ 64) : Builtin.Int.intBits i ≤ 1048576 := by
  have z := PySem.Flt.log2_lt_of (k := 64) (n := i.natAbs) (by decide) (by omega)
  unfold Builtin.Int.intBits
  split <;> omega
section
variable {H : Hp} {Q : VK} {i j : Int}
theorem x_mod (h : 0 < j) (k : Q (.int (i % j)) H) : rI (fun _ j => 0 < j) (fun i j => .int (i % j)) (.int i) (.int j) H Q := ⟨i, j, rfl, rfl, h, k⟩
theorem x_div (h : 0 < j) (h2 : j < 2 ^ 64) (k : Q (.int (i / j)) H) : rI CDivW (fun i j => .int (i / j)) (.int i) (.int j) H Q := ⟨i, j, rfl, rfl, cdiv_of h h2, k⟩
theorem x_mul (h1 : -(2 ^ 64) < i) (h2 : i < 2 ^ 64) (h3 : -(2 ^ 64) < j) (h4 : j < 2 ^ 64) (k : Q (.int (i * j)) H) : rI CMulX (fun i j => .int (i * j)) (.int i) (.int j) H Q := ⟨i, j, rfl, rfl, mulx_of h1 h2 h3 h4, k⟩
theorem x_mulB (h : CMulX i j) (k : Q (.int (i * j)) H) : rI CMulX (fun i j => .int (i * j)) (.int i) (.int j) H Q := ⟨i, j, rfl, rfl, h, k⟩
theorem x_pow (h : CPow i j) (k : Q (.int (i ^ j.toNat)) H) : rI CPow (fun i j => .int (i ^ j.toNat)) (.int i) (.int j) H Q := ⟨i, j, rfl, rfl, h, k⟩
end
theorem at_mem {xs : List V} {r : Int} (h0 : 0 ≤ r) (h : r < (xs.length : Int)) : ∃ v, atI xs r = some v ∧ v ∈ xs := by
  have hl : r.toNat < xs.length := by omega
  exact ⟨xs[r.toNat], at_of (j := r.toNat) (by omega) (List.getElem?_eq_getElem hl), List.getElem_mem hl⟩
theorem at_int {ns : List Int} {r : Int} (h0 : 0 ≤ r) (h : r < (ns.length : Int)) : ∃ v, atI (ns.map V.int) r = some (.int v) ∧ v ∈ ns ∧ ns[r.toNat]? = some v := by
  have hl : r.toNat < ns.length := by omega
  exact ⟨ns[r.toNat], at_of (j := r.toNat) (by omega) (by rw [List.getElem?_map, List.getElem?_eq_getElem hl]; rfl), List.getElem_mem hl, List.getElem?_eq_getElem hl⟩
theorem at_lastI (ws : List Int) (x : Int) : atI ((ws ++ [x]).map V.int) (-1) = some (.int x) := by
  rw [List.map_append]
  exact atI_last _ _
theorem cut_from {xs : List V} {k : Nat} : cutV xs (some (k : Int)) none = xs.drop k := by
  unfold cutV
  rw [HT.sIx_nat, HT.sIx_none]
  by_cases c : k ≤ xs.length
  · rw [Nat.min_eq_left c, List.take_of_length_le (by rw [List.length_drop]; omega)]
  · rw [Nat.min_eq_right (by omega), List.drop_length, List.drop_eq_nil_of_le (by omega), List.take_nil]
theorem cut_to {xs : List V} {k : Nat} : cutV xs none (some (k : Int)) = xs.take k := by
  unfold cutV
  rw [HT.sIx_nat, HT.sIx_none, List.drop_zero, Nat.sub_zero]
  by_cases c : k ≤ xs.length
  · rw [Nat.min_eq_left c]
  · rw [Nat.min_eq_right (by omega), List.take_of_length_le (Nat.le_refl _), List.take_of_length_le (by omega)]
theorem int_of {ns : List Int} {i : Nat} {x : V} (h : (ns.map V.int)[i]? = some x) : ∃ n, x = .int n ∧ ns[i]? = some n := by
  rw [List.getElem?_map] at h
  cases e : ns[i]? with
  | none => rw [e] at h; cases h
  | some u => rw [e] at h; exact ⟨u, (Option.some.inj h).symm, rfl⟩
/-- a tariff -/
structure Tar (ws : List Int) : Prop where
  pos : 1 ≤ ws.length
  len : ws.length ≤ 6
  rng : ∀ w ∈ ws, 1 ≤ w ∧ w ≤ 10000
  ch : ∀ (i : Nat) (a b : Int), ws[i]? = some a → ws[i + 1]? = some b → b % a = 0
theorem Tar.one {x : Int} (h1 : 1 ≤ x) (h2 : x ≤ 10000) : Tar [x] := ⟨Nat.le_refl _, by simp, fun w hw => by
  rw [List.mem_singleton] at hw
  subst hw
  exact ⟨h1, h2⟩, fun i a b _ h => by simp at h⟩
theorem Tar.snoc {ws : List Int} {x y : Int} (t : Tar (ws ++ [x])) (hl : (ws ++ [x]).length ≤ 5) (h1 : 1 ≤ y) (h2 : y ≤ 10000) (hd : y % x = 0) : Tar (ws ++ [x] ++ [y]) := by
  refine ⟨by simp, by rw [List.length_append, List.length_singleton]; omega, fun w hw => ?_, fun i a b ha hb => ?_⟩
  · rcases List.mem_append.mp hw with h | h
    · exact t.rng w h
    · rw [List.mem_singleton] at h
      subst h
      exact ⟨h1, h2⟩
  · by_cases c : i + 1 < (ws ++ [x]).length
    · rw [List.getElem?_append_left (by omega)] at ha
      rw [List.getElem?_append_left c] at hb
      exact t.ch i a b ha hb
    · have hlt := (List.getElem?_eq_some_iff.mp hb).1
      rw [List.length_append, List.length_singleton] at hlt
      have e : i + 1 = (ws ++ [x]).length := by omega
      have ei : i = ws.length := by rw [List.length_append, List.length_singleton] at e; omega
      rw [e, List.getElem?_concat_length] at hb
      rw [List.getElem?_append_left (by omega), ei, List.getElem?_concat_length] at ha
      cases ha; cases hb
      exact hd
/-! ### heaps that grow -/
theorem sqL_upd {K : PySem.W.Frag} {H : Hp} {p q : Addr} {o : HO} {xs : List V} (h : p ≠ q) (e : SqL K H p xs) : SqL K (upd H q o) p xs := by
  rcases e with (e | ⟨u, e⟩) | e
  · exact .inl (.inl (by rw [upd_ne h]; exact e))
  · exact .inl (.inr ⟨u, by rw [upd_ne h]; exact e⟩)
  · exact .inr e
theorem sqT_upd {K : PySem.W.Frag} {H : Hp} {p q : Addr} {o : HO} {xs : List V} (h : p ≠ q) (e : SqT K H p xs) : SqT K (upd H q o) p xs := by
  rcases e with (e | ⟨u, e⟩) | e
  · exact .inl (.inl (by rw [upd_ne h]; exact e))
  · exact .inl (.inr ⟨u, by rw [upd_ne h]; exact e⟩)
  · exact .inr e
/-- all but b is as it was -/
structure KB (b : Addr) (H H' : Hp) : Prop where
  at_ : ∀ a o, a ≠ b → H a = some o → H' a = some o
theorem KB.refl {b : Addr} {H : Hp} : KB b H H := ⟨fun _ _ _ h => h⟩
theorem KB.trans {b : Addr} {H H1 H2 : Hp} (a : KB b H H1) (c : KB b H1 H2) : KB b H H2 := ⟨fun x o n h => c.at_ x o n (a.at_ x o n h)⟩
theorem KB.of_ex {b : Addr} {H H1 : Hp} (e : Ex H H1) : KB b H H1 := ⟨fun x o _ h => e x o h⟩
theorem KB.upd {b : Addr} {H : Hp} {o : HO} : KB b H (upd H b o) := ⟨fun x u n h => by rw [upd_ne n]; exact h⟩
theorem KB.new {b p : Addr} {H : Hp} {o : HO} (h : H p = none) : KB b H (L2.upd H p o) := KB.of_ex (Ex.new h)
theorem KB.mut {b p : Addr} {H H1 : Hp} {o : HO} (e : KB b H H1) (h : H p = none) : KB b H (L2.upd H1 p o) := ⟨fun a u n ha => by
  rw [upd_ne (ne_of_none ha h)]; exact e.at_ a u n ha⟩
theorem KB.sqL {K : PySem.W.Frag} {b a : Addr} {H H' : Hp} {xs : List V} (e : KB b H H') (h : SqL K H a xs) (n : a ≠ b) : SqL K H' a xs := by
  rcases h with (h | ⟨o, h⟩) | h
  · exact .inl (.inl (e.at_ _ _ n h))
  · exact .inl (.inr ⟨o, e.at_ _ _ n h⟩)
  · exact .inr h
/-- what was read ahead of all is read on: b is new, what else changed is new -/
theorem KB.sq0 {K : PySem.W.Frag} {b a : Addr} {H H' : Hp} {xs : List V} (e : KB b H H') (hb : H b = none) (h : SqL K H a xs) : SqL K H' a xs := by
  rcases h with (h | ⟨o, h⟩) | h
  · exact .inl (.inl (e.at_ _ _ (ne_of_none h hb) h))
  · exact .inl (.inr ⟨o, e.at_ _ _ (ne_of_none h hb) h⟩)
  · exact .inr h
theorem ixN_of {n : Nat} {i : Int} (h0 : 0 ≤ i) (h : i < (n : Int)) : ixN n i = some i.toNat := by
  unfold ixN
  rw [if_pos h0, if_pos h]
theorem KB.get {b a : Addr} {H H' : Hp} {o : HO} (e : KB b H H') (n : a ≠ b) (h : H a = some o) : H' a = some o := e.at_ a o n h
theorem ex_get {a : Addr} {H H' : Hp} {o : HO} (e : Ex H H') (h : H a = some o) : H' a = some o := e a o h
theorem KB.sqT {K : PySem.W.Frag} {b a : Addr} {H H' : Hp} {xs : List V} (e : KB b H H') (h : SqT K H a xs) (n : a ≠ b) : SqT K H' a xs := by
  rcases h with (h | ⟨o, h⟩) | h
  · exact .inl (.inl (e.at_ _ _ n h))
  · exact .inl (.inr ⟨o, e.at_ _ _ n h⟩)
  · exact .inr h
theorem ne_fresh {p q : Addr} {H : Hp} {o : HO} (h : H p = none) (hq : H q = some o) : p ≠ q := fun e => by rw [e, hq] at h; cases h
theorem KB.fresh {b p : Addr} {H H' : Hp} (e : KB b H H') (hb : ∃ o, H' b = some o) (h : H' p = none) : H p = none := by
  cases q : H p with
  | none => rfl
  | some o =>
    by_cases n : p = b
    · obtain ⟨o2, h2⟩ := hb
      rw [n, h2] at h
      cases h
    · rw [e.at_ p o n q] at h
      cases h
theorem Ex.sqL {K : PySem.W.Frag} {H H' : Hp} {a : Addr} {xs : List V} (e : Ex H H') (h : SqL K H a xs) : SqL K H' a xs := ex_l e h
theorem Ex.sqT {K : PySem.W.Frag} {H H' : Hp} {a : Addr} {xs : List V} (e : Ex H H') (h : SqT K H a xs) : SqT K H' a xs := ex_t e h
/-! ### tests whose answer is known, or a proposition's -/
section
variable {σ : L2.St} {H : Hp} {Q : VK} {QB : Bool → Hp → Prop} {t u : TS} {d : TT} {D : Ends} {p : Prop} [Decidable p] {ta tb : TE}
theorem x_ifD (h1 : p → t D σ H) (h2 : ¬ p → u D σ H) : ifQ t u D σ (decide p) H := x_ifQ (fun c => h1 (of_decide_eq_true c)) fun c => h2 (of_decide_eq_false c)
theorem x_ifT (h : t D σ H) : ifQ t u D σ true H := h
theorem x_ifF (h : u D σ H) : ifQ t u D σ false H := by
  unfold ifQ
  rw [if_neg Bool.false_ne_true]
  exact h
theorem x_ifN (h1 : p → u D σ H) (h2 : ¬ p → t D σ H) : ifQ t u D σ (!decide p) H := by
  by_cases c : p
  · rw [decide_eq_true c]; exact x_ifF (h1 c)
  · rw [decide_eq_false c]; exact x_ifT (h2 c)
theorem x_notQT (k : QB false H) : notQ QB true H := k
theorem x_notQF (k : QB true H) : notQ QB false H := k
theorem x_andD (h1 : p → d σ H QB) (h2 : ¬ p → QB false H) : andQ d σ QB (decide p) H := x_andQ (fun c => h1 (of_decide_eq_true c)) fun c => h2 (of_decide_eq_false c)
theorem x_andT (h : d σ H QB) : andQ d σ QB true H := h
theorem x_andF (h : QB false H) : andQ d σ QB false H := by
  unfold andQ
  rw [if_neg Bool.false_ne_true]
  exact h
theorem x_orD (h1 : p → QB true H) (h2 : ¬ p → d σ H QB) : orQ d σ QB (decide p) H := x_orQ (fun c => h1 (of_decide_eq_true c)) fun c => h2 (of_decide_eq_false c)
theorem x_orT (h : QB true H) : orQ d σ QB true H := h
theorem x_orF (h : d σ H QB) : orQ d σ QB false H := by
  unfold orQ
  rw [if_neg Bool.false_ne_true]
  exact h
theorem x_andVD (h1 : p → tb σ H Q) (h2 : ¬ p → Q (.bl false) H) : andVQ tb σ Q (.bl (decide p)) H := x_andVQ (fun c => h1 (of_decide_eq_true c)) fun c => h2 (of_decide_eq_false c)
theorem x_andVT (h : tb σ H Q) : andVQ tb σ Q (.bl true) H := ⟨true, rfl, h⟩
theorem x_orVD (h1 : p → Q (.bl true) H) (h2 : ¬ p → tb σ H Q) : orVQ tb σ Q (.bl (decide p)) H := x_orVQ (fun c => h1 (of_decide_eq_true c)) fun c => h2 (of_decide_eq_false c)
theorem x_iteD (h1 : p → ta σ H Q) (h2 : ¬ p → tb σ H Q) : iteQ ta tb σ Q (decide p) H := x_iteQ (fun c => h1 (of_decide_eq_true c)) fun c => h2 (of_decide_eq_false c)
theorem x_chD {r' : R2} {tc : TE} {y : V} (h1 : p → tc σ H (opQ2 r' y Q)) (h2 : ¬ p → Q (.bl false) H) : chQ3 r' y tc σ Q (.bl (decide p)) H := x_chQ3 (fun c => h1 (of_decide_eq_true c)) fun c => h2 (of_decide_eq_false c)
end
/-! ### data -/
mutual
theorem dp_ex {K : PySem.W.Frag} {H H' : Hp} (e : Ex H H') : ∀ {v : V} {d : PyData}, Dp K H v d → Dp K H' v d
  | _, _, .non => .non
  | _, _, .bl b => .bl b
  | _, _, .int i => .int i
  | _, _, .str x => .str x
  | _, _, .lst s a => .lst (ex_l e s) (dpAll_ex e a)
  | _, _, .tup s a => .tup (ex_t e s) (dpAll_ex e a)
theorem dpAll_ex {K : PySem.W.Frag} {H H' : Hp} (e : Ex H H') : ∀ {vs : List V} {ds : List PyData}, DpAll K H vs ds → DpAll K H' vs ds
  | _, _, .nil => .nil
  | _, _, .cons a r => .cons (dp_ex e a) (dpAll_ex e r)
end
section
variable {K : PySem.W.Frag} {H H' : Hp}
theorem dpAll_len : ∀ {vs : List V} {ds : List PyData}, DpAll K H vs ds → vs.length = ds.length
  | _, _, .nil => rfl
  | _, _, .cons _ r => congrArg (· + 1) (dpAll_len r)
theorem dpAll_get : ∀ {vs : List V} {ds : List PyData} {i : Nat} {v : V}, DpAll K H vs ds → vs[i]? = some v → ∃ d, ds[i]? = some d ∧ Dp K H v d
  | _, _, _, _, .nil, h => by simp at h
  | _, _, 0, _, .cons a _, h => by
    have e := Option.some.inj h
    subst e
    exact ⟨_, rfl, a⟩
  | _, _, i + 1, v, .cons _ r, h => dpAll_get (i := i) r h
theorem dpAll_app : ∀ {vs ws : List V} {ds es : List PyData}, DpAll K H vs ds → DpAll K H ws es → DpAll K H (vs ++ ws) (ds ++ es)
  | _, _, _, _, .nil, b => b
  | _, _, _, _, .cons a r, b => .cons a (dpAll_app r b)
theorem dpAll_ints : ∀ ns : List Int, DpAll K H (ns.map V.int) (ns.map PyData.int)
  | [] => .nil
  | n :: r => .cons (.int n) (dpAll_ints r)
theorem dpAll_bls : ∀ ns : List Bool, DpAll K H (ns.map V.bl) (ns.map PyData.bool)
  | [] => .nil
  | n :: r => .cons (.bl n) (dpAll_bls r)
theorem dpAll_strs : ∀ ns : List Str, DpAll K H (ns.map V.str) (ns.map PyData.str)
  | [] => .nil
  | n :: r => .cons (.str n) (dpAll_strs r)
/-- a list of ints, as data -/
abbrev dInts (ns : List Int) : PyData := .list (ns.map PyData.int)
theorem dp_ints {p : Addr} {ns : List Int} (h : SqL K H p (ns.map V.int)) : Dp K H (.ref p) (dInts ns) := .lst h (dpAll_ints ns)
/-- the kind of data -/
def kindD : PyData → String
  | .none => "NoneType"
  | .bool _ => "bool"
  | .int _ => "int"
  | .str _ => "str"
  | .list _ => "list"
  | .tuple _ => "tuple"
  | .dict _ => "dict"
theorem ty_dp {v : V} {d : PyData} (h : Dp K H v d) : TyX K H v (.type (kindD d)) := by
  cases h with
  | non => exact .base .non
  | bl b => exact .base (.bl b)
  | int i => exact .base (.int i)
  | str x => exact .base (.str x)
  | lst s _ =>
    rcases s with (s | ⟨o, s⟩) | ⟨o, its, n, s, c, _⟩
    · exact .base (.lst s)
    · exact .base (.frz s)
    · exact .kList s c
  | tup s _ =>
    rcases s with (s | ⟨o, s⟩) | ⟨o, its, n, s, c, _⟩
    · exact .base (.tup s)
    · exact .fTuple s
    · exact .kTuple s c
theorem x_isi {Q : VK} {v : V} {a T : String} {b : Bool} (ty : TyX K H v (.type a)) (e : PySem.W.kitOne K (.type a) (.type T) = some b) (k : Q (.bl b) H) : rIsi K [v, .ty T] H Q := ⟨v, .ty T, _, _, b, rfl, .ty T, ty, e, k⟩
theorem eqv_same {d : PyData} (s : SeqAt.shaped d = true) : PyData.eqv d d = true := PySem.SeqAt.eqv_refl d (PySem.SeqAt.canLay_of_shaped s)
theorem x_eqD {Q : VK} {x y : V} {d e : PyData} (hx : Dp K H x d) (hy : Dp K H y e) (sx : SeqAt.shaped d = true) (sy : SeqAt.shaped e = true) (k : Q (.bl (PyData.eqv d e)) H) : rEqD K x y H Q := ⟨d, e, hx, hy, sx, sy, k⟩
theorem x_neD {Q : VK} {x y : V} {d e : PyData} (hx : Dp K H x d) (hy : Dp K H y e) (sx : SeqAt.shaped d = true) (sy : SeqAt.shaped e = true) (k : Q (.bl (!PyData.eqv d e)) H) : rNeD K x y H Q := ⟨d, e, hx, hy, sx, sy, k⟩
theorem x_eqSame {Q : VK} {x y : V} {d : PyData} (hx : Dp K H x d) (hy : Dp K H y d) (s : SeqAt.shaped d = true) (k : Q (.bl true) H) : rEqD K x y H Q := x_eqD hx hy s s (by rw [eqv_same s]; exact k)
theorem x_neSame {Q : VK} {x y : V} {d : PyData} (hx : Dp K H x d) (hy : Dp K H y d) (s : SeqAt.shaped d = true) (k : Q (.bl false) H) : rNeD K x y H Q := x_neD hx hy s s (by rw [eqv_same s]; exact k)
theorem shaped_ints (ns : List Int) : SeqAt.shaped (dInts ns) = true := by
  have h : ∀ ns : List Int, PyData.canLayAll0 (ns.map PyData.int) = true ∧ PyData.depthAll (ns.map PyData.int) = 0 := by
    intro ns
    induction ns with
    | nil => exact ⟨by simp [PyData.canLayAll0], by simp [PyData.depthAll]⟩
    | cons n r ih => exact ⟨by simp [PyData.canLayAll0, PyData.canLay0, ih.1], by simp [PyData.depthAll, PyData.depth, ih.2]⟩
  unfold SeqAt.shaped
  simp [PyData.canLay0, PyData.depth, h ns]
/-- data of a depth below n, no list longer than 100000 -/
inductive OkD : Nat → PyData → Prop
  | none {n : Nat} : OkD (n + 1) .none
  | bool {n : Nat} (b : Bool) : OkD (n + 1) (.bool b)
  | int {n : Nat} (i : Int) : OkD (n + 1) (.int i)
  | str {n : Nat} {x : Str} (h : PyData.strOk x = true) : OkD (n + 1) (.str x)
  | list {n : Nat} {ds : List PyData} (hl : ds.length ≤ 100000) (h : ∀ d ∈ ds, OkD n d) : OkD (n + 1) (.list ds)
  | tuple {n : Nat} {ds : List PyData} (hl : ds.length ≤ 100000) (h : ∀ d ∈ ds, OkD n d) : OkD (n + 1) (.tuple ds)
theorem canLayAll_of {ds : List PyData} : (∀ d ∈ ds, PyData.canLay0 d = true) → PyData.canLayAll0 ds = true := by
  induction ds with
  | nil => intro _; simp [PyData.canLayAll0]
  | cons a r ih => intro h; simp [PyData.canLayAll0, h a (List.mem_cons_self), ih fun d hd => h d (List.mem_cons_of_mem _ hd)]
theorem depthAll_of {n : Nat} {ds : List PyData} : (∀ d ∈ ds, PyData.depth d ≤ n) → PyData.depthAll ds ≤ n := by
  induction ds with
  | nil => intro _; simp [PyData.depthAll]
  | cons a r ih =>
    intro h
    have h1 := h a List.mem_cons_self
    have h2 := ih fun d hd => h d (List.mem_cons_of_mem _ hd)
    simp only [PyData.depthAll]
    omega
theorem OkD.lay {n : Nat} {d : PyData} (h : OkD n d) : PyData.canLay0 d = true ∧ PyData.depth d ≤ n := by
  induction h with
  | none => exact ⟨by simp [PyData.canLay0], by simp [PyData.depth]⟩
  | bool b => exact ⟨by simp [PyData.canLay0], by simp [PyData.depth]⟩
  | int i => exact ⟨by simp [PyData.canLay0], by simp [PyData.depth]⟩
  | str h => exact ⟨by simp [PyData.canLay0, h], by simp [PyData.depth]⟩
  | list hl h ih => exact ⟨by simp only [PyData.canLay0]; exact canLayAll_of fun d hd => (ih d hd).1, by simp only [PyData.depth]; have := depthAll_of fun d hd => (ih d hd).2; omega⟩
  | tuple hl h ih => exact ⟨by simp only [PyData.canLay0]; exact canLayAll_of fun d hd => (ih d hd).1, by simp only [PyData.depth]; have := depthAll_of fun d hd => (ih d hd).2; omega⟩
theorem OkD.shaped {n : Nat} {d : PyData} (h : OkD n d) (hn : n ≤ 64) : SeqAt.shaped d = true := by
  unfold SeqAt.shaped
  rw [h.lay.1, decide_eq_true (by have := h.lay.2; omega)]
  rfl
theorem OkD.ints {n : Nat} {ns : List Int} (h : ns.length ≤ 100000) : OkD (n + 2) (dInts ns) := .list (by rw [List.length_map]; exact h) fun d hd => by
  obtain ⟨i, _, rfl⟩ := List.mem_map.mp hd
  exact .int i
/-- zip of two lists or two tuples -/
def iZAQ (K : PySem.W.Frag) (R : It → Hp → Prop) : List V → Hp → Prop := fun vs H1 => ∃ a b xs ys, vs = [.ref a, .ref b] ∧ ((SqL K H1 a xs ∧ SqL K H1 b ys ∧ R (Itz K a b) H1) ∨ (SqT K H1 a xs ∧ SqT K H1 b ys ∧ R (ItzT K a b) H1))
theorem x_iZA {ta : TA} {σ : L2.St} {R : It → Hp → Prop} (k : ta σ H (iZAQ K R)) : iZipA K ta σ H R := k
theorem x_iZAL {R : It → Hp → Prop} {p q : Addr} {xs ys : List V} (h : SqL K H p xs) (h2 : SqL K H q ys) (k : R (Itz K p q) H) : iZAQ K R [.ref p, .ref q] H := ⟨p, q, xs, ys, rfl, .inl ⟨h, h2, k⟩⟩
theorem x_iZAT {R : It → Hp → Prop} {p q : Addr} {xs ys : List V} (h : SqT K H p xs) (h2 : SqT K H q ys) (k : R (ItzT K p q) H) : iZAQ K R [.ref p, .ref q] H := ⟨p, q, xs, ys, rfl, .inr ⟨h, h2, k⟩⟩
theorem walk_zipT {a b : Addr} {xs ys : List V} {n : Nat} (hn : n = min xs.length ys.length) : Walk (ItzT K a b) n (fun H => SqT K H a xs ∧ SqT K H b ys) (YPair (fun i => xs[i]?) (fun i => ys[i]?)) := by
  subst hn
  refine ⟨fun i _ hi q => ?_, fun _ q => ⟨xs, ys, q.1, q.2, by omega⟩, fun i H v H' _ q y => ?_⟩
  · have h1 : i < xs.length := by omega
    have h2 : i < ys.length := by omega
    exact ⟨xs, ys, xs[i], ys[i], q.1, q.2, by simp [h1], by simp [h2]⟩
  · obtain ⟨T, x, z, h1, h2, h3, h4, h5⟩ := y
    exact ⟨T, x, z, h1, h2, h3, h4 xs q.1, h5 ys q.2⟩
/-- a def's contract that can't be asked -/
theorem Df.none {P : Program} {w : World} {mg : Str → Option Value} {base : Heap} {x : Str} {st : Stmt} {ps : List Str} {sp : Sp} (F : Df K mg x st)
    (hb : ∀ (kV doc pm : Value) (an : Option Addr) (cdv ct : Value) (us : List Value), us.length = ps.length → bindArgs (PySem.W.fnOf x x (defArgs st) (defBody st) (defScope st) .none kV doc pm an cdv ct) ⟨us, []⟩ = pure (ps.zip us))
    (no : ∀ vs H Q E, ¬ sp vs H Q E) : Dn P w K mg base CX0 k x ps sp := by
  obtain ⟨f, fd, F, hm⟩ := F.ex
  exact ⟨f, fd, ⟨fun vs H Q E h => absurd h (no vs H Q E), fun A outer s H args us vs Q E _ _ _ _ h => absurd h (no vs H Q E)⟩, hm, F.kp, F.binds hb⟩
end
/-! ### steps whose premises want a tactic -/
section
variable {K : PySem.W.Frag} {H : Hp} {Q : VK} {p : Addr} {xs : List V}
theorem x_ixLn {i : Int} {v : V} (h : SqL K H p xs) (h0 : 0 ≤ i) (ha : xs[i.toNat]? = some v) (k : Q v H) : rIxL K (.ref p) (.int i) H Q := x_ixL h (at_of (j := i.toNat) (by omega) ha) k
theorem x_ixTn {i : Int} {v : V} (h : SqT K H p xs) (h0 : 0 ≤ i) (ha : xs[i.toNat]? = some v) (k : Q v H) : rIxT K (.ref p) (.int i) H Q := x_ixT h (at_of (j := i.toNat) (by omega) ha) k
theorem x_setLn {i : Int} {v : V} {R : Hp → Prop} (h : H p = some (.lst xs)) (h0 : 0 ≤ i) (ha : (xs[i.toNat]?).isSome = true) (k : R (upd H p (.lst (xs.set i.toNat v)))) : rSetL (.ref p) (.int i) v H R := by
  refine x_setL h ?_ k
  have hlt : i.toNat < xs.length := by
    rw [Option.isSome_iff_exists] at ha
    obtain ⟨y, hy⟩ := ha
    exact (List.getElem?_eq_some_iff.mp hy).1
  unfold ixN
  rw [if_pos h0, if_pos (by omega)]
end
/-- a word between two statements -/
theorem x_cut {t u : TS} {D : Ends} {σ : L2.St} {H : Hp} (Mid : L2.St → Hp → Prop) (h : t { D with nx := Mid } σ H) (k : ∀ σ' H', Mid σ' H' → u D σ' H') : tCut t u D σ H := ⟨Mid, h, k⟩
theorem cut_ints (ws : List Int) (lo hi : Option Int) : ∃ us : List Int, cutV (ws.map V.int) lo hi = us.map V.int ∧ us.length ≤ ws.length := by
  refine ⟨(ws.drop (HT.sIx (ws.map V.int).length 0 lo)).take (HT.sIx (ws.map V.int).length (ws.map V.int).length hi - HT.sIx (ws.map V.int).length 0 lo), ?_, ?_⟩
  · unfold cutV
    rw [List.map_take, List.map_drop]
  · rw [List.length_take, List.length_drop]
    omega
theorem rep_ints (ws : List Int) (k : Nat) : (List.replicate k (ws.map V.int)).flatten = ((List.replicate k ws).flatten).map V.int := by
  induction k with
  | zero => rfl
  | succ k ih => rw [List.replicate_succ, List.replicate_succ, List.flatten_cons, List.flatten_cons, List.map_append, ih]
theorem rep_len (ws : List Int) (k : Nat) : ((List.replicate k ws).flatten).length = k * ws.length := by
  induction k with
  | zero => simp
  | succ k ih => rw [List.replicate_succ, List.flatten_cons, List.length_append, ih, Nat.succ_mul]; omega
theorem set_ints (ws : List Int) (j : Nat) (z : Int) : (ws.map V.int).set j (.int z) = (ws.set j z).map V.int := List.map_set.symm
/-- the promise of a law: a list of at most 63 ints is handed in, True comes back -/
def spLaw (K : PySem.W.Frag) : Sp := fun vs H Q _ => ∃ (a : Addr) (ns : List Int), vs = [.ref a] ∧ SqL K H a (ns.map V.int) ∧ ns.length ≤ 63 ∧ (∀ z ∈ ns, Builtin.Int.intBits z ≤ 1048576) ∧ ∀ H', Q (.bl true) H'
/-- a while by a number that falls -/
def whQ (t : TS) (W : Nat → L2.St → Hp → Prop) (m : Nat) (D : Ends) (σ : L2.St) : Bool → Hp → Prop := fun b H1 => if b = true then ∃ N : L2.St → Hp → Prop, (∀ σ' H', N σ' H' → ∃ m', m' < m ∧ W m' σ' H') ∧ t { D with nx := N, ct := N, bk := D.nx } σ H1 else D.nx σ H1
theorem x_while {c : TT} {t : TS} {D : Ends} {σ : L2.St} {H : Hp} (W : Nat → L2.St → Hp → Prop) (m0 : Nat) (h0 : W m0 σ H) (hs : ∀ m σ H, W m σ H → c σ H (whQ t W m D σ)) : tWhile c t D σ H := ⟨W, ⟨m0, h0⟩, hs⟩
theorem x_whD {t : TS} {W : Nat → L2.St → Hp → Prop} {m : Nat} {f : L2.St → Hp → Prop} {rt : VK} {bk ct : L2.St → Hp → Prop} {σ : L2.St} {H : Hp} {p : Prop} [Decidable p]
    (h1 : p → t (Ends.mk (fun σ' H' => ∃ m', m' < m ∧ W m' σ' H') rt f (fun σ' H' => ∃ m', m' < m ∧ W m' σ' H')) σ H) (h2 : ¬ p → f σ H) : whQ t W m (Ends.mk f rt bk ct) σ (decide p) H := by
  unfold whQ
  by_cases c : p
  · rw [if_pos (decide_eq_true c)]
    exact ⟨_, fun _ _ h => h, h1 c⟩
  · rw [if_neg (by rw [decide_eq_false c]; exact Bool.false_ne_true)]
    exact h2 c
theorem x_shl {H : Hp} {Q : VK} {B : Nat} {k : Nat} {n : Nat} (h : B < 2 ^ n) (hn : n + k ≤ 134217728) (q : Q (.int ((B <<< k : Nat) : Int)) H) : rI CShl (fun i j => .int (i * 2 ^ j.toNat)) (.int (B : Int)) (.int (k : Int)) H Q :=
  ⟨B, k, rfl, rfl, shl_ok (by omega) hn, by
    have e : ((B <<< k : Nat) : Int) = (B : Int) * 2 ^ ((k : Int)).toNat := by
      rw [Nat.shiftLeft_eq, Int.toNat_natCast, Int.natCast_mul, Int.natCast_pow]
      rfl
    rw [e] at q
    exact q⟩
/-! ### runs: what is left of a reading when all that needs no word of ours is done (found by the search for instances) -/
class Run (P : Prop) (R : outParam Prop) : Prop where
  go : R → P
theorem run {P R : Prop} [i0 : Run P R] (h : R) : P := i0.go h
instance (priority := low) run_base {P : Prop} : Run P P := ⟨id⟩
/-- the value in a slot -/
class Slot (σ : L2.St) (i : Nat) (v : outParam V) : Prop where
  h : σ[i]? = some (some v)
instance slot_0 {v : V} {σ : L2.St} : Slot (some v :: σ) 0 v := ⟨rfl⟩
instance slot_s {o : Option V} {v : V} {σ : L2.St} {n : Nat} [i : Slot σ n v] : Slot (o :: σ) (n + 1) v := ⟨i.h⟩
/-- a slot stored -/
class SetS (σ : L2.St) (i : Nat) (o : Option V) (σ' : outParam L2.St) : Prop where
  h : σ.set i o = σ'
instance set_0 {o x : Option V} {σ : L2.St} : SetS (x :: σ) 0 o (o :: σ) := ⟨rfl⟩
instance set_s {o x : Option V} {σ σ' : L2.St} {n : Nat} [i : SetS σ n o σ'] : SetS (x :: σ) (n + 1) o (x :: σ') := ⟨by rw [List.set_cons_succ, i.h]⟩
/-- a comprehension's own slots wiped -/
class Wp (σ : L2.St) (ns : List Nat) (σ' : outParam L2.St) : Prop where
  h : wipe σ ns = σ'
instance wp_nil {σ : L2.St} : Wp σ (List.map (fun x : Str × Nat => x.2) []) σ := ⟨rfl⟩
instance wp_cons {σ σ1 σ2 : L2.St} {s : Str} {n : Nat} {l : List (Str × Nat)} [a : Wp σ (List.map (fun x : Str × Nat => x.2) l) σ1] [b : SetS σ1 n none σ2] : Wp σ (List.map (fun x : Str × Nat => x.2) ((s, n) :: l)) σ2 := ⟨by
  show (wipe σ (List.map (fun x : Str × Nat => x.2) l)).set n none = σ2
  rw [a.h, b.h]⟩
instance set_wipe {σ σ1 σ2 : L2.St} {ns : List Nat} {i : Nat} {o : Option V} [a : Wp σ ns σ1] [b : SetS σ1 i o σ2] : SetS (wipe σ ns) i o σ2 := ⟨by rw [a.h, b.h]⟩
class PosI (j : Int) : Prop where
  h : 0 < j
instance posI {m : Nat} : PosI (OfNat.ofNat (m + 1)) := ⟨Int.natCast_pos.mpr (Nat.succ_pos m)⟩
section
variable {K : PySem.W.Frag} {σ σ' : L2.St} {H : Hp} {Q : VK} {QB : Bool → Hp → Prop} {QA : List V → Hp → Prop} {R : Prop} {v x y : V} {ta tb tc te : TE} {t u : TS} {c d : TT} {D : Ends} {r r' : R2} {i j : Nat} {g : TG} {gs : TGs} {tr : TA} {sp : Sp} {E : XK} {vs : List V}
  {f : L2.St → Hp → Prop} {rt : VK} {bk ct : L2.St → Hp → Prop} {a b : Int} {z z' : Str} {k l : Bool} {p q : Addr} {G : L2.St → Hp → Prop} {S : It → Hp → Prop} {ns : List Nat} {tt : TT} {Dl : Addr} {Nx : Hp → Prop}
instance r_var [s : Slot σ i v] [n : Run (Q v H) R] : Run (tVar i σ H Q) R := ⟨fun h => x_var s.h (n.go h)⟩
instance r_c [i0 : Run (Q v H) R] : Run (tC v σ H Q) R := ⟨fun h => x_c (i0.go h)⟩
instance r_op [i0 : Run (ta σ H (opQ1 r tb σ Q)) R] : Run (tOp r ta tb σ H Q) R := ⟨fun h => x_op (i0.go h)⟩
instance r_opQ1 [i0 : Run (tb σ H (opQ2 r x Q)) R] : Run (opQ1 r tb σ Q x H) R := ⟨fun h => x_opQ1 (i0.go h)⟩
instance r_opQ2 [i0 : Run (r x y H Q) R] : Run (opQ2 r x Q y H) R := ⟨fun h => x_opQ2 (i0.go h)⟩
instance r_un {h1 : V → Hp → VK → Prop} [i0 : Run (ta σ H (unQ h1 Q)) R] : Run (tUn h1 ta σ H Q) R := ⟨fun h => x_un (i0.go h)⟩
instance r_unQ {h1 : V → Hp → VK → Prop} [i0 : Run (h1 x H Q) R] : Run (unQ h1 Q x H) R := ⟨fun h => x_unQ (i0.go h)⟩
instance r_I0 {fI : Int → Int → V} [i0 : Run (Q (fI a b) H) R] : Run (rI0 fI (.int a) (.int b) H Q) R := ⟨fun h => x_I0 (i0.go h)⟩
instance r_rU {fI : Int → V} [i0 : Run (Q (fI a) H) R] : Run (rU fI (.int a) H Q) R := ⟨fun h => x_rU (i0.go h)⟩
instance r_mod [m : PosI b] [n : Run (Q (.int (a % b)) H) R] : Run (rI (fun _ j => 0 < j) (fun i j => .int (i % j)) (.int a) (.int b) H Q) R := ⟨fun h => x_mod m.h (n.go h)⟩
instance r_eqI [i0 : Run (Q (.bl (decide (a = b))) H) R] : Run (rEq (.int a) (.int b) H Q) R := ⟨fun h => x_eqI (i0.go h)⟩
instance r_neI [i0 : Run (Q (.bl (decide (a ≠ b))) H) R] : Run (rNe (.int a) (.int b) H Q) R := ⟨fun h => x_neI (i0.go h)⟩
instance r_eqS [i0 : Run (Q (.bl (decide (z = z'))) H) R] : Run (rEq (.str z) (.str z') H Q) R := ⟨fun h => x_eqS (i0.go h)⟩
instance r_neS [i0 : Run (Q (.bl (decide (z ≠ z'))) H) R] : Run (rNe (.str z) (.str z') H Q) R := ⟨fun h => x_neS (i0.go h)⟩
instance r_eqBs [i0 : Run (Q (.bl true) H) R] : Run (rEq (.bl k) (.bl k) H Q) R := ⟨fun h => x_eqBs (i0.go h)⟩
instance r_neBs [i0 : Run (Q (.bl false) H) R] : Run (rNe (.bl k) (.bl k) H Q) R := ⟨fun h => x_neBs (i0.go h)⟩
instance r_test [i0 : Run (ta σ H (bQ QB)) R] : Run (tTest ta σ H QB) R := ⟨fun h => x_test (i0.go h)⟩
instance r_tB [i0 : Run (ta σ H (bQ QB)) R] : Run (tB ta σ H QB) R := ⟨fun h => x_tB (i0.go h)⟩
instance r_bQ [i0 : Run (QB k H) R] : Run (bQ QB (.bl k) H) R := ⟨fun h => x_bQ (i0.go h)⟩
instance r_and [i0 : Run (c σ H (andQ d σ QB)) R] : Run (tAnd c d σ H QB) R := ⟨fun h => x_and (i0.go h)⟩
instance r_or [i0 : Run (c σ H (orQ d σ QB)) R] : Run (tOr c d σ H QB) R := ⟨fun h => x_or (i0.go h)⟩
instance r_not [i0 : Run (c σ H (notQ QB)) R] : Run (tNot c σ H QB) R := ⟨fun h => x_not (i0.go h)⟩
instance (priority := low + 1) r_notQ [i0 : Run (QB (!k) H) R] : Run (notQ QB k H) R := ⟨fun h => x_notQ (i0.go h)⟩
instance r_notQT [i0 : Run (QB false H) R] : Run (notQ QB true H) R := ⟨fun h => x_notQT (i0.go h)⟩
instance r_notQF [i0 : Run (QB true H) R] : Run (notQ QB false H) R := ⟨fun h => x_notQF (i0.go h)⟩
instance r_andT [i0 : Run (d σ H QB) R] : Run (andQ d σ QB true H) R := ⟨fun h => x_andT (i0.go h)⟩
instance r_andF [i0 : Run (QB false H) R] : Run (andQ d σ QB false H) R := ⟨fun h => x_andF (i0.go h)⟩
instance r_orT [i0 : Run (QB true H) R] : Run (orQ d σ QB true H) R := ⟨fun h => x_orT (i0.go h)⟩
instance r_orF [i0 : Run (d σ H QB) R] : Run (orQ d σ QB false H) R := ⟨fun h => x_orF (i0.go h)⟩
instance r_ifExp [i0 : Run (c σ H (iteQ ta tb σ Q)) R] : Run (tIf c ta tb σ H Q) R := ⟨fun h => x_ifExp (i0.go h)⟩
instance r_andV [i0 : Run (ta σ H (andVQ tb σ Q)) R] : Run (tAndV ta tb σ H Q) R := ⟨fun h => x_andV (i0.go h)⟩
instance r_orV [i0 : Run (ta σ H (orVQ tb σ Q)) R] : Run (tOrV ta tb σ H Q) R := ⟨fun h => x_orV (i0.go h)⟩
instance r_notV [i0 : Run (ta σ H (notVQ Q)) R] : Run (tNotV ta σ H Q) R := ⟨fun h => x_notV (i0.go h)⟩
instance r_notVQ [i0 : Run (Q (.bl (!k)) H) R] : Run (notVQ Q (.bl k) H) R := ⟨fun h => x_notVQ (i0.go h)⟩
instance r_andVT [i0 : Run (tb σ H Q) R] : Run (andVQ tb σ Q (.bl true) H) R := ⟨fun h => x_andVT (i0.go h)⟩
instance r_nil [i0 : Run (QA [] H) R] : Run (tNil σ H QA) R := ⟨fun h => x_nil (i0.go h)⟩
instance r_cons [i0 : Run (te σ H (consQ tr σ QA)) R] : Run (tCons te tr σ H QA) R := ⟨fun h => x_cons (i0.go h)⟩
instance r_consQ [i0 : Run (tr σ H fun xs H2 => QA (x :: xs) H2) R] : Run (consQ tr σ QA x H) R := ⟨fun h => x_consQ (i0.go h)⟩
instance r_call [i0 : Run (tr σ H (callQ sp Q E)) R] : Run (tCall sp [] E tr σ H Q) R := ⟨fun h => x_call (i0.go h)⟩
instance r_callQ [i0 : Run (sp vs H Q E) R] : Run (callQ sp Q E vs H) R := ⟨fun h => x_callQ (i0.go h)⟩
instance r_cb {h1 : List V → Hp → VK → Prop} [i0 : Run (tr σ H (cbQ h1 Q)) R] : Run (tCB h1 tr σ H Q) R := ⟨fun h => x_cb (i0.go h)⟩
instance r_cbQ {h1 : List V → Hp → VK → Prop} [i0 : Run (h1 vs H Q) R] : Run (cbQ h1 Q vs H) R := ⟨fun h => x_cbQ (i0.go h)⟩
instance r_lst [i0 : Run (tr σ H (lstQ Q)) R] : Run (tLst tr σ H Q) R := ⟨fun h => x_lst (i0.go h)⟩
instance r_tup [i0 : Run (tr σ H (tupQ Q)) R] : Run (tTup tr σ H Q) R := ⟨fun h => x_tup (i0.go h)⟩
instance r_seq [i0 : Run (t (Ends.mk (u (Ends.mk f rt bk ct)) rt bk ct) σ H) R] : Run (tSeq t u (Ends.mk f rt bk ct) σ H) R := ⟨fun h => x_seq (i0.go h)⟩
instance r_next [i0 : Run (f σ H) R] : Run (tNext (Ends.mk f rt bk ct) σ H) R := ⟨fun h => x_next (D := Ends.mk f rt bk ct) (i0.go h)⟩
instance r_asg [i0 : Run (te σ H (asgQ g (Ends.mk f rt bk ct) σ)) R] : Run (tAsg te g (Ends.mk f rt bk ct) σ H) R := ⟨fun h => x_asg (i0.go h)⟩
instance r_asgN [s : SetS σ i (some x) σ'] [n : Run (f σ' H) R] : Run (asgQ (gName i) (Ends.mk f rt bk ct) σ x H) R := ⟨fun h => x_asgN (D := Ends.mk f rt bk ct) (by rw [s.h]; exact n.go h)⟩
instance r_drop [i0 : Run (te σ H (dropQ (Ends.mk f rt bk ct) σ)) R] : Run (tDrop te (Ends.mk f rt bk ct) σ H) R := ⟨fun h => x_drop (i0.go h)⟩
instance r_dropQ [i0 : Run (f σ H) R] : Run (dropQ (Ends.mk f rt bk ct) σ x H) R := ⟨fun h => x_dropQ (D := Ends.mk f rt bk ct) (i0.go h)⟩
instance r_ret [i0 : Run (te σ H rt) R] : Run (tRet te (Ends.mk f rt bk ct) σ H) R := ⟨fun h => x_ret (D := Ends.mk f rt bk ct) (i0.go h)⟩
instance r_retN [i0 : Run (rt .non H) R] : Run (tRetN (Ends.mk f rt bk ct) σ H) R := ⟨fun h => x_retN (D := Ends.mk f rt bk ct) (i0.go h)⟩
instance r_if [i0 : Run (c σ H (ifQ t u (Ends.mk f rt bk ct) σ)) R] : Run (tIfS c t u (Ends.mk f rt bk ct) σ H) R := ⟨fun h => x_if (i0.go h)⟩
instance r_ifT [i0 : Run (t D σ H) R] : Run (ifQ t u D σ true H) R := ⟨fun h => x_ifT (i0.go h)⟩
instance r_ifF [i0 : Run (u D σ H) R] : Run (ifQ t u D σ false H) R := ⟨fun h => x_ifF (i0.go h)⟩
instance r_cont [i0 : Run (ct σ H) R] : Run (tCont (Ends.mk f rt bk ct) σ H) R := ⟨fun h => x_cont (D := Ends.mk f rt bk ct) (i0.go h)⟩
instance r_break [i0 : Run (bk σ H) R] : Run (tBreak (Ends.mk f rt bk ct) σ H) R := ⟨fun h => x_break (D := Ends.mk f rt bk ct) (i0.go h)⟩
instance r_asgS {hS : TSet} [i0 : Run (ta σ H (gsQ1 tb hS σ v (f σ))) R] : Run (asgQ (gSub ta tb hS) (Ends.mk f rt bk ct) σ v H) R := ⟨fun h => x_asgS (D := Ends.mk f rt bk ct) (i0.go h)⟩
instance r_gsQ1 {hS : TSet} [i0 : Run (tb σ H (gsQ2 hS x v Nx)) R] : Run (gsQ1 tb hS σ v Nx x H) R := ⟨fun h => x_gsQ1 (i0.go h)⟩
instance r_gsQ2 {hS : TSet} [i0 : Run (hS x y v H Nx) R] : Run (gsQ2 hS x v Nx y H) R := ⟨fun h => x_gsQ2 (i0.go h)⟩
instance r_chain [i0 : Run (ta σ H (chQ1 r r' tb tc σ Q)) R] : Run (tChain r r' ta tb tc σ H Q) R := ⟨fun h => x_chain (i0.go h)⟩
instance r_chQ1 [i0 : Run (tb σ H (chQ2 r r' tc σ x Q)) R] : Run (chQ1 r r' tb tc σ Q x H) R := ⟨fun h => x_chQ1 (i0.go h)⟩
instance r_chQ2 [i0 : Run (r x y H (chQ3 r' y tc σ Q)) R] : Run (chQ2 r r' tc σ x Q y H) R := ⟨fun h => x_chQ2 (i0.go h)⟩
instance r_for {wi : TI} [i0 : Run (wi σ H (forQ g t (Ends.mk f rt bk ct) σ)) R] : Run (tFor wi g t (Ends.mk f rt bk ct) σ H) R := ⟨fun h => x_for (i0.go h)⟩
instance r_iL [i0 : Run (ta σ H (iLQ K S)) R] : Run (iList K ta σ H S) R := ⟨fun h => x_iL (i0.go h)⟩
instance r_iT [i0 : Run (ta σ H (iTQ K S)) R] : Run (iTup K ta σ H S) R := ⟨fun h => x_iT (i0.go h)⟩
instance r_iR [i0 : Run (tr σ H (iRQ S)) R] : Run (iRng1 tr σ H S) R := ⟨fun h => x_iR (i0.go h)⟩
instance r_iR2 [i0 : Run (tr σ H (iR2Q S)) R] : Run (iRng2 tr σ H S) R := ⟨fun h => x_iR2 (i0.go h)⟩
instance r_iZ [i0 : Run (tr σ H (iZQ K S)) R] : Run (iZip K tr σ H S) R := ⟨fun h => x_iZ (i0.go h)⟩
instance r_iZA [i0 : Run (tr σ H (iZAQ K S)) R] : Run (iZipA K tr σ H S) R := ⟨fun h => x_iZA (i0.go h)⟩
instance r_iE [i0 : Run (tr σ H (iEQ K S)) R] : Run (iEnum K tr σ H S) R := ⟨fun h => x_iE (i0.go h)⟩
instance r_lc {wi : TI} [i0 : Run (wi σ H (lcQ g tt te ns σ Q)) R] : Run (tLc wi g tt te ns σ H Q) R := ⟨fun h => x_lc (i0.go h)⟩
instance r_gN [s : SetS σ i (some v) σ'] [n : Run (G σ' H) R] : Run (gName i v σ H G) R := ⟨fun h => x_gN (by rw [s.h]; exact n.go h)⟩
instance r_tgQ [n : Run (t (Ends.mk G rt f G) σ H) R] : Run (tgQ t G (Ends.mk f rt bk ct) σ H) R := ⟨fun h => x_tgQ (D := Ends.mk f rt bk ct) (by exact n.go h)⟩
instance r_tYes [i0 : Run (QB true H) R] : Run (tYes σ H QB) R := ⟨fun h => x_tYes (i0.go h)⟩
instance r_ttT [i0 : Run (te σ H (eltQ Dl Nx)) R] : Run (ttQ te Dl Nx σ true H) R := ⟨fun h => x_ttT (i0.go h)⟩
instance r_bm {T : String} {h1 : V → List V → Hp → VK → Prop} [i0 : Run (ta σ H (bmQ K T h1 tr σ Q)) R] : Run (tBM K T h1 ta tr σ H Q) R := ⟨fun h => x_bm (i0.go h)⟩
instance r_bmQ2 {h1 : V → List V → Hp → VK → Prop} [i0 : Run (h1 x vs H Q) R] : Run (bmQ2 h1 x Q vs H) R := ⟨fun h => x_bmQ2 (i0.go h)⟩
instance r_bm0 {T : String} {h1 : V → List V → Hp → VK → Prop} [i0 : Run (ta σ H (bm0Q K T h1 Q)) R] : Run (tBM0 K T h1 ta σ H Q) R := ⟨fun h => x_bm0 (i0.go h)⟩
instance r_sl {h1 : V → Option Int → Option Int → Hp → VK → Prop} {tl th : TO} [i0 : Run (ta σ H (slQ1 h1 tl th σ Q)) R] : Run (tSl h1 ta tl th σ H Q) R := ⟨fun h => x_sl (i0.go h)⟩
instance r_slQ1 {h1 : V → Option Int → Option Int → Hp → VK → Prop} {tl th : TO} [i0 : Run (tl σ H (slQ2 h1 th σ Q x)) R] : Run (slQ1 h1 tl th σ Q x H) R := ⟨fun h => x_slQ1 (i0.go h)⟩
instance r_slQ2 {h1 : V → Option Int → Option Int → Hp → VK → Prop} {th : TO} {lo : Option Int} [i0 : Run (th σ H (slQ3 h1 Q x lo)) R] : Run (slQ2 h1 th σ Q x lo H) R := ⟨fun h => x_slQ2 (i0.go h)⟩
instance r_slQ3 {h1 : V → Option Int → Option Int → Hp → VK → Prop} {lo hi : Option Int} [i0 : Run (h1 x lo hi H Q) R] : Run (slQ3 h1 Q x lo hi H) R := ⟨fun h => x_slQ3 (i0.go h)⟩
instance r_noPart {RO : Option Int → Hp → Prop} [i0 : Run (RO none H) R] : Run (tNoPart σ H RO) R := ⟨fun h => x_noPart (i0.go h)⟩
instance r_part {RO : Option Int → Hp → Prop} [i0 : Run (ta σ H (ptQ RO)) R] : Run (tPart ta σ H RO) R := ⟨fun h => x_part (i0.go h)⟩
instance r_ptQ {RO : Option Int → Hp → Prop} [i0 : Run (RO (some a) H) R] : Run (ptQ RO (.int a) H) R := ⟨fun h => x_ptQ (i0.go h)⟩
instance r_intB [i0 : Run (Q (.int (if k then 1 else 0)) H) R] : Run (rIntOf [.bl k] H Q) R := ⟨fun h => x_intB (i0.go h)⟩
instance r_intI [i0 : Run (Q (.int a) H) R] : Run (rIntOf [.int a] H Q) R := ⟨fun h => x_intI (i0.go h)⟩
instance r_min [i0 : Run (Q (.int (if b < a then b else a)) H) R] : Run (rMin2 [.int a, .int b] H Q) R := ⟨fun h => x_min (i0.go h)⟩
instance r_max [i0 : Run (Q (.int (if b > a then b else a)) H) R] : Run (rMax2' [.int a, .int b] H Q) R := ⟨fun h => x_max (i0.go h)⟩
instance r_par [h0 : Run (tr σ H (parQ i j (Ends.mk f rt bk ct) σ)) R] : Run (tPar i j tr (Ends.mk f rt bk ct) σ H) R := ⟨fun h => x_par (h0.go h)⟩
instance r_parQ {σ2 : L2.St} [s : SetS σ i (some x) σ'] [s2 : SetS σ' j (some y) σ2] [n : Run (f σ2 H) R] : Run (parQ i j (Ends.mk f rt bk ct) σ [x, y] H) R := ⟨fun h => x_parQ (D := Ends.mk f rt bk ct) (by rw [s.h, s2.h]; exact n.go h)⟩
instance r_gCons [s : SetS σ i (some x) σ'] [n : Run (gs vs σ' H G) R] : Run (gCons (gName i) gs (x :: vs) σ H G) R := ⟨fun h => x_gCons (by rw [s.h]; exact n.go h)⟩
instance r_gNil [i0 : Run (G σ H) R] : Run (gNil [] σ H G) R := ⟨fun h => x_gNil (i0.go h)⟩
instance r_isNN [i0 : Run (Q (.bl true) H) R] : Run (rIsN .non .non H Q) R := ⟨fun h => x_isNN (i0.go h)⟩
instance r_isNI [i0 : Run (Q (.bl false) H) R] : Run (rIsN (.int a) .non H Q) R := ⟨fun h => x_isNI (i0.go h)⟩
instance r_isNB [i0 : Run (Q (.bl false) H) R] : Run (rIsN (.bl k) .non H Q) R := ⟨fun h => x_isNB (i0.go h)⟩
instance r_isNS [i0 : Run (Q (.bl false) H) R] : Run (rIsN (.str z) .non H Q) R := ⟨fun h => x_isNS (i0.go h)⟩
instance r_isNR [i0 : Run (Q (.bl false) H) R] : Run (rIsN (.ref p) .non H Q) R := ⟨fun h => x_isNR (i0.go h)⟩
instance r_notNN [i0 : Run (Q (.bl false) H) R] : Run (rNotN .non .non H Q) R := ⟨fun h => x_notNN (i0.go h)⟩
instance r_notNR [i0 : Run (Q (.bl true) H) R] : Run (rNotN (.ref p) .non H Q) R := ⟨fun h => x_notNR (i0.go h)⟩
end
section
variable {K : PySem.W.Frag} {σ : L2.St} {H : Hp} {Q : VK} {R : Prop} {ta : TE} {a : Int} {n : Nat} {S : It → Hp → Prop}
/-! ### bit_length; reversed(range(n)) -/
def bitsQ (Q : VK) : VK := fun x H => ∃ i, x = .int i ∧ Q (.int (Builtin.Int.intBits i : Nat)) H
theorem x_bits (k : ta σ H (bitsQ Q)) : tBits ta σ H Q := k
theorem x_bitsQ (k : Q (.int (Builtin.Int.intBits a : Nat)) H) : bitsQ Q (.int a) H := ⟨a, rfl, k⟩
instance r_bits [i0 : Run (ta σ H (bitsQ Q)) R] : Run (tBits ta σ H Q) R := ⟨fun h => x_bits (i0.go h)⟩
instance r_bitsQ [i0 : Run (Q (.int (Builtin.Int.intBits a : Nat)) H) R] : Run (bitsQ Q (.int a) H) R := ⟨fun h => x_bitsQ (i0.go h)⟩
def rgQ (F : Int → Int → Hp → Prop) : VK := fun x H1 => ∃ n, x = .int n ∧ F 0 n H1
def rrQ (S : It → Hp → Prop) : Int → Int → Hp → Prop := fun a b H1 => -(2 ^ 62) ≤ a ∧ a < 2 ^ 62 ∧ -(2 ^ 62) ≤ b ∧ b < 2 ^ 62 ∧ S (Itc (a + (((b - a).toNat : Nat) : Int) - 1) (-1) (b - a).toNat) H1
instance r_revR {tr : L2.St → Hp → (Int → Int → Hp → Prop) → Prop} [i0 : Run (tr σ H (rrQ S)) R] : Run (iRevR tr σ H S) R := ⟨fun h => i0.go h⟩
instance r_rg1 {F : Int → Int → Hp → Prop} [i0 : Run (ta σ H (rgQ F)) R] : Run (tRg1 ta σ H F) R := ⟨fun h => i0.go h⟩
instance r_rgQ {F : Int → Int → Hp → Prop} [i0 : Run (F 0 a H) R] : Run (rgQ F (.int a) H) R := ⟨fun h => ⟨a, rfl, i0.go h⟩⟩
theorem x_rrQ (h : n < 2 ^ 62) (k : S (Itc ((n : Int) - 1) (-1) n) H) : rrQ S 0 (n : Int) H := by
  refine ⟨by decide, by decide, by omega, by omega, ?_⟩
  rw [show ((n : Int) - 0).toNat = n by omega, show (0 : Int) + (n : Int) - 1 = (n : Int) - 1 by omega]
  exact k
end
theorem walk_rr {n : Nat} : Walk (Itc ((n : Int) - 1) (-1) n) n (fun _ => True) (fun i H x H' => H' = H ∧ x = .int ((n : Int) - 1 - (i : Int))) :=
  walk_rangeC.mono (fun _ h => h) fun i H x H' _ _ y => ⟨y.1, by rw [y.2]; show V.int ((n : Int) - 1 + (i : Int) * -1) = _; rw [Int.mul_neg, Int.mul_one, Int.add_neg_eq_sub]⟩
theorem min_if (a b : Int) : (if b < a then b else a) = min a b := by split <;> omega
theorem max_if (a b : Int) : (if b > a then b else a) = max a b := by split <;> omega
section
variable {H : Hp} {Q : VK} {R : Prop} {k : Bool}
/-! ### is, is not with True, False -/
theorem x_isT (q : Q (.bl k) H) : rIsB (.bl k) (.bl true) H Q := ⟨k, true, rfl, rfl, by cases k <;> exact q⟩
theorem x_isF (q : Q (.bl (!k)) H) : rIsB (.bl k) (.bl false) H Q := ⟨k, false, rfl, rfl, by cases k <;> exact q⟩
theorem x_notT (q : Q (.bl (!k)) H) : rNotB (.bl k) (.bl true) H Q := ⟨k, true, rfl, rfl, by cases k <;> exact q⟩
theorem x_notF (q : Q (.bl k) H) : rNotB (.bl k) (.bl false) H Q := ⟨k, false, rfl, rfl, by cases k <;> exact q⟩
instance r_isT [i0 : Run (Q (.bl k) H) R] : Run (rIsB (.bl k) (.bl true) H Q) R := ⟨fun h => x_isT (i0.go h)⟩
instance r_isF [i0 : Run (Q (.bl (!k)) H) R] : Run (rIsB (.bl k) (.bl false) H Q) R := ⟨fun h => x_isF (i0.go h)⟩
instance r_notT [i0 : Run (Q (.bl (!k)) H) R] : Run (rNotB (.bl k) (.bl true) H Q) R := ⟨fun h => x_notT (i0.go h)⟩
instance r_notF [i0 : Run (Q (.bl k) H) R] : Run (rNotB (.bl k) (.bl false) H Q) R := ⟨fun h => x_notF (i0.go h)⟩
instance r_isFF [i0 : Run (Q (.bl true) H) R] : Run (rIsB (.bl false) (.bl false) H Q) R := ⟨fun h => x_isF (i0.go h)⟩
instance r_notTT [i0 : Run (Q (.bl false) H) R] : Run (rNotB (.bl true) (.bl true) H Q) R := ⟨fun h => x_notT (i0.go h)⟩
end
theorem range_gd {α : Type} (ws : List Int) (g : Int → α) : (List.range ws.length).map (fun i => g (ws.getD i 0)) = ws.map g := by
  apply List.ext_getElem
  · rw [List.length_map, List.length_range, List.length_map]
  · intro i h1 h2
    rw [List.length_map] at h2
    rw [List.getElem_map, List.getElem_map, List.getElem_range, List.getD_eq_getElem?_getD, List.getElem?_eq_getElem h2]
    rfl
section
variable {σ : L2.St} {H : Hp} {QB : Bool → Hp → Prop} {d : TT} {p : Prop} [Decidable p]
theorem x_orN (h1 : p → d σ H QB) (h2 : ¬ p → QB true H) : orQ d σ QB (!decide p) H := by
  by_cases c : p
  · rw [decide_eq_true c]; exact x_orF (h1 c)
  · rw [decide_eq_false c]; exact x_orT (h2 c)
theorem x_andN (h1 : p → QB false H) (h2 : ¬ p → d σ H QB) : andQ d σ QB (!decide p) H := by
  by_cases c : p
  · rw [decide_eq_true c]; exact x_andF (h1 c)
  · rw [decide_eq_false c]; exact x_andT (h2 c)
end
end G

/-! ### the head by facts -/
namespace G
open PySem PySem.Spec PyProof.Rows L2
section
variable {fa : List (List He.Fa)} {fn : List (List He.FnD)} {ex : List (PySem.W.Frag → Bool)} {K : PySem.W.Frag}
theorem SaysK.fact (c : SaysK fa fn ex K) (i j : Nat) {l : List He.Fa} {f : He.Fa} (h : fa[i]? = some l := by rfl) (h2 : l[j]? = some f := by rfl) : f.ok K = true := by
  have c1 := (He.ba (congrArg (fun z : AlK => z.1.1) c)).1
  exact List.all_eq_true.mp (List.all_eq_true.mp c1 l (List.mem_of_getElem? h)) f (List.mem_of_getElem? h2)
theorem SaysK.xf (c : SaysK fa fn ex K) (i : Nat) {b : PySem.W.Frag → Bool} (h : ex[i]? = some b := by rfl) : b K = true :=
  List.all_eq_true.mp (congrArg (fun z : AlK => z.1.2) c) b (List.mem_of_getElem? h)
theorem SaysK.def_ (c : SaysK fa fn ex K) (i j : Nat) {l : List He.FnD} {d : He.FnD} (h : fn[i]? = some l := by rfl) (h2 : l[j]? = some d := by rfl) :
    PySem.W.keepIn K (.ref (He.fAd K d.at_)) = true ∧ ∃ oc od osl kV doc pm an cdv ct, K.lookup (He.fAd K d.at_) = some ⟨oc, od, .func (PySem.W.fnOf d.name d.qual d.params d.body d.scope .none kV doc pm an cdv ct), osl⟩ ∧ PySem.W.codeIn K cdv d.qual = true := by
  have c2 := (He.ba (congrArg (fun z : AlK => z.1.1) c)).2
  have c3 := He.ba (List.all_eq_true.mp (List.all_eq_true.mp c2 l (List.mem_of_getElem? h)) d (List.mem_of_getElem? h2))
  have e : fn.map (fun l => l.map fun d => He.fnObs K d.at_) = fn.map fun l => l.map He.FnD.val := congrArg (fun z : AlK => z.2) c
  have e2 : (fn.map (fun l => l.map fun d => He.fnObs K d.at_))[i]? = (fn.map fun l => l.map He.FnD.val)[i]? := by rw [e]
  rw [List.getElem?_map, List.getElem?_map, h] at e2
  have e3 : (l.map fun d => He.fnObs K d.at_) = l.map He.FnD.val := Option.some.inj e2
  have e4 : (l.map fun d => He.fnObs K d.at_)[j]? = (l.map He.FnD.val)[j]? := by rw [e3]
  rw [List.getElem?_map, List.getElem?_map, h2] at e4
  exact ⟨c3.2, He.fn_ok (Option.some.inj e4) c3.1⟩
/-- a def of the module's top -/
theorem SaysK.df {h : Heap} {mg : Str → Option Value} (X : K.In h) (GN : h.Ns mainGlobals mg) (c : SaysK fa fn ex K) {x : Str} {st : Stmt} (i j i2 j2 : Nat) {l : List He.FnD} {l2 : List He.Fa} (h1 : fn[i]? = some l := by rfl)
    (h2 : l[j]? = some ⟨(x, none), x, x, defArgs st, defBody st, defScope st⟩ := by rfl) (h3 : fa[i2]? = some l2 := by rfl) (h4 : l2[j2]? = some (.glo x) := by rfl) : Df K mg x st := by
  obtain ⟨k, oc, od, osl, kV, doc, pm, an, cdv, ct, l, e⟩ := c.def_ i j h1 h2
  exact ⟨He.ga K x, _, fun_mk (st := st) l e k, He.glo_ok X GN (c.fact i2 j2 h3 h4)⟩
/-- a method -/
structure Mf (K : PySem.W.Frag) (C m qual : Str) (st : Stmt) : Prop where
  ex : ∃ fd, Fun K m qual st (He.ma K (He.ga K C) m) fd
theorem SaysK.mf (c : SaysK fa fn ex K) {C m qual : Str} {st : Stmt} (i j : Nat) {l : List He.FnD} (h1 : fn[i]? = some l := by rfl)
    (h2 : l[j]? = some ⟨(C, some m), m, qual, defArgs st, defBody st, defScope st⟩ := by rfl) : Mf K C m qual st := by
  obtain ⟨k, oc, od, osl, kV, doc, pm, an, cdv, ct, l, e⟩ := c.def_ i j h1 h2
  exact ⟨_, fun_mk (st := st) l e k⟩
end
theorem walk_ofEB {l : PySem.W.OpenLaw} {n k : Nat} {q : Program} {loose : List Str} {XP : (Str → Option Value) → Heap → Prop} {YP : World → Heap → Prop} {d : DefRec} {CX : CXT} {x : Str}
    (hn : l.most = some n) (hn2 : n ≤ sizeLine) (hdf : d.params.defaults = []) (hr : Room k callerA)
    (F : ∀ (w : World) (mg : Str → Option Value) (fa : Addr) (h : Heap), YP w h → h.Ns mainGlobals mg → mg d.name = some (.ref fa) →
      ∃ (K : PySem.W.Frag) (fd : FuncData) (sp : Sp), K.In h ∧ (∀ (s : Shared) (u : Value), BindsTo s fd ⟨[u], []⟩ [(x, u)]) ∧
        (∀ (H : Hp) (a : Addr) (ns : List Int), ns.length ≤ n → (∀ z ∈ ns, Builtin.Int.intBits z ≤ 1048576) → Only H → SqL K H a (ns.map V.int) → sp [.ref a] H (fun v _ => v = .bl true) fun _ _ _ => False) ∧
        ∀ base : Heap, K.In base → base.Ns mainGlobals mg → FnOk l.prog w K mg base CX k fa fd [x] sp)
    (hCX : ∀ (H : Hp) (s : Shared) (e : Value) (s' : Shared), CX [] H s (fun _ _ _ => False) e s' → False) :
    PySem.W.WalkO q loose XP YP l.row.toRowW d [] (fun f vs => PySem.call f vs) := by
  refine Att.attach_callB hn hdf fun w s₀ s₁ mg mb fa o pm cd doc a vs ns G Y ho hd hcd hmg hobj hints hlen hbits hg => ?_
  obtain ⟨K, fd, sp, KX, hb, hsp, hF⟩ := F w mg fa _ Y G.T.g hmg
  exact law_call KX G.T.g G.T.b G.T.builtins G.T.nolimit hg hobj hints (Nat.le_trans hlen hn2) hr hF hb (fun H hO hS => hsp H a ns hlen hbits hO hS) fun H e s' => hCX H s₁ e s'
/-! ### a def that may raise -/
theorem Df.dnX {P : Program} {w : World} {K : PySem.W.Frag} {mg : Str → Option Value} {base : Heap} {x : Str} {st : Stmt} {N ps : List Str} {k : Nat} {sp : Sp} (F : Df K mg x st) (S : FnScope N ps (defScope st))
    (hb : ∀ (kV doc pm : Value) (an : Option Addr) (cdv ct : Value) (us : List Value), us.length = ps.length → bindArgs (PySem.W.fnOf x x (defArgs st) (defBody st) (defScope st) .none kV doc pm an cdv ct) ⟨us, []⟩ = pure (ps.zip us))
    (len : ∀ vs H Q E, sp vs H Q E → vs.length = ps.length)
    (hbody : ∀ (f : Addr) (cdv : Value) (A : Around) (outer : List Env) (s : Shared) (H : Hp) (vs : List V) (Q : VK) (E : XK), Room k (A.deeper (envOfC x (defScope st) s.heap.objs.size f cdv)) → (cxOf (L2.CX P w) P w K mg base N x (defScope st) f cdv A outer s H E).K = K → sp vs H Q E →
      ∃ t, PSs (cxOf (L2.CX P w) P w K mg base N x (defScope st) f cdv A outer s H E) (defBody st) t ∧ t { nx := fun _ H' => Q .non H', rt := Q } (start N vs) H) : Dn P w K mg base (L2.CX P w) (k + 1) x ps sp := by
  obtain ⟨f, fd, F, hm⟩ := F.ex
  exact ⟨f, fd, F.okX S len (fun cdv A outer s H vs Q E hr h => hbody f cdv A outer s H vs Q E hr rfl h), hm, F.kp, F.binds hb⟩
section
variable {X : Cx} {CX : CXT} {k : Nat} {ps : List Str} {sp : Sp} {E : L2.St → XK} {x : Str} {p pos : Pos} {e : Expr} {es : List Expr} {t : TA}
/-- a call in a try -/
theorem pe_dnS (D : Dn X.prog X.w X.K X.mg X.base CX k x ps sp) (hr : Room k X.A) (hx : ∀ σ, PassesAt CX X σ (E σ)) (ha : PA X (e :: es) t) (hg : Gl X x := by rfl)
    (hdb : (x == ("__debug__" : Str)) = false := by decide) (he : starEach (e :: es) X.env = (false, eval e X.env) :: starEach es X.env := by rfl) (hpl : (backTo pos (starEach es X.env)).any (·.1) = false := by rfl) :
    PE X (.Call (.Name x p) (e :: es) [] pos) (tCallS sp E t) := by
  obtain ⟨f, fd, F, hm, hk, hb⟩ := D.ex
  exact pe_callS F hr hg hm hk hb hx ha hdb he hpl
end
/-- an own exception class made with a text -/
structure Xc (K : PySem.W.Frag) (mg : Str → Option Value) (x : Str) : Prop where
  g : mg x = some (.ref (He.ga K x))
  xi : PySem.W.excIn K (He.ga K x) He.veBase "ValueError.__new__" = true
  k : PySem.W.keepIn K (.ref (He.ga K x)) = true
  b : PySem.W.subIn K (.ref (He.ga K x)) (.type "BaseException") = some true
  t : PySem.W.typeIn K (.ref (He.ga K x)) = some (.type "type")
theorem Xc.of {fa : List (List He.Fa)} {fn : List (List He.FnD)} {ex : List (PySem.W.Frag → Bool)} {K : PySem.W.Frag} {h : Heap} {mg : Str → Option Value} {x : Str} (X : K.In h) (GN : h.Ns mainGlobals mg) (c : SaysK fa fn ex K) (i j i2 j2 : Nat) {l l2 : List He.Fa} (h1 : fa[i]? = some l := by rfl) (h2 : l[j]? = some (.glo x) := by rfl) (h3 : fa[i2]? = some l2 := by rfl) (h4 : l2[j2]? = some (.exc x) := by rfl) : Xc K mg x := by
  obtain ⟨a, b, d, e⟩ := He.exc_ok (c.fact i2 j2 h3 h4)
  exact ⟨He.glo_ok X GN (c.fact i j h1 h2), a, b, d, e⟩
theorem passX {P : Program} {w : World} {K : PySem.W.Frag} {mg : Str → Option Value} {base : Heap} {N : List Str} {qual : Str} {scope : Scope} {f : Addr} {cdv : Value} {A : Around} {outer : List Env} {s : Shared} {H : Hp} {E : XK} :
    Passes (L2.CX P w) (cxOf (L2.CX P w) P w K mg base N qual scope f cdv A outer s H E) E := passes_call (takes_of rfl rfl rfl rfl) fun _ _ _ _ h => h
/-! ### try -/
def wOnlyQ (K : PySem.W.Frag) (c : Value) (ts : Addr → Value → Option Addr → TS) (Wout : WX) (D : Ends) : WX := wOnly K c ts Wout D
def callSQ (sp : Sp) (E : L2.St → XK) (σ : L2.St) (Q : VK) : List V → Hp → Prop := fun vs H1 => sp vs H1 Q (E σ)
theorem x_callS {sp : Sp} {E : L2.St → XK} {t : TA} {σ : L2.St} {H : Hp} {Q : VK} (k : t σ H (callSQ sp E σ Q)) : tCallS sp E t σ H Q := k
instance r_callS {sp : Sp} {E : L2.St → XK} {t : TA} {σ : L2.St} {H : Hp} {Q : VK} {R : Prop} [i : Run (t σ H (callSQ sp E σ Q)) R] : Run (tCallS sp E t σ H Q) R := ⟨fun h => x_callS (i.go h)⟩
instance r_callSQ {sp : Sp} {E : L2.St → XK} {vs : List V} {σ : L2.St} {H : Hp} {Q : VK} {R : Prop} [i : Run (sp vs H Q (E σ)) R] : Run (callSQ sp E σ Q vs H) R := ⟨fun h => i.go h⟩
/-! ### x += e -/
section
variable {i : Nat} {te : TE} {ti : TIp} {f : L2.St → Hp → Prop} {rt : VK} {bk ct : L2.St → Hp → Prop} {σ σ' : L2.St} {H : Hp} {R : Prop} {v y z : V} {a b : Int} {fI : Int → Int → Int} {Q : VK}
def augQ1 (i : Nat) (ti : TIp) (v : V) (f : L2.St → Hp → Prop) (σ : L2.St) : VK := fun y H1 => ti v y H1 fun z H2 => f (σ.set i (some z)) H2
def augQ2 (i : Nat) (f : L2.St → Hp → Prop) (σ : L2.St) : VK := fun z H2 => f (σ.set i (some z)) H2
theorem x_aug (h : σ[i]? = some (some v)) (k : te σ H (augQ1 i ti v f σ)) : tAug i te ti (Ends.mk f rt bk ct) σ H := ⟨v, h, k⟩
instance r_aug [s : Slot σ i v] [n : Run (te σ H (augQ1 i ti v f σ)) R] : Run (tAug i te ti (Ends.mk f rt bk ct) σ H) R := ⟨fun h => x_aug s.h (n.go h)⟩
instance r_augQ1 [n : Run (ti v y H (augQ2 i f σ)) R] : Run (augQ1 i ti v f σ y H) R := ⟨fun h => n.go h⟩
instance r_ipI [n : Run (Q (.int (fI a b)) H) R] : Run (ipI fI (.int a) (.int b) H Q) R := ⟨fun h => ⟨a, b, rfl, rfl, n.go h⟩⟩
instance r_augQ2 [s : SetS σ i (some z) σ'] [n : Run (f σ' H) R] : Run (augQ2 i f σ z H) R := ⟨fun h => by
  show f (σ.set i (some z)) H
  rw [s.h]
  exact n.go h⟩
end
/-! ### isinstance of a caught error -/
theorem excCB_ok {x : Str} {K : PySem.W.Frag} (h : excCB x K = true) : ExcC K (He.ga K x) := by
  obtain ⟨a, h⟩ := He.ba h
  obtain ⟨b, h⟩ := He.ba h
  obtain ⟨c, h⟩ := He.ba h
  obtain ⟨d, h⟩ := He.ba h
  obtain ⟨e, h⟩ := He.ba h
  obtain ⟨f, h⟩ := He.ba h
  obtain ⟨g, h⟩ := He.ba h
  exact ⟨He.eqO_ok a, He.eqO_ok b, of_decide_eq_true c, d, He.eqO_ok e, He.eqO_ok f, of_decide_eq_true g, of_decide_eq_true h⟩
def rIsX (K : PySem.W.Frag) (cls : Value) (d : Option Addr) (a : Addr) : List V → Hp → VK → Prop := fun xs H Q => ∃ (D : Addr) (c : V) (cv : Value) (b : Bool), cls = .ref D ∧ d = none ∧ ExcC K D ∧ xs = [.ref a, c] ∧ (∀ u, RelV c u → u = cv) ∧ PySem.W.kitOne K (.ref D) cv = some b ∧ Q (.bl b) H
theorem call_isX {X : Cx} {a : Addr} {cls : Value} {d : Option Addr} {oe : Obj} {pn : List (Addr × Obj)} (hz : Zc cls d oe) (hf : ∃ vs, oe.data = .fields vs) : CallR (X.suite a ((a, oe) :: pn)) (.builtin "isinstance") (rIsX X.K cls d a) := by
  intro pins s σ H xs us Q I r h
  obtain ⟨D, c, cv, b, rfl, rfl, C, e, hcv, k, q⟩ := h
  exact call_isE C hz hf pins s σ H xs us Q I r ⟨c, cv, b, e, hcv, k, q⟩
theorem x_isXr {K : PySem.W.Frag} {D a C : Addr} {b : Bool} {H : Hp} {Q : VK} (C0 : ExcC K D) (k : PySem.W.kitOne K (.ref D) (.ref C) = some b) (q : Q (.bl b) H) : rIsX K (.ref D) none a [.ref a, .ref C] H Q :=
  ⟨D, .ref C, .ref C, b, rfl, rfl, C0, rfl, fun u h => h, k, q⟩
theorem x_isXt {K : PySem.W.Frag} {D a : Addr} {T : String} {b : Bool} {H : Hp} {Q : VK} (C0 : ExcC K D) (k : PySem.W.kitOne K (.ref D) (.type T) = some b) (q : Q (.bl b) H) : rIsX K (.ref D) none a [.ref a, .ty T] H Q :=
  ⟨D, .ty T, .type T, b, rfl, rfl, C0, rfl, fun u h => h, k, q⟩
instance slot_set {σ σ' : L2.St} {i n : Nat} {o : Option V} {v : V} [a : SetS σ i o σ'] [b : Slot σ' n v] : Slot (σ.set i o) n v := ⟨by rw [a.h]; exact b.h⟩
instance sets_set {σ σ1 σ2 : L2.St} {i n : Nat} {o o' : Option V} [a : SetS σ i o σ1] [b : SetS σ1 n o' σ2] : SetS (σ.set i o) n o' σ2 := ⟨by rw [a.h]; exact b.h⟩
end G

set_option Elab.async false
set_option linter.all false
set_option maxRecDepth 100000
set_option synthInstance.maxHeartbeats 0
set_option synthInstance.maxSize 100000
/-! A heap in parts: what stands in it is told by a list of parts that stand apart (but for what never changes). -/
namespace G
open PySem PySem.Spec PyProof.Rows L2 Evl RZ
/-! ### what never changes once it stands -/
def Per : HO → Prop
  | .tup _ => True
  | _ => False
/-- what never changes is kept -/
def PK (H H' : Hp) : Prop := ∀ a o, Per o → H a = some o → H' a = some o
theorem PK.refl {H : Hp} : PK H H := fun _ _ _ h => h
theorem PK.trans {H H1 H2 : Hp} (a : PK H H1) (b : PK H1 H2) : PK H H2 := fun x o p h => b x o p (a x o p h)
theorem PK.of_ex {H H1 : Hp} (e : Ex H H1) : PK H H1 := fun x o _ h => e x o h
theorem PK.upd {H : Hp} {a : Addr} {o u : HO} (h : H a = some o) (n : ¬ Per o) : PK H (upd H a u) := fun x w p hx => by
  have ne : x ≠ a := fun e => by
    rw [e, h] at hx
    cases hx
    exact n p
  rw [upd_ne ne]
  exact hx
theorem PK.tup {H H' : Hp} {a : Addr} {xs : List V} (p : PK H H') (h : H a = some (.tup xs)) : H' a = some (.tup xs) := p _ _ trivial h
/-! ### data: ints, texts, bools, None, tuples of them -/
mutual
inductive Tp (H : Hp) : V → PyData → Prop
  | non : Tp H .non .none
  | bl (b : Bool) : Tp H (.bl b) (.bool b)
  | int (i : Int) : Tp H (.int i) (.int i)
  | str (x : Str) : Tp H (.str x) (.str x)
  | tup {a : Addr} {xs : List V} {ds : List PyData} : H a = some (.tup xs) → TpAll H xs ds → Tp H (.ref a) (.tuple ds)
inductive TpAll (H : Hp) : List V → List PyData → Prop
  | nil : TpAll H [] []
  | cons {v : V} {vs : List V} {d : PyData} {ds : List PyData} : Tp H v d → TpAll H vs ds → TpAll H (v :: vs) (d :: ds)
end
mutual
theorem Tp.pk {H H' : Hp} (p : PK H H') : ∀ {v : V} {d : PyData}, Tp H v d → Tp H' v d
  | _, _, .non => .non
  | _, _, .bl b => .bl b
  | _, _, .int i => .int i
  | _, _, .str x => .str x
  | _, _, .tup s a => .tup (p.tup s) (TpAll.pk p a)
theorem TpAll.pk {H H' : Hp} (p : PK H H') : ∀ {vs : List V} {ds : List PyData}, TpAll H vs ds → TpAll H' vs ds
  | _, _, .nil => .nil
  | _, _, .cons a r => .cons (Tp.pk p a) (TpAll.pk p r)
end
mutual
theorem Tp.dp {K : PySem.W.Frag} {H : Hp} : ∀ {v : V} {d : PyData}, Tp H v d → Dp K H v d
  | _, _, .non => .non
  | _, _, .bl b => .bl b
  | _, _, .int i => .int i
  | _, _, .str x => .str x
  | _, _, .tup s a => .tup (SqT.of s) (TpAll.dp a)
theorem TpAll.dp {K : PySem.W.Frag} {H : Hp} : ∀ {vs : List V} {ds : List PyData}, TpAll H vs ds → DpAll K H vs ds
  | _, _, .nil => .nil
  | _, _, .cons a r => .cons (Tp.dp a) (TpAll.dp r)
end
theorem TpAll.len {H : Hp} : ∀ {vs : List V} {ds : List PyData}, TpAll H vs ds → vs.length = ds.length
  | _, _, .nil => rfl
  | _, _, .cons _ r => congrArg (· + 1) r.len
theorem TpAll.get {H : Hp} : ∀ {vs : List V} {ds : List PyData} {i : Nat} {v : V}, TpAll H vs ds → vs[i]? = some v → ∃ d, ds[i]? = some d ∧ Tp H v d
  | _, _, _, _, .nil, h => by simp at h
  | _, _, 0, _, .cons a _, h => by
    have e := Option.some.inj h
    subst e
    exact ⟨_, rfl, a⟩
  | _, _, i + 1, v, .cons _ r, h => TpAll.get (i := i) r h
theorem TpAll.app {H : Hp} : ∀ {vs ws : List V} {ds es : List PyData}, TpAll H vs ds → TpAll H ws es → TpAll H (vs ++ ws) (ds ++ es)
  | _, _, _, _, .nil, b => b
  | _, _, _, _, .cons a r, b => .cons a (TpAll.app r b)
theorem TpAll.strs {H : Hp} : ∀ ns : List Str, TpAll H (ns.map V.str) (ns.map PyData.str)
  | [] => .nil
  | n :: r => .cons (.str n) (TpAll.strs r)
theorem TpAll.ints {H : Hp} : ∀ ns : List Int, TpAll H (ns.map V.int) (ns.map PyData.int)
  | [] => .nil
  | n :: r => .cons (.int n) (TpAll.ints r)
/-! ### parts -/
abbrev Res := Hp → Prop
def Apart (h k : Hp) : Prop := ∀ a o, h a = some o → k a ≠ none → Per o
def SatL (H : Hp) : List Res → List Hp → Prop
  | [], [] => True
  | R :: Rs, h :: hs => R h ∧ Ex h H ∧ (∀ k ∈ hs, Apart h k ∧ Apart k h) ∧ SatL H Rs hs
  | _, _ => False
class Sat (H : Hp) (Rs : outParam (List Res)) : Prop where
  ex : ∃ hs, SatL H Rs hs
/-- the same, no class (a hypothesis that ends in a class is taken for an instance) -/
structure SatP (H : Hp) (Rs : List Res) : Prop where
  s : Sat H Rs
/-- one cell -/
def cell (a : Addr) (o : HO) : Res := fun h => h a = some o
theorem Ex.up {H : Hp} {p : Addr} {o : HO} (h : H p = some o) : Ex (fun a => if a = p then some o else none) H := fun a u e => by
  by_cases c : a = p
  · subst c
    simp only [if_true] at e
    cases e
    exact h
  · simp [c] at e
theorem SatL.mono {H H' : Hp} (e : Ex H H') : ∀ {Rs : List Res} {hs : List Hp}, SatL H Rs hs → SatL H' Rs hs
  | [], [], _ => trivial
  | _ :: _, _ :: _, ⟨r, x, d, t⟩ => ⟨r, x.trans e, d, SatL.mono e t⟩
  | [], _ :: _, h => h.elim
  | _ :: _, [], h => h.elim
theorem Sat.nil {H : Hp} : Sat H [] := ⟨[], trivial⟩
theorem Sat.mono {H H' : Hp} {Rs : List Res} (S : Sat H Rs) (e : Ex H H') : Sat H' Rs := by
  obtain ⟨hs, h⟩ := S.ex
  exact ⟨hs, h.mono e⟩
theorem Sat.tail {H : Hp} {R : Res} {Rs : List Res} (S : Sat H (R :: Rs)) : Sat H Rs := by
  obtain ⟨hs, h⟩ := S.ex
  match hs, h with
  | _ :: hs, ⟨_, _, _, t⟩ => exact ⟨hs, t⟩
theorem Sat.swap {H : Hp} {R S : Res} {Rs : List Res} (h : Sat H (R :: S :: Rs)) : Sat H (S :: R :: Rs) := by
  obtain ⟨hs, h⟩ := h.ex
  match hs, h with
  | h :: k :: hs, ⟨r, x, d, s, y, e, t⟩ =>
    refine ⟨k :: h :: hs, s, y, fun z hz => ?_, r, x, fun z hz => d z (List.mem_cons_of_mem _ hz), t⟩
    rcases List.mem_cons.mp hz with rfl | hz
    · exact (d k List.mem_cons_self).symm
    · exact e z hz
theorem Sat.under {H : Hp} {R : Res} {Rs Ss : List Res} (k : ∀ H' : Hp, ∀ hs, SatL H' Rs hs → ∃ hs', SatL H' Ss hs' ∧ ∀ z : Hp, (∀ q ∈ hs, Apart z q ∧ Apart q z) → ∀ q ∈ hs', Apart z q ∧ Apart q z) (h : Sat H (R :: Rs)) : Sat H (R :: Ss) := by
  obtain ⟨hs, h⟩ := h.ex
  match hs, h with
  | h :: hs, ⟨r, x, d, t⟩ =>
    obtain ⟨hs', t', d'⟩ := k H hs t
    exact ⟨h :: hs', r, x, d' h d, t'⟩
theorem satL_perm {Rs Ss : List Res} (p : Rs.Perm Ss) : ∀ (H : Hp) (hs : List Hp), SatL H Rs hs → ∃ hs', SatL H Ss hs' ∧ ∀ z : Hp, (∀ q ∈ hs, Apart z q ∧ Apart q z) → ∀ q ∈ hs', Apart z q ∧ Apart q z := by
  induction p with
  | nil => exact fun H hs h => ⟨hs, h, fun z d => d⟩
  | cons R p ih =>
    intro H hs h
    match hs, h with
    | h :: hs, ⟨r, x, d, t⟩ =>
      obtain ⟨hs', t', d'⟩ := ih H hs t
      refine ⟨h :: hs', ⟨r, x, d' h d, t'⟩, fun z dz q hq => ?_⟩
      rcases List.mem_cons.mp hq with rfl | hq
      · exact dz _ List.mem_cons_self
      · exact d' z (fun q hq => dz q (List.mem_cons_of_mem _ hq)) q hq
  | swap R S Rs =>
    intro H hs h
    match hs, h with
    | h :: k :: hs, ⟨r, x, d, s, y, e, t⟩ =>
      refine ⟨k :: h :: hs, ⟨s, y, fun z hz => ?_, r, x, fun z hz => d z (List.mem_cons_of_mem _ hz), t⟩, fun z dz q hq => ?_⟩
      · rcases List.mem_cons.mp hz with rfl | hz
        · exact (d k List.mem_cons_self).symm
        · exact e z hz
      · refine dz q ?_
        simp only [List.mem_cons] at hq ⊢
        rcases hq with h | h | h
        · exact .inr (.inl h)
        · exact .inl h
        · exact .inr (.inr h)
  | trans _ _ ih1 ih2 =>
    intro H hs h
    obtain ⟨h1, t1, d1⟩ := ih1 H hs h
    obtain ⟨h2, t2, d2⟩ := ih2 H h1 t1
    exact ⟨h2, t2, fun z d => d2 z (d1 z d)⟩
theorem Sat.perm {H : Hp} {Rs Ss : List Res} (S : Sat H Rs) (p : Rs.Perm Ss) : Sat H Ss := by
  obtain ⟨hs, h⟩ := S.ex
  obtain ⟨hs', h', _⟩ := satL_perm p H hs h
  exact ⟨hs', h'⟩
theorem Sat.get {H : Hp} {a : Addr} {o : HO} {Rs : List Res} (S : Sat H (cell a o :: Rs)) : H a = some o := by
  obtain ⟨hs, h⟩ := S.ex
  match hs, h with
  | _ :: _, ⟨r, x, _, _⟩ => exact x _ _ r
/-- a part weakened -/
theorem Sat.imp {H : Hp} {R R' : Res} {Rs : List Res} (S : Sat H (R :: Rs)) (k : ∀ h, Ex h H → R h → R' h) : Sat H (R' :: Rs) := by
  obtain ⟨hs, h⟩ := S.ex
  match hs, h with
  | h :: hs, ⟨r, x, d, t⟩ => exact ⟨h :: hs, k h x r, x, d, t⟩
theorem Sat.fact {H : Hp} {R : Res} {Rs : List Res} {P : Prop} (S : Sat H (R :: Rs)) (k : ∀ h, Ex h H → R h → P) : P := by
  obtain ⟨hs, h⟩ := S.ex
  match hs, h with
  | h :: hs, ⟨r, x, d, t⟩ => exact k h x r
theorem satL_dom {H : Hp} : ∀ {Rs : List Res} {hs : List Hp}, SatL H Rs hs → ∀ k ∈ hs, Ex k H
  | [], [], _, k, hk => by simp at hk
  | _ :: _, h :: hs, ⟨_, x, _, t⟩, k, hk => by
    rcases List.mem_cons.mp hk with rfl | hk
    · exact x
    · exact satL_dom t k hk
  | [], _ :: _, h, _, _ => h.elim
  | _ :: _, [], h, _, _ => h.elim
/-- a new cell -/
theorem Sat.new {H : Hp} {p : Addr} {o : HO} {Rs : List Res} (S : Sat H Rs) (hp : H p = none) : Sat (upd H p o) (cell p o :: Rs) := by
  obtain ⟨hs, h⟩ := S.ex
  refine ⟨(fun a => if a = p then some o else none) :: hs, if_pos rfl, Ex.up upd_same, fun k hk => ?_, h.mono (Ex.new hp)⟩
  have ek := satL_dom h k hk
  have kp : k p = none := by
    cases e : k p with
    | none => rfl
    | some u => rw [ek _ _ e] at hp; cases hp
  refine ⟨fun a u e n => ?_, fun a u e n => ?_⟩
  · by_cases c : a = p
    · subst c; exact absurd kp n
    · simp [c] at e
  · by_cases c : a = p
    · subst c; rw [kp] at e; cases e
    · simp [c] at n
/-- a cell changed -/
theorem satL_upd {H : Hp} {p : Addr} {o' : HO} : ∀ {Rs : List Res} {hs : List Hp}, SatL H Rs hs → (∀ k ∈ hs, k p = none) → SatL (upd H p o') Rs hs
  | [], [], _, _ => trivial
  | _ :: _, h :: hs, ⟨r, x, d, t⟩, n => ⟨r, fun a u e => by
      have c : a ≠ p := fun c => by rw [c, n h List.mem_cons_self] at e; cases e
      rw [upd_ne c]
      exact x a u e, d, satL_upd t fun k hk => n k (List.mem_cons_of_mem _ hk)⟩
  | [], _ :: _, h, _ => h.elim
  | _ :: _, [], h, _ => h.elim
theorem Sat.set {H : Hp} {p : Addr} {o o' : HO} {Rs : List Res} (S : Sat H (cell p o :: Rs)) (n : ¬ Per o) : Sat (upd H p o') (cell p o' :: Rs) := by
  obtain ⟨hs, h⟩ := S.ex
  match hs, h with
  | h :: hs, ⟨r, x, d, t⟩ =>
    have kn : ∀ k ∈ hs, k p = none := fun k hk => by
      cases e : k p with
      | none => rfl
      | some u => exact absurd ((d k hk).1 p o r (by rw [e]; exact Option.some_ne_none u)) n
    refine ⟨(fun a => if a = p then some o' else none) :: hs, if_pos rfl, Ex.up upd_same, fun k hk => ⟨fun a u e q => ?_, fun a u e q => ?_⟩, satL_upd t kn⟩
    · by_cases c : a = p
      · subst c; exact absurd (kn k hk) q
      · simp [c] at e
    · by_cases c : a = p
      · subst c; rw [kn k hk] at e; cases e
      · simp [c] at q
theorem Sat.pkset {H : Hp} {p : Addr} {o o' : HO} {Rs : List Res} (S : Sat H (cell p o :: Rs)) (n : ¬ Per o) : PK H (upd H p o') := PK.upd S.get n
/-! ### parts put together -/
/-- several parts as one -/
def star (Rs : List Res) : Res := fun h => Sat h Rs
theorem satL_app {H : Hp} : ∀ {As Bs : List Res} {xs ys : List Hp}, SatL H As xs → SatL H Bs ys → (∀ x ∈ xs, ∀ y ∈ ys, Apart x y ∧ Apart y x) → SatL H (As ++ Bs) (xs ++ ys)
  | [], _, [], _, _, b, _ => b
  | _ :: _, _, x :: xs, ys, ⟨r, e, d, t⟩, b, q => ⟨r, e, fun k hk => by
      rcases List.mem_append.mp hk with h | h
      · exact d k h
      · exact q x List.mem_cons_self k h, satL_app t b fun z hz y hy => q z (List.mem_cons_of_mem _ hz) y hy⟩
  | [], _, _ :: _, _, h, _, _ => h.elim
  | _ :: _, _, [], _, h, _, _ => h.elim
theorem satL_split {H : Hp} : ∀ {As Bs : List Res} {zs : List Hp}, SatL H (As ++ Bs) zs → ∃ xs ys, zs = xs ++ ys ∧ SatL H As xs ∧ SatL H Bs ys ∧ (∀ x ∈ xs, ∀ y ∈ ys, Apart x y ∧ Apart y x)
  | [], _, zs, h => ⟨[], zs, rfl, trivial, h, fun x hx => by simp at hx⟩
  | _ :: As, Bs, z :: zs, ⟨r, e, d, t⟩ => by
    obtain ⟨xs, ys, rfl, h1, h2, h3⟩ := satL_split (As := As) (Bs := Bs) t
    refine ⟨z :: xs, ys, rfl, ⟨r, e, fun k hk => d k (List.mem_append_left _ hk), h1⟩, h2, fun x hx y hy => ?_⟩
    rcases List.mem_cons.mp hx with rfl | hx
    · exact d y (List.mem_append_right _ hy)
    · exact h3 x hx y hy
  | _ :: _, _, [], h => h.elim
theorem Sat.open_ {H : Hp} {As Bs : List Res} (S : Sat H (star As :: Bs)) : Sat H (As ++ Bs) := by
  obtain ⟨hs, h⟩ := S.ex
  match hs, h with
  | h :: hs, ⟨r, x, d, t⟩ =>
    obtain ⟨xs, hx⟩ := r.ex
    refine ⟨xs ++ hs, satL_app (hx.mono x) t fun z hz y hy => ?_⟩
    have ez := satL_dom hx z hz
    exact ⟨fun a o e n => (d y hy).1 a o (ez a o e) n, fun a o e n => (d y hy).2 a o e fun q => by
      cases c : z a with
      | none => exact n c
      | some u => rw [ez a u c] at q; cases q⟩
theorem Sat.close {H : Hp} {As Bs : List Res} (S : Sat H (As ++ Bs)) : Sat H (star As :: Bs) := by
  obtain ⟨zs, h⟩ := S.ex
  obtain ⟨xs, ys, rfl, h1, h2, h3⟩ := satL_split h
  classical
  have ex : ∀ x ∈ xs, Ex x (fun a => if ∃ x ∈ xs, x a ≠ none then H a else none) := fun x hx a o e => by
    have : ∃ x ∈ xs, x a ≠ none := ⟨x, hx, by rw [e]; exact Option.some_ne_none o⟩
    simp only [this, if_true]
    exact satL_dom h1 x hx a o e
  have re : ∀ {Rs : List Res} {zs : List Hp}, SatL H Rs zs → (∀ x ∈ zs, x ∈ xs) → SatL (fun a => if ∃ x ∈ xs, x a ≠ none then H a else none) Rs zs := by
    intro Rs
    induction Rs with
    | nil => intro zs h _; cases zs with
      | nil => trivial
      | cons _ _ => exact h.elim
    | cons R Rs ih =>
      intro zs h m
      cases zs with
      | nil => exact h.elim
      | cons z zs =>
        obtain ⟨r, e, d, t⟩ := h
        exact ⟨r, ex z (m z List.mem_cons_self), d, ih t fun x hx => m x (List.mem_cons_of_mem _ hx)⟩
  refine ⟨(fun a => if ∃ x ∈ xs, x a ≠ none then H a else none) :: ys, ⟨xs, re h1 fun _ h => h⟩, fun a o e => ?_, fun y hy => ⟨fun a o e n => ?_, fun a o e n => ?_⟩, h2⟩
  · by_cases c : ∃ x ∈ xs, x a ≠ none
    · simp only [c, if_true] at e; exact e
    · simp only [c, if_false] at e; cases e
  · by_cases c : ∃ x ∈ xs, x a ≠ none
    · simp only [c, if_true] at e
      obtain ⟨x, hx, nx⟩ := c
      cases q : x a with
      | none => exact absurd q nx
      | some u =>
        have := satL_dom h1 x hx a u q
        rw [e] at this
        cases this
        exact (h3 x hx y hy).1 a o q n
    · simp only [c, if_false] at e; cases e
  · by_cases c : ∃ x ∈ xs, x a ≠ none
    · obtain ⟨x, hx, nx⟩ := c
      exact (h3 x hx y hy).2 a o e nx
    · simp only [c, if_false] at n; exact absurd rfl n
theorem Sat.exE {H : Hp} {α : Type} {f : α → Res} {Rs : List Res} (S : Sat H ((fun h => ∃ x, f x h) :: Rs)) : ∃ x, Sat H (f x :: Rs) := by
  obtain ⟨hs, h⟩ := S.ex
  match hs, h with
  | h :: hs, ⟨⟨x, r⟩, e, d, t⟩ => exact ⟨x, ⟨h :: hs, r, e, d, t⟩⟩
theorem Sat.exI {H : Hp} {α : Type} {f : α → Res} {Rs : List Res} (x : α) (S : Sat H (f x :: Rs)) : Sat H ((fun h => ∃ x, f x h) :: Rs) := S.imp fun _ _ r => ⟨x, r⟩
/-- what never changes may stand in two parts -/
theorem Sat.per {H : Hp} {p : Addr} {o : HO} {Rs : List Res} (S : Sat H Rs) (h : H p = some o) (n : Per o) : Sat H (cell p o :: Rs) := by
  obtain ⟨hs, t⟩ := S.ex
  refine ⟨(fun a => if a = p then some o else none) :: hs, if_pos rfl, Ex.up h, fun k hk => ⟨fun a u e q => ?_, fun a u e q => ?_⟩, t⟩
  · by_cases c : a = p
    · subst c; simp only [if_true] at e; cases e; exact n
    · simp [c] at e
  · by_cases c : a = p
    · subst c
      have := satL_dom t k hk _ _ e
      rw [h] at this
      cases this
      exact n
    · simp [c] at q
/-- the same of anything that leans on what never changes alone -/
def perOf (H : Hp) : Hp := fun a => match H a with
  | some (.tup xs) => some (.tup xs)
  | _ => none
theorem perOf_ex (H : Hp) : Ex (perOf H) H := fun a o e => by
  unfold perOf at e
  split at e
  · next h => cases e; exact h
  · cases e
theorem perOf_per {H : Hp} {a : Addr} {o : HO} (e : perOf H a = some o) : Per o := by
  unfold perOf at e
  split at e
  · cases e; trivial
  · cases e
theorem perOf_pk (H : Hp) : PK H (perOf H) := fun a o p h => by
  unfold perOf
  cases o with
  | tup xs => rw [h]
  | _ => exact p.elim
theorem Sat.perR {H : Hp} {R : Res} {Rs : List Res} (S : Sat H Rs) (h : R (perOf H)) : Sat H (R :: Rs) := by
  obtain ⟨hs, t⟩ := S.ex
  refine ⟨perOf H :: hs, h, perOf_ex H, fun k hk => ⟨fun a u e q => perOf_per e, fun a u e q => ?_⟩, t⟩
  cases c : perOf H a with
  | none => exact absurd c q
  | some z =>
    have h1 := perOf_ex H _ _ c
    have h2 := satL_dom t k hk _ _ e
    rw [h1] at h2
    cases h2
    exact perOf_per c
/-! ### a part by its place -/
class Foc {α β : Type} (fam : α → β → Res) (a : α) (b : outParam β) (Rs : List Res) (T : outParam (List Res)) (F : outParam (Res → List Res)) : Prop where
  perm : ∀ X, (X :: T).Perm (F X)
  eq : F (fam a b) = Rs
instance foc_0 {α β : Type} {fam : α → β → Res} {a : α} {b : β} {Rs : List Res} : Foc fam a b (fam a b :: Rs) Rs (fun X => X :: Rs) := ⟨fun _ => .refl _, rfl⟩
instance foc_s {α β : Type} {fam : α → β → Res} {a : α} {b : β} {S : Res} {Rs T : List Res} {F : Res → List Res} [f : Foc fam a b Rs T F] : Foc fam a b (S :: Rs) (S :: T) (fun X => S :: F X) :=
  ⟨fun X => (List.Perm.swap S X T).trans ((f.perm X).cons S), by rw [f.eq]⟩
section
variable {α β : Type} {fam : α → β → Res} {a : α} {b : β} {Rs T : List Res} {F : Res → List Res} {H : Hp}
theorem Foc.out (f : Foc fam a b Rs T F) (S : Sat H Rs) : Sat H (fam a b :: T) := S.perm (by rw [← f.eq]; exact (f.perm _).symm)
theorem Foc.back (f : Foc fam a b Rs T F) {X : Res} (S : Sat H (X :: T)) : Sat H (F X) := S.perm (f.perm X)
end
theorem foc_perm {α β : Type} {fam : α → β → Res} {a : α} {b : β} {Rs T : List Res} {F : Res → List Res} (f : Foc fam a b Rs T F) : Rs.Perm (fam a b :: T) := by
  have h := f.perm (fam a b)
  rw [f.eq] at h
  exact h.symm
/-- a list of parts that are had among others, in another order -/
inductive SubR : List Res → List Res → Prop
  | nil {Rs : List Res} : SubR [] Rs
  | cons {R : Res} {Rs Ss T : List Res} (h : (R :: T).Perm Ss) (t : SubR Rs T) : SubR (R :: Rs) Ss
theorem Sat.sub {H : Hp} {Rs Ss : List Res} (s : SubR Ss Rs) (S : Sat H Rs) : Sat H Ss := by
  have key : ∀ {Ss Rs : List Res}, SubR Ss Rs → ∃ T, (Ss ++ T).Perm Rs := by
    intro Ss Rs s
    induction s with
    | nil => exact ⟨_, .refl _⟩
    | cons h t ih =>
      obtain ⟨T, q⟩ := ih
      exact ⟨T, (q.cons _).trans h⟩
  have dropR : ∀ {A B : List Res}, Sat H (A ++ B) → Sat H A := by
    intro A B S
    have S2 : Sat H (B ++ A) := S.perm List.perm_append_comm
    clear S
    induction B with
    | nil => exact S2
    | cons b B ih => exact ih S2.tail
  obtain ⟨T, q⟩ := key s
  exact dropR (S.perm q.symm)
class PickR (R : Res) (Ss : List Res) (T : outParam (List Res)) : Prop where
  perm : (R :: T).Perm Ss
instance pick_0 {R : Res} {Rs : List Res} : PickR R (R :: Rs) Rs := ⟨.refl _⟩
instance pick_s {R S : Res} {Rs T : List Res} [p : PickR R Rs T] : PickR R (S :: Rs) (S :: T) := ⟨(List.Perm.swap S R T).trans (p.perm.cons S)⟩
class SubC (Rs Ss : List Res) : Prop where
  sub : SubR Rs Ss
instance subc_nil {Rs : List Res} : SubC [] Rs := ⟨.nil⟩
theorem SubR.refl : ∀ Rs : List Res, SubR Rs Rs
  | [] => .nil
  | _ :: r => .cons (.refl _) (SubR.refl r)
theorem SubR.skip {Rs Ss : List Res} {S : Res} (h : SubR Rs Ss) : SubR Rs (S :: Ss) := by
  induction h with
  | nil => exact .nil
  | @cons R Rs Ss T h t ih => exact .cons ((List.Perm.swap S R T).trans (h.cons S)) ih
class Suf (Rs Ss : List Res) : Prop where
  sub : SubR Rs Ss
instance suf_skip {Rs Ss : List Res} {S : Res} [s : Suf Rs Ss] : Suf Rs (S :: Ss) := ⟨s.sub.skip⟩
instance suf_refl {Rs : List Res} : Suf Rs Rs := ⟨SubR.refl Rs⟩
instance (priority := low) subc_suf {Rs Ss : List Res} [s : Suf Rs Ss] : SubC Rs Ss := ⟨s.sub⟩
instance subc_cons {R : Res} {Rs Ss T : List Res} [p : PickR R Ss T] [s : SubC Rs T] : SubC (R :: Rs) Ss := ⟨.cons p.perm s.sub⟩
theorem Sat.pick {H : Hp} {Rs Ss : List Res} (S : Sat H Rs) [s : SubC Ss Rs] : Sat H Ss := S.sub s.sub
/-! ### classes -/
structure DnM (P : Program) (w : World) (K : PySem.W.Frag) (mg : Str → Option Value) (base : Heap) (CX : CXT) (k : Nat) (f : Addr) (ps : List Str) (sp : Sp) : Prop where
  ex : ∃ fd, FnOk P w K mg base CX k f fd ps sp ∧ Binds K fd ps []
section
variable {P : Program} {w : World} {K : PySem.W.Frag} {mg : Str → Option Value} {base : Heap} {C m qual : Str} {st : Stmt} {N ps : List Str} {k : Nat} {sp : Sp}
abbrev BindOk (m qual : Str) (st : Stmt) (ps : List Str) : Prop := ∀ (kV doc pm : Value) (an : Option Addr) (cdv ct : Value) (us : List Value), us.length = ps.length → bindArgs (PySem.W.fnOf m qual (defArgs st) (defBody st) (defScope st) .none kV doc pm an cdv ct) ⟨us, []⟩ = pure (ps.zip us)
theorem Mf.dm (F : Mf K C m qual st) (S : FnScope N ps (defScope st)) (hb : BindOk m qual st ps) (len : ∀ vs H Q E, sp vs H Q E → vs.length = ps.length)
    (hbody : ∀ (f : Addr) (cdv : Value) (A : Around) (outer : List Env) (s : Shared) (H : Hp) (vs : List V) (Q : VK) (E : XK), Room k (A.deeper (envOfC qual (defScope st) s.heap.objs.size f cdv)) → (cxOf CX0 P w K mg base N qual (defScope st) f cdv A outer s H E).nox.K = K → sp vs H Q E →
      ∃ t, PSs (cxOf CX0 P w K mg base N qual (defScope st) f cdv A outer s H E).nox (defBody st) t ∧ t { nx := fun _ H' => Q .non H', rt := Q } (start N vs) H) : DnM P w K mg base CX0 (k + 1) (He.ma K (He.ga K C) m) ps sp := by
  obtain ⟨fd, F⟩ := F.ex
  exact ⟨fd, F.ok S len (fun cdv A outer s H vs Q E hr h => hbody _ cdv A outer s H vs Q E hr rfl h), F.binds hb⟩
theorem Mf.dmX (F : Mf K C m qual st) (S : FnScope N ps (defScope st)) (hb : BindOk m qual st ps) (len : ∀ vs H Q E, sp vs H Q E → vs.length = ps.length)
    (hbody : ∀ (f : Addr) (cdv : Value) (A : Around) (outer : List Env) (s : Shared) (H : Hp) (vs : List V) (Q : VK) (E : XK), Room k (A.deeper (envOfC qual (defScope st) s.heap.objs.size f cdv)) → (cxOf (L2.CX P w) P w K mg base N qual (defScope st) f cdv A outer s H E).K = K → sp vs H Q E →
      ∃ t, PSs (cxOf (L2.CX P w) P w K mg base N qual (defScope st) f cdv A outer s H E) (defBody st) t ∧ t { nx := fun _ H' => Q .non H', rt := Q } (start N vs) H) : DnM P w K mg base (L2.CX P w) (k + 1) (He.ma K (He.ga K C) m) ps sp := by
  obtain ⟨fd, F⟩ := F.ex
  exact ⟨fd, F.okX S len (fun cdv A outer s H vs Q E hr h => hbody _ cdv A outer s H vs Q E hr rfl h), F.binds hb⟩
theorem Mf.dmN (F : Mf K C m qual st) (S : FnScope N ps (defScope st)) (hb : BindOk m qual st ps) (len : ∀ vs H Q E, sp vs H Q E → vs.length = ps.length)
    (hbody : ∀ (f : Addr) (cdv : Value) (A : Around) (outer : List Env) (s : Shared) (H : Hp) (vs : List V) (Q : VK) (E : XK), Room k (A.deeper (envOfC qual (defScope st) s.heap.objs.size f cdv)) → (cxOf (L2N.CX P w) P w K mg base N qual (defScope st) f cdv A outer s H E).K = K → sp vs H Q E →
      ∃ t, PSs (cxOf (L2N.CX P w) P w K mg base N qual (defScope st) f cdv A outer s H E) (defBody st) t ∧ t { nx := fun _ H' => Q .non H', rt := Q } (start N vs) H) : DnM P w K mg base (L2N.CX P w) (k + 1) (He.ma K (He.ga K C) m) ps sp := by
  obtain ⟨fd, F⟩ := F.ex
  obtain ⟨oc, od, kV, doc, pm, an, cdv, ct, osl, rfl, lk, hcd⟩ := F.ex
  exact ⟨_, fn_of lk hcd S len (fun A outer s H vs Q E hr hsp => hbody _ cdv A outer s H vs Q E hr rfl hsp), F.binds hb⟩
end
theorem passN {P : Program} {w : World} {K : PySem.W.Frag} {mg : Str → Option Value} {base : Heap} {N : List Str} {qual : Str} {scope : Scope} {f : Addr} {cdv : Value} {A : Around} {outer : List Env} {s : Shared} {H : Hp} {E : XK} :
    Passes (L2N.CX P w) (cxOf (L2N.CX P w) P w K mg base N qual scope f cdv A outer s H E) E := L2N.passes_call (L2N.takes_of rfl rfl rfl rfl) fun _ _ _ _ h => h
theorem passNL {X : Cx} : Passes (L2N.CX X.prog X.w) X E0 := fun _ _ _ _ _ _ _ h => by
  obtain ⟨_, _, _, _, _, _, _, _, _, _, _, _, z⟩ := h
  exact z.elim
section
variable {X : Cx} {CX : CXT} {k : Nat} {C f : Addr} {ps : List Str} {sp : Sp} {E : XK} {ES : L2.St → XK} {x m : Str} {p pos apos : Pos} {e o : Expr} {es : List Expr} {ta : TE} {t : TA}
theorem pe_mk (M : Mk X.K C f) (D : DnM X.prog X.w X.K X.mg X.base CX k f ps sp) (hr : Room (k + 1) X.A) (hx : Passes CX X E) (hm : X.mg x = some (.ref C)) (ha : PA X (e :: es) t) (hg : Gl X x := by rfl)
    (hdb : (x == ("__debug__" : Str)) = false := by decide) (he : starEach (e :: es) X.env = (false, eval e X.env) :: starEach es X.env := by rfl) (hpl : (backTo pos (starEach es X.env)).any (·.1) = false := by rfl) :
    PE X (.Call (.Name x p) (e :: es) [] pos) (tMake C sp [] E t) := by
  obtain ⟨fd, F, hb⟩ := D.ex
  exact pe_make M F hr hg hm hb .nil hx ha hdb he hpl
theorem pe_mk0 (M : Mk X.K C f) (D : DnM X.prog X.w X.K X.mg X.base CX k f ps sp) (hr : Room (k + 1) X.A) (hx : Passes CX X E) (hm : X.mg x = some (.ref C)) (hg : Gl X x := by rfl)
    (hdb : (x == ("__debug__" : Str)) = false := by decide) : PE X (.Call (.Name x p) [] [] pos) (tMake C sp [] E tNil) := by
  obtain ⟨fd, F, hb⟩ := D.ex
  exact pe_make0 M F hr hg hm hb .nil hx hdb
theorem pe_mt {pl : Sem Bool} (he : PE X o ta) (c : Cls X.K C) (hm : Meth X.K C m f) (D : DnM X.prog X.w X.K X.mg X.base CX k f ps sp) (hr : Room k X.A) (hx : Passes CX X E) (ha : PA X (e :: es) t)
    (hst : starEach (e :: es) X.env = (false, eval e X.env) :: starEach es X.env := by rfl) (hpl : (backTo pos (starEach es X.env)).any (·.1) = false := by rfl)
    (ht : eval (.Call (.Attribute o m apos) (e :: es) [] pos) X.env = (do
      let ov ← eval o X.env
      standAt apos.atName
      let (f, first) ← holding [ov] (getMethod ov m pl)
      callWith pos f first (backTo pos (starEach (e :: es) X.env)) (backToKw pos (keywordEach [] X.env))) := by rfl) :
    PE X (.Call (.Attribute o m apos) (e :: es) [] pos) (tMeth C m sp [] E ta t) := by
  obtain ⟨fd, F, hb⟩ := D.ex
  exact pe_meth he c hm F hr hb .nil hx ha hst hpl ht
theorem pe_mt0 {pl : Sem Bool} (he : PE X o ta) (c : Cls X.K C) (hm : Meth X.K C m f) (D : DnM X.prog X.w X.K X.mg X.base CX k f ps sp) (hr : Room k X.A) (hx : Passes CX X E)
    (ht : eval (.Call (.Attribute o m apos) [] [] pos) X.env = (do
      let ov ← eval o X.env
      standAt apos.atName
      let (f, first) ← holding [ov] (getMethod ov m pl)
      callWith pos f first (backTo pos (starEach [] X.env)) (backToKw pos (keywordEach [] X.env))) := by rfl) :
    PE X (.Call (.Attribute o m apos) [] [] pos) (tMeth C m sp [] E ta tNil) := by
  obtain ⟨fd, F, hb⟩ := D.ex
  exact pe_meth0 he c hm F hr hb .nil hx ht
/-- a method's call in a try -/
def tMethS (C : Addr) (m : Str) (sp : Sp) (ES : L2.St → XK) (ta : TE) (t : TA) : TE := fun σ H Q => ta σ H fun x H1 => ∃ a dx fs, x = .ref a ∧ H1 a = some (.ins C dx fs) ∧ fs.lookup m = none ∧
  t σ H1 fun vs H2 => sp (x :: vs) H2 Q (ES σ)
theorem pe_mtS {pl : Sem Bool} (he : PE X o ta) (c : Cls X.K C) (hm : Meth X.K C m f) (D : DnM X.prog X.w X.K X.mg X.base CX k f ps sp) (hr : Room k X.A) (hx : ∀ σ, PassesAt CX X σ (ES σ)) (ha : PA X (e :: es) t)
    (hst : starEach (e :: es) X.env = (false, eval e X.env) :: starEach es X.env := by rfl) (hpl : (backTo pos (starEach es X.env)).any (·.1) = false := by rfl)
    (ht : eval (.Call (.Attribute o m apos) (e :: es) [] pos) X.env = (do
      let ov ← eval o X.env
      standAt apos.atName
      let (f, first) ← holding [ov] (getMethod ov m pl)
      callWith pos f first (backTo pos (starEach (e :: es) X.env)) (backToKw pos (keywordEach [] X.env))) := by rfl) :
    PE X (.Call (.Attribute o m apos) (e :: es) [] pos) (tMethS C m sp ES ta t) := by
  obtain ⟨fd, F, hb⟩ := D.ex
  refine ⟨fun pins s σ H Q I h => ?_⟩
  refine PySem.W.methodCall_KW (pl := pl) (thn (he.run pins s σ H _ I h) fun u s1 ⟨x, H1, I1, rx, a, dx, fs, ex, ea, l, q⟩ => ?_) ht
  subst ex
  obtain rfl : u = Value.ref a := rx
  refine getmeth_ok I1 ea c hm l ?_
  refine PySem.W.callWith_K (first := [.ref a]) (h₀ := X.base) I.ok.mod.kin hm.kp (thn (ha.run pos pins s1 σ H1 _ I1 q) fun us s2 ⟨vs, H2, I2, r, q2⟩ => ⟨I2.kIn, ?_⟩) hst hpl
  exact run_fnS (us := .ref a :: us) (vs := .ref a :: vs) F hr hb (hx σ) I2 (.cons rfl r) q2
theorem pe_mt0S {pl : Sem Bool} (he : PE X o ta) (c : Cls X.K C) (hm : Meth X.K C m f) (D : DnM X.prog X.w X.K X.mg X.base CX k f ps sp) (hr : Room k X.A) (hx : ∀ σ, PassesAt CX X σ (ES σ))
    (ht : eval (.Call (.Attribute o m apos) [] [] pos) X.env = (do
      let ov ← eval o X.env
      standAt apos.atName
      let (f, first) ← holding [ov] (getMethod ov m pl)
      callWith pos f first (backTo pos (starEach [] X.env)) (backToKw pos (keywordEach [] X.env))) := by rfl) :
    PE X (.Call (.Attribute o m apos) [] [] pos) (tMethS C m sp ES ta tNil) := by
  obtain ⟨fd, F, hb⟩ := D.ex
  refine ⟨fun pins s σ H Q I h => ?_⟩
  refine PySem.W.methodCall_KW (pl := pl) (thn (he.run pins s σ H _ I h) fun u s1 ⟨x, H1, I1, rx, a, dx, fs, ex, ea, l, q⟩ => ?_) ht
  subst ex
  obtain rfl : u = Value.ref a := rx
  refine getmeth_ok I1 ea c hm l ?_
  exact PySem.W.callWith_K0 (first := [.ref a]) I1.kIn hm.kp (run_fnS (us := [.ref a]) (vs := [.ref a]) F hr hb (hx σ) I1 (.cons rfl .nil) q)
/-! ### fields -/
variable {g : Str} {value : Expr} {tv : TE} {pos' : Pos}
def tFldC (C : Addr) (ta : TE) (g : Str) : TE := fun σ H Q => ta σ H fun x H1 => ∃ a dx fs v, x = .ref a ∧ H1 a = some (.ins C dx fs) ∧ fs.lookup g = some v ∧ Q v H1
def sFldC (C : Addr) (ta tv : TE) (g : Str) : TS := fun D σ H => tv σ H fun y H1 => ta σ H1 fun x H2 => ∃ a dx fs, x = .ref a ∧ H2 a = some (.ins C dx fs) ∧ fs.length < 1000 ∧ D.nx σ (upd H2 a (.ins C dx (putF g y fs)))
theorem pe_fldC (c : Cls X.K C) (n : NoAttr X.K C g) (he : PE X e ta) (hb : attributeBase e g X.env (eval e X.env) = eval e X.env) : PE X (.Attribute e g pos) (tFldC C ta g) := by
  refine ⟨fun pins s σ H Q I h => ?_⟩
  refine attr_of hb (thn (he.run pins s σ H _ I h) fun u s1 ⟨x, H1, I1, rx, a, dx, fs, v, ex, ea, l, q⟩ => ?_)
  subst ex
  obtain rfl : u = Value.ref a := rx
  exact getattr_ok I1 ea c n l fun u' s2 I2 ru => ⟨v, H1, I2, ru, q⟩
theorem ps_fldC (c : Cls X.K C) (n : NoAttr X.K C g) (ha : PE X o ta) (hv : PE X value tv) (hs : swapsWith value (some (.Attribute o g pos')) pos.line X.env = pure false) : PS X (.Assign [.Attribute o g pos'] value pos) (sFldC C ta tv g) := by
  refine ⟨fun pins s σ H D I h => ?_⟩
  refine plainObj_wpAny_Assign_Attribute (thn (hv.run pins s σ H _ I h) fun u s1 ⟨y, H1, I1, ry, q⟩ => thn (ha.run pins s1 σ H1 _ I1 q) fun ov s2 ⟨x, H2, I2, rx, a, dx, fs, ex, ea, l, q2⟩ => ?_) hs
  subst ex
  obtain rfl : ov = Value.ref a := rx
  exact setattr_ok I2 ea c n l ry fun s3 I3 => ⟨σ, _, I3, q2⟩
/-- a text of the module -/
def Cs (mg : Str → Option Value) (x : Str) (z : Str) : Prop := ∃ t, mg x = some (.str z t)
theorem pe_csts {z : Str} (c : Cs X.mg x z) (hg : Gl X x := by rfl) (hd : (x == ("__debug__" : Str)) = false := by decide) : PE X (.Name x pos) (tC (.str z)) := by
  obtain ⟨t, h⟩ := c
  exact pe_glob hg h ⟨t, rfl⟩ hd
end
/-! ### data in dicts -/
abbrev KDs := List (Key × PyData)
inductive KD (h : Hp) : List (Key × V) → KDs → Prop
  | nil : KD h [] []
  | cons {k : Key} {v : V} {d : PyData} {r : List (Key × V)} {t : KDs} : Tp h v d → KD h r t → KD h ((k, v) :: r) ((k, d) :: t)
theorem KD.pk {H H' : Hp} (p : PK H H') {kvs : List (Key × V)} {kds : KDs} (r : KD H kvs kds) : KD H' kvs kds := by
  induction r with
  | nil => exact .nil
  | cons a _ ih => exact .cons (a.pk p) ih
theorem KD.len {H : Hp} {kvs : List (Key × V)} {kds : KDs} (r : KD H kvs kds) : kvs.length = kds.length := by
  induction r with
  | nil => rfl
  | cons _ _ ih => exact congrArg (· + 1) ih
def valD (kds : KDs) (k : Key) : Option PyData := (kds.find? fun kv => decide (kv.1 = k)).map (·.2)
def hasD (kds : KDs) (k : Key) : Bool := kds.any fun kv => decide (kv.1 = k)
def putD (kds : KDs) (k : Key) (d : PyData) : KDs := if hasD kds k = true then kds.map (fun kv => if kv.1 = k then (kv.1, d) else kv) else kds ++ [(k, d)]
def dropD (kds : KDs) (k : Key) : KDs := kds.filter fun kv => decide (kv.1 ≠ k)
section
variable {H : Hp} {kvs : List (Key × V)} {kds : KDs} {k : Key} {v : V} {d : PyData}
theorem KD.sm (r : KD H kvs kds) (h : valD kds k = some d) : ∃ v, valV kvs k = some v ∧ Tp H v d := by
  induction r with
  | nil => cases h
  | @cons j v e r t a q ih =>
    by_cases c : j = k
    · have h2 : valD ((j, e) :: t) k = some e := by simp [valD, List.find?_cons, c]
      rw [h2] at h
      cases h
      exact ⟨v, valV_pos (p := (j, v)) c, a⟩
    · have h2 : valD ((j, e) :: t) k = valD t k := by simp [valD, List.find?_cons, c]
      rw [h2] at h
      obtain ⟨u, e1, e2⟩ := ih h
      exact ⟨u, by rw [valV_neg (p := (j, v)) c]; exact e1, e2⟩
theorem KD.any (r : KD H kvs kds) : (kvs.any fun kv => decide (kv.1 = k)) = hasD kds k := by
  unfold hasD
  induction r with
  | nil => rfl
  | cons a q ih => rw [List.any_cons, List.any_cons, ih]
theorem KD.has (r : KD H kvs kds) : (valV kvs k).isSome = hasD kds k := by rw [← valV_any, r.any]
theorem KD.snoc (r : KD H kvs kds) (a : Tp H v d) : KD H (kvs ++ [(k, v)]) (kds ++ [(k, d)]) := by
  induction r with
  | nil => exact .cons a .nil
  | cons b q ih => exact .cons b ih
theorem KD.put (r : KD H kvs kds) (a : Tp H v d) : KD H (putK kvs k v) (putD kds k d) := by
  unfold putK putD
  rw [r.any]
  split
  · next c =>
    clear c
    induction r with
    | nil => exact .nil
    | @cons j u e r t b q ih =>
      rw [List.map_cons, List.map_cons]
      by_cases c : j = k
      · rw [if_pos c, if_pos c]; exact .cons a ih
      · rw [if_neg c, if_neg c]; exact .cons b ih
  · exact r.snoc a
theorem KD.drop (r : KD H kvs kds) : KD H (dropK kvs k) (dropD kds k) := by
  unfold dropK dropD
  induction r with
  | nil => exact .nil
  | @cons j u e r t b q ih =>
    rw [List.filter_cons, List.filter_cons]
    split
    · exact .cons b ih
    · exact ih
theorem KD.keys (r : KD H kvs kds) : kvs.map (fun kv => kV kv.1) = kds.map (fun kv => kV kv.1) := by
  induction r with
  | nil => rfl
  | cons b q ih => rw [List.map_cons, List.map_cons, ih]
theorem KD.at_ {i : Nat} (r : KD H kvs kds) {u : V} (h : kvs[i]? = some (k, u)) : ∃ e, kds[i]? = some (k, e) ∧ Tp H u e := by
  induction r generalizing i with
  | nil => simp at h
  | cons b q ih =>
    cases i with
    | zero => cases h; exact ⟨_, rfl, b⟩
    | succ i => exact ih (i := i) h
end
/-! ### dicts, lists, tuples as parts -/
theorem ex_join {h H : Hp} (e : Ex h H) : ∃ h', Ex h h' ∧ Ex h' H ∧ PK H h' ∧ (∀ k, Apart h k → Apart k h → Ex k H → Apart h' k ∧ Apart k h') := by
  refine ⟨fun a => match h a with | some o => some o | none => perOf H a, fun a o q => by simp only [q], fun a o q => ?_, fun a o p q => ?_, fun k h1 h2 ek => ⟨fun a o q n => ?_, fun a o q n => ?_⟩⟩
  · cases c : h a with
    | some u => simp only [c] at q; cases q; exact e a _ c
    | none => simp only [c] at q; exact perOf_ex H a o q
  · cases c : h a with
    | some u =>
      have := e a u c
      rw [q] at this
      cases this
      simp only [c]
    | none => simp only [c]; exact perOf_pk H a o p q
  · cases c : h a with
    | some u => simp only [c] at q; cases q; exact h1 a _ c n
    | none => simp only [c] at q; exact perOf_per q
  · cases c : h a with
    | some u => exact h2 a o q (by rw [c]; exact Option.some_ne_none _)
    | none =>
      simp only [c] at n
      cases c2 : perOf H a with
      | none => exact absurd c2 n
      | some z =>
        have h3 := perOf_ex H _ _ c2
        have h4 := ek _ _ q
        rw [h3] at h4
        cases h4
        exact perOf_per c2
/-- a part weakened, all tuples at hand -/
theorem Sat.impP {H : Hp} {R R' : Res} {Rs : List Res} (S : Sat H (R :: Rs)) (mono : ∀ h h', Ex h h' → R h → R h') (k : ∀ h, Ex h H → PK H h → R h → R' h) : Sat H (R' :: Rs) := by
  obtain ⟨hs, h⟩ := S.ex
  match hs, h with
  | h :: hs, ⟨r, x, d, t⟩ =>
    obtain ⟨h', e1, e2, e3, e4⟩ := ex_join x
    exact ⟨h' :: hs, k h' e2 e3 (mono _ _ e1 r), e2, fun z hz => e4 z (d z hz).1 (d z hz).2 (satL_dom t z hz), t⟩
/-- a dict with data in it -/
def dct (p : Addr) (kds : KDs) : Res := fun h => ∃ kvs, h p = some (.dK kvs) ∧ KD h kvs kds
section
variable {H : Hp} {Rs T : List Res} {F : Res → List Res} {p a : Addr} {kds : KDs} {kvs : List (Key × V)} {o : HO}
theorem Sat.dctE (S : Sat H (dct p kds :: Rs)) : ∃ kvs, Sat H (cell p (.dK kvs) :: Rs) ∧ KD H kvs kds := by
  obtain ⟨hs, h⟩ := S.ex
  match hs, h with
  | h :: hs, ⟨⟨kvs, r, kd⟩, x, d, t⟩ => exact ⟨kvs, ⟨h :: hs, r, x, d, t⟩, kd.pk (PK.of_ex x)⟩
theorem Sat.dctI (S : Sat H (cell p (.dK kvs) :: Rs)) (k : KD H kvs kds) : Sat H (dct p kds :: Rs) :=
  S.impP (fun h h' e r => e _ _ r) fun h e pk r => ⟨kvs, r, k.pk pk⟩
theorem Sat.at_ (S : Sat H Rs) [f : Foc cell a o Rs T F] : H a = some o := (f.out S).get
theorem Sat.dat (S : Sat H Rs) [f : Foc dct a kds Rs T F] : ∃ kvs, H a = some (.dK kvs) ∧ KD H kvs kds := by
  obtain ⟨kvs, S, k⟩ := (f.out S).dctE
  exact ⟨kvs, S.get, k⟩
/-- a dict changed -/
theorem Sat.dset (S : Sat H Rs) [f : Foc dct a kds Rs T F] {kvs' : List (Key × V)} {kds' : KDs} (k : KD H kvs' kds') : PK H (upd H a (.dK kvs')) ∧ Sat (upd H a (.dK kvs')) (F (dct a kds')) := by
  obtain ⟨kvs, S, _⟩ := (f.out S).dctE
  have n : ¬ Per (.dK kvs) := id
  have pk := S.pkset (o' := .dK kvs') n
  exact ⟨pk, f.back ((S.set (o' := .dK kvs') n).dctI (k.pk pk))⟩
theorem Sat.dnew (S : Sat H Rs) (hp : H p = none) (k : KD H kvs kds) : PK H (upd H p (.dK kvs)) ∧ Sat (upd H p (.dK kvs)) (dct p kds :: Rs) :=
  ⟨PK.of_ex (Ex.new hp), (S.new hp).dctI (k.pk (PK.of_ex (Ex.new hp)))⟩
/-- a cell changed, by its place -/
theorem Sat.cset (S : Sat H Rs) [f : Foc cell a o Rs T F] (n : ¬ Per o) {o' : HO} : PK H (upd H a o') ∧ Sat (upd H a o') (F (cell a o')) :=
  ⟨(f.out S).pkset n, f.back ((f.out S).set n)⟩
end
/-! ### steps over parts -/
class Lk (g : Str) (fs : List (Str × V)) (v : outParam V) : Prop where
  h : fs.lookup g = some v
class Nk (m : Str) (fs : List (Str × V)) : Prop where
  h : fs.lookup m = none
class Pt (g : Str) (y : V) (fs : List (Str × V)) (fs' : outParam (List (Str × V))) : Prop where
  h : putF g y fs = fs'
  l : fs.length < 1000
/-- an instance of C whose fields do not hide m -/
class HasIns (C : Addr) (m : Str) (a : Addr) (H : Hp) : Prop where
  h : ∃ dx fs, H a = some (.ins C dx fs) ∧ fs.lookup m = none
instance hasIns_cell {C a dx : Addr} {m : Str} {H : Hp} {fs : List (Str × V)} {Rs T : List Res} {F : Res → List Res} [S : Sat H Rs] [f : Foc cell a (.ins C dx fs) Rs T F] [n : Nk m fs] : HasIns C m a H := ⟨dx, fs, S.at_, n.h⟩
def fldQ (C : Addr) (g : Str) (Q : VK) : VK := fun x H1 => ∃ a dx fs v, x = .ref a ∧ H1 a = some (.ins C dx fs) ∧ fs.lookup g = some v ∧ Q v H1
def sfQ1 (C : Addr) (ta : TE) (g : Str) (D : Ends) (σ : L2.St) : VK := fun y H1 => ta σ H1 fun x H2 => ∃ a dx fs, x = .ref a ∧ H2 a = some (.ins C dx fs) ∧ fs.length < 1000 ∧ D.nx σ (upd H2 a (.ins C dx (putF g y fs)))
def sfQ2 (C : Addr) (g : Str) (D : Ends) (σ : L2.St) (y : V) : VK := fun x H2 => ∃ a dx fs, x = .ref a ∧ H2 a = some (.ins C dx fs) ∧ fs.length < 1000 ∧ D.nx σ (upd H2 a (.ins C dx (putF g y fs)))
def methQ (C : Addr) (m : Str) (sp : Sp) (E : XK) (t : TA) (σ : L2.St) (Q : VK) : VK := fun x H1 => ∃ a dx fs, x = .ref a ∧ H1 a = some (.ins C dx fs) ∧ fs.lookup m = none ∧ t σ H1 fun vs H2 => sp (x :: (vs ++ [])) H2 Q E
def methQ2 (sp : Sp) (E : XK) (Q : VK) (x : V) : List V → Hp → Prop := fun vs H2 => sp (x :: (vs ++ [])) H2 Q E
def methSQ (C : Addr) (m : Str) (sp : Sp) (ES : L2.St → XK) (t : TA) (σ : L2.St) (Q : VK) : VK := fun x H1 => ∃ a dx fs, x = .ref a ∧ H1 a = some (.ins C dx fs) ∧ fs.lookup m = none ∧ t σ H1 fun vs H2 => sp (x :: vs) H2 Q (ES σ)
def methSQ2 (sp : Sp) (ES : L2.St → XK) (σ : L2.St) (Q : VK) (x : V) : List V → Hp → Prop := fun vs H2 => sp (x :: vs) H2 Q (ES σ)
def initQ (Q : VK) (x : Addr) : VK := fun v H2 => v = .non ∧ Q (.ref x) H2
def makeQ (C : Addr) (sp : Sp) (E : XK) (Q : VK) : List V → Hp → Prop := fun vs H1 => ∀ x dx, H1 x = none → H1 dx = none → dx ≠ x → sp (.ref x :: (vs ++ [])) (upd (upd H1 dx (.own x)) x (.ins C dx [])) (fun v H2 => v = .non ∧ Q (.ref x) H2) E
def rDictD : List V → Hp → VK → Prop := fun xs H Q => ∃ (a : Addr) (kvs : List (Key × V)), xs = [.ref a] ∧ Rd H a (.dK kvs) ∧ ∀ p, H p = none → Q (.ref p) (upd H p (.dK kvs))
def rLenD : List V → Hp → VK → Prop := fun xs H Q => ∃ a kvs, xs = [V.ref a] ∧ H a = some (.dK kvs) ∧ Q (.int kvs.length) H
theorem g_dictD {X : Cx} : CallR X (.type "dict") rDictD := call_dictD
theorem g_lenD {X : Cx} : CallR X (.builtin "len") rLenD := call_lenD
def dgQ1 (ty : TE) (σ : L2.St) (Q : VK) : VK := fun x H1 => ty σ H1 fun y H2 => ∃ a v, x = .ref a ∧ DGet H2 a y (some v) ∧ Q v H2
def dgQ2 (x : V) (Q : VK) : VK := fun y H2 => ∃ a v, x = .ref a ∧ DGet H2 a y (some v) ∧ Q v H2
def diQ1 (td : TE) (σ : L2.St) (Q : VK) : VK := fun y H1 => td σ H1 fun x H2 => ∃ a o, x = .ref a ∧ DGet H2 a y o ∧ Q (.bl o.isSome) H2
def diQ2 (y : V) (Q : VK) : VK := fun x H2 => ∃ a o, x = .ref a ∧ DGet H2 a y o ∧ Q (.bl o.isSome) H2
def dnQ1 (td : TE) (σ : L2.St) (Q : VK) : VK := fun y H1 => td σ H1 fun x H2 => ∃ a o, x = .ref a ∧ DGet H2 a y o ∧ Q (.bl (!o.isSome)) H2
def dnQ2 (y : V) (Q : VK) : VK := fun x H2 => ∃ a o, x = .ref a ∧ DGet H2 a y o ∧ Q (.bl (!o.isSome)) H2
def dpQ1 (td ty : TE) (D : Ends) (σ : L2.St) : VK := fun v H1 => td σ H1 fun x H2 => ty σ H2 fun y H3 => ∃ a H4, x = .ref a ∧ DPut H3 a y v H4 ∧ D.nx σ H4
def dpQ2 (ty : TE) (D : Ends) (σ : L2.St) (v : V) : VK := fun x H2 => ty σ H2 fun y H3 => ∃ a H4, x = .ref a ∧ DPut H3 a y v H4 ∧ D.nx σ H4
def dpQ3 (D : Ends) (σ : L2.St) (v x : V) : VK := fun y H3 => ∃ a H4, x = .ref a ∧ DPut H3 a y v H4 ∧ D.nx σ H4
def poQ1 (ty : TE) (σ : L2.St) (Q : VK) : VK := fun x H1 => ∃ a, x = .ref a ∧ IsD H1 a ∧ ty σ H1 fun y H2 => ∃ kvs k v, H2 a = some (.dK kvs) ∧ y = kV k ∧ valV kvs k = some v ∧ Q v (upd H2 a (.dK (dropK kvs k)))
def poQ2 (a : Addr) (Q : VK) : VK := fun y H2 => ∃ kvs k v, H2 a = some (.dK kvs) ∧ y = kV k ∧ valV kvs k = some v ∧ Q v (upd H2 a (.dK (dropK kvs k)))
/-- the key of a value -/
class KeyOf (y : V) (k : outParam Key) : Prop where
  h : y = kV k
instance keyOf_i {i : Int} : KeyOf (.int i) (.inl i) := ⟨rfl⟩
instance keyOf_s {z : Str} : KeyOf (.str z) (.inr z) := ⟨rfl⟩
section
variable {K : PySem.W.Frag} {H : Hp} {σ σ' : L2.St} {Rs T : List Res} {F : Res → List Res} {p a C dx : Addr} {kds : KDs} {k : Key} {x y v : V} {d : PyData} {Q : VK} {R : Prop} {fs fs' : List (Str × V)} {g m : Str} {ta tv td ty : TE} {t : TA} {sp : Sp} {E : XK} {ES : L2.St → XK}
  {f : L2.St → Hp → Prop} {rt : VK} {bk ct : L2.St → Hp → Prop} {vs xs : List V} {QA : List V → Hp → Prop} {D : Ends}
instance r_fld [n : Run (ta σ H (fldQ C g Q)) R] : Run (tFldC C ta g σ H Q) R := ⟨fun h => n.go h⟩
instance r_fldQ [S : Sat H Rs] [fo : Foc cell a (.ins C dx fs) Rs T F] [l : Lk g fs v] [n : Run (Q v H) R] : Run (fldQ C g Q (.ref a) H) R := ⟨fun h => ⟨a, dx, fs, v, rfl, S.at_, l.h, n.go h⟩⟩
instance r_sf [n : Run (tv σ H (sfQ1 C ta g D σ)) R] : Run (sFldC C ta tv g D σ H) R := ⟨fun h => n.go h⟩
instance r_sf1 [n : Run (ta σ H (sfQ2 C g D σ y)) R] : Run (sfQ1 C ta g D σ y H) R := ⟨fun h => n.go h⟩
theorem x_sf [S : Sat H Rs] [fo : Foc cell a (.ins C dx fs) Rs T F] [pt : Pt g y fs fs'] (q : ∀ H', PK H H' → Sat H' (F (cell a (.ins C dx fs'))) → f σ H') : sfQ2 C g (Ends.mk f rt bk ct) σ y (.ref a) H := by
  refine ⟨a, dx, fs, rfl, S.at_, pt.l, ?_⟩
  rw [pt.h]
  exact q _ (S.cset id (o' := .ins C dx fs')).1 (S.cset id (o' := .ins C dx fs')).2
instance r_meth [n : Run (ta σ H (methQ C m sp E t σ Q)) R] : Run (tMeth C m sp [] E ta t σ H Q) R := ⟨fun h => n.go h⟩
instance r_methQ [i : HasIns C m a H] [n : Run (t σ H (methQ2 sp E Q (.ref a))) R] : Run (methQ C m sp E t σ Q (.ref a) H) R := ⟨fun h => by
  obtain ⟨dx, fs, e, l⟩ := i.h
  exact ⟨a, dx, fs, rfl, e, l, n.go h⟩⟩
instance r_methQ2 [n : Run (sp (x :: vs) H Q E) R] : Run (methQ2 sp E Q x vs H) R := ⟨fun h => by
  unfold methQ2
  rw [List.append_nil]
  exact n.go h⟩
instance r_methS [n : Run (ta σ H (methSQ C m sp ES t σ Q)) R] : Run (tMethS C m sp ES ta t σ H Q) R := ⟨fun h => n.go h⟩
instance r_methSQ [i : HasIns C m a H] [n : Run (t σ H (methSQ2 sp ES σ Q (.ref a))) R] : Run (methSQ C m sp ES t σ Q (.ref a) H) R := ⟨fun h => by
  obtain ⟨dx, fs, e, l⟩ := i.h
  exact ⟨a, dx, fs, rfl, e, l, n.go h⟩⟩
instance r_methSQ2 [n : Run (sp (x :: vs) H Q (ES σ)) R] : Run (methSQ2 sp ES σ Q x vs H) R := ⟨fun h => n.go h⟩
instance r_make [n : Run (t σ H (makeQ C sp E Q)) R] : Run (tMake C sp [] E t σ H Q) R := ⟨fun h => n.go h⟩
theorem x_make [S : Sat H Rs] (q : ∀ x dx H', PK H H' → Sat H' (cell x (.ins C dx []) :: Rs) → sp (.ref x :: vs) H' (initQ Q x) E) : makeQ C sp E Q vs H := by
  intro x dx hx hdx ne
  rw [List.append_nil]
  have e1 : Ex H (upd H dx (.own x)) := Ex.new hdx
  have h2 : upd H dx (.own x) x = none := by rw [upd_ne (Ne.symm ne)]; exact hx
  exact q x dx _ (PK.of_ex (e1.trans (Ex.new h2))) ((S.mono e1).new h2)
instance r_initQ [n : Run (Q (.ref a) H) R] : Run (initQ Q a .non H) R := ⟨fun h => ⟨rfl, n.go h⟩⟩
theorem x_lstS [S : Sat H Rs] (hz : xs.length ≤ sizeLine) (q : ∀ p H', PK H H' → Sat H' (cell p (.lst xs) :: Rs) → Q (.ref p) H') : lstQ Q xs H := ⟨hz, fun p hp => q p _ (PK.of_ex (Ex.new hp)) (S.new hp)⟩
theorem x_tupS [S : Sat H Rs] (hz : xs.length ≤ sizeLine) (q : ∀ p H', PK H H' → Sat H' Rs → H' p = some (.tup xs) → Q (.ref p) H') : tupQ Q xs H := ⟨hz, fun p hp => q p _ (PK.of_ex (Ex.new hp)) (S.mono (Ex.new hp)) upd_same⟩
theorem x_dnewS [S : Sat H Rs] (q : ∀ p H', PK H H' → Sat H' (dct p [] :: Rs) → Q (.ref p) H') : tDNewK σ H Q := fun p hp => q p _ (S.dnew hp .nil).1 (S.dnew hp .nil).2
theorem x_dictS [S : Sat H Rs] [fo : Foc dct a kds Rs T F] (q : ∀ p H', PK H H' → Sat H' (dct p kds :: Rs) → Q (.ref p) H') : rDictD [.ref a] H Q := by
  obtain ⟨kvs, h, kd⟩ := S.dat (a := a)
  exact ⟨a, kvs, rfl, .inl h, fun p hp => q p _ (S.dnew hp kd).1 (S.dnew hp kd).2⟩
instance r_lenD [S : Sat H Rs] [fo : Foc dct a kds Rs T F] [n : Run (Q (.int kds.length) H) R] : Run (rLenD [.ref a] H Q) R := ⟨fun h => by
  obtain ⟨kvs, e, kd⟩ := S.dat (a := a)
  exact ⟨a, kvs, rfl, e, by rw [kd.len]; exact n.go h⟩⟩
theorem x_listDS [S : Sat H Rs] [fo : Foc dct a kds Rs T F] (q : ∀ p H', PK H H' → Sat H' (cell p (.lst (kds.map fun kv => kV kv.1)) :: Rs) → Q (.ref p) H') : rListD [.ref a] H Q := by
  obtain ⟨kvs, h, kd⟩ := S.dat (a := a)
  refine ⟨a, kvs, rfl, h, fun p hp => ?_⟩
  rw [kd.keys]
  exact q p _ (PK.of_ex (Ex.new hp)) (S.new hp)
instance r_dg [n : Run (td σ H (dgQ1 ty σ Q)) R] : Run (tDGet td ty σ H Q) R := ⟨fun h => n.go h⟩
instance r_dg1 [n : Run (ty σ H (dgQ2 x Q)) R] : Run (dgQ1 ty σ Q x H) R := ⟨fun h => n.go h⟩
theorem x_dg [S : Sat H Rs] [fo : Foc dct a kds Rs T F] [ko : KeyOf y k] (h : valD kds k = some d) (q : ∀ v, Tp H v d → Q v H) : dgQ2 (.ref a) Q y H := by
  obtain ⟨kvs, e, kd⟩ := S.dat (a := a)
  obtain ⟨v, ev, tp⟩ := kd.sm h
  refine ⟨a, v, rfl, ?_, q v tp⟩
  rw [ko.h, ← ev]
  exact DGet.k e
instance r_di [n : Run (ty σ H (diQ1 td σ Q)) R] : Run (tDIn ty td σ H Q) R := ⟨fun h => n.go h⟩
instance r_di1 [n : Run (td σ H (diQ2 y Q)) R] : Run (diQ1 td σ Q y H) R := ⟨fun h => n.go h⟩
instance r_di2 [S : Sat H Rs] [fo : Foc dct a kds Rs T F] [ko : KeyOf y k] [n : Run (Q (.bl (hasD kds k)) H) R] : Run (diQ2 y Q (.ref a) H) R := ⟨fun h => by
  obtain ⟨kvs, e, kd⟩ := S.dat (a := a)
  refine ⟨a, valV kvs k, rfl, by rw [ko.h]; exact DGet.k e, ?_⟩
  rw [kd.has]
  exact n.go h⟩
instance r_dn [n : Run (ty σ H (dnQ1 td σ Q)) R] : Run (tDNotIn ty td σ H Q) R := ⟨fun h => n.go h⟩
instance r_dn1 [n : Run (td σ H (dnQ2 y Q)) R] : Run (dnQ1 td σ Q y H) R := ⟨fun h => n.go h⟩
instance r_dn2 [S : Sat H Rs] [fo : Foc dct a kds Rs T F] [ko : KeyOf y k] [n : Run (Q (.bl (!hasD kds k)) H) R] : Run (dnQ2 y Q (.ref a) H) R := ⟨fun h => by
  obtain ⟨kvs, e, kd⟩ := S.dat (a := a)
  refine ⟨a, valV kvs k, rfl, by rw [ko.h]; exact DGet.k e, ?_⟩
  rw [kd.has]
  exact n.go h⟩
instance r_dp [n : Run (tv σ H (dpQ1 td ty D σ)) R] : Run (sDPut td ty tv D σ H) R := ⟨fun h => n.go h⟩
instance r_dp1 [n : Run (td σ H (dpQ2 ty D σ v)) R] : Run (dpQ1 td ty D σ v H) R := ⟨fun h => n.go h⟩
instance r_dp2 [n : Run (ty σ H (dpQ3 D σ v x)) R] : Run (dpQ2 ty D σ v x H) R := ⟨fun h => n.go h⟩
theorem x_dp [S : Sat H Rs] [fo : Foc dct a kds Rs T F] [ko : KeyOf y k] (hz : kds.length < sizeLine) (tp : Tp H v d) (q : ∀ H', PK H H' → Sat H' (F (dct a (putD kds k d))) → f σ H') : dpQ3 (Ends.mk f rt bk ct) σ v (.ref a) y H := by
  obtain ⟨kvs, e, kd⟩ := S.dat (a := a)
  refine ⟨a, _, rfl, by rw [ko.h]; exact DPut.k e (by rw [kd.len]; exact hz), q _ (S.dset (kd.put tp)).1 (S.dset (kd.put tp)).2⟩
instance r_po [n : Run (td σ H (poQ1 ty σ Q)) R] : Run (tDPop1 td ty σ H Q) R := ⟨fun h => n.go h⟩
instance r_po1 [S : Sat H Rs] [fo : Foc dct a kds Rs T F] [n : Run (ty σ H (poQ2 a Q)) R] : Run (poQ1 ty σ Q (.ref a) H) R := ⟨fun h => by
  obtain ⟨kvs, e, kd⟩ := S.dat (a := a)
  exact ⟨a, rfl, .inl ⟨kvs, .inl e⟩, n.go h⟩⟩
theorem x_po [S : Sat H Rs] [fo : Foc dct a kds Rs T F] [ko : KeyOf y k] (h : valD kds k = some d) (q : ∀ v H', Tp H v d → PK H H' → Sat H' (F (dct a (dropD kds k))) → Q v H') : poQ2 a Q y H := by
  obtain ⟨kvs, e, kd⟩ := S.dat (a := a)
  obtain ⟨v, ev, tp⟩ := kd.sm h
  exact ⟨kvs, k, v, e, ko.h, ev, q v _ tp (S.dset kd.drop).1 (S.dset kd.drop).2⟩
theorem x_appendS [S : Sat H Rs] [fo : Foc cell p (.lst xs) Rs T F] (hz : xs.length < sizeLine) (q : ∀ H', PK H H' → Sat H' (F (cell p (.lst (xs ++ [y])))) → Q .non H') : rAppend (.ref p) [y] H Q :=
  x_append S.at_ hz (q _ (S.cset id (o' := .lst (xs ++ [y]))).1 (S.cset id (o' := .lst (xs ++ [y]))).2)
theorem x_setS {i : Int} {P : Hp → Prop} [S : Sat H Rs] [fo : Foc cell p (.lst xs) Rs T F] (h0 : 0 ≤ i) (ha : (xs[i.toNat]?).isSome = true) (q : ∀ H', PK H H' → Sat H' (F (cell p (.lst (xs.set i.toNat v)))) → P H') : rSetL (.ref p) (.int i) v H P :=
  x_setLn S.at_ h0 ha (q _ (S.cset id (o' := .lst (xs.set i.toNat v))).1 (S.cset id (o' := .lst (xs.set i.toNat v))).2)
/-- a dict locked while it is walked -/
def lkN (a : Addr) (od : Obj) (u : HO) (f : L2.St → Hp → Prop) : L2.St → Hp → Prop := fun σ' H' => H' a = some (.frz od u) ∧ f σ' (upd H' a u)
def lkV (a : Addr) (od : Obj) (u : HO) (f : VK) : VK := fun v H' => H' a = some (.frz od u) ∧ f v (upd H' a u)
theorem lock_sat [S : Sat H Rs] [fo : Foc dct a kds Rs T F] (od : Obj) {kvs : List (Key × V)} (e : H a = some (.dK kvs)) : PK H (upd H a (.frz od (.dK kvs))) ∧ Sat (upd H a (.frz od (.dK kvs))) (F (cell a (.frz od (.dK kvs)))) := by
  obtain ⟨kvs2, S2, _⟩ := (fo.out S).dctE
  have e2 : kvs2 = kvs := by
    have := S2.get
    rw [e] at this
    cases this
    rfl
  subst e2
  exact ⟨S2.pkset id, fo.back (S2.set id)⟩
theorem x_lock {t : TS} (a : Addr) [S : Sat H Rs] [fo : Foc dct a kds Rs T F] (q : ∀ od kvs H', PK H H' → KD H' kvs kds → Sat H' (F (cell a (.frz od (.dK kvs)))) → t (Ends.mk (lkN a od (.dK kvs) f) (lkV a od (.dK kvs) rt) (lkN a od (.dK kvs) bk) (lkN a od (.dK kvs) ct)) σ H') : tLock t (Ends.mk f rt bk ct) σ H := by
  obtain ⟨kvs, e, kd⟩ := S.dat (a := a)
  exact ⟨a, .dK kvs, e, trivial, fun od => q od kvs _ (lock_sat od e).1 (kd.pk (lock_sat od e).1) (lock_sat od e).2⟩
theorem x_lockE {t : TE} (a : Addr) [S : Sat H Rs] [fo : Foc dct a kds Rs T F] (q : ∀ od kvs H', PK H H' → KD H' kvs kds → Sat H' (F (cell a (.frz od (.dK kvs)))) → t σ H' (lkV a od (.dK kvs) Q)) : tLockE t σ H Q := by
  obtain ⟨kvs, e, kd⟩ := S.dat (a := a)
  exact ⟨a, .dK kvs, e, trivial, fun od => q od kvs _ (lock_sat od e).1 (kd.pk (lock_sat od e).1) (lock_sat od e).2⟩
theorem unlock_sat {od : Obj} {kvs : List (Key × V)} [S : Sat H Rs] [fo : Foc cell a (.frz od (.dK kvs)) Rs T F] (kd : KD H kvs kds) : PK H (upd H a (.dK kvs)) ∧ Sat (upd H a (.dK kvs)) (F (dct a kds)) := by
  have S2 := fo.out S
  have pk := S2.pkset (o' := .dK kvs) id
  exact ⟨pk, fo.back ((S2.set (o' := .dK kvs) id).dctI (kd.pk pk))⟩
theorem x_unlock {od : Obj} {kvs : List (Key × V)} [S : Sat H Rs] [fo : Foc cell a (.frz od (.dK kvs)) Rs T F] (kd : KD H kvs kds) (q : ∀ H', PK H H' → Sat H' (F (dct a kds)) → f σ H') : lkN a od (.dK kvs) f σ H :=
  ⟨S.at_, q _ (unlock_sat kd).1 (unlock_sat kd).2⟩
theorem x_unlockV {od : Obj} {kvs : List (Key × V)} [S : Sat H Rs] [fo : Foc cell a (.frz od (.dK kvs)) Rs T F] (kd : KD H kvs kds) (q : ∀ H', PK H H' → Sat H' (F (dct a kds)) → Q v H') : lkV a od (.dK kvs) Q v H :=
  ⟨S.at_, q _ (unlock_sat kd).1 (unlock_sat kd).2⟩
def ikQ (S : It → Hp → Prop) : VK := fun x H1 => ∃ d o, x = .ref d ∧ ((∃ kvs, H1 d = some (.frz o (.dK kvs)) ∧ S (Itk d o kvs) H1) ∨ ∃ kvs, H1 d = some (.frz o (.dT kvs)) ∧ S (Itkt d o kvs) H1)
instance r_ik {W : It → Hp → Prop} [n : Run (td σ H (ikQ W)) R] : Run (iKeys td σ H W) R := ⟨fun h => n.go h⟩
instance r_ikQ {W : It → Hp → Prop} {od : Obj} {kvs : List (Key × V)} [S : Sat H Rs] [fo : Foc cell a (.frz od (.dK kvs)) Rs T F] [n : Run (W (Itk a od kvs) H) R] : Run (ikQ W (.ref a) H) R := ⟨fun h => ⟨a, od, rfl, .inl ⟨kvs, S.at_, n.go h⟩⟩⟩
end
theorem sat_at {H : Hp} {Rs T : List Res} {F : Res → List Res} {a : Addr} {o : HO} [S : Sat H Rs] [f : Foc cell a o Rs T F] : H a = some o := S.at_
/-- a method's contract that can't be asked -/
theorem Mf.none {P : Program} {w : World} {K : PySem.W.Frag} {mg : Str → Option Value} {base : Heap} {C m qual : Str} {st : Stmt} {ps : List Str} {k : Nat} {sp : Sp} (F : Mf K C m qual st) (hb : BindOk m qual st ps) (no : ∀ vs H Q E, ¬ sp vs H Q E) : DnM P w K mg base CX0 k (He.ma K (He.ga K C) m) ps sp := by
  obtain ⟨fd, F⟩ := F.ex
  exact ⟨fd, ⟨fun vs H Q E h => absurd h (no vs H Q E), fun A outer s H args us vs Q E _ _ _ _ h => absurd h (no vs H Q E)⟩, F.binds hb⟩
/-- the parts of a heap in another order, some left out -/
theorem pick {H : Hp} {Rs Ss : List Res} [S : Sat H Rs] [s : SubC Ss Rs] : Sat H Ss := S.pick
section
variable {K : PySem.W.Frag} {H : Hp} {σ : L2.St} {Rs T : List Res} {F : Res → List Res} {p : Addr} {xs : List V} {Q : VK} {R : Prop} {t : TA} {r : V → List V → Hp → VK → Prop} {W : It → Hp → Prop}
instance r_bmLS [S : Sat H Rs] [f : Foc cell p (.lst xs) Rs T F] [n : Run (t σ H (bmQ2 r (.ref p) Q)) R] : Run (bmQ K "list" r t σ Q (.ref p) H) R := ⟨fun h => x_bmL (SqL.of S.at_) (n.go h)⟩
instance r_bm0LS [S : Sat H Rs] [f : Foc cell p (.lst xs) Rs T F] [n : Run (r (.ref p) [] H Q) R] : Run (bm0Q K "list" r Q (.ref p) H) R := ⟨fun h => x_bm0L (SqL.of S.at_) (n.go h)⟩
instance r_lenLS [S : Sat H Rs] [f : Foc cell p (.lst xs) Rs T F] [n : Run (Q (.int xs.length) H) R] : Run (rLen K [.ref p] H Q) R := ⟨fun h => x_lenL (SqL.of S.at_) (n.go h)⟩
instance r_iLQS [S : Sat H Rs] [f : Foc cell p (.lst xs) Rs T F] [n : Run (W (Itl K p) H) R] : Run (iLQ K W (.ref p) H) R := ⟨fun h => x_iLQ (SqL.of S.at_) (n.go h)⟩
end
def isQ (W : It → Hp → Prop) : VK := fun v H1 => ∃ x, v = .str x ∧ W (Its x) H1
section
variable {H : Hp} {σ : L2.St} {te : TE} {W : It → Hp → Prop} {R : Prop} {z : Str}
instance r_is [n : Run (te σ H (isQ W)) R] : Run (iStr te σ H W) R := ⟨fun h => n.go h⟩
instance r_isQ [n : Run (W (Its z) H) R] : Run (isQ W (.str z) H) R := ⟨fun h => ⟨z, rfl, n.go h⟩⟩
end
theorem x_popS {H : Hp} {Rs T : List Res} {F : Res → List Res} {p : Addr} {ws : List V} {v : V} {Q : VK} [S : Sat H Rs] [f : Foc cell p (.lst (ws ++ [v])) Rs T F] (q : ∀ H', PK H H' → Sat H' (F (cell p (.lst ws))) → Q v H') : rPop (.ref p) [] H Q :=
  ⟨p, ws ++ [v], v, rfl, rfl, S.at_, by simp, by
    rw [List.dropLast_concat]
    exact q _ (S.cset id (o' := .lst ws)).1 (S.cset id (o' := .lst ws)).2⟩
section
variable {H : Hp} {σ : L2.St} {Rs T : List Res} {F : Res → List Res} {a : Addr} {kvs : List (Key × V)} {k : Key} {y v : V} {Q : VK} {od : Obj} {f : L2.St → Hp → Prop} {rt : VK} {bk ct : L2.St → Hp → Prop}
theorem x_dgC [S : Sat H Rs] [fo : Foc cell a (.dK kvs) Rs T F] [ko : KeyOf y k] (h : valV kvs k = some v) (q : Q v H) : dgQ2 (.ref a) Q y H :=
  ⟨a, v, rfl, by rw [ko.h, ← h]; exact DGet.k S.at_, q⟩
theorem x_dgF [S : Sat H Rs] [fo : Foc cell a (.frz od (.dK kvs)) Rs T F] [ko : KeyOf y k] (h : valV kvs k = some v) (q : Q v H) : dgQ2 (.ref a) Q y H :=
  ⟨a, v, rfl, by rw [ko.h, ← h]; exact .inl ⟨kvs, k, .inr ⟨od, S.at_⟩, rfl, rfl⟩, q⟩
theorem x_dpC [S : Sat H Rs] [fo : Foc cell a (.dK kvs) Rs T F] [ko : KeyOf y k] (hz : kvs.length < sizeLine) (q : ∀ H', PK H H' → Sat H' (F (cell a (.dK (putK kvs k v)))) → f σ H') : dpQ3 (Ends.mk f rt bk ct) σ v (.ref a) y H :=
  ⟨a, _, rfl, by rw [ko.h]; exact DPut.k S.at_ hz, q _ (S.cset id (o' := .dK (putK kvs k v))).1 (S.cset id (o' := .dK (putK kvs k v))).2⟩
end
theorem dropD_id {kds : KDs} {k : Key} (h : hasD kds k = false) : dropD kds k = kds := by
  unfold dropD hasD at *
  refine List.filter_eq_self.mpr fun kv hkv => ?_
  have := List.any_eq_false.mp h kv hkv
  simpa using this
theorem hasD_val {kds : KDs} {k : Key} (h : hasD kds k = true) : ∃ d, valD kds k = some d := by
  unfold hasD at h
  obtain ⟨kv, h1, h2⟩ := List.any_eq_true.mp h
  unfold valD
  cases e : kds.find? (fun kv => decide (kv.1 = k)) with
  | none => exact absurd h2 (by simpa using List.find?_eq_none.mp e kv h1)
  | some u => exact ⟨u.2, rfl⟩
theorem x_eltS {H : Hp} {Rs T : List Res} {F : Res → List Res} {D : Addr} {Nx : Hp → Prop} {acc : List V} {y : V} [S : Sat H Rs] [fo : Foc cell D (.lst acc) Rs T F] (hz : acc.length < sizeLine) (q : ∀ H', PK H H' → Sat H' (F (cell D (.lst (acc ++ [y])))) → Nx H') : eltQ D Nx y H :=
  x_elt S.at_ hz (q _ (S.cset id (o' := .lst (acc ++ [y]))).1 (S.cset id (o' := .lst (acc ++ [y]))).2)
theorem valV_nodup : ∀ {kvs : List (Key × V)} {i : Nat} {k : Key} {v : V}, (kvs.map (·.1)).Nodup → kvs[i]? = some (k, v) → valV kvs k = some v
  | [], _, _, _, _, h => by simp at h
  | (j, u) :: r, 0, k, v, _, h => by
    cases h
    exact valV_pos (p := (j, u)) rfl
  | (j, u) :: r, i + 1, k, v, nd, h => by
    rw [List.map_cons, List.nodup_cons] at nd
    have hm : k ∈ r.map (·.1) := List.mem_map.mpr ⟨(k, v), List.mem_of_getElem? (i := i) h, rfl⟩
    have hj : j ≠ k := fun e => nd.1 (by rw [show (j, u).1 = k from e]; exact hm)
    rw [valV_neg (p := (j, u)) hj]
    exact valV_nodup (i := i) nd.2 h
/-! ### range with a step -/
def ir3Q (S : It → Hp → Prop) : List V → Hp → Prop := fun vs H1 => ∃ (i j c : Int) (n : Nat), vs = [.int i, .int j, .int c] ∧ RgC i j c n ∧ S (Itc i c n) H1
instance r_ir3 {σ : L2.St} {H : Hp} {ta : TA} {S : It → Hp → Prop} {R : Prop} [n : Run (ta σ H (ir3Q S)) R] : Run (iRng3 ta σ H S) R := ⟨fun h => n.go h⟩
theorem x_ir3 {i j : Int} {H : Hp} {S : It → Hp → Prop} (ha : -(2 ^ 62) ≤ i) (ha' : i < 2 ^ 62) (hb : -(2 ^ 62) ≤ j) (hb' : j < 2 ^ 62) (k : S (Itc i (-1) (i - j).toNat) H) : ir3Q S [.int i, .int j, .int (-1)] H :=
  ⟨i, j, -1, _, rfl, .neg ha ha' hb hb', k⟩
/-! ### join -/
def rJoin (K : PySem.W.Frag) : V → List V → Hp → VK → Prop := fun x xs H Q => ∃ a p, ∃ ys : List Str, x = .str a ∧ xs = [.ref p] ∧ (SqL K H p (ys.map V.str) ∨ SqT K H p (ys.map V.str)) ∧
  (ys.map (·.length)).sum + ys.length * a.length ≤ 16777216 ∧ Q (.str (Txt.join a ys)) H
theorem pe_joinN {X : Cx} {o e : Expr} {to te : TE} {apos pos : Pos} (ho : PE X o to) (he : PE X e te) (hs : starEach [e] X.env = [(false, eval e X.env)] := by rfl) (hbase : attributeBase o "join" X.env (eval o X.env) = eval o X.env := by rfl) (hline : (apos.endLine == pos.line) = true := by rfl) :
    PE X (.Call (.Attribute o "join" apos) [e] [] pos) (tM1 (rJoin X.K) to te) := pe_join ho he hs hbase hline
def m1Q1 (r : V → List V → Hp → VK → Prop) (te : TE) (σ : L2.St) (Q : VK) : VK := fun x H1 => (∃ a, x = .str a) ∧ te σ H1 fun y H2 => r x [y] H2 Q
def m1Q2 (r : V → List V → Hp → VK → Prop) (x : V) (Q : VK) : VK := fun y H2 => r x [y] H2 Q
section
variable {K : PySem.W.Frag} {H : Hp} {σ : L2.St} {to te : TE} {r : V → List V → Hp → VK → Prop} {z : Str} {x y : V} {Q : VK} {R : Prop} {p : Addr} {ys : List Str}
instance r_m1 [n : Run (to σ H (m1Q1 r te σ Q)) R] : Run (tM1 r to te σ H Q) R := ⟨fun h => n.go h⟩
instance r_m1Q1 [n : Run (te σ H (m1Q2 r (.str z) Q)) R] : Run (m1Q1 r te σ Q (.str z) H) R := ⟨fun h => ⟨⟨z, rfl⟩, n.go h⟩⟩
instance r_m1Q2 [n : Run (r x [y] H Q) R] : Run (m1Q2 r x Q y H) R := ⟨fun h => n.go h⟩
theorem x_joinL (h : SqL K H p (ys.map V.str)) (hz : (ys.map (·.length)).sum + ys.length * z.length ≤ 16777216) (q : Q (.str (Txt.join z ys)) H) : rJoin K (.str z) [.ref p] H Q := ⟨z, p, ys, rfl, rfl, .inl h, hz, q⟩
end
end G

set_option Elab.async false
set_option linter.all false
set_option maxRecDepth 100000
set_option maxHeartbeats 4000000
set_option synthInstance.maxHeartbeats 0
set_option synthInstance.maxSize 100000
/-! Exceptions of the program's own classes as values: made, kept, asked of which class, read. -/
namespace G
open PySem PySem.Spec PyProof.Rows L2 Evl RZ
/-- at a: an exception of the class at C; its dict, if it has one, stands by itself -/
def XV (H : Hp) (a C : Addr) (fs : List (Str × V)) : Prop := (fs = [] ∧ H a = some (exo a C none)) ∨ ∃ dx, H a = some (exo a C (some dx)) ∧ H dx = some (exd dx fs)
theorem XV.ex {H H' : Hp} {a C : Addr} {fs : List (Str × V)} (e : Ex H H') (x : XV H a C fs) : XV H' a C fs := by
  rcases x with ⟨h1, h2⟩ | ⟨dx, h1, h2⟩
  · exact .inl ⟨h1, e _ _ h2⟩
  · exact .inr ⟨dx, e _ _ h1, e _ _ h2⟩
theorem XV.inst {P : Program} {w : World} {H : Hp} {h : Heap} {a C : Addr} {fs : List (Str × V)} (ok : HOk P w H h) (x : XV H a C fs) : ∃ (oe : Obj) (od : Option Obj), PySem.W.InstAt h a oe C od ∧ ((∃ o, od = some o ∧ ∃ mA, h.Ns1 (oe.dict.getD 0) mA ∧ (∀ f, RelO (fs.lookup f) (mA f)) ∧ ∀ name, PySem.W.lookIn name o = some (mA name)) ∨ od = none ∧ fs = []) := by
  rcases x with ⟨h1, h2⟩ | ⟨dx, h1, h2⟩
  · obtain ⟨t1, e⟩ := exo_at ok h2
    exact ⟨_, none, ⟨e, rfl, rfl, trivial⟩, .inr ⟨rfl, h1⟩⟩
  · obtain ⟨t1, e⟩ := exo_at ok h1
    obtain ⟨mA, hns, rel⟩ := exd_at ok h2
    obtain ⟨od, ho, hl⟩ := lookIn_ns hns
    exact ⟨_, some od, ⟨e, rfl, rfl, ho⟩, .inl ⟨od, rfl, mA, hns, rel, hl⟩⟩
/-! ### isinstance -/
theorem _root_.L2.ExcC.hc {K : PySem.W.Frag} {D : Addr} (C : ExcC K D) : (PySem.W.clsIn K D).isSome = true := by
  have h := C.hd
  obtain ⟨cd, hc, _⟩ := PySem.W.any_some h
  rw [hc]
  rfl
def rIsV (K : PySem.W.Frag) : List V → Hp → VK → Prop := fun xs H Q => ∃ (a C : Addr) (fs : List (Str × V)) (c : V) (cv : Value) (b : Bool), xs = [.ref a, c] ∧ XV H a C fs ∧ ExcC K C ∧ (∀ u, RelV c u → u = cv) ∧ PySem.W.kitOne K (.ref C) cv = some b ∧ Q (.bl b) H
theorem call_isV {X : Cx} : CallR X (.builtin "isinstance") (rIsV X.K) := by
  intro pins s σ H xs us Q I r h
  obtain ⟨a, C, fs, c, cv, b, rfl, x, F, hcv, e, q⟩ := h
  cases r with
  | cons rx rr =>
    cases rr with
    | cons rt rr =>
      cases rr
      cases rx
      have ec := hcv _ rt
      subst ec
      obtain ⟨oe, od, J, _⟩ := x.inst I.hok
      exact PySem.W.kia_one (PySem.W.kitx_exc F.hc F.hg F.hk F.hs F.ha F.hn F.ht F.hm) I.kIn J e (fun z => nomatch z) fun tk => ⟨.bl b, H, I.kept (t' := tk) fun _ _ z => z, rfl, q⟩
theorem x_isVr {K : PySem.W.Frag} {a C D : Addr} {fs : List (Str × V)} {b : Bool} {H : Hp} {Q : VK} (x : XV H a C fs) (F : ExcC K C) (k : PySem.W.kitOne K (.ref C) (.ref D) = some b) (q : Q (.bl b) H) : rIsV K [.ref a, .ref D] H Q :=
  ⟨a, C, fs, .ref D, .ref D, b, rfl, x, F, fun u h => h, k, q⟩
theorem x_isVt {K : PySem.W.Frag} {a C : Addr} {T : String} {fs : List (Str × V)} {b : Bool} {H : Hp} {Q : VK} (x : XV H a C fs) (F : ExcC K C) (k : PySem.W.kitOne K (.ref C) (.type T) = some b) (q : Q (.bl b) H) : rIsV K [.ref a, .ty T] H Q :=
  ⟨a, C, fs, .ty T, .type T, b, rfl, x, F, fun u h => h, k, q⟩
/-! ### x.f -/
def tExcF (K : PySem.W.Frag) (f : Str) (ta : TE) : TE := fun σ H Q => ta σ H fun x H1 => ∃ (a C : Addr) (fs : List (Str × V)) (v : V), x = .ref a ∧ XV H1 a C fs ∧ ExcC K C ∧ PySem.W.findIn K (.ref C) f = some none ∧ fs.lookup f = some v ∧ Q v H1
theorem pe_excF {X : Cx} {e : Expr} {te : TE} {f : Str} {pos : Pos} (he : PE X e te) (hb : attributeBase e f X.env (eval e X.env) = eval e X.env := by rfl) : PE X (.Attribute e f pos) (tExcF X.K f te) := by
  refine ⟨fun pins s σ H Q I h => ?_⟩
  refine attr_of hb (thn (he.run pins s σ H _ I h) fun u s1 hh => ?_)
  obtain ⟨x, H1, I1, rx, a, C, fs, v, rfl, xv, F, no, l, q⟩ := hh
  obtain rfl : u = Value.ref a := rx
  obtain ⟨oe, od, J, z⟩ := xv.inst I1.hok
  rcases z with ⟨o, rfl, mA, hns, hr, hl⟩ | ⟨_, rfl⟩
  · obtain ⟨w, hu, ru⟩ := RelO.some_of (v := v) (o := mA f) (by rw [← l]; exact hr f)
    exact HandSPX.exc_get I1.kIn J F.hg F.hk F.hs (PySem.W.findObj_own F.hd no rfl (by rw [hl, hu])) (handed_of ru) ⟨v, H1, I1.tok _, ru, q⟩
  · cases l
/-! ### X(e): a class without an own __init__ -/
def tExcV (C : Addr) (ta : TE) : TE := fun σ H Q => ta σ H fun _ H1 => ∀ a, H1 a = none → Q (.ref a) (upd H1 a (exo a C none))
theorem pe_excV {X : Cx} {C : Addr} {bmB : List Value} {B newId initId : String} {x : Str} {e : Expr} {ta : TE} {p pos : Pos} (F : ExcBaseFacts B newId initId bmB) (q : PySem.W.excIn X.K C bmB newId = true) (gC : X.mg x = some (.ref C)) (kC : PySem.W.keepIn X.K (.ref C) = true) (he : PE X e ta) (hg : Gl X x := by rfl)
    (hs : starEach [e] X.env = (false, eval e X.env) :: starEach [] X.env := by rfl) (hdb : (x == ("__debug__" : Str)) = false := by decide) :
    PE X (.Call (.Name x p) [e] [] pos) (tExcV C ta) := by
  refine ⟨fun pins s σ H Q I h => ?_⟩
  refine wpAny_Call_Name_kw (ld_glob I hg gC ?_ hdb)
  refine PySem.W.callWith_K (h₀ := X.base) I.ok.mod.kin kC ?_ hs (by rfl)
  rw [hs]
  show wpAny _ _ (spliced ((false, eval e X.env) :: backTo pos (starEach [] X.env))) _ _ s
  refine Calls.spliced_cons (thn (he.run pins s σ H _ I h) fun u s1 ⟨v, H1, I1, r1, q1⟩ => ?_)
  refine Calls.spliced_nil ⟨I1.kIn, ?_⟩
  show wpAny _ _ (call (.ref C) [u]) _ _ _
  obtain ⟨bm, N, nm, qn, bs, hdct, sn, sub, ab, col, dd, k0, k1, k2, k3, k5, mN, hC, hN, hni, T⟩ := exc_obj I1.kIn q
  refine wpAny_call_exc_subT F T hC hN hni (fun h' a hm => ?_) (by show 1 ≤ sizeLine; rw [sizeLine_eq]; omega)
  have hn : H1 a = none := I1.hok.gone hm.new
  obtain ⟨t, ht, _, _⟩ := hm.there
  exact ⟨.ref a, upd H1 a (exo a C none), I1.laidN hm.keeps hm.new hn (exo_ok ht), rfl, q1 a hn⟩
/-! ### X(e, ..): a class with an own __init__ -/
def tExcI (C : Addr) (sp : Sp) (ta : TA) : TE := fun σ H Q => ta σ H fun vs H1 => vs.length ≤ 1000 ∧ ∀ a, H1 a = none → sp (.ref a :: (vs ++ [])) (upd H1 a (exo a C none)) (fun v H2 => v = .non ∧ Q (.ref a) H2) (fun _ _ _ => False)
structure OexX (K : PySem.W.Frag) (C fI : Addr) : Prop extends OexC K C where
  ini : PySem.W.findIn K (.ref C) "__init__" = some (some (.ref fI))
  tyI : PySem.W.typeIn K (.ref fI) = some (.type "function")
theorem pe_excI {X : Cx} {x : Str} {C fI : Addr} {k : Nat} {ps : List Str} {sp : Sp} {e : Expr} {es : List Expr} {ta : TA} {p pos : Pos} (T : OexX X.K C fI) (D : DnM X.prog X.w X.K X.mg X.base CX0 k fI ps sp) (hr : Room (k + 1) X.A) (hx : Passes CX0 X (fun _ _ _ => False)) (hm : X.mg x = some (.ref C)) (ha : PA X (e :: es) ta) (hg : Gl X x := by rfl)
    (hdb : (x == ("__debug__" : Str)) = false := by decide) (he : starEach (e :: es) X.env = (false, eval e X.env) :: starEach es X.env := by rfl) (hpl : (backTo pos (starEach es X.env)).any (·.1) = false := by rfl) :
    PE X (.Call (.Name x p) (e :: es) [] pos) (tExcI C sp ta) := by
  refine ⟨fun pins s σ H Q I h => ?_⟩
  obtain ⟨fd, F1, hb⟩ := D.ex
  obtain ⟨nm, q, N, bs, bm, sn, sub, ab, col, dd, k0, k1, k2, k3, k5, hC, hbm⟩ := T.cls
  refine wpAny_Call_Name_kw (ld_glob I hg hm ?_ hdb)
  refine PySem.W.callWith_K (h₀ := X.base) I.ok.mod.kin T.kC (thn (ha.run pos pins s σ H _ I h) fun us s1 ⟨vs, H1, I1, r1, hz, q1⟩ => ⟨I1.kIn, ?_⟩) he hpl
  show wpAny _ _ (call (.ref C) us) _ _ _
  obtain ⟨hp, g, dr, tk, os⟩ := s1
  have hsz : hp.objs.size ≤ hp.objs.size + 1 := Nat.le_succ _
  have hn : H1 (hp.objs.size + 1) = none := I1.hok.fresh hsz
  have hq := q1 (hp.objs.size + 1) hn
  have kk : ∀ b o, hp.get? b = some o → ((hp.push (PySem.W.kdv_tup us)).push (PySem.HandSPX.excO C hp.objs.size)).get? b = some o := fun b o e => Heap.get?_push_of_some _ (Heap.get?_push_of_some _ e)
  have hget : ((hp.push (PySem.W.kdv_tup us)).push (PySem.HandSPX.excO C hp.objs.size)).get? (hp.objs.size + 1) = some (PySem.HandSPX.excO C hp.objs.size) := by heap_get
  have I2 : Inv X pins σ (upd H1 (hp.objs.size + 1) (exo (hp.objs.size + 1) C none)) ⟨(hp.push (PySem.W.kdv_tup us)).push (PySem.HandSPX.excO C hp.objs.size), g, dr, tk, os⟩ :=
    I1.laid (t' := tk) (a := hp.objs.size + 1) (o := exo (hp.objs.size + 1) C none) (h' := (hp.push (PySem.W.kdv_tup us)).push (PySem.HandSPX.excO C hp.objs.size)) kk hsz (exo_ok hget)
  have r2 : Vals (V.ref (hp.objs.size + 1) :: (vs ++ [])) (Value.ref (hp.objs.size + 1) :: (us ++ [])) := .cons rfl (r1.append .nil)
  have hl : (Value.ref (hp.objs.size + 1) :: us ++ []).length = ps.length := by
    have e := r2.length
    rw [F1.len _ _ _ _ hq] at e
    exact e.symm
  have hus : us.length ≤ sizeLine := by
    rw [← Paired.length r1, sizeLine_eq]
    omega
  refine wpAny_call (PySem.HandSPX.call_own F.excBase_ValueError (fun Y => PySem.HandSPX.refsVE_contains Y bm hbm) (I1.kIn _ _ hC) (PySem.W.looks_findIn I1.kIn T.ini) (fun self => PySem.W.bind_fn I1.kIn self T.tyI) hus
    (codeAny_mono (F1.run _ X.stack _ _ ⟨Value.ref (hp.objs.size + 1) :: us, []⟩ (Value.ref (hp.objs.size + 1) :: (us ++ [])) _ _ (fun _ _ _ => False) (hr.make C us []) (I2.env0.make C us []) (by have z := hb _ (Value.ref (hp.objs.size + 1) :: us) I2.kIn hl; rw [List.cons_append] at z; exact z) r2 hq) fun r s' hq' => ?_))
  cases r with
  | error er => exact hx pins σ _ _ er s' I2 hq'
  | ok fl =>
    cases fl with
    | ret u =>
      obtain ⟨v, H2, I3, rv, ev, q3⟩ := I2.after hq'
      subst ev
      exact ⟨rv, ⟨V.ref (hp.objs.size + 1), H2, I3, rfl, q3⟩⟩
    | next => exact False.elim hq'
    | brk => exact False.elim hq'
    | cont => exact False.elim hq'
/-- what is asked of the written part for such a class -/
theorem oexB_ok {x : Str} {K : PySem.W.Frag} (h : oexB x K = true) : OexX K (He.ga K x) (He.ma K (He.ga K x) "__init__") := by
  obtain ⟨a, h⟩ := He.ba h
  obtain ⟨b, h⟩ := He.ba h
  obtain ⟨c, h⟩ := He.ba h
  obtain ⟨d, h⟩ := He.ba h
  obtain ⟨e, h⟩ := He.ba h
  obtain ⟨f, h⟩ := He.ba h
  refine ⟨⟨?_, He.eqO_ok b, of_decide_eq_true c, of_decide_eq_true d, e⟩, He.eqO_ok f, of_decide_eq_true h⟩
  split at a
  · rename_i dd cd sl ho
    split at a
    · rename_i C' bm k0 k1 k2 k3 n k5 hm hs
      simp only [Bool.and_eq_true, beq_iff_eq, Bool.not_eq_true'] at a
      obtain ⟨⟨⟨⟨rfl, rfl⟩, hdel⟩, hdct⟩, hbm⟩ := a
      obtain ⟨nm, bs, mro, ns, qn, hd, sn, sub, ab, col, del⟩ := cd
      dsimp only at hm hdel hdct
      subst hm hdel hdct
      have hsl : sl = #[k0, k1, k2, k3, some (.builtin "ValueError.__new__"), k5] := by
        obtain ⟨l⟩ := sl
        simp only at hs
        rw [hs]
      subst hsl
      exact ⟨nm, qn, ns, bs, bm, sn, sub, ab, col, dd, k0, k1, k2, k3, k5, ho, hbm⟩
    · cases a
  · cases a
/-! ### a text so many times -/
def rRepS : R2 := fun x y H Q => ∃ (a : Str) (k : Int), x = .str a ∧ y = .int k ∧ 0 ≤ k ∧ k ≤ 1000 ∧ a.length ≤ 1000 ∧ ∀ z : Str, Q (.str z) H
theorem rep_size (arr : Array Nat) : ∀ (m : Nat) (acc : Array Nat), ((List.replicate m arr).foldl (· ++ ·) acc).size = acc.size + m * arr.size
  | 0, acc => by simp
  | m + 1, acc => by
    rw [List.replicate_succ, List.foldl_cons, rep_size arr m, Array.size_append, Nat.add_mul, Nat.one_mul]
    omega
theorem op_mulS {X : Cx} : OpR X (binaryOp .Mult) rRepS := by
  intro pins s σ H x y v u Q I rx ry h
  obtain ⟨a, k, rfl, rfl, h0, h1, h2, q⟩ := h
  obtain ⟨t, rfl⟩ := rx
  obtain ⟨t', rfl⟩ := ry
  have hm : a.length * k.toNat ≤ 1000 * 1000 := Nat.mul_le_mul h2 (by omega)
  refine P.mul_str (by rw [decide_eq_false (by omega), decide_eq_false (by omega)]; rfl) (fun c _ => ?_) (fun _ _ => ?_) ?_
  · have c2 : (2 ^ 63 - 1) / 1000 ≤ (2 ^ 63 - 1) / k := by
      refine (Int.le_ediv_iff_mul_le (by omega)).mpr ?_
      have : (2 ^ 63 - 1) / 1000 * k ≤ (2 ^ 63 - 1) / 1000 * 1000 := Int.mul_le_mul_of_nonneg_left h1 (by decide)
      omega
    omega
  · show decide (a.length * k.toNat > sizeLine) = false
    exact decide_eq_false (by rw [sizeLine_eq]; omega)
  · split
    · exact ⟨Nat.zero_le _, .str Str.empty, H, I.tok _, ⟨_, rfl⟩, q _⟩
    · split
      · exact ⟨.str a, H, I, ⟨t, rfl⟩, q _⟩
      · refine ⟨?_, .str _, H, I.tok _, ⟨_, rfl⟩, q _⟩
        show ((List.replicate k.toNat a.cps).foldl (· ++ ·) #[]).size ≤ sizeLine
        rw [rep_size, sizeLine_eq]
        have e : a.cps.size = a.length := rfl
        rw [e, Nat.mul_comm]
        show 0 + a.length * k.toNat ≤ _
        omega
/-! ### steps -/
def excQ (C : Addr) (Q : VK) : VK := fun _ H1 => ∀ a, H1 a = none → Q (.ref a) (upd H1 a (exo a C none))
def excIQ (C : Addr) (sp : Sp) (Q : VK) : List V → Hp → Prop := fun vs H1 => vs.length ≤ 1000 ∧ ∀ a, H1 a = none → sp (.ref a :: (vs ++ [])) (upd H1 a (exo a C none)) (fun v H2 => v = .non ∧ Q (.ref a) H2) (fun _ _ _ => False)
def exfQ (K : PySem.W.Frag) (f : Str) (Q : VK) : VK := fun x H1 => ∃ (a C : Addr) (fs : List (Str × V)) (v : V), x = .ref a ∧ XV H1 a C fs ∧ ExcC K C ∧ PySem.W.findIn K (.ref C) f = some none ∧ fs.lookup f = some v ∧ Q v H1
def spExcInit (C : Addr) (f : Str) : Sp := fun vs H Q _ => ∃ (a : Addr) (v : V), vs = [.ref a, v] ∧ H a = some (exo a C none) ∧ ∀ dx, H dx = none → dx ≠ a → Q .non (upd (upd H dx (exd dx [(f, v)])) a (exo a C (some dx)))
section
variable {K : PySem.W.Frag} {C a : Addr} {sp : Sp} {Q : VK} {R : Prop} {te : TE} {ta : TA} {σ : L2.St} {H : Hp} {f : Str} {v x : V} {fs : List (Str × V)}
instance r_excV [n : Run (te σ H (excQ C Q)) R] : Run (tExcV C te σ H Q) R := ⟨fun h => n.go h⟩
instance r_excI [n : Run (ta σ H (excIQ C sp Q)) R] : Run (tExcI C sp ta σ H Q) R := ⟨fun h => n.go h⟩
instance r_excF [n : Run (te σ H (exfQ K f Q)) R] : Run (tExcF K f te σ H Q) R := ⟨fun h => n.go h⟩
theorem x_excV (q : ∀ a H', Ex H H' → XV H' a C [] → Q (.ref a) H') : excQ C Q x H := fun a ha => q a _ (Ex.new ha) (.inl ⟨rfl, upd_same⟩)
theorem x_excI (q : ∀ a H', Ex H H' → XV H' a C [(f, v)] → Q (.ref a) H') : excIQ C (spExcInit C f) Q [v] H :=
  ⟨Nat.le_of_ble_eq_true rfl, fun a ha => ⟨a, v, rfl, upd_same, fun dx hd hne => ⟨rfl, q a _ (fun b o e => by
    have nb : b ≠ a := fun z => by rw [z, ha] at e; cases e
    rw [upd_ne nb]
    have nd : b ≠ dx := fun z => by rw [← z, upd_ne nb, e] at hd; cases hd
    rw [upd_ne nd, upd_ne nb]
    exact e) (.inr ⟨dx, upd_same, by rw [upd_ne hne]; exact upd_same⟩)⟩⟩⟩
theorem x_exF (xv : XV H a C fs) (F : ExcC K C) (no : PySem.W.findIn K (.ref C) f = some none) (l : fs.lookup f = some v) (q : Q v H) : exfQ K f Q (.ref a) H := ⟨a, C, fs, v, rfl, xv, F, no, l, q⟩
theorem x_lstE {xs : List V} (hz : xs.length ≤ sizeLine) (q : ∀ p H', Ex H H' → H' p = some (.lst xs) → Q (.ref p) H') : lstQ Q xs H := ⟨hz, fun p hp => q p _ (Ex.new hp) upd_same⟩
theorem x_catE {p q : Addr} {xs ys : List V} (h : H p = some (.lst xs)) (h2 : H q = some (.lst ys)) (hz : xs.length + ys.length ≤ sizeLine) (k : ∀ l H', Ex H H' → H' l = some (.lst (xs ++ ys)) → Q (.ref l) H') : rCat (.ref p) (.ref q) H Q :=
  x_cat h h2 hz fun l hl => k l _ (Ex.new hl) upd_same
end
/-- exceptions one by one, of the classes named -/
inductive XVs (K : PySem.W.Frag) (H : Hp) : List Addr → List Str → Prop
  | nil : XVs K H [] []
  | cons {a : Addr} {x : Str} {as : List Addr} {xs : List Str} (fs : List (Str × V)) : XV H a (He.ga K x) fs → XVs K H as xs → XVs K H (a :: as) (x :: xs)
theorem XVs.ex {K : PySem.W.Frag} {H H' : Hp} (e : Ex H H') {as : List Addr} {xs : List Str} (h : XVs K H as xs) : XVs K H' as xs := by
  induction h with
  | nil => exact .nil
  | cons fs x _ ih => exact .cons fs (x.ex e) ih
theorem XVs.get {K : PySem.W.Frag} {H : Hp} {as : List Addr} {xs : List Str} (h : XVs K H as xs) : ∀ {i : Nat} {x : Str}, xs[i]? = some x → ∃ a fs, as[i]? = some a ∧ XV H a (He.ga K x) fs := by
  induction h with
  | nil => intro i x e; cases i <;> simp at e
  | cons fs xv _ ih =>
    intro i x e
    match i, e with
    | 0, e => cases e; exact ⟨_, fs, rfl, xv⟩
    | i + 1, e => exact ih (i := i) (by simpa using e)
theorem XVs.app {K : PySem.W.Frag} {H : Hp} {as bs : List Addr} {xs ys : List Str} (h : XVs K H as xs) (h2 : XVs K H bs ys) : XVs K H (as ++ bs) (xs ++ ys) := by
  induction h with
  | nil => exact h2
  | cons fs x _ ih => exact .cons fs x ih
/-! ### a caught exception handed to a def -/
theorem call_isP {X : Cx} {p : Addr × Obj} {cls : Value} {d : Option Addr} (hp : p ∈ X.pn) (hz : Zc cls d p.2) (hf : ∃ vs, p.2.data = .fields vs) : CallR X (.builtin "isinstance") (rIsX X.K cls d p.1) := by
  intro pins s σ H xs us Q I r h
  obtain ⟨D, c, cv, b, rfl, rfl, C, rfl, hcv, e, q⟩ := h
  cases r with
  | cons rx rr =>
    cases rr with
    | cons rt rr =>
      cases rr
      cases rx
      have ec := hcv _ rt
      subst ec
      obtain ⟨hget, _⟩ := I.pin p (List.mem_append_left _ hp)
      obtain ⟨vs, hv⟩ := hf
      obtain ⟨a, oe⟩ := p
      have J : PySem.W.InstAt s.heap a oe D none := by
        obtain ⟨oc, od, oda, osl⟩ := oe
        obtain ⟨h1, h2⟩ := hz
        dsimp only at h1 h2 hv
        subst h1 h2 hv
        exact ⟨hget, rfl, rfl, trivial⟩
      exact PySem.W.kia_one (PySem.W.handS_kitx_exc C.hg C.hk C.hs C.hd C.ha C.hn C.ht C.hm) I.kIn J e (fun z => nomatch z) fun tk => ⟨.bl b, H, I.kept (t' := tk) fun _ _ z => z, rfl, q⟩
/-- what is asked of a def that is handed the exception at hand: its class, its dict, its place -/
abbrev SpE := Value → Option Addr → Addr → Sp
structure FnE (P : Program) (w : World) (K : PySem.W.Frag) (mg : Str → Option Value) (base : Heap) (k : Nat) (f : Addr) (fd : FuncData) (ps : List Str) (sp : SpE) : Prop where
  len : ∀ c d a vs H Q E, sp c d a vs H Q E → vs.length = ps.length
  run : ∀ (A : Around) (outer : List Env) (s : Shared) (H : Hp) (args : Args) (us : List Value) (vs : List V) (Q : VK) (E : XK) (p : Addr × Obj) (c : Value) (d : Option Addr), L2H.RoomH k A → Zc c d p.2 → (∃ vs, p.2.data = .fields vs) → L2H.PinOk outer H s p → Env0 P w K mg base A outer s H → BindsTo s fd args (ps.zip us) → Vals vs us → sp c d p.1 vs H Q E →
    codeAny (model P w) A (.call (.ref f) args) (CR CX0 outer P w H s Q E) s
theorem fn_ofE {P : Program} {w : World} {K : PySem.W.Frag} {mg : Str → Option Value} {base : Heap} {k : Nat} {f : Addr} {name qual : Str} {params : Arguments} {body : List Stmt} {scope : Scope} {dV kV doc pm cdv ct oc : Value} {an od : Option Addr}
    {osl : Array (Option Value)} {N ps : List Str} {sp : SpE} (lk : K.lookup f = some ⟨oc, od, .func (PySem.W.fnOf name qual params body scope dV kV doc pm an cdv ct), osl⟩) (hcd : PySem.W.codeIn K cdv qual = true) (S : FnScope N ps scope)
    (len : ∀ c d a vs H Q E, sp c d a vs H Q E → vs.length = ps.length)
    (hbody : ∀ (A : Around) (outer : List Env) (s : Shared) (H : Hp) (vs : List V) (Q : VK) (E : XK) (p : Addr × Obj) (c : Value) (d : Option Addr), Zc c d p.2 → (∃ vs, p.2.data = .fields vs) → L2H.RoomH k (A.deeper (envOfC qual scope s.heap.objs.size f cdv)) → sp c d p.1 vs H Q E →
      ∃ t, PSs (L2H.cxH CX0 P w K mg base N qual scope f cdv A outer s H E p) body t ∧ t { nx := fun _ H' => Q .non H', rt := Q } (L2.start N vs) H) :
    FnE P w K mg base (k + 1) f (PySem.W.fnOf name qual params body scope dV kV doc pm an cdv ct) ps sp := by
  refine ⟨len, fun A outer s H args us vs Q E p c d hr hz hf hpin e0 hb r hsp => ?_⟩
  have hl := len _ _ _ _ _ _ _ hsp
  have KX : K.In s.heap := e0.mod.kin.keeps fun b o e => (e0.bs b o e).1
  have lim : s.heap.NoLimit := e0.mod.nolimit.keeps fun b o e => (e0.bs b o e).1
  have hkind : ∀ y ∈ ps.zip us, scope.names.lookup y.1 = some .local ∨ (scope.names.lookup y.1 = some .cell ∧ ((cellsFrom (s.heap.objs.size + 1) scope.names []).lookup y.1).isSome = true) := fun ⟨n, v⟩ hy => by
    rcases S.par n (List.of_mem_zip hy).1 with q | q
    · exact .inl q
    · exact .inr ⟨q, PySem.W.cellsFrom_some _ _ _ (.inl q)⟩
  refine codeAny_call_function hr.depth (KX _ _ lk) rfl S.co S.gen rfl (PySem.W.codeRec_of KX hcd) (hb _ _ _ _ ?_)
  refine wpAny_newFunctionEnv_cells S.kind hkind fun env he s1 x => ?_
  subst he
  refine ⟨lim.keeps x.toInCall.keep, codeAny_func ?_⟩
  obtain ⟨t, ht, hq⟩ := hbody A outer s H vs Q E p c d hz hf (hr.deeper _) hsp
  have I : Inv (L2H.cxH CX0 P w K mg base N qual scope f cdv A outer s H E p) [] (L2.start N vs) H s1 := L2H.inv_startH S hpin e0 hl r x
  refine wpAny_mono (ht.run [] s1 (L2.start N vs) H _ I hq) (fun fl s' hs => ?_) fun e s' hs => hs
  have fin : ∀ {σ' : L2.St} {H' : Hp} {v : V} {u : Value}, Inv (L2H.cxH CX0 P w K mg base N qual scope f cdv A outer s H E p) [] σ' H' s' → RelV v u → Q v H' → CE outer P w H s Q u s' :=
    fun {σ' H' v u} J rv q => ⟨v, H', J.os, J.bare, J.base, J.hok, rv, q⟩
  cases fl with
  | ret u =>
    obtain ⟨v, σ', H', J, rv, q⟩ := hs
    exact fin J rv q
  | next =>
    obtain ⟨σ', H', J, q⟩ := hs
    exact fin (v := V.non) (u := Value.none) J rfl q
  | brk =>
    obtain ⟨_, _, _, q⟩ := hs
    exact False.elim q
  | cont =>
    obtain ⟨_, _, _, q⟩ := hs
    exact False.elim q
structure DnE (P : Program) (w : World) (K : PySem.W.Frag) (mg : Str → Option Value) (base : Heap) (k : Nat) (x : Str) (ps : List Str) (sp : SpE) : Prop where
  ex : ∃ f fd, FnE P w K mg base k f fd ps sp ∧ mg x = some (.ref f) ∧ PySem.W.keepIn K (.ref f) = true ∧ Binds K fd ps []
theorem Df.dnE {P : Program} {w : World} {K : PySem.W.Frag} {mg : Str → Option Value} {base : Heap} {x : Str} {st : Stmt} {N ps : List Str} {k : Nat} {sp : SpE} (F : Df K mg x st) (S : FnScope N ps (defScope st))
    (hb : ∀ (kV doc pm : Value) (an : Option Addr) (cdv ct : Value) (us : List Value), us.length = ps.length → bindArgs (PySem.W.fnOf x x (defArgs st) (defBody st) (defScope st) .none kV doc pm an cdv ct) ⟨us, []⟩ = pure (ps.zip us))
    (len : ∀ c d a vs H Q E, sp c d a vs H Q E → vs.length = ps.length)
    (hbody : ∀ (f : Addr) (cdv : Value) (A : Around) (outer : List Env) (s : Shared) (H : Hp) (vs : List V) (Q : VK) (E : XK) (p : Addr × Obj) (c : Value) (d : Option Addr), Zc c d p.2 → (∃ vs, p.2.data = .fields vs) → L2H.RoomH k (A.deeper (envOfC x (defScope st) s.heap.objs.size f cdv)) → (L2H.cxH CX0 P w K mg base N x (defScope st) f cdv A outer s H E p).K = K → sp c d p.1 vs H Q E →
      ∃ t, PSs (L2H.cxH CX0 P w K mg base N x (defScope st) f cdv A outer s H E p) (defBody st) t ∧ t { nx := fun _ H' => Q .non H', rt := Q } (start N vs) H) : DnE P w K mg base (k + 1) x ps sp := by
  obtain ⟨f, fd, F, hm⟩ := F.ex
  have hbb := F.binds hb
  have hkp := F.kp
  obtain ⟨oc, od, kV, doc, pm, an, cdv, ct, osl, rfl, lk, hcd⟩ := F.ex
  exact ⟨f, _, fn_ofE lk hcd S len (fun A outer s H vs Q E p c d hz hf hr h => hbody f cdv A outer s H vs Q E p c d hz hf hr rfl h), hm, hkp, hbb⟩
def tCallE (sp : SpE) (c : Value) (d : Option Addr) (a : Addr) (t : TA) : TE := fun σ H Q => t σ H fun vs H1 => sp c d a vs H1 Q (fun _ _ _ => False)
theorem pe_dnE {X : Cx} {k : Nat} {x : Str} {ps : List Str} {sp : SpE} {e : Expr} {es : List Expr} {t : TA} {q pos : Pos} {a : Addr} {oe : Obj} {cls : Value} {d : Option Addr} {pn : List (Addr × Obj)} (D : DnE X.prog X.w X.K X.mg X.base k x ps sp) (hr : Room k X.A) (hz : Zc cls d oe) (hf : ∃ vs, oe.data = .fields vs)
    (ha : PA (X.suite a ((a, oe) :: pn)) (e :: es) t) (hg : Gl (X.suite a ((a, oe) :: pn)) x := by rfl) (hdb : (x == ("__debug__" : Str)) = false := by decide) (he : starEach (e :: es) X.env = (false, eval e X.env) :: starEach es X.env := by rfl) (hpl : (backTo pos (starEach es X.env)).any (·.1) = false := by rfl) :
    PE (X.suite a ((a, oe) :: pn)) (.Call (.Name x q) (e :: es) [] pos) (tCallE sp cls d a t) := by
  obtain ⟨f, fd, F, hm, hk, hb⟩ := D.ex
  refine ⟨fun pins s σ H Q I h => ?_⟩
  refine wpAny_Call_Name_kw (ld_glob I hg hm ?_ hdb)
  refine PySem.W.callWith_K (h₀ := X.base) I.ok.mod.kin hk (thn (ha.run pos pins s σ H _ I h) fun us s1 ⟨vs, H1, I1, r, h1⟩ => ⟨I1.kIn, ?_⟩) he hpl
  have hl : us.length = ps.length := by rw [← r.length]; exact F.len _ _ _ _ _ _ _ h1
  have b := hb s1 us I1.kIn (by rw [List.append_nil]; exact hl)
  rw [List.append_nil] at b
  have P1 := I1.pin (a, oe) (List.mem_append_left _ List.mem_cons_self)
  have hpin : L2H.PinOk X.stack H1 s1 (a, oe) := ⟨P1.1, P1.2.1, fun hm => (List.mem_cons.mp (I1.stkSub a hm)).elim P1.2.2.1 P1.2.2.2.1, P1.2.2.2.2⟩
  refine wpAny_call (codeAny_mono (F.run (X.suite a ((a, oe) :: pn)).A X.stack s1 H1 ⟨us, []⟩ us vs Q (fun _ _ _ => False) (a, oe) cls d ⟨hr.dp, hr.un⟩ hz hf hpin I1.env0 b r h1) fun r s' hq => ?_)
  cases r with
  | error e => exact False.elim (by simpa [CR] using hq)
  | ok fl =>
    cases fl with
    | ret u => exact I1.after hq
    | next => exact False.elim hq
    | brk => exact False.elim hq
    | cont => exact False.elim hq
instance r_callE {sp : SpE} {c : Value} {d : Option Addr} {a : Addr} {t : TA} {σ : L2.St} {H : Hp} {Q : VK} {R : Prop} [n : Run (t σ H (callQ (sp c d a) Q (fun _ _ _ => False))) R] : Run (tCallE sp c d a t σ H Q) R := ⟨fun h => by
  have z := n.go h
  unfold callQ at z
  simpa [tCallE] using z⟩
/-! ### list.count of flat values -/
def rCntF (K : PySem.W.Frag) : V → List V → Hp → VK → Prop := fun x xs H Q => ∃ (p : Addr) (ys : List V) (y : V), x = .ref p ∧ xs = [y] ∧ SqL K H p ys ∧ flatV y = true ∧ ys.all flatV = true ∧ Q (.int ((ys.countP fun z => eqV z y : Nat) : Int)) H
theorem cnt_eqU {y : V} : ∀ {ys : List V} {its : List Value}, Vals ys its → ys.all flatV = true → its.countP (eqU y) = ys.countP fun z => eqV z y
  | [], [], _, _ => rfl
  | v :: ys, u :: its, .cons r rr, h => by
    rw [List.all_cons, Bool.and_eq_true] at h
    rw [List.countP_cons, List.countP_cons, cnt_eqU rr h.2, eqU_of r h.1]
theorem mt_countF {X : Cx} : MtR X "list.count" (rCntF X.K) := by
  intro pins s σ H x xs v us Q I rx rxs h
  obtain ⟨p, ys, y, rfl, rfl, hs, fy, fys, q⟩ := h
  cases rx
  cases rxs with
  | cons ry rt =>
    rename_i uy ut
    cases rt
    obtain ⟨its, rv, ⟨⟨cls, dd, data, sl⟩, n, ho, hc, hdn, hd⟩, hlen⟩ := I.list hs
    simp only at hc hd
    subst hc hd
    refine call_meets PySem.F.slot_list_count ⟨_, ho, rfl⟩ PySem.F.entry_list_count (PySem.F.args_list_count_2 _ _)
      (SeqAt.list_countAt p its.toArray n dd sl uy (eqU y)) ⟨ho, fun u' hu' => mem_eqAt ry fy rv fys u' (by simpa using hu'), ?_⟩
    refine ⟨.int ((ys.countP fun z => eqV z y : Nat) : Int), H, I.tok _, ⟨s.toks, ?_⟩, q⟩
    show Value.int ((its.toArray.toList.countP (eqU y) : Nat) : Int) s.toks = _
    rw [cnt_eqU rv fys]
end G

set_option Elab.async false
set_option linter.all false
set_option maxRecDepth 100000
set_option maxHeartbeats 4000000
set_option synthInstance.maxHeartbeats 0
set_option synthInstance.maxSize 100000
/-! Texts as words and back; tables of the top; exceptions with a field that a suite holds. -/
namespace G
open PySem PySem.Spec PyProof.Rows L2 Evl RZ
/-! ### words of a text -/
theorem glue_inj {c : Nat} : ∀ {a b x y : List Nat}, c ∉ a → c ∉ b → (x = [] ∨ ∃ t, x = c :: t) → (y = [] ∨ ∃ t, y = c :: t) → a ++ x = b ++ y → a = b ∧ x = y
  | [], [], _, _, _, _, _, _, e => ⟨rfl, e⟩
  | [], d :: b, x, y, _, hb, hx, _, e => by
    exfalso
    rcases hx with rfl | ⟨t, rfl⟩
    · simp at e
    · injection e with e1 _
      exact hb (by rw [e1]; exact List.mem_cons_self)
  | d :: a, [], x, y, ha, _, _, hy, e => by
    exfalso
    rcases hy with rfl | ⟨t, rfl⟩
    · simp at e
    · injection e with e1 _
      exact ha (by rw [e1]; exact List.mem_cons_self)
  | d :: a, d2 :: b, x, y, ha, hb, hx, hy, e => by
    injection e with e1 e2
    obtain ⟨h1, h2⟩ := glue_inj (fun z => ha (List.mem_cons_of_mem _ z)) (fun z => hb (List.mem_cons_of_mem _ z)) hx hy e2
    exact ⟨by rw [e1, h1], h2⟩
def jl (c : Nat) : List (List Nat) → List Nat
  | [] => []
  | [a] => a
  | a :: b :: r => a ++ c :: jl c (b :: r)
theorem jl_inj {c : Nat} : ∀ {as bs : List (List Nat)}, as ≠ [] → bs ≠ [] → (∀ a ∈ as, c ∉ a) → (∀ b ∈ bs, c ∉ b) → jl c as = jl c bs → as = bs
  | [], _, h, _, _, _, _ => absurd rfl h
  | _ :: _, [], _, h, _, _, _ => absurd rfl h
  | [a], [b], _, _, _, _, e => by rw [show a = b from e]
  | [a], b :: b2 :: r, _, _, ha, _, e => by
    exfalso
    have e : a = b ++ c :: jl c (b2 :: r) := e
    exact ha a List.mem_cons_self (by rw [e]; simp)
  | a :: a2 :: r, [b], _, _, _, hb, e => by
    exfalso
    have e : a ++ c :: jl c (a2 :: r) = b := e
    exact hb b List.mem_cons_self (by rw [← e]; simp)
  | a :: a2 :: r, b :: b2 :: t, _, _, ha, hb, e => by
    have e : a ++ c :: jl c (a2 :: r) = b ++ c :: jl c (b2 :: t) := e
    obtain ⟨h1, h2⟩ := glue_inj (ha a List.mem_cons_self) (hb b List.mem_cons_self) (.inr ⟨_, rfl⟩) (.inr ⟨_, rfl⟩) e
    injection h2 with _ h3
    have ih := jl_inj (as := a2 :: r) (bs := b2 :: t) (fun z => nomatch z) (fun z => nomatch z) (fun z hz => ha z (List.mem_cons_of_mem _ hz)) (fun z hz => hb z (List.mem_cons_of_mem _ hz)) h3
    rw [h1, ih]
theorem join_list (c : Nat) : ∀ ws : List Str, (Str.join (⟨#[c]⟩ : Str) ws).cps.toList = jl c (ws.map fun z => z.cps.toList)
  | [] => rfl
  | [a] => rfl
  | a :: b :: r => by
    show (a ++ (⟨#[c]⟩ : Str) ++ Str.join (⟨#[c]⟩ : Str) (b :: r)).cps.toList = _
    have h := join_list c (b :: r)
    show (a.cps ++ #[c] ++ (Str.join (⟨#[c]⟩ : Str) (b :: r)).cps).toList = _
    rw [Array.toList_append, Array.toList_append, h]
    show a.cps.toList ++ [c] ++ _ = a.cps.toList ++ c :: _
    rw [List.append_assoc]
    rfl
theorem split_ne (x y : Str) : Txt.split x y ≠ [] := by
  unfold Txt.split
  split
  · exact fun z => nomatch z
  · split
    · exact fun z => nomatch z
    · rw [StrLaws.partsBetween_eq]
      obtain ⟨p, r, e⟩ := StrLaws.partsFrom_ne x y.length 0 (Builtin.Str.occurrences x y 0 x.length (x.length + 1))
      rw [e]
      exact fun z => nomatch z
theorem cps_inj {a b : Str} (h : a.cps.toList = b.cps.toList) : a = b := by
  obtain ⟨⟨a⟩⟩ := a
  obtain ⟨⟨b⟩⟩ := b
  have h : a = b := h
  rw [h]
theorem map_cps_inj : ∀ {as bs : List Str}, as.map (fun z => z.cps.toList) = bs.map (fun z => z.cps.toList) → as = bs
  | [], [], _ => rfl
  | [], _ :: _, h => by simp at h
  | _ :: _, [], h => by simp at h
  | a :: as, b :: bs, h => by
    rw [List.map_cons, List.map_cons] at h
    injection h with h1 h2
    rw [cps_inj h1, map_cps_inj h2]
theorem split_join {c : Nat} {ws : List Str} (hn : ws ≠ []) (hf : ∀ z ∈ ws, c ∉ z.cps.toList) : Txt.split (Str.join (⟨#[c]⟩ : Str) ws) (⟨#[c]⟩ : Str) = ws := by
  have e := congrArg (fun z : Str => z.cps.toList) (StrLaws.join_split (Str.join (⟨#[c]⟩ : Str) ws) (⟨#[c]⟩ : Str))
  have e : (Str.join (⟨#[c]⟩ : Str) (Txt.split (Str.join (⟨#[c]⟩ : Str) ws) (⟨#[c]⟩ : Str))).cps.toList = (Str.join (⟨#[c]⟩ : Str) ws).cps.toList := e
  rw [join_list, join_list] at e
  refine map_cps_inj (jl_inj ?_ ?_ ?_ ?_ e)
  · exact fun z => split_ne _ _ (List.map_eq_nil_iff.mp z)
  · exact fun z => hn (List.map_eq_nil_iff.mp z)
  · intro a ha
    obtain ⟨z, hz, rfl⟩ := List.mem_map.mp ha
    exact StrLaws.split_free _ _ z hz
  · intro a ha
    obtain ⟨z, hz, rfl⟩ := List.mem_map.mp ha
    exact hf z hz
/-- words with one blank between -/
def jn (ws : List Str) : Str := Txt.join " " ws
theorem jn_eq (ws : List Str) : jn ws = Str.join (⟨#[32]⟩ : Str) ws := by
  show Builtin.Str.glued _ ws = _
  rw [StrLaws.glued_eq_join]
  rfl
def nob (z : Str) : Prop := (32 : Nat) ∉ z.cps.toList
theorem split_jn {ws : List Str} (hn : ws ≠ []) (hf : ∀ z ∈ ws, nob z) : Txt.split (jn ws) " " = ws := by
  rw [jn_eq]
  exact split_join hn hf
theorem jn_one (a : Str) : jn [a] = a := by rw [jn_eq]; rfl
theorem str_assoc (a b c : Str) : a ++ b ++ c = a ++ (b ++ c) := cps_inj (by
  show (a.cps ++ b.cps ++ c.cps).toList = (a.cps ++ (b.cps ++ c.cps)).toList
  simp)
theorem str_nil (a : Str) : Str.empty ++ a = a := cps_inj (by
  show (#[] ++ a.cps).toList = a.cps.toList
  simp)
theorem jn_cons (a b : Str) (r : List Str) : jn (a :: b :: r) = a ++ (" " ++ jn (b :: r)) := by
  rw [jn_eq, jn_eq, ← str_assoc]
  rfl
theorem jn_len : ∀ ws : List Str, (jn ws).length ≤ (ws.map (·.length)).sum + ws.length
  | [] => Nat.zero_le _
  | [a] => by rw [jn_one]; simp
  | a :: b :: r => by
    have h := jn_len (b :: r)
    rw [jn_cons]
    rw [Str.length_append, Str.length_append, List.map_cons, List.sum_cons, List.length_cons]
    have : (" " : Str).length = 1 := rfl
    omega
/-! ### numbers as texts -/
def nt (i : Int) : Str := (toString i : String)
theorem nt_len {i : Int} (h0 : 0 ≤ i) (h1 : i < 10 ^ 10) : (nt i).length ≤ 10 := PySem.W.KT.len_num h0 h1
theorem nt_cps (m : Nat) : (nt (m : Int)).cps.toList = (Nat.toDigits 10 m).map Char.toNat := PySem.W.KIN.signs_num m
theorem nt_reads {i : Int} (h0 : 0 ≤ i) (h1 : i < 10 ^ 10) : PySem.intText? (nt i) = some i := PySem.W.KIN.num_reads h0 h1
theorem nt_digit {m c : Nat} (h : c ∈ (nt (m : Int)).cps.toList) : 48 ≤ c ∧ c ≤ 57 := by
  rw [nt_cps] at h
  obtain ⟨ch, hch, rfl⟩ := List.mem_map.mp h
  exact PyProof.Rows.digit_range (Nat.isDigit_of_mem_toDigits (by decide) (by decide) hch)
theorem nt_nob (m : Nat) : nob (nt (m : Int)) := fun h => by
  have := nt_digit h
  omega
/-- no nought ahead of others -/
theorem nt_head : ∀ (m : Nat), 10 ≤ m → ∃ c r, (nt (m : Int)).cps.toList = c :: r ∧ c ≠ 48 := by
  intro m
  rw [nt_cps]
  induction m using Nat.strongRecOn with
  | _ m ih =>
    intro h
    have hm : m % 10 < 10 := Nat.mod_lt m (by decide)
    have t : Nat.toDigits 10 (m / 10) ++ Nat.toDigits 10 (m % 10) = Nat.toDigits 10 (10 * (m / 10) + m % 10) := Nat.toDigits_append_toDigits (by decide) (by omega) hm
    rw [Nat.div_add_mod] at t
    rw [← t, List.map_append]
    by_cases c : 10 ≤ m / 10
    · have := ih (m / 10) (by omega) c
      obtain ⟨d, r, e, hd⟩ := this
      exact ⟨d, r ++ _, by rw [e]; rfl, hd⟩
    · rw [Nat.toDigits_of_lt_base (show m / 10 < 10 by omega)]
      refine ⟨(Nat.digitChar (m / 10)).toNat, _, rfl, ?_⟩
      have : ∀ k : Fin 10, 1 ≤ k.val → (Nat.digitChar k.val).toNat ≠ 48 := by decide
      exact this ⟨m / 10, by omega⟩ (by show 1 ≤ m / 10; omega)
theorem nt_small {m : Nat} (h : m < 10) : (nt (m : Int)).cps.toList.length = 1 := by
  rw [nt_cps, Nat.toDigits_of_lt_base h]
  rfl
theorem nt_ne (m : Nat) : (nt (m : Int)).cps.toList ≠ [] := by
  by_cases h : m < 10
  · intro e
    have := nt_small h
    rw [e] at this
    cases this
  · obtain ⟨c, r, e, _⟩ := nt_head m (by omega)
    rw [e]
    exact fun z => nomatch z
/-! ### split -/
def rSplit : V → List V → Hp → VK → Prop := fun x xs H Q => ∃ a b, x = .str a ∧ xs = [.str b] ∧ (b.length == 0) = false ∧ a.length + 2 ≤ sizeLine ∧ rNewStrs (Txt.split a b) H Q
theorem pe_splitN {X : Cx} {o e : Expr} {to te : TE} {apos pos : Pos} (ho : PE X o to) (he : PE X e te) (hs : starEach [e] X.env = [(false, eval e X.env)] := by rfl) (hbase : attributeBase o "split" X.env (eval o X.env) = eval o X.env := by rfl) (hline : (apos.endLine == pos.line) = true := by rfl) :
    PE X (.Call (.Attribute o "split" apos) [e] [] pos) (tM1 rSplit to te) := pe_split ho he hs hbase hline
section
variable {K : PySem.W.Frag} {H : Hp} {σ : L2.St} {Q : VK} {Rs T : List Res} {F : Res → List Res} {p : Addr} {xs : List V} {R : Prop}
theorem x_splitS {z : Str} [S : Sat H Rs] (hz : z.length + 2 ≤ sizeLine) (q : ∀ p H', PK H H' → Sat H' (cell p (.lst ((Txt.split z " ").map V.str)) :: Rs) → Q (.ref p) H') : rSplit (.str z) [.str " "] H Q :=
  ⟨z, " ", rfl, rfl, rfl, hz, fun p hp => q p _ (PK.of_ex (Ex.new hp)) (S.new hp)⟩
/-! ### f-strings -/
def fjQ (ts : List TE) (acc : Str) (σ : L2.St) (Q : VK) : VK := fun x H1 => ∃ y : Str, x = .str y ∧ (acc ++ y).length ≤ sizeLine ∧ tJs ts (acc ++ y) σ H1 fun out H1 => Q (.str out) H1
def tFs (ts : List TE) : TE := fun σ H Q => tJs ts Str.empty σ H fun out H1 => Q (.str out) H1
theorem pe_fstr {X : Cx} {v1 v2 : Expr} {rest : List Expr} {ts : List TE} {pos : Pos} (h : PJ X (v1 :: v2 :: rest) ts) : PE X (.JoinedStr (v1 :: v2 :: rest) pos) (tFs ts) := pe_joined h
def fmtQ (Q : VK) : VK := fun x H1 => (∃ y : Str, x = .str y ∧ y.length ≤ sizeLine ∧ Q (.str y) H1) ∨ ∃ i : Int, x = .int i ∧ i.natAbs.log2 < 1920 ∧ Q (.str (toString i)) H1
def fsQ (ts : List TE) (acc : Str) (σ : L2.St) (Q : VK) (H : Hp) : Prop := tJs ts acc σ H fun out H1 => Q (.str out) H1
instance r_fs {ts : List TE} [n : Run (fsQ ts Str.empty σ Q H) R] : Run (tFs ts σ H Q) R := ⟨fun h => n.go h⟩
instance r_fsN {acc : Str} [n : Run (Q (.str acc) H) R] : Run (fsQ [] acc σ Q H) R := ⟨fun h => n.go h⟩
instance r_fsC {acc : Str} {t : TE} {ts : List TE} [n : Run (t σ H (fjQ ts acc σ Q)) R] : Run (fsQ (t :: ts) acc σ Q H) R := ⟨fun h => n.go h⟩
instance r_fmt {te : TE} [n : Run (te σ H (fmtQ Q)) R] : Run (tFmt te σ H Q) R := ⟨fun h => n.go h⟩
theorem x_fj {ts : List TE} {acc y : Str} (hz : (acc ++ y).length ≤ sizeLine) (q : fsQ ts (acc ++ y) σ Q H) : fjQ ts acc σ Q (.str y) H := ⟨y, rfl, hz, q⟩
theorem x_fmtS {y : Str} (hz : y.length ≤ sizeLine) (q : Q (.str y) H) : fmtQ Q (.str y) H := .inl ⟨y, rfl, hz, q⟩
theorem x_fmtI {i : Int} (hz : i.natAbs < 10 ^ 30) (q : Q (.str (nt i)) H) : fmtQ Q (.int i) H := .inr ⟨i, rfl, by
  have : i.natAbs.log2 < 100 := by
    by_cases c : i.natAbs = 0
    · rw [c]; decide
    · exact (Nat.log2_lt c).mpr (Nat.lt_trans hz (by decide))
  omega, q⟩
/-! ### str(x) -/
def rStrOf : List V → Hp → VK → Prop := fun xs H Q => (∃ a, xs = [.str a] ∧ Q (.str a) H) ∨ ∃ i, xs = [.int i] ∧ i.natAbs.log2 < 1920 ∧ Q (.str (toString i)) H
theorem g_str {X : Cx} : CallR X (.type "str") rStrOf := by
  intro pins s σ H xs us Q I r h
  rcases h with h | h
  · exact SkE.call_str_str pins s σ H xs us Q I r h
  · exact call_str_int pins s σ H xs us Q I r h
theorem x_strS {a : Str} (q : Q (.str a) H) : rStrOf [.str a] H Q := .inl ⟨a, rfl, q⟩
theorem x_strI {i : Int} (hz : i.natAbs < 10 ^ 30) (q : Q (.str (nt i)) H) : rStrOf [.int i] H Q := .inr ⟨i, rfl, by
  have : i.natAbs.log2 < 100 := by
    by_cases c : i.natAbs = 0
    · rw [c]; decide
    · exact (Nat.log2_lt c).mpr (Nat.lt_trans hz (by decide))
  omega, q⟩
instance r_strS {a : Str} [n : Run (Q (.str a) H) R] : Run (rStrOf [.str a] H Q) R := ⟨fun h => x_strS (n.go h)⟩
/-! ### int(text) -/
def rIntT : List V → Hp → VK → Prop := fun xs H Q => ∃ a n, xs = [.str a] ∧ PySem.intText? a = some n ∧ a.length ≤ 640 ∧ Q (.int n) H
theorem g_intT {X : Cx} : CallR X (.type "int") rIntT := call_int_str
theorem x_intT {a : Str} {n : Int} (h : PySem.intText? a = some n) (hz : a.length ≤ 640) (q : Q (.int n) H) : rIntT [.str a] H Q := ⟨a, n, rfl, h, hz, q⟩
/-! ### one sign of a text -/
theorem x_ixS {z : Str} {i : Int} {c : Nat} (hz : z.length ≤ sizeLine) (h : atI z.cps.toList i = some c) (q : Q (.str ⟨#[c]⟩) H) : rIxS (.str z) (.int i) H Q := ⟨z, i, c, rfl, rfl, hz, h, q⟩
/-! ### a list or a tuple walked -/
def iAny (K : PySem.W.Frag) (te : TE) : TI := fun σ H R => te σ H fun x H1 => ∃ a, x = .ref a ∧ (((∃ xs, SqL K H1 a xs) ∧ R (Itl K a) H1) ∨ ((∃ xs, SqT K H1 a xs) ∧ R (Itt K a) H1))
theorem pi_any {X : Cx} {tg l : Expr} {tl : TE} (hl : PE X l tl) : PI X tg l (iAny X.K tl) := by
  refine ⟨fun pins s σ H R I h => ?_⟩
  refine thn (hl.run pins s σ H _ I h) fun v s1 ⟨x, H1, I1, r1, q1⟩ => ?_
  obtain ⟨a, e, q1⟩ := q1
  subst e
  cases r1
  rcases q1 with ⟨⟨xs, hq⟩, q⟩ | ⟨⟨xs, hq⟩, q⟩
  · obtain ⟨its, rv, p, hz⟩ := I1.list hq
    refine wpAny_pyIter_list p.isList ?_
    refine ⟨s1.heap.objs.size, [s1.heap.objs.size], _, _, H1, rfl, I1.kept (t' := s1.toks) fun b o e => Heap.get?_push_of_some _ e, turn_list a _, ⟨_, Heap.get?_push_size _ rfl, rfl, rfl⟩, fun b hb => ?_, q⟩
    have e : b = s1.heap.objs.size := by simpa using hb
    subst e
    exact I1.fpOk (Nat.le_refl _) (I1.hok.fresh (Nat.le_refl _))
  · obtain ⟨its, rv, p, hz⟩ := I1.tuple hq
    refine wpAny_pyIter_tuple (show s1.heap.IsTuple a its.toArray from p) ?_
    refine ⟨s1.heap.objs.size, [s1.heap.objs.size], _, _, H1, rfl, I1.kept (t' := s1.toks) fun b o e => Heap.get?_push_of_some _ e, turn_tuple a _, ⟨_, Heap.get?_push_size _ rfl, rfl, rfl⟩, fun b hb => ?_, q⟩
    have e : b = s1.heap.objs.size := by simpa using hb
    subst e
    exact I1.fpOk (Nat.le_refl _) (I1.hok.fresh (Nat.le_refl _))
def iAQ (K : PySem.W.Frag) (R : It → Hp → Prop) : VK := fun x H1 => ∃ a, x = .ref a ∧ (((∃ xs, SqL K H1 a xs) ∧ R (Itl K a) H1) ∨ ((∃ xs, SqT K H1 a xs) ∧ R (Itt K a) H1))
instance r_iA {te : TE} {W : It → Hp → Prop} [n : Run (te σ H (iAQ K W)) R] : Run (iAny K te σ H W) R := ⟨fun h => n.go h⟩
theorem x_iAL {W : It → Hp → Prop} (h : SqL K H p xs) (q : W (Itl K p) H) : iAQ K W (.ref p) H := ⟨p, rfl, .inl ⟨⟨xs, h⟩, q⟩⟩
theorem x_iAT {W : It → Hp → Prop} (h : SqT K H p xs) (q : W (Itt K p) H) : iAQ K W (.ref p) H := ⟨p, rfl, .inr ⟨⟨xs, h⟩, q⟩⟩
end
/-! ### tables of the top -/
def rNotInK (K : PySem.W.Frag) (d : Addr) : R2 := fun x y H Q => ∃ (z : Str) (r : Option Value), x = .str z ∧ y = .ref d ∧ PySem.W.nsIn K d z = some r ∧ Q (.bl (!r.isSome)) H
theorem op_notInK {X : Cx} {d : Addr} {es : Array DictEntry} {n : Nat} (D : KDict X.K X.w d es n) : OpR X (compareOp .NotIn) (rNotInK X.K d) := op_notIn_kd D
/-- the table at d says v of z -/
def KSays (K : PySem.W.Frag) (d : Addr) (z : Str) (v : Option V) : Prop := ∃ r, PySem.W.nsIn K d z = some r ∧ RelO v r
theorem x_notInK {K : PySem.W.Frag} {d : Addr} {z : Str} {v : Option V} {H : Hp} {Q : VK} (h : KSays K d z v) (q : Q (.bl (!v.isSome)) H) : rNotInK K d (.str z) (.ref d) H Q := by
  obtain ⟨r, h1, h2⟩ := h
  refine ⟨z, r, rfl, rfl, h1, ?_⟩
  cases v with
  | none => cases r with
    | none => exact q
    | some u => exact h2.elim
  | some v => cases r with
    | none => exact h2.elim
    | some u => exact q
def rIxK (K : PySem.W.Frag) (w : World) : R2 := rIxD K w
theorem ix_k {X : Cx} : IxR X (rIxK X.K X.w) := ix_kdict
theorem x_ixK {K : PySem.W.Frag} {w : World} {d : Addr} {es : Array DictEntry} {n : Nat} {z : Str} {v : V} {H : Hp} {Q : VK} (D : KDict K w d es n) (h : KSays K d z (some v)) (q : Q v H) : rIxK K w (.ref d) (.str z) H Q := by
  obtain ⟨r, h1, h2⟩ := h
  cases r with
  | none => exact h2.elim
  | some u => exact ⟨d, z, v, rfl, rfl, ⟨es, n, u, D.at_, D.lit, h1, h2⟩, q⟩
/-- D.get(e, f) of a table of the top -/
def tKGet2 (K : PySem.W.Frag) (d : Addr) (ty tx : TE) : TE := fun σ H Q => ty σ H fun y H1 => tx σ H1 fun z H2 => ∃ (k : Str) (v : Option V), y = .str k ∧ KSays K d k v ∧ Q (v.getD z) H2
theorem pe_kget2 {X : Cx} {o e f : Expr} {apos cpos : Pos} {ty tx : TE} {d : Addr} {es : Array DictEntry} {n : Nat} (D : KDict X.K X.w d es n) (ho : PE X o (tC (.ref d))) (he : PE X e ty) (hf : PE X f tx) (m : M2 X o "get" apos e f cpos) : PE X (.Call (.Attribute o "get" apos) [e, f] [] cpos) (tKGet2 X.K d ty tx) := by
  refine ⟨fun pins s σ H Q I h => ?_⟩
  refine wpAny_Call_method m.base m.few m.line PySem.F.plainAttrs_dict PySem.F.slot_dict_get PySem.F.type_dict_get (thn (ho.run pins s σ H (fun x H1 => x = .ref d ∧ H1 = H) I ⟨rfl, rfl⟩) fun u s1 ⟨x, H1, I1, rx, ex, eH⟩ => ?_)
  subst ex eH
  obtain rfl : u = Value.ref d := rx
  have hm := PySem.W.mapOf_K (prog := X.prog) (w := X.w) I1.kIn D.at_ D.lit
  refine ⟨hm.typeIs, fun b q => ?_, ?_⟩
  · cases q
    exact ⟨_, I1.kIn _ _ D.at_, rfl⟩
  rw [m.trees]
  refine Calls.callWith_builtin rfl (Calls.evalArgs_plain (Calls.spliced_cons (thn (he.run pins s1 σ H1 _ I1 h) fun iv s2 ⟨y, H2, I2, ry, q2⟩ =>
    Calls.spliced_cons (thn (hf.run pins s2 σ H2 _ I2 q2) fun fv s3 ⟨z, H3, I3, rz, q3⟩ => Calls.spliced_nil ?_))))
  obtain ⟨k, v, rfl, ⟨r, h1, h2⟩, q⟩ := q3
  obtain ⟨t, rfl⟩ := ry
  have hm3 := PySem.W.mapOf_K (prog := X.prog) (w := X.w) I3.kIn D.at_ D.lit
  refine call_meetsIn PySem.F.slot_dict_get hm3.typeIs PySem.F.entry_dict_get (PySem.F.args_dict_get_3 _ _ _) (meets_dict_get_default (PySem.strKind X.prog X.w) d (PySem.strKind_is X.prog X.w k t) D.low fv) ⟨_, hm3, ?_⟩
  rw [PySem.W.find_K D.at_ h1]
  exact ⟨v.getD z, H3, I3.tok _, h2.getD rz, q⟩
def kgQ1 (K : PySem.W.Frag) (d : Addr) (tx : TE) (σ : L2.St) (Q : VK) : VK := fun y H1 => tx σ H1 fun z H2 => ∃ (k : Str) (v : Option V), y = .str k ∧ KSays K d k v ∧ Q (v.getD z) H2
def kgQ2 (K : PySem.W.Frag) (d : Addr) (y : V) (Q : VK) : VK := fun z H2 => ∃ (k : Str) (v : Option V), y = .str k ∧ KSays K d k v ∧ Q (v.getD z) H2
section
variable {K : PySem.W.Frag} {H : Hp} {σ : L2.St} {Q : VK} {R : Prop} {d : Addr} {ty tx : TE} {y z : V}
instance r_kg [n : Run (ty σ H (kgQ1 K d tx σ Q)) R] : Run (tKGet2 K d ty tx σ H Q) R := ⟨fun h => n.go h⟩
instance r_kg1 [n : Run (tx σ H (kgQ2 K d y Q)) R] : Run (kgQ1 K d tx σ Q y H) R := ⟨fun h => n.go h⟩
theorem x_kg {k : Str} {v : Option V} (h : KSays K d k v) (q : Q (v.getD z) H) : kgQ2 K d (.str k) Q z H := ⟨k, v, rfl, h, q⟩
end
/-! ### tuples compared: whole numbers, or one text each -/
def rLe1 (K : PySem.W.Frag) : R2 := fun x y H Q => ∃ (a b : Addr) (z u : Str), x = .ref a ∧ y = .ref b ∧ SqT K H a [.str z] ∧ SqT K H b [.str u] ∧ Q (.bl (if z = u then true else !decide (u.cps.toList < z.cps.toList))) H
theorem op_le1 {X : Cx} (hu : X.A.units < cLine) : OpR X (compareOp .LtE) (rLe1 X.K) := by
  intro pins s σ H x y v u Q I rx ry h
  obtain ⟨a, b, z, z2, rfl, rfl, ha, hb, q⟩ := h
  cases rx
  cases ry
  obtain ⟨its, r1, p1, _⟩ := I.tuple ha
  obtain ⟨its2, r2, p2, _⟩ := I.tuple hb
  cases r1 with
  | cons q1 q2 =>
    cases q2
    cases r2 with
    | cons q3 q4 =>
      cases q4
      obtain ⟨t1, rfl⟩ := q1
      obtain ⟨t2, rfl⟩ := q3
      have R := Ob.RcOp.tuples_le (A := X.A) (s := s) (e := fun _ => decide (z = z2)) (r := fun _ => !decide (z2.cps.toList < z.cps.toList)) p1 p2 hu (fun j h1 h2 => by
        have j0 : j = 0 := by simpa using h1
        subst j0
        have h := SeqAt.EqAt.str_str (A := X.A.in1) (s := s) z t1 z2 t2
        rw [show (z == z2) = decide (z = z2) by
          by_cases q : z = z2
          · rw [decide_eq_true q]; exact beq_iff_eq.mpr q
          · rw [decide_eq_false q]; exact beq_eq_false_iff_ne.mpr q] at h
        exact h) (fun j h1 h2 _ => by
        have j0 : j = 0 := by simpa using h1
        subst j0
        intro prog w E Q hq
        exact PySem.P.le_str hq)
      refine R X.prog X.w _ _ ?_
      refine ⟨.bl _, H, I, rfl, ?_⟩
      have e : Ob.lexAt (fun _ => decide (z = z2)) (fun _ => !decide (z2.cps.toList < z.cps.toList)) true 0 1 = (if z = z2 then true else !decide (z2.cps.toList < z.cps.toList)) := by
        rw [Ob.lexAt_succ, Ob.lexAt_zero]
        by_cases c : z = z2
        · rw [decide_eq_true c, if_pos rfl, if_pos c]
        · rw [decide_eq_false c, if_neg Bool.false_ne_true, if_neg c]
      rw [← e] at q
      exact q
def rLeP (K : PySem.W.Frag) : R2 := fun x y H Q => rLeT K x y H Q ∨ rLe1 K x y H Q
theorem op_leP {X : Cx} (hu0 : X.A.units + 64 < cLine) : OpR X (compareOp .LtE) (rLeP X.K) := by
  intro pins s σ H x y v u Q I rx ry h
  have hu : X.A.units < cLine := by omega
  rcases h with h | h
  · exact op_leT hu pins s σ H x y v u Q I rx ry h
  · exact op_le1 hu pins s σ H x y v u Q I rx ry h
section
variable {K : PySem.W.Frag} {H : Hp} {Q : VK} {a b : Addr}
theorem x_le1 {z u : Str} (h1 : SqT K H a [.str z]) (h2 : SqT K H b [.str u]) (q : Q (.bl (if z = u then true else !decide (u.cps.toList < z.cps.toList))) H) : rLeP K (.ref a) (.ref b) H Q := .inr ⟨a, b, z, u, rfl, rfl, h1, h2, q⟩
theorem x_le2 {d n d2 n2 : Int} (h1 : SqT K H a [.int d, .int n]) (h2 : SqT K H b [.int d2, .int n2]) (q : Q (.bl (decide (d < d2 ∨ (d = d2 ∧ n ≤ n2)))) H) : rLeP K (.ref a) (.ref b) H Q := by
  refine .inl ⟨a, b, [d, n], [d2, n2], rfl, rfl, h1, h2, ?_⟩
  have e : Ob.lexAt (fun j => decide (([d, n] : List Int).getD j 0 = ([d2, n2] : List Int).getD j 0)) (fun j => decide (([d, n] : List Int).getD j 0 ≤ ([d2, n2] : List Int).getD j 0)) (decide (([d, n] : List Int).length ≤ ([d2, n2] : List Int).length)) 0 (min ([d, n] : List Int).length ([d2, n2] : List Int).length) = decide (d < d2 ∨ (d = d2 ∧ n ≤ n2)) := by
    show Ob.lexAt _ _ true 0 2 = _
    rw [Ob.lexAt_succ, Ob.lexAt_succ, Ob.lexAt_zero]
    show (if decide (d = d2) = true then (if decide (n = n2) = true then true else decide (n ≤ n2)) else decide (d ≤ d2)) = _
    by_cases c : d = d2
    · rw [decide_eq_true c, if_pos rfl]
      by_cases c2 : n = n2
      · rw [decide_eq_true c2, if_pos rfl]
        exact (decide_eq_true (.inr ⟨c, by omega⟩)).symm
      · rw [decide_eq_false c2, if_neg Bool.false_ne_true]
        by_cases c3 : n ≤ n2
        · rw [decide_eq_true c3]; exact (decide_eq_true (.inr ⟨c, c3⟩)).symm
        · rw [decide_eq_false c3]; exact (decide_eq_false (by omega)).symm
    · rw [decide_eq_false c, if_neg Bool.false_ne_true]
      by_cases c3 : d ≤ d2
      · rw [decide_eq_true c3]; exact (decide_eq_true (.inl (by omega))).symm
      · rw [decide_eq_false c3]; exact (decide_eq_false (by omega)).symm
  rw [e]
  exact q
end
/-! ### the exception at hand, with its dict -/
def rIsXd (K : PySem.W.Frag) (cls : Value) (d : Option Addr) (a : Addr) : List V → Hp → VK → Prop := fun xs H Q => ∃ (D dd : Addr) (fs : List (Str × V)) (c : V) (cv : Value) (b : Bool), cls = .ref D ∧ d = some dd ∧ H dd = some (.xd fs) ∧ ExcC K D ∧ xs = [.ref a, c] ∧ (∀ u, RelV c u → u = cv) ∧ PySem.W.kitOne K (.ref D) cv = some b ∧ Q (.bl b) H
theorem inst_xd {X : Cx} {pins : List (Addr × Obj)} {σ : L2.St} {H : Hp} {s : Shared} {a D dd : Addr} {oe : Obj} {fs : List (Str × V)} (I : Inv X pins σ H s) (hget : s.heap.get? a = some oe) (hz : Zc (.ref D) (some dd) oe) (hf : ∃ vs, oe.data = .fields vs) (hx : H dd = some (.xd fs)) : ∃ od, PySem.W.InstAt s.heap a oe D (some od) := by
  obtain ⟨oc, od, oda, osl⟩ := oe
  obtain ⟨h1, h2⟩ := hz
  obtain ⟨vs, hv⟩ := hf
  dsimp only at h1 h2 hv
  subst h1 h2 hv
  obtain ⟨o, ho⟩ : ∃ o, s.heap.get? dd = some o := by
    obtain ⟨mA, hn, _⟩ := (show ObjOk X.prog X.w H s.heap dd (.xd fs) from I.hok dd _ hx)
    obtain ⟨o, ho, _⟩ := lookIn_ns hn
    exact ⟨o, ho⟩
  exact ⟨o, hget, rfl, rfl, ho⟩
theorem call_isXd {X : Cx} {a : Addr} {cls : Value} {d : Option Addr} {oe : Obj} {pn : List (Addr × Obj)} (hz : Zc cls d oe) (hf : ∃ vs, oe.data = .fields vs) : CallR (X.suite a ((a, oe) :: pn)) (.builtin "isinstance") (rIsXd X.K cls d a) := by
  intro pins s σ H xs us Q I r h
  obtain ⟨D, dd, fs, c, cv, b, rfl, rfl, hx, F, rfl, hcv, e, q⟩ := h
  cases r with
  | cons rx rr =>
    cases rr with
    | cons rt rr =>
      cases rr
      cases rx
      have ec := hcv _ rt
      subst ec
      obtain ⟨hget, _⟩ := I.pin (a, oe) (List.mem_append.mpr (.inl List.mem_cons_self))
      obtain ⟨od, J⟩ := inst_xd I hget hz hf hx
      exact PySem.W.kia_one (PySem.W.kitx_exc F.hc F.hg F.hk F.hs F.ha F.hn F.ht F.hm) I.kIn J e (fun z => nomatch z) fun tk => ⟨.bl b, H, I.kept (t' := tk) fun _ _ z => z, rfl, q⟩
def rIsXdT (K : PySem.W.Frag) (cls : Value) (d : Option Addr) (a : Addr) : List V → Hp → VK → Prop := fun xs H Q => ∃ (D dd tp : Addr) (fs : List (Str × V)) (cs : List Addr) (b : Bool), cls = .ref D ∧ d = some dd ∧ H dd = some (.xd fs) ∧ ExcC K D ∧ xs = [.ref a, .ref tp] ∧ H tp = some (.tup (cs.map V.ref)) ∧ PySem.W.kitAny K (.ref D) (cs.map Value.ref) = some b ∧ Q (.bl b) H
theorem vals_refs : ∀ {cs : List Addr} {us : List Value}, Vals (cs.map V.ref) us → us = cs.map Value.ref
  | [], _, h => by cases h; rfl
  | c :: cs, _, h => by
    cases h with
    | cons r t => rw [vals_refs t]; cases r; rfl
theorem call_isXdT {X : Cx} {a : Addr} {cls : Value} {d : Option Addr} {oe : Obj} {pn : List (Addr × Obj)} (hz : Zc cls d oe) (hf : ∃ vs, oe.data = .fields vs) : CallR (X.suite a ((a, oe) :: pn)) (.builtin "isinstance") (rIsXdT X.K cls d a) := by
  intro pins s σ H xs us Q I r h
  obtain ⟨D, dd, tp, fs, cs, b, rfl, rfl, hx, F, rfl, ht, e, q⟩ := h
  cases r with
  | cons rx rr =>
    cases rr with
    | cons rt rr =>
      cases rr
      cases rx
      cases rt
      obtain ⟨hget, _⟩ := I.pin (a, oe) (List.mem_append.mpr (.inl List.mem_cons_self))
      obtain ⟨od, J⟩ := inst_xd I hget hz hf hx
      obtain ⟨_, its, rv, o, h1, h2, n, h3⟩ := (show ObjOk X.prog X.w H s.heap tp (.tup (cs.map V.ref)) from I.hok tp _ ht)
      have e3 := vals_refs rv
      subst e3
      obtain ⟨oc, od2, dt, sl⟩ := o
      simp only at h2 h3
      subst h2 h3
      exact PySem.W.kia_tup (PySem.W.kitx_exc F.hc F.hg F.hk F.hs F.ha F.hn F.ht F.hm) I.kIn J h1 e (fun z => nomatch z) fun tk => ⟨.bl b, H, I.kept (t' := tk) fun _ _ z => z, rfl, q⟩
theorem x_isXd {K : PySem.W.Frag} {D dd a C : Addr} {fs : List (Str × V)} {b : Bool} {H : Hp} {Q : VK} (hx : H dd = some (.xd fs)) (C0 : ExcC K D) (k : PySem.W.kitOne K (.ref D) (.ref C) = some b) (q : Q (.bl b) H) : rIsXd K (.ref D) (some dd) a [.ref a, .ref C] H Q :=
  ⟨D, dd, fs, .ref C, .ref C, b, rfl, rfl, hx, C0, rfl, fun u h => h, k, q⟩
theorem x_isXdt {K : PySem.W.Frag} {D dd a : Addr} {T : String} {fs : List (Str × V)} {b : Bool} {H : Hp} {Q : VK} (hx : H dd = some (.xd fs)) (C0 : ExcC K D) (k : PySem.W.kitOne K (.ref D) (.type T) = some b) (q : Q (.bl b) H) : rIsXd K (.ref D) (some dd) a [.ref a, .ty T] H Q :=
  ⟨D, dd, fs, .ty T, .type T, b, rfl, rfl, hx, C0, rfl, fun u h => h, k, q⟩
/-! ### raise X(e, ..): a class with an own __init__ -/
theorem pmk_oexD {X : Cx} {x : Str} {C fI : Addr} {k : Nat} {ps : List Str} {sp : Sp} {e : Expr} {es : List Expr} {ta : TA} {p pos : Pos} (T : OexX X.K C fI) (D : DnM X.prog X.w X.K X.mg X.base CX0 k fI ps sp) (hr : Room (k + 1) X.A) (hx : Passes CX0 X (fun _ _ _ => False)) (hm : X.mg x = some (.ref C)) (ha : PA X (e :: es) ta) (hg : Gl X x := by rfl)
    (hdb : (x == ("__debug__" : Str)) = false := by decide) (he : starEach (e :: es) X.env = (false, eval e X.env) :: starEach es X.env := by rfl) (hpl : (backTo pos (starEach es X.env)).any (·.1) = false := by rfl) :
    PMk X (.Call (.Name x p) (e :: es) [] pos) (tMkO C sp [] ta) := by
  obtain ⟨fd, F1, hb⟩ := D.ex
  exact pmk_oex T.toOexC T.ini T.tyI F1 hr hb .nil hx hg hm ha hdb he hpl
def mkOQ (C : Addr) (sp : Sp) (Q : XK) : List V → Hp → Prop := fun vs H1 => vs.length ≤ 1000 ∧ ∀ a, H1 a = none → sp (.ref a :: (vs ++ [])) (upd H1 a (exo a C none)) (fun v H2 => v = .non ∧ ∃ (d : Addr) (fs : List (Str × V)), H2 a = some (exo a C (some d)) ∧ H2 d = some (exd d fs) ∧ H1 d = none ∧ Q (.ref C) (some d) (upd (del H2 a) d (.xd fs))) (fun _ _ _ => False)
/-- what is raised with a field -/
theorem x_mkO {C : Addr} {f : Str} {v : V} {Q : XK} {H : Hp} (q : ∀ d H', Ex H H' → H' d = some (.xd [(f, v)]) → Q (.ref C) (some d) H') : mkOQ C (spExcInit C f) Q [v] H :=
  ⟨Nat.le_of_ble_eq_true rfl, fun a ha => ⟨a, v, rfl, upd_same, fun dx hd hne => by
    have hdH : H dx = none := by
      rw [upd_ne hne] at hd
      exact hd
    refine ⟨rfl, dx, [(f, v)], upd_same, by rw [upd_ne hne]; exact upd_same, hdH, q dx _ (fun b o e => ?_) upd_same⟩
    have nb : b ≠ a := fun z => by rw [z, ha] at e; cases e
    have nd : b ≠ dx := fun z => by rw [z, hdH] at e; cases e
    rw [upd_ne nd, del_ne nb, upd_ne nb, upd_ne nd, upd_ne nb]
    exact e⟩⟩
/-! ### a list taken apart into names -/
theorem x_asgL {K : PySem.W.Frag} {H : Hp} {σ : L2.St} {p : Addr} {xs : List V} {n : Nat} {ts : TGs} {D : Ends} (h : SqL K H p xs) (hn : xs.length = n) (k : ts xs σ H D.nx) : asgQ (gUnl K n ts) D σ (.ref p) H := ⟨p, xs, rfl, h, hn, k⟩
/-! ### the head by facts, tables of the top among them -/
section
variable {fa : List (List He.Fa)} {fn : List (List He.FnD)} {ex : List (PySem.W.Frag → Bool)} {ts : List TabK} {w : World} {K : PySem.W.Frag}
theorem SaysT.k (c : SaysT fa fn ex ts w K) : SaysK fa fn ex K := congrArg (fun z : AlT => z.1) c
theorem SaysT.tab (c : SaysT fa fn ex ts w K) (i : Nat) {t : TabK} (h : ts[i]? = some t := by rfl) : ∃ es n, KDict K w (He.ga K t.1) es n := by
  have e : ts.map (fun t => He.dicW K (He.ga K t.1)) = ts.map fun t => some (He.keysIn w.params t.2) := congrArg (fun z : AlT => z.2) c
  have e2 : (ts.map fun t => He.dicW K (He.ga K t.1))[i]? = (ts.map fun t => some (He.keysIn w.params t.2))[i]? := by rw [e]
  rw [List.getElem?_map, List.getElem?_map, h] at e2
  exact He.dicW_ok (Option.some.inj e2)
end
/-- the values of a table -/
theorem tabB_yes {x : Str} {kvs : List (Str × Int)} {no : List Str} {K : PySem.W.Frag} (h : tabB x kvs no K = true) {z : Str} {i : Int} (hm : (z, i) ∈ kvs) : KSays K (He.ga K x) z (some (.int i)) := by
  have h2 := List.all_eq_true.mp (He.ba h).1 _ hm
  cases e : PySem.W.nsIn K (He.ga K x) z with
  | none => simp [e] at h2
  | some r =>
    cases r with
    | none => simp [e] at h2
    | some u =>
      cases u <;> simp [e] at h2
      subst h2
      exact ⟨_, e, ⟨_, rfl⟩⟩
theorem tabB_no {x : Str} {kvs : List (Str × Int)} {no : List Str} {K : PySem.W.Frag} (h : tabB x kvs no K = true) {z : Str} (hm : z ∈ no) : KSays K (He.ga K x) z none := by
  have h2 := List.all_eq_true.mp (He.ba h).2 _ hm
  cases e : PySem.W.nsIn K (He.ga K x) z with
  | none => simp [e] at h2
  | some r =>
    cases r with
    | none => exact ⟨_, e, trivial⟩
    | some u => simp [e] at h2
end G

set_option Elab.async false
set_option linter.all false
set_option maxRecDepth 100000
set_option synthInstance.maxHeartbeats 0
set_option synthInstance.maxSize 100000
/-! Own layer: dicts whose keys are tuples, as parts. -/
namespace G
open PySem PySem.Spec PyProof.Rows L2 Evl RZ
/-! ### a dict of one tuple key at most is copied -/
theorem nodup_few {α : Type} : ∀ {l : List α}, l.length ≤ 1 → l.Nodup
  | [], _ => List.nodup_nil
  | [_], _ => List.nodup_cons.mpr ⟨List.not_mem_nil, List.nodup_nil⟩
theorem dict_copyT {prog : Program} {w : World} {T : Type} [DecidableEq T] {knd : HeapKind prog w T} {A : Around} {E : Value → Shared → Prop} {s : Shared} {o : Addr} {more : List (T × Addr × Value)} {Q : Value → Shared → Prop} (room : knd.room A.in1.in1) (lo : (o == sysModules) = false) (ho : s.heap.DictOfH knd o more)
    (few : more.length ≤ 1) (ty : ∀ x ∈ more, s.TypeIs (.ref x.2.1) "tuple") (stay : ∀ h' : Heap, (∀ b u, s.heap.get? b = some u → h'.get? b = some u) → ∀ x ∈ more, knd.is h' x.1 x.2.1) (q : ∀ h', h'.DictOfH knd s.heap.objs.size more → (∀ b u, s.heap.get? b = some u → h'.get? b = some u) → Q (.ref s.heap.objs.size) { s with heap := h' }) :
    wpAny (model prog w) A (call (.type "dict") [.ref o]) Q E s := by
  have up : ∀ b u, s.heap.get? b = some u → (s.heap.push { cls := .type "dict", data := .dict #[] }).get? b = some u := fun _ _ e => Heap.get?_push_of_some _ e
  refine callType_codes (Q₁ := fun v t => v = .ref s.heap.objs.size ∧ t = { s with heap := s.heap.push { cls := .type "dict", data := .dict #[] } }) F.kt_called_dict (F.kt_typeCall_dict_1 _) F.entry_dict_init (kt_code_dict_new _ ⟨rfl, rfl⟩) fun v t e => ?_
  obtain ⟨e1, e2⟩ := e
  subst e1 e2
  have empty : (s.heap.push { cls := .type "dict", data := .dict #[] }).DictOfH knd s.heap.objs.size [] := Heap.DictOfH.new s.heap
  obtain ⟨oo, es, ep, h1, h2, h3, h4, h5, nd⟩ := id ho
  have ne : s.heap.objs.size ≠ o := fun z => by
    have := Heap.lt_size h1
    rw [← z] at this
    exact Nat.lt_irrefl _ this
  have src : (s.heap.push { cls := .type "dict", data := .dict #[] }).DictOfH knd o more := ⟨oo, es, ep, up _ _ h1, h2, h3, h4, stay _ up, nd⟩
  refine ⟨empty.typeIs, F.args_dict_init_2 _ _, ?_⟩
  unfold Builtin.«dict.__init__»
  refine wpAny_bind ?_
  unfold Builtin.Dict.selfAndRest
  refine wpAny_bind (wpAny_notOrdered_dict empty.typeIs ?_)
  show wpAny _ _ (pure (s.heap.objs.size, [Value.ref o])) _ _ _
  refine wpAny_pure ?_
  refine updateFrom_dictH (nm := "dict.__init__") .none room ne lo empty src (.inr ⟨fun x hx => ?_, ?_⟩) (by rw [sizeLine_eq]; simp only [List.length_nil]; omega) fun h' d1 _ sb => ?_
  · obtain ⟨ob, e1, e2⟩ := ty x hx
    exact ⟨ob, up _ _ e1, e2⟩
  · exact nodup_few (by rw [List.length_map]; exact few)
  · rw [storedAllH_nil_of_nodup more nd] at d1
    exact ⟨rfl, q h' d1 fun b u e => (sb.2 b (Nat.ne_of_lt (Heap.lt_size e))).trans (up b u e)⟩
section
variable {X : Cx}
def rDictT : List V → Hp → VK → Prop := fun xs H Q => ∃ (a : Addr) (kvs : List (List Key × V)), xs = [.ref a] ∧ Rd H a (.dT kvs) ∧ kvs.length ≤ 1 ∧ ∀ p, H p = none → Q (.ref p) (upd H p (.dT kvs))
theorem g_dictT (hu : X.A.units + 64 < cLine) : CallR X (.type "dict") rDictT := by
  intro pins s σ H xs us Q I r q
  obtain ⟨a, kvs, ex, hd, few, q⟩ := q
  subst ex
  obtain ⟨u, eu, rx⟩ := vals1 r
  subst eu
  cases rx
  obtain ⟨z, lo, ms, rel, dd⟩ := dt_rd I.hok hd
  have hm : (s.heap.objs.size == sysModules) = false := beq_eq_false_iff_ne.mpr (Nat.ne_of_gt I.big)
  have el : kvs.length = ms.length := Paired.length rel
  have keyAt : ∀ {l : List (List Key × V)} {m : List (List Key × Addr × Value)}, KT H l m → ∀ y ∈ m, ∃ k, y.1 = k ∧ H y.2.1 = some (.tup (k.map kV)) := by
    intro l m q
    induction q with
    | nil => exact fun _ hx => nomatch hx
    | @cons a1 a2 _ _ hq _ ih =>
      intro y hy
      rcases List.mem_cons.mp hy with e | hy
      · rw [e]
        exact ⟨a1.1, hq.1.symm, hq.2.1⟩
      · exact ih y hy
  refine dict_copyT (knd := tupleKind (mixKind X.prog X.w)) (tupleKind_room_in1 (A := X.A.in1) (by show X.A.units + 1 + 1 < cLine; omega)) lo dd (by omega) (fun y hy => ?_) (fun h2 up y hy => ?_) fun h2 d2 up => ?_
  · obtain ⟨k, _, e2⟩ := keyAt rel y hy
    obtain ⟨_, _, _, ob, e3, e4, _⟩ := (show ObjOk X.prog X.w H s.heap y.2.1 (.tup (k.map kV)) from I.hok _ _ e2)
    exact ⟨ob, e3, e4⟩
  · obtain ⟨k, e1, e2⟩ := keyAt rel y hy
    rw [e1]
    exact key_of (I.hok.kept up) e2
  · refine ⟨.ref s.heap.objs.size, upd H s.heap.objs.size (.dT kvs), I.laid (t' := s.toks) up (Nat.le_refl _) ?_, rfl, q _ (I.hok.fresh (Nat.le_refl _))⟩
    obtain ⟨ob, es, ep, h1, h3, h4, h5, _, h6⟩ := d2
    have fresh : ∀ b u, H b = some u → b ≠ s.heap.objs.size := fun b u e1 e2 => by
      have e3 := I.hok.fresh (Nat.le_of_eq e2.symm)
      rw [e1] at e3
      cases e3
    have rel2 : KT (upd H s.heap.objs.size (.dT kvs)) kvs ms := Paired.mapP rel fun p q w => ⟨w.1, (upd_ne (fresh _ _ w.2.1)).trans w.2.1, w.2.2⟩
    exact (⟨z, hm, ms, rel2, ob, es, ep, h1, h3, h4, h5, h6⟩ : ObjOk X.prog X.w _ _ _ (.dT kvs))
end
/-! ### data in such dicts -/
abbrev KTs := List (List Key × PyData)
inductive KDT (h : Hp) : List (List Key × V) → KTs → Prop
  | nil : KDT h [] []
  | cons {k : List Key} {v : V} {d : PyData} {r : List (List Key × V)} {t : KTs} : Tp h v d → KDT h r t → KDT h ((k, v) :: r) ((k, d) :: t)
theorem KDT.pk {H H' : Hp} (p : PK H H') {kvs : List (List Key × V)} {kds : KTs} (r : KDT H kvs kds) : KDT H' kvs kds := by
  induction r with
  | nil => exact .nil
  | cons a _ ih => exact .cons (a.pk p) ih
theorem KDT.len {H : Hp} {kvs : List (List Key × V)} {kds : KTs} (r : KDT H kvs kds) : kvs.length = kds.length := by
  induction r with
  | nil => rfl
  | cons _ _ ih => exact congrArg (· + 1) ih
def vlT (kds : KTs) (k : List Key) : Option PyData := (kds.find? fun kv => decide (kv.1 = k)).map (·.2)
def hasT (kds : KTs) (k : List Key) : Bool := kds.any fun kv => decide (kv.1 = k)
def putT (kds : KTs) (k : List Key) (d : PyData) : KTs := if hasT kds k = true then kds.map (fun kv => if kv.1 = k then (kv.1, d) else kv) else kds ++ [(k, d)]
section
variable {H : Hp} {kvs : List (List Key × V)} {kds : KTs} {k : List Key} {v : V} {d : PyData}
theorem KDT.sm (r : KDT H kvs kds) : (∀ d, vlT kds k = some d → ∃ v, valV kvs k = some v ∧ Tp H v d) ∧ (vlT kds k = none → valV kvs k = none) := by
  induction r with
  | nil => exact ⟨(fun _ h => nomatch h), fun _ => rfl⟩
  | @cons j v e r t a q ih =>
    by_cases c : j = k
    · have h2 : vlT ((j, e) :: t) k = some e := by simp [vlT, List.find?_cons, c]
      rw [h2, valV_pos (p := (j, v)) c]
      refine ⟨fun d h => ?_, fun h => nomatch h⟩
      cases h
      exact ⟨v, rfl, a⟩
    · have h2 : vlT ((j, e) :: t) k = vlT t k := by simp [vlT, List.find?_cons, c]
      rw [h2, valV_neg (p := (j, v)) c]
      exact ih
theorem KDT.any (r : KDT H kvs kds) : (kvs.any fun kv => decide (kv.1 = k)) = hasT kds k := by
  unfold hasT
  induction r with
  | nil => rfl
  | cons a q ih => rw [List.any_cons, List.any_cons, ih]
theorem KDT.has (r : KDT H kvs kds) : (valV kvs k).isSome = hasT kds k := by rw [← valV_any, r.any]
theorem KDT.put (r : KDT H kvs kds) (a : Tp H v d) : KDT H (putK kvs k v) (putT kds k d) := by
  unfold putK putT
  rw [r.any]
  split
  · next c =>
    clear c
    induction r with
    | nil => exact .nil
    | @cons j u e r t b q ih =>
      rw [List.map_cons, List.map_cons]
      by_cases c : j = k
      · rw [if_pos c, if_pos c]; exact .cons a ih
      · rw [if_neg c, if_neg c]; exact .cons b ih
  · induction r with
    | nil => exact .cons a .nil
    | cons b q ih => exact .cons b (ih (by
      next h => exact fun z => h (by unfold hasT at z ⊢; rw [List.any_cons, z, Bool.or_true])))
end
/-- a dict with tuple keys, data in it -/
def dctT (p : Addr) (kds : KTs) : Res := fun h => ∃ kvs, h p = some (.dT kvs) ∧ KDT h kvs kds
section
variable {H : Hp} {Rs T : List Res} {F : Res → List Res} {p a : Addr} {kds : KTs} {kvs : List (List Key × V)} {o : HO}
theorem Sat.dctTE (S : Sat H (dctT p kds :: Rs)) : ∃ kvs, Sat H (cell p (.dT kvs) :: Rs) ∧ KDT H kvs kds := by
  obtain ⟨hs, h⟩ := S.ex
  match hs, h with
  | h :: hs, ⟨⟨kvs, r, kd⟩, x, d, t⟩ => exact ⟨kvs, ⟨h :: hs, r, x, d, t⟩, kd.pk (PK.of_ex x)⟩
theorem Sat.dctTI (S : Sat H (cell p (.dT kvs) :: Rs)) (k : KDT H kvs kds) : Sat H (dctT p kds :: Rs) :=
  S.impP (fun h h' e r => e _ _ r) fun h e pk r => ⟨kvs, r, k.pk pk⟩
theorem Sat.datT (S : Sat H Rs) [f : Foc dctT a kds Rs T F] : ∃ kvs, H a = some (.dT kvs) ∧ KDT H kvs kds := by
  obtain ⟨kvs, S, k⟩ := (f.out S).dctTE
  exact ⟨kvs, S.get, k⟩
theorem Sat.dsetT (S : Sat H Rs) [f : Foc dctT a kds Rs T F] {kvs' : List (List Key × V)} {kds' : KTs} (k : KDT H kvs' kds') : PK H (upd H a (.dT kvs')) ∧ Sat (upd H a (.dT kvs')) (F (dctT a kds')) := by
  obtain ⟨kvs, S, _⟩ := (f.out S).dctTE
  have n : ¬ Per (.dT kvs) := id
  have pk := S.pkset (o' := .dT kvs') n
  exact ⟨pk, f.back ((S.set (o' := .dT kvs') n).dctTI (k.pk pk))⟩
theorem Sat.dnewT (S : Sat H Rs) (hp : H p = none) (k : KDT H kvs kds) : PK H (upd H p (.dT kvs)) ∧ Sat (upd H p (.dT kvs)) (dctT p kds :: Rs) :=
  ⟨PK.of_ex (Ex.new hp), (S.new hp).dctTI (k.pk (PK.of_ex (Ex.new hp)))⟩
end
/-! ### steps over them -/
section
variable {K : PySem.W.Frag} {σ : L2.St} {H : Hp} {Q : VK} {Rs T : List Res} {F : Res → List Res} {a b : Addr} {kds : KTs} {k : List Key} {v z : V} {d : PyData} {R : Prop} {td ty tx tv : TE} {f : L2.St → Hp → Prop} {rt : VK} {bk ct : L2.St → Hp → Prop}
theorem x_dnewTS [S : Sat H Rs] (q : ∀ p H', PK H H' → Sat H' (dctT p [] :: Rs) → Q (.ref p) H') : tDNewT σ H Q := fun p hp => q p _ (S.dnewT hp .nil).1 (S.dnewT hp .nil).2
theorem x_dictTS [S : Sat H Rs] [fo : Foc dctT a kds Rs T F] (few : kds.length ≤ 1) (q : ∀ p H', PK H H' → Sat H' (dctT p kds :: Rs) → Q (.ref p) H') : rDictT [.ref a] H Q := by
  obtain ⟨kvs, h, kd⟩ := S.datT (a := a)
  exact ⟨a, kvs, rfl, .inl h, by rw [kd.len]; exact few, fun p hp => q p _ (S.dnewT hp kd).1 (S.dnewT hp kd).2⟩
theorem x_dgT [S : Sat H Rs] [fo : Foc dctT a kds Rs T F] (hb : H b = some (.tup (k.map kV))) (h : vlT kds k = some d) (q : ∀ v, Tp H v d → Q v H) : dgQ2 (.ref a) Q (.ref b) H := by
  obtain ⟨kvs, e, kd⟩ := S.datT (a := a)
  obtain ⟨v, e1, e2⟩ := kd.sm.1 d h
  exact ⟨a, v, rfl, by rw [← e1]; exact DGet.t e hb, q v e2⟩
theorem x_diT [S : Sat H Rs] [fo : Foc dctT a kds Rs T F] (hb : H b = some (.tup (k.map kV))) (q : Q (.bl (hasT kds k)) H) : diQ2 (.ref b) Q (.ref a) H := by
  obtain ⟨kvs, e, kd⟩ := S.datT (a := a)
  exact ⟨a, _, rfl, DGet.t e hb, by rw [kd.has]; exact q⟩
theorem x_dnT [S : Sat H Rs] [fo : Foc dctT a kds Rs T F] (hb : H b = some (.tup (k.map kV))) (q : Q (.bl (!hasT kds k)) H) : dnQ2 (.ref b) Q (.ref a) H := by
  obtain ⟨kvs, e, kd⟩ := S.datT (a := a)
  exact ⟨a, _, rfl, DGet.t e hb, by rw [kd.has]; exact q⟩
theorem x_dpT [S : Sat H Rs] [fo : Foc dctT a kds Rs T F] (hb : H b = some (.tup (k.map kV))) (hz : kds.length < sizeLine) (tp : Tp H v d) (q : ∀ H', PK H H' → Sat H' (F (dctT a (putT kds k d))) → f σ H') : dpQ3 (Ends.mk f rt bk ct) σ v (.ref a) (.ref b) H := by
  obtain ⟨kvs, e, kd⟩ := S.datT (a := a)
  exact ⟨a, _, rfl, DPut.t e hb (by rw [kd.len]; exact hz), q _ (S.dsetT (kd.put tp)).1 (S.dsetT (kd.put tp)).2⟩
/-- d.get(y, z) -/
def dg2Q1 (ty tx : TE) (σ : L2.St) (Q : VK) : VK := fun x H1 => ∃ a, x = .ref a ∧ IsD H1 a ∧ ty σ H1 fun y H2 => tx σ H2 fun z H3 => ∃ o, DGet H3 a y o ∧ Q (o.getD z) H3
def dg2Q2 (a : Addr) (tx : TE) (σ : L2.St) (Q : VK) : VK := fun y H2 => tx σ H2 fun z H3 => ∃ o, DGet H3 a y o ∧ Q (o.getD z) H3
def dg2Q3 (a : Addr) (y : V) (Q : VK) : VK := fun z H3 => ∃ o, DGet H3 a y o ∧ Q (o.getD z) H3
instance r_dg2 [n : Run (td σ H (dg2Q1 ty tx σ Q)) R] : Run (tDGet2 td ty tx σ H Q) R := ⟨fun h => n.go h⟩
instance r_dg2Q1 [S : Sat H Rs] [fo : Foc dctT a kds Rs T F] [n : Run (ty σ H (dg2Q2 a tx σ Q)) R] : Run (dg2Q1 ty tx σ Q (.ref a) H) R := ⟨fun h => by
  obtain ⟨kvs, e, kd⟩ := S.datT (a := a)
  exact ⟨a, rfl, .inr ⟨kvs, .inl e⟩, n.go h⟩⟩
instance r_dg2Q2 {y : V} [n : Run (tx σ H (dg2Q3 a y Q)) R] : Run (dg2Q2 a tx σ Q y H) R := ⟨fun h => n.go h⟩
theorem x_dg2T [S : Sat H Rs] [fo : Foc dctT a kds Rs T F] (hb : H b = some (.tup (k.map kV))) (yes : ∀ d v, vlT kds k = some d → Tp H v d → Q v H) (no : vlT kds k = none → Q z H) : dg2Q3 a (.ref b) Q z H := by
  obtain ⟨kvs, e, kd⟩ := S.datT (a := a)
  refine ⟨_, DGet.t e hb, ?_⟩
  cases c : vlT kds k with
  | none =>
    rw [kd.sm.2 c]
    exact no c
  | some d =>
    obtain ⟨v, e1, e2⟩ := kd.sm.1 d c
    rw [e1]
    exact yes d v c e2
end
end G

set_option Elab.async false
set_option linter.all false
set_option maxRecDepth 100000
set_option synthInstance.maxHeartbeats 0
set_option synthInstance.maxSize 100000
/-! Own rules: a suite that raises again what it caught. -/
namespace G
open PySem PySem.Spec PyProof.Rows L2 Evl RZ
section
variable {X : Cx} {pins : List (Addr × Obj)} {σ : L2.St} {H : Hp} {s : Shared}
/-- what an object must be to be put out of sight -/
structure Strange (X : Cx) (pn : List (Addr × Obj)) (b : Addr) : Prop where
  old : X.s_0.heap.get? b = none
  cel : ∀ x c, X.env.cells.lookup x = some c → c ≠ b
  pns : ∀ q ∈ pn, q.1 ≠ b
theorem hideAway (I : Inv X pins σ H s) (l : List Addr) (un : ∀ b ∈ l, H b = none) (nl : X.env.locals ∉ l) (st : ∀ b ∈ l, Strange X (X.pn ++ pins) b) :
    ∃ G : Heap, (∀ b o, G.get? b = some o → s.heap.get? b = some o ∧ b ∉ l) ∧ (∀ b o, b ∉ l → s.heap.get? b = some o → G.get? b = some o) ∧ Inv X pins σ H { s with heap := G } := by
  obtain ⟨G, yes, no⟩ := restrict s.heap fun b => !decide (b ∈ l)
  have up : ∀ b o, b ∉ l → s.heap.get? b = some o → G.get? b = some o := fun b o out e => (yes b (by simp [out])).trans e
  have dn : ∀ b o, G.get? b = some o → s.heap.get? b = some o ∧ b ∉ l := fun b o e => by
    by_cases inn : b ∈ l
    · rw [no b (by simp [inn])] at e
      cases e
    · exact ⟨(yes b (by simp [inn])).symm.trans e, inn⟩
  have old : ∀ b o, X.s_0.heap.get? b = some o → b ∉ l := fun b o e inn => by
    rw [(st b inn).old] at e
    cases e
  have cel : ∀ x c, X.env.cells.lookup x = some c → c ∉ l := fun x c e inn => (st c inn).cel x c e rfl
  have trk : ∀ b u, H b = some u → b ∉ l := fun b u e inn => by
    rw [un b inn] at e
    cases e
  have cup : ∀ x c, X.env.cells.lookup x = some c → ∀ v, s.heap.IsCell c v → G.IsCell c v := fun x c e v z => by
    obtain ⟨o, h1, h2⟩ := z
    exact ⟨o, up c o (cel x c e) h1, h2⟩
  have base : Un X.fs X.ex X.H_0 H X.s_0.heap G := by
    have B := I.base
    refine ⟨fun b o e n f x => up b o (old b o e) (B.keep b o e n f x), fun b o e n f x => ?_, B.free, fun b o e x => ?_, B.tups, B.frzs, B.tbls⟩
    · obtain ⟨sl, q⟩ := B.slot b o e n f x
      exact ⟨sl, up b _ (old b o e) q⟩
    · obtain ⟨o2, q⟩ := B.there b o e x
      exact ⟨o2, up b o2 (old b o e) q⟩
  refine ⟨G, dn, up, I.ok, I.os, I.bare, base, ?_, fun x c e => ?_, I.free, I.freeC, fun q hq => ?_, fun b u e => ?_, I.len⟩
  · obtain ⟨m, ⟨o, es, ep, h1, h2⟩, look⟩ := I.loc
    refine ⟨m, ⟨o, es, ep, up _ o nl h1, h2⟩, fun i x v a1 a2 a3 => ?_⟩
    obtain ⟨u, rv, lk⟩ := look i x v a1 a2 a3
    refine ⟨u, rv, ?_⟩
    rcases lk with lk | ⟨kd, c, ec, z⟩
    · exact Or.inl lk
    · exact Or.inr ⟨kd, c, ec, cup x c ec _ z⟩
  · obtain ⟨v, z⟩ := I.cell x c e
    exact ⟨v, cup x c e v z⟩
  · have P := I.pin q hq
    exact ⟨up _ _ (fun inn => (st _ inn).pns q hq rfl) P.1, P.2⟩
  · refine ObjOk.stay (I.hok b u e) (fun c v hc q => up c v ?_ q) (fun _ q => q) fun _ _ q => q
    rcases hc with z | z
    · rw [z]
      exact trk b u e
    · exact trk c _ z
/-- a bare raise in a suite: what is handled flies on -/
theorem ps_bare {a T : Addr} {oe oT : Obj} {vs ts : Array Value} {cls : Value} {d : Option Addr} {Wout : WX} {pos : Pos} {pn0 : List (Addr × Obj)} (ok : X.Ok) (hs : X.stack = X.env :: X.outer) (hf : X.env.frame = some X.env.locals)
    (tk : L2.Takes X Wout) (hd : oe.data = .fields vs) (h1 : vs[1]? = some (.ref T)) (hz : Zc cls d oe) (hTa : T ≠ a) (hdT : oT.data = .fields ts) (h3 : 3 < ts.size) (sa : Strange X (X.pn ++ pn0) a) (sT : Strange X (X.pn ++ pn0) T) :
    PS (L2H.suiteX X a ((a, oe) :: (T, oT) :: (X.pn ++ pn0))) (.Raise none none pos) (fun _ σ H => Wout cls d σ H) := by
  refine ⟨fun pins s σ H D I w => ?_⟩
  have Pa := I.pin (a, oe) (by simp)
  have PT := I.pin (T, oT) (by simp)
  have J : Inv X pn0 σ H s := ⟨ok, I.os, I.bare, I.base, I.loc, I.cell, I.free, I.freeC, fun q hq => I.pin q (List.mem_append_left _ (List.mem_cons_of_mem _ (List.mem_cons_of_mem _ hq))), I.hok, I.len⟩
  obtain ⟨G, dn, up, JG⟩ := hideAway J [a, T] (fun b hb => by
    rcases List.mem_cons.mp hb with e | hb
    · rw [e]; exact Pa.2.1
    · rw [List.mem_singleton.mp hb]; exact PT.2.1) (fun hb => by
    rcases List.mem_cons.mp hb with e | hb
    · exact Pa.2.2.1 e.symm
    · exact PT.2.2.1 (List.mem_singleton.mp hb).symm) (fun b hb => by
    rcases List.mem_cons.mp hb with e | hb
    · rw [e]; exact sa
    · rw [List.mem_singleton.mp hb]; exact sT)
  have gone : ∀ b, b ∈ [a, T] → (PySem.W.hideAll G (frs X.stack)).get? b = none := fun b hb => by
    cases q : (PySem.W.hideAll G (frs X.stack)).get? b with
    | none => rfl
    | some o => exact absurd hb (dn b o (PySem.W.of_hideAll _ q)).2
  have stay : (PySem.W.hideAll G (frs X.stack)).StaysIn s.heap := fun b o e => (dn b o (PySem.W.of_hideAll _ e)).1
  have ff : s.heap.FunFrames (PySem.W.hideAll G (frs X.stack)) X.stack := funFrames_none J.stack fun b hb => PySem.W.hideAll_none _ hb
  obtain ⟨fl, e3⟩ : ∃ fl, ts[3]? = some fl := ⟨ts[3], Array.getElem?_eq_getElem h3⟩
  have tr : HandSPX.TracedZ s.heap (PySem.W.hideAll G (frs X.stack)) a (Zc cls d) fl := ⟨oe, vs, T, oT, ts, Pa.1, hz, hd, h1, gone T (by simp), hTa, PT.1, hdT, e3⟩
  show wpAny _ _ (do standAt pos; raiseStmt X.env none none) _ _ _
  refine wpAny_bind (wpAny_standAt ?_)
  show wpAny _ _ (handled >>= _) _ _ _
  refine wpAny_bind (wpAny_handled ?_)
  show wpAny _ _ (rule "raise.bare" >>= _) _ _ _
  refine wpAny_bind (wpAny_rule ?_)
  refine wpAny_bind (wpAny_field Pa.1 hd h1 ?_)
  rw [if_neg (show ¬ (Value.ref T == Value.none) = true from fun z => nomatch z)]
  have fin : wpAny (model X.prog X.w) (X.A.mark (some (.ref a))) (setFlight (.ref a) X.env.frame) (fun _ s4 => wpAny (model X.prog X.w) (X.A.mark (some (.ref a))) (throw (.ref a) : Sem Flow) (SP (L2H.suiteX X a ((a, oe) :: (T, oT) :: (X.pn ++ pn0))) pins D) X.xe s4) X.xe s := by
    rw [hf]
    refine HandSPX.setFlight_anyZ stay ff tr fun h4 k1 k2 k3 k4 => wpAny_throw (tk _ _ ?_)
    refine ⟨a, PySem.W.hideAll G (frs X.stack), { s with heap := G }, pn0, σ, H, cls, d, rfl, JG, fun b o e hb => PySem.W.hideAll_get _ e hb, Heap.UpToSlots.trans (Heap.UpToSlots.of_keeps fun b o e => (dn b o e).1) k4, .inr (.inr ⟨k1, gone a (by simp), k2, k3⟩), Pa.2.1, rfl, I.bare, w⟩
  first
  | exact wpAny_bind fin
  | exact wpAny_bind (wpAny_pure (wpAny_bind fin))
end
section
variable {X : Cx} {x : Str} {c : Value} {body suite : List Stmt} {b₀ : Stmt} {np pos pos' : Pos} {tb : WX → TS} {ts : Addr → Value → Option Addr → TS} {Wout : WX}
theorem strange_of {pins : List (Addr × Obj)} {σ : L2.St} {H : Hp} {sI : Shared} {b : Addr} (J : Inv X pins σ H sI) (hx : X.ex = []) (no : sI.heap.get? b = none) : Strange X (X.pn ++ pins) b := by
  have dif : ∀ c o, sI.heap.get? c = some o → c ≠ b := fun c o e z => by
    rw [z, no] at e
    cases e
  refine ⟨?_, fun y c e => ?_, fun q hq => dif _ _ (J.pin q hq).1⟩
  · cases e : X.s_0.heap.get? b with
    | none => rfl
    | some o =>
      obtain ⟨o2, e2⟩ := J.base.there b o e (by rw [hx]; exact fun z => nomatch z)
      exact absurd rfl (dif b o2 e2)
  · obtain ⟨v, o, e1, _⟩ := J.cell y c e
    exact dif c o e1
/-- what of an exception's objects is needed in its suite -/
theorem suite_pins {pins : List (Addr × Obj)} {σ : L2.St} {H : Hp} {sI s4 : Shared} {a T : Addr} {oe oT : Obj} {vs ws : Array Value} (J : Inv X pins σ H sI) (J4 : Inv X pins σ H s4) (na : sI.heap.get? a = none) (nT : sI.heap.get? T = none) (ea : s4.heap.get? a = some oe) (da : oe.data = .fields vs)
    (eT : s4.heap.get? T = some oT) (dT : oT.data = .fields ws) (fa : a ∉ X.fs) (fT : T ∉ X.fs) : Inv (L2H.suiteX X a ((a, oe) :: (T, oT) :: (X.pn ++ pins))) [] σ H s4 := by
  obtain ⟨m, ⟨oL, _, _, eL, _⟩, _⟩ := id J.loc
  have nL : ∀ b, sI.heap.get? b = none → b ≠ X.env.locals := fun b e z => by
    rw [z, eL] at e
    cases e
  have nocell : ∀ {o : Obj} {us : Array Value}, o.data = .fields us → ∀ v, o.data ≠ .cell v := fun e v z => by
    rw [e] at z
    cases z
  have S := L2H.suiteX_of (J4.suite ea da (J.hok.gone na) (nL a na) fa)
  refine ⟨⟨S.ok.mod, S.ok.kind, S.ok.glob, S.ok.blt, S.ok.above, S.ok.inj, S.ok.has, S.ok.cab, S.ok.hd, S.ok.frames, S.ok.stk, S.ok.exf, S.ok.bs, S.ok.bsz, S.ok.noex, S.ok.exfs, S.ok.funs, S.ok.frf⟩, S.os, S.bare, S.base, S.loc, S.cell, S.free, S.freeC, fun q hq => ?_, S.hok, S.len⟩
  have hq2 : q ∈ (a, oe) :: (T, oT) :: (X.pn ++ pins) := by
    rw [List.append_nil] at hq
    exact hq
  rcases List.mem_cons.mp hq2 with e | hq2
  · rw [e]
    exact ⟨ea, J.hok.gone na, nL a na, fa, nocell da⟩
  · rcases List.mem_cons.mp hq2 with e | hq2
    · rw [e]
      exact ⟨eT, J.hok.gone nT, nL T nT, fT, nocell dT⟩
    · exact J4.pin q hq2
theorem ps_try_again (hs : X.stack = X.env :: X.outer) (hf : X.env.frame = some X.env.locals) (hx : X.ex = []) (hc : Names X x c) (leave : ∀ hd : Option Value, PassesOwnAt (model X.prog X.w) (X.A.mark hd) X.A X.env X.xe) (tk : L2.Takes X Wout)
    (hb : ∀ (W : WX) (pn : List (Addr × Obj)) (xe : Value → Shared → Prop), L2N.Takes (X.tr pn xe) W → L2.Takes (X.tr pn xe) (L2H.wPass X.K c Wout) → PassesOwn (model X.prog X.w) X.A X.env xe → PSs (X.tr pn xe) body (tb W))
    (hsu : ∀ (a : Addr) (oe : Obj) (cls : Value) (d : Option Addr) (pn : List (Addr × Obj)), L2N.Zn cls d oe → (∃ vs, oe.data = .fields vs) → L2.Takes (L2H.suiteX X a ((a, oe) :: pn)) Wout → L2H.HotC (L2H.suiteX X a ((a, oe) :: pn)) →
      (∀ p, PS (L2H.suiteX X a ((a, oe) :: pn)) (.Raise none none p) (fun _ σ H => Wout cls d σ H)) → PSs (L2H.suiteX X a ((a, oe) :: pn)) (b₀ :: suite) (ts a cls d)) :
    PS X (.Try body [.ExceptHandler (some (.Name x np)) none (b₀ :: suite) pos'] [] [] pos) (fun D σ H => tb (wOnly X.K c ts Wout D) D σ H) := by
  refine ⟨fun pins s0 σ0 H0 D I h => ?_⟩
  have ok := I.ok
  have frm : X.A.frames = some (X.env :: X.outer) := hs ▸ ok.frames
  have noFrame : ∀ {B h : Heap} {b : Addr} {o : Obj} {us : Array Value}, h.FunFrames B (X.env :: X.outer) → h.get? b = some o → o.data = .fields us → b ∉ frs (X.env :: X.outer) := fun {B h b o us} ff e dd inn => by
    obtain ⟨_, o2, e2, nof⟩ := ff.mem inn
    rw [e] at e2
    cases e2
    exact nof us dd
  have out : ∀ b, b ∉ frs (X.env :: X.outer) → b ∉ X.fs := fun b nb inn => by
    obtain ⟨env, h1, h2⟩ := List.mem_filterMap.mp inn
    exact nb (List.mem_filterMap.mpr ⟨env, List.mem_cons_of_mem _ h1, h2⟩)
  have isC : ∀ {pn : List (Addr × Obj)} {a : Addr} {σ : L2.St} {H : Hp} {s : Shared} {Q E : Value → Shared → Prop}, Inv (X.suite a pn) [] σ H s → Q c s → wpAny (model X.prog X.w) (X.A.mark (some (.ref a))) (eval (.Name x np) X.env) Q E s := fun {pn a σ H s Q E} S q => by
    obtain ⟨g, db, hm | ⟨hm, hv, nn⟩⟩ := hc
    · exact ld_glob (X := X.suite a pn) S g hm q db
    · exact ld_blt (X := X.suite a pn) S g hm hv q nn db
  have go : ∀ {a : Addr} {B : Heap} {sI s1 : Shared} {σ : L2.St} {H : Hp} {cls : Value} {d : Option Addr} {h3 : Heap}, Inv X pins σ H sI → (∀ b o, sI.heap.get? b = some o → b ∉ frs X.stack → B.get? b = some o) → sI.heap.UpToSlots h3 →
      HandSPX.FlyingZ B (X.env :: X.outer) a (Zc cls d) h3 → H a = none → s1.os = sI.os → AllBare s1.gens → Wout cls d σ H → wpAny (model X.prog X.w) X.A (handleBy (.ref a) X.env []) (SP X pins D) X.xe { s1 with heap := h3 } := by
    intro a B sI s1 σ H cls d h3 J ground up fly na os ag w
    refine wpAny_handleBy_nil ?_
    obtain ⟨_, _, _, oe, vs, T, oT, us, ea, _, da, e1, _⟩ := id fly
    unfold PySem.passOn
    refine wpAny_bind (wpAny_field ea da e1 ?_)
    rw [if_neg (show ¬ (Value.ref T == Value.none) = true from fun z => nomatch z)]
    have last : wpAny (model X.prog X.w) X.A (setFlight (.ref a) X.env.frame) (fun _ s4 => wpAny (model X.prog X.w) X.A (throw (.ref a) : Sem Flow) (SP X pins D) X.xe s4) X.xe { s1 with heap := h3 } := by
      rw [hf]
      refine HandSPX.setFlight_upZ fly fun h4 held up4 => wpAny_throw (tk _ _ ⟨a, B, sI, pins, σ, H, cls, d, rfl, J, ground, up.trans up4, .inr (.inr ?_), na, os, ag, w⟩)
      rw [hs]
      exact held
    first
    | exact wpAny_bind last
    | exact wpAny_bind (wpAny_pure (wpAny_bind last))
  refine wpAny_Try_except ?_
  refine wpAny_mono ((hb (wOnly X.K c ts Wout D) (X.pn ++ pins) (fun e s₁ => wpAny (model X.prog X.w) X.A (noteFrame e X.env) (fun _ s₂ => wpAny (model X.prog X.w) X.A (setFlight e none) (fun _ s₃ =>
    wpAny (model X.prog X.w) X.A (handleBy e X.env [.ExceptHandler (some (.Name x np)) none (b₀ :: suite) pos']) (SP X pins D) X.xe s₃) X.xe s₂) X.xe s₁) (fun u s1 air => ?_) (fun u s1 air => ?_) PassesOwn.looking).run [] s0 σ0 H0 D (I.toTry _) h) (fun f s1 hsp => ?_) (fun _ _ z => z)
  · obtain ⟨a, B, sI, pn2, σ, H, cls, d, rfl, J2, ground, up, sky, na, os, ag, b, hb1, yes, no⟩ := air
    have J : Inv X pins σ H sI := J2.ofTry ok
    rw [show (X.tr (X.pn ++ pins) _).stack = X.env :: X.outer from hs] at sky
    show wpAny (model X.prog X.w) X.A (noteFrame (.ref a) X.env) _ _ _
    refine L2N.Sky.land L2N.Zn.steady frm hf sky fun h3 fly up3 => ?_
    have J3 : Inv X pins σ H { s1 with heap := h3 } := J.landed ground fly.1 (up.trans up3) os ag
    obtain ⟨oe3, vs3, ea3, z3, d3⟩ := fly.there
    have nfr := noFrame fly.2.2.1 ea3 d3
    have gone : sI.heap.get? a = none := by
      cases e : sI.heap.get? a with
      | none => rfl
      | some o =>
        have z := ground a o e (by rw [hs]; exact nfr)
        rw [fly.2.1] at z
        cases z
    have nL : a ≠ X.env.locals := fun z => nfr (List.mem_filterMap.mpr ⟨X.env, List.mem_cons_self, by rw [hf, z]⟩)
    have S3 := J3.suite ea3 d3 na nL (out a nfr)
    refine wpAny_handleBy_cons (codeAny_handlers_test ?_) (fun z => nomatch z)
    have ty : PySem.W.Looks (model X.prog X.w) h3 (typeOf (.ref a)) cls := fun A Q E s k q => wpAny_typeOf_ref (k _ _ ea3) (by rw [z3.1]; exact q)
    refine isC S3 ((PySem.W.exm_one (M := model X.prog X.w) J3.kIn ty hb1).here ?_)
    cases b with
    | false => exact go J ground (up.trans up3) (L2H.flyingZ_imp (fun o z => z.zc) fly) na os ag (no rfl)
    | true =>
      refine codeAny_handlers_suite ?_
      refine HandSPX.lands_againZ fly fun h4 fly4 up4 => ?_
      have J4 : Inv X pins σ H { s1 with heap := h4 } := J.landed ground fly4.1 ((up.trans up3).trans up4) os ag
      obtain ⟨_, _, ff4, oe, vs, T, oT, us, ea, z4, da, e1, bT, hTa, eT, dT, e3⟩ := id fly4
      have nfT := noFrame ff4 eT dT
      have nfa := noFrame ff4 ea da
      have goneT : sI.heap.get? T = none := by
        cases e : sI.heap.get? T with
        | none => rfl
        | some o =>
          have z := ground T o e (by rw [hs]; exact nfT)
          rw [bT] at z
          cases z
      have S4 := suite_pins (s4 := { s1 with heap := h4 }) J J4 gone goneT ea da eT dT (out a nfa) (out T nfT)
      have back : ∀ {pn2 : List (Addr × Obj)} {σ : L2.St} {H : Hp} {s : Shared}, Inv (L2H.suiteX X a ((a, oe) :: (T, oT) :: (X.pn ++ pins))) pn2 σ H s → Inv X pins σ H s := fun {pn2 σ H s} I2 =>
        ⟨ok, I2.os, I2.bare, I2.base, I2.loc, I2.cell, I2.free, I2.freeC, fun q hq => I2.pin q (List.mem_append_left _ (List.mem_cons_of_mem _ (List.mem_cons_of_mem _ hq))), I2.hok, I2.len⟩
      have tkS : L2.Takes (L2H.suiteX X a ((a, oe) :: (T, oT) :: (X.pn ++ pins))) Wout := fun u2 s2 y => by
        obtain ⟨a2, B2, sI2, _, σ2, H2, cls2, d2, e2, I2, g2, up2, sky2, na2, os2, ag2, w2⟩ := y
        exact tk u2 s2 ⟨a2, B2, sI2, pins, σ2, H2, cls2, d2, e2, back I2, g2, up2, sky2, na2, os2, ag2, w2⟩
      have hot : L2H.HotC (L2H.suiteX X a ((a, oe) :: (T, oT) :: (X.pn ++ pins))) := ⟨(a, oe), ⟨rfl, vs, da, z4.2.2 vs da⟩, List.mem_cons_self⟩
      have again : ∀ p, PS (L2H.suiteX X a ((a, oe) :: (T, oT) :: (X.pn ++ pins))) (.Raise none none p) (fun _ σ H => Wout cls d σ H) := fun p =>
        ps_bare ok hs hf tk da e1 z4.zc hTa dT (Array.getElem?_eq_some_iff.mp e3).1 (strange_of J hx gone) (strange_of J hx goneT)
      refine wpAny_mono ((hsu a oe cls d ((T, oT) :: (X.pn ++ pins)) z4 ⟨_, da⟩ tkS hot again).run [] _ _ H _ S4 (yes rfl a na)) (fun f s6 hsp => ?_) (fun e6 s6 z => leave (some (.ref a)) e6 s6 z)
      cases f with
      | next =>
        obtain ⟨σ6, H6, S6, q6⟩ := hsp
        exact ⟨σ6, H6, back S6, q6⟩
      | brk =>
        obtain ⟨σ6, H6, S6, q6⟩ := hsp
        exact ⟨σ6, H6, back S6, q6⟩
      | cont =>
        obtain ⟨σ6, H6, S6, q6⟩ := hsp
        exact ⟨σ6, H6, back S6, q6⟩
      | ret u =>
        obtain ⟨v6, σ6, H6, S6, r6, q6⟩ := hsp
        exact ⟨v6, σ6, H6, back S6, r6, q6⟩
  · obtain ⟨a, B, sI, pn2, σ, H, cls, d, rfl, J2, ground, up, sky, na, os, ag, hb1, no⟩ := air
    have J : Inv X pins σ H sI := J2.ofTry ok
    rw [show (X.tr (X.pn ++ pins) _).stack = X.env :: X.outer from hs] at sky
    show wpAny (model X.prog X.w) X.A (noteFrame (.ref a) X.env) _ _ _
    refine L2.Sky.land Zc.steady frm hf sky fun h3 fly up3 => ?_
    have J3 : Inv X pins σ H { s1 with heap := h3 } := J.landed ground fly.1 (up.trans up3) os ag
    obtain ⟨oe3, vs3, ea3, z3, d3⟩ := fly.there
    have nfr := noFrame fly.2.2.1 ea3 d3
    have nL : a ≠ X.env.locals := fun z => nfr (List.mem_filterMap.mpr ⟨X.env, List.mem_cons_self, by rw [hf, z]⟩)
    have S3 := J3.suite ea3 d3 na nL (out a nfr)
    refine wpAny_handleBy_cons (codeAny_handlers_test ?_) (fun z => nomatch z)
    have ty : PySem.W.Looks (model X.prog X.w) h3 (typeOf (.ref a)) cls := fun A Q E s k q => wpAny_typeOf_ref (k _ _ ea3) (by rw [z3.1]; exact q)
    refine isC S3 ((PySem.W.exm_one (M := model X.prog X.w) J3.kIn ty hb1).here ?_)
    exact go J ground (up.trans up3) fly na os ag no
  · cases f with
    | next =>
      obtain ⟨σ1, H1, J1, q1⟩ := hsp
      exact wpAny_execs_nil ⟨σ1, H1, J1.ofTry ok, q1⟩
    | brk =>
      obtain ⟨σ1, H1, J1, q1⟩ := hsp
      exact ⟨σ1, H1, J1.ofTry ok, q1⟩
    | cont =>
      obtain ⟨σ1, H1, J1, q1⟩ := hsp
      exact ⟨σ1, H1, J1.ofTry ok, q1⟩
    | ret u =>
      obtain ⟨v1, σ1, H1, J1, r1, q1⟩ := hsp
      exact ⟨v1, σ1, H1, J1.ofTry ok, r1, q1⟩
end
/-! ### a class with an own __init__ raised in such a suite -/
structure DnMH (P : Program) (w : World) (K : PySem.W.Frag) (mg : Str → Option Value) (base : Heap) (CX : CXT) (k : Nat) (f : Addr) (ps : List Str) (sp : Sp) : Prop where
  ex : ∃ fd, L2H.FnH P w K mg base CX k f fd ps sp ∧ Binds K fd ps []
theorem Mf.dmH {P : Program} {w : World} {K : PySem.W.Frag} {mg : Str → Option Value} {base : Heap} {C m qual : Str} {st : Stmt} {N ps : List Str} {k : Nat} {sp : Sp} (F : Mf K C m qual st) (S : FnScope N ps (defScope st)) (hb : BindOk m qual st ps) (len : ∀ vs H Q E, sp vs H Q E → vs.length = ps.length)
    (hbody : ∀ (f : Addr) (cdv : Value) (A : Around) (outer : List Env) (s : Shared) (H : Hp) (vs : List V) (Q : VK) (E : XK) (p : Addr × Obj), L2H.Hot1 A p → L2H.RoomH k (A.deeper (envOfC qual (defScope st) s.heap.objs.size f cdv)) → (L2H.cxH CX0 P w K mg base N qual (defScope st) f cdv A outer s H E p).K = K → sp vs H Q E →
      ∃ t, PSs (L2H.cxH CX0 P w K mg base N qual (defScope st) f cdv A outer s H E p) (defBody st) t ∧ t { nx := fun _ H' => Q .non H', rt := Q } (start N vs) H) : DnMH P w K mg base CX0 (k + 1) (He.ma K (He.ga K C) m) ps sp := by
  obtain ⟨fd, F⟩ := F.ex
  obtain ⟨oc, od, kV, doc, pm, an, cdv, ct, osl, rfl, lk, hcd⟩ := F.ex
  exact ⟨_, L2H.fn_ofH lk hcd S len (fun A outer s H vs Q E p hot hr hsp => hbody _ cdv A outer s H vs Q E p hot hr rfl hsp), F.binds hb⟩
theorem pmk5_oexHD {X : Cx} {x : Str} {C fI : Addr} {k : Nat} {ps : List Str} {sp : Sp} {e : Expr} {es : List Expr} {ta : TA} {p pos : Pos} (T : OexX X.K C fI) (D : DnMH X.prog X.w X.K X.mg X.base CX0 k fI ps sp) (hr : L2H.RoomH (k + 1) X.A) (hc : L2H.HotC X) (hx : Passes CX0 X (fun _ _ _ => False)) (hm : X.mg x = some (.ref C)) (ha : PA X (e :: es) ta) (hg : Gl X x := by rfl)
    (hdb : (x == ("__debug__" : Str)) = false := by decide) (he : starEach (e :: es) X.env = (false, eval e X.env) :: starEach es X.env := by rfl) (hpl : (backTo pos (starEach es X.env)).any (·.1) = false := by rfl) :
    L2H.PMk5 X (.Call (.Name x p) (e :: es) [] pos) (tMkO C sp [] ta) := by
  obtain ⟨fd, F1, hb⟩ := D.ex
  exact L2H.pmk5_oexH T.toOexC T.ini T.tyI F1 hr hc hb hx hg hm ha hdb he hpl
end G

set_option Elab.async false
set_option linter.all false
set_option maxRecDepth 100000
set_option maxHeartbeats 4000000
/-! sorted of triples (int, int, anything), no two alike in both ints, of any length. -/
namespace G
open PySem PySem.Spec PyProof.Rows L2 Evl RZ SrtO
def IsTri (h : Heap) (v : Value) (x y : Int) (z : Value) : Prop := ∃ a o t u n, v = .ref a ∧ h.get? a = some o ∧ o.cls = .type "tuple" ∧ o.data = .seq #[.int x t, .int y u, z] n
theorem IsTri.keeps {h h' : Heap} {v z : Value} {x y : Int} (p : IsTri h v x y z) (k : ∀ b o, h.get? b = some o → o.cls = .type "tuple" → h'.get? b = some o) : IsTri h' v x y z := by
  obtain ⟨a, o, t, u, n, e, ho, hc, hd⟩ := p
  exact ⟨a, o, t, u, n, e, k _ _ ho hc, hc, hd⟩
theorem tri_firsts {h : Heap} : ∀ {vs : List Value}, (∀ v ∈ vs, ∃ x y z, IsTri h v x y z) → ∃ fs : List Value, PySem.W.KatTups h vs fs ∧ fs.length = vs.length ∧ ∀ f ∈ fs, ∃ x t, f = Value.int x t
  | [], _ => ⟨[], PySem.W.KatTups.nil, rfl, fun _ hm => by simp at hm⟩
  | v :: vs, hp => by
    obtain ⟨fs, h1, h2, h3⟩ := tri_firsts (vs := vs) fun v' hm => hp v' (List.mem_cons_of_mem _ hm)
    obtain ⟨x, y, z, a, o, t, u, n, e, ho, hc, hd⟩ := hp v (List.mem_cons_self ..)
    subst e
    refine ⟨.int x t :: fs, PySem.W.KatTups.cons ho hc hd rfl h1, by rw [List.length_cons, List.length_cons, h2], fun f hm => ?_⟩
    rcases List.mem_cons.mp hm with rfl | hm
    · exact ⟨x, t, rfl⟩
    · exact h3 f hm
section
variable {prog : Program} {w : World} {A : Around} {E : Value → Shared → Prop} {s : Shared}
theorem tri_cmp {vs : List Value} {k : Value → Int × Int} {z : Value → Value} (hp : ∀ v ∈ vs, IsTri s.heap v (k v).1 (k v).2 (z v)) (hi : ∀ v ∈ vs, ∀ u ∈ vs, k v = k u → z v = z u) : Cmp prog w A s (tuples' true) (fun p => p.1 ∈ vs) (lt2 fun v u => lexB (k v) (k u)) := by
  intro p q hm hm'
  have h1 := hp _ hm
  have h2 := hp _ hm'
  have h3 := hi _ hm _ hm'
  show wpAny (model prog w) A (keyLt' (tuples' true) p.1 q.1) (fun r s' => s' = s ∧ r = lexB (k p.1) (k q.1)) (fun _ _ => False) s
  unfold lexB
  have h4 : (k p.1).1 = (k q.1).1 → (k p.1).2 = (k q.1).2 → z p.1 = z q.1 := fun a b => h3 (Prod.ext a b)
  clear h3
  generalize (k p.1).1 = x at h1 h4 ⊢
  generalize (k p.1).2 = y at h1 h4 ⊢
  generalize (k q.1).1 = x' at h2 h4 ⊢
  generalize (k q.1).2 = y' at h2 h4 ⊢
  generalize z p.1 = c at h1 h4
  generalize z q.1 = c' at h2 h4
  obtain ⟨a, o, t, u, n, e, ho, hc, hd⟩ := h1
  obtain ⟨a', o', t', u', n', e', ho', hc', hd'⟩ := h2
  rw [e, e']
  refine PySem.W.kat_lt ho hd ho' hd' ?_
  show PySem.W.KatLex prog w A true (decide (3 < 3)) _ [(.int x t, .int x' t'), (.int y u, .int y' u'), (c, c')] 0 s
  refine PySem.W.kat_cons (SeqAt.EqAt.int_int x t x' t' prog w _ _ ?_)
  refine PySem.W.kat_go (fun e1 => ?_) (fun e1 => ?_)
  · have ex : x = x' := by simpa using e1
    refine PySem.W.kat_yes (PySem.W.kat_cons (SeqAt.EqAt.int_int y u y' u' prog w _ _ ?_))
    refine PySem.W.kat_go (fun e2 => ?_) (fun e2 => ?_)
    · have ey : y = y' := by simpa using e2
      have e3 : (if x = x' then decide (y < y') else decide (x < x')) = false := by
        rw [if_pos ex, ey]
        exact decide_eq_false (Int.lt_irrefl _)
      have ez := h4 ex ey
      subst ez
      exact PySem.W.kat_yes (PySem.W.kat_cons (SeqAt.EqAt.same c prog w _ _ (PySem.W.kat_yes (PySem.W.kat_nil ⟨rfl, e3.symm⟩))))
    · have e3 : (if x = x' then decide (y < y') else decide (x < x')) = decide (y < y') := if_pos ex
      refine PySem.W.kat_no (PySem.W.kat_one _ _ (PyProof.Rows.lt_int ?_))
      exact (show s = s ∧ decide (y < y') = (if x = x' then decide (y < y') else decide (x < x')) from ⟨rfl, e3.symm⟩)
  · have ex : ¬ x = x' := by simpa using e1
    have e3 : (if x = x' then decide (y < y') else decide (x < x')) = decide (x < x') := if_neg ex
    exact PySem.W.kat_no (oneLt_int ⟨rfl, e3.symm⟩)
theorem tri_sortable {a : Addr} {vs : List Value} {k : Value → Int × Int} {z : Value → Value} (h0 : 0 < vs.length) (hp : ∀ v ∈ vs, IsTri s.heap v (k v).1 (k v).2 (z v)) (hi : ∀ v ∈ vs, ∀ u ∈ vs, k v = k u → z v = z u) (ha : ∀ o, s.heap.get? a = some o → o.cls ≠ .type "tuple") : SortableO prog w A s a vs fun v u => lexB (k v) (k u) := by
  intro h' keep
  have hp' : ∀ v ∈ vs, IsTri h' v (k v).1 (k v).2 (z v) := fun v hm => (hp v hm).keeps fun b o e c => keep b o (fun z => by subst z; exact ha o e c) e
  obtain ⟨fs, h1, h2, h3⟩ := tri_firsts fun v hm => ⟨_, _, _, hp' v hm⟩
  refine ⟨tuples' true, fun Q E hq => ?_, tri_cmp hp' hi⟩
  refine PySem.W.kat_kind (T := .type "int") h1 (by omega) (fun f hm => ?_) (by rfl) ?_
  · obtain ⟨x, t, rfl⟩ := h3 f hm
    exact PySem.W.Looks.now
  · have e : (Value.type "int" != Value.type "tuple") = true := by first | decide +kernel | rfl | decide
    rw [e]
    exact hq
theorem sorted_tri {l : Addr} {vs : List Value} {k : Value → Int × Int} {z : Value → Value} {Q : Value → Shared → Prop} (hl : s.heap.IsList l vs.toArray) (hz : vs.length ≤ sizeLine) (hp : ∀ v ∈ vs, IsTri s.heap v (k v).1 (k v).2 (z v)) (hi : ∀ v ∈ vs, ∀ u ∈ vs, k v = k u → z v = z u)
    (h : ∀ (h' : Heap) (d : Addr) (out : List Value), Srtd (fun v u => lexB (k v) (k u)) out → Stb (fun v u => lexB (k v) (k u)) out vs → (∀ b o, s.heap.get? b = some o → h'.get? b = some o) → s.heap.objs.size ≤ d → (∃ n, h'.get? d = some (seqObj "list" out.toArray n)) → Q (.ref d) { s with heap := h' }) :
    wpAny (model prog w) A (call (.builtin "sorted") [.ref l]) Q E s := by
  refine sorted_ord (swo_lex k) hl hz (fun h2 h₁ a ha kk => ?_) fun out hs hb => ?_
  · refine tri_sortable (s := { s with heap := h₁ }) (by omega) (fun v hm => (hp v hm).keeps fun b o e _ => (kk b o e).2) hi fun o e => ?_
    have e' : some o = some (seqObj "list" vs.toArray 0) := e.symm.trans ha
    cases e'
    intro c
    exact absurd (Value.type.inj c) (by decide)
  · exact h _ _ out hs hb (fun b o e => sortedAll_old e) (Nat.le_succ _) (sortedAll_at s.heap vs out.toArray)
end
theorem vals3' {x y z : V} {us : List Value} (r : Vals [x, y, z] us) : ∃ u w' t', us = [u, w', t'] ∧ RelV x u ∧ RelV y w' ∧ RelV z t' := by
  cases r with
  | cons r1 r2 =>
    obtain ⟨u, w', rfl, r3, r4⟩ := vals2 r2
    exact ⟨_, u, w', rfl, r1, r3, r4⟩
/-- sorted(xs), xs a list of triples (int, int, thing), no two alike in both ints -/
def rSortedTri (K : PySem.W.Frag) : List V → Hp → VK → Prop := fun vs H Q => ∃ (a : Addr) (xs : List V) (k : V → Int × Int) (z : V → Addr), vs = [V.ref a] ∧ SqL K H a xs ∧ (∀ x ∈ xs, ∃ t, x = V.ref t ∧ H t = some (.tup [.int (k x).1, .int (k x).2, .ref (z x)])) ∧ (∀ x ∈ xs, ∀ y ∈ xs, k x = k y → z x = z y) ∧
  ∀ ys p, SrtO.Srtd (ltP k) ys → SrtO.Stb (ltP k) ys xs → H p = none → Q (.ref p) (upd H p (.lst ys))
theorem cr_sortedTri {X : Cx} : CallR X (.builtin "sorted") (rSortedTri X.K) := by
  intro pins s σ H vs us Q I r h
  obtain ⟨a, xs, k, z, rfl, hs, hx, hj, q⟩ := h
  obtain ⟨its, rv, hl, hz⟩ := I.list hs
  obtain ⟨u, rfl, ru⟩ := vals1 r
  obtain rfl : u = Value.ref a := ru
  obtain ⟨e1, e2⟩ := refs_back rv fun x m => by
    obtain ⟨t, e, _⟩ := hx x m
    exact ⟨t, e⟩
  have mem : ∀ v ∈ its, backV v ∈ xs := fun v hv => by rw [e1]; exact List.mem_map.mpr ⟨_, hv, rfl⟩
  refine sorted_tri (k := fun u => k (backV u)) (z := fun u => .ref (z (backV u))) hl.isList (by rw [← rv.length]; exact hz) (fun v hv => ?_) (fun v hv u hu e => congrArg Value.ref (hj _ (mem v hv) _ (mem u hu) e)) fun h' d out h1 h2 kp hd hn => ?_
  · obtain ⟨t, rfl⟩ := e2 v hv
    have hm : V.ref t ∈ xs := mem _ hv
    obtain ⟨t', e, ht⟩ := hx _ hm
    cases e
    obtain ⟨_, its2, r2, o, ho, hc, n, hd⟩ := I.hok _ _ ht
    obtain ⟨u1, u2, u3, rfl, ri, rj, rk⟩ := vals3' r2
    obtain ⟨t1, rfl⟩ := ri
    obtain ⟨t2, rfl⟩ := rj
    obtain rfl : u3 = Value.ref (z (V.ref t)) := rk
    exact ⟨t, o, t1, t2, n, rfl, ho, hc, hd⟩
  · have h3 : ∀ u ∈ out, ∃ a, u = Value.ref a := fun u hu => e2 u (h2.perm.mem_iff.mp hu)
    obtain ⟨n, hn⟩ := hn
    have hb : SrtO.Stb (ltP k) (out.map backV) xs := by
      rw [e1]
      exact SrtO.Stb.map (ltP_swo k) backV h2
    refine ⟨.ref d, upd H d (.lst (out.map backV)), I.laid (t' := s.toks) kp hd ⟨?_, out, n, vals_back h3, hn⟩, rfl, q _ d (SrtO.srtd_map h1) hb (I.hok.fresh hd)⟩
    rw [hb.len]
    exact hz
theorem sorted_same {k : V → Int × Int} {xs ys : List V} (h : xs.Pairwise fun x y => ltP k y x = false) (h1 : SrtO.Srtd (ltP k) ys) (h2 : SrtO.Stb (ltP k) ys xs) : ys = xs := SrtO.stb_uniq (ltP_swo k) h1 h h2
end G

set_option Elab.async false
set_option linter.all false
set_option maxRecDepth 100000
set_option maxHeartbeats 4000000
set_option synthInstance.maxHeartbeats 0
set_option synthInstance.maxSize 100000
/-! Own rules: the lesser and the greater of two texts, the count of a list's different texts, a list of one thing in order. -/
namespace PySem
open PyProof.Rows
section
variable {prog : Program} {w : World} {A : Around} {E : Value → Shared → Prop} {s : Shared}
theorem CmpR.lt_texts {x y : Str} {t u : Tok} {Q : Value → Shared → Prop} (q : Q (.bool (x.cps.toList < y.cps.toList)) s) : wpAny (model prog w) A (richCompare .Lt (.str x t) (.str y u)) Q E s := P.lt_str q
theorem CmpR.gt_texts {x y : Str} {t u : Tok} {Q : Value → Shared → Prop} (q : Q (.bool (y.cps.toList < x.cps.toList)) s) : wpAny (model prog w) A (richCompare .Gt (.str x t) (.str y u)) Q E s := P.gt_str q
/-- i of two texts -/
def oneOf (x y : Str) (i : Nat) : Str := if i = 0 then x else y
theorem of_two {x y : Str} {t u : Tok} {i : Nat} {v : Value} (h : (#[Value.str x t, Value.str y u] : Array Value)[i]? = some v) : ∃ k, v = .str (oneOf x y i) k := by
  match i, h with
  | 0, h => exact ⟨t, (Option.some.inj h).symm⟩
  | 1, h => exact ⟨u, (Option.some.inj h).symm⟩
  | k + 2, h => simp at h
theorem two_lt (x y : Str) (t u : Tok) : CmpOf prog w A .Lt (fun i v => (#[Value.str x t, Value.str y u] : Array Value)[i]? = some v) (fun i j => decide ((oneOf x y i).cps.toList < (oneOf x y j).cps.toList)) := fun i j vi vj s Q E hi hj q => by
  obtain ⟨a, ea⟩ := of_two hi
  obtain ⟨b, eb⟩ := of_two hj
  rw [ea, eb]
  exact CmpR.lt_texts q
theorem two_gt (x y : Str) (t u : Tok) : CmpOf prog w A .Gt (fun i v => (#[Value.str x t, Value.str y u] : Array Value)[i]? = some v) (fun i j => decide ((oneOf x y j).cps.toList < (oneOf x y i).cps.toList)) := fun i j vi vj s Q E hi hj q => by
  obtain ⟨a, ea⟩ := of_two hi
  obtain ⟨b, eb⟩ := of_two hj
  rw [ea, eb]
  exact CmpR.gt_texts q
theorem best_two {bt : Nat → Nat → Bool} {x y : Str} {t u : Tok} {v : Value} (h : (#[Value.str x t, Value.str y u] : Array Value)[argBest bt 1]? = some v) : v = if bt 1 0 = true then Value.str y u else Value.str x t := by
  have e : argBest bt 1 = if bt 1 0 = true then 1 else 0 := rfl
  rw [e] at h
  by_cases c : bt 1 0 = true
  · rw [if_pos c] at h ⊢
    exact (Option.some.inj h).symm
  · rw [if_neg c] at h ⊢
    exact (Option.some.inj h).symm
theorem min_texts {x y : Str} {t u : Tok} {Q : Value → Shared → Prop} (hh : A.handled = none)
    (q : ∀ h' tk, (∀ c o, s.heap.get? c = some o → h'.get? c = some o) → Q (if decide (y.cps.toList < x.cps.toList) = true then .str y u else .str x t) { s with heap := h', toks := tk }) :
    wpAny (model prog w) A (call (.builtin "min") [.str x t, .str y u]) Q E s := by
  have up : (s.heap.push { cls := .type "tuple", data := .seq #[.str x t, .str y u] }).objs.size = s.heap.objs.size + 1 := Heap.size_push ..
  have ne : s.heap.objs.size ≠ (s.heap.push { cls := .type "tuple", data := .seq #[.str x t, .str y u] }).objs.size := by rw [up]; exact Nat.ne_of_lt (Nat.lt_succ_self _)
  have tu : (s.heap.push { cls := .type "tuple", data := .seq #[.str x t, .str y u] }).IsTuple s.heap.objs.size #[.str x t, .str y u] := ⟨_, Heap.get?_push_size _ rfl, rfl, 0, rfl⟩
  refine call_min_two (wpAny_pyIter_tuple tu ⟨_, [_, s.heap.objs.size], [_], _, _, _, _, rfl, Walks.tuple (A := A.in1) hh _ s.heap.objs.size ne #[.str x t, .str y u], ⟨⟨_, Heap.get?_push_size _ rfl, rfl, rfl⟩, tu.push _⟩, fun c hc => ?_, Nat.succ_pos 1, two_lt x y t u, fun v h' tk best keep => ?_⟩)
  · show c < ((s.heap.push _).push _).objs.size
    rw [Heap.size_push, up]
    rcases List.mem_cons.mp hc with rfl | hc
    · rw [up]; exact Nat.lt_succ_self _
    · cases List.mem_singleton.mp hc
      exact Nat.lt_succ_of_lt (Nat.lt_succ_self _)
  · rw [best_two (bt := fun i j => decide ((oneOf x y i).cps.toList < (oneOf x y j).cps.toList)) best]
    refine q h' tk fun c o e => keep c o (fun m => ?_) (Heap.get?_push_of_some _ (Heap.get?_push_of_some _ e))
    have z := Heap.lt_size e
    have m := List.mem_singleton.mp m
    rw [m, up] at z
    exact absurd z (Nat.not_lt.mpr (Nat.le_succ _))
theorem max_texts {x y : Str} {t u : Tok} {Q : Value → Shared → Prop} (hh : A.handled = none)
    (q : ∀ h' tk, (∀ c o, s.heap.get? c = some o → h'.get? c = some o) → Q (if decide (x.cps.toList < y.cps.toList) = true then .str y u else .str x t) { s with heap := h', toks := tk }) :
    wpAny (model prog w) A (call (.builtin "max") [.str x t, .str y u]) Q E s := by
  have up : (s.heap.push { cls := .type "tuple", data := .seq #[.str x t, .str y u] }).objs.size = s.heap.objs.size + 1 := Heap.size_push ..
  have ne : s.heap.objs.size ≠ (s.heap.push { cls := .type "tuple", data := .seq #[.str x t, .str y u] }).objs.size := by rw [up]; exact Nat.ne_of_lt (Nat.lt_succ_self _)
  have tu : (s.heap.push { cls := .type "tuple", data := .seq #[.str x t, .str y u] }).IsTuple s.heap.objs.size #[.str x t, .str y u] := ⟨_, Heap.get?_push_size _ rfl, rfl, 0, rfl⟩
  refine call_max_two (wpAny_pyIter_tuple tu ⟨_, [_, s.heap.objs.size], [_], _, _, _, _, rfl, Walks.tuple (A := A.in1) hh _ s.heap.objs.size ne #[.str x t, .str y u], ⟨⟨_, Heap.get?_push_size _ rfl, rfl, rfl⟩, tu.push _⟩, fun c hc => ?_, Nat.succ_pos 1, two_gt x y t u, fun v h' tk best keep => ?_⟩)
  · show c < ((s.heap.push _).push _).objs.size
    rw [Heap.size_push, up]
    rcases List.mem_cons.mp hc with rfl | hc
    · rw [up]; exact Nat.lt_succ_self _
    · cases List.mem_singleton.mp hc
      exact Nat.lt_succ_of_lt (Nat.lt_succ_self _)
  · rw [best_two (bt := fun i j => decide ((oneOf x y j).cps.toList < (oneOf x y i).cps.toList)) best]
    refine q h' tk fun c o e => keep c o (fun m => ?_) (Heap.get?_push_of_some _ (Heap.get?_push_of_some _ e))
    have z := Heap.lt_size e
    have m := List.mem_singleton.mp m
    rw [m, up] at z
    exact absurd z (Nat.not_lt.mpr (Nat.le_succ _))
end
/-! ### the set of a list of texts -/
/-- the different texts of a list as they come -/
def metStep (l : List Str) (x : Str) : List Str := if l.any (· == x) = true then l else l ++ [x]
def metS (xs : List Str) : List Str := xs.foldl metStep []
theorem metS_next {xs : List Str} {i : Nat} {x : Str} (h : xs[i]? = some x) : metS (xs.take (i + 1)) = metStep (metS (xs.take i)) x := by
  unfold metS
  rw [List.take_succ, h, List.foldl_append]
  rfl
theorem metStep_len (l : List Str) (x : Str) : (metStep l x).length ≤ l.length + 1 := by
  unfold metStep
  split
  · omega
  · simp
theorem metS_take (xs : List Str) : ∀ i, (metS (xs.take i)).length ≤ i
  | 0 => by simp [metS]
  | i + 1 => by
    cases h : xs[i]? with
    | some x =>
      rw [metS_next h]
      have a := metStep_len (metS (xs.take i)) x
      have b := metS_take xs i
      omega
    | none =>
      have hl := List.getElem?_eq_none_iff.mp h
      have b := metS_take xs i
      rw [List.take_of_length_le (by omega)] at b ⊢
      omega
section
variable {prog : Program} {w : World} {A : Around} {R : Result → Shared → Prop} {I : Addr} {fp wr : List Addr} {G : Array GenState → Array GenState → Prop} {n : Nat} {P : Nat → Value → Prop} {St : Nat → Shared → Prop}
abbrev Holds (prog : Program) (w : World) (h : Heap) (S : Addr) (l : List Str) : Prop := h.SetOf (PySem.strKind prog w) S (fun k => l.any (· == k)) l.length
theorem set_grows (W : WalksS prog w A.in1 I fp wr G n P St) {S : Addr} (out : S ∉ fp) {xs : List Str} (len : xs.length = n) (small : n < 4000) (val : ∀ i v, P i v → ∃ t, v = .str (xs.getD i Str.empty) t) (k : Nat) :
    ∀ (i : Nat) (s : Shared), i + k = n → St i s → Holds prog w s.heap S (metS (xs.take i)) → (∀ z, Moved (S :: wr) G s z → Holds prog w z.heap S (metS (xs.take n)) → R (.ok (.ret .none)) z) → codeAny (model prog w) A (.builtin "set.update.loop" ⟨[.ref S, .ref I], []⟩) R s := by
  have nw : S ∉ wr := fun z => out (W.sub _ z)
  have stays : ∀ {s z : Shared} {l : List Str}, Moved wr G s z → Holds prog w s.heap S l → Holds prog w z.heap S l := fun m ⟨o, es, ep, tb, e, r⟩ => ⟨o, es, ep, tb, m.heap S _ nw e, r⟩
  induction k with
  | zero =>
    intro i s e st hs fin
    have e : i = n := e
    subst e
    refine codeAny_builtin PyProof.Rows.F.entry_set_update_loop (by
      rw [Around.under_plainId PyProof.Rows.F.plain_set_update_loop _]
      show wpAny _ A.in1 (pyNext (.ref I) >>= _) _ _ s
      exact wpAny_bind (W.done s _ _ st fun z m => wpAny_pure (fin z (m.mono fun b hb => .tail _ hb) (stays m hs))))
  | succ k ih =>
    intro i s e st hs fin
    have lt : i < n := by omega
    refine codeAny_builtin PyProof.Rows.F.entry_set_update_loop (by
      rw [Around.under_plainId PyProof.Rows.F.plain_set_update_loop _]
      show wpAny _ A.in1 (pyNext (.ref I) >>= _) _ _ s
      refine wpAny_bind (W.item i s _ _ lt st fun v z p st2 m => ?_)
      obtain ⟨t, rfl⟩ := val i v p
      have at_ : xs[i]? = some (xs.getD i Str.empty) := by
        rw [List.getD_eq_getElem?_getD, List.getElem?_eq_getElem (by omega)]
        rfl
      generalize xs.getD i Str.empty = x at at_ p ⊢
      show wpAny _ A.in1 (holding [Value.str x t] (setAdd S (.str x t)) >>= _) _ _ z
      refine wpAny_bind (wpAny_holding ?_)
      unfold setAdd
      refine wpAny_holding (wpAny_bind ((PySem.strKind prog w).pyHash (k := x) (strKind_is _ _ _ _) ?_))
      have few := metS_take xs i
      have m2 : Moved wr G s { z with toks := z.toks + 1 } := m.then_heap (Nat.le_succ _) fun b o _ g => g
      refine wpAny_setAddHashed_of (knd := PySem.strKind prog w) (s := { z with toks := z.toks + 1 }) (strKind_is _ _ _ _) rfl (stays (z := { z with toks := z.toks + 1 }) m2 hs) (by unfold scanBound; omega) fun h2 same new => ?_
      have new2 : Holds prog w h2 S (metS (xs.take (i + 1))) := by
        rw [metS_next at_]
        refine SetOf_congr new (fun k => ?_) ?_
        · unfold metStep
          by_cases c : (metS (xs.take i)).any (· == x) = true
          · rw [if_pos c]
            by_cases d : k = x
            · rw [d, c]; rfl
            · simp [d]
          · rw [if_neg c, List.any_append]
            have : ([x].any fun y => y == k) = decide (k = x) := by
              by_cases d : k = x
              · simp [d]
              · simp [d, Ne.symm d]
            rw [this]
        · unfold metStep
          by_cases c : (metS (xs.take i)).any (· == x) = true
          · rw [if_pos c, if_pos c]
          · rw [if_neg c, if_neg c, List.length_append]; rfl
      refine wpAny_pure ⟨plainId_quiet PyProof.Rows.F.plain_set_update_loop _, ih (i + 1) _ (by omega) (W.frame _ z _ _ st2 (Nat.le_succ _) fun b hb o g => ?_) new2 fun y m2 hy => fin y (Moved.trans W.gtrans ((m.mono fun b hb => .tail _ hb).then_heap (Nat.le_succ _) fun b o hb g => ?_) m2) hy⟩
      · rw [same.2 b (fun q => out (q ▸ hb))]; exact g
      · rw [same.2 b (fun q => hb (q ▸ .head _))]; exact g)
end
section
variable {prog : Program} {w : World} {A : Around} {E : Value → Shared → Prop} {s : Shared}
abbrev setObj (led : Bool) : Obj := { cls := .type "set", dict := none, data := .set #[] 0 (.fresh 0 0 led) }
theorem empty_holds {h : Heap} {a : Addr} {led : Bool} (e : h.get? a = some (setObj led)) : Holds prog w h a [] :=
  PyProof.Rows.SetOf_congr ((PyProof.Rows.setObjOf_fresh (knd := PySem.strKind prog w) led).setOf e (by unfold scanBound; omega)) (fun _ => rfl) rfl
/-- the __init__ of a new set: told a list of texts -/
theorem set_init_texts {l S : Addr} {items : Array Value} {xs : List Str} {led : Bool} {P : PySem.Fin → Shared → Prop} {F : Value → Shared → Prop} (hh : A.handled = none) (hl : s.heap.IsList l items) (hs : s.heap.get? S = some (setObj led)) (it : StrsAre items.toList xs) (small : xs.length < 4000)
    (q : ∀ (h' : Heap) (tk : Nat), Holds prog w h' S (metS xs) → (∀ b o, b ≠ S → s.heap.get? b = some o → h'.get? b = some o) → P (.done (.ret .none)) { s with heap := h', toks := tk }) :
    wpAny (model prog w) A (Builtin.«set.__init__» ⟨[.ref S, .ref l], []⟩) P F s := by
  have ty : Shared.TypeIs s (.ref S) "set" := ⟨_, hs, rfl⟩
  have ls := PySem.F.sub_list_set
  have lf := PySem.F.sub_list_frozenset
  have nd : (Value.type "list" == Value.type "dict") = false := by decide
  have hl0 := hl
  obtain ⟨⟨_, dd, _, sl⟩, e1, rfl, nl, rfl⟩ := hl
  have ne : l ≠ S := fun z => by
    rw [z, hs] at e1
    exact absurd (congrArg Obj.cls (Option.some.inj e1)) (by intro c; exact absurd (Value.type.inj c) (by decide))
  unfold Builtin.«set.__init__» noKeywords Builtin.Frozenset.updateFrom
  generalize hPI : pyIter = PI
  wp_walk
  subst hPI
  have lS := Heap.lt_size hs
  have ll := Heap.lt_size e1
  refine wpAny_pyIter_list hl0 (wpAny_bind (wpAny_runValue ?_))
  have len : xs.length = items.size := by rw [← StrsAre.len_eq it, Array.length_toList]
  refine set_grows ((Walks.list (A := A.in1) (by simp [hh]) s.heap.objs.size l (Nat.ne_of_lt ll) items).toS) (S := S) (fun m => (List.mem_cons.mp m).elim (fun e => absurd e (Nat.ne_of_lt lS)) fun m => ne (List.mem_singleton.mp m).symm) len (by omega) (fun i v hv => SS.strs_at it i v (by rw [Array.getElem?_toList]; exact hv)) items.size 0 _ (Nat.zero_add _) ⟨⟨_, Heap.get?_push_size _ rfl, rfl, rfl⟩, hl0.push _⟩ (empty_holds (led := led) (Heap.get?_push_of_some _ hs)) fun z m hz => ?_
  obtain ⟨h2, g2, d2, t2, o2⟩ := z
  have eg : g2 = s.gens := m.gens
  have ed : d2 = s.drawn := m.drawn
  have eo : o2 = s.os := m.os
  subst eg ed eo
  rw [← len, List.take_length] at hz
  show wpAny _ _ _ _ _ _
  refine wpAny_pure ?_
  show wpAny _ _ (ret Value.none) _ _ _
  refine wpAny_pure (q h2 t2 hz fun b o nb e => m.heap b o ?_ (Heap.get?_push_of_some _ e))
  have lb := Heap.lt_size e
  simp only [List.mem_cons, List.not_mem_nil, or_false, not_or]
  exact ⟨nb, Nat.ne_of_lt lb⟩
end
end PySem
namespace PySem
open PyProof.Rows
section
variable {prog : Program} {w : World} {A : Around} {E : Value → Shared → Prop} {s : Shared}
/-- set(l), l a list of texts -/
theorem call_set_texts {l : Addr} {items : Array Value} {xs : List Str} {Q : Value → Shared → Prop} (hh : A.handled = none) (hl : s.heap.IsList l items) (it : StrsAre items.toList xs) (small : xs.length < 4000)
    (q : ∀ (h' : Heap) (tk : Nat), Holds prog w h' s.heap.objs.size (metS xs) → (∀ b o, s.heap.get? b = some o → h'.get? b = some o) → Q (.ref s.heap.objs.size) { s with heap := h', toks := tk }) :
    wpAny (model prog w) A (call (.type "set") [.ref l]) Q E s := by
  obtain ⟨cT, tlT, mroT⟩ := PySem.F.called_set.mro
  have made := PySem.F.called_set.made
  have isSub := PySem.F.called_set.sub
  have notT := PySem.F.called_set.notType
  have canC := PySem.F.called_set.canCreate
  have tc := PySem.F.typeCall_set_1 (.ref l)
  refine wpAny_call (codeAny_of_tree (by
    show wpAny _ _ (callAny (.type "set") _) _ _ _
    refine wpAny_pure ⟨Code.quiet_builtin _ (by decide +kernel), codeAny_builtin PySem.F.entry_type_call (by
      rw [Around.under_plain (weight_type_call_type "set" [.ref l] []) rfl]
      repeat (any_goals (first | assumption | wp_step))
      refine codeAny_mono (code_set_new_1 (.ref l) (E := E) (Q₁ := fun u t => ∃ led : Bool, u = .ref s.heap.objs.size ∧ t = { s with heap := s.heap.push (setObj led) }) fun led => ⟨led, rfl, rfl⟩) fun r t hr => ?_
      cases r with
      | error e => exact hr
      | ok fl =>
        cases fl with
        | ret obj =>
          obtain ⟨led, rfl, rfl⟩ := hr
          have at_ : (s.heap.push (setObj led)).get? s.heap.objs.size = some (setObj led) := Heap.get?_push_size _ rfl
          have ty : Shared.TypeIs { s with heap := s.heap.push (setObj led) } (.ref s.heap.objs.size) "set" := ⟨_, at_, rfl⟩
          have look := PySem.F.called_set.init.lookup
          have bind := PySem.F.called_set.init.bind (.ref s.heap.objs.size)
          repeat (any_goals (first | assumption | wp_step))
          refine codeAny_mono (codeAny_call_builtin (R := wants (fun r t => r = .none ∧ ∃ h' tk, t = { s with heap := h', toks := tk } ∧ Holds prog w h' s.heap.objs.size (metS xs) ∧ ∀ b o, s.heap.get? b = some o → h'.get? b = some o) E) PySem.F.called_set.init.plain PySem.F.entry_set_init (check_set_init_1 ty ?_)) fun r2 t2 hr2 => ?_
          · have hl2 : (s.heap.push (setObj led)).IsList l items := hl.push _
            refine set_init_texts (s := { s with heap := s.heap.push (setObj led) }) (by simp [hh]) hl2 at_ it small fun h' tk hz k => ?_
            exact ⟨rfl, h', tk, rfl, hz, fun b o e => k b o (Nat.ne_of_lt (Heap.lt_size e)) (Heap.get?_push_of_some _ e)⟩
          · cases r2 with
            | error e => exact hr2
            | ok fl2 =>
              cases fl2 with
              | ret r =>
                obtain ⟨rfl, h', tk, rfl, hz, k⟩ := hr2
                repeat (any_goals (first | assumption | wp_step))
                exact q _ _ hz k
              | _ => exact hr2.elim
        | _ => exact hr.elim)⟩))
end
end PySem
namespace G
open PySem PySem.Spec PyProof.Rows L2 Evl RZ
def minS (x y : Str) : Str := if decide (y.cps.toList < x.cps.toList) = true then y else x
def maxS (x y : Str) : Str := if decide (x.cps.toList < y.cps.toList) = true then y else x
def rMinS : List V → Hp → VK → Prop := fun xs H Q => ∃ x y, xs = [.str x, .str y] ∧ Q (.str (minS x y)) H
def rMaxS : List V → Hp → VK → Prop := fun xs H Q => ∃ x y, xs = [.str x, .str y] ∧ Q (.str (maxS x y)) H
def rAbs : List V → Hp → VK → Prop := fun xs H Q => ∃ i, xs = [.int i] ∧ Q (.int (if i < 0 then -i else i)) H
def rSortedOne (K : PySem.W.Frag) : List V → Hp → VK → Prop := fun vs H Q => ∃ a t, vs = [V.ref a] ∧ SqL K H a [.ref t] ∧ ∀ p, H p = none → Q (.ref p) (upd H p (.lst [.ref t]))
def rListT : List V → Hp → VK → Prop := fun xs H Q => ∃ d kvs, xs = [V.ref d] ∧ Rd H d (.dT kvs) ∧ ∀ p bs, H p = none → IsKeys H kvs bs → Q (.ref p) (upd H p (.lst (bs.map V.ref)))
/-- isinstance(e, C), e a caught exception with a dict or without -/
def rIsB (K : PySem.W.Frag) (cls : Value) (d : Option Addr) (a : Addr) : List V → Hp → VK → Prop := fun xs H Q => ∃ (D : Addr) (c : V) (cv : Value) (b : Bool), cls = .ref D ∧ (d = none ∨ ∃ dd fs, d = some dd ∧ H dd = some (.xd fs)) ∧ ExcC K D ∧ xs = [.ref a, c] ∧ (∀ u, RelV c u → u = cv) ∧ PySem.W.kitOne K (.ref D) cv = some b ∧ Q (.bl b) H
section
variable {X : Cx}
theorem g_minS (hc : X.calm = true) : CallR X (.builtin "min") rMinS := by
  intro pins s σ H xs us Q I r h
  obtain ⟨x, y, rfl, q⟩ := h
  obtain ⟨u, v, rfl, ⟨t, rfl⟩, ⟨t2, rfl⟩⟩ := vals2 r
  refine min_texts (I.ok.hd hc) fun h' tk k => ⟨_, H, I.kept k, ?_, q⟩
  unfold minS
  split
  · exact ⟨_, rfl⟩
  · exact ⟨_, rfl⟩
theorem g_maxS (hc : X.calm = true) : CallR X (.builtin "max") rMaxS := by
  intro pins s σ H xs us Q I r h
  obtain ⟨x, y, rfl, q⟩ := h
  obtain ⟨u, v, rfl, ⟨t, rfl⟩, ⟨t2, rfl⟩⟩ := vals2 r
  refine max_texts (I.ok.hd hc) fun h' tk k => ⟨_, H, I.kept k, ?_, q⟩
  unfold maxS
  split
  · exact ⟨_, rfl⟩
  · exact ⟨_, rfl⟩
theorem g_abs : CallR X (.builtin "abs") rAbs := call_abs
theorem g_listT (hc : X.calm = true) : CallR X (.type "list") rListT := call_list_dT hc
theorem cr_sortedOne : CallR X (.builtin "sorted") (rSortedOne X.K) := by
  intro pins s σ H vs us Q I r h
  obtain ⟨a, t, rfl, hs, q⟩ := h
  obtain ⟨its, rv, hl, hz⟩ := I.list hs
  obtain ⟨u, rfl, ru⟩ := vals1 r
  obtain rfl : u = Value.ref a := ru
  obtain ⟨x, rfl, rx⟩ := vals1 rv
  obtain rfl : x = Value.ref t := rx
  refine Srt.sorted_any hl.isList (Nat.le_of_ble_eq_true rfl) (fun two => absurd two (Nat.not_succ_le_self 1)) fun out perm => ?_
  have eo : out = [Value.ref t] := List.perm_singleton.mp perm
  subst eo
  refine ⟨.ref _, upd H _ (.lst [.ref t]), I.laid (t' := s.toks) (fun b o e => PyProof.Rows.sortedAll_old e) (Nat.le_succ _) ⟨Nat.le_of_ble_eq_true rfl, [.ref t], ?_⟩, rfl, q _ (I.hok.fresh (Nat.le_succ _))⟩
  obtain ⟨n, hn⟩ := PyProof.Rows.sortedAll_at s.heap [Value.ref t] #[Value.ref t]
  exact ⟨n, .cons rfl .nil, hn⟩
theorem call_isB {p : Addr × Obj} {cls : Value} {d : Option Addr} (hp : p ∈ X.pn) (hz : Zc cls d p.2) (hf : ∃ vs, p.2.data = .fields vs) : CallR X (.builtin "isinstance") (rIsB X.K cls d p.1) := by
  intro pins s σ H xs us Q I r h
  obtain ⟨D, c, cv, b, rfl, hd, C, rfl, hcv, e, q⟩ := h
  rcases hd with rfl | ⟨dd, fs, rfl, hx⟩
  · exact call_isP hp hz hf pins s σ H _ us Q I r ⟨D, c, cv, b, rfl, rfl, C, rfl, hcv, e, q⟩
  · cases r with
    | cons rx rr =>
      cases rr with
      | cons rt rr =>
        cases rr
        cases rx
        obtain rfl := hcv _ rt
        obtain ⟨od, J⟩ := inst_xd I (I.pin p (List.mem_append_left _ hp)).1 hz hf hx
        exact PySem.W.kia_one (PySem.W.kitx_exc C.hc C.hg C.hk C.hs C.ha C.hn C.ht C.hm) I.kIn J e (fun z => nomatch z) fun tk => ⟨.bl b, H, I.kept (t' := tk) fun _ _ z => z, rfl, q⟩
theorem x_isBr {K : PySem.W.Frag} {D a C : Addr} {d : Option Addr} {b : Bool} {H : Hp} {Q : VK} (hd : d = none ∨ ∃ dd fs, d = some dd ∧ H dd = some (.xd fs)) (C0 : ExcC K D) (k : PySem.W.kitOne K (.ref D) (.ref C) = some b) (q : Q (.bl b) H) : rIsB K (.ref D) d a [.ref a, .ref C] H Q :=
  ⟨D, .ref C, .ref C, b, rfl, hd, C0, rfl, fun u h => h, k, q⟩
theorem x_isBt {K : PySem.W.Frag} {D a : Addr} {T : String} {d : Option Addr} {b : Bool} {H : Hp} {Q : VK} (hd : d = none ∨ ∃ dd fs, d = some dd ∧ H dd = some (.xd fs)) (C0 : ExcC K D) (k : PySem.W.kitOne K (.ref D) (.type T) = some b) (q : Q (.bl b) H) : rIsB K (.ref D) d a [.ref a, .ty T] H Q :=
  ⟨D, .ty T, .type T, b, rfl, hd, C0, rfl, fun u h => h, k, q⟩
/-! ### len(set(l)) of a list of texts -/
def lenTQ (K : PySem.W.Frag) (Q : VK) : VK := fun x H1 => ∃ l, ∃ xs : List Str, x = .ref l ∧ SqL K H1 l (xs.map V.str) ∧ xs.length < 4000 ∧ Q (.int (metS xs).length) H1
def tLenTexts (K : PySem.W.Frag) (ta : TE) : TE := fun σ H Q => ta σ H (lenTQ K Q)
theorem pe_lenTexts {a : Expr} {ta : TE} {p p2 q pos : Pos} (hc : X.calm = true) (hg : Gl X "len") (hm : X.mg "len" = none) (hg2 : Gl X "set") (hm2 : X.mg "set" = none) (ha : PE X a ta)
    (na : starEach [a] X.env = (false, eval a X.env) :: starEach [] X.env := by rfl) : PE X (.Call (.Name "len" p) [.Call (.Name "set" p2) [a] [] q] [] pos) (tLenTexts X.K ta) := by
  refine ⟨fun pins s σ H Q I h => Call_ (ld_blt I hg hm boot_len (PyProof.Rows.callWith_builtin1 (PyProof.Rows.args_cons (Call_ (ld_blt I hg2 hm2 boot_set (PyProof.Rows.callWith_type1 (PyProof.Rows.args_cons (thn (ha.run pins s σ H _ I h) fun v s1 ⟨x, H1, I1, r1, q1⟩ => PyProof.Rows.args_nil ?_) na) na rfl))) rfl) rfl rfl))⟩
  obtain ⟨l, xs, rfl, hq, small, q1⟩ := q1
  cases r1
  obtain ⟨its, r, pl, _⟩ := I1.list hq
  refine call_set_texts (I1.ok.hd hc) pl.isList (xs := xs) (by simpa using strsAre_of r) small fun h' tk hz k => PyProof.Rows.args_nil ?_
  obtain ⟨o, es, ep, t, ho, ex, ed, _, _, _, fits, cnt⟩ := hz
  have few := metS_take xs xs.length
  rw [List.take_length] at few
  exact call_len_set ho ex ed fits (by rw [cnt] <;> omega) ⟨.int (metS xs).length, H1, (I1.kept k).tok _, ⟨_, by rw [cnt]⟩, q1⟩
end
section
variable {K : PySem.W.Frag} {H : Hp} {σ : L2.St} {ta : TE} {Q : VK} {R : Prop} {x y : Str} {i : Int} {Rs T : List Res} {F : Res → List Res} {p t : Addr}
instance r_minS [n : Run (Q (.str (minS x y)) H) R] : Run (rMinS [.str x, .str y] H Q) R := ⟨fun h => ⟨x, y, rfl, n.go h⟩⟩
instance r_maxS [n : Run (Q (.str (maxS x y)) H) R] : Run (rMaxS [.str x, .str y] H Q) R := ⟨fun h => ⟨x, y, rfl, n.go h⟩⟩
instance r_abs [n : Run (Q (.int (if i < 0 then -i else i)) H) R] : Run (rAbs [.int i] H Q) R := ⟨fun h => ⟨i, rfl, n.go h⟩⟩
instance r_lenTexts [n : Run (ta σ H (lenTQ K Q)) R] : Run (tLenTexts K ta σ H Q) R := ⟨fun h => n.go h⟩
theorem x_lenTQ {xs : List Str} (h : SqL K H p (xs.map V.str)) (small : xs.length < 4000) (q : Q (.int (metS xs).length) H) : lenTQ K Q (.ref p) H := ⟨p, xs, rfl, h, small, q⟩
theorem x_sortedOne [S : Sat H Rs] [f : Foc cell p (.lst [.ref t]) Rs T F] (q : ∀ a H', PK H H' → Sat H' (cell a (.lst [.ref t]) :: Rs) → Q (.ref a) H') : rSortedOne K [.ref p] H Q :=
  ⟨p, t, rfl, SqL.of S.at_, fun a ha => q a _ (PK.of_ex (Ex.new ha)) (S.new ha)⟩
theorem keys_at {kvs : List (List Key × V)} {bs : List Addr} {kds : KTs} (r : KDT H kvs kds) (k : IsKeys H kvs bs) : Paired (fun (p : List Key × PyData) b => H b = some (.tup (p.1.map kV))) kds bs := by
  induction r generalizing bs with
  | nil => cases k; exact .nil
  | cons a _ ih => cases k with | cons h t => exact .cons h (ih t)
theorem x_keysT {kds : KTs} {a : Addr} [S : Sat H Rs] [f : Foc dctT a kds Rs T F] (q : ∀ l bs H', PK H H' → Sat H' (cell l (.lst (bs.map V.ref)) :: Rs) → Paired (fun (p : List Key × PyData) b => H' b = some (.tup (p.1.map kV))) kds bs → Q (.ref l) H') : rListT [.ref a] H Q := by
  obtain ⟨kvs, e, kd⟩ := S.datT (a := a)
  refine ⟨a, kvs, rfl, .inl e, fun l bs hl kb => q l bs _ (PK.of_ex (Ex.new hl)) (S.new hl) ?_⟩
  exact Paired.mapP (keys_at kd kb) fun p b h => (PK.of_ex (Ex.new hl)).tup h
end
end G

set_option Elab.async false
set_option linter.all false
set_option maxRecDepth 100000
set_option maxHeartbeats 0
set_option synthInstance.maxHeartbeats 0
set_option synthInstance.maxSize 100000
namespace Law
open PySem PySem.Spec PyProof.Rows L2 Evl RZ G
structure Kis (K : PySem.W.Frag) : Prop where
  ec : ∀ x ∈ xcls, ExcC K (He.ga K x)
  kc : ∀ x ∈ xcls, PySem.W.exmOne K (.ref (He.ga K x)) (.ref (He.ga K "CartelError")) = some true
  kv : ∀ x ∈ xcls, PySem.W.kitOne K (.ref (He.ga K x)) (.type "ValueError") = some true
theorem kis_ok {K : PySem.W.Frag} (h : kisB K = true) : ∀ x ∈ xcls, ∀ y ∈ xcls, PySem.W.kitOne K (.ref (He.ga K x)) (.ref (He.ga K y)) = some (x == y) := fun x hx y hy =>
  of_decide_eq_true (List.all_eq_true.mp (List.all_eq_true.mp h x hx) y hy)
theorem kit1_ok {K : PySem.W.Frag} (h : kitB1 K = true) : Kis K := by
  have g : ∀ x ∈ xcls, _ := fun x hx => List.all_eq_true.mp h x hx
  exact ⟨fun x hx => excCB_ok (He.ba (g x hx)).1, fun x hx => of_decide_eq_true (He.ba (He.ba (g x hx)).2).1, fun x hx => of_decide_eq_true (He.ba (He.ba (g x hx)).2).2⟩
structure Txt (K : PySem.W.Frag) (mg : Str → Option Value) : Prop where
  m_ValueError : mg "ValueError" = none
  m_abs : mg "abs" = none
  m_all : mg "all" = none
  m_dict : mg "dict" = none
  m_int : mg "int" = none
  m_isinstance : mg "isinstance" = none
  m_len : mg "len" = none
  m_list : mg "list" = none
  m_max : mg "max" = none
  m_min : mg "min" = none
  m_range : mg "range" = none
  m_set : mg "set" = none
  m_sorted : mg "sorted" = none
  m_tuple : mg "tuple" = none
  m_zip : mg "zip" = none
  c_LAST_DAY : Ci mg "LAST_DAY" 1000000
  c_MOST_DEEDS : Ci mg "MOST_DEEDS" 120
  c_MOST_LETTERS : Ci mg "MOST_LETTERS" 8
  c_MOST_LIMIT : Ci mg "MOST_LIMIT" 1000000
  c_MOST_MEN : Ci mg "MOST_MEN" 40
  c_MOST_RANKS : Ci mg "MOST_RANKS" 6
  c_MOST_SIDES : Ci mg "MOST_SIDES" 6
  c_MOST_WORTH : Ci mg "MOST_WORTH" 10000
  x_BadDay : Xc K mg "BadDay"
  x_BadLimit : Xc K mg "BadLimit"
  x_BadName : Xc K mg "BadName"
  x_BadRank : Xc K mg "BadRank"
  x_BadTariff : Xc K mg "BadTariff"
  x_CartelError : Xc K mg "CartelError"
  x_Full : Xc K mg "Full"
  x_Gone : Xc K mg "Gone"
  x_Held : Xc K mg "Held"
  x_NoCartel : Xc K mg "NoCartel"
  x_NoDeed : Xc K mg "NoDeed"
  x_NoMan : Xc K mg "NoMan"
  x_NoMen : Xc K mg "NoMen"
  x_NoSide : Xc K mg "NoSide"
  x_NotHeld : Xc K mg "NotHeld"
  x_OffRoll : Xc K mg "OffRoll"
  x_Own : Xc K mg "Own"
  x_Taken : Xc K mg "Taken"
  x_Twice : Xc K mg "Twice"
  x_Uneven : Xc K mg "Uneven"
  g_Breaks : mg "Breaks" = some (.ref (He.ga K "Breaks"))
  ox_Breaks : OexX K (He.ga K "Breaks") (He.ma K (He.ga K "Breaks") "__init__")
  cl_Book : Cls K (He.ga K "Book")
  cl_Man : Cls K (He.ga K "Man")
  cl_Scene : Cls K (He.ga K "Scene")
  mk_Book : Mk K (He.ga K "Book") (He.ma K (He.ga K "Book") "__init__")
  g_Book : mg "Book" = some (.ref (He.ga K "Book"))
  mk_Man : Mk K (He.ga K "Man") (He.ma K (He.ga K "Man") "__init__")
  g_Man : mg "Man" = some (.ref (He.ga K "Man"))
  mk_Scene : Mk K (He.ga K "Scene") (He.ma K (He.ga K "Scene") "__init__")
  g_Scene : mg "Scene" = some (.ref (He.ga K "Scene"))
  n_Book_banners : NoAttr K (He.ga K "Book") "banners"
  n_Book_folk : NoAttr K (He.ga K "Book") "folk"
  n_Book_future : NoAttr K (He.ga K "Book") "future"
  n_Book_later : NoAttr K (He.ga K "Book") "later"
  n_Book_pacts : NoAttr K (He.ga K "Book") "pacts"
  n_Book_past : NoAttr K (He.ga K "Book") "past"
  n_Book_told : NoAttr K (He.ga K "Book") "told"
  n_Man_bonds : NoAttr K (He.ga K "Man") "bonds"
  n_Man_caught : NoAttr K (He.ga K "Man") "caught"
  n_Man_dead : NoAttr K (He.ga K "Man") "dead"
  n_Man_grade : NoAttr K (He.ga K "Man") "grade"
  n_Man_home : NoAttr K (He.ga K "Man") "home"
  n_Man_keeper : NoAttr K (He.ga K "Man") "keeper"
  n_Scene_crew : NoAttr K (He.ga K "Scene") "crew"
  n_Scene_dues : NoAttr K (He.ga K "Scene") "dues"
  n_Scene_pacts : NoAttr K (He.ga K "Scene") "pacts"
  me_Book_cartel : Meth K (He.ga K "Book") "cartel" (He.ma K (He.ga K "Book") "cartel")
  me_Book_cartels : Meth K (He.ga K "Book") "cartels" (He.ma K (He.ga K "Book") "cartels")
  me_Book_deeds : Meth K (He.ga K "Book") "deeds" (He.ma K (He.ga K "Book") "deeds")
  me_Book_die : Meth K (He.ga K "Book") "die" (He.ma K (He.ga K "Book") "die")
  me_Book_enter : Meth K (He.ga K "Book") "enter" (He.ma K (He.ga K "Book") "enter")
  me_Book_keep : Meth K (He.ga K "Book") "keep" (He.ma K (He.ga K "Book") "keep")
  me_Book_man : Meth K (He.ga K "Book") "man" (He.ma K (He.ga K "Book") "man")
  me_Book_men : Meth K (He.ga K "Book") "men" (He.ma K (He.ga K "Book") "men")
  me_Book_need_cartel : Meth K (He.ga K "Book") "need_cartel" (He.ma K (He.ga K "Book") "need_cartel")
  me_Book_need_day : Meth K (He.ga K "Book") "need_day" (He.ma K (He.ga K "Book") "need_day")
  me_Book_need_man : Meth K (He.ga K "Book") "need_man" (He.ma K (He.ga K "Book") "need_man")
  me_Book_need_side : Meth K (He.ga K "Book") "need_side" (He.ma K (He.ga K "Book") "need_side")
  me_Book_need_two : Meth K (He.ga K "Book") "need_two" (He.ma K (He.ga K "Book") "need_two")
  me_Book_of_man : Meth K (He.ga K "Book") "of_man" (He.ma K (He.ga K "Book") "of_man")
  me_Book_rank : Meth K (He.ga K "Book") "rank" (He.ma K (He.ga K "Book") "rank")
  me_Book_redate : Meth K (He.ga K "Book") "redate" (He.ma K (He.ga K "Book") "redate")
  me_Book_side : Meth K (He.ga K "Book") "side" (He.ma K (He.ga K "Book") "side")
  me_Book_sides : Meth K (He.ga K "Book") "sides" (He.ma K (He.ga K "Book") "sides")
  me_Book_state : Meth K (He.ga K "Book") "state" (He.ma K (He.ga K "Book") "state")
  me_Book_swap : Meth K (He.ga K "Book") "swap" (He.ma K (He.ga K "Book") "swap")
  me_Book_take : Meth K (He.ga K "Book") "take" (He.ma K (He.ga K "Book") "take")
  me_Book_word : Meth K (He.ga K "Book") "word" (He.ma K (He.ga K "Book") "word")
  me_Man_goes_from : Meth K (He.ga K "Man") "goes_from" (He.ma K (He.ga K "Man") "goes_from")
  me_Man_on_roll : Meth K (He.ga K "Man") "on_roll" (He.ma K (He.ga K "Man") "on_roll")
  me_Scene_befalls : Meth K (He.ga K "Scene") "befalls" (He.ma K (He.ga K "Scene") "befalls")
  me_Scene_dies : Meth K (He.ga K "Scene") "dies" (He.ma K (He.ga K "Scene") "dies")
  me_Scene_gone_over : Meth K (He.ga K "Scene") "gone_over" (He.ma K (He.ga K "Scene") "gone_over")
  me_Scene_graded : Meth K (He.ga K "Scene") "graded" (He.ma K (He.ga K "Scene") "graded")
  me_Scene_kept : Meth K (He.ga K "Scene") "kept" (He.ma K (He.ga K "Scene") "kept")
  me_Scene_let_go : Meth K (He.ga K "Scene") "let_go" (He.ma K (He.ga K "Scene") "let_go")
  me_Scene_living : Meth K (He.ga K "Scene") "living" (He.ma K (He.ga K "Scene") "living")
  me_Scene_sent : Meth K (He.ga K "Scene") "sent" (He.ma K (He.ga K "Scene") "sent")
  me_Scene_swapped : Meth K (He.ga K "Scene") "swapped" (He.ma K (He.ga K "Scene") "swapped")
  me_Scene_taken : Meth K (He.ga K "Scene") "taken" (He.ma K (He.ga K "Scene") "taken")
  s_LETTERS : Cs mg "LETTERS" "abcdefghijklmnopqrstuvwxyz"
  kis : ∀ x ∈ xcls, ∀ y ∈ xcls, PySem.W.kitOne K (.ref (He.ga K x)) (.ref (He.ga K y)) = some (x == y)
  kit1 : Kis K
  no_Breaks_number : PySem.W.findIn K (.ref (He.ga K "Breaks")) "number" = some none


/-! ### what stands in the heap -/
local macro_rules | `(tactic| walk_at "hp0") => `(tactic| (first
  | with_reducible assumption
  | with_reducible exact upd_same))
local macro_rules | `(tactic| walk_at "ne") => `(tactic| (first
  | with_reducible assumption
  | with_reducible exact Ne.symm (by with_reducible assumption)
  | ((with_reducible refine ne_fresh (o := ?o) (by with_reducible assumption) ?_); walk_at "hp0")
  | ((with_reducible refine Ne.symm (ne_fresh (o := ?o) (by with_reducible assumption) ?_)); walk_at "hp0")
  | walk_at "neb"))
local macro_rules | `(tactic| walk_at "hp") => `(tactic| (first
  | with_reducible assumption
  | with_reducible exact upd_same
  | ((with_reducible refine Eq.trans (upd_ne ?hne) ?_); (case hne => walk_at "ne"); walk_at "hp")
  | ((with_reducible refine KB.get (by with_reducible assumption) ?hne ?_); (case hne => walk_at "ne"); walk_at "hp")
  | ((with_reducible refine ex_get (by with_reducible assumption) ?_); walk_at "hp")))
local macro_rules | `(tactic| walk_at "sq") => `(tactic| (first
  | with_reducible assumption
  | ((with_reducible refine SqL.of ?_); walk_at "hp")
  | ((with_reducible refine SqT.of ?_); walk_at "hp")
  | ((with_reducible refine ex_l (Ex.new (by with_reducible assumption)) ?_); walk_at "sq")
  | ((with_reducible refine ex_t (Ex.new (by with_reducible assumption)) ?_); walk_at "sq")
  | ((with_reducible refine sqL_upd ?hne ?_); (case hne => walk_at "ne"); walk_at "sq")
  | ((with_reducible refine sqT_upd ?hne ?_); (case hne => walk_at "ne"); walk_at "sq")
  | ((with_reducible refine KB.sqL (by with_reducible assumption) ?_ ?hne); (case hne => walk_at "ne"); walk_at "sq")
  | ((with_reducible refine KB.sqT (by with_reducible assumption) ?_ ?hne); (case hne => walk_at "ne"); walk_at "sq")
  | ((with_reducible refine ex_l (by with_reducible assumption) ?_); walk_at "sq")
  | ((with_reducible refine ex_t (by with_reducible assumption) ?_); walk_at "sq")))
/-! ### grown heaps -/
local macro_rules | `(tactic| walk_at "ex") => `(tactic| (first
  | with_reducible assumption
  | with_reducible exact Ex.refl _
  | ((with_reducible refine Ex.trans ?_ (Ex.new (by with_reducible assumption))); walk_at "ex")
  | ((with_reducible refine Ex.mut ?_ (by with_reducible assumption)); walk_at "ex")
  | ((with_reducible refine Ex.trans ?_ (by with_reducible assumption)); walk_at "ex")))
local macro_rules | `(tactic| walk_at "kb") => `(tactic| (first
  | with_reducible assumption
  | with_reducible exact KB.refl
  | ((with_reducible refine KB.trans ?_ KB.upd); walk_at "kb")
  | ((with_reducible refine KB.trans ?_ (KB.new (by with_reducible assumption))); walk_at "kb")
  | ((with_reducible refine KB.mut ?_ (by with_reducible assumption)); walk_at "kb")
  | ((with_reducible refine KB.trans ?_ (by with_reducible assumption)); walk_at "kb")
  | ((with_reducible refine KB.trans ?_ (KB.of_ex (by with_reducible assumption))); walk_at "kb")))
/-! ### the steps, one after another -/
local macro_rules | `(tactic| walk_at "s1") => `(tactic| (first
  | ((with_reducible refine x_mod ?hc ?_); (case hc => omega))
  | ((with_reducible refine x_pow ?hc ?_); (case hc => (show _ ∧ _ ∧ _; decide)))
  | ((with_reducible refine x_div ?hc ?hd ?_); (case hc => omega); (case hd => omega))
  | ((with_reducible refine x_mul ?h1 ?h2 ?h3 ?h4 ?_); (case h1 => omega); (case h2 => omega); (case h3 => omega); (case h4 => omega))
  | ((with_reducible refine x_lstQ ?hz ?_); (case hz => exact Nat.le_of_ble_eq_true rfl))
  | ((with_reducible refine x_tupQ ?hz ?_); (case hz => exact Nat.le_of_ble_eq_true rfl))
  | ((with_reducible refine x_ixLn (xs := ?xs) (v := ?v) ?hs ?h0 ?ha ?_); (case h0 => decide); (case hs => walk_at "sq"); (case ha => exact rfl))
  | ((with_reducible refine x_ixTn (xs := ?xs) (v := ?v) ?hs ?h0 ?ha ?_); (case h0 => decide); (case hs => walk_at "sq"); (case ha => exact rfl))
  | ((with_reducible refine x_lenL (xs := ?xs) ?hs ?_); (case hs => walk_at "sq"))
  | ((with_reducible refine x_lenT (xs := ?xs) ?hs ?_); (case hs => walk_at "sq"))
  | ((with_reducible refine x_setLn (xs := ?xs) ?hs ?h0 ?ha ?_); (case h0 => decide); (case hs => walk_at "hp"); (case ha => exact rfl))
  | ((with_reducible refine x_listL (xs := ?xs) ?hs ?_); (case hs => walk_at "sq"))
  | ((with_reducible refine x_bmL (xs := ?xs) ?hs ?_); (case hs => walk_at "sq"))
  | ((with_reducible refine x_bm0L (xs := ?xs) ?hs ?_); (case hs => walk_at "sq"))
  | ((with_reducible refine x_gTup (xs := ?xs) ?hs ?hn ?_); (case hs => walk_at "sq"); (case hn => exact rfl))
  | ((with_reducible refine x_asgT (xs := ?xs) ?hs ?hn ?_); (case hs => walk_at "sq"); (case hn => exact rfl))
  | ((with_reducible refine x_lcTg ?hw ?_); (case hw => exact rfl))))
local macro_rules | `(tactic| walk_at "sx") => `(tactic| ((refine run ?_); (repeat (walk_at "s1"; (refine run ?_)))))

/-! ### the box of the script's draws -/
abbrev s__law_mixed : Stmt := top 51
abbrev N__law_mixed : List Str := ["_law_number", "_law_turn", "_law_one"]
theorem sc__law_mixed : FnScope N__law_mixed ["_law_number", "_law_turn"] (defScope s__law_mixed) := ⟨rfl, rfl, rfl, by decide +kernel, rfl, by decide +kernel, by decide +kernel⟩
abbrev s__law_take : Stmt := top 52
abbrev N__law_take : List Str := ["_law_box_here", "_law_size", "_law_left", "_law_cell"]
theorem sc__law_take : FnScope N__law_take ["_law_box_here", "_law_size"] (defScope s__law_take) := ⟨rfl, rfl, rfl, by decide +kernel, rfl, by decide +kernel, by decide +kernel⟩
abbrev s__law_box : Stmt := top 50
abbrev N__law_box : List Str := ["_law_script", "_law_seed", "_law_cell"]
theorem sc__law_box : FnScope N__law_box ["_law_script"] (defScope s__law_box) := ⟨rfl, rfl, rfl, by decide +kernel, rfl, by decide +kernel, by decide +kernel⟩

def spMixed : Sp := fun vs H Q _ => ∃ n t : Int, vs = [.int n, .int t] ∧ Builtin.Int.intBits n ≤ 1048576 ∧ 0 ≤ t ∧ t ≤ 2 ^ 61 ∧ ∀ r : Int, Q (.int r) H
/-- the box at b: the script's copy at l, the next place, what is left of a cell, how often it was asked (at most n times), the seed -/
structure BoxAt (H : Hp) (b l : Addr) (n : Nat) : Prop where
  ex : ∃ (i k t s : Int) (ns : List Int), H b = some (.lst [.ref l, .int i, .int k, .int t, .int s]) ∧ H l = some (.lst (ns.map V.int)) ∧ l ≠ b ∧ (∀ z ∈ ns, Builtin.Int.intBits z ≤ 1048576) ∧ 0 ≤ i ∧ 0 ≤ t ∧ t ≤ (n : Int) ∧ 0 ≤ s ∧ s < 2147483647
theorem BoxAt.some {H : Hp} {b l : Addr} {n : Nat} (h : BoxAt H b l n) : ∃ o, H b = some o := by
  obtain ⟨_, _, _, _, _, e, _⟩ := h.ex
  exact ⟨_, e⟩
theorem BoxAt.mono {H : Hp} {b l : Addr} {n m : Nat} (h : BoxAt H b l n) (hm : n ≤ m) : BoxAt H b l m := by
  obtain ⟨i, k, t, s, ns, e1, e2, e3, e4, e5, e6, e7, e8⟩ := h.ex
  exact ⟨i, k, t, s, ns, e1, e2, e3, e4, e5, e6, by omega, e8⟩
theorem BoxAt.ex' {H H' : Hp} {b l : Addr} {n : Nat} (h : BoxAt H b l n) (e : Ex H H') : BoxAt H' b l n := by
  obtain ⟨i, k, t, s, ns, e1, e2, e3⟩ := h.ex
  exact ⟨i, k, t, s, ns, e _ _ e1, e _ _ e2, e3⟩
theorem BoxAt.exr {H H' : Hp} {b l : Addr} {n : Nat} (e : Ex H H') (h : BoxAt H b l n) : BoxAt H' b l n := h.ex' e
theorem BoxAt.upd {H : Hp} {b l p : Addr} {n : Nat} {o : HO} (h : BoxAt H b l n) (h1 : p ≠ b) (h2 : p ≠ l) : BoxAt (L2.upd H p o) b l n := by
  obtain ⟨i, k, t, s, ns, e1, e2, e3⟩ := h.ex
  exact ⟨i, k, t, s, ns, by rw [upd_ne h1.symm]; exact e1, by rw [upd_ne h2.symm]; exact e2, e3⟩
theorem BoxAt.ne1 {H : Hp} {b l p : Addr} {n : Nat} (hp : H p = none) (h : BoxAt H b l n) : p ≠ b := by
  obtain ⟨_, _, _, _, _, e, _⟩ := h.ex
  exact ne_fresh hp e
theorem BoxAt.ne2 {H : Hp} {b l p : Addr} {n : Nat} (hp : H p = none) (h : BoxAt H b l n) : p ≠ l := by
  obtain ⟨_, _, _, _, _, _, e, _⟩ := h.ex
  exact ne_fresh hp e
def spTake : Sp := fun vs H Q _ => ∃ (b l : Addr) (z : Int) (n : Nat), vs = [.ref b, .int z] ∧ 0 < z ∧ z < 2 ^ 64 ∧ BoxAt H b l n ∧ n ≤ 2 ^ 60 ∧
  ∀ (r : Int) (H' : Hp), 0 ≤ r → r < z → KB b H H' → BoxAt H' b l (n + 1) → Q (.int r) H'
def spBox (K : PySem.W.Frag) : Sp := fun vs H Q _ => ∃ (a : Addr) (ns : List Int), vs = [.ref a] ∧ SqL K H a (ns.map V.int) ∧ (∀ z ∈ ns, Builtin.Int.intBits z ≤ 1048576) ∧
  ∀ (b l : Addr) (H' : Hp), H b = none → H l = none → Ex H H' → BoxAt H' b l 0 → Q (.ref b) H'
section
variable {P : Program} {w : World} {K : PySem.W.Frag} {mg : Str → Option Value} {base : Heap}
theorem D_mixed (F : Df K mg "_law_mixed" s__law_mixed) : Dn P w K mg base CX0 1 "_law_mixed" ["_law_number", "_law_turn"] spMixed := by
  refine F.dn sc__law_mixed (fun _ _ _ _ _ _ us hl => match us, hl with | [_, _], _ => rfl) (fun vs H Q E h => ?_) (fun f cdv A outer s H vs Q E hr hK h => ?_)
  · obtain ⟨n, t, rfl, _⟩ := h
    rfl
  · obtain ⟨n, t, rfl, hn, ht, ht2, k⟩ := h
    refine ⟨_, (pss_cons (ps_set (i := 2) sc__law_mixed.nd rfl (Or.inl rfl) (pe_op op_mod (pe_op op_add (pe_op op_add (pe_op op_mulB (pv 0) pe_int) (pe_op op_mulB (pv 1) pe_int)) pe_int) pe_int))
      (pss_one (ps_ret (pe_op op_fdivW (pe_op op_mod (pe_op op_add (pe_op op_add (pe_op op_mulB (pv 2) (pe_op op_add (pe_op op_mod (pv 2) pe_int) pe_int)) (pe_op op_mulB (pv 1) pe_int)) (pe_op op_mod (pe_op op_fdivW (pv 0) pe_int) pe_int)) pe_int) pe_int)))), ?_⟩
    try rw [hK]
    rw [show L2.start N__law_mixed [.int n, .int t] = [some (.int n), some (.int t), none] from rfl]
    walk_at "sx"
    refine x_mulB (by unfold CMulX; have e : Builtin.Int.intBits 7919 = 13 := by decide
                      omega) ?_
    walk_at "sx"
    have h1 : 0 ≤ (n * 7919 + t * 104729 + 17) % 2147483647 := by omega
    have h2 : (n * 7919 + t * 104729 + 17) % 2147483647 < 2147483647 := by omega
    generalize (n * 7919 + t * 104729 + 17) % 2147483647 = m at h1 h2 ⊢
    walk_at "sx"
    exact k _
theorem D_take (T : Txt K mg) (D__law_mixed : Dn P w K mg base CX0 1 "_law_mixed" ["_law_number", "_law_turn"] spMixed) (F : Df K mg "_law_take" s__law_take) : Dn P w K mg base CX0 2 "_law_take" ["_law_box_here", "_law_size"] spTake := by
  refine F.dn sc__law_take (fun _ _ _ _ _ _ us hl => match us, hl with | [_, _], _ => rfl) (fun vs H Q E h => ?_) (fun f cdv A outer s H vs Q E hr hK h => ?_)
  · obtain ⟨b, l, z, n, rfl, _⟩ := h
    rfl
  · obtain ⟨b, l, z, n, rfl, hz, hz2, B, hn, q⟩ := h
    obtain ⟨i, k, t, s, ns, hb, hl, hlb, hbits, hi, ht, htn, hs0, hs1⟩ := B.ex
    refine ⟨_, (pss_cons (ps_asg (pe_op op_add (pe_ix ix_list (pv 0) pe_int (fun _ _ => rfl)) pe_int) (pg_sub (pv 0) pe_int set_list))
      (pss_cons (ps_if (pt_cmpR op_gt (pe_ix ix_list (pv 0) pe_int (fun _ _ => rfl)) pe_int (nomark _)) (pss_cons (ps_set (i := 2) sc__law_take.nd rfl (Or.inl rfl) (pe_ix ix_list (pv 0) pe_int (fun _ _ => rfl)))
      (pss_cons (ps_asg (pe_op op_fdivW (pv 2) (pv 1)) (pg_sub (pv 0) pe_int set_list))
      (pss_one (ps_ret (pe_op op_mod (pv 2) (pv 1)))))) pss_nil)
      (pss_cons (ps_if (pt_cmpR op_ge (pe_ix ix_list (pv 0) pe_int (fun _ _ => rfl)) (pe_callB g_len rfl T.m_len boot_len (pa_cons (pe_ix ix_list (pv 0) pe_int (fun _ _ => rfl)) pa_nil)) (nomark _)) (pss_one (ps_ret (pe_op op_mod (pe_dn D__law_mixed (hr.mono (by first | decide | omega)) pass0 (pa_cons (pe_ix ix_list (pv 0) pe_int (fun _ _ => rfl)) (pa_cons (pe_ix ix_list (pv 0) pe_int (fun _ _ => rfl)) pa_nil))) (pv 1)))) pss_nil)
      (pss_cons (ps_set (i := 3) sc__law_take.nd rfl (Or.inl rfl) (pe_ix ix_list (pe_ix ix_list (pv 0) pe_int (fun _ _ => rfl)) (pe_ix ix_list (pv 0) pe_int (fun _ _ => rfl)) (fun _ _ => rfl)))
      (pss_cons (ps_asg (pe_op op_add (pe_ix ix_list (pv 0) pe_int (fun _ _ => rfl)) pe_int) (pg_sub (pv 0) pe_int set_list))
      (pss_cons (ps_if (pt_cmpR op_lt (pv 3) (pe_op op_pow pe_int pe_int) (nomark _)) (pss_one (ps_ret (pe_op op_mod (pe_dn D__law_mixed (hr.mono (by first | decide | omega)) pass0 (pa_cons (pv 3) (pa_cons (pe_ix ix_list (pv 0) pe_int (fun _ _ => rfl)) pa_nil))) (pv 1)))) pss_nil)
      (pss_cons (ps_asg (pe_op op_fdivW (pv 3) (pv 1)) (pg_sub (pv 0) pe_int set_list))
      (pss_one (ps_ret (pe_op op_mod (pv 3) (pv 1))))))))))), ?_⟩
    try rw [hK]
    rw [show L2.start N__law_take [.ref b, .int z] = [some (.ref b), some (.int z), none, none] from rfl]
    walk_at "sx"
    have fin : ∀ (r i' k' : Int) (H' : Hp), 0 ≤ i' → H' b = some (.lst [.ref l, .int i', .int k', .int (t + 1), .int s]) → KB b H H' → Q (.int (r % z)) H' := fun r i' k' H' hi' e kb =>
      q _ _ (Int.emod_nonneg _ (by omega)) (Int.emod_lt_of_pos _ hz) kb ⟨i', k', t + 1, s, ns, e, kb.get hlb hl, hlb, hbits, hi', by omega, by omega, hs0, hs1⟩
    have hs := bits_of (i := s) (by omega) (by omega)
    refine x_ifQ (fun c => ?_) (fun _ => ?_)
    · walk_at "sx"
      exact fin _ i _ _ hi upd_same (KB.trans KB.upd KB.upd)
    · walk_at "sx"
      refine x_ifQ (fun c => ?_) (fun c => ?_)
      · walk_at "sx"
        refine ⟨_, _, rfl, hs, by omega, by omega, fun r => ?_⟩
        walk_at "sx"
        exact fin _ i k _ hi upd_same KB.upd
      · walk_at "sx"
        have c2 := of_decide_eq_false c
        rw [List.length_map] at c2
        have hlt : i.toNat < ns.length := by omega
        have hat : atI (ns.map V.int) i = some (.int ns[i.toNat]) := at_of (j := i.toNat) (by omega) (by rw [List.getElem?_map, List.getElem?_eq_getElem hlt]; rfl)
        refine x_ixL (by walk_at "sq") hat ?_
        walk_at "sx"
        refine x_ifQ (fun _ => ?_) (fun _ => ?_)
        · walk_at "sx"
          refine ⟨_, _, rfl, hbits _ (List.getElem_mem hlt), by omega, by omega, fun r => ?_⟩
          walk_at "sx"
          exact fin _ (i + 1) k _ (by omega) upd_same (KB.trans KB.upd KB.upd)
        · walk_at "sx"
          exact fin _ (i + 1) _ _ (by omega) upd_same (KB.trans KB.upd (KB.trans KB.upd KB.upd))
theorem D_box (T : Txt K mg) (F : Df K mg "_law_box" s__law_box) : Dn P w K mg base CX0 1 "_law_box" ["_law_script"] (spBox K) := by
  refine F.dn sc__law_box (fun _ _ _ _ _ _ us hl => match us, hl with | [_], _ => rfl) (fun vs H Q E h => ?_) (fun f cdv A outer s H vs Q E hr hK h => ?_)
  · obtain ⟨a, ns, rfl, _⟩ := h
    rfl
  · obtain ⟨a, ns, rfl, hS, hb, q⟩ := h
    refine ⟨_, (pss_cons (ps_set (i := 1) sc__law_box.nd rfl (Or.inl rfl) pe_int)
      (pss_cons (ps_for PassesOwn.never rfl (pi_list (pv 0)) (pg_name (i := 2) sc__law_box.nd rfl (Or.inl rfl)) (pss_one (ps_set (i := 1) sc__law_box.nd rfl (Or.inl rfl) (pe_op op_mod (pe_op op_add (pe_op op_add (pe_op op_mulB (pv 1) pe_int) (pe_op op_mod (pv 2) pe_int)) pe_int) pe_int))))
      (pss_one (ps_ret (pe_lst (pa_cons (pe_callTy g_list rfl T.m_list boot_list (pa_cons (pv 0) pa_nil)) (pa_cons pe_int (pa_cons pe_int (pa_cons pe_int (pa_cons (pv 1) pa_nil)))))))))), ?_⟩
    try rw [hK]
    rw [show L2.start N__law_box [.ref a] = [some (.ref a), none, none] from rfl]
    walk_at "sx"
    refine x_iLQ hS ?_
    refine x_forQ walk_list (fun i σ H' => H' = H ∧ ∃ (z : Int) (v : Option V), σ = [some (.ref a), some (.int z), v] ∧ 0 ≤ z ∧ z < 2147483647) ⟨rfl, 7, none, rfl, by decide, by decide⟩ (fun i σ H' _ p => by rw [p.1]; exact hS) ?_ ?_
    · rintro i x σ H1 H2 hi ⟨rfl, z, v, rfl, hz0, hz1⟩ ⟨rfl, hx⟩
      obtain ⟨u, rfl⟩ : ∃ u, x = V.int u := by
        rw [List.getElem?_map] at hx
        cases e : ns[i]? with
        | none => rw [e] at hx; cases hx
        | some u => rw [e] at hx; exact ⟨u, (Option.some.inj hx).symm⟩
      walk_at "sx"
      exact ⟨rfl, _, _, rfl, by omega, by omega⟩
    · rintro σ H' ⟨rfl, z, v, rfl, hz0, hz1⟩
      walk_at "sx"
      intro l hl
      walk_at "sx"
      intro b hb'
      have hbl : l ≠ b := ne_of_none upd_same hb'
      exact q b l _ (Same.free (Ex.new hl) hb') hl ((Ex.new hl).trans (Ex.new hb')) ⟨0, 0, 0, z, ns, upd_same, by rw [upd_ne hbl]; exact upd_same, hbl, hb, by decide, by decide, by decide, hz0, hz1⟩
end

theorem x_take {H : Hp} {Q : VK} {E : XK} {b l : Addr} {z : Int} {n : Nat} (B : BoxAt H b l n) (hz : 0 < z) (hz2 : z < 2 ^ 64) (hn : n ≤ 2 ^ 60) (k : ∀ (r : Int) (H' : Hp), 0 ≤ r → r < z → KB b H H' → BoxAt H' b l (n + 1) → Q (.int r) H') : spTake [.ref b, .int z] H Q E :=
  ⟨b, l, z, n, rfl, hz, hz2, B, hn, k⟩

local macro_rules | `(tactic| walk_at "box") => `(tactic| (with_reducible assumption))
local macro_rules | `(tactic| walk_at "neb") => `(tactic| (first
  | with_reducible exact BoxAt.ne1 (by with_reducible assumption) (by with_reducible assumption)
  | with_reducible exact BoxAt.ne2 (by with_reducible assumption) (by with_reducible assumption)
  | with_reducible exact Ne.symm (BoxAt.ne1 (by with_reducible assumption) (by with_reducible assumption))
  | with_reducible exact Ne.symm (BoxAt.ne2 (by with_reducible assumption) (by with_reducible assumption))))

/-! ### steps over parts -/
local macro_rules | `(tactic| walk_at "pk") => `(tactic| (first
  | with_reducible assumption
  | with_reducible exact PK.refl
  | ((with_reducible refine PK.trans ?_ (by with_reducible assumption)); walk_at "pk")))
local macro_rules | `(tactic| walk_at "pt") => `(tactic| (first
  | with_reducible assumption
  | ((with_reducible refine PK.tup ?hpk (by with_reducible assumption)); (case hpk => walk_at "pk"))))
local macro_rules | `(tactic| walk_at "tpa") => `(tactic| (first
  | with_reducible exact TpAll.nil
  | ((with_reducible refine TpAll.cons ?h3 ?h4); (case h3 => walk_at "tp"); (case h4 => walk_at "tpa"))))
local macro_rules | `(tactic| walk_at "tp") => `(tactic| (first
  | with_reducible assumption
  | with_reducible exact Tp.int _
  | with_reducible exact Tp.str _
  | with_reducible exact Tp.bl _
  | with_reducible exact Tp.non
  | ((with_reducible refine Tp.tup (xs := ?xs) ?h1 ?h2); (case h1 => walk_at "pt"); (case h2 => walk_at "tpa"))
  | ((with_reducible refine Tp.pk ?hpk2 (by with_reducible assumption)); (case hpk2 => walk_at "pk"))))
local macro_rules | `(tactic| walk_at "sq") => `(tactic| (first
  | with_reducible assumption
  | exact SqL.of sat_at
  | ((with_reducible refine SqT.of ?_); walk_at "pt")))
local macro_rules | `(tactic| walk_at "s1") => `(tactic| (first
  | ((with_reducible refine x_sf ?_); intro _ _ _)
  | ((with_reducible refine x_dnewS ?_); intro _ _ _ _)
  | ((with_reducible refine x_dictS ?_); intro _ _ _ _)
  | ((with_reducible refine x_listDS ?_); intro _ _ _ _)
  | ((with_reducible refine x_lstS ?hz ?_); (case hz => exact Nat.le_of_ble_eq_true rfl); intro _ _ _ _)
  | ((with_reducible refine x_tupS ?hz ?_); (case hz => exact Nat.le_of_ble_eq_true rfl); intro _ _ _ _ _)
  | ((with_reducible refine x_make ?_); intro _ _ _ _ _)
  | ((with_reducible refine x_ixTn (xs := ?xs) (v := ?v) ?hs ?h0 ?ha ?_); (case h0 => decide); (case hs => walk_at "sq"); (case ha => exact rfl))
  | ((with_reducible refine x_asgT (xs := ?xs) ?hs ?hn ?_); (case hs => walk_at "sq"); (case hn => exact rfl))
  | ((with_reducible refine x_gTup (xs := ?xs) ?hs ?hn ?_); (case hs => walk_at "sq"); (case hn => exact rfl))
  | ((with_reducible refine x_lcTg ?hw ?_); (case hw => exact rfl))))
local macro_rules | `(tactic| walk_at "sx") => `(tactic| ((refine run ?_); (repeat (walk_at "s1"; (refine run ?_)))))

/-! ### names, good and bad -/
abbrev s_all_in : Stmt := top 39
abbrev N_all_in : List Str := ["word", "signs", "sign"]
theorem sc_all_in : FnScope N_all_in ["word", "signs"] (defScope s_all_in) := ⟨rfl, rfl, rfl, by decide +kernel, rfl, by decide +kernel, by decide +kernel⟩
abbrev s_is_name : Stmt := top 40
abbrev N_is_name : List Str := ["word"]
theorem sc_is_name : FnScope N_is_name ["word"] (defScope s_is_name) := ⟨rfl, rfl, rfl, by decide +kernel, rfl, by decide +kernel, by decide +kernel⟩

structure Nm (z : Str) : Prop where
  pos : 1 ≤ z.length
  len : z.length ≤ 8
  all : ∀ (i c : Nat), z.cps[i]? = some c → 97 ≤ c ∧ c ≤ 122
abbrev letters : Str := "abcdefghijklmnopqrstuvwxyz"
def inL (c : Nat) : Bool := decide (c ∈ letters.cps.toList)
def isN (z : Str) : Bool := decide (z.length ≤ 8) && (decide (0 < z.length) && z.cps.toList.all inL)
def spAllIn : Sp := fun vs H Q _ => ∃ z : Str, vs = [.str z, .str letters] ∧ z.length ≤ 1000 ∧ ∀ H', Ex H H' → Q (.bl (decide (0 < z.length) && z.cps.toList.all inL)) H'
def spIsName : Sp := fun vs H Q _ => ∃ z : Str, vs = [.str z] ∧ z.length ≤ 1000 ∧ ∀ H', Ex H H' → Q (.bl (isN z)) H'
theorem all_range (a : Array Nat) (p : Nat → Bool) : (List.range a.size).all (fun i => (match a[i]? with | some c => p c | none => true)) = a.toList.all p := by
  rw [Bool.eq_iff_iff, List.all_eq_true, List.all_eq_true]
  constructor
  · intro h c hc
    obtain ⟨i, hi⟩ := List.getElem?_of_mem hc
    have hi2 := (List.getElem?_eq_some_iff.mp hi).1
    rw [Array.getElem?_toList] at hi
    have := h i (List.mem_range.mpr (by simpa using hi2))
    rw [hi] at this
    exact this
  · intro h i hi
    cases e : a[i]? with
    | none => rfl
    | some c => exact h c (by rw [← Array.getElem?_toList] at e; exact List.mem_of_getElem? e)
section
variable {P : Program} {w : World} {K : PySem.W.Frag} {mg : Str → Option Value} {base : Heap}
theorem D_all_in (T : Txt K mg) (F : Df K mg "all_in" s_all_in) : Dn P w K mg base CX0 1 "all_in" ["word", "signs"] spAllIn := by
  refine F.dn sc_all_in (fun _ _ _ _ _ _ us hl => match us, hl with | [_, _], _ => rfl) (fun vs H Q E h => ?_) (fun f cdv A outer s H vs Q E hr hK h => ?_)
  · obtain ⟨z, rfl, _⟩ := h
    rfl
  · obtain ⟨z, rfl, h2, k⟩ := h
    refine ⟨_, (pss_one (ps_ret (pe_and (pe_cmpR op_gt (pe_callB g_lenS rfl T.m_len boot_len (pa_cons (pv 0) pa_nil)) pe_int (nomark _)) (pe_one (pe_callB (cr_all rfl) rfl T.m_all boot_all (pa_cons (pe_lc (own := [("sign", 2)]) (g := gName 2) (tt := tYes) rfl sc_all_in.nd (pi_str (pv 0)) (blkOk_by (own := [("sign", 2)]) (N := N_all_in) (sc := defScope s_all_in) (by decide +kernel)) (fun _ _ _ _ _ => pg_name (i := 2) sc_all_in.nd rfl (Or.inl rfl)) (fun _ _ _ _ _ => pts_nil) (fun _ _ _ _ _ => (pe_cmpR op_in_sign (pv 2) (pv 1) rfl))) pa_nil)))))), ?_⟩
    try rw [hK]
    rw [show L2.start N_all_in [.str z, .str letters] = [some (.str z), some (.str letters), none] from rfl]
    have hz : z.length ≤ sizeLine := by rw [sizeLine_eq]; omega
    have hz2 : z.cps.size ≤ sizeLine := hz
    walk_at "sx"
    refine x_lenS hz ?_
    walk_at "sx"
    refine x_andVD (fun c => ?_) (fun c => ?_)
    · walk_at "sx"
      refine x_lcMap walk_str (fun i => V.bl (match z.cps[i]? with | some c => inL c | none => true)) hz2 (fun _ _ => trivial) (fun Dl i x H1 H2 Nx hi e1 y k2 => ?_) (fun i x H1 H2 hi e1 y => by rw [y.1]; exact Ex.refl _) (fun Dl H' _ e hD => ?_)
      · obtain ⟨rfl, c, hc, rfl⟩ := y
        walk_at "sx"
        refine ⟨c, letters, rfl, rfl, ?_⟩
        have e2 : (match z.cps[i]? with | some c => inL c | none => true) = decide (c ∈ letters.cps.toList) := by rw [hc]; rfl
        rw [← e2]
        exact k2 _ (Ex.refl _)
      · walk_at "sx"
        refine x_allMap (g := fun i => (match z.cps[i]? with | some c => inL c | none => true)) hD ?_
        have e1 : (List.range z.cps.size).all (fun i => (match z.cps[i]? with | some c => inL c | none => true)) = (decide (0 < z.length) && z.cps.toList.all inL) := by
          rw [decide_eq_true (show 0 < z.length by omega), Bool.true_and]
          exact all_range z.cps inL
        rw [e1]
        exact k _ e
    · have e1 : (decide (0 < z.length) && z.cps.toList.all inL) = false := by rw [decide_eq_false (show ¬ 0 < z.length by omega)]; rfl
      rw [← e1]
      exact k _ (Ex.refl _)
theorem D_is_name (T : Txt K mg) (D_all_in : Dn P w K mg base CX0 1 "all_in" ["word", "signs"] spAllIn) (F : Df K mg "is_name" s_is_name) : Dn P w K mg base CX0 2 "is_name" ["word"] spIsName := by
  refine F.dn sc_is_name (fun _ _ _ _ _ _ us hl => match us, hl with | [_], _ => rfl) (fun vs H Q E h => ?_) (fun f cdv A outer s H vs Q E hr hK h => ?_)
  · obtain ⟨z, rfl, _⟩ := h
    rfl
  · obtain ⟨z, rfl, h2, k⟩ := h
    refine ⟨_, (pss_one (ps_ret (pe_and (pe_cmpR op_le (pe_callB g_lenS rfl T.m_len boot_len (pa_cons (pv 0) pa_nil)) (pe_cst T.c_MOST_LETTERS) (nomark _)) (pe_one (pe_dn D_all_in (hr.mono (by first | decide | omega)) pass0 (pa_cons (pv 0) (pa_cons (pe_csts T.s_LETTERS) pa_nil))))))), ?_⟩
    try rw [hK]
    rw [show L2.start N_is_name [.str z] = [some (.str z)] from rfl]
    have hz : z.length ≤ sizeLine := by rw [sizeLine_eq]; omega
    walk_at "sx"
    refine x_lenS hz ?_
    walk_at "sx"
    refine x_andVD (fun c => ?_) (fun c => ?_)
    · walk_at "sx"
      refine ⟨z, rfl, h2, fun H' e => ?_⟩
      have e1 : (decide (0 < z.length) && z.cps.toList.all inL) = isN z := by unfold isN; rw [decide_eq_true (show z.length ≤ 8 by omega), Bool.true_and]
      rw [e1]
      exact k _ e
    · have e1 : isN z = false := by unfold isN; rw [decide_eq_false (show ¬ z.length ≤ 8 by omega), Bool.false_and]
      rw [← e1]
      exact k _ (Ex.refl _)
end

def fsBook (a0 a1 a2 a3 a4 a5 a6 : V) : List (Str × V) := [("banners", a0), ("folk", a1), ("pacts", a2), ("told", a3), ("later", a4), ("past", a5), ("future", a6)]
section
variable {y a0 a1 a2 a3 a4 a5 a6 : V}
instance lk_Book_banners : Lk "banners" (fsBook a0 a1 a2 a3 a4 a5 a6) a0 := ⟨rfl⟩
instance pt_Book_banners : Pt "banners" y (fsBook a0 a1 a2 a3 a4 a5 a6) (fsBook y a1 a2 a3 a4 a5 a6) := ⟨rfl, by show 7 < 1000; decide⟩
instance pi_Book_banners : Pt "banners" y [] [("banners", y)] := ⟨rfl, by show 0 < 1000; decide⟩
instance lk_Book_folk : Lk "folk" (fsBook a0 a1 a2 a3 a4 a5 a6) a1 := ⟨rfl⟩
instance pt_Book_folk : Pt "folk" y (fsBook a0 a1 a2 a3 a4 a5 a6) (fsBook a0 y a2 a3 a4 a5 a6) := ⟨rfl, by show 7 < 1000; decide⟩
instance pi_Book_folk : Pt "folk" y [("banners", a0)] [("banners", a0), ("folk", y)] := ⟨rfl, by show 1 < 1000; decide⟩
instance li_Book_folk_banners : Lk "banners" [("banners", a0)] a0 := ⟨rfl⟩
instance lk_Book_pacts : Lk "pacts" (fsBook a0 a1 a2 a3 a4 a5 a6) a2 := ⟨rfl⟩
instance pt_Book_pacts : Pt "pacts" y (fsBook a0 a1 a2 a3 a4 a5 a6) (fsBook a0 a1 y a3 a4 a5 a6) := ⟨rfl, by show 7 < 1000; decide⟩
instance pi_Book_pacts : Pt "pacts" y [("banners", a0), ("folk", a1)] [("banners", a0), ("folk", a1), ("pacts", y)] := ⟨rfl, by show 2 < 1000; decide⟩
instance li_Book_pacts_banners : Lk "banners" [("banners", a0), ("folk", a1)] a0 := ⟨rfl⟩
instance li_Book_pacts_folk : Lk "folk" [("banners", a0), ("folk", a1)] a1 := ⟨rfl⟩
instance lk_Book_told : Lk "told" (fsBook a0 a1 a2 a3 a4 a5 a6) a3 := ⟨rfl⟩
instance pt_Book_told : Pt "told" y (fsBook a0 a1 a2 a3 a4 a5 a6) (fsBook a0 a1 a2 y a4 a5 a6) := ⟨rfl, by show 7 < 1000; decide⟩
instance pi_Book_told : Pt "told" y [("banners", a0), ("folk", a1), ("pacts", a2)] [("banners", a0), ("folk", a1), ("pacts", a2), ("told", y)] := ⟨rfl, by show 3 < 1000; decide⟩
instance li_Book_told_banners : Lk "banners" [("banners", a0), ("folk", a1), ("pacts", a2)] a0 := ⟨rfl⟩
instance li_Book_told_folk : Lk "folk" [("banners", a0), ("folk", a1), ("pacts", a2)] a1 := ⟨rfl⟩
instance li_Book_told_pacts : Lk "pacts" [("banners", a0), ("folk", a1), ("pacts", a2)] a2 := ⟨rfl⟩
instance lk_Book_later : Lk "later" (fsBook a0 a1 a2 a3 a4 a5 a6) a4 := ⟨rfl⟩
instance pt_Book_later : Pt "later" y (fsBook a0 a1 a2 a3 a4 a5 a6) (fsBook a0 a1 a2 a3 y a5 a6) := ⟨rfl, by show 7 < 1000; decide⟩
instance pi_Book_later : Pt "later" y [("banners", a0), ("folk", a1), ("pacts", a2), ("told", a3)] [("banners", a0), ("folk", a1), ("pacts", a2), ("told", a3), ("later", y)] := ⟨rfl, by show 4 < 1000; decide⟩
instance li_Book_later_banners : Lk "banners" [("banners", a0), ("folk", a1), ("pacts", a2), ("told", a3)] a0 := ⟨rfl⟩
instance li_Book_later_folk : Lk "folk" [("banners", a0), ("folk", a1), ("pacts", a2), ("told", a3)] a1 := ⟨rfl⟩
instance li_Book_later_pacts : Lk "pacts" [("banners", a0), ("folk", a1), ("pacts", a2), ("told", a3)] a2 := ⟨rfl⟩
instance li_Book_later_told : Lk "told" [("banners", a0), ("folk", a1), ("pacts", a2), ("told", a3)] a3 := ⟨rfl⟩
instance lk_Book_past : Lk "past" (fsBook a0 a1 a2 a3 a4 a5 a6) a5 := ⟨rfl⟩
instance pt_Book_past : Pt "past" y (fsBook a0 a1 a2 a3 a4 a5 a6) (fsBook a0 a1 a2 a3 a4 y a6) := ⟨rfl, by show 7 < 1000; decide⟩
instance pi_Book_past : Pt "past" y [("banners", a0), ("folk", a1), ("pacts", a2), ("told", a3), ("later", a4)] [("banners", a0), ("folk", a1), ("pacts", a2), ("told", a3), ("later", a4), ("past", y)] := ⟨rfl, by show 5 < 1000; decide⟩
instance li_Book_past_banners : Lk "banners" [("banners", a0), ("folk", a1), ("pacts", a2), ("told", a3), ("later", a4)] a0 := ⟨rfl⟩
instance li_Book_past_folk : Lk "folk" [("banners", a0), ("folk", a1), ("pacts", a2), ("told", a3), ("later", a4)] a1 := ⟨rfl⟩
instance li_Book_past_pacts : Lk "pacts" [("banners", a0), ("folk", a1), ("pacts", a2), ("told", a3), ("later", a4)] a2 := ⟨rfl⟩
instance li_Book_past_told : Lk "told" [("banners", a0), ("folk", a1), ("pacts", a2), ("told", a3), ("later", a4)] a3 := ⟨rfl⟩
instance li_Book_past_later : Lk "later" [("banners", a0), ("folk", a1), ("pacts", a2), ("told", a3), ("later", a4)] a4 := ⟨rfl⟩
instance lk_Book_future : Lk "future" (fsBook a0 a1 a2 a3 a4 a5 a6) a6 := ⟨rfl⟩
instance pt_Book_future : Pt "future" y (fsBook a0 a1 a2 a3 a4 a5 a6) (fsBook a0 a1 a2 a3 a4 a5 y) := ⟨rfl, by show 7 < 1000; decide⟩
instance pi_Book_future : Pt "future" y [("banners", a0), ("folk", a1), ("pacts", a2), ("told", a3), ("later", a4), ("past", a5)] (fsBook a0 a1 a2 a3 a4 a5 y) := ⟨rfl, by show 6 < 1000; decide⟩
instance li_Book_future_banners : Lk "banners" [("banners", a0), ("folk", a1), ("pacts", a2), ("told", a3), ("later", a4), ("past", a5)] a0 := ⟨rfl⟩
instance li_Book_future_folk : Lk "folk" [("banners", a0), ("folk", a1), ("pacts", a2), ("told", a3), ("later", a4), ("past", a5)] a1 := ⟨rfl⟩
instance li_Book_future_pacts : Lk "pacts" [("banners", a0), ("folk", a1), ("pacts", a2), ("told", a3), ("later", a4), ("past", a5)] a2 := ⟨rfl⟩
instance li_Book_future_told : Lk "told" [("banners", a0), ("folk", a1), ("pacts", a2), ("told", a3), ("later", a4), ("past", a5)] a3 := ⟨rfl⟩
instance li_Book_future_later : Lk "later" [("banners", a0), ("folk", a1), ("pacts", a2), ("told", a3), ("later", a4), ("past", a5)] a4 := ⟨rfl⟩
instance li_Book_future_past : Lk "past" [("banners", a0), ("folk", a1), ("pacts", a2), ("told", a3), ("later", a4), ("past", a5)] a5 := ⟨rfl⟩
instance nk_Book_state : Nk "state" (fsBook a0 a1 a2 a3 a4 a5 a6) := ⟨rfl⟩
instance nk_Book_settle : Nk "settle" (fsBook a0 a1 a2 a3 a4 a5 a6) := ⟨rfl⟩
instance nk_Book_keep : Nk "keep" (fsBook a0 a1 a2 a3 a4 a5 a6) := ⟨rfl⟩
instance nk_Book_forget : Nk "forget" (fsBook a0 a1 a2 a3 a4 a5 a6) := ⟨rfl⟩
instance nk_Book_need_side : Nk "need_side" (fsBook a0 a1 a2 a3 a4 a5 a6) := ⟨rfl⟩
instance nk_Book_need_man : Nk "need_man" (fsBook a0 a1 a2 a3 a4 a5 a6) := ⟨rfl⟩
instance nk_Book_need_two : Nk "need_two" (fsBook a0 a1 a2 a3 a4 a5 a6) := ⟨rfl⟩
instance nk_Book_need_cartel : Nk "need_cartel" (fsBook a0 a1 a2 a3 a4 a5 a6) := ⟨rfl⟩
instance nk_Book_side : Nk "side" (fsBook a0 a1 a2 a3 a4 a5 a6) := ⟨rfl⟩
instance nk_Book_man : Nk "man" (fsBook a0 a1 a2 a3 a4 a5 a6) := ⟨rfl⟩
instance nk_Book_cartel : Nk "cartel" (fsBook a0 a1 a2 a3 a4 a5 a6) := ⟨rfl⟩
instance nk_Book_need_day : Nk "need_day" (fsBook a0 a1 a2 a3 a4 a5 a6) := ⟨rfl⟩
instance nk_Book_enter : Nk "enter" (fsBook a0 a1 a2 a3 a4 a5 a6) := ⟨rfl⟩
instance nk_Book_of_man : Nk "of_man" (fsBook a0 a1 a2 a3 a4 a5 a6) := ⟨rfl⟩
instance nk_Book_take : Nk "take" (fsBook a0 a1 a2 a3 a4 a5 a6) := ⟨rfl⟩
instance nk_Book_word : Nk "word" (fsBook a0 a1 a2 a3 a4 a5 a6) := ⟨rfl⟩
instance nk_Book_free : Nk "free" (fsBook a0 a1 a2 a3 a4 a5 a6) := ⟨rfl⟩
instance nk_Book_flee : Nk "flee" (fsBook a0 a1 a2 a3 a4 a5 a6) := ⟨rfl⟩
instance nk_Book_die : Nk "die" (fsBook a0 a1 a2 a3 a4 a5 a6) := ⟨rfl⟩
instance nk_Book_rank : Nk "rank" (fsBook a0 a1 a2 a3 a4 a5 a6) := ⟨rfl⟩
instance nk_Book_swap : Nk "swap" (fsBook a0 a1 a2 a3 a4 a5 a6) := ⟨rfl⟩
instance nk_Book_strike : Nk "strike" (fsBook a0 a1 a2 a3 a4 a5 a6) := ⟨rfl⟩
instance nk_Book_redate : Nk "redate" (fsBook a0 a1 a2 a3 a4 a5 a6) := ⟨rfl⟩
instance nk_Book_undo : Nk "undo" (fsBook a0 a1 a2 a3 a4 a5 a6) := ⟨rfl⟩
instance nk_Book_redo : Nk "redo" (fsBook a0 a1 a2 a3 a4 a5 a6) := ⟨rfl⟩
instance nk_Book_sides : Nk "sides" (fsBook a0 a1 a2 a3 a4 a5 a6) := ⟨rfl⟩
instance nk_Book_men : Nk "men" (fsBook a0 a1 a2 a3 a4 a5 a6) := ⟨rfl⟩
instance nk_Book_cartels : Nk "cartels" (fsBook a0 a1 a2 a3 a4 a5 a6) := ⟨rfl⟩
instance nk_Book_deeds : Nk "deeds" (fsBook a0 a1 a2 a3 a4 a5 a6) := ⟨rfl⟩
instance nk_Book_upcoming : Nk "upcoming" (fsBook a0 a1 a2 a3 a4 a5 a6) := ⟨rfl⟩
instance nk_Book_scene : Nk "scene" (fsBook a0 a1 a2 a3 a4 a5 a6) := ⟨rfl⟩
instance nk_Book_as_of : Nk "as_of" (fsBook a0 a1 a2 a3 a4 a5 a6) := ⟨rfl⟩
instance nk_Book_stands : Nk "stands" (fsBook a0 a1 a2 a3 a4 a5 a6) := ⟨rfl⟩
instance nk_Book_holder : Nk "holder" (fsBook a0 a1 a2 a3 a4 a5 a6) := ⟨rfl⟩
instance nk_Book_words : Nk "words" (fsBook a0 a1 a2 a3 a4 a5 a6) := ⟨rfl⟩
instance nk_Book_rank_of : Nk "rank_of" (fsBook a0 a1 a2 a3 a4 a5 a6) := ⟨rfl⟩
instance nk_Book_may_serve : Nk "may_serve" (fsBook a0 a1 a2 a3 a4 a5 a6) := ⟨rfl⟩
instance nk_Book_line : Nk "line" (fsBook a0 a1 a2 a3 a4 a5 a6) := ⟨rfl⟩
instance nk_Book_roll : Nk "roll" (fsBook a0 a1 a2 a3 a4 a5 a6) := ⟨rfl⟩
instance nk_Book_account : Nk "account" (fsBook a0 a1 a2 a3 a4 a5 a6) := ⟨rfl⟩
instance nk_Book_both_rolls : Nk "both_rolls" (fsBook a0 a1 a2 a3 a4 a5 a6) := ⟨rfl⟩
instance nk_Book_fullest : Nk "fullest" (fsBook a0 a1 a2 a3 a4 a5 a6) := ⟨rfl⟩
instance nk_Book_paper : Nk "paper" (fsBook a0 a1 a2 a3 a4 a5 a6) := ⟨rfl⟩
instance nk_Book_twin : Nk "twin" (fsBook a0 a1 a2 a3 a4 a5 a6) := ⟨rfl⟩
end
def fsMan (a0 a1 a2 a3 a4 a5 : V) : List (Str × V) := [("home", a0), ("grade", a1), ("dead", a2), ("keeper", a3), ("caught", a4), ("bonds", a5)]
section
variable {y a0 a1 a2 a3 a4 a5 : V}
instance lk_Man_home : Lk "home" (fsMan a0 a1 a2 a3 a4 a5) a0 := ⟨rfl⟩
instance pt_Man_home : Pt "home" y (fsMan a0 a1 a2 a3 a4 a5) (fsMan y a1 a2 a3 a4 a5) := ⟨rfl, by show 6 < 1000; decide⟩
instance pi_Man_home : Pt "home" y [] [("home", y)] := ⟨rfl, by show 0 < 1000; decide⟩
instance lk_Man_grade : Lk "grade" (fsMan a0 a1 a2 a3 a4 a5) a1 := ⟨rfl⟩
instance pt_Man_grade : Pt "grade" y (fsMan a0 a1 a2 a3 a4 a5) (fsMan a0 y a2 a3 a4 a5) := ⟨rfl, by show 6 < 1000; decide⟩
instance pi_Man_grade : Pt "grade" y [("home", a0)] [("home", a0), ("grade", y)] := ⟨rfl, by show 1 < 1000; decide⟩
instance li_Man_grade_home : Lk "home" [("home", a0)] a0 := ⟨rfl⟩
instance lk_Man_dead : Lk "dead" (fsMan a0 a1 a2 a3 a4 a5) a2 := ⟨rfl⟩
instance pt_Man_dead : Pt "dead" y (fsMan a0 a1 a2 a3 a4 a5) (fsMan a0 a1 y a3 a4 a5) := ⟨rfl, by show 6 < 1000; decide⟩
instance pi_Man_dead : Pt "dead" y [("home", a0), ("grade", a1)] [("home", a0), ("grade", a1), ("dead", y)] := ⟨rfl, by show 2 < 1000; decide⟩
instance li_Man_dead_home : Lk "home" [("home", a0), ("grade", a1)] a0 := ⟨rfl⟩
instance li_Man_dead_grade : Lk "grade" [("home", a0), ("grade", a1)] a1 := ⟨rfl⟩
instance lk_Man_keeper : Lk "keeper" (fsMan a0 a1 a2 a3 a4 a5) a3 := ⟨rfl⟩
instance pt_Man_keeper : Pt "keeper" y (fsMan a0 a1 a2 a3 a4 a5) (fsMan a0 a1 a2 y a4 a5) := ⟨rfl, by show 6 < 1000; decide⟩
instance pi_Man_keeper : Pt "keeper" y [("home", a0), ("grade", a1), ("dead", a2)] [("home", a0), ("grade", a1), ("dead", a2), ("keeper", y)] := ⟨rfl, by show 3 < 1000; decide⟩
instance li_Man_keeper_home : Lk "home" [("home", a0), ("grade", a1), ("dead", a2)] a0 := ⟨rfl⟩
instance li_Man_keeper_grade : Lk "grade" [("home", a0), ("grade", a1), ("dead", a2)] a1 := ⟨rfl⟩
instance li_Man_keeper_dead : Lk "dead" [("home", a0), ("grade", a1), ("dead", a2)] a2 := ⟨rfl⟩
instance lk_Man_caught : Lk "caught" (fsMan a0 a1 a2 a3 a4 a5) a4 := ⟨rfl⟩
instance pt_Man_caught : Pt "caught" y (fsMan a0 a1 a2 a3 a4 a5) (fsMan a0 a1 a2 a3 y a5) := ⟨rfl, by show 6 < 1000; decide⟩
instance pi_Man_caught : Pt "caught" y [("home", a0), ("grade", a1), ("dead", a2), ("keeper", a3)] [("home", a0), ("grade", a1), ("dead", a2), ("keeper", a3), ("caught", y)] := ⟨rfl, by show 4 < 1000; decide⟩
instance li_Man_caught_home : Lk "home" [("home", a0), ("grade", a1), ("dead", a2), ("keeper", a3)] a0 := ⟨rfl⟩
instance li_Man_caught_grade : Lk "grade" [("home", a0), ("grade", a1), ("dead", a2), ("keeper", a3)] a1 := ⟨rfl⟩
instance li_Man_caught_dead : Lk "dead" [("home", a0), ("grade", a1), ("dead", a2), ("keeper", a3)] a2 := ⟨rfl⟩
instance li_Man_caught_keeper : Lk "keeper" [("home", a0), ("grade", a1), ("dead", a2), ("keeper", a3)] a3 := ⟨rfl⟩
instance lk_Man_bonds : Lk "bonds" (fsMan a0 a1 a2 a3 a4 a5) a5 := ⟨rfl⟩
instance pt_Man_bonds : Pt "bonds" y (fsMan a0 a1 a2 a3 a4 a5) (fsMan a0 a1 a2 a3 a4 y) := ⟨rfl, by show 6 < 1000; decide⟩
instance pi_Man_bonds : Pt "bonds" y [("home", a0), ("grade", a1), ("dead", a2), ("keeper", a3), ("caught", a4)] (fsMan a0 a1 a2 a3 a4 y) := ⟨rfl, by show 5 < 1000; decide⟩
instance li_Man_bonds_home : Lk "home" [("home", a0), ("grade", a1), ("dead", a2), ("keeper", a3), ("caught", a4)] a0 := ⟨rfl⟩
instance li_Man_bonds_grade : Lk "grade" [("home", a0), ("grade", a1), ("dead", a2), ("keeper", a3), ("caught", a4)] a1 := ⟨rfl⟩
instance li_Man_bonds_dead : Lk "dead" [("home", a0), ("grade", a1), ("dead", a2), ("keeper", a3), ("caught", a4)] a2 := ⟨rfl⟩
instance li_Man_bonds_keeper : Lk "keeper" [("home", a0), ("grade", a1), ("dead", a2), ("keeper", a3), ("caught", a4)] a3 := ⟨rfl⟩
instance li_Man_bonds_caught : Lk "caught" [("home", a0), ("grade", a1), ("dead", a2), ("keeper", a3), ("caught", a4)] a4 := ⟨rfl⟩
instance nk_Man_on_roll : Nk "on_roll" (fsMan a0 a1 a2 a3 a4 a5) := ⟨rfl⟩
instance nk_Man_since : Nk "since" (fsMan a0 a1 a2 a3 a4 a5) := ⟨rfl⟩
instance nk_Man_goes_from : Nk "goes_from" (fsMan a0 a1 a2 a3 a4 a5) := ⟨rfl⟩
end
def fsScene (a0 a1 a2 : V) : List (Str × V) := [("crew", a0), ("pacts", a1), ("dues", a2)]
section
variable {y a0 a1 a2 : V}
instance lk_Scene_crew : Lk "crew" (fsScene a0 a1 a2) a0 := ⟨rfl⟩
instance pt_Scene_crew : Pt "crew" y (fsScene a0 a1 a2) (fsScene y a1 a2) := ⟨rfl, by show 3 < 1000; decide⟩
instance pi_Scene_crew : Pt "crew" y [] [("crew", y)] := ⟨rfl, by show 0 < 1000; decide⟩
instance lk_Scene_pacts : Lk "pacts" (fsScene a0 a1 a2) a1 := ⟨rfl⟩
instance pt_Scene_pacts : Pt "pacts" y (fsScene a0 a1 a2) (fsScene a0 y a2) := ⟨rfl, by show 3 < 1000; decide⟩
instance pi_Scene_pacts : Pt "pacts" y [("crew", a0)] [("crew", a0), ("pacts", y)] := ⟨rfl, by show 1 < 1000; decide⟩
instance li_Scene_pacts_crew : Lk "crew" [("crew", a0)] a0 := ⟨rfl⟩
instance lk_Scene_dues : Lk "dues" (fsScene a0 a1 a2) a2 := ⟨rfl⟩
instance pt_Scene_dues : Pt "dues" y (fsScene a0 a1 a2) (fsScene a0 a1 y) := ⟨rfl, by show 3 < 1000; decide⟩
instance pi_Scene_dues : Pt "dues" y [("crew", a0), ("pacts", a1)] (fsScene a0 a1 y) := ⟨rfl, by show 2 < 1000; decide⟩
instance li_Scene_dues_crew : Lk "crew" [("crew", a0), ("pacts", a1)] a0 := ⟨rfl⟩
instance li_Scene_dues_pacts : Lk "pacts" [("crew", a0), ("pacts", a1)] a1 := ⟨rfl⟩
instance nk_Scene_living : Nk "living" (fsScene a0 a1 a2) := ⟨rfl⟩
instance nk_Scene_kept : Nk "kept" (fsScene a0 a1 a2) := ⟨rfl⟩
instance nk_Scene_taken : Nk "taken" (fsScene a0 a1 a2) := ⟨rfl⟩
instance nk_Scene_sent : Nk "sent" (fsScene a0 a1 a2) := ⟨rfl⟩
instance nk_Scene_let_go : Nk "let_go" (fsScene a0 a1 a2) := ⟨rfl⟩
instance nk_Scene_graded : Nk "graded" (fsScene a0 a1 a2) := ⟨rfl⟩
instance nk_Scene_dies : Nk "dies" (fsScene a0 a1 a2) := ⟨rfl⟩
instance nk_Scene_gone_over : Nk "gone_over" (fsScene a0 a1 a2) := ⟨rfl⟩
instance nk_Scene_swapped : Nk "swapped" (fsScene a0 a1 a2) := ⟨rfl⟩
instance nk_Scene_befalls : Nk "befalls" (fsScene a0 a1 a2) := ⟨rfl⟩
end

/-! ### a book in parts -/
structure Pact where
  a : Str
  b : Str
  ws : List Int
  lim : Int
/-- one cartel at most -/
def pactD : Option Pact → KTs
  | none => []
  | some p => [([.inr p.a, .inr p.b], .tuple [.tuple (p.ws.map .int), .int p.lim])]
theorem pactD_few (p : Option Pact) : (pactD p).length ≤ 1 := by
  cases p with
  | none => exact Nat.zero_le _
  | some _ => exact Nat.le_refl _
theorem x_dnewP {H : Hp} {Rs : List Res} {σ : L2.St} {Q : VK} [S : Sat H Rs] (q : ∀ p H', PK H H' → Sat H' (dctT p (pactD none) :: Rs) → Q (.ref p) H') : tDNewT σ H Q := x_dnewTS q
structure BSt where
  sides : KDs
  folk : KDs
  pacts : Option Pact
  told : KDs
  later : Int
structure Bk where
  st : BSt
  past : List BSt
  fut : List BSt
def snap (v : V) (t : BSt) : Res := fun h => ∃ q d1 d2 d3 d4 : Addr, (v = .ref q ∧ h q = some (.tup [.ref d1, .ref d2, .ref d3, .ref d4, .int t.later])) ∧ star [dct d1 t.sides, dct d2 t.folk, dctT d3 (pactD t.pacts), dct d4 t.told] h
def snaps : List V → List BSt → List Res := List.zipWith snap
def snapsR (us : List V) (xs : List BSt) : Res := star (snaps us xs)
def lsts (p : Addr) (xs : List BSt) : Res := fun h => ∃ vs : List V, vs.length = xs.length ∧ star [cell p (.lst vs), snapsR vs xs] h
def book (C b : Addr) (B : Bk) : Res := fun h => ∃ dx ba fo pa to ps fu : Addr, star [cell b (.ins C dx (fsBook (.ref ba) (.ref fo) (.ref pa) (.ref to) (.int B.st.later) (.ref ps) (.ref fu))),
  dct ba B.st.sides, dct fo B.st.folk, dctT pa (pactD B.st.pacts), dct to B.st.told, lsts ps B.past, lsts fu B.fut] h
section
variable {H : Hp} {Rs : List Res} {v : V} {t : BSt} {p b C : Addr} {xs : List BSt} {B : Bk}
theorem star_mono {Rs : List Res} : ∀ h h' : Hp, Ex h h' → star Rs h → star Rs h' := fun _ _ e s => Sat.mono s e
theorem _root_.G.Sat.snapE (S : Sat H (snap v t :: Rs)) : ∃ q d1 d2 d3 d4 : Addr, v = .ref q ∧ H q = some (.tup [.ref d1, .ref d2, .ref d3, .ref d4, .int t.later]) ∧ Sat H (dct d1 t.sides :: dct d2 t.folk :: dctT d3 (pactD t.pacts) :: dct d4 t.told :: Rs) := by
  obtain ⟨q, S⟩ := S.exE
  obtain ⟨d1, S⟩ := S.exE
  obtain ⟨d2, S⟩ := S.exE
  obtain ⟨d3, S⟩ := S.exE
  obtain ⟨d4, S⟩ := S.exE
  have f := S.fact (P := v = .ref q ∧ H q = some (.tup [.ref d1, .ref d2, .ref d3, .ref d4, .int t.later])) fun h e r => ⟨r.1.1, e _ _ r.1.2⟩
  exact ⟨q, d1, d2, d3, d4, f.1, f.2, (S.imp fun _ _ r => r.2).open_⟩
theorem _root_.G.Sat.snapI {q d1 d2 d3 d4 : Addr} (hq : H q = some (.tup [.ref d1, .ref d2, .ref d3, .ref d4, .int t.later])) (S : Sat H (dct d1 t.sides :: dct d2 t.folk :: dctT d3 (pactD t.pacts) :: dct d4 t.told :: Rs)) : Sat H (snap (.ref q) t :: Rs) :=
  (Sat.close (As := [dct d1 t.sides, dct d2 t.folk, dctT d3 (pactD t.pacts), dct d4 t.told]) S).impP star_mono fun h e pk r => ⟨q, d1, d2, d3, d4, ⟨rfl, pk.tup hq⟩, r⟩
theorem _root_.G.Sat.lstsE (S : Sat H (lsts p xs :: Rs)) : ∃ vs : List V, vs.length = xs.length ∧ Sat H (cell p (.lst vs) :: snapsR vs xs :: Rs) := by
  obtain ⟨vs, S⟩ := S.exE
  have f := S.fact (P := vs.length = xs.length) fun h e r => r.1
  exact ⟨vs, f, (S.imp fun _ _ r => r.2).open_⟩
theorem _root_.G.Sat.lstsI {vs : List V} (hl : vs.length = xs.length) (S : Sat H (cell p (.lst vs) :: snapsR vs xs :: Rs)) : Sat H (lsts p xs :: Rs) :=
  (Sat.close (As := [_, _]) S).imp fun h e r => ⟨vs, hl, r⟩
theorem snaps_app {v : V} {t : BSt} : ∀ {vs : List V} {xs : List BSt}, vs.length = xs.length → snaps (vs ++ [v]) (xs ++ [t]) = snaps vs xs ++ [snap v t]
  | [], [], _ => rfl
  | _ :: vs, _ :: xs, h => congrArg (_ :: ·) (snaps_app (vs := vs) (xs := xs) (by simpa using h))
  | [], _ :: _, h => by simp at h
  | _ :: _, [], h => by simp at h
theorem _root_.G.Sat.push {v : V} {vs : List V} (hl : vs.length = xs.length) (S : Sat H (snapsR vs xs :: snap v t :: Rs)) : Sat H (snapsR (vs ++ [v]) (xs ++ [t]) :: Rs) := by
  unfold snapsR
  refine Sat.close ?_
  rw [snaps_app hl, List.append_assoc]
  exact S.open_
theorem _root_.G.Sat.pop {vs : List V} (hl : vs.length = (xs ++ [t]).length) (S : Sat H (snapsR vs (xs ++ [t]) :: Rs)) : ∃ (ws : List V) (v : V), vs = ws ++ [v] ∧ ws.length = xs.length ∧ Sat H (snapsR ws xs :: snap v t :: Rs) := by
  rw [List.length_append, List.length_singleton] at hl
  obtain ⟨ws, v, rfl⟩ := SrtO.snoc_of (l := vs) (by omega)
  have hw : ws.length = xs.length := by rw [List.length_append, List.length_singleton] at hl; omega
  unfold snapsR at S
  rw [snaps_app hw] at S
  refine ⟨ws, v, rfl, hw, Sat.close ?_⟩
  have S2 := S.open_
  rw [List.append_assoc] at S2
  exact S2
theorem _root_.G.Sat.noSnaps (S : Sat H Rs) : Sat H (snapsR [] [] :: Rs) := Sat.close (As := []) S
theorem _root_.G.Sat.bookE (S : Sat H (book C b B :: Rs)) : ∃ dx ba fo pa to ps fu : Addr, Sat H (cell b (.ins C dx (fsBook (.ref ba) (.ref fo) (.ref pa) (.ref to) (.int B.st.later) (.ref ps) (.ref fu))) ::
  dct ba B.st.sides :: dct fo B.st.folk :: dctT pa (pactD B.st.pacts) :: dct to B.st.told :: lsts ps B.past :: lsts fu B.fut :: Rs) := by
  obtain ⟨dx, S⟩ := S.exE
  obtain ⟨ba, S⟩ := S.exE
  obtain ⟨fo, S⟩ := S.exE
  obtain ⟨pa, S⟩ := S.exE
  obtain ⟨to, S⟩ := S.exE
  obtain ⟨ps, S⟩ := S.exE
  obtain ⟨fu, S⟩ := S.exE
  exact ⟨dx, ba, fo, pa, to, ps, fu, S.open_⟩
theorem _root_.G.Sat.bookI {dx ba fo pa to ps fu : Addr} {t : BSt} {past fut : List BSt} (S : Sat H (cell b (.ins C dx (fsBook (.ref ba) (.ref fo) (.ref pa) (.ref to) (.int t.later) (.ref ps) (.ref fu))) ::
  dct ba t.sides :: dct fo t.folk :: dctT pa (pactD t.pacts) :: dct to t.told :: lsts ps past :: lsts fu fut :: Rs)) : Sat H (book C b ⟨t, past, fut⟩ :: Rs) :=
  (Sat.close (As := [_, _, _, _, _, _, _]) S).imp fun h e r => ⟨dx, ba, fo, pa, to, ps, fu, r⟩
instance hasIns_book {C a : Addr} {m : Str} {B : Bk} {T : List Res} {F : Res → List Res} [S : Sat H Rs] [f : Foc (book C) a B Rs T F] [n : ∀ a0 a1 a2 a3 a4 a5 a6, Nk m (fsBook a0 a1 a2 a3 a4 a5 a6)] : HasIns C m a H := by
  obtain ⟨dx, ba, fo, pa, to, ps, fu, S⟩ := (f.out S).bookE
  exact ⟨dx, _, S.get, (n _ _ _ _ _ _ _).h⟩
theorem bookC {C b dx ba fo pa to ps fu : Addr} {l : Int} {k1 k2 k4 : KDs} {k3 : Option Pact} {past fut : List BSt} {T1 T2 T3 T4 T5 T6 T7 : List Res} {F1 F2 F3 F4 F5 F6 F7 : Res → List Res} [S : Sat H Rs]
    [f1 : Foc cell b (.ins C dx (fsBook (.ref ba) (.ref fo) (.ref pa) (.ref to) (.int l) (.ref ps) (.ref fu))) Rs T1 F1] [f2 : Foc dct ba k1 T1 T2 F2] [f3 : Foc dct fo k2 T2 T3 F3] [f4 : Foc dctT pa (pactD k3) T3 T4 F4] [f5 : Foc dct to k4 T4 T5 F5] [f6 : Foc lsts ps past T5 T6 F6] [f7 : Foc lsts fu fut T6 T7 F7] :
    Sat H (book C b ⟨⟨k1, k2, k3, k4, l⟩, past, fut⟩ :: T7) := by
  exact G.Sat.bookI (t := ⟨k1, k2, k3, k4, l⟩) (S.perm ((foc_perm f1).trans (.cons _ ((foc_perm f2).trans (.cons _ ((foc_perm f3).trans (.cons _ ((foc_perm f4).trans (.cons _ ((foc_perm f5).trans (.cons _ ((foc_perm f6).trans (.cons _ (foc_perm f7))))))))))))))
section
variable {T1 T2 T3 : List Res} {F1 F2 F3 : Res → List Res} {us : List V}
theorem lstsPush [S : Sat H Rs] [f1 : Foc cell p (.lst (us ++ [v])) Rs T1 F1] [f2 : Foc snapsR us xs T1 T2 F2] [f3 : Foc snap v t T2 T3 F3] (hl : us.length = xs.length) : Sat H (lsts p (xs ++ [t]) :: T3) := by
  have S2 : Sat H (snapsR us xs :: snap v t :: cell p (.lst (us ++ [v])) :: T3) :=
    S.perm ((foc_perm f1).trans ((List.Perm.cons _ ((foc_perm f2).trans (.cons _ (foc_perm f3)))).trans (((List.Perm.swap _ _ _)).trans (.cons _ (.swap _ _ _)))))
  have S3 := S2.push hl
  exact G.Sat.lstsI (by rw [List.length_append, List.length_append, hl]; rfl) S3.swap
theorem lstsNil [S : Sat H Rs] [f1 : Foc cell p (.lst []) Rs T1 F1] : Sat H (lsts p [] :: T1) := by
  have S2 := (f1.out S).noSnaps
  exact G.Sat.lstsI rfl S2.swap
theorem lstsPop [S : Sat H Rs] [f1 : Foc cell p (.lst us) Rs T1 F1] [f2 : Foc snapsR us (xs ++ [t]) T1 T2 F2] (hl : us.length = (xs ++ [t]).length) : ∃ (ws : List V) (v : V), us = ws ++ [v] ∧ ws.length = xs.length ∧ Sat H (cell p (.lst us) :: snapsR ws xs :: snap v t :: T2) := by
  have S2 : Sat H (snapsR us (xs ++ [t]) :: cell p (.lst us) :: T2) := S.perm ((foc_perm f1).trans ((List.Perm.cons _ (foc_perm f2)).trans (.swap _ _ _)))
  obtain ⟨ws, v, e, hw, S3⟩ := S2.pop hl
  exact ⟨ws, v, e, hw, S3.perm (((List.Perm.swap _ _ _).cons _).trans (.swap _ _ _))⟩
theorem lstsBack [S : Sat H Rs] [f1 : Foc cell p (.lst us) Rs T1 F1] [f2 : Foc snapsR us xs T1 T2 F2] (hl : us.length = xs.length) : Sat H (lsts p xs :: T2) :=
  G.Sat.lstsI hl (S.perm ((foc_perm f1).trans (.cons _ (foc_perm f2))))
theorem lstsO [S : Sat H Rs] [f1 : Foc lsts p xs Rs T1 F1] : ∃ us : List V, us.length = xs.length ∧ Sat H (cell p (.lst us) :: snapsR us xs :: T1) := (f1.out S).lstsE
end
end

section

/-! ### steps over cartels -/
local macro_rules | `(tactic| walk_at "s1") => `(tactic| (first
  | ((with_reducible refine x_dnewP ?_); intro _ _ _ _)
  | ((with_reducible refine x_dictTS (pactD_few _) ?_); intro _ _ _ _)))
local macro_rules | `(tactic| walk_at "sx") => `(tactic| ((refine run ?_); (repeat (walk_at "s1"; (refine run ?_)))))

/-! ### the book's own steps -/
abbrev s_Book_state : Stmt := inClass (top 48) 1
abbrev N_Book_state : List Str := ["self"]
theorem sc_Book_state : FnScope N_Book_state ["self"] (defScope s_Book_state) := ⟨rfl, rfl, rfl, by decide +kernel, rfl, by decide +kernel, by decide +kernel⟩
abbrev s_Book_keep : Stmt := inClass (top 48) 3
abbrev N_Book_keep : List Str := ["self"]
theorem sc_Book_keep : FnScope N_Book_keep ["self"] (defScope s_Book_keep) := ⟨rfl, rfl, rfl, by decide +kernel, rfl, by decide +kernel, by decide +kernel⟩
abbrev s_Book___init__ : Stmt := inClass (top 48) 0
abbrev N_Book___init__ : List Str := ["self"]
theorem sc_Book___init__ : FnScope N_Book___init__ ["self"] (defScope s_Book___init__) := ⟨rfl, rfl, rfl, by decide +kernel, rfl, by decide +kernel, by decide +kernel⟩
abbrev s_Book_need_side : Stmt := inClass (top 48) 5
abbrev N_Book_need_side : List Str := ["self", "name"]
theorem sc_Book_need_side : FnScope N_Book_need_side ["self", "name"] (defScope s_Book_need_side) := ⟨rfl, rfl, rfl, by decide +kernel, rfl, by decide +kernel, by decide +kernel⟩
abbrev s_Book_side : Stmt := inClass (top 48) 9
abbrev N_Book_side : List Str := ["self", "name"]
theorem sc_Book_side : FnScope N_Book_side ["self", "name"] (defScope s_Book_side) := ⟨rfl, rfl, rfl, by decide +kernel, rfl, by decide +kernel, by decide +kernel⟩
abbrev s_Book_man : Stmt := inClass (top 48) 10
abbrev N_Book_man : List Str := ["self", "name", "side", "rank"]
theorem sc_Book_man : FnScope N_Book_man ["self", "name", "side", "rank"] (defScope s_Book_man) := ⟨rfl, rfl, rfl, by decide +kernel, rfl, by decide +kernel, by decide +kernel⟩

abbrev CB (K : PySem.W.Frag) : Addr := He.ga K "Book"
def spState (K : PySem.W.Frag) : Sp := fun vs H Q _ => ∃ (b dx ba fo pa to : Addr) (ps fu : V) (t : BSt) (Rs : List Res), vs = [.ref b] ∧
  Sat H (cell b (.ins (CB K) dx (fsBook (.ref ba) (.ref fo) (.ref pa) (.ref to) (.int t.later) ps fu)) :: dct ba t.sides :: dct fo t.folk :: dctT pa (pactD t.pacts) :: dct to t.told :: Rs) ∧
  ∀ v H', PK H H' → Sat H' (snap v t :: cell b (.ins (CB K) dx (fsBook (.ref ba) (.ref fo) (.ref pa) (.ref to) (.int t.later) ps fu)) :: dct ba t.sides :: dct fo t.folk :: dctT pa (pactD t.pacts) :: dct to t.told :: Rs) → Q v H'
def spKeep (K : PySem.W.Frag) : Sp := fun vs H Q _ => ∃ (b : Addr) (B : Bk) (Rs : List Res), vs = [.ref b] ∧ Sat H (book (CB K) b B :: Rs) ∧ B.past.length < sizeLine ∧
  ∀ H', PK H H' → Sat H' (book (CB K) b ⟨B.st, B.past ++ [B.st], []⟩ :: Rs) → Q .non H'
abbrev B0 : Bk := ⟨⟨[], [], none, [], 1⟩, [], []⟩
def spBookInit (K : PySem.W.Frag) : Sp := fun vs H Q _ => ∃ (b dx : Addr) (Rs : List Res), vs = [.ref b] ∧ Sat H (cell b (.ins (CB K) dx []) :: Rs) ∧ ∀ H', PK H H' → Sat H' (book (CB K) b B0 :: Rs) → Q .non H'
def sideOut (t : BSt) (n : Str) : Str := if isN n = true then (if hasD t.sides (.inr n) = true then "Taken" else if 6 ≤ t.sides.length then "Full" else "") else "BadName"
def manOut (t : BSt) (n sd : Str) (r : Int) : Str := if isN n = true then (if hasD t.folk (.inr n) = true then "Taken" else if hasD t.sides (.inr sd) = true then (if 0 ≤ r ∧ r < 6 then (if 40 ≤ t.folk.length then "Full" else "") else "BadRank") else "NoSide") else "BadName"
def spNeedSideX (K : PySem.W.Frag) : Sp := fun vs H Q E => ∃ (b : Addr) (n : Str) (B : Bk) (Rs : List Res), vs = [.ref b, .str n] ∧ Sat H (book (CB K) b B :: Rs) ∧ (hasD B.st.sides (.inr n) = true → Q .non H) ∧ (hasD B.st.sides (.inr n) = false → E (.ref (He.ga K "NoSide")) none H)
def spSideX (K : PySem.W.Frag) : Sp := fun vs H Q E => ∃ (b : Addr) (n : Str) (B : Bk) (Rs : List Res), vs = [.ref b, .str n] ∧ Sat H (book (CB K) b B :: Rs) ∧ n.length ≤ 1000 ∧ B.st.sides.length < 1000 ∧ B.past.length < sizeLine ∧
  (sideOut B.st n ≠ "" → ∀ H', PK H H' → Sat H' (book (CB K) b B :: Rs) → E (.ref (He.ga K (sideOut B.st n))) none H') ∧
  (sideOut B.st n = "" → ∀ H', PK H H' → Sat H' (book (CB K) b ⟨{ B.st with sides := putD B.st.sides (.inr n) (.bool true) }, B.past ++ [B.st], []⟩ :: Rs) → Q .non H')
def spManX (K : PySem.W.Frag) : Sp := fun vs H Q E => ∃ (b : Addr) (n sd : Str) (r : Int) (B : Bk) (Rs : List Res), vs = [.ref b, .str n, .str sd, .int r] ∧ Sat H (book (CB K) b B :: Rs) ∧ n.length ≤ 1000 ∧ B.st.folk.length < 1000 ∧ B.past.length < sizeLine ∧
  (manOut B.st n sd r ≠ "" → ∀ H', PK H H' → Sat H' (book (CB K) b B :: Rs) → E (.ref (He.ga K (manOut B.st n sd r))) none H') ∧
  (manOut B.st n sd r = "" → ∀ H', PK H H' → Sat H' (book (CB K) b ⟨{ B.st with folk := putD B.st.folk (.inr n) (.tuple [.str sd, .int r]) }, B.past ++ [B.st], []⟩ :: Rs) → Q .non H')
section
variable {P : Program} {w : World} {K : PySem.W.Frag} {mg : Str → Option Value} {base : Heap}
theorem D_Book_state (T : Txt K mg) (F : Mf K "Book" "state" "Book.state" s_Book_state) : DnM P w K mg base CX0 1 (He.ma K (He.ga K "Book") "state") ["self"] (spState K) := by
  refine F.dm sc_Book_state (fun _ _ _ _ _ _ us hl => match us, hl with | [_], _ => rfl) (fun vs H Q E h => ?_) (fun f cdv A outer s H vs Q E hr hK h => ?_)
  · obtain ⟨b, dx, ba, fo, pa, to, ps, fu, t, Rs, rfl, _⟩ := h
    rfl
  · obtain ⟨b, dx, ba, fo, pa, to, ps, fu, t, Rs, rfl, S, k⟩ := h
    refine ⟨_, (pss_one (ps_ret (pe_tup (pa_cons (pe_callTy g_dictD rfl T.m_dict boot_dict (pa_cons (pe_fldC T.cl_Book T.n_Book_banners (pv 0) rfl) pa_nil)) (pa_cons (pe_callTy g_dictD rfl T.m_dict boot_dict (pa_cons (pe_fldC T.cl_Book T.n_Book_folk (pv 0) rfl) pa_nil)) (pa_cons (pe_callTy (g_dictT hr.units) rfl T.m_dict boot_dict (pa_cons (pe_fldC T.cl_Book T.n_Book_pacts (pv 0) rfl) pa_nil)) (pa_cons (pe_callTy g_dictD rfl T.m_dict boot_dict (pa_cons (pe_fldC T.cl_Book T.n_Book_told (pv 0) rfl) pa_nil)) (pa_cons (pe_fldC T.cl_Book T.n_Book_later (pv 0) rfl) pa_nil)))))))), ?_⟩
    try rw [hK]
    rw [show L2.start N_Book_state [.ref b] = [some (.ref b)] from rfl]
    walk_at "sx"
    refine k _ _ (by walk_at "pk") (G.Sat.snapI (by walk_at "pt") pick)
theorem D_Book_keep (T : Txt K mg) (D_Book_state : DnM P w K mg base CX0 1 (He.ma K (He.ga K "Book") "state") ["self"] (spState K)) (F : Mf K "Book" "keep" "Book.keep" s_Book_keep) : DnM P w K mg base CX0 2 (He.ma K (He.ga K "Book") "keep") ["self"] (spKeep K) := by
  refine F.dm sc_Book_keep (fun _ _ _ _ _ _ us hl => match us, hl with | [_], _ => rfl) (fun vs H Q E h => ?_) (fun f cdv A outer s H vs Q E hr hK h => ?_)
  · obtain ⟨b, B, Rs, rfl, _⟩ := h
    rfl
  · obtain ⟨b, B, Rs, rfl, S, hz, k⟩ := h
    obtain ⟨dx, ba, fo, pa, to, ps, fu, S⟩ := S.bookE
    obtain ⟨us, hl, S1⟩ := lstsO (H := H) (p := ps)
    replace S : Sat H (cell b (.ins (CB K) dx (fsBook (.ref ba) (.ref fo) (.ref pa) (.ref to) (.int B.st.later) (.ref ps) (.ref fu))) :: dct ba B.st.sides :: dct fo B.st.folk :: dctT pa (pactD B.st.pacts) :: dct to B.st.told :: cell ps (.lst us) :: snapsR us B.past :: Rs) := S1.pick
    clear S1
    refine ⟨_, (pss_cons (ps_expr (pe_bm PySem.F.plainAttrs_list PySem.F.slot_list_append PySem.F.type_list_append mt_append (pe_fldC T.cl_Book T.n_Book_past (pv 0) rfl) (pa_cons (pe_mt0 (pv 0) T.cl_Book T.me_Book_state D_Book_state (hr.mono (by first | decide | omega)) pass0) pa_nil)))
      (pss_one (ps_fldC T.cl_Book T.n_Book_future (pv 0) (pe_lst pa_nil) rfl))), ?_⟩
    try rw [hK]
    rw [show L2.start N_Book_keep [.ref b] = [some (.ref b)] from rfl]
    walk_at "sx"
    refine ⟨b, dx, ba, fo, pa, to, _, _, B.st, _, rfl, S, fun v H1 pk1 S1 => ?_⟩
    clear S
    walk_at "sx"
    refine x_appendS (by rw [hl]; exact hz) fun H2 pk2 S2 => ?_
    walk_at "sx"
    rename_i p H3 pk3 S3 H4 pk4 S4
    have S5 := lstsNil (H := H4) (p := p)
    have S6 := lstsPush (H := H4) (p := ps) (t := B.st) hl
    exact k _ (by walk_at "pk") (bookC (C := CB K) (b := b)).pick
theorem D_Book_init (T : Txt K mg) (F : Mf K "Book" "__init__" "Book.__init__" s_Book___init__) : DnM P w K mg base CX0 1 (He.ma K (He.ga K "Book") "__init__") ["self"] (spBookInit K) := by
  refine F.dm sc_Book___init__ (fun _ _ _ _ _ _ us hl => match us, hl with | [_], _ => rfl) (fun vs H Q E h => ?_) (fun f cdv A outer s H vs Q E hr hK h => ?_)
  · obtain ⟨b, dx, Rs, rfl, _⟩ := h
    rfl
  · obtain ⟨b, dx, Rs, rfl, S, k⟩ := h
    refine ⟨_, (pss_cons (ps_fldC T.cl_Book T.n_Book_banners (pv 0) (pe_dnewK) rfl)
      (pss_cons (ps_fldC T.cl_Book T.n_Book_folk (pv 0) (pe_dnewK) rfl)
      (pss_cons (ps_fldC T.cl_Book T.n_Book_pacts (pv 0) (pe_dnewT) rfl)
      (pss_cons (ps_fldC T.cl_Book T.n_Book_told (pv 0) (pe_dnewK) rfl)
      (pss_cons (ps_fldC T.cl_Book T.n_Book_later (pv 0) pe_int rfl)
      (pss_cons (ps_fldC T.cl_Book T.n_Book_past (pv 0) (pe_lst pa_nil) rfl)
      (pss_one (ps_fldC T.cl_Book T.n_Book_future (pv 0) (pe_lst pa_nil) rfl)))))))), ?_⟩
    try rw [hK]
    rw [show L2.start N_Book___init__ [.ref b] = [some (.ref b)] from rfl]
    walk_at "sx"
    rename_i p1 H1 pk1 S1 H2 pk2 S2 p2 H3 pk3 S3 H4 pk4 S4
    have S5 := lstsNil (H := H4) (p := p1)
    have S6 := lstsNil (H := H4) (p := p2)
    exact k _ (by walk_at "pk") (bookC (C := CB K) (b := b)).pick
theorem D_Book_need_side (T : Txt K mg) (F : Mf K "Book" "need_side" "Book.need_side" s_Book_need_side) : DnM P w K mg base (L2.CX P w) 1 (He.ma K (He.ga K "Book") "need_side") ["self", "name"] (spNeedSideX K) := by
  refine F.dmX sc_Book_need_side (fun _ _ _ _ _ _ us hl => match us, hl with | [_, _], _ => rfl) (fun vs H Q E h => ?_) (fun f cdv A outer s H vs Q E hr hK h => ?_)
  · obtain ⟨b, n, B, Rs, rfl, _⟩ := h
    rfl
  · obtain ⟨b, n, B, Rs, rfl, S, yes, no⟩ := h
    refine ⟨_, (pss_one (ps_if (pt_cmp (pc_dnotin (hu_of hr) (pv 1) (pe_fldC T.cl_Book T.n_Book_banners (pv 0) rfl))) (pss_one (ps_raise rfl (takes_of rfl rfl rfl rfl) (pmk_own PySem.F.excBase_ValueError T.x_NoSide.xi T.x_NoSide.g T.x_NoSide.k (raises_own T.x_NoSide.b T.x_NoSide.t) rfl))) pss_nil)), ?_⟩
    try rw [hK]
    rw [show L2.start N_Book_need_side [.ref b, .str n] = [some (.ref b), some (.str n)] from rfl]
    obtain ⟨dx, ba, fo, pa, to, ps, fu, S1⟩ := S.bookE
    walk_at "sx"
    cases c : hasD B.st.sides (.inr n) with
    | true =>
      refine x_ifF ?_
      walk_at "sx"
      exact yes c
    | false =>
      refine x_ifT ?_
      exact no c
theorem D_Book_side (T : Txt K mg) (D_is_name : Dn P w K mg base CX0 2 "is_name" ["word"] spIsName) (D_Book_keep : DnM P w K mg base CX0 2 (He.ma K (He.ga K "Book") "keep") ["self"] (spKeep K)) (F : Mf K "Book" "side" "Book.side" s_Book_side) : DnM P w K mg base (L2.CX P w) 3 (He.ma K (He.ga K "Book") "side") ["self", "name"] (spSideX K) := by
  refine F.dmX sc_Book_side (fun _ _ _ _ _ _ us hl => match us, hl with | [_, _], _ => rfl) (fun vs H Q E h => ?_) (fun f cdv A outer s H vs Q E hr hK h => ?_)
  · obtain ⟨b, n, B, Rs, rfl, _⟩ := h
    rfl
  · obtain ⟨b, n, B, Rs, rfl, S, hn, h2, hz, no, yes⟩ := h
    refine ⟨_, (pss_cons (ps_if (pt_not (pt_val (pe_dn D_is_name (hr.mono (by first | decide | omega)) pass0 (pa_cons (pv 1) pa_nil)))) (pss_one (ps_raise rfl (takes_of rfl rfl rfl rfl) (pmk_own PySem.F.excBase_ValueError T.x_BadName.xi T.x_BadName.g T.x_BadName.k (raises_own T.x_BadName.b T.x_BadName.t) rfl))) pss_nil)
      (pss_cons (ps_if (pt_cmp (pc_din (hu_of hr) (pv 1) (pe_fldC T.cl_Book T.n_Book_banners (pv 0) rfl))) (pss_one (ps_raise rfl (takes_of rfl rfl rfl rfl) (pmk_own PySem.F.excBase_ValueError T.x_Taken.xi T.x_Taken.g T.x_Taken.k (raises_own T.x_Taken.b T.x_Taken.t) rfl))) pss_nil)
      (pss_cons (ps_if (pt_cmpR op_ge (pe_callB g_lenD rfl T.m_len boot_len (pa_cons (pe_fldC T.cl_Book T.n_Book_banners (pv 0) rfl) pa_nil)) (pe_cst T.c_MOST_SIDES) (nomark _)) (pss_one (ps_raise rfl (takes_of rfl rfl rfl rfl) (pmk_own PySem.F.excBase_ValueError T.x_Full.xi T.x_Full.g T.x_Full.k (raises_own T.x_Full.b T.x_Full.t) rfl))) pss_nil)
      (pss_cons (ps_expr (pe_mt0 (pv 0) T.cl_Book T.me_Book_keep D_Book_keep (hr.mono (by first | decide | omega)) pass0))
      (pss_one (ps_dput (hu_of hr) (pe_fldC T.cl_Book T.n_Book_banners (pv 0) rfl) (pv 1) pe_bl rfl)))))), ?_⟩
    try rw [hK]
    rw [show L2.start N_Book_side [.ref b, .str n] = [some (.ref b), some (.str n)] from rfl]
    walk_at "sx"
    refine ⟨n, rfl, hn, fun H1 e1 => ?_⟩
    have S1 := S.mono e1
    have pk1 := PK.of_ex e1
    have bad : ∀ z : Str, sideOut B.st n = z → z ≠ "" → E (.ref (He.ga K z)) none H1 := fun z e hz => by
      rw [← e]
      rw [← e] at hz
      exact no hz _ pk1 S1
    clear S no
    unfold sideOut at bad yes
    obtain ⟨dx, ba, fo, pa, to, ps, fu, S2⟩ := S1.bookE
    cases c0 : isN n with
    | false =>
      rw [c0, if_neg Bool.false_ne_true] at bad
      walk_at "sx"
      exact bad _ rfl (by decide)
    | true =>
      rw [c0, if_pos rfl] at bad yes
      walk_at "sx"
      cases c1 : hasD B.st.sides (.inr n) with
      | true =>
        rw [c1, if_pos rfl] at bad
        refine x_ifT ?_
        exact bad _ rfl (by decide)
      | false =>
        rw [c1, if_neg Bool.false_ne_true] at bad yes
        refine x_ifF ?_
        walk_at "sx"
        refine x_ifD (fun c2 => ?_) (fun c2 => ?_)
        · rw [if_pos (by omega)] at bad
          exact bad _ rfl (by decide)
        · rw [if_neg (by omega)] at yes
          have yes := yes rfl
          walk_at "sx"
          refine ⟨b, B, Rs, rfl, S1, hz, fun H3 pk3 S3 => ?_⟩
          obtain ⟨dx, ba, fo, pa, to, ps, fu, S4⟩ := S3.bookE
          walk_at "sx"
          refine x_dp (d := .bool true) (by rw [sizeLine_eq]; show B.st.sides.length < _; omega) (by walk_at "tp") fun H5 pk5 S5 => ?_
          walk_at "sx"
          exact yes _ (by walk_at "pk") (bookC (C := CB K) (b := b)).pick
theorem D_Book_man (T : Txt K mg) (D_is_name : Dn P w K mg base CX0 2 "is_name" ["word"] spIsName) (D_Book_keep : DnM P w K mg base CX0 2 (He.ma K (He.ga K "Book") "keep") ["self"] (spKeep K)) (D_Book_need_side : DnM P w K mg base (L2.CX P w) 1 (He.ma K (He.ga K "Book") "need_side") ["self", "name"] (spNeedSideX K)) (F : Mf K "Book" "man" "Book.man" s_Book_man) : DnM P w K mg base (L2.CX P w) 3 (He.ma K (He.ga K "Book") "man") ["self", "name", "side", "rank"] (spManX K) := by
  refine F.dmX sc_Book_man (fun _ _ _ _ _ _ us hl => match us, hl with | [_, _, _, _], _ => rfl) (fun vs H Q E h => ?_) (fun f cdv A outer s H vs Q E hr hK h => ?_)
  · obtain ⟨b, n, sd, r, B, Rs, rfl, _⟩ := h
    rfl
  · obtain ⟨b, n, sd, r, B, Rs, rfl, S, hn, h2, hz, no, yes⟩ := h
    refine ⟨_, (pss_cons (ps_if (pt_not (pt_val (pe_dn D_is_name (hr.mono (by first | decide | omega)) pass0 (pa_cons (pv 1) pa_nil)))) (pss_one (ps_raise rfl (takes_of rfl rfl rfl rfl) (pmk_own PySem.F.excBase_ValueError T.x_BadName.xi T.x_BadName.g T.x_BadName.k (raises_own T.x_BadName.b T.x_BadName.t) rfl))) pss_nil)
      (pss_cons (ps_if (pt_cmp (pc_din (hu_of hr) (pv 1) (pe_fldC T.cl_Book T.n_Book_folk (pv 0) rfl))) (pss_one (ps_raise rfl (takes_of rfl rfl rfl rfl) (pmk_own PySem.F.excBase_ValueError T.x_Taken.xi T.x_Taken.g T.x_Taken.k (raises_own T.x_Taken.b T.x_Taken.t) rfl))) pss_nil)
      (pss_cons (ps_expr (pe_mt (pv 0) T.cl_Book T.me_Book_need_side D_Book_need_side (hr.mono (by first | decide | omega)) passX (pa_cons (pv 2) pa_nil)))
      (pss_cons (ps_if (pt_not (pt_chain op_le op_lt pe_int (pv 3) (pe_cst T.c_MOST_RANKS))) (pss_one (ps_raise rfl (takes_of rfl rfl rfl rfl) (pmk_own PySem.F.excBase_ValueError T.x_BadRank.xi T.x_BadRank.g T.x_BadRank.k (raises_own T.x_BadRank.b T.x_BadRank.t) rfl))) pss_nil)
      (pss_cons (ps_if (pt_cmpR op_ge (pe_callB g_lenD rfl T.m_len boot_len (pa_cons (pe_fldC T.cl_Book T.n_Book_folk (pv 0) rfl) pa_nil)) (pe_cst T.c_MOST_MEN) (nomark _)) (pss_one (ps_raise rfl (takes_of rfl rfl rfl rfl) (pmk_own PySem.F.excBase_ValueError T.x_Full.xi T.x_Full.g T.x_Full.k (raises_own T.x_Full.b T.x_Full.t) rfl))) pss_nil)
      (pss_cons (ps_expr (pe_mt0 (pv 0) T.cl_Book T.me_Book_keep D_Book_keep (hr.mono (by first | decide | omega)) pass0))
      (pss_one (ps_dput (hu_of hr) (pe_fldC T.cl_Book T.n_Book_folk (pv 0) rfl) (pv 1) (pe_tup (pa_cons (pv 2) (pa_cons (pv 3) pa_nil))) rfl)))))))), ?_⟩
    try rw [hK]
    rw [show L2.start N_Book_man [.ref b, .str n, .str sd, .int r] = [some (.ref b), some (.str n), some (.str sd), some (.int r)] from rfl]
    walk_at "sx"
    refine ⟨n, rfl, hn, fun H1 e1 => ?_⟩
    have S1 := S.mono e1
    have pk1 := PK.of_ex e1
    have bad : ∀ z : Str, manOut B.st n sd r = z → z ≠ "" → E (.ref (He.ga K z)) none H1 := fun z e hz => by
      rw [← e]
      rw [← e] at hz
      exact no hz _ pk1 S1
    clear S no
    unfold manOut at bad yes
    obtain ⟨dx, ba, fo, pa, to, ps, fu, S2⟩ := S1.bookE
    cases c0 : isN n with
    | false =>
      rw [c0, if_neg Bool.false_ne_true] at bad
      walk_at "sx"
      exact bad _ rfl (by decide)
    | true =>
      rw [c0, if_pos rfl] at bad yes
      walk_at "sx"
      cases c1 : hasD B.st.folk (.inr n) with
      | true =>
        rw [c1, if_pos rfl] at bad
        refine x_ifT ?_
        exact bad _ rfl (by decide)
      | false =>
        rw [c1, if_neg Bool.false_ne_true] at bad yes
        refine x_ifF ?_
        walk_at "sx"
        refine ⟨b, sd, B, Rs, rfl, S1, fun c2 => ?_, fun c2 => ?_⟩
        · rw [if_pos c2] at bad yes
          walk_at "sx"
          refine x_chD (fun r0 => ?_) (fun r0 => ?_)
          · walk_at "sx"
            refine x_ifN (fun r1 => ?_) (fun r1 => ?_)
            · rw [if_pos ⟨r0, r1⟩] at bad yes
              walk_at "sx"
              refine x_ifD (fun c3 => ?_) (fun c3 => ?_)
              · rw [if_pos (by omega)] at bad
                exact bad _ rfl (by decide)
              · rw [if_neg (by omega)] at yes
                have yes := yes rfl
                walk_at "sx"
                refine ⟨b, B, Rs, rfl, S1, hz, fun H3 pk3 S3 => ?_⟩
                obtain ⟨dx, ba, fo, pa, to, ps, fu, S4⟩ := S3.bookE
                walk_at "sx"
                rename_i q H4 pk4 S5 hq
                refine x_dp (d := .tuple [.str sd, .int r]) (by rw [sizeLine_eq]; show B.st.folk.length < _; omega) (by walk_at "tp") fun H5 pk5 S6 => ?_
                clear S4 S5
                walk_at "sx"
                exact yes _ (by walk_at "pk") (bookC (C := CB K) (b := b)).pick
            · rw [if_neg (fun z => r1 z.2)] at bad
              exact bad _ rfl (by decide)
          · rw [if_neg (fun z => r0 z.1)] at bad
            walk_at "sx"
            exact bad _ rfl (by decide)
        · rw [if_neg (by rw [c2]; exact Bool.false_ne_true)] at bad
          exact bad _ rfl (by decide)
end

/-! ### sides and men told -/
abbrev s_Book_sides : Stmt := inClass (top 48) 26
abbrev N_Book_sides : List Str := ["self"]
theorem sc_Book_sides : FnScope N_Book_sides ["self"] (defScope s_Book_sides) := ⟨rfl, rfl, rfl, by decide +kernel, rfl, by decide +kernel, by decide +kernel⟩
abbrev s_Book_men : Stmt := inClass (top 48) 27
abbrev N_Book_men : List Str := ["self", "name"]
theorem sc_Book_men : FnScope N_Book_men ["self"] (defScope s_Book_men) := ⟨rfl, rfl, rfl, by decide +kernel, rfl, by decide +kernel, by decide +kernel⟩

theorem rising_pw : ∀ (p : Str) (l : List Str), risingS p l = true → (p :: l).Pairwise (fun a b => a.cps.toList ≤ b.cps.toList)
  | p, [], _ => List.pairwise_singleton _ _
  | p, x :: r, h => by
    have h : (!ltCps x.cps.toList p.cps.toList && risingS x r) = true := h
    rw [Bool.and_eq_true] at h
    have h1 : ¬ x.cps.toList < p.cps.toList := by
      have := h.1
      rw [PyProof.Rows.ltCps_eq] at this
      simpa using this
    have ih := rising_pw x r h.2
    refine List.pairwise_cons.mpr ⟨fun y hy => ?_, ih⟩
    rcases List.mem_cons.mp hy with rfl | hy
    · exact h1
    · exact List.le_trans (show p.cps.toList ≤ x.cps.toList from h1) ((List.pairwise_cons.mp ih).1 y hy)
theorem sorted_uniq {xs ys : List Str} (p : xs.Perm ys) (hx : sortedS xs = true) (hy : sortedS ys = true) : xs = ys := by
  have pw : ∀ l : List Str, sortedS l = true → l.Pairwise (fun a b => a.cps.toList ≤ b.cps.toList) := fun l h => by
    cases l with
    | nil => exact .nil
    | cons x r => exact rising_pw x r h
  refine List.Perm.eq_of_pairwise (fun a b _ _ h1 h2 => ?_) (pw _ hx) (pw _ hy) p
  have e : a.cps.toList = b.cps.toList := List.le_antisymm h1 h2
  obtain ⟨⟨a⟩⟩ := a
  obtain ⟨⟨b⟩⟩ := b
  have e : a = b := e
  rw [e]
def spSides (K : PySem.W.Frag) : Sp := fun vs H Q _ => ∃ (b : Addr) (B : Bk) (ns : List Str) (Rs : List Res), vs = [.ref b] ∧ Sat H (book (CB K) b B :: Rs) ∧ B.st.sides.map (fun kv => kV kv.1) = ns.map V.str ∧ ns.length < 64 ∧
  ∀ p ys H', ys.Perm ns → sortedS ys = true → PK H H' → Sat H' (cell p (.lst (ys.map V.str)) :: book (CB K) b B :: Rs) → Q (.ref p) H'
abbrev FolkL := List (Str × Str × Int)
def folkD (F : FolkL) : KDs := F.map fun f => (Sum.inr f.1, .tuple [.str f.2.1, .int f.2.2])
def menRow (F : FolkL) (n : Str) : PyData := match F.find? (fun f => decide (f.1 = n)) with
  | some f => .tuple [.str n, .str f.2.1, .int f.2.2]
  | none => .none
theorem valD_folk {F : FolkL} {n : Str} (h : n ∈ F.map fun f => f.1) : ∃ f, F.find? (fun f => decide (f.1 = n)) = some f ∧ valD (folkD F) (.inr n) = some (.tuple [.str f.2.1, .int f.2.2]) ∧ menRow F n = .tuple [.str n, .str f.2.1, .int f.2.2] := by
  obtain ⟨g, hg, rfl⟩ := List.mem_map.mp h
  have e : (F.find? (fun f => decide (f.1 = g.1))).isSome = true := List.find?_isSome.mpr ⟨g, hg, decide_eq_true rfl⟩
  obtain ⟨f, hf⟩ := Option.isSome_iff_exists.mp e
  refine ⟨f, hf, ?_, by unfold menRow; rw [hf]⟩
  unfold valD folkD
  rw [List.find?_map]
  have e2 : ((fun kv : Key × PyData => decide (kv.1 = Sum.inr g.1)) ∘ fun f : Str × Str × Int => ((Sum.inr f.1 : Key), PyData.tuple [.str f.2.1, .int f.2.2])) = fun f => decide (f.1 = g.1) := by
    funext f
    show decide ((Sum.inr f.1 : Key) = Sum.inr g.1) = _
    by_cases c : f.1 = g.1
    · rw [decide_eq_true c, decide_eq_true (congrArg Sum.inr c)]
    · rw [decide_eq_false c, decide_eq_false (fun z => c (Sum.inr.inj z))]
  rw [e2, hf]
  rfl
theorem folkD_names (F : FolkL) : (folkD F).map (fun kv => kV kv.1) = (F.map fun f => f.1).map V.str := by
  unfold folkD
  rw [List.map_map, List.map_map]
  rfl
def spMen (K : PySem.W.Frag) : Sp := fun vs H Q _ => ∃ (b : Addr) (B : Bk) (F : FolkL) (Rs : List Res), vs = [.ref b] ∧ Sat H (book (CB K) b B :: Rs) ∧ B.st.folk = folkD F ∧ F.length < 64 ∧
  ∀ p ys zs H', ys.Perm (F.map fun f => f.1) → sortedS ys = true → PK H H' → Sat H' (cell p (.lst zs) :: book (CB K) b B :: Rs) → TpAll H' zs (ys.map (menRow F)) → Q (.ref p) H'
section
variable {P : Program} {w : World} {K : PySem.W.Frag} {mg : Str → Option Value} {base : Heap}
theorem D_Book_sides (T : Txt K mg) (F : Mf K "Book" "sides" "Book.sides" s_Book_sides) : DnM P w K mg base CX0 1 (He.ma K (He.ga K "Book") "sides") ["self"] (spSides K) := by
  refine F.dm sc_Book_sides (fun _ _ _ _ _ _ us hl => match us, hl with | [_], _ => rfl) (fun vs H Q E h => ?_) (fun f cdv A outer s H vs Q E hr hK h => ?_)
  · obtain ⟨b, B, ns, Rs, rfl, _⟩ := h
    rfl
  · obtain ⟨b, B, ns, Rs, rfl, S, hk, hl, k⟩ := h
    refine ⟨_, (pss_one (ps_ret (pe_callB cr_sortedS rfl T.m_sorted boot_sorted (pa_cons (pe_callTy (call_list_dK rfl) rfl T.m_list boot_list (pa_cons (pe_fldC T.cl_Book T.n_Book_banners (pv 0) rfl) pa_nil)) pa_nil)))), ?_⟩
    try rw [hK]
    rw [show L2.start N_Book_sides [.ref b] = [some (.ref b)] from rfl]
    obtain ⟨dx, ba, fo, pa, to, ps, fu, S1⟩ := S.bookE
    clear S
    walk_at "sx"
    rename_i p H3 pk3 S3
    rw [hk] at S3
    clear S1
    refine ⟨p, ns, rfl, SqL.of sat_at, hl, fun ys p2 hp hs hp2 => ?_⟩
    have S4 := S3.new hp2 (o := .lst (ys.map V.str))
    clear S3
    have S5 := bookC (H := upd H3 p2 (.lst (ys.map V.str))) (C := CB K) (b := b)
    exact k p2 ys _ hp hs (pk3.trans (PK.of_ex (Ex.new hp2))) S5.pick
theorem D_Book_men (T : Txt K mg) (F : Mf K "Book" "men" "Book.men" s_Book_men) : DnM P w K mg base CX0 1 (He.ma K (He.ga K "Book") "men") ["self"] (spMen K) := by
  refine F.dm sc_Book_men (fun _ _ _ _ _ _ us hl => match us, hl with | [_], _ => rfl) (fun vs H Q E h => ?_) (fun f cdv A outer s H vs Q E hr hK h => ?_)
  · obtain ⟨b, B, Fo, Rs, rfl, _⟩ := h
    rfl
  · obtain ⟨b, ⟨⟨si, fk, pc, tl, la⟩, past, fut⟩, Fo, Rs, rfl, S, e1, hl, k⟩ := h
    have e1 : fk = folkD Fo := e1
    subst e1
    refine ⟨_, (pss_one (ps_ret (pe_lc (own := [("name", 1)]) (g := gName 1) (tt := tYes) rfl sc_Book_men.nd (pi_list (pe_callB cr_sortedS rfl T.m_sorted boot_sorted (pa_cons (pe_callTy (call_list_dK rfl) rfl T.m_list boot_list (pa_cons (pe_fldC T.cl_Book T.n_Book_folk (pv 0) rfl) pa_nil)) pa_nil))) (blkOk_by (own := [("name", 1)]) (N := N_Book_men) (sc := defScope s_Book_men) (by decide +kernel)) (fun _ _ _ _ _ => pg_name (i := 1) sc_Book_men.nd rfl (Or.inl rfl)) (fun _ _ _ _ _ => pts_nil) (fun _ _ _ _ _ => (pe_tup (pa_cons (pv 1) (pa_cons (pe_ix (r := rIxT K) ix_tup (pe_dget (hu_of hr) (pe_fldC T.cl_Book T.n_Book_folk (pv 0) rfl) (pv 1) (fun _ _ => rfl)) pe_int (fun _ _ => rfl)) (pa_cons (pe_ix (r := rIxT K) ix_tup (pe_dget (hu_of hr) (pe_fldC T.cl_Book T.n_Book_folk (pv 0) rfl) (pv 1) (fun _ _ => rfl)) pe_int (fun _ _ => rfl)) pa_nil)))))))), ?_⟩
    try rw [hK]
    rw [show L2.start N_Book_men [.ref b] = [some (.ref b), none] from rfl]
    obtain ⟨dx, ba, fo, pa, to, ps, fu, S1⟩ := S.bookE
    clear S
    walk_at "sx"
    rename_i p H3 pk3 S3
    rw [show (⟨⟨si, folkD Fo, pc, tl, la⟩, past, fut⟩ : Bk).st.folk = folkD Fo from rfl, folkD_names] at S3
    clear S1
    refine ⟨p, _, rfl, SqL.of sat_at, by rw [List.length_map]; exact hl, fun ys p2 hp hs hp2 => ?_⟩
    have S4 := S3.new hp2 (o := .lst (ys.map V.str))
    have pk4 : PK H3 (upd H3 p2 (.lst (ys.map V.str))) := PK.of_ex (Ex.new hp2)
    generalize upd H3 p2 (.lst (ys.map V.str)) = H4 at S4 pk4 ⊢
    clear S3
    have S5 : Sat H4 (cell p2 (.lst (ys.map V.str)) :: cell b (.ins (CB K) dx (fsBook (.ref ba) (.ref fo) (.ref pa) (.ref to) (.int la) (.ref ps) (.ref fu))) :: dct ba si :: dct fo (folkD Fo) :: dctT pa (pactD pc) :: dct to tl :: lsts ps past :: lsts fu fut :: Rs) := S4.pick
    clear S4
    have hyl : ys.length < 64 := by rw [hp.length_eq, List.length_map]; exact hl
    walk_at "sx"
    refine x_lcQ (walk_list (xs := ys.map V.str)) (fun D i H' => PK H4 H' ∧ ∃ zs, Sat H' (cell D (.lst zs) :: cell p2 (.lst (ys.map V.str)) :: cell b (.ins (CB K) dx (fsBook (.ref ba) (.ref fo) (.ref pa) (.ref to) (.int la) (.ref ps) (.ref fu))) :: dct ba si :: dct fo (folkD Fo) :: dctT pa (pactD pc) :: dct to tl :: lsts ps past :: lsts fu fut :: Rs) ∧ TpAll H' zs ((ys.take i).map (menRow Fo))) (fun D hD => ⟨PK.of_ex (Ex.new hD), [], (S5.new hD).pick, .nil⟩) (fun D i H' _ h => ?_) (fun D i x H6 H7 hi h y => ?_) (fun D H6 h => ?_)
    · obtain ⟨_, zs, S6, _⟩ := h
      exact SqL.of sat_at
    · obtain ⟨pk6, zs, S6, tz⟩ := h
      obtain ⟨rfl, hx⟩ := y
      clear S5
      rw [List.getElem?_map] at hx
      cases hy : ys[i]? with
      | none => rw [hy] at hx; cases hx
      | some n =>
        rw [hy] at hx
        cases hx
        obtain ⟨f, _, hv, hrow⟩ := valD_folk (hp.mem_iff.mp (List.mem_of_getElem? hy))
        walk_at "sx"
        refine x_dg hv fun v tp => ?_
        obtain ⟨q, rfl, hq⟩ : ∃ q, v = .ref q ∧ H7 q = some (.tup [.str f.2.1, .int f.2.2]) := by
          cases tp with
          | tup e1 a => cases a with | cons a1 a => cases a with | cons a2 a => cases a; cases a1; cases a2; exact ⟨_, rfl, e1⟩
        walk_at "sx"
        refine x_dg hv fun v2 tp2 => ?_
        obtain ⟨q2, rfl, hq2⟩ : ∃ q, v2 = .ref q ∧ H7 q = some (.tup [.str f.2.1, .int f.2.2]) := by
          cases tp2 with
          | tup e1 a => cases a with | cons a1 a => cases a with | cons a2 a => cases a; cases a1; cases a2; exact ⟨_, rfl, e1⟩
        walk_at "sx"
        rename_i p8 H8 pk8 S8 h8
        clear S6
        have hz : zs.length < sizeLine := by rw [tz.len, List.length_map, List.length_take, sizeLine_eq]; omega
        refine x_eltS hz fun H9 pk9 S9 => ⟨pk6.trans (pk8.trans pk9), _, S9, ?_⟩
        have e1 : (ys.take (i + 1)).map (menRow Fo) = (ys.take i).map (menRow Fo) ++ [menRow Fo n] := by rw [List.take_succ, hy, List.map_append]; rfl
        rw [e1, hrow]
        exact (TpAll.pk (pk8.trans pk9) tz).app (.cons (.tup (pk9.tup h8) (.cons (.str _) (.cons (.str _) (.cons (.int _) .nil)))) .nil)
    · obtain ⟨pk6, zs, S6, tz⟩ := h
      clear S5
      rw [List.length_map, List.take_length] at tz
      have S7 := bookC (H := H6) (C := CB K) (b := b)
      exact k D ys zs _ hp hs (pk3.trans (pk4.trans pk6)) S7.pick tz
end

/-! ### the name of a refusal -/
abbrev s__law_called : Stmt := top 54
abbrev N__law_called : List Str := ["_law_e", "_law_kinds", "_law_words"]
theorem sc__law_called : FnScope N__law_called ["_law_e"] (defScope s__law_called) := ⟨rfl, rfl, rfl, by decide +kernel, rfl, by decide +kernel, by decide +kernel⟩

def spCalled (K : PySem.W.Frag) : SpE := fun c d a vs H Q _ => ∃ x, vs = [.ref a] ∧ (d = none ∨ ∃ dd fs, d = some dd ∧ H dd = some (.xd fs)) ∧ x ∈ xcls ∧ c = .ref (He.ga K x) ∧ ∀ H', Ex H H' → Q (.str x) H'
theorem cnt1 : ∀ x ∈ xcls, ((xcls.map fun y => V.bl (x == y)).countP fun z => eqV z (.bl true)) = 1 := by decide +kernel
theorem idx1 : ∀ j m : Fin 20, m.val < j.val → (xcls.getD j.val "" == xcls.getD m.val "") = false := by decide +kernel
theorem xd_up {d : Option Addr} {H H' : Hp} (h : d = none ∨ ∃ dd fs, d = some dd ∧ H dd = some (.xd fs)) (e : Ex H H') : d = none ∨ ∃ dd fs, d = some dd ∧ H' dd = some (.xd fs) := by
  rcases h with h | ⟨dd, fs, h1, h2⟩
  · exact .inl h
  · exact .inr ⟨dd, fs, h1, e _ _ h2⟩
theorem flat_bls (ns : List Bool) : (ns.map V.bl).all flatV = true := List.all_eq_true.mpr fun v hv => by
  obtain ⟨u, _, rfl⟩ := List.mem_map.mp hv
  rfl
section
variable {P : Program} {w : World} {K : PySem.W.Frag} {mg : Str → Option Value} {base : Heap}
theorem D_called (T : Txt K mg) (F : Df K mg "_law_called" s__law_called) : DnE P w K mg base 1 "_law_called" ["_law_e"] (spCalled K) := by
  refine F.dnE sc__law_called (fun _ _ _ _ _ _ us hl => match us, hl with | [_], _ => rfl) (fun c d a vs H Q E h => ?_) (fun f cdv A outer s H vs Q E p c d hz hf hr hK h => ?_)
  · obtain ⟨x, rfl, _⟩ := h
    rfl
  · obtain ⟨x, rfl, hd, hx, rfl, k⟩ := h
    refine ⟨_, (pss_cons (ps_set (i := 1) sc__law_called.nd rfl (Or.inl rfl) (pe_lst (pa_cons (pe_callB (call_isB List.mem_cons_self hz hf) rfl T.m_isinstance boot_isinstance (pa_cons (pv 0) (pa_cons (pe_glob (v := .ref (He.ga K "BadName")) rfl T.x_BadName.g rfl) pa_nil))) (pa_cons (pe_callB (call_isB List.mem_cons_self hz hf) rfl T.m_isinstance boot_isinstance (pa_cons (pv 0) (pa_cons (pe_glob (v := .ref (He.ga K "Taken")) rfl T.x_Taken.g rfl) pa_nil))) (pa_cons (pe_callB (call_isB List.mem_cons_self hz hf) rfl T.m_isinstance boot_isinstance (pa_cons (pv 0) (pa_cons (pe_glob (v := .ref (He.ga K "Full")) rfl T.x_Full.g rfl) pa_nil))) (pa_cons (pe_callB (call_isB List.mem_cons_self hz hf) rfl T.m_isinstance boot_isinstance (pa_cons (pv 0) (pa_cons (pe_glob (v := .ref (He.ga K "NoSide")) rfl T.x_NoSide.g rfl) pa_nil))) pa_nil))))))
      (pss_cons (ps_set (i := 1) sc__law_called.nd rfl (Or.inl rfl) (pe_op op_cat (pv 1) (pe_lst (pa_cons (pe_callB (call_isB List.mem_cons_self hz hf) rfl T.m_isinstance boot_isinstance (pa_cons (pv 0) (pa_cons (pe_glob (v := .ref (He.ga K "NoMan")) rfl T.x_NoMan.g rfl) pa_nil))) (pa_cons (pe_callB (call_isB List.mem_cons_self hz hf) rfl T.m_isinstance boot_isinstance (pa_cons (pv 0) (pa_cons (pe_glob (v := .ref (He.ga K "BadRank")) rfl T.x_BadRank.g rfl) pa_nil))) (pa_cons (pe_callB (call_isB List.mem_cons_self hz hf) rfl T.m_isinstance boot_isinstance (pa_cons (pv 0) (pa_cons (pe_glob (v := .ref (He.ga K "Own")) rfl T.x_Own.g rfl) pa_nil))) (pa_cons (pe_callB (call_isB List.mem_cons_self hz hf) rfl T.m_isinstance boot_isinstance (pa_cons (pv 0) (pa_cons (pe_glob (v := .ref (He.ga K "BadTariff")) rfl T.x_BadTariff.g rfl) pa_nil))) pa_nil)))))))
      (pss_cons (ps_set (i := 1) sc__law_called.nd rfl (Or.inl rfl) (pe_op op_cat (pv 1) (pe_lst (pa_cons (pe_callB (call_isB List.mem_cons_self hz hf) rfl T.m_isinstance boot_isinstance (pa_cons (pv 0) (pa_cons (pe_glob (v := .ref (He.ga K "BadLimit")) rfl T.x_BadLimit.g rfl) pa_nil))) (pa_cons (pe_callB (call_isB List.mem_cons_self hz hf) rfl T.m_isinstance boot_isinstance (pa_cons (pv 0) (pa_cons (pe_glob (v := .ref (He.ga K "BadDay")) rfl T.x_BadDay.g rfl) pa_nil))) (pa_cons (pe_callB (call_isB List.mem_cons_self hz hf) rfl T.m_isinstance boot_isinstance (pa_cons (pv 0) (pa_cons (pe_glob (v := .ref (He.ga K "NoCartel")) rfl T.x_NoCartel.g rfl) pa_nil))) (pa_cons (pe_callB (call_isB List.mem_cons_self hz hf) rfl T.m_isinstance boot_isinstance (pa_cons (pv 0) (pa_cons (pe_glob (v := .ref (He.ga K "NoMen")) rfl T.x_NoMen.g rfl) pa_nil))) pa_nil)))))))
      (pss_cons (ps_set (i := 1) sc__law_called.nd rfl (Or.inl rfl) (pe_op op_cat (pv 1) (pe_lst (pa_cons (pe_callB (call_isB List.mem_cons_self hz hf) rfl T.m_isinstance boot_isinstance (pa_cons (pv 0) (pa_cons (pe_glob (v := .ref (He.ga K "Twice")) rfl T.x_Twice.g rfl) pa_nil))) (pa_cons (pe_callB (call_isB List.mem_cons_self hz hf) rfl T.m_isinstance boot_isinstance (pa_cons (pv 0) (pa_cons (pe_glob (v := .ref (He.ga K "Gone")) rfl T.x_Gone.g rfl) pa_nil))) (pa_cons (pe_callB (call_isB List.mem_cons_self hz hf) rfl T.m_isinstance boot_isinstance (pa_cons (pv 0) (pa_cons (pe_glob (v := .ref (He.ga K "Held")) rfl T.x_Held.g rfl) pa_nil))) (pa_cons (pe_callB (call_isB List.mem_cons_self hz hf) rfl T.m_isinstance boot_isinstance (pa_cons (pv 0) (pa_cons (pe_glob (v := .ref (He.ga K "NotHeld")) rfl T.x_NotHeld.g rfl) pa_nil))) pa_nil)))))))
      (pss_cons (ps_set (i := 1) sc__law_called.nd rfl (Or.inl rfl) (pe_op op_cat (pv 1) (pe_lst (pa_cons (pe_callB (call_isB List.mem_cons_self hz hf) rfl T.m_isinstance boot_isinstance (pa_cons (pv 0) (pa_cons (pe_glob (v := .ref (He.ga K "OffRoll")) rfl T.x_OffRoll.g rfl) pa_nil))) (pa_cons (pe_callB (call_isB List.mem_cons_self hz hf) rfl T.m_isinstance boot_isinstance (pa_cons (pv 0) (pa_cons (pe_glob (v := .ref (He.ga K "Uneven")) rfl T.x_Uneven.g rfl) pa_nil))) (pa_cons (pe_callB (call_isB List.mem_cons_self hz hf) rfl T.m_isinstance boot_isinstance (pa_cons (pv 0) (pa_cons (pe_glob (v := .ref (He.ga K "NoDeed")) rfl T.x_NoDeed.g rfl) pa_nil))) (pa_cons (pe_callB (call_isB List.mem_cons_self hz hf) rfl T.m_isinstance boot_isinstance (pa_cons (pv 0) (pa_cons (pe_glob (v := .ref (He.ga K "Breaks")) rfl T.g_Breaks rfl) pa_nil))) pa_nil)))))))
      (pss_cons (ps_set (i := 2) sc__law_called.nd rfl (Or.inl rfl) (pe_lst (pa_cons pe_str (pa_cons pe_str (pa_cons pe_str (pa_cons pe_str (pa_cons pe_str (pa_cons pe_str (pa_cons pe_str (pa_cons pe_str (pa_cons pe_str (pa_cons pe_str pa_nil))))))))))))
      (pss_cons (ps_set (i := 2) sc__law_called.nd rfl (Or.inl rfl) (pe_op op_cat (pv 2) (pe_lst (pa_cons pe_str (pa_cons pe_str (pa_cons pe_str (pa_cons pe_str (pa_cons pe_str (pa_cons pe_str (pa_cons pe_str (pa_cons pe_str (pa_cons pe_str (pa_cons pe_str pa_nil)))))))))))))
      (pss_cons (ps_if (PW.pt (pw_or (pt_cmpR op_ne (pe_bm PySem.F.plainAttrs_list PySem.F.slot_list_count PySem.F.type_list_count mt_countF (pv 1) (pa_cons pe_bl pa_nil)) pe_int (nomark _)) (pw_or1 (pt_not (pt_val (pe_callB (call_isB List.mem_cons_self hz hf) rfl T.m_isinstance boot_isinstance (pa_cons (pv 0) (pa_cons (pe_bltn rfl T.m_ValueError (v := .ty "ValueError") (by decide +kernel) rfl) pa_nil)))))))) (pss_one (ps_ret pe_str)) pss_nil)
      (pss_one (ps_ret (pe_ix ix_list (pv 2) (pe_bm PySem.F.plainAttrs_list PySem.F.slot_list_index PySem.F.type_list_index mt_index (pv 1) (pa_cons pe_bl pa_nil)) (fun _ _ => rfl)))))))))))), ?_⟩
    try rw [hK]
    rw [show L2.start N__law_called [.ref p.1] = [some (.ref p.1), none, none] from rfl]
    walk_at "sx"
    refine x_isBr hd (T.kit1.ec x hx) (T.kis x hx _ (by decide)) ?_
    walk_at "sx"
    refine x_isBr hd (T.kit1.ec x hx) (T.kis x hx _ (by decide)) ?_
    walk_at "sx"
    refine x_isBr hd (T.kit1.ec x hx) (T.kis x hx _ (by decide)) ?_
    walk_at "sx"
    refine x_isBr hd (T.kit1.ec x hx) (T.kis x hx _ (by decide)) ?_
    walk_at "sx"
    intro p1 hp1
    have e1 : Ex H (upd H p1 (.lst [.bl (x == "BadName"), .bl (x == "Taken"), .bl (x == "Full"), .bl (x == "NoSide")])) := Ex.new hp1
    have h1 : upd H p1 (.lst [.bl (x == "BadName"), .bl (x == "Taken"), .bl (x == "Full"), .bl (x == "NoSide")]) p1 = some (.lst [.bl (x == "BadName"), .bl (x == "Taken"), .bl (x == "Full"), .bl (x == "NoSide")]) := upd_same
    generalize upd H p1 (.lst [.bl (x == "BadName"), .bl (x == "Taken"), .bl (x == "Full"), .bl (x == "NoSide")]) = H1 at e1 h1 ⊢
    walk_at "sx"
    refine x_isBr (xd_up hd (e1)) (T.kit1.ec x hx) (T.kis x hx _ (by decide)) ?_
    walk_at "sx"
    refine x_isBr (xd_up hd (e1)) (T.kit1.ec x hx) (T.kis x hx _ (by decide)) ?_
    walk_at "sx"
    refine x_isBr (xd_up hd (e1)) (T.kit1.ec x hx) (T.kis x hx _ (by decide)) ?_
    walk_at "sx"
    refine x_isBr (xd_up hd (e1)) (T.kit1.ec x hx) (T.kis x hx _ (by decide)) ?_
    walk_at "sx"
    intro p2 hp2
    have e2 : Ex H1 (upd H1 p2 (.lst [.bl (x == "NoMan"), .bl (x == "BadRank"), .bl (x == "Own"), .bl (x == "BadTariff")])) := Ex.new hp2
    have h2 : upd H1 p2 (.lst [.bl (x == "NoMan"), .bl (x == "BadRank"), .bl (x == "Own"), .bl (x == "BadTariff")]) p2 = some (.lst [.bl (x == "NoMan"), .bl (x == "BadRank"), .bl (x == "Own"), .bl (x == "BadTariff")]) := upd_same
    generalize upd H1 p2 (.lst [.bl (x == "NoMan"), .bl (x == "BadRank"), .bl (x == "Own"), .bl (x == "BadTariff")]) = H2 at e2 h2 ⊢
    walk_at "sx"
    refine x_catE ((e2) _ _ h1) h2 (Nat.le_of_ble_eq_true rfl) fun p3 H3 e3 h3 => ?_
    walk_at "sx"
    refine x_isBr (xd_up hd (((e1).trans e2).trans e3)) (T.kit1.ec x hx) (T.kis x hx _ (by decide)) ?_
    walk_at "sx"
    refine x_isBr (xd_up hd (((e1).trans e2).trans e3)) (T.kit1.ec x hx) (T.kis x hx _ (by decide)) ?_
    walk_at "sx"
    refine x_isBr (xd_up hd (((e1).trans e2).trans e3)) (T.kit1.ec x hx) (T.kis x hx _ (by decide)) ?_
    walk_at "sx"
    refine x_isBr (xd_up hd (((e1).trans e2).trans e3)) (T.kit1.ec x hx) (T.kis x hx _ (by decide)) ?_
    walk_at "sx"
    intro p4 hp4
    have e4 : Ex H3 (upd H3 p4 (.lst [.bl (x == "BadLimit"), .bl (x == "BadDay"), .bl (x == "NoCartel"), .bl (x == "NoMen")])) := Ex.new hp4
    have h4 : upd H3 p4 (.lst [.bl (x == "BadLimit"), .bl (x == "BadDay"), .bl (x == "NoCartel"), .bl (x == "NoMen")]) p4 = some (.lst [.bl (x == "BadLimit"), .bl (x == "BadDay"), .bl (x == "NoCartel"), .bl (x == "NoMen")]) := upd_same
    generalize upd H3 p4 (.lst [.bl (x == "BadLimit"), .bl (x == "BadDay"), .bl (x == "NoCartel"), .bl (x == "NoMen")]) = H4 at e4 h4 ⊢
    walk_at "sx"
    refine x_catE ((e4) _ _ h3) h4 (Nat.le_of_ble_eq_true rfl) fun p5 H5 e5 h5 => ?_
    walk_at "sx"
    refine x_isBr (xd_up hd (((((e1).trans e2).trans e3).trans e4).trans e5)) (T.kit1.ec x hx) (T.kis x hx _ (by decide)) ?_
    walk_at "sx"
    refine x_isBr (xd_up hd (((((e1).trans e2).trans e3).trans e4).trans e5)) (T.kit1.ec x hx) (T.kis x hx _ (by decide)) ?_
    walk_at "sx"
    refine x_isBr (xd_up hd (((((e1).trans e2).trans e3).trans e4).trans e5)) (T.kit1.ec x hx) (T.kis x hx _ (by decide)) ?_
    walk_at "sx"
    refine x_isBr (xd_up hd (((((e1).trans e2).trans e3).trans e4).trans e5)) (T.kit1.ec x hx) (T.kis x hx _ (by decide)) ?_
    walk_at "sx"
    intro p6 hp6
    have e6 : Ex H5 (upd H5 p6 (.lst [.bl (x == "Twice"), .bl (x == "Gone"), .bl (x == "Held"), .bl (x == "NotHeld")])) := Ex.new hp6
    have h6 : upd H5 p6 (.lst [.bl (x == "Twice"), .bl (x == "Gone"), .bl (x == "Held"), .bl (x == "NotHeld")]) p6 = some (.lst [.bl (x == "Twice"), .bl (x == "Gone"), .bl (x == "Held"), .bl (x == "NotHeld")]) := upd_same
    generalize upd H5 p6 (.lst [.bl (x == "Twice"), .bl (x == "Gone"), .bl (x == "Held"), .bl (x == "NotHeld")]) = H6 at e6 h6 ⊢
    walk_at "sx"
    refine x_catE ((e6) _ _ h5) h6 (Nat.le_of_ble_eq_true rfl) fun p7 H7 e7 h7 => ?_
    walk_at "sx"
    refine x_isBr (xd_up hd (((((((e1).trans e2).trans e3).trans e4).trans e5).trans e6).trans e7)) (T.kit1.ec x hx) (T.kis x hx _ (by decide)) ?_
    walk_at "sx"
    refine x_isBr (xd_up hd (((((((e1).trans e2).trans e3).trans e4).trans e5).trans e6).trans e7)) (T.kit1.ec x hx) (T.kis x hx _ (by decide)) ?_
    walk_at "sx"
    refine x_isBr (xd_up hd (((((((e1).trans e2).trans e3).trans e4).trans e5).trans e6).trans e7)) (T.kit1.ec x hx) (T.kis x hx _ (by decide)) ?_
    walk_at "sx"
    refine x_isBr (xd_up hd (((((((e1).trans e2).trans e3).trans e4).trans e5).trans e6).trans e7)) (T.kit1.ec x hx) (T.kis x hx _ (by decide)) ?_
    walk_at "sx"
    intro p8 hp8
    have e8 : Ex H7 (upd H7 p8 (.lst [.bl (x == "OffRoll"), .bl (x == "Uneven"), .bl (x == "NoDeed"), .bl (x == "Breaks")])) := Ex.new hp8
    have h8 : upd H7 p8 (.lst [.bl (x == "OffRoll"), .bl (x == "Uneven"), .bl (x == "NoDeed"), .bl (x == "Breaks")]) p8 = some (.lst [.bl (x == "OffRoll"), .bl (x == "Uneven"), .bl (x == "NoDeed"), .bl (x == "Breaks")]) := upd_same
    generalize upd H7 p8 (.lst [.bl (x == "OffRoll"), .bl (x == "Uneven"), .bl (x == "NoDeed"), .bl (x == "Breaks")]) = H8 at e8 h8 ⊢
    walk_at "sx"
    refine x_catE ((e8) _ _ h7) h8 (Nat.le_of_ble_eq_true rfl) fun p9 H9 e9 h9 => ?_
    walk_at "sx"
    intro p10 hp10
    have e10 : Ex H9 (upd H9 p10 (.lst [.str "BadName", .str "Taken", .str "Full", .str "NoSide", .str "NoMan", .str "BadRank", .str "Own", .str "BadTariff", .str "BadLimit", .str "BadDay"])) := Ex.new hp10
    have h10 : upd H9 p10 (.lst [.str "BadName", .str "Taken", .str "Full", .str "NoSide", .str "NoMan", .str "BadRank", .str "Own", .str "BadTariff", .str "BadLimit", .str "BadDay"]) p10 = some (.lst [.str "BadName", .str "Taken", .str "Full", .str "NoSide", .str "NoMan", .str "BadRank", .str "Own", .str "BadTariff", .str "BadLimit", .str "BadDay"]) := upd_same
    generalize upd H9 p10 (.lst [.str "BadName", .str "Taken", .str "Full", .str "NoSide", .str "NoMan", .str "BadRank", .str "Own", .str "BadTariff", .str "BadLimit", .str "BadDay"]) = H10 at e10 h10 ⊢
    walk_at "sx"
    intro p11 hp11
    have e11 : Ex H10 (upd H10 p11 (.lst [.str "NoCartel", .str "NoMen", .str "Twice", .str "Gone", .str "Held", .str "NotHeld", .str "OffRoll", .str "Uneven", .str "NoDeed", .str "Breaks"])) := Ex.new hp11
    have h11 : upd H10 p11 (.lst [.str "NoCartel", .str "NoMen", .str "Twice", .str "Gone", .str "Held", .str "NotHeld", .str "OffRoll", .str "Uneven", .str "NoDeed", .str "Breaks"]) p11 = some (.lst [.str "NoCartel", .str "NoMen", .str "Twice", .str "Gone", .str "Held", .str "NotHeld", .str "OffRoll", .str "Uneven", .str "NoDeed", .str "Breaks"]) := upd_same
    generalize upd H10 p11 (.lst [.str "NoCartel", .str "NoMen", .str "Twice", .str "Gone", .str "Held", .str "NotHeld", .str "OffRoll", .str "Uneven", .str "NoDeed", .str "Breaks"]) = H11 at e11 h11 ⊢
    walk_at "sx"
    refine x_catE ((e11) _ _ h10) h11 (Nat.le_of_ble_eq_true rfl) fun p12 H12 e12 h12 => ?_
    walk_at "sx"
    have hk : H12 p9 = some (.lst (xcls.map fun y => V.bl (x == y))) := (((e10).trans e11).trans e12) _ _ h9
    have hw : H12 p12 = some (.lst (xcls.map V.str)) := h12
    have eAll : Ex H H12 := (((((((((((e1).trans e2).trans e3).trans e4).trans e5).trans e6).trans e7).trans e8).trans e9).trans e10).trans e11).trans e12
    have fl : (xcls.map fun y => V.bl (x == y)).all flatV = true := by
      have := flat_bls (xcls.map fun y => x == y)
      rw [List.map_map] at this
      exact this
    refine ⟨_, _, .bl true, rfl, rfl, SqL.of hk, rfl, fl, ?_⟩
    rw [cnt1 x hx]
    walk_at "sx"
    rw [decide_eq_false (show ¬ (((1 : Nat) : Int) ≠ 1) by decide)]
    refine x_orF ?_
    walk_at "sx"
    refine x_isBt (xd_up hd ((((((((((((e1).trans e2).trans e3).trans e4).trans e5).trans e6).trans e7).trans e8).trans e9).trans e10).trans e11).trans e12)) (T.kit1.ec x hx) (T.kit1.kv x hx) ?_
    walk_at "sx"
    obtain ⟨j, hj⟩ := List.getElem?_of_mem hx
    have hj20 : j < 20 := (List.getElem?_eq_some_iff.mp hj).1
    have ej : xcls.getD j "" = x := by rw [List.getD_eq_getElem?_getD, hj]; rfl
    refine ⟨_, _, .bl true, j, .bl (x == x), rfl, rfl, SqL.of hk, rfl, fl, by rw [List.getElem?_map, hj]; rfl, by rw [beq_self_eq_true]; rfl, fun m z' hm hz' => ?_, ?_⟩
    · have hm20 : m < xcls.length := show m < 20 by omega
      rw [List.getElem?_map, List.getElem?_eq_getElem hm20] at hz'
      cases hz'
      have := idx1 ⟨j, hj20⟩ ⟨m, by omega⟩ hm
      rw [ej, List.getD_eq_getElem?_getD, List.getElem?_eq_getElem hm20] at this
      have this : (x == xcls[m]) = false := this
      show eqV (.bl (x == xcls[m])) (.bl true) = false
      rw [this]
      rfl
    walk_at "sx"
    refine x_ixLn (SqL.of hw) (by omega) (v := .str x) (by rw [Int.toNat_natCast, List.getElem?_map, hj]; rfl) ?_
    exact k _ eAll
end

/-! ### a scene in parts -/
abbrev CS (K : PySem.W.Frag) : Addr := He.ga K "Scene"
abbrev CM (K : PySem.W.Frag) : Addr := He.ga K "Man"
structure MSt where
  home : Str
  grade : Int
  dead : Bool
  keeper : Str
  caught : Int
  bonds : KDs
abbrev Crew := List (Str × MSt)
def findM : Crew → Str → Option MSt
  | [], _ => none
  | (k, m) :: r, n => if k = n then some m else findM r n
def setM : Crew → Str → MSt → Crew
  | [], _, _ => []
  | (k, m) :: r, n, m' => if k = n then (k, m') :: r else (k, m) :: setM r n m'
abbrev manV (m : MSt) (bo : Addr) : List (Str × V) := fsMan (.str m.home) (.int m.grade) (.bl m.dead) (.str m.keeper) (.int m.caught) (.ref bo)
def man (C : Addr) (v : V) (m : MSt) : Res := fun h => ∃ a dx bo : Addr, v = .ref a ∧ star [cell a (.ins C dx (manV m bo)), dct bo m.bonds] h
def mans (C : Addr) : List (Key × V) → Crew → List Res := List.zipWith fun kv nm => man C kv.2 nm.2
def crewR (C p : Addr) (ms : Crew) : Res := fun h => ∃ kvs : List (Key × V), kvs.map (fun kv => kv.1) = ms.map (fun nm => Sum.inr nm.1) ∧ star [cell p (.dK kvs), star (mans C kvs ms)] h
structure SSt where
  ms : Crew
  du : KTs
  pa : Addr
def scene (K : PySem.W.Frag) (s : Addr) (t : SSt) : Res := fun h => ∃ (dx p du : Addr), star [cell s (.ins (CS K) dx (fsScene (.ref p) (.ref t.pa) (.ref du))), crewR (CM K) p t.ms, dctT du t.du] h
section
variable {H : Hp} {Rs : List Res} {C p s : Addr} {ms : Crew} {n : Str} {m : MSt} {kvs : List (Key × V)}
theorem setM_keys (ms : Crew) (n : Str) (m' : MSt) : (setM ms n m').map (fun nm => nm.1) = ms.map (fun nm => nm.1) := by
  induction ms with
  | nil => rfl
  | cons a r ih =>
    obtain ⟨k, m⟩ := a
    unfold setM
    by_cases c : k = n
    · rw [if_pos c]; rfl
    · rw [if_neg c, List.map_cons, List.map_cons, ih]
theorem findM_set (ms : Crew) (n : Str) (m' : MSt) (h : (findM ms n).isSome = true) : findM (setM ms n m') n = some m' := by
  induction ms with
  | nil => cases h
  | cons a r ih =>
    obtain ⟨k, m⟩ := a
    unfold setM
    by_cases c : k = n
    · rw [if_pos c]; unfold findM; rw [if_pos c]
    · unfold findM at h
      rw [if_neg c] at h
      rw [if_neg c]
      unfold findM
      rw [if_neg c]
      exact ih h
theorem mans_at : ∀ {kvs : List (Key × V)} {ms : Crew}, kvs.map (fun kv => kv.1) = ms.map (fun nm => Sum.inr nm.1) → findM ms n = some m →
    ∃ v A B, valV kvs (.inr n) = some v ∧ mans C kvs ms = A ++ man C v m :: B ∧ ∀ m', mans C kvs (setM ms n m') = A ++ man C v m' :: B
  | [], [], _, h => by cases h
  | [], _ :: _, e, _ => by simp at e
  | _ :: _, [], e, _ => by simp at e
  | (k, v) :: kvs, (j, u) :: ms, e, h => by
    rw [List.map_cons, List.map_cons] at e
    injection e with e1 e2
    have e1 : k = Sum.inr j := e1
    unfold findM at h
    by_cases c : j = n
    · rw [if_pos c] at h
      cases h
      refine ⟨v, [], mans C kvs ms, valV_pos (p := (k, v)) (by rw [e1, c]), rfl, fun m' => ?_⟩
      unfold setM
      rw [if_pos c]
      rfl
    · rw [if_neg c] at h
      obtain ⟨w, A, B, h1, h2, h3⟩ := mans_at e2 h
      refine ⟨w, man C v u :: A, B, ?_, ?_, fun m' => ?_⟩
      · rw [valV_neg (p := (k, v)) (fun z => c (Sum.inr.inj (e1.symm.trans z)))]
        exact h1
      · show man C v u :: mans C kvs ms = _
        rw [h2]
        rfl
      · unfold setM
        rw [if_neg c]
        show man C v u :: mans C kvs (setM ms n m') = _
        rw [h3 m']
        rfl
theorem _root_.G.Sat.manE {v : V} (S : Sat H (man C v m :: Rs)) : ∃ a dx bo : Addr, v = .ref a ∧ Sat H (cell a (.ins C dx (manV m bo)) :: dct bo m.bonds :: Rs) := by
  obtain ⟨a, S⟩ := S.exE
  obtain ⟨dx, S⟩ := S.exE
  obtain ⟨bo, S⟩ := S.exE
  have f := S.fact (P := v = .ref a) fun h e r => r.1
  exact ⟨a, dx, bo, f, (S.imp fun _ _ r => r.2).open_⟩
theorem _root_.G.Sat.manI {a dx bo : Addr} (S : Sat H (cell a (.ins C dx (manV m bo)) :: dct bo m.bonds :: Rs)) : Sat H (man C (.ref a) m :: Rs) :=
  (Sat.close (As := [_, _]) S).imp fun h e r => ⟨a, dx, bo, rfl, r⟩
theorem _root_.G.Sat.crewE (S : Sat H (crewR C p ms :: Rs)) : ∃ kvs : List (Key × V), kvs.map (fun kv => kv.1) = ms.map (fun nm => Sum.inr nm.1) ∧ Sat H (cell p (.dK kvs) :: star (mans C kvs ms) :: Rs) := by
  obtain ⟨kvs, S⟩ := S.exE
  have f := S.fact (P := kvs.map (fun kv => kv.1) = ms.map (fun nm => Sum.inr nm.1)) fun h e r => r.1
  exact ⟨kvs, f, (S.imp fun _ _ r => r.2).open_⟩
theorem _root_.G.Sat.crewI (e : kvs.map (fun kv => kv.1) = ms.map (fun nm => Sum.inr nm.1)) (S : Sat H (cell p (.dK kvs) :: star (mans C kvs ms) :: Rs)) : Sat H (crewR C p ms :: Rs) :=
  (Sat.close (As := [_, _]) S).imp fun h _ r => ⟨kvs, e, r⟩
/-- one man of the crew taken out, and put back changed -/
theorem _root_.G.Sat.crewAt (S : Sat H (crewR C p ms :: Rs)) (hn : findM ms n = some m) : ∃ (kvs : List (Key × V)) (a dx bo : Addr) (Os : List Res), valV kvs (.inr n) = some (.ref a) ∧
    Sat H (cell p (.dK kvs) :: cell a (.ins C dx (manV m bo)) :: dct bo m.bonds :: star Os :: Rs) ∧
    ∀ (H' : Hp) (m' : MSt) (bo' : Addr) (Rs' : List Res), Sat H' (cell p (.dK kvs) :: cell a (.ins C dx (manV m' bo')) :: dct bo' m'.bonds :: star Os :: Rs') → SatP H' (crewR C p (setM ms n m') :: Rs') := by
  obtain ⟨kvs, e, S⟩ := S.crewE
  obtain ⟨v, A, B, h1, h2, h3⟩ := mans_at (C := C) e hn
  rw [h2] at S
  have S1 : Sat H (man C v m :: (A ++ (B ++ (cell p (.dK kvs) :: Rs)))) := by
    have S2 : Sat H ((A ++ man C v m :: B) ++ (cell p (.dK kvs) :: Rs)) := S.swap.open_
    rw [List.append_assoc] at S2
    exact S2.perm List.perm_middle
  obtain ⟨a, dx, bo, rfl, S3⟩ := S1.manE
  refine ⟨kvs, a, dx, bo, A ++ B, h1, ?_, fun H' m' bo' Rs' S' => ?_⟩
  · have S4 : Sat H ((A ++ B) ++ (cell p (.dK kvs) :: cell a (.ins C dx (manV m bo)) :: dct bo m.bonds :: Rs)) := by
      refine S3.perm ?_
      rw [← List.append_assoc]
      refine (List.Perm.trans (.cons _ List.perm_middle.symm) (List.perm_middle (l₁ := A ++ B)).symm).trans ?_
      refine List.Perm.append_left _ ?_
      exact (List.Perm.cons _ (.swap _ _ _)).trans (.swap _ _ _)
    have S5 := S4.close
    exact S5.perm ((List.Perm.swap _ _ _).trans (.cons _ ((List.Perm.swap _ _ _).trans (.cons _ (.swap _ _ _)))))
  · have S4 : Sat H' (star (A ++ B) :: cell a (.ins C dx (manV m' bo')) :: dct bo' m'.bonds :: cell p (.dK kvs) :: Rs') :=
      S'.perm ((((List.Perm.swap _ _ _).trans (.cons _ (.swap _ _ _))).trans (.cons _ (.cons _ (.swap _ _ _)))).trans (((List.Perm.swap _ _ _).cons _).trans (.swap _ _ _)))
    have S5 : Sat H' (cell a (.ins C dx (manV m' bo')) :: dct bo' m'.bonds :: ((A ++ B) ++ (cell p (.dK kvs) :: Rs'))) := by
      have S6 := S4.open_
      refine S6.perm ?_
      exact (List.perm_middle (l₁ := A ++ B)).trans (.cons _ (List.perm_middle (l₁ := A ++ B)))
    have S7 := S5.manI
    have S8 : Sat H' ((A ++ man C (.ref a) m' :: B) ++ (cell p (.dK kvs) :: Rs')) := by
      refine S7.perm ?_
      rw [List.append_assoc, List.append_assoc]
      exact List.perm_middle.symm
    rw [← h3 m'] at S8
    refine ⟨G.Sat.crewI (kvs := kvs) ?_ S8.close.swap⟩
    have k := congrArg (List.map (Sum.inr : Str → Key)) (setM_keys ms n m')
    rw [List.map_map, List.map_map] at k
    rw [e]
    exact k.symm
theorem _root_.G.Sat.sceneE {K : PySem.W.Frag} {t : SSt} (S : Sat H (scene K s t :: Rs)) : ∃ dx p du : Addr, Sat H (cell s (.ins (CS K) dx (fsScene (.ref p) (.ref t.pa) (.ref du))) :: crewR (CM K) p t.ms :: dctT du t.du :: Rs) := by
  obtain ⟨dx, S⟩ := S.exE
  obtain ⟨p, S⟩ := S.exE
  obtain ⟨du, S⟩ := S.exE
  exact ⟨dx, p, du, S.open_⟩
theorem _root_.G.Sat.sceneI {K : PySem.W.Frag} {dx p du pa : Addr} {kd : KTs} (S : Sat H (cell s (.ins (CS K) dx (fsScene (.ref p) (.ref pa) (.ref du))) :: crewR (CM K) p ms :: dctT du kd :: Rs)) : Sat H (scene K s ⟨ms, kd, pa⟩ :: Rs) :=
  (Sat.close (As := [_, _, _]) S).imp fun h e r => ⟨dx, p, du, r⟩
end
instance hasIns_scene {K : PySem.W.Frag} {a : Addr} {m : Str} {t : SSt} {H : Hp} {Rs T : List Res} {F : Res → List Res} [S : Sat H Rs] [f : Foc (scene K) a t Rs T F] [n : ∀ a0 a1 a2, Nk m (fsScene a0 a1 a2)] : HasIns (He.ga K "Scene") m a H := by
  obtain ⟨dx, p, du, S⟩ := (f.out S).sceneE
  exact ⟨dx, _, S.get, (n _ _ _).h⟩
/-- one man of a scene opened, and the scene behind his change -/
theorem _root_.G.Sat.sceneAt {H : Hp} {Rs : List Res} {K : PySem.W.Frag} {s : Addr} {t : SSt} {n : Str} {m : MSt} (S : Sat H (scene K s t :: Rs)) (hn : findM t.ms n = some m) : ∃ (dx p du : Addr) (kvs : List (Key × V)) (a dm bo : Addr) (Os : List Res), valV kvs (.inr n) = some (.ref a) ∧
    Sat H (cell s (.ins (CS K) dx (fsScene (.ref p) (.ref t.pa) (.ref du))) :: cell p (.dK kvs) :: cell a (.ins (CM K) dm (manV m bo)) :: dct bo m.bonds :: star Os :: dctT du t.du :: Rs) ∧
    ∀ (H' : Hp) (m' : MSt) (bo' : Addr) (Rs' : List Res), Sat H' (cell s (.ins (CS K) dx (fsScene (.ref p) (.ref t.pa) (.ref du))) :: cell p (.dK kvs) :: cell a (.ins (CM K) dm (manV m' bo')) :: dct bo' m'.bonds :: star Os :: dctT du t.du :: Rs') → SatP H' (scene K s { t with ms := setM t.ms n m' } :: Rs') := by
  obtain ⟨dx, p, du, S⟩ := S.sceneE
  obtain ⟨kvs, a, dm, bo, Os, h1, S2, back⟩ := S.swap.crewAt hn
  refine ⟨dx, p, du, kvs, a, dm, bo, Os, h1, S2.pick, fun H' m' bo' Rs' S' => ?_⟩
  have S3 : Sat H' (cell p (.dK kvs) :: cell a (.ins (CM K) dm (manV m' bo')) :: dct bo' m'.bonds :: star Os :: cell s (.ins (CS K) dx (fsScene (.ref p) (.ref t.pa) (.ref du))) :: dctT du t.du :: Rs') := S'.pick
  exact ⟨G.Sat.sceneI (back H' m' bo' _ S3).s.swap⟩

/-! ### what befalls the men of a scene with cartels, and what is refused -/
abbrev s_Man___init__ : Stmt := inClass (top 31) 0
abbrev N_Man___init__ : List Str := ["self", "home", "grade"]
theorem sc_Man___init__ : FnScope N_Man___init__ ["self", "home", "grade"] (defScope s_Man___init__) := ⟨rfl, rfl, rfl, by decide +kernel, rfl, by decide +kernel, by decide +kernel⟩
abbrev s_Man_on_roll : Stmt := inClass (top 31) 1
abbrev N_Man_on_roll : List Str := ["self", "home", "across"]
theorem sc_Man_on_roll : FnScope N_Man_on_roll ["self", "home", "across"] (defScope s_Man_on_roll) := ⟨rfl, rfl, rfl, by decide +kernel, rfl, by decide +kernel, by decide +kernel⟩
abbrev s_Man_goes_from : Stmt := inClass (top 31) 3
abbrev N_Man_goes_from : List Str := ["self", "across"]
theorem sc_Man_goes_from : FnScope N_Man_goes_from ["self", "across"] (defScope s_Man_goes_from) := ⟨rfl, rfl, rfl, by decide +kernel, rfl, by decide +kernel, by decide +kernel⟩
abbrev s_Scene_living : Stmt := inClass (top 32) 1
abbrev N_Scene_living : List Str := ["self", "name", "man"]
theorem sc_Scene_living : FnScope N_Scene_living ["self", "name"] (defScope s_Scene_living) := ⟨rfl, rfl, rfl, by decide +kernel, rfl, by decide +kernel, by decide +kernel⟩
abbrev s_Scene_kept : Stmt := inClass (top 32) 2
abbrev N_Scene_kept : List Str := ["self", "name", "man"]
theorem sc_Scene_kept : FnScope N_Scene_kept ["self", "name"] (defScope s_Scene_kept) := ⟨rfl, rfl, rfl, by decide +kernel, rfl, by decide +kernel, by decide +kernel⟩
abbrev s_Scene_taken : Stmt := inClass (top 32) 3
abbrev N_Scene_taken : List Str := ["self", "day", "name", "side", "man"]
theorem sc_Scene_taken : FnScope N_Scene_taken ["self", "day", "name", "side"] (defScope s_Scene_taken) := ⟨rfl, rfl, rfl, by decide +kernel, rfl, by decide +kernel, by decide +kernel⟩
abbrev s_Scene_sent : Stmt := inClass (top 32) 4
abbrev N_Scene_sent : List Str := ["self", "name", "man"]
theorem sc_Scene_sent : FnScope N_Scene_sent ["self", "name"] (defScope s_Scene_sent) := ⟨rfl, rfl, rfl, by decide +kernel, rfl, by decide +kernel, by decide +kernel⟩
abbrev s_Scene_let_go : Stmt := inClass (top 32) 5
abbrev N_Scene_let_go : List Str := ["self", "name", "man"]
theorem sc_Scene_let_go : FnScope N_Scene_let_go ["self", "name"] (defScope s_Scene_let_go) := ⟨rfl, rfl, rfl, by decide +kernel, rfl, by decide +kernel, by decide +kernel⟩
abbrev s_Scene_graded : Stmt := inClass (top 32) 6
abbrev N_Scene_graded : List Str := ["self", "name", "grade", "man"]
theorem sc_Scene_graded : FnScope N_Scene_graded ["self", "name", "grade"] (defScope s_Scene_graded) := ⟨rfl, rfl, rfl, by decide +kernel, rfl, by decide +kernel, by decide +kernel⟩
abbrev s_Scene_dies : Stmt := inClass (top 32) 7
abbrev N_Scene_dies : List Str := ["self", "name", "man"]
theorem sc_Scene_dies : FnScope N_Scene_dies ["self", "name"] (defScope s_Scene_dies) := ⟨rfl, rfl, rfl, by decide +kernel, rfl, by decide +kernel, by decide +kernel⟩
abbrev s_Scene_gone_over : Stmt := inClass (top 32) 8
abbrev N_Scene_gone_over : List Str := ["self", "worths", "home", "across", "names", "total", "name"]
theorem sc_Scene_gone_over : FnScope N_Scene_gone_over ["self", "worths", "home", "across", "names"] (defScope s_Scene_gone_over) := ⟨rfl, rfl, rfl, by decide +kernel, rfl, by decide +kernel, by decide +kernel⟩
abbrev s_Scene_swapped : Stmt := inClass (top 32) 9
abbrev N_Scene_swapped : List Str := ["self", "one", "other", "ones", "others", "pair", "worths", "limit", "got", "due", "name"]
theorem sc_Scene_swapped : FnScope N_Scene_swapped ["self", "one", "other", "ones", "others"] (defScope s_Scene_swapped) := ⟨rfl, rfl, rfl, by decide +kernel, rfl, by decide +kernel, by decide +kernel⟩
abbrev s_Scene_befalls : Stmt := inClass (top 32) 10
abbrev N_Scene_befalls : List Str := ["self", "day", "deed"]
theorem sc_Scene_befalls : FnScope N_Scene_befalls ["self", "day", "deed"] (defScope s_Scene_befalls) := ⟨rfl, rfl, rfl, by decide +kernel, rfl, by decide +kernel, by decide +kernel⟩

inductive Out (α : Type) where
  | ok (a : α)
  | bad (c : Str)
  | no
abbrev man0 (hm : Str) (g : Int) : MSt := ⟨hm, g, false, "", 0, []⟩
def spManInit (K : PySem.W.Frag) : Sp := fun vs H Q _ => ∃ (a dx : Addr) (hm : Str) (g : Int) (Rs : List Res), vs = [.ref a, .str hm, .int g] ∧ Sat H (cell a (.ins (CM K) dx []) :: Rs) ∧ ∀ H', PK H H' → Sat H' (man (CM K) (.ref a) (man0 hm g) :: Rs) → Q .non H'
def spLiving (K : PySem.W.Frag) : Sp := fun vs H Q E => ∃ (s : Addr) (n : Str) (dx p : Addr) (pw du : V) (kvs : List (Key × V)) (a dm bo : Addr) (m : MSt) (Rs : List Res), vs = [.ref s, .str n] ∧
  Sat H (cell s (.ins (CS K) dx (fsScene (.ref p) pw du)) :: cell p (.dK kvs) :: cell a (.ins (CM K) dm (manV m bo)) :: Rs) ∧ valV kvs (.inr n) = some (.ref a) ∧ (m.dead = true → E (.ref (He.ga K "Gone")) none H) ∧ (m.dead = false → Q (.ref a) H)
def spKept (K : PySem.W.Frag) : Sp := fun vs H Q E => ∃ (s : Addr) (n : Str) (dx p : Addr) (pw du : V) (kvs : List (Key × V)) (a dm bo : Addr) (m : MSt) (Rs : List Res), vs = [.ref s, .str n] ∧
  Sat H (cell s (.ins (CS K) dx (fsScene (.ref p) pw du)) :: cell p (.dK kvs) :: cell a (.ins (CM K) dm (manV m bo)) :: Rs) ∧ valV kvs (.inr n) = some (.ref a) ∧ (m.dead = true → E (.ref (He.ga K "Gone")) none H) ∧ (m.dead = false → m.keeper = "" → E (.ref (He.ga K "NotHeld")) none H) ∧ (m.dead = false → m.keeper ≠ "" → Q (.ref a) H)
inductive Deed where
  | take (n s : Str)
  | word (n : Str)
  | free (n : Str)
  | flee (n : Str)
  | die (n : Str)
  | rank (n : Str) (r : Int)
def Deed.man : Deed → Str
  | .take n _ | .word n | .free n | .flee n | .die n | .rank n _ => n
def Deed.ds : Deed → List PyData
  | .take n s => [.str "take", .str n, .str s]
  | .word n => [.str "word", .str n]
  | .free n => [.str "free", .str n]
  | .flee n => [.str "flee", .str n]
  | .die n => [.str "die", .str n]
  | .rank n r => [.str "rank", .str n, .int r]
/-- a deed of one man, or an exchange -/
inductive Dd where
  | one (x : Deed)
  | swap (a b : Str) (os ot : List Str)
def Dd.ds : Dd → List PyData
  | .one x => x.ds
  | .swap a b os ot => [.str "swap", .str a, .str b, .tuple (os.map .str), .tuple (ot.map .str)]
/-- what a deed makes of its man, or what is refused -/
def fallM (day : Int) : Deed → MSt → Out MSt
  | .take _ s, m => if m.home = s then .bad "Own" else if m.dead = true then .bad "Gone" else if m.keeper = "" then .ok { m with keeper := s, caught := day, bonds := dropD m.bonds (.inr s) } else .bad "Held"
  | .word _, m => if m.dead = true then .bad "Gone" else if m.keeper = "" then .bad "NotHeld" else if m.bonds.length < 1000 then .ok { m with keeper := "", bonds := putD m.bonds (.inr m.keeper) (.int m.caught) } else .no
  | .free _, m => if m.dead = true then .bad "Gone" else if m.keeper = "" then .bad "NotHeld" else .ok { m with keeper := "" }
  | .flee _, m => if m.dead = true then .bad "Gone" else if m.keeper = "" then .bad "NotHeld" else .ok { m with keeper := "" }
  | .die _, m => if m.dead = true then .bad "Gone" else .ok { m with dead := true, keeper := "", bonds := [] }
  | .rank _ r, m => if m.dead = true then .bad "Gone" else .ok { m with grade := r }
/-- a scene behind, or the refusal -/
def ScFin (K : PySem.W.Frag) (s : Addr) (Rs : List Res) (H : Hp) (Q : VK) (E : XK) : Out SSt → Prop
  | .ok t => ∀ H', PK H H' → Sat H' (scene K s t :: Rs) → Q .non H'
  | .bad c => ∀ H', PK H H' → Sat H' Rs → E (.ref (He.ga K c)) none H'
  | .no => False
def oneM (day : Int) (x : Deed) (t : SSt) : Out SSt := match findM t.ms x.man with
  | none => .no
  | some m => match fallM day x m with
    | .ok m' => .ok { t with ms := setM t.ms x.man m' }
    | .bad c => .bad c
    | .no => .no
def spFall (K : PySem.W.Frag) (args : Str → Int → Deed → Option (List V)) : Sp := fun vs H Q E => ∃ (s : Addr) (day : Int) (x : Deed) (t : SSt) (as : List V) (Rs : List Res), args x.man day x = some as ∧ vs = .ref s :: as ∧ Sat H (scene K s t :: Rs) ∧ ScFin K s Rs H Q E (oneM day x t)
def aTake (n : Str) (day : Int) : Deed → Option (List V)
  | .take _ s => some [.int day, .str n, .str s]
  | _ => none
def aWord (n : Str) (_ : Int) : Deed → Option (List V)
  | .word _ => some [.str n]
  | _ => none
def aGo (n : Str) (_ : Int) : Deed → Option (List V)
  | .free _ => some [.str n]
  | .flee _ => some [.str n]
  | _ => none
def aDie (n : Str) (_ : Int) : Deed → Option (List V)
  | .die _ => some [.str n]
  | _ => none
def aRank (n : Str) (_ : Int) : Deed → Option (List V)
  | .rank _ r => some [.str n, .int r]
  | _ => none
section
variable {P : Program} {w : World} {K : PySem.W.Frag} {mg : Str → Option Value} {base : Heap}
theorem oneM_some {K : PySem.W.Frag} {s : Addr} {Rs : List Res} {H : Hp} {Q : VK} {E : XK} {day : Int} {x : Deed} {t : SSt} (h : ScFin K s Rs H Q E (oneM day x t)) : ∃ m, findM t.ms x.man = some m ∧ (∀ m', fallM day x m = .ok m' → ∀ H', PK H H' → Sat H' (scene K s { t with ms := setM t.ms x.man m' } :: Rs) → Q .non H') ∧
    (∀ c, fallM day x m = .bad c → ∀ H', PK H H' → Sat H' Rs → E (.ref (He.ga K c)) none H') ∧ fallM day x m ≠ .no := by
  unfold oneM at h
  cases e : findM t.ms x.man with
  | none => rw [e] at h; exact h.elim
  | some m =>
    rw [e] at h
    cases e2 : fallM day x m with
    | ok m' =>
      simp only [e2] at h
      exact ⟨m, rfl, fun _ e3 => by cases (e2.symm.trans e3); exact h, (fun _ e3 => by cases (e2.symm.trans e3)), (fun e3 => by cases (e2.symm.trans e3))⟩
    | bad c =>
      simp only [e2] at h
      exact ⟨m, rfl, (fun _ e3 => by cases (e2.symm.trans e3)), fun _ e3 => by cases (e2.symm.trans e3); exact h, (fun e3 => by cases (e2.symm.trans e3))⟩
    | no => simp only [e2] at h; exact h.elim
theorem D_Man_init (T : Txt K mg) (F : Mf K "Man" "__init__" "Man.__init__" s_Man___init__) : DnM P w K mg base CX0 1 (He.ma K (He.ga K "Man") "__init__") ["self", "home", "grade"] (spManInit K) := by
  refine F.dm sc_Man___init__ (fun _ _ _ _ _ _ us hl => match us, hl with | [_, _, _], _ => rfl) (fun vs H Q E h => ?_) (fun f cdv A outer s H vs Q E hr hK h => ?_)
  · obtain ⟨a, dx, hm, g, Rs, rfl, _⟩ := h
    rfl
  · obtain ⟨a, dx, hm, g, Rs, rfl, S, k⟩ := h
    refine ⟨_, (pss_cons (ps_fldC T.cl_Man T.n_Man_home (pv 0) (pv 1) rfl)
      (pss_cons (ps_fldC T.cl_Man T.n_Man_grade (pv 0) (pv 2) rfl)
      (pss_cons (ps_fldC T.cl_Man T.n_Man_dead (pv 0) pe_bl rfl)
      (pss_cons (ps_fldC T.cl_Man T.n_Man_keeper (pv 0) pe_str rfl)
      (pss_cons (ps_fldC T.cl_Man T.n_Man_caught (pv 0) pe_int rfl)
      (pss_one (ps_fldC T.cl_Man T.n_Man_bonds (pv 0) (pe_dnewK) rfl))))))), ?_⟩
    try rw [hK]
    rw [show L2.start N_Man___init__ [.ref a, .str hm, .int g] = [some (.ref a), some (.str hm), some (.int g)] from rfl]
    walk_at "sx"
    rename_i p H3 pk3 S3 H4 pk4 S4
    exact k _ (by walk_at "pk") (G.Sat.manI (dx := dx) (bo := p) (m := man0 hm g) pick)
theorem D_Scene_living (T : Txt K mg) (F : Mf K "Scene" "living" "Scene.living" s_Scene_living) : DnM P w K mg base (L2N.CX P w) 1 (He.ma K (He.ga K "Scene") "living") ["self", "name"] (spLiving K) := by
  refine F.dmN sc_Scene_living (fun _ _ _ _ _ _ us hl => match us, hl with | [_, _], _ => rfl) (fun vs H Q E h => ?_) (fun f cdv A outer s H vs Q E hr hK h => ?_)
  · obtain ⟨s, n, dx, p, pw, du, kvs, a, dm, bo, m, Rs, rfl, _⟩ := h
    rfl
  · obtain ⟨s, n, dx, p, pw, du, kvs, a, dm, bo, m, Rs, rfl, S, hv, no, yes⟩ := h
    refine ⟨_, (pss_cons (ps_set (i := 2) sc_Scene_living.nd rfl (Or.inl rfl) (pe_dget (hu_of hr) (pe_fldC T.cl_Scene T.n_Scene_crew (pv 0) rfl) (pv 1) (fun _ _ => rfl)))
      (pss_cons (ps_if (pt_val (pe_fldC T.cl_Man T.n_Man_dead (pv 2) rfl)) (pss_one (L2N.ps_raise rfl (L2N.takes_of rfl rfl rfl rfl) (L2N.pmk_own PySem.F.excBase_ValueError T.x_Gone.xi T.x_Gone.g T.x_Gone.k (raises_own T.x_Gone.b T.x_Gone.t) rfl))) pss_nil)
      (pss_one (ps_ret (pv 2))))), ?_⟩
    try rw [hK]
    rw [show L2.start N_Scene_living [.ref s, .str n] = [some (.ref s), some (.str n), none] from rfl]
    walk_at "sx"
    refine x_dgC hv ?_
    walk_at "sx"
    cases hd : m.dead with
    | true =>
      refine x_ifT ?_
      exact no hd
    | false =>
      refine x_ifF ?_
      walk_at "sx"
      exact yes hd
theorem D_Scene_kept (T : Txt K mg) (D_Scene_living : DnM P w K mg base (L2N.CX P w) 1 (He.ma K (He.ga K "Scene") "living") ["self", "name"] (spLiving K)) (F : Mf K "Scene" "kept" "Scene.kept" s_Scene_kept) : DnM P w K mg base (L2N.CX P w) 2 (He.ma K (He.ga K "Scene") "kept") ["self", "name"] (spKept K) := by
  refine F.dmN sc_Scene_kept (fun _ _ _ _ _ _ us hl => match us, hl with | [_, _], _ => rfl) (fun vs H Q E h => ?_) (fun f cdv A outer s H vs Q E hr hK h => ?_)
  · obtain ⟨s, n, dx, p, pw, du, kvs, a, dm, bo, m, Rs, rfl, _⟩ := h
    rfl
  · obtain ⟨s, n, dx, p, pw, du, kvs, a, dm, bo, m, Rs, rfl, S, hv, no, no2, yes⟩ := h
    refine ⟨_, (pss_cons (ps_set (i := 2) sc_Scene_kept.nd rfl (Or.inl rfl) (pe_mt (pv 0) T.cl_Scene T.me_Scene_living D_Scene_living (hr.mono (by first | decide | omega)) passN (pa_cons (pv 1) pa_nil)))
      (pss_cons (ps_if (pt_cmpR op_eq (pe_fldC T.cl_Man T.n_Man_keeper (pv 2) rfl) pe_str (nomark _)) (pss_one (L2N.ps_raise rfl (L2N.takes_of rfl rfl rfl rfl) (L2N.pmk_own PySem.F.excBase_ValueError T.x_NotHeld.xi T.x_NotHeld.g T.x_NotHeld.k (raises_own T.x_NotHeld.b T.x_NotHeld.t) rfl))) pss_nil)
      (pss_one (ps_ret (pv 2))))), ?_⟩
    try rw [hK]
    rw [show L2.start N_Scene_kept [.ref s, .str n] = [some (.ref s), some (.str n), none] from rfl]
    walk_at "sx"
    refine ⟨s, n, dx, p, pw, du, kvs, a, dm, bo, m, Rs, rfl, S, hv, no, fun hd => ?_⟩
    walk_at "sx"
    refine x_ifD (fun c => no2 hd c) (fun c => ?_)
    walk_at "sx"
    exact yes hd c
theorem D_Scene_taken (T : Txt K mg) (D_Scene_living : DnM P w K mg base (L2N.CX P w) 1 (He.ma K (He.ga K "Scene") "living") ["self", "name"] (spLiving K)) (F : Mf K "Scene" "taken" "Scene.taken" s_Scene_taken) : DnM P w K mg base (L2N.CX P w) 2 (He.ma K (He.ga K "Scene") "taken") ["self", "day", "name", "side"] (spFall K aTake) := by
  refine F.dmN sc_Scene_taken (fun _ _ _ _ _ _ us hl => match us, hl with | [_, _, _, _], _ => rfl) (fun vs H Q E h => ?_) (fun f cdv A outer s0 H vs Q E hr hK h => ?_)
  · obtain ⟨s, day, x, t, as, Rs, ha, rfl, _⟩ := h
    cases x <;> cases ha
    rfl
  · obtain ⟨s, day, x, t, as, Rs, ha, rfl, S, h⟩ := h
    obtain ⟨m, hn, yes, no, _⟩ := oneM_some h
    clear h
    cases x with
    | take n sd =>
      simp only [Deed.man] at ha hn yes
      cases ha
      simp only [fallM] at yes no
      refine ⟨_, (pss_cons (ps_if (pt_cmpR op_eq (pe_fldC T.cl_Man T.n_Man_home (pe_dget (hu_of hr) (pe_fldC T.cl_Scene T.n_Scene_crew (pv 0) rfl) (pv 2) (fun _ _ => rfl)) rfl) (pv 3) (nomark _)) (pss_one (L2N.ps_raise rfl (L2N.takes_of rfl rfl rfl rfl) (L2N.pmk_own PySem.F.excBase_ValueError T.x_Own.xi T.x_Own.g T.x_Own.k (raises_own T.x_Own.b T.x_Own.t) rfl))) pss_nil)
      (pss_cons (ps_set (i := 4) sc_Scene_taken.nd rfl (Or.inl rfl) (pe_mt (pv 0) T.cl_Scene T.me_Scene_living D_Scene_living (hr.mono (by first | decide | omega)) passN (pa_cons (pv 2) pa_nil)))
      (pss_cons (ps_if (pt_cmpR op_ne (pe_fldC T.cl_Man T.n_Man_keeper (pv 4) rfl) pe_str (nomark _)) (pss_one (L2N.ps_raise rfl (L2N.takes_of rfl rfl rfl rfl) (L2N.pmk_own PySem.F.excBase_ValueError T.x_Held.xi T.x_Held.g T.x_Held.k (raises_own T.x_Held.b T.x_Held.t) rfl))) pss_nil)
      (pss_cons (ps_fldC T.cl_Man T.n_Man_keeper (pv 4) (pv 3) rfl)
      (pss_cons (ps_fldC T.cl_Man T.n_Man_caught (pv 4) (pv 1) rfl)
      (pss_one (ps_if (pt_cmp (pc_din (hu_of hr) (pv 3) (pe_fldC T.cl_Man T.n_Man_bonds (pv 4) rfl))) (pss_one (ps_expr (pe_dpop1 (pe_fldC T.cl_Man T.n_Man_bonds (pv 4) rfl) (pv 3) ⟨rfl, rfl, rfl, rfl⟩))) pss_nil))))))), ?_⟩
      try rw [hK]
      rw [show L2.start N_Scene_taken [.ref s, .int day, .str n, .str sd] = [some (.ref s), some (.int day), some (.str n), some (.str sd), none] from rfl]
      obtain ⟨dx, p, du, kvs, a, dm, bo, Os, hv, S2, back⟩ := S.sceneAt hn
      walk_at "sx"
      refine x_dgC hv ?_
      walk_at "sx"
      refine x_ifD (fun c => ?_) (fun c => ?_)
      · rw [if_pos c] at no
        exact no _ rfl H PK.refl S.tail
      rw [if_neg c] at yes no
      walk_at "sx"
      refine ⟨s, n, dx, p, .ref t.pa, .ref du, kvs, a, dm, bo, m, _, rfl, S2, hv, fun c => ?_, fun c => ?_⟩
      · rw [if_pos c] at no
        exact no _ rfl H PK.refl S.tail
      rw [if_neg (by rw [c]; exact Bool.false_ne_true)] at yes no
      walk_at "sx"
      refine x_ifD (fun c => ?_) (fun c => ?_)
      · rw [if_neg c] at no
        exact no _ rfl H PK.refl S.tail
      have c : m.keeper = "" := Classical.not_not.mp c
      rw [if_pos c] at yes
      have yes := yes _ rfl
      clear S no
      walk_at "sx"
      have fin : ∀ H', PK H H' → Sat H' (cell s (.ins (CS K) dx (fsScene (.ref p) (.ref t.pa) (.ref du))) :: cell p (.dK kvs) :: cell a (.ins (CM K) dm (manV { m with keeper := sd, caught := day, bonds := dropD m.bonds (.inr sd) } bo)) :: dct bo (dropD m.bonds (.inr sd)) :: star Os :: dctT du t.du :: Rs) → Q .non H' := fun H' pk S' =>
        yes H' pk (back H' { m with keeper := sd, caught := day, bonds := dropD m.bonds (.inr sd) } bo _ S').s
      cases hb : hasD m.bonds (.inr sd) with
      | false =>
        walk_at "sx"
        refine fin _ (by walk_at "pk") ?_
        rw [dropD_id hb]
        exact pick
      | true =>
        walk_at "sx"
        obtain ⟨d, hd⟩ := hasD_val hb
        refine x_po hd fun v H5 tp pk5 S5 => ?_
        walk_at "sx"
        exact fin _ (by walk_at "pk") pick
    | _ => cases ha
end

section
variable {P : Program} {w : World} {K : PySem.W.Frag} {mg : Str → Option Value} {base : Heap}
theorem D_Scene_sent (T : Txt K mg) (D_Scene_kept : DnM P w K mg base (L2N.CX P w) 2 (He.ma K (He.ga K "Scene") "kept") ["self", "name"] (spKept K)) (F : Mf K "Scene" "sent" "Scene.sent" s_Scene_sent) : DnM P w K mg base (L2N.CX P w) 3 (He.ma K (He.ga K "Scene") "sent") ["self", "name"] (spFall K aWord) := by
  refine F.dmN sc_Scene_sent (fun _ _ _ _ _ _ us hl => match us, hl with | [_, _], _ => rfl) (fun vs H Q E h => ?_) (fun f cdv A outer s0 H vs Q E hr hK h => ?_)
  · obtain ⟨s, day, x, t, as, Rs, ha, rfl, _⟩ := h
    cases x <;> cases ha
    all_goals rfl
  · obtain ⟨s, day, x, t, as, Rs, ha, rfl, S, h⟩ := h
    obtain ⟨m, hn, yes, no, nn⟩ := oneM_some h
    clear h
    cases x with
    | word n =>
      simp only [Deed.man] at ha hn yes
      cases ha
      simp only [fallM] at yes no nn
      refine ⟨_, (pss_cons (ps_set (i := 2) sc_Scene_sent.nd rfl (Or.inl rfl) (pe_mt (pv 0) T.cl_Scene T.me_Scene_kept D_Scene_kept (hr.mono (by first | decide | omega)) passN (pa_cons (pv 1) pa_nil)))
      (pss_cons (ps_dput (hu_of hr) (pe_fldC T.cl_Man T.n_Man_bonds (pv 2) rfl) (pe_fldC T.cl_Man T.n_Man_keeper (pv 2) rfl) (pe_fldC T.cl_Man T.n_Man_caught (pv 2) rfl) rfl)
      (pss_one (ps_fldC T.cl_Man T.n_Man_keeper (pv 2) pe_str rfl)))), ?_⟩
      try rw [hK]
      rw [show L2.start N_Scene_sent [.ref s, .str n] = [some (.ref s), some (.str n), none] from rfl]
      obtain ⟨dx, p, du, kvs, a, dm, bo, Os, hv, S2, back⟩ := S.sceneAt hn
      walk_at "sx"
      refine ⟨s, n, dx, p, .ref t.pa, .ref du, kvs, a, dm, bo, m, _, rfl, S2, hv, fun c => ?_, fun c c2 => ?_, fun c c2 => ?_⟩
      · rw [if_pos c] at no
        exact no _ rfl H PK.refl S.tail
      · rw [if_neg (by rw [c]; exact Bool.false_ne_true), if_pos c2] at no
        exact no _ rfl H PK.refl S.tail
      rw [if_neg (by rw [c]; exact Bool.false_ne_true), if_neg c2] at yes nn
      have hz : m.bonds.length < 1000 := by
        by_cases c3 : m.bonds.length < 1000
        · exact c3
        · rw [if_neg c3] at nn
          exact absurd rfl nn
      rw [if_pos hz] at yes
      have yes := yes _ rfl
      clear S no nn
      walk_at "sx"
      refine x_dp (d := .int m.caught) (by rw [sizeLine_eq]; omega) (by walk_at "tp") fun H5 pk5 S5 => ?_
      walk_at "sx"
      exact yes _ (by walk_at "pk") (back _ { m with keeper := "", bonds := putD m.bonds (.inr m.keeper) (.int m.caught) } bo _ pick).s
    | _ => cases ha
theorem D_Scene_let_go (T : Txt K mg) (D_Scene_kept : DnM P w K mg base (L2N.CX P w) 2 (He.ma K (He.ga K "Scene") "kept") ["self", "name"] (spKept K)) (F : Mf K "Scene" "let_go" "Scene.let_go" s_Scene_let_go) : DnM P w K mg base (L2N.CX P w) 3 (He.ma K (He.ga K "Scene") "let_go") ["self", "name"] (spFall K aGo) := by
  refine F.dmN sc_Scene_let_go (fun _ _ _ _ _ _ us hl => match us, hl with | [_, _], _ => rfl) (fun vs H Q E h => ?_) (fun f cdv A outer s0 H vs Q E hr hK h => ?_)
  · obtain ⟨s, day, x, t, as, Rs, ha, rfl, _⟩ := h
    cases x <;> cases ha
    all_goals rfl
  · obtain ⟨s, day, x, t, as, Rs, ha, rfl, S, h⟩ := h
    obtain ⟨m, hn, yes, no, nn⟩ := oneM_some h
    clear h
    cases x with
    | free n =>
      simp only [Deed.man] at ha hn yes
      cases ha
      simp only [fallM] at yes no nn
      refine ⟨_, (pss_cons (ps_set (i := 2) sc_Scene_let_go.nd rfl (Or.inl rfl) (pe_mt (pv 0) T.cl_Scene T.me_Scene_kept D_Scene_kept (hr.mono (by first | decide | omega)) passN (pa_cons (pv 1) pa_nil)))
      (pss_one (ps_fldC T.cl_Man T.n_Man_keeper (pv 2) pe_str rfl))), ?_⟩
      try rw [hK]
      rw [show L2.start N_Scene_let_go [.ref s, .str n] = [some (.ref s), some (.str n), none] from rfl]
      obtain ⟨dx, p, du, kvs, a, dm, bo, Os, hv, S2, back⟩ := S.sceneAt hn
      walk_at "sx"
      refine ⟨s, n, dx, p, .ref t.pa, .ref du, kvs, a, dm, bo, m, _, rfl, S2, hv, fun c => ?_, fun c c2 => ?_, fun c c2 => ?_⟩
      · rw [if_pos c] at no
        exact no _ rfl H PK.refl S.tail
      · rw [if_neg (by rw [c]; exact Bool.false_ne_true), if_pos c2] at no
        exact no _ rfl H PK.refl S.tail
      rw [if_neg (by rw [c]; exact Bool.false_ne_true), if_neg c2] at yes nn
      have yes := yes _ rfl
      clear S no nn
      walk_at "sx"
      exact yes _ (by walk_at "pk") (back _ { m with keeper := "" } bo _ pick).s
    | flee n =>
      simp only [Deed.man] at ha hn yes
      cases ha
      simp only [fallM] at yes no nn
      refine ⟨_, (pss_cons (ps_set (i := 2) sc_Scene_let_go.nd rfl (Or.inl rfl) (pe_mt (pv 0) T.cl_Scene T.me_Scene_kept D_Scene_kept (hr.mono (by first | decide | omega)) passN (pa_cons (pv 1) pa_nil)))
      (pss_one (ps_fldC T.cl_Man T.n_Man_keeper (pv 2) pe_str rfl))), ?_⟩
      try rw [hK]
      rw [show L2.start N_Scene_let_go [.ref s, .str n] = [some (.ref s), some (.str n), none] from rfl]
      obtain ⟨dx, p, du, kvs, a, dm, bo, Os, hv, S2, back⟩ := S.sceneAt hn
      walk_at "sx"
      refine ⟨s, n, dx, p, .ref t.pa, .ref du, kvs, a, dm, bo, m, _, rfl, S2, hv, fun c => ?_, fun c c2 => ?_, fun c c2 => ?_⟩
      · rw [if_pos c] at no
        exact no _ rfl H PK.refl S.tail
      · rw [if_neg (by rw [c]; exact Bool.false_ne_true), if_pos c2] at no
        exact no _ rfl H PK.refl S.tail
      rw [if_neg (by rw [c]; exact Bool.false_ne_true), if_neg c2] at yes nn
      have yes := yes _ rfl
      clear S no nn
      walk_at "sx"
      exact yes _ (by walk_at "pk") (back _ { m with keeper := "" } bo _ pick).s
    | _ => cases ha
theorem D_Scene_graded (T : Txt K mg) (D_Scene_living : DnM P w K mg base (L2N.CX P w) 1 (He.ma K (He.ga K "Scene") "living") ["self", "name"] (spLiving K)) (F : Mf K "Scene" "graded" "Scene.graded" s_Scene_graded) : DnM P w K mg base (L2N.CX P w) 2 (He.ma K (He.ga K "Scene") "graded") ["self", "name", "grade"] (spFall K aRank) := by
  refine F.dmN sc_Scene_graded (fun _ _ _ _ _ _ us hl => match us, hl with | [_, _, _], _ => rfl) (fun vs H Q E h => ?_) (fun f cdv A outer s0 H vs Q E hr hK h => ?_)
  · obtain ⟨s, day, x, t, as, Rs, ha, rfl, _⟩ := h
    cases x <;> cases ha
    all_goals rfl
  · obtain ⟨s, day, x, t, as, Rs, ha, rfl, S, h⟩ := h
    obtain ⟨m, hn, yes, no, nn⟩ := oneM_some h
    clear h
    cases x with
    | rank n r =>
      simp only [Deed.man] at ha hn yes
      cases ha
      simp only [fallM] at yes no nn
      refine ⟨_, (pss_cons (ps_set (i := 3) sc_Scene_graded.nd rfl (Or.inl rfl) (pe_mt (pv 0) T.cl_Scene T.me_Scene_living D_Scene_living (hr.mono (by first | decide | omega)) passN (pa_cons (pv 1) pa_nil)))
      (pss_one (ps_fldC T.cl_Man T.n_Man_grade (pv 3) (pv 2) rfl))), ?_⟩
      try rw [hK]
      rw [show L2.start N_Scene_graded [.ref s, .str n, .int r] = [some (.ref s), some (.str n), some (.int r), none] from rfl]
      obtain ⟨dx, p, du, kvs, a, dm, bo, Os, hv, S2, back⟩ := S.sceneAt hn
      walk_at "sx"
      refine ⟨s, n, dx, p, .ref t.pa, .ref du, kvs, a, dm, bo, m, _, rfl, S2, hv, fun c => ?_, fun c => ?_⟩
      · rw [if_pos c] at no
        exact no _ rfl H PK.refl S.tail
      rw [if_neg (by rw [c]; exact Bool.false_ne_true)] at yes no
      have yes := yes _ rfl
      clear S no nn
      walk_at "sx"
      exact yes _ (by walk_at "pk") (back _ { m with grade := r } bo _ pick).s
    | _ => cases ha
theorem D_Scene_dies (T : Txt K mg) (D_Scene_living : DnM P w K mg base (L2N.CX P w) 1 (He.ma K (He.ga K "Scene") "living") ["self", "name"] (spLiving K)) (F : Mf K "Scene" "dies" "Scene.dies" s_Scene_dies) : DnM P w K mg base (L2N.CX P w) 2 (He.ma K (He.ga K "Scene") "dies") ["self", "name"] (spFall K aDie) := by
  refine F.dmN sc_Scene_dies (fun _ _ _ _ _ _ us hl => match us, hl with | [_, _], _ => rfl) (fun vs H Q E h => ?_) (fun f cdv A outer s0 H vs Q E hr hK h => ?_)
  · obtain ⟨s, day, x, t, as, Rs, ha, rfl, _⟩ := h
    cases x <;> cases ha
    all_goals rfl
  · obtain ⟨s, day, x, t, as, Rs, ha, rfl, S, h⟩ := h
    obtain ⟨m, hn, yes, no, nn⟩ := oneM_some h
    clear h
    cases x with
    | die n =>
      simp only [Deed.man] at ha hn yes
      cases ha
      simp only [fallM] at yes no nn
      refine ⟨_, (pss_cons (ps_set (i := 2) sc_Scene_dies.nd rfl (Or.inl rfl) (pe_mt (pv 0) T.cl_Scene T.me_Scene_living D_Scene_living (hr.mono (by first | decide | omega)) passN (pa_cons (pv 1) pa_nil)))
      (pss_cons (ps_fldC T.cl_Man T.n_Man_dead (pv 2) pe_bl rfl)
      (pss_cons (ps_fldC T.cl_Man T.n_Man_keeper (pv 2) pe_str rfl)
      (pss_one (ps_fldC T.cl_Man T.n_Man_bonds (pv 2) (pe_dnewK) rfl))))), ?_⟩
      try rw [hK]
      rw [show L2.start N_Scene_dies [.ref s, .str n] = [some (.ref s), some (.str n), none] from rfl]
      obtain ⟨dx, p, du, kvs, a, dm, bo, Os, hv, S2, back⟩ := S.sceneAt hn
      walk_at "sx"
      refine ⟨s, n, dx, p, .ref t.pa, .ref du, kvs, a, dm, bo, m, _, rfl, S2, hv, fun c => ?_, fun c => ?_⟩
      · rw [if_pos c] at no
        exact no _ rfl H PK.refl S.tail
      rw [if_neg (by rw [c]; exact Bool.false_ne_true)] at yes no
      have yes := yes _ rfl
      clear S no nn
      walk_at "sx"
      rename_i bo2 H7 pk7 S7 H8 pk8 S8
      exact yes _ (by walk_at "pk") (back _ { m with dead := true, keeper := "", bonds := [] } bo2 _ pick).s
    | _ => cases ha
end

/-! ### an exchange -/
def onR (m : MSt) (h c : Str) : Bool := decide (m.home = h) && (decide (m.keeper = c) || hasD m.bonds (.inr c))
def goFrom (c : Str) (m : MSt) : MSt := if m.keeper = c then { m with keeper := "" } else { m with bonds := dropD m.bonds (.inr c) }
/-- the worths of all who go over -/
def goneO (ms : Crew) (ws : List Int) (h c : Str) : List Str → Int → Out Int
  | [], k => .ok k
  | n :: r, k => match findM ms n with
    | none => .no
    | some m => if onR m h c = true then (match ws[m.grade.toNat]? with
        | none => .no
        | some u => if 0 ≤ m.grade then goneO ms ws h c r (k + u) else .no) else .bad "OffRoll"
def goAll (c : Str) : List Str → Crew → Option Crew
  | [], ms => some ms
  | n :: r, ms => match findM ms n with
    | none => none
    | some m => if m.keeper = c ∨ hasD m.bonds (.inr c) = true then goAll c r (setM ms n (goFrom c m)) else none
abbrev prK (a b : Str) : List Key := [.inr (minS a b), .inr (maxS a b)]
def dueO (du : KTs) (k : List Key) : Option Int := if du.length < 1000 then (match vlT du k with
  | none => some 0
  | some (.int i) => some i
  | some _ => none) else none
def swapO (pc : Option Pact) (a b : Str) (os ot : List Str) (t : SSt) : Out SSt := match pc with
  | none => .no
  | some p => if p.a = minS a b ∧ p.b = maxS a b then (match goneO t.ms p.ws a b os 0 with
    | .no => .no
    | .bad c => .bad c
    | .ok g1 => match goneO t.ms p.ws b a ot 0 with
      | .no => .no
      | .bad c => .bad c
      | .ok g2 => match dueO t.du (prK a b) with
        | none => .no
        | some d0 => if p.lim < (if d0 + (if a = minS a b then g1 - g2 else 0 - (g1 - g2)) < 0 then -(d0 + (if a = minS a b then g1 - g2 else 0 - (g1 - g2))) else d0 + (if a = minS a b then g1 - g2 else 0 - (g1 - g2))) then .bad "Uneven" else
          match goAll b os t.ms with
          | none => .no
          | some m1 => match goAll a ot m1 with
            | none => .no
            | some m2 => .ok ⟨m2, putT t.du (prK a b) (.int (d0 + (if a = minS a b then g1 - g2 else 0 - (g1 - g2)))), t.pa⟩) else .no
def fallS (pc : Option Pact) (day : Int) : Dd → SSt → Out SSt
  | .one x, t => oneM day x t
  | .swap a b os ot, t => swapO pc a b os ot t
def spOnRoll (K : PySem.W.Frag) : Sp := fun vs H Q _ => ∃ (a dm bo : Addr) (m : MSt) (h c : Str) (Rs : List Res), vs = [.ref a, .str h, .str c] ∧ Sat H (cell a (.ins (CM K) dm (manV m bo)) :: dct bo m.bonds :: Rs) ∧ Q (.bl (onR m h c)) H
def spGoes (K : PySem.W.Frag) : Sp := fun vs H Q _ => ∃ (a dm bo : Addr) (m : MSt) (c : Str) (Rs : List Res), vs = [.ref a, .str c] ∧ Sat H (cell a (.ins (CM K) dm (manV m bo)) :: dct bo m.bonds :: Rs) ∧ (m.keeper = c ∨ hasD m.bonds (.inr c) = true) ∧
  ∀ H', PK H H' → Sat H' (cell a (.ins (CM K) dm (manV (goFrom c m) bo)) :: dct bo (goFrom c m).bonds :: Rs) → Q .non H'
def FinI (K : PySem.W.Frag) (H : Hp) (Q : VK) (E : XK) : Out Int → Prop
  | .ok k => Q (.int k) H
  | .bad c => E (.ref (He.ga K c)) none H
  | .no => False
def spGone (K : PySem.W.Frag) : Sp := fun vs H Q E => ∃ (s wq nq : Addr) (h c : Str) (t : SSt) (ws : List Int) (ns : List Str) (Rs : List Res), vs = [.ref s, .ref wq, .str h, .str c, .ref nq] ∧ H wq = some (.tup (ws.map V.int)) ∧ H nq = some (.tup (ns.map V.str)) ∧ Sat H (scene K s t :: Rs) ∧ FinI K H Q E (goneO t.ms ws h c ns 0)
def spSwapped (K : PySem.W.Frag) : Sp := fun vs H Q E => ∃ (s q1 q2 : Addr) (a b : Str) (os ot : List Str) (t : SSt) (pc : Option Pact) (Rs : List Res), vs = [.ref s, .str a, .str b, .ref q1, .ref q2] ∧ H q1 = some (.tup (os.map V.str)) ∧ H q2 = some (.tup (ot.map V.str)) ∧ Sat H (scene K s t :: dctT t.pa (pactD pc) :: Rs) ∧ ScFin K s (dctT t.pa (pactD pc) :: Rs) H Q E (swapO pc a b os ot t)
theorem fin_of {K : PySem.W.Frag} {s : Addr} {Rs : List Res} {H : Hp} {Q Q' : VK} {E : XK} {o : Out SSt} (h : ScFin K s Rs H Q E o) (m : ∀ H', Q .non H' → Q' .non H') : ScFin K s Rs H Q' E o := by
  cases o with
  | ok t => exact fun H' pk S => m H' (h H' pk S)
  | bad c => exact h
  | no => exact h
section
variable {P : Program} {w : World} {K : PySem.W.Frag} {mg : Str → Option Value} {base : Heap}
theorem D_Man_on_roll (T : Txt K mg) (F : Mf K "Man" "on_roll" "Man.on_roll" s_Man_on_roll) : DnM P w K mg base CX0 1 (He.ma K (He.ga K "Man") "on_roll") ["self", "home", "across"] (spOnRoll K) := by
  refine F.dm sc_Man_on_roll (fun _ _ _ _ _ _ us hl => match us, hl with | [_, _, _], _ => rfl) (fun vs H Q E h => ?_) (fun f cdv A outer s H vs Q E hr hK h => ?_)
  · obtain ⟨a, dm, bo, m, h, c, Rs, rfl, _⟩ := h
    rfl
  · obtain ⟨a, dm, bo, m, h, c, Rs, rfl, S, k⟩ := h
    unfold onR at k
    refine ⟨_, (pss_one (ps_ret (pe_and (pe_cmpR op_eq (pe_fldC T.cl_Man T.n_Man_home (pv 0) rfl) (pv 1) (nomark _)) (pe_one (pe_or (pe_cmpR op_eq (pe_fldC T.cl_Man T.n_Man_keeper (pv 0) rfl) (pv 2) (nomark _)) (pe_one (pe_cmp (pc_din (hu_of hr) (pv 2) (pe_fldC T.cl_Man T.n_Man_bonds (pv 0) rfl))))))))), ?_⟩
    try rw [hK]
    rw [show L2.start N_Man_on_roll [.ref a, .str h, .str c] = [some (.ref a), some (.str h), some (.str c)] from rfl]
    walk_at "sx"
    refine x_andVD (fun c1 => ?_) (fun c1 => ?_)
    · rw [decide_eq_true c1, Bool.true_and] at k
      walk_at "sx"
      refine x_orVD (fun c2 => ?_) (fun c2 => ?_)
      · rw [decide_eq_true c2, Bool.true_or] at k
        exact k
      · rw [decide_eq_false c2, Bool.false_or] at k
        walk_at "sx"
        exact k
    · rw [decide_eq_false c1, Bool.false_and] at k
      exact k
theorem D_Man_goes_from (T : Txt K mg) (F : Mf K "Man" "goes_from" "Man.goes_from" s_Man_goes_from) : DnM P w K mg base CX0 1 (He.ma K (He.ga K "Man") "goes_from") ["self", "across"] (spGoes K) := by
  refine F.dm sc_Man_goes_from (fun _ _ _ _ _ _ us hl => match us, hl with | [_, _], _ => rfl) (fun vs H Q E h => ?_) (fun f cdv A outer s H vs Q E hr hK h => ?_)
  · obtain ⟨a, dm, bo, m, c, Rs, rfl, _⟩ := h
    rfl
  · obtain ⟨a, dm, bo, m, c, Rs, rfl, S, hc, k⟩ := h
    unfold goFrom at k
    refine ⟨_, (pss_one (ps_if (pt_cmpR op_eq (pe_fldC T.cl_Man T.n_Man_keeper (pv 0) rfl) (pv 1) (nomark _)) (pss_one (ps_fldC T.cl_Man T.n_Man_keeper (pv 0) pe_str rfl)) (pss_one (ps_expr (pe_dpop1 (pe_fldC T.cl_Man T.n_Man_bonds (pv 0) rfl) (pv 1) ⟨rfl, rfl, rfl, rfl⟩))))), ?_⟩
    try rw [hK]
    rw [show L2.start N_Man_goes_from [.ref a, .str c] = [some (.ref a), some (.str c)] from rfl]
    walk_at "sx"
    refine x_ifD (fun c1 => ?_) (fun c1 => ?_)
    · rw [if_pos c1] at k
      walk_at "sx"
      exact k _ (by walk_at "pk") pick
    · rw [if_neg c1] at k
      walk_at "sx"
      obtain ⟨d, hd⟩ := hasD_val (hc.resolve_left c1)
      refine x_po hd fun v H5 tp pk5 S5 => ?_
      walk_at "sx"
      exact k _ (by walk_at "pk") pick
theorem D_Scene_gone_over (T : Txt K mg) (D_Man_on_roll : DnM P w K mg base CX0 1 (He.ma K (He.ga K "Man") "on_roll") ["self", "home", "across"] (spOnRoll K)) (F : Mf K "Scene" "gone_over" "Scene.gone_over" s_Scene_gone_over) : DnM P w K mg base (L2N.CX P w) 2 (He.ma K (He.ga K "Scene") "gone_over") ["self", "worths", "home", "across", "names"] (spGone K) := by
  refine F.dmN sc_Scene_gone_over (fun _ _ _ _ _ _ us hl => match us, hl with | [_, _, _, _, _], _ => rfl) (fun vs H Q E h => ?_) (fun f cdv A outer s0 H vs Q E hr hK h => ?_)
  · obtain ⟨s, wq, nq, h, c, t, ws, ns, Rs, rfl, _⟩ := h
    rfl
  · obtain ⟨s, wq, nq, h, c, t, ws, ns, Rs, rfl, hw, hn, S, k⟩ := h
    generalize ho0 : goneO t.ms ws h c ns 0 = o at k
    refine ⟨_, (pss_cons (ps_set (i := 5) sc_Scene_gone_over.nd rfl (Or.inl rfl) pe_int)
      (pss_cons (ps_for (passes_of rfl) rfl (pi_tup (pv 4)) (pg_name (i := 6) sc_Scene_gone_over.nd rfl (Or.inl rfl)) (pss_cons (ps_if (pt_not (pt_val (pe_mt (pe_dget (hu_of hr) (pe_fldC T.cl_Scene T.n_Scene_crew (pv 0) rfl) (pv 6) (fun _ _ => rfl)) T.cl_Man T.me_Man_on_roll D_Man_on_roll (hr.mono (by first | decide | omega)) pass0 (pa_cons (pv 2) (pa_cons (pv 3) pa_nil))))) (pss_one (L2N.ps_raise rfl (L2N.takes_of rfl rfl rfl rfl) (L2N.pmk_own PySem.F.excBase_ValueError T.x_OffRoll.xi T.x_OffRoll.g T.x_OffRoll.k (raises_own T.x_OffRoll.b T.x_OffRoll.t) rfl))) pss_nil)
      (pss_one (ps_aug (i := 5) sc_Scene_gone_over.nd rfl (Or.inl rfl) (pe_ix ix_tup (pv 1) (pe_fldC T.cl_Man T.n_Man_grade (pe_dget (hu_of hr) (pe_fldC T.cl_Scene T.n_Scene_crew (pv 0) rfl) (pv 6) (fun _ _ => rfl)) rfl) (fun _ _ => rfl)) ip_add))))
      (pss_one (ps_ret (pv 5))))), ?_⟩
    try rw [hK]
    rw [show L2.start N_Scene_gone_over [.ref s, .ref wq, .str h, .str c, .ref nq] = [some (.ref s), some (.ref wq), some (.str h), some (.str c), some (.ref nq), none, none] from rfl]
    walk_at "sx"
    refine x_iTQ (SqT.of hn) ?_
    refine x_forQ (walk_tup (xs := ns.map V.str)) (fun i σ H' => H' = H ∧ ∃ (u : Int) (v : Option V), σ = [some (.ref s), some (.ref wq), some (.str h), some (.str c), some (.ref nq), some (.int u), v] ∧ goneO t.ms ws h c (ns.drop i) u = o) ⟨rfl, 0, _, rfl, ho0⟩ (fun i σ H' _ hh => ?_) (fun i x σ H4 H5 hi hh y => ?_) (fun σ H4 hh => ?_)
    · obtain ⟨rfl, _⟩ := hh
      exact SqT.of hn
    · obtain ⟨rfl, u, v, rfl, he⟩ := hh
      obtain ⟨rfl, hx⟩ := y
      rw [List.getElem?_map] at hx
      cases hz : ns[i]? with
      | none => rw [hz] at hx; cases hx
      | some n =>
        rw [hz] at hx
        cases hx
        have hd : ns.drop i = n :: ns.drop (i + 1) := by
          obtain ⟨h1, h2⟩ := List.getElem?_eq_some_iff.mp hz
          rw [List.drop_eq_getElem_cons h1, h2]
        rw [hd] at he
        rw [← he] at k
        unfold goneO at he k
        cases hm : findM t.ms n with
        | none => simp only [hm] at k; exact k.elim
        | some m =>
          simp only [hm] at he k
          obtain ⟨dx, p, du, kvs, a, dm, bo, Os, hv, S2, back⟩ := S.sceneAt hm
          clear S back
          walk_at "sx"
          refine x_dgC hv ?_
          walk_at "sx"
          refine ⟨a, dm, bo, m, h, c, _, rfl, S2.pick (Ss := cell a (.ins (CM K) dm (manV m bo)) :: dct bo m.bonds :: []), ?_⟩
          cases ho : onR m h c with
          | false =>
            rw [ho, if_neg Bool.false_ne_true] at k
            walk_at "sx"
            exact k
          | true =>
            rw [ho, if_pos rfl] at he k
            walk_at "sx"
            cases hu : ws[m.grade.toNat]? with
            | none => simp only [hu] at k; exact k.elim
            | some z =>
              simp only [hu] at he k
              by_cases hg : 0 ≤ m.grade
              · rw [if_pos hg] at he k
                walk_at "sx"
                refine x_dgC hv ?_
                walk_at "sx"
                refine x_ixTn (xs := ws.map V.int) (v := .int z) (SqT.of hw) hg (by rw [List.getElem?_map, hu]; rfl) ?_
                walk_at "sx"
                exact ⟨rfl, _, _, rfl, he⟩
              · rw [if_neg hg] at k
                exact k.elim
    · obtain ⟨rfl, u, v, rfl, he⟩ := hh
      have e1 : ns.drop (ns.map V.str).length = [] := by rw [List.length_map]; exact List.drop_length
      rw [e1] at he
      rw [← he] at k
      walk_at "sx"
      exact k
end

/-! ### an exchange in a scene, and each deed -/
theorem swap_cases {K : PySem.W.Frag} {s : Addr} {Rs : List Res} {H : Hp} {Q : VK} {E : XK} {pc : Option Pact} {a b : Str} {os ot : List Str} {t : SSt} (h : ScFin K s Rs H Q E (swapO pc a b os ot t)) :
    ∃ ws lim, pactD pc = [(prK a b, .tuple [.tuple (ws.map .int), .int lim])] ∧
    ((∃ c, goneO t.ms ws a b os 0 = .bad c ∧ ∀ H', PK H H' → Sat H' Rs → E (.ref (He.ga K c)) none H') ∨
     ∃ g1, goneO t.ms ws a b os 0 = .ok g1 ∧ ((∃ c, goneO t.ms ws b a ot 0 = .bad c ∧ ∀ H', PK H H' → Sat H' Rs → E (.ref (He.ga K c)) none H') ∨
      ∃ g2 d0 due, goneO t.ms ws b a ot 0 = .ok g2 ∧ t.du.length < 1000 ∧ (vlT t.du (prK a b) = none ∧ d0 = 0 ∨ vlT t.du (prK a b) = some (.int d0)) ∧ due = d0 + (if a = minS a b then g1 - g2 else 0 - (g1 - g2)) ∧
      ((lim < (if due < 0 then -due else due) ∧ ∀ H', PK H H' → Sat H' Rs → E (.ref (He.ga K "Uneven")) none H') ∨
       (¬ lim < (if due < 0 then -due else due) ∧ ∃ m1 m2, goAll b os t.ms = some m1 ∧ goAll a ot m1 = some m2 ∧ ∀ H', PK H H' → Sat H' (scene K s ⟨m2, putT t.du (prK a b) (.int due), t.pa⟩ :: Rs) → Q .non H')))) := by
  unfold swapO at h
  cases pc with
  | none => exact h.elim
  | some p =>
    by_cases hp : p.a = minS a b ∧ p.b = maxS a b
    · simp only [if_pos hp] at h
      obtain ⟨e1, e2⟩ := hp
      refine ⟨p.ws, p.lim, by simp only [pactD]; rw [e1, e2], ?_⟩
      cases h1 : goneO t.ms p.ws a b os 0 with
      | no => simp only [h1] at h; exact h.elim
      | bad c => simp only [h1] at h; exact .inl ⟨c, rfl, h⟩
      | ok g1 =>
        simp only [h1] at h
        refine .inr ⟨g1, rfl, ?_⟩
        cases h2 : goneO t.ms p.ws b a ot 0 with
        | no => simp only [h2] at h; exact h.elim
        | bad c => simp only [h2] at h; exact .inl ⟨c, rfl, h⟩
        | ok g2 =>
          simp only [h2] at h
          right
          cases h3 : dueO t.du (prK a b) with
          | none => simp only [h3] at h; exact h.elim
          | some d0 =>
            simp only [h3] at h
            have hd : t.du.length < 1000 ∧ (vlT t.du (prK a b) = none ∧ d0 = 0 ∨ vlT t.du (prK a b) = some (.int d0)) := by
              unfold dueO at h3
              split at h3
              · next hl =>
                refine ⟨hl, ?_⟩
                cases h4 : vlT t.du (prK a b) with
                | none => rw [h4] at h3; cases h3; exact .inl ⟨rfl, rfl⟩
                | some d => cases d <;> (rw [h4] at h3; first | (cases h3; exact .inr rfl) | cases h3)
              · cases h3
            refine ⟨g2, d0, _, rfl, hd.1, hd.2, rfl, ?_⟩
            generalize (d0 + (if a = minS a b then g1 - g2 else 0 - (g1 - g2))) = due at h ⊢
            by_cases hl : p.lim < (if due < 0 then -due else due)
            · rw [if_pos hl] at h
              exact .inl ⟨hl, h⟩
            · rw [if_neg hl] at h
              right
              cases h5 : goAll b os t.ms with
              | none => simp only [h5] at h; exact h.elim
              | some m1 =>
                simp only [h5] at h
                cases h6 : goAll a ot m1 with
                | none => simp only [h6] at h; exact h.elim
                | some m2 =>
                  simp only [h6] at h
                  exact ⟨hl, m1, m2, rfl, h6, h⟩
    · simp only [if_neg hp] at h
      exact h.elim
theorem finI_ok {K : PySem.W.Frag} {H : Hp} {Q : VK} {E : XK} {k : Int} (h : Q (.int k) H) : FinI K H Q E (.ok k) := h
theorem tp_ints {H : Hp} : ∀ {xs : List V} {ns : List Int}, TpAll H xs (ns.map .int) → xs = ns.map V.int
  | _, [], h => by cases h; rfl
  | _, n :: r, h => by
    cases h with
    | cons a b =>
      cases a
      exact congrArg (V.int n :: ·) (tp_ints b)
theorem tp_strs {H : Hp} : ∀ {xs : List V} {ns : List Str}, TpAll H xs (ns.map .str) → xs = ns.map V.str
  | _, [], h => by cases h; rfl
  | _, n :: r, h => by
    cases h with
    | cons a b =>
      cases a
      exact congrArg (V.str n :: ·) (tp_strs b)
theorem go_step {c n : Str} {r : List Str} {ms m2 : Crew} (h : goAll c (n :: r) ms = some m2) : ∃ m, findM ms n = some m ∧ (m.keeper = c ∨ hasD m.bonds (.inr c) = true) ∧ goAll c r (setM ms n (goFrom c m)) = some m2 := by
  unfold goAll at h
  cases e : findM ms n with
  | none => simp only [e] at h; cases h
  | some m =>
    simp only [e] at h
    split at h
    · next hc => exact ⟨m, rfl, hc, h⟩
    · cases h
structure KT1 (H : Hp) (q : Addr) (xs : List V) : Prop where
  pkt : H q = some (.tup xs)
theorem x_dg2I {H : Hp} {Rs T : List Res} {F : Res → List Res} {a b : Addr} {kds : KTs} {k : List Key} {Q : VK} {d0 : Int} [S : Sat H Rs] [fo : Foc dctT a kds Rs T F] (hb : H b = some (.tup (k.map kV))) (hv : vlT kds k = none ∧ d0 = 0 ∨ vlT kds k = some (.int d0)) (q : Q (.int d0) H) : dg2Q3 a (.ref b) Q (.int 0) H := by
  refine x_dg2T hb (fun d v e tp => ?_) (fun e => ?_)
  · rcases hv with ⟨h, _⟩ | h
    · rw [h] at e; cases e
    · rw [h] at e; cases e; cases tp; exact q
  · rcases hv with ⟨_, h⟩ | h
    · rw [h] at q; exact q
    · rw [h] at e; cases e
section
variable {P : Program} {w : World} {K : PySem.W.Frag} {mg : Str → Option Value} {base : Heap}
theorem D_Scene_swapped (T : Txt K mg) (D_Scene_gone_over : DnM P w K mg base (L2N.CX P w) 2 (He.ma K (He.ga K "Scene") "gone_over") ["self", "worths", "home", "across", "names"] (spGone K)) (D_Man_goes_from : DnM P w K mg base CX0 1 (He.ma K (He.ga K "Man") "goes_from") ["self", "across"] (spGoes K)) (F : Mf K "Scene" "swapped" "Scene.swapped" s_Scene_swapped) : DnM P w K mg base (L2N.CX P w) 3 (He.ma K (He.ga K "Scene") "swapped") ["self", "one", "other", "ones", "others"] (spSwapped K) := by
  refine F.dmN sc_Scene_swapped (fun _ _ _ _ _ _ us hl => match us, hl with | [_, _, _, _, _], _ => rfl) (fun vs H Q E h => ?_) (fun f cdv A outer s0 H vs Q E hr hK h => ?_)
  · obtain ⟨s, q1, q2, a, b, os, ot, t, pc, Rs, rfl, _⟩ := h
    rfl
  · obtain ⟨s, q1, q2, a, b, os, ot, ⟨ms, du, pa⟩, pc, Rs, rfl, hq1, hq2, S, h⟩ := h
    obtain ⟨ws, lim, ep, h⟩ := swap_cases h
    rw [ep] at S h
    dsimp only at S h
    have vl : vlT [(prK a b, PyData.tuple [.tuple (ws.map .int), .int lim])] (prK a b) = some (.tuple [.tuple (ws.map .int), .int lim]) := by simp [vlT]
    refine ⟨_, (pss_cons (ps_set (i := 5) sc_Scene_swapped.nd rfl (Or.inl rfl) (pe_tup (pa_cons (pe_callB (g_minS rfl) rfl T.m_min boot_min (pa_cons (pv 1) (pa_cons (pv 2) pa_nil))) (pa_cons (pe_callB (g_maxS rfl) rfl T.m_max boot_max (pa_cons (pv 1) (pa_cons (pv 2) pa_nil))) pa_nil))))
      (pss_cons (ps_asg (pe_dget (hu_of hr) (pe_fldC T.cl_Scene T.n_Scene_pacts (pv 0) rfl) (pv 5) (fun _ _ => rfl)) (pg_tup rfl (pgs_cons (pg_name (i := 6) sc_Scene_swapped.nd rfl (Or.inl rfl)) (pgs_cons (pg_name (i := 7) sc_Scene_swapped.nd rfl (Or.inl rfl)) pgs_nil))))
      (pss_cons (ps_set (i := 8) sc_Scene_swapped.nd rfl (Or.inl rfl) (pe_op op_sub (pe_mt (pv 0) T.cl_Scene T.me_Scene_gone_over D_Scene_gone_over (hr.mono (by first | decide | omega)) passN (pa_cons (pv 6) (pa_cons (pv 1) (pa_cons (pv 2) (pa_cons (pv 3) pa_nil))))) (pe_mt (pv 0) T.cl_Scene T.me_Scene_gone_over D_Scene_gone_over (hr.mono (by first | decide | omega)) passN (pa_cons (pv 6) (pa_cons (pv 2) (pa_cons (pv 1) (pa_cons (pv 4) pa_nil)))))))
      (pss_cut (ps_if (pt_cmpR op_ne (pv 1) (pe_ix ix_tup (pv 5) pe_int (fun _ _ => rfl)) (nomark _)) (pss_one (ps_set (i := 8) sc_Scene_swapped.nd rfl (Or.inl rfl) (pe_op op_sub pe_int (pv 8)))) pss_nil)
      (pss_cons (ps_set (i := 9) sc_Scene_swapped.nd rfl (Or.inl rfl) (pe_op op_add (pe_dget2 (hu_of hr) (pe_fldC T.cl_Scene T.n_Scene_dues (pv 0) rfl) (pv 5) pe_int ⟨rfl, rfl, rfl, rfl⟩) (pv 8)))
      (pss_cons (ps_if (pt_cmpR op_gt (pe_callB g_abs rfl T.m_abs boot_abs (pa_cons (pv 9) pa_nil)) (pv 7) (nomark _)) (pss_one (L2N.ps_raise rfl (L2N.takes_of rfl rfl rfl rfl) (L2N.pmk_own PySem.F.excBase_ValueError T.x_Uneven.xi T.x_Uneven.g T.x_Uneven.k (raises_own T.x_Uneven.b T.x_Uneven.t) rfl))) pss_nil)
      (pss_cons (ps_dput (hu_of hr) (pe_fldC T.cl_Scene T.n_Scene_dues (pv 0) rfl) (pv 5) (pv 9) rfl)
      (pss_cons (ps_for (passes_of rfl) rfl (pi_tup (pv 3)) (pg_name (i := 10) sc_Scene_swapped.nd rfl (Or.inl rfl)) (pss_one (ps_expr (pe_mt (pe_dget (hu_of hr) (pe_fldC T.cl_Scene T.n_Scene_crew (pv 0) rfl) (pv 10) (fun _ _ => rfl)) T.cl_Man T.me_Man_goes_from D_Man_goes_from (hr.mono (by first | decide | omega)) pass0 (pa_cons (pv 2) pa_nil)))))
      (pss_one (ps_for (passes_of rfl) rfl (pi_tup (pv 4)) (pg_name (i := 10) sc_Scene_swapped.nd rfl (Or.inl rfl)) (pss_one (ps_expr (pe_mt (pe_dget (hu_of hr) (pe_fldC T.cl_Scene T.n_Scene_crew (pv 0) rfl) (pv 10) (fun _ _ => rfl)) T.cl_Man T.me_Man_goes_from D_Man_goes_from (hr.mono (by first | decide | omega)) pass0 (pa_cons (pv 1) pa_nil)))))))))))))), ?_⟩
    try rw [hK]
    rw [show L2.start N_Scene_swapped [.ref s, .str a, .str b, .ref q1, .ref q2] = [some (.ref s), some (.str a), some (.str b), some (.ref q1), some (.ref q2), none, none, none, none, none, none] from rfl]
    obtain ⟨dx, p, dq, S1⟩ := S.sceneE
    clear S
    walk_at "sx"
    rename_i t1 H1 pk1 S2 ht1
    clear S1
    refine x_dgT (k := prK a b) ht1 vl fun v tp => ?_
    cases tp with
    | tup h1 a1 =>
      rename_i qv xs
      cases a1 with
      | cons a1 a2 =>
        cases a2 with
        | cons a2 a3 =>
          cases a3
          cases a2
          cases a1 with
          | tup h2 a4 =>
            rename_i wq ys
            have ey : ys = ws.map V.int := tp_ints a4
            subst ey
            walk_at "sx"
            have S3 : Sat H1 (scene K s ⟨ms, du, pa⟩ :: dctT pa [(prK a b, PyData.tuple [.tuple (ws.map .int), .int lim])] :: Rs) := G.Sat.sceneI S2
            have hq1' := pk1.tup hq1
            have hq2' := pk1.tup hq2
            refine ⟨s, wq, q1, a, b, ⟨ms, du, pa⟩, ws, os, _, rfl, h2, hq1', S3, ?_⟩
            rcases h with ⟨c, e1, no⟩ | ⟨g1, e1, h⟩
            · rw [e1]
              exact no H1 pk1 S3.tail
            rw [e1]
            refine finI_ok ?_
            walk_at "sx"
            refine ⟨s, wq, q2, b, a, ⟨ms, du, pa⟩, ws, ot, _, rfl, h2, hq2', S3, ?_⟩
            rcases h with ⟨c, e2, no⟩ | ⟨g2, d0, due, e2, hl, hv, ed, h⟩
            · rw [e2]
              exact no H1 pk1 S3.tail
            rw [e2]
            refine finI_ok ?_
            walk_at "sx"
            refine x_cut (fun σ H' => H' = H1 ∧ σ = [some (.ref s), some (.str a), some (.str b), some (.ref q1), some (.ref q2), some (.ref t1), some (.ref wq), some (.int lim), some (.int (if a = minS a b then g1 - g2 else 0 - (g1 - g2))), none, none]) ?_ ?_
            · walk_at "sx"
              refine x_ifD (fun c => ?_) (fun c => ?_)
              · walk_at "sx"
                rw [if_neg c]
                exact ⟨rfl, rfl⟩
              · walk_at "sx"
                rw [if_pos (Classical.not_not.mp c)]
                exact ⟨rfl, rfl⟩
            rintro σ H' ⟨rfl, rfl⟩
            generalize (if a = minS a b then g1 - g2 else 0 - (g1 - g2)) = got at ed
            have St : SatP H' (dctT pa [(prK a b, PyData.tuple [.tuple (ws.map .int), .int lim])] :: Rs) := ⟨S3.tail⟩
            clear S3
            walk_at "sx"
            refine x_dg2I (k := prK a b) ht1 hv ?_
            walk_at "sx"
            rw [← ed]
            refine x_ifD (fun c => ?_) (fun c => ?_)
            · rcases h with ⟨_, no⟩ | ⟨c2, _⟩
              · exact no _ pk1 St.s
              · exact absurd c c2
            rcases h with ⟨c2, _⟩ | ⟨_, m1, m2, hg1, hg2, yes⟩
            · exact absurd c2 c
            walk_at "sx"
            refine x_dpT (k := prK a b) ht1 (by rw [sizeLine_eq]; exact Nat.lt_trans hl (by decide)) (.int due) fun H2 pk2 S4 => ?_
            have S5 : Sat H2 (scene K s ⟨ms, putT du (prK a b) (.int due), pa⟩ :: dctT pa [(prK a b, PyData.tuple [.tuple (ws.map .int), .int lim])] :: Rs) := G.Sat.sceneI S4
            clear S2 S4
            have kq1 : KT1 H2 q1 (os.map V.str) := ⟨pk2.tup hq1'⟩
            have kq2 : KT1 H2 q2 (ot.map V.str) := ⟨pk2.tup hq2'⟩
            walk_at "sx"
            refine x_iTQ (SqT.of ((kq1).pkt)) ?_
            refine x_forQ (walk_tup (xs := os.map V.str)) (fun i σ H' => PK H2 H' ∧ (∃ v : Option V, σ = [some (.ref s), some (.str a), some (.str b), some (.ref q1), some (.ref q2), some (.ref t1), some (.ref wq), some (.int lim), some (.int got), some (.int due), v]) ∧ ∃ ms', goAll b (os.drop i) ms' = some m1 ∧ Sat H' (scene K s ⟨ms', putT du (prK a b) (.int due), pa⟩ :: dctT pa [(prK a b, PyData.tuple [.tuple (ws.map .int), .int lim])] :: Rs)) ⟨PK.refl, ⟨_, rfl⟩, _, by rw [List.drop_zero]; exact hg1, S5⟩ (fun i σ H' _ hh => ?_) (fun i x σ H4 H5 hi hh y => ?_) (fun σ H3 hh => ?_)
            · exact SqT.of (hh.1.tup (kq1).pkt)
            · obtain ⟨pk4, ⟨v, rfl⟩, ms', hg, S6x⟩ := hh
              obtain ⟨rfl, hx⟩ := y
              rw [List.getElem?_map] at hx
              cases hz : os[i]? with
              | none => rw [hz] at hx; cases hx
              | some n =>
                rw [hz] at hx
                cases hx
                have hd : os.drop i = n :: os.drop (i + 1) := by
                  obtain ⟨h1, h2⟩ := List.getElem?_eq_some_iff.mp hz
                  rw [List.drop_eq_getElem_cons h1, h2]
                rw [hd] at hg
                obtain ⟨m, hm, hc, hg⟩ := go_step hg
                obtain ⟨dx2, p2, du2, kvs, aa, dm, bo, Os, hv2, S7, back⟩ := S6x.sceneAt hm
                clear S6x S5
                walk_at "sx"
                refine x_dgC hv2 ?_
                walk_at "sx"
                refine ⟨aa, dm, bo, m, b, _, rfl, S7.pick (Ss := cell aa (.ins (CM K) dm (manV m bo)) :: dct bo m.bonds :: cell s (.ins (CS K) dx2 (fsScene (.ref p2) (.ref pa) (.ref du2))) :: cell p2 (.dK kvs) :: star Os :: dctT du2 (putT du (prK a b) (.int due)) :: dctT pa [(prK a b, PyData.tuple [.tuple (ws.map .int), .int lim])] :: Rs), hc, fun H7 pk7 S8 => ?_⟩
                clear S7
                walk_at "sx"
                exact ⟨pk4.trans pk7, ⟨_, rfl⟩, _, hg, (back H7 (goFrom b m) bo _ S8.pick).s⟩
            obtain ⟨pk3, ⟨v, rfl⟩, ms3, hg3, S6⟩ := hh
            clear S5
            have e3 : os.drop (os.map V.str).length = [] := by rw [List.length_map]; exact List.drop_length
            rw [e3] at hg3
            cases hg3
            have kq3 : KT1 H3 q2 (ot.map V.str) := ⟨pk3.tup kq2.pkt⟩
            walk_at "sx"
            refine x_iTQ (SqT.of ((kq3).pkt)) ?_
            refine x_forQ (walk_tup (xs := ot.map V.str)) (fun i σ H' => PK H3 H' ∧ (∃ v : Option V, σ = [some (.ref s), some (.str a), some (.str b), some (.ref q1), some (.ref q2), some (.ref t1), some (.ref wq), some (.int lim), some (.int got), some (.int due), v]) ∧ ∃ ms', goAll a (ot.drop i) ms' = some m2 ∧ Sat H' (scene K s ⟨ms', putT du (prK a b) (.int due), pa⟩ :: dctT pa [(prK a b, PyData.tuple [.tuple (ws.map .int), .int lim])] :: Rs)) ⟨PK.refl, ⟨_, rfl⟩, _, by rw [List.drop_zero]; exact hg2, S6⟩ (fun i σ H' _ hh => ?_) (fun i x σ H4 H5 hi hh y => ?_) (fun σ H9 hh => ?_)
            · exact SqT.of (hh.1.tup (kq3).pkt)
            · obtain ⟨pk4, ⟨v, rfl⟩, ms', hg, S6x⟩ := hh
              obtain ⟨rfl, hx⟩ := y
              rw [List.getElem?_map] at hx
              cases hz : ot[i]? with
              | none => rw [hz] at hx; cases hx
              | some n =>
                rw [hz] at hx
                cases hx
                have hd : ot.drop i = n :: ot.drop (i + 1) := by
                  obtain ⟨h1, h2⟩ := List.getElem?_eq_some_iff.mp hz
                  rw [List.drop_eq_getElem_cons h1, h2]
                rw [hd] at hg
                obtain ⟨m, hm, hc, hg⟩ := go_step hg
                obtain ⟨dx2, p2, du2, kvs, aa, dm, bo, Os, hv2, S7, back⟩ := S6x.sceneAt hm
                clear S6x S6
                walk_at "sx"
                refine x_dgC hv2 ?_
                walk_at "sx"
                refine ⟨aa, dm, bo, m, a, _, rfl, S7.pick (Ss := cell aa (.ins (CM K) dm (manV m bo)) :: dct bo m.bonds :: cell s (.ins (CS K) dx2 (fsScene (.ref p2) (.ref pa) (.ref du2))) :: cell p2 (.dK kvs) :: star Os :: dctT du2 (putT du (prK a b) (.int due)) :: dctT pa [(prK a b, PyData.tuple [.tuple (ws.map .int), .int lim])] :: Rs), hc, fun H7 pk7 S8 => ?_⟩
                clear S7
                walk_at "sx"
                exact ⟨pk4.trans pk7, ⟨_, rfl⟩, _, hg, (back H7 (goFrom a m) bo _ S8.pick).s⟩
            obtain ⟨pk5, ⟨v5, rfl⟩, ms5, hg5, S7⟩ := hh
            clear S6
            have e5 : ot.drop (ot.map V.str).length = [] := by rw [List.length_map]; exact List.drop_length
            rw [e5] at hg5
            cases hg5
            walk_at "sx"
            exact yes _ (pk1.trans (pk2.trans (pk3.trans pk5))) S7
end

/-! ### each deed in a scene -/
def Deed.xs : Deed → List V
  | .take n s => [.str "take", .str n, .str s]
  | .word n => [.str "word", .str n]
  | .free n => [.str "free", .str n]
  | .flee n => [.str "flee", .str n]
  | .die n => [.str "die", .str n]
  | .rank n r => [.str "rank", .str n, .int r]
theorem tp_xs {H : Hp} {v : V} {x : Deed} (h : Tp H v (.tuple x.ds)) : ∃ q, v = .ref q ∧ H q = some (.tup x.xs) := by
  cases x with
  | take n s => cases h with | tup e a => cases a with | cons a1 a => cases a with | cons a2 a => cases a with | cons a3 a => cases a; cases a1; cases a2; cases a3; exact ⟨_, rfl, e⟩
  | word n => cases h with | tup e a => cases a with | cons a1 a => cases a with | cons a2 a => cases a; cases a1; cases a2; exact ⟨_, rfl, e⟩
  | free n => cases h with | tup e a => cases a with | cons a1 a => cases a with | cons a2 a => cases a; cases a1; cases a2; exact ⟨_, rfl, e⟩
  | flee n => cases h with | tup e a => cases a with | cons a1 a => cases a with | cons a2 a => cases a; cases a1; cases a2; exact ⟨_, rfl, e⟩
  | die n => cases h with | tup e a => cases a with | cons a1 a => cases a with | cons a2 a => cases a; cases a1; cases a2; exact ⟨_, rfl, e⟩
  | rank n r => cases h with | tup e a => cases a with | cons a1 a => cases a with | cons a2 a => cases a with | cons a3 a => cases a; cases a1; cases a2; cases a3; exact ⟨_, rfl, e⟩
theorem tp_swap {H : Hp} {q : Addr} {a b : Str} {os ot : List Str} (h : Tp H (.ref q) (.tuple (Dd.swap a b os ot).ds)) : ∃ q1 q2, H q = some (.tup [.str "swap", .str a, .str b, .ref q1, .ref q2]) ∧ H q1 = some (.tup (os.map V.str)) ∧ H q2 = some (.tup (ot.map V.str)) := by
  cases h with
  | tup e a1 =>
    cases a1 with
    | cons b1 a1 =>
      cases a1 with
      | cons b2 a1 =>
        cases a1 with
        | cons b3 a1 =>
          cases a1 with
          | cons b4 a1 =>
            cases a1 with
            | cons b5 a1 =>
              cases a1
              cases b1
              cases b2
              cases b3
              cases b4 with
              | tup e4 a4 =>
                cases b5 with
                | tup e5 a5 =>
                  rw [tp_strs a4] at e4
                  rw [tp_strs a5] at e5
                  exact ⟨_, _, e, e4, e5⟩
def spBefalls (K : PySem.W.Frag) : Sp := fun vs H Q E => ∃ (s q : Addr) (day : Int) (x : Dd) (t : SSt) (pc : Option Pact) (Rs : List Res), vs = [.ref s, .int day, .ref q] ∧ Tp H (.ref q) (.tuple x.ds) ∧ Sat H (scene K s t :: dctT t.pa (pactD pc) :: Rs) ∧ ScFin K s (dctT t.pa (pactD pc) :: Rs) H Q E (fallS pc day x t)
section
variable {P : Program} {w : World} {K : PySem.W.Frag} {mg : Str → Option Value} {base : Heap}
theorem D_Scene_befalls (T : Txt K mg) (D_Scene_taken : DnM P w K mg base (L2N.CX P w) 2 (He.ma K (He.ga K "Scene") "taken") ["self", "day", "name", "side"] (spFall K aTake)) (D_Scene_sent : DnM P w K mg base (L2N.CX P w) 3 (He.ma K (He.ga K "Scene") "sent") ["self", "name"] (spFall K aWord)) (D_Scene_let_go : DnM P w K mg base (L2N.CX P w) 3 (He.ma K (He.ga K "Scene") "let_go") ["self", "name"] (spFall K aGo)) (D_Scene_graded : DnM P w K mg base (L2N.CX P w) 2 (He.ma K (He.ga K "Scene") "graded") ["self", "name", "grade"] (spFall K aRank)) (D_Scene_dies : DnM P w K mg base (L2N.CX P w) 2 (He.ma K (He.ga K "Scene") "dies") ["self", "name"] (spFall K aDie)) (D_Scene_swapped : DnM P w K mg base (L2N.CX P w) 3 (He.ma K (He.ga K "Scene") "swapped") ["self", "one", "other", "ones", "others"] (spSwapped K))
    (F : Mf K "Scene" "befalls" "Scene.befalls" s_Scene_befalls) : DnM P w K mg base (L2N.CX P w) 4 (He.ma K (He.ga K "Scene") "befalls") ["self", "day", "deed"] (spBefalls K) := by
  refine F.dmN sc_Scene_befalls (fun _ _ _ _ _ _ us hl => match us, hl with | [_, _, _], _ => rfl) (fun vs H Q E h => ?_) (fun f cdv A outer s0 H vs Q E hr hK h => ?_)
  · obtain ⟨s, q, day, x, t, pc, Rs, rfl, _⟩ := h
    rfl
  · obtain ⟨s, q, day, x, t, pc, Rs, rfl, hq, S, k⟩ := h
    refine ⟨_, (pss_one (ps_if (pt_cmpR op_eq (pe_ix ix_tup (pv 2) pe_int (fun _ _ => rfl)) pe_str (nomark _)) (pss_one (ps_expr (pe_mt (pv 0) T.cl_Scene T.me_Scene_taken D_Scene_taken (hr.mono (by first | decide | omega)) passN (pa_cons (pv 1) (pa_cons (pe_ix ix_tup (pv 2) pe_int (fun _ _ => rfl)) (pa_cons (pe_ix ix_tup (pv 2) pe_int (fun _ _ => rfl)) pa_nil)))))) (pss_one (ps_if (pt_cmpR op_eq (pe_ix ix_tup (pv 2) pe_int (fun _ _ => rfl)) pe_str (nomark _)) (pss_one (ps_expr (pe_mt (pv 0) T.cl_Scene T.me_Scene_sent D_Scene_sent (hr.mono (by first | decide | omega)) passN (pa_cons (pe_ix ix_tup (pv 2) pe_int (fun _ _ => rfl)) pa_nil)))) (pss_one (ps_if (pt_cmpR op_eq (pe_ix ix_tup (pv 2) pe_int (fun _ _ => rfl)) pe_str (nomark _)) (pss_one (ps_expr (pe_mt (pv 0) T.cl_Scene T.me_Scene_graded D_Scene_graded (hr.mono (by first | decide | omega)) passN (pa_cons (pe_ix ix_tup (pv 2) pe_int (fun _ _ => rfl)) (pa_cons (pe_ix ix_tup (pv 2) pe_int (fun _ _ => rfl)) pa_nil))))) (pss_one (ps_if (pt_cmpR op_eq (pe_ix ix_tup (pv 2) pe_int (fun _ _ => rfl)) pe_str (nomark _)) (pss_one (ps_expr (pe_mt (pv 0) T.cl_Scene T.me_Scene_dies D_Scene_dies (hr.mono (by first | decide | omega)) passN (pa_cons (pe_ix ix_tup (pv 2) pe_int (fun _ _ => rfl)) pa_nil)))) (pss_one (ps_if (pt_cmpR op_eq (pe_ix ix_tup (pv 2) pe_int (fun _ _ => rfl)) pe_str (nomark _)) (pss_one (ps_expr (pe_mt (pv 0) T.cl_Scene T.me_Scene_swapped D_Scene_swapped (hr.mono (by first | decide | omega)) passN (pa_cons (pe_ix ix_tup (pv 2) pe_int (fun _ _ => rfl)) (pa_cons (pe_ix ix_tup (pv 2) pe_int (fun _ _ => rfl)) (pa_cons (pe_ix ix_tup (pv 2) pe_int (fun _ _ => rfl)) (pa_cons (pe_ix ix_tup (pv 2) pe_int (fun _ _ => rfl)) pa_nil))))))) (pss_one (ps_expr (pe_mt (pv 0) T.cl_Scene T.me_Scene_let_go D_Scene_let_go (hr.mono (by first | decide | omega)) passN (pa_cons (pe_ix ix_tup (pv 2) pe_int (fun _ _ => rfl)) pa_nil)))))))))))))), ?_⟩
    try rw [hK]
    rw [show L2.start N_Scene_befalls [.ref s, .int day, .ref q] = [some (.ref s), some (.int day), some (.ref q)] from rfl]
    cases x with
    | swap a b os ot =>
      obtain ⟨q1, q2, hq, hq1, hq2⟩ := tp_swap hq
      walk_at "sx"
      refine x_ifD (fun c => absurd c (by decide)) (fun _ => ?_)
      walk_at "sx"
      refine x_ifD (fun c => absurd c (by decide)) (fun _ => ?_)
      walk_at "sx"
      refine x_ifD (fun c => absurd c (by decide)) (fun _ => ?_)
      walk_at "sx"
      refine x_ifD (fun c => absurd c (by decide)) (fun _ => ?_)
      walk_at "sx"
      refine x_ifD (fun _ => ?_) (fun c => absurd rfl c)
      walk_at "sx"
      refine ⟨s, q1, q2, a, b, os, ot, t, pc, Rs, rfl, hq1, hq2, S, fin_of k fun H1 k1 => ?_⟩
      walk_at "sx"
      exact k1
    | one x =>
      obtain ⟨q', e, hq⟩ := tp_xs (x := x) hq
      cases e
      have k : ScFin K s (dctT t.pa (pactD pc) :: Rs) H Q E (oneM day x t) := k
      cases x with
      | take n sd =>
        simp only [Deed.xs] at hq
        walk_at "sx"
        refine x_ifD (fun _ => ?_) (fun c => absurd rfl c)
        walk_at "sx"
        refine ⟨s, day, .take n sd, t, [.int day, .str n, .str sd], _, rfl, rfl, S, fin_of k fun H1 k1 => ?_⟩
        walk_at "sx"
        exact k1
      | word n =>
        simp only [Deed.xs] at hq
        walk_at "sx"
        refine x_ifD (fun c => absurd c (by decide)) (fun _ => ?_)
        walk_at "sx"
        refine x_ifD (fun _ => ?_) (fun c => absurd rfl c)
        walk_at "sx"
        refine ⟨s, day, .word n, t, [.str n], _, rfl, rfl, S, fin_of k fun H1 k1 => ?_⟩
        walk_at "sx"
        exact k1
      | rank n r =>
        simp only [Deed.xs] at hq
        walk_at "sx"
        refine x_ifD (fun c => absurd c (by decide)) (fun _ => ?_)
        walk_at "sx"
        refine x_ifD (fun c => absurd c (by decide)) (fun _ => ?_)
        walk_at "sx"
        refine x_ifD (fun _ => ?_) (fun c => absurd rfl c)
        walk_at "sx"
        refine ⟨s, day, .rank n r, t, [.str n, .int r], _, rfl, rfl, S, fin_of k fun H1 k1 => ?_⟩
        walk_at "sx"
        exact k1
      | die n =>
        simp only [Deed.xs] at hq
        walk_at "sx"
        refine x_ifD (fun c => absurd c (by decide)) (fun _ => ?_)
        walk_at "sx"
        refine x_ifD (fun c => absurd c (by decide)) (fun _ => ?_)
        walk_at "sx"
        refine x_ifD (fun c => absurd c (by decide)) (fun _ => ?_)
        walk_at "sx"
        refine x_ifD (fun _ => ?_) (fun c => absurd rfl c)
        walk_at "sx"
        refine ⟨s, day, .die n, t, [.str n], _, rfl, rfl, S, fin_of k fun H1 k1 => ?_⟩
        walk_at "sx"
        exact k1
      | free n =>
        simp only [Deed.xs] at hq
        walk_at "sx"
        refine x_ifD (fun c => absurd c (by decide)) (fun _ => ?_)
        walk_at "sx"
        refine x_ifD (fun c => absurd c (by decide)) (fun _ => ?_)
        walk_at "sx"
        refine x_ifD (fun c => absurd c (by decide)) (fun _ => ?_)
        walk_at "sx"
        refine x_ifD (fun c => absurd c (by decide)) (fun _ => ?_)
        walk_at "sx"
        refine x_ifD (fun c => absurd c (by decide)) (fun _ => ?_)
        walk_at "sx"
        refine ⟨s, day, .free n, t, [.str n], _, rfl, rfl, S, fin_of k fun H1 k1 => ?_⟩
        walk_at "sx"
        exact k1
      | flee n =>
        simp only [Deed.xs] at hq
        walk_at "sx"
        refine x_ifD (fun c => absurd c (by decide)) (fun _ => ?_)
        walk_at "sx"
        refine x_ifD (fun c => absurd c (by decide)) (fun _ => ?_)
        walk_at "sx"
        refine x_ifD (fun c => absurd c (by decide)) (fun _ => ?_)
        walk_at "sx"
        refine x_ifD (fun c => absurd c (by decide)) (fun _ => ?_)
        walk_at "sx"
        refine x_ifD (fun c => absurd c (by decide)) (fun _ => ?_)
        walk_at "sx"
        refine ⟨s, day, .flee n, t, [.str n], _, rfl, rfl, S, fin_of k fun H1 k1 => ?_⟩
        walk_at "sx"
        exact k1
end

/-! ### the deeds in order -/
abbrev s_in_order : Stmt := top 33
abbrev N_in_order : List Str := ["told", "number"]
theorem sc_in_order : FnScope N_in_order ["told"] (defScope s_in_order) := ⟨rfl, rfl, rfl, by decide +kernel, rfl, by decide +kernel, by decide +kernel⟩

abbrev Told := List (Int × Int × Dd)
def toldD (T : Told) : KDs := T.map fun t => (Sum.inl t.1, .tuple [.int t.2.1, .tuple t.2.2.ds])
theorem tup_ref {H : Hp} {v : V} {ds : List PyData} (h : Tp H v (.tuple ds)) : ∃ q, v = .ref q := by
  cases h
  exact ⟨_, rfl⟩
/-- the triples (day, number, deed) -/
inductive TriAll (H : Hp) : List V → Told → Prop
  | nil : TriAll H [] []
  | cons {t q : Addr} {n d : Int} {x : Dd} {ys : List V} {T : Told} : H t = some (.tup [.int d, .int n, .ref q]) → Tp H (.ref q) (.tuple x.ds) → TriAll H ys T → TriAll H (.ref t :: ys) ((n, d, x) :: T)
section
variable {H H' : Hp} {ys : List V} {T : Told}
theorem TriAll.pk (p : PK H H') (h : TriAll H ys T) : TriAll H' ys T := by
  induction h with
  | nil => exact .nil
  | cons a b _ ih => exact .cons (p.tup a) (b.pk p) ih
theorem TriAll.len (h : TriAll H ys T) : ys.length = T.length := by
  induction h with
  | nil => rfl
  | cons _ _ _ ih => exact congrArg (· + 1) ih
theorem TriAll.snoc {t q : Addr} {n d : Int} {x : Dd} (h : TriAll H ys T) (a : H t = some (.tup [.int d, .int n, .ref q])) (b : Tp H (.ref q) (.tuple x.ds)) : TriAll H (ys ++ [.ref t]) (T ++ [(n, d, x)]) := by
  induction h with
  | nil => exact .cons a b .nil
  | cons a' b' _ ih => exact .cons a' b' ih
theorem TriAll.get {i : Nat} {y : V} (h : TriAll H ys T) (e : ys[i]? = some y) : ∃ t q n d x, y = .ref t ∧ T[i]? = some (n, d, x) ∧ H t = some (.tup [.int d, .int n, .ref q]) ∧ Tp H (.ref q) (.tuple x.ds) := by
  induction h generalizing i with
  | nil => simp at e
  | cons a b _ ih =>
    cases i with
    | zero => cases e; exact ⟨_, _, _, _, _, rfl, rfl, a, b⟩
    | succ i => exact ih (i := i) e
def keyT (H : Hp) (y : V) : Int × Int := match y with
  | .ref t => (match H t with
    | some (.tup [.int d, .int n, _]) => (d, n)
    | _ => (0, 0))
  | _ => (0, 0)
def refT (H : Hp) (y : V) : Addr := match y with
  | .ref t => (match H t with
    | some (.tup [.int _, .int _, .ref q]) => q
    | _ => 0)
  | _ => 0
theorem keyT_eq {t q : Addr} {n d : Int} (h : H t = some (.tup [.int d, .int n, .ref q])) : keyT H (.ref t) = (d, n) ∧ refT H (.ref t) = q := by
  unfold keyT refT
  simp [h]
/-- day, then number -/
def inOrd (T : Told) : Prop := T.Pairwise fun a b => SrtO.lexB (b.2.1, b.1) (a.2.1, a.1) = false
theorem TriAll.keys (h : TriAll H ys T) : ys.map (keyT H) = T.map fun t => (t.2.1, t.1) := by
  induction h with
  | nil => rfl
  | cons a b _ ih => rw [List.map_cons, List.map_cons, ih, (keyT_eq a).1]
end
theorem TriAll.perm {H : Hp} {ys zs : List V} {T : Told} (h : TriAll H ys T) (p : zs.Perm ys) : ∃ T', T'.Perm T ∧ TriAll H zs T' := by
  replace p := p.symm
  induction p generalizing T with
  | nil => exact ⟨T, .refl _, h⟩
  | cons x _ ih =>
    cases h with
    | cons a b h =>
      obtain ⟨T', pT, h'⟩ := ih h
      exact ⟨_ :: T', pT.cons _, .cons a b h'⟩
  | swap x y l =>
    cases h with
    | cons a b h =>
      cases h with
      | cons a' b' h => exact ⟨_ :: _ :: _, .swap _ _ _, .cons a' b' (.cons a b h)⟩
  | trans _ _ ih1 ih2 =>
    obtain ⟨T1, p1, h1⟩ := ih1 h
    obtain ⟨T2, p2, h2⟩ := ih2 h1
    exact ⟨T2, p2.trans p1, h2⟩
def spInOrder (K : PySem.W.Frag) : Sp := fun vs H Q _ => ∃ (a : Addr) (T : Told) (Rs : List Res), vs = [.ref a] ∧ Sat H (dct a (toldD T) :: Rs) ∧ (T.map fun t => t.1).Nodup ∧ T.length ≤ 1000 ∧
  ∀ p ys T' H', T'.Perm T → inOrd T' → PK H H' → Sat H' (cell p (.lst ys) :: dct a (toldD T) :: Rs) → TriAll H' ys T' → Q (.ref p) H'
theorem toldD_at {H : Hp} {kvs : List (Key × V)} {T : Told} (kd : KD H kvs (toldD T)) {i : Nat} {k : Key} {v : V} (h : kvs[i]? = some (k, v)) : ∃ n d x t q, T[i]? = some (n, d, x) ∧ k = Sum.inl n ∧ v = .ref t ∧ H t = some (.tup [.int d, .ref q]) ∧ Tp H (.ref q) (.tuple x.ds) := by
  obtain ⟨e, he, tp⟩ := kd.at_ h
  unfold toldD at he
  rw [List.getElem?_map] at he
  cases ht : T[i]? with
  | none => rw [ht] at he; cases he
  | some u =>
    obtain ⟨n, d, x⟩ := u
    rw [ht] at he
    cases he
    cases tp with
    | tup e1 a =>
      cases a with
      | cons a1 a =>
        cases a with
        | cons a2 a =>
          cases a
          cases a1
          obtain ⟨q, rfl⟩ := tup_ref a2
          exact ⟨n, d, x, _, q, rfl, rfl, rfl, e1, a2⟩
theorem toldD_nodup {H : Hp} {kvs : List (Key × V)} {T : Told} (kd : KD H kvs (toldD T)) (nd : (T.map fun t => t.1).Nodup) : (kvs.map (·.1)).Nodup := by
  have e : kvs.map (·.1) = (T.map fun t => t.1).map Sum.inl := by
    have h : ∀ {kvs : List (Key × V)} {kds : KDs}, KD H kvs kds → kvs.map (·.1) = kds.map (·.1) := by
      intro kvs kds r
      induction r with
      | nil => rfl
      | cons a _ ih => rw [List.map_cons, List.map_cons, ih]
    rw [h kd]
    unfold toldD
    rw [List.map_map, List.map_map]
    rfl
  rw [e]
  exact (List.pairwise_map.mpr (nd.imp fun h e => h (Sum.inl.inj e)))
section
variable {P : Program} {w : World} {K : PySem.W.Frag} {mg : Str → Option Value} {base : Heap}
theorem D_in_order (T : Txt K mg) (F : Df K mg "in_order" s_in_order) : Dn P w K mg base CX0 1 "in_order" ["told"] (spInOrder K) := by
  refine F.dn sc_in_order (fun _ _ _ _ _ _ us hl => match us, hl with | [_], _ => rfl) (fun vs H Q E h => ?_) (fun f cdv A outer s H vs Q E hr hK h => ?_)
  · obtain ⟨a, Td, Rs, rfl, _⟩ := h
    rfl
  · obtain ⟨a, Td, Rs, rfl, S, nd, hlen, k⟩ := h
    refine ⟨_, (pss_one (ps_ret (pe_callB cr_sortedTri rfl T.m_sorted boot_sorted (pa_cons (pe_lock (pe_lc (own := [("number", 1)]) (g := gName 1) (tt := tYes) rfl sc_in_order.nd (pi_keys (pv 0)) (blkOk_by (own := [("number", 1)]) (N := N_in_order) (sc := defScope s_in_order) (by decide +kernel)) (fun _ _ _ _ _ => pg_name (i := 1) sc_in_order.nd rfl (Or.inl rfl)) (fun _ _ _ _ _ => pts_nil) (fun _ _ _ _ _ => (pe_tup (pa_cons (pe_ix (r := rIxT K) ix_tup (pe_dget (hu_of hr) (pv 0) (pv 1) (fun _ _ => rfl)) pe_int (fun _ _ => rfl)) (pa_cons (pv 1) (pa_cons (pe_ix (r := rIxT K) ix_tup (pe_dget (hu_of hr) (pv 0) (pv 1) (fun _ _ => rfl)) pe_int (fun _ _ => rfl)) pa_nil))))))) pa_nil)))), ?_⟩
    try rw [hK]
    rw [show L2.start N_in_order [.ref a] = [some (.ref a), none] from rfl]
    walk_at "sx"
    refine x_lockE a fun ob kvs H1 pk1 kd S1 => ?_
    have hl : kvs.length = Td.length := by rw [kd.len]; unfold toldD; rw [List.length_map]
    have nd2 := toldD_nodup kd nd
    walk_at "sx"
    refine x_lcQ walk_keys (fun D i H' => PK H1 H' ∧ ∃ ys, Sat H' (cell D (.lst ys) :: cell a (.frz ob (.dK kvs)) :: Rs) ∧ TriAll H' ys (Td.take i)) (fun D hD => ⟨PK.of_ex (Ex.new hD), [], S1.new hD, .nil⟩) (fun D i H' _ h => ?_) (fun D i x H2 H3 hi h y => ?_) (fun D H2 h => ?_)
    · obtain ⟨_, ys, S2, _⟩ := h
      exact sat_at
    · obtain ⟨pk2, ys, S2, tr⟩ := h
      obtain ⟨rfl, ky, v, hk, rfl⟩ := y
      obtain ⟨n, d, x, t, q, ht, rfl, rfl, h1, h2⟩ := toldD_at kd hk
      have hv := valV_nodup nd2 hk
      have h1' := pk2.tup h1
      have h2' := h2.pk pk2
      clear S1 S
      simp only [kV]
      walk_at "sx"
      refine x_dgF hv ?_
      walk_at "sx"
      refine x_dgF hv ?_
      walk_at "sx"
      rename_i p4 H4 pk4 S4 h4
      have hz : ys.length < sizeLine := by rw [tr.len, List.length_take, sizeLine_eq]; omega
      refine x_eltS hz fun H5 pk5 S5 => ⟨pk2.trans (pk4.trans pk5), _, S5, ?_⟩
      have e1 : Td.take (i + 1) = Td.take i ++ [(n, d, x)] := by rw [List.take_succ, ht]; rfl
      rw [e1]
      exact ((tr.pk pk4).pk pk5).snoc (pk5.tup h4) (h2'.pk (pk4.trans pk5))
    · obtain ⟨pk2, ys, S2, tr⟩ := h
      have e1 : Td.take kvs.length = Td := by rw [hl]; exact List.take_length
      rw [e1] at tr
      clear S1 S
      refine x_unlockV (kd.pk pk2) fun H3 pk3 S3 => ?_
      have tr3 := tr.pk pk3
      clear S2
      walk_at "sx"
      have ke := tr3.keys
      refine ⟨D, ys, keyT H3, refT H3, rfl, SqL.of sat_at, fun y hy => ?_, fun y hy z hz2 e => ?_, fun zs p hs hb hp => ?_⟩
      · obtain ⟨i, hi⟩ := List.getElem?_of_mem hy
        obtain ⟨t, q, n, d, x, rfl, _, h1, _⟩ := tr3.get hi
        rw [(keyT_eq h1).1, (keyT_eq h1).2]
        exact ⟨t, rfl, h1⟩
      · obtain ⟨i, hi⟩ := List.getElem?_of_mem hy
        obtain ⟨j, hj⟩ := List.getElem?_of_mem hz2
        obtain ⟨t, q, n, d, x, rfl, hti, h1, _⟩ := tr3.get hi
        obtain ⟨t2, q2, n2, d2, x2, rfl, htj, h2, _⟩ := tr3.get hj
        rw [(keyT_eq h1).1, (keyT_eq h2).1] at e
        have en : n = n2 := congrArg Prod.snd e
        subst en
        have eij : i = j := by
          have a1 : (Td.map fun t => t.1)[i]? = some n := by rw [List.getElem?_map, hti]; rfl
          have a2 : (Td.map fun t => t.1)[j]? = some n := by rw [List.getElem?_map, htj]; rfl
          exact (List.getElem?_inj (List.getElem?_eq_some_iff.mp a1).1 nd).mp (a1.trans a2.symm)
        subst eij
        rw [hi] at hj
        rw [Option.some.inj hj]
      · obtain ⟨T', pT, tr4⟩ := tr3.perm hb.perm
        have od : inOrd T' := by
          have hm : (zs.map (keyT H3)).Pairwise fun a b => SrtO.lexB b a = false := List.pairwise_map.mpr hs
          rw [tr4.keys] at hm
          exact List.pairwise_map.mp hm
        exact k p zs T' _ pT od (pk1.trans (pk2.trans (pk3.trans (PK.of_ex (Ex.new hp))))) ((S3.new hp).pick) (tr4.pk (PK.of_ex (Ex.new hp)))
end

end

/-! ### a scene set up and run through -/
abbrev s_Scene___init__ : Stmt := inClass (top 32) 0
abbrev N_Scene___init__ : List Str := ["self", "folk", "pacts", "name"]
theorem sc_Scene___init__ : FnScope N_Scene___init__ ["self", "folk", "pacts"] (defScope s_Scene___init__) := ⟨rfl, rfl, rfl, by decide +kernel, rfl, by decide +kernel, by decide +kernel⟩
abbrev s_look_through : Stmt := top 35
abbrev N_look_through : List Str := ["folk", "pacts", "told", "fresh", "scene", "when", "number", "deed"]
theorem sc_look_through : FnScope N_look_through ["folk", "pacts", "told", "fresh"] (defScope s_look_through) := ⟨rfl, rfl, rfl, by decide +kernel, rfl, by decide +kernel, by decide +kernel⟩

def crew0 (F : FolkL) : Crew := F.map fun f => (f.1, man0 f.2.1 f.2.2)
theorem mans_app {C : Addr} {kv : Key × V} {nm : Str × MSt} : ∀ {kvs : List (Key × V)} {ms : Crew}, kvs.length = ms.length → mans C (kvs ++ [kv]) (ms ++ [nm]) = mans C kvs ms ++ [man C kv.2 nm.2]
  | [], [], _ => rfl
  | _ :: kvs, _ :: ms, h => congrArg (_ :: ·) (mans_app (kvs := kvs) (ms := ms) (by simpa using h))
  | [], _ :: _, h => by simp at h
  | _ :: _, [], h => by simp at h
theorem folkD_at {H : Hp} {kvs : List (Key × V)} {F : FolkL} (kd : KD H kvs (folkD F)) {i : Nat} {k : Key} {v : V} (h : kvs[i]? = some (k, v)) : ∃ n sd g t, F[i]? = some (n, sd, g) ∧ k = Sum.inr n ∧ v = .ref t ∧ H t = some (.tup [.str sd, .int g]) := by
  obtain ⟨e, he, tp⟩ := kd.at_ h
  unfold folkD at he
  rw [List.getElem?_map] at he
  cases ht : F[i]? with
  | none => rw [ht] at he; cases he
  | some u =>
    obtain ⟨n, sd, g⟩ := u
    rw [ht] at he
    cases he
    cases tp with
    | tup e1 a =>
      cases a with
      | cons a1 a =>
        cases a with
        | cons a2 a =>
          cases a
          cases a1
          cases a2
          exact ⟨n, sd, g, _, rfl, rfl, rfl, e1⟩
theorem kd_keys {H : Hp} {kvs : List (Key × V)} {kds : KDs} (r : KD H kvs kds) : kvs.map (·.1) = kds.map (·.1) := by
  induction r with
  | nil => rfl
  | cons a _ ih => rw [List.map_cons, List.map_cons, ih]
theorem folkD_keys (F : FolkL) : (folkD F).map (·.1) = F.map fun f => (Sum.inr f.1 : Key) := by
  unfold folkD
  rw [List.map_map]
  rfl
theorem not_in_take {l : List Str} {i : Nat} {n : Str} (nd : l.Nodup) (h : l[i]? = some n) : n ∉ l.take i := fun hm => by
  obtain ⟨j, hj⟩ := List.getElem?_of_mem hm
  rw [List.getElem?_take] at hj
  split at hj
  · next c =>
    have := (List.getElem?_inj (List.getElem?_eq_some_iff.mp hj).1 nd).mp (hj.trans h.symm)
    omega
  · cases hj
def spSceneInit (K : PySem.W.Frag) : Sp := fun vs H Q _ => ∃ (s dx fo pa : Addr) (F : FolkL) (Rs : List Res), vs = [.ref s, .ref fo, .ref pa] ∧ Sat H (cell s (.ins (CS K) dx []) :: dct fo (folkD F) :: Rs) ∧ (F.map fun f => f.1).Nodup ∧ F.length ≤ 1000 ∧
  ∀ H', PK H H' → Sat H' (scene K s ⟨crew0 F, [], pa⟩ :: dct fo (folkD F) :: Rs) → Q .non H'
section
variable {P : Program} {w : World} {K : PySem.W.Frag} {mg : Str → Option Value} {base : Heap}
theorem D_Scene_init (T : Txt K mg) (D_Man___init__ : DnM P w K mg base CX0 1 (He.ma K (He.ga K "Man") "__init__") ["self", "home", "grade"] (spManInit K)) (F : Mf K "Scene" "__init__" "Scene.__init__" s_Scene___init__) : DnM P w K mg base CX0 3 (He.ma K (He.ga K "Scene") "__init__") ["self", "folk", "pacts"] (spSceneInit K) := by
  refine F.dm sc_Scene___init__ (fun _ _ _ _ _ _ us hl => match us, hl with | [_, _, _], _ => rfl) (fun vs H Q E h => ?_) (fun f cdv A outer s0 H vs Q E hr hK h => ?_)
  · obtain ⟨s, dx, fo, pa, Fo, Rs, rfl, _⟩ := h
    rfl
  · obtain ⟨s, dx, fo, pa, Fo, Rs, rfl, S, nd, hlen, k⟩ := h
    refine ⟨_, (pss_cons (ps_fldC T.cl_Scene T.n_Scene_crew (pv 0) (pe_dnewK) rfl)
      (pss_cons (ps_lock (ps_for PassesOwn.never rfl (pi_keys (pv 1)) (pg_name (i := 3) sc_Scene___init__.nd rfl (Or.inl rfl)) (pss_one (ps_dput (hu_of hr) (pe_fldC T.cl_Scene T.n_Scene_crew (pv 0) rfl) (pv 3) (pe_mk T.mk_Man D_Man___init__ (hr.mono (by first | decide | omega)) pass0 T.g_Man (pa_cons (pe_ix ix_tup (pe_dget (hu_of hr) (pv 1) (pv 3) (fun _ _ => rfl)) pe_int (fun _ _ => rfl)) (pa_cons (pe_ix ix_tup (pe_dget (hu_of hr) (pv 1) (pv 3) (fun _ _ => rfl)) pe_int (fun _ _ => rfl)) pa_nil))) rfl))))
      (pss_cons (ps_fldC T.cl_Scene T.n_Scene_pacts (pv 0) (pv 2) rfl)
      (pss_one (ps_fldC T.cl_Scene T.n_Scene_dues (pv 0) (pe_dnewT) rfl))))), ?_⟩
    try rw [hK]
    rw [show L2.start N_Scene___init__ [.ref s, .ref fo, .ref pa] = [some (.ref s), some (.ref fo), some (.ref pa), none] from rfl]
    walk_at "sx"
    rename_i p H1 pk1 S1 H2 pk2 S2
    clear S S1
    refine x_lock fo fun ob kvs H3 pk3 kd S3 => ?_
    clear S2
    have hl : kvs.length = Fo.length := by rw [kd.len]; unfold folkD; rw [List.length_map]
    have kk : kvs.map (·.1) = Fo.map fun f => (Sum.inr f.1 : Key) := (kd_keys kd).trans (folkD_keys Fo)
    have nd2 : (kvs.map (·.1)).Nodup := by
      rw [kk]
      exact List.pairwise_map.mpr ((List.pairwise_map.mp nd).imp fun h e => h (Sum.inr.inj e))
    obtain ⟨k0, S4, kd0⟩ := Sat.dctE S3
    cases kd0
    have S5 : Sat H3 (crewR (CM K) p [] :: cell s (.ins (CS K) dx [("crew", .ref p)]) :: cell fo (.frz ob (.dK kvs)) :: Rs) := G.Sat.crewI (kvs := []) rfl (Sat.swap (Sat.close (As := []) S4))
    clear S3 S4
    walk_at "sx"
    refine x_forQ walk_keys (fun i σ H' => PK H3 H' ∧ (∃ v : Option V, σ = [some (.ref s), some (.ref fo), some (.ref pa), v]) ∧ Sat H' (crewR (CM K) p (crew0 (Fo.take i)) :: cell s (.ins (CS K) dx [("crew", .ref p)]) :: cell fo (.frz ob (.dK kvs)) :: Rs)) ⟨PK.refl, ⟨_, rfl⟩, S5⟩ (fun i σ H' _ h => ?_) (fun i x σ H4 H5 hi h y => ?_) (fun σ H4 h => ?_)
    · obtain ⟨_, _, S6⟩ := h
      exact sat_at
    · obtain ⟨pk4, ⟨v, rfl⟩, S6⟩ := h
      obtain ⟨rfl, ky, u, hk, rfl⟩ := y
      clear S5
      obtain ⟨n, sd, g, t, hf, rfl, rfl, ht⟩ := folkD_at kd hk
      have hv := valV_nodup nd2 hk
      have ht' := pk4.tup ht
      obtain ⟨kc, ec, S7⟩ := S6.crewE
      clear S6
      simp only [kV]
      walk_at "sx"
      refine x_dgF hv ?_
      walk_at "sx"
      refine x_dgF hv ?_
      walk_at "sx"
      rename_i a dm H6 pk6 S8
      clear S7
      refine ⟨a, dm, sd, g, _, rfl, S8, fun H7 pk7 S9 => ?_⟩
      clear S8
      walk_at "sx"
      have hkl : kc.length = (crew0 (Fo.take i)).length := by
        have := congrArg List.length ec
        rw [List.length_map, List.length_map] at this
        exact this
      have hkl2 : kc.length ≤ 1000 := by
        rw [hkl]
        unfold crew0
        rw [List.length_map, List.length_take]
        omega
      refine x_dpC (by rw [sizeLine_eq]; omega) fun H8 pk8 S10 => ?_
      clear S9
      have nf : valV kc (.inr n) = none := by
        cases e : valV kc (.inr n) with
        | none => rfl
        | some z =>
          have h1 : (valV kc (.inr n)).isSome = true := by rw [e]; rfl
          rw [← valV_any] at h1
          obtain ⟨kv, m1, m2⟩ := List.any_eq_true.mp h1
          have m3 : (Sum.inr n : Key) ∈ kc.map (fun kv => kv.1) := List.mem_map.mpr ⟨kv, m1, of_decide_eq_true m2⟩
          rw [ec] at m3
          obtain ⟨nm, m4, m5⟩ := List.mem_map.mp m3
          unfold crew0 at m4
          obtain ⟨ff, m6, rfl⟩ := List.mem_map.mp m4
          have m7 : ff.1 = n := Sum.inr.inj m5
          have m8 : n ∈ (Fo.map fun f => f.1).take i := by
            rw [← List.map_take]
            exact List.mem_map.mpr ⟨ff, m6, m7⟩
          exact absurd m8 (not_in_take nd (by rw [List.getElem?_map, hf]; rfl))
      rw [putK_new _ nf] at S10
      have e1 : crew0 (Fo.take (i + 1)) = crew0 (Fo.take i) ++ [(n, man0 sd g)] := by
        have e2 : Fo.take (i + 1) = Fo.take i ++ [(n, sd, g)] := by rw [List.take_succ, hf]; rfl
        unfold crew0
        rw [e2, List.map_append]
        rfl
      have S11 : Sat H8 (star (mans (CM K) kc (crew0 (Fo.take i))) :: man (CM K) (.ref a) (man0 sd g) :: cell p (.dK (kc ++ [(.inr n, .ref a)])) :: cell s (.ins (CS K) dx [("crew", .ref p)]) :: cell fo (.frz ob (.dK kvs)) :: Rs) := S10.pick
      clear S10
      have S12 := S11.open_
      have S13 : Sat H8 ((mans (CM K) (kc ++ [(.inr n, .ref a)]) (crew0 (Fo.take i) ++ [(n, man0 sd g)])) ++ (cell p (.dK (kc ++ [(.inr n, .ref a)])) :: cell s (.ins (CS K) dx [("crew", .ref p)]) :: cell fo (.frz ob (.dK kvs)) :: Rs)) := by
        rw [mans_app hkl, List.append_assoc]
        exact S12
      have S14 := S13.close.swap
      refine ⟨pk4.trans (pk6.trans (pk7.trans pk8)), ⟨_, rfl⟩, ?_⟩
      rw [e1]
      refine G.Sat.crewI ?_ S14
      rw [List.map_append, List.map_append, ec]
      rfl
    · obtain ⟨pk4, ⟨v, rfl⟩, S6⟩ := h
      clear S5
      have e1 : Fo.take kvs.length = Fo := by rw [hl]; exact List.take_length
      rw [e1] at S6
      refine x_unlock (kd.pk pk4) fun H5 pk5 S7 => ?_
      clear S6
      walk_at "sx"
      rename_i H8 pk8 S8
      refine x_dnewTS fun du H9 pk9 S9 => ?_
      walk_at "sx"
      rename_i H10 pk10 S10
      exact k _ (by walk_at "pk") (G.Sat.sceneI (dx := dx) (p := p) (du := du) (pa := pa) (kd := []) pick)
end

/-! ### a book looked through: what is refused, and what breaks -/
abbrev s_Breaks___init__ : Stmt := inClass (top 22) 0
abbrev N_Breaks___init__ : List Str := ["self", "number"]
theorem sc_Breaks___init__ : FnScope N_Breaks___init__ ["self", "number"] (defScope s_Breaks___init__) := ⟨rfl, rfl, rfl, by decide +kernel, rfl, by decide +kernel, by decide +kernel⟩

instance r_mkO {C : Addr} {sp : Sp} {ta : TA} {σ : L2.St} {H : Hp} {Q : XK} {R : Prop} [n : Run (ta σ H (mkOQ C sp Q)) R] : Run (tMkO C sp [] ta σ H Q) R := ⟨fun h => n.go h⟩
inductive LOut where
  | ok
  | bad (c : Str)
  | brk
  | no
def lookO (pc : Option Pact) (fresh : Int) : Told → SSt → LOut
  | [], _ => .ok
  | (n, d, x) :: r, t => match fallS pc d x t with
    | .ok t' => lookO pc fresh r t'
    | .bad c => if n = fresh then .bad c else .brk
    | .no => .no
def LFin (K : PySem.W.Frag) (Rs : List Res) (H : Hp) (Q : VK) (E : XK) : LOut → Prop
  | .ok => ∀ H', PK H H' → Sat H' Rs → Q .non H'
  | .bad c => ∀ H', PK H H' → Sat H' Rs → E (.ref (He.ga K c)) none H'
  | .brk => ∀ H' dd fs, PK H H' → Sat H' Rs → H' dd = some (.xd fs) → E (.ref (He.ga K "Breaks")) (some dd) H'
  | .no => False
def spLook (K : PySem.W.Frag) : Sp := fun vs H Q E => ∃ (fo to pa : Addr) (fresh : Int) (F : FolkL) (Td : Told) (pc : Option Pact) (o : LOut) (Rs : List Res), vs = [.ref fo, .ref pa, .ref to, .int fresh] ∧ Sat H (dct fo (folkD F) :: dct to (toldD Td) :: dctT pa (pactD pc) :: Rs) ∧
  (F.map fun f => f.1).Nodup ∧ F.length ≤ 1000 ∧ (Td.map fun t => t.1).Nodup ∧ Td.length ≤ 1000 ∧ (∀ T', T'.Perm Td → inOrd T' → lookO pc fresh T' ⟨crew0 F, [], pa⟩ = o) ∧ LFin K (dct fo (folkD F) :: dct to (toldD Td) :: dctT pa (pactD pc) :: Rs) H Q E o
theorem gone_cls {ms : Crew} {ws : List Int} {h c : Str} {ns : List Str} {k : Int} {z : Str} (e : goneO ms ws h c ns k = .bad z) : z = "OffRoll" := by
  induction ns generalizing k with
  | nil => cases e
  | cons n r ih =>
    unfold goneO at e
    cases h1 : findM ms n with
    | none => simp only [h1] at e; cases e
    | some m =>
      simp only [h1] at e
      split at e
      · cases h2 : ws[m.grade.toNat]? with
        | none => simp only [h2] at e; cases e
        | some u =>
          simp only [h2] at e
          split at e
          · exact ih e
          · cases e
      · cases e
        rfl
theorem fall_cls {pc : Option Pact} {d : Int} {x : Dd} {t : SSt} {c : Str} (e : fallS pc d x t = .bad c) : c ∈ xcls := by
  cases x with
  | one x =>
    have e : oneM d x t = .bad c := e
    unfold oneM at e
    cases h1 : findM t.ms x.man with
    | none => simp only [h1] at e; cases e
    | some m =>
      simp only [h1] at e
      cases h2 : fallM d x m with
      | ok m' => simp only [h2] at e; cases e
      | no => simp only [h2] at e; cases e
      | bad z =>
        simp only [h2] at e
        cases e
        cases x <;> simp only [fallM] at h2 <;> (repeat' split at h2) <;> first | (cases h2; decide) | (cases h2)
  | swap a b os ot =>
    have e : swapO pc a b os ot t = .bad c := e
    unfold swapO at e
    cases pc with
    | none => cases e
    | some p =>
      simp only at e
      repeat' split at e
      all_goals first | (cases e; done) | (cases e; decide) | (cases e; rename_i h _; rw [gone_cls h]; decide) | (cases e; rename_i h; rw [gone_cls h]; decide) | (cases e; rename_i h _ _; rw [gone_cls h]; decide)
theorem fall_pa {pc : Option Pact} {d : Int} {x : Dd} {t t' : SSt} (e : fallS pc d x t = .ok t') : t'.pa = t.pa := by
  cases x with
  | one x =>
    have e : oneM d x t = .ok t' := e
    unfold oneM at e
    repeat' split at e
    all_goals first | (cases e; done) | (cases e; rfl)
  | swap a b os ot =>
    have e : swapO pc a b os ot t = .ok t' := e
    unfold swapO at e
    repeat' split at e
    all_goals first | (cases e; done) | (cases e; rfl)
section
variable {P : Program} {w : World} {K : PySem.W.Frag} {mg : Str → Option Value} {base : Heap}
theorem D_Breaks_init (T : Txt K mg) (F : Mf K "Breaks" "__init__" "Breaks.__init__" s_Breaks___init__) : DnMH P w K mg base CX0 1 (He.ma K (He.ga K "Breaks") "__init__") ["self", "number"] (spExcInit (He.ga K "Breaks") "number") := by
  refine F.dmH sc_Breaks___init__ (fun _ _ _ _ _ _ us hl => match us, hl with | [_, _], _ => rfl) (fun vs H Q E h => ?_) (fun f cdv A outer s H vs Q E p hot hr hK h => ?_)
  · obtain ⟨a, v, rfl, _⟩ := h
    rfl
  · obtain ⟨a, v, rfl, ha, k⟩ := h
    refine ⟨_, (pss_one (ps_ost (pv 0) (pv 1))), ?_⟩
    try rw [hK]
    exact ⟨v, rfl, .ref a, rfl, a, He.ga K "Breaks", rfl, T.ox_Breaks.toOexC, T.no_Breaks_number, .inl ⟨ha, fun dx hd hne => k dx hd hne⟩⟩
theorem D_look_through (T : Txt K mg) (D_Scene___init__ : DnM P w K mg base CX0 3 (He.ma K (He.ga K "Scene") "__init__") ["self", "folk", "pacts"] (spSceneInit K)) (D_Scene_befalls : DnM P w K mg base (L2N.CX P w) 4 (He.ma K (He.ga K "Scene") "befalls") ["self", "day", "deed"] (spBefalls K)) (D_in_order : Dn P w K mg base CX0 1 "in_order" ["told"] (spInOrder K))
    (D_Breaks___init__ : DnMH P w K mg base CX0 1 (He.ma K (He.ga K "Breaks") "__init__") ["self", "number"] (spExcInit (He.ga K "Breaks") "number")) (F : Df K mg "look_through" s_look_through) : Dn P w K mg base (L2.CX P w) 5 "look_through" ["folk", "pacts", "told", "fresh"] (spLook K) := by
  refine F.dnX sc_look_through (fun _ _ _ _ _ _ us hl => match us, hl with | [_, _, _, _], _ => rfl) (fun vs H Q E h => ?_) (fun f cdv A outer s0 H vs Q E hr hK h => ?_)
  · obtain ⟨fo, to, pa, fresh, Fo, Td, pc, o, Rs, rfl, _⟩ := h
    rfl
  · obtain ⟨fo, to, pa, fresh, Fo, Td, pc, o, Rs, rfl, S, nd, hlen, nd2, hlen2, hrun, k⟩ := h
    refine ⟨_, (pss_cons (ps_set (i := 4) sc_look_through.nd rfl (Or.inl rfl) (pe_mk T.mk_Scene D_Scene___init__ (hr.mono (by first | decide | omega)) pass0 T.g_Scene (pa_cons (pv 0) (pa_cons (pv 1) pa_nil))))
      (pss_one (ps_for (passes_of rfl) rfl (pi_list (pe_dn D_in_order (hr.mono (by first | decide | omega)) pass0 (pa_cons (pv 2) pa_nil))) (pg_tup rfl (pgs_cons (pg_name (i := 5) sc_look_through.nd rfl (Or.inl rfl)) (pgs_cons (pg_name (i := 6) sc_look_through.nd rfl (Or.inl rfl)) (pgs_cons (pg_name (i := 7) sc_look_through.nd rfl (Or.inl rfl)) pgs_nil)))) (pss_one (ps_try_again rfl rfl rfl ⟨rfl, by decide, .inl T.x_CartelError.g⟩ (L2H.passesAt_of rfl) (takes_of rfl rfl rfl rfl) (fun W pn xe tk tk2 tp => (pss_one (ps_expr (pe_mtS (pv 4) T.cl_Scene T.me_Scene_befalls D_Scene_befalls (hr.mono (by first | decide | omega)) (fun σ => L2N.passAt tk σ) (pa_cons (pv 5) (pa_cons (pv 7) pa_nil)))))) (fun a oe cls d pn hz hf tkS hot hre => (pss_cons (ps_if (pt_cmpR op_eq (pv 6) (pv 3) (nomark _)) (pss_one (hre _)) pss_nil)
      (pss_one (L2H.ps_raiseHN hot tkS (pmk5_oexHD T.ox_Breaks D_Breaks___init__ ((L2H.roomH_mark hr _).mono (by first | decide | omega)) hot pass0 T.g_Breaks (pa_cons (pv 6) pa_nil))))))))))), ?_⟩
    try rw [hK]
    rw [show L2.start N_look_through [.ref fo, .ref pa, .ref to, .int fresh] = [some (.ref fo), some (.ref pa), some (.ref to), some (.int fresh), none, none, none, none] from rfl]
    walk_at "sx"
    rename_i s dx H1 pk1 S1
    refine ⟨s, dx, fo, pa, Fo, _, rfl, S1.pick (Ss := cell s (.ins (CS K) dx []) :: dct fo (folkD Fo) :: dct to (toldD Td) :: dctT pa (pactD pc) :: Rs), nd, hlen, fun H2 pk2 S2 => ?_⟩
    clear S S1
    walk_at "sx"
    refine ⟨to, Td, _, rfl, S2.pick (Ss := dct to (toldD Td) :: scene K s ⟨crew0 Fo, [], pa⟩ :: dct fo (folkD Fo) :: dctT pa (pactD pc) :: Rs), nd2, hlen2, fun p ys T' H3 pT od pk3 S3 tr => ?_⟩
    replace hrun := hrun T' pT od
    clear S2
    walk_at "sx"
    refine x_forQ (walk_list (xs := ys)) (fun i σ H' => PK H3 H' ∧ (∃ v1 v2 v3 : Option V, σ = [some (.ref fo), some (.ref pa), some (.ref to), some (.int fresh), some (.ref s), v1, v2, v3]) ∧ ∃ ms0 du0, lookO pc fresh (T'.drop i) ⟨ms0, du0, pa⟩ = o ∧ Sat H' (scene K s ⟨ms0, du0, pa⟩ :: cell p (.lst ys) :: dct to (toldD Td) :: dct fo (folkD Fo) :: dctT pa (pactD pc) :: Rs)) ⟨PK.refl, ⟨_, _, _, rfl⟩, _, _, by rw [List.drop_zero]; exact hrun, pick⟩ (fun i σ H' _ h => ?_) (fun i x σ H4 H5 hi h y => ?_) (fun σ H4 h => ?_)
    · obtain ⟨_, _, _, _, _, S6⟩ := h
      exact SqL.of sat_at
    · obtain ⟨pk4, ⟨v1, v2, v3, rfl⟩, ms0, du0, hr0, S6⟩ := h
      obtain ⟨rfl, hx⟩ := y
      clear S3
      obtain ⟨t, q, n, d, xx, rfl, hT, ht, hq⟩ := tr.get hx
      have ht' := pk4.tup ht
      have hq' := hq.pk pk4
      have hd : T'.drop i = (n, d, xx) :: T'.drop (i + 1) := by
        obtain ⟨h1, h2⟩ := List.getElem?_eq_some_iff.mp hT
        rw [List.drop_eq_getElem_cons h1, h2]
      walk_at "sx"
      rw [hd] at hr0
      unfold lookO at hr0
      have S7 : Sat H5 (scene K s ⟨ms0, du0, pa⟩ :: dctT pa (pactD pc) :: cell p (.lst ys) :: dct to (toldD Td) :: dct fo (folkD Fo) :: Rs) := S6.pick
      clear S6
      refine ⟨s, q, d, xx, ⟨ms0, du0, pa⟩, pc, _, rfl, hq', S7, ?_⟩
      cases hf : fallS pc d xx ⟨ms0, du0, pa⟩ with
      | no =>
        simp only [hf] at hr0
        subst hr0
        exact k.elim
      | ok t1 =>
        simp only [hf] at hr0
        have et : t1.pa = pa := fall_pa hf
        obtain ⟨m1, d1, p1⟩ := t1
        have et : p1 = pa := et
        subst et
        intro H7 pk7 S8
        clear S7
        walk_at "sx"
        exact ⟨pk4.trans pk7, ⟨_, _, _, rfl⟩, _, _, hr0, S8.pick⟩
      | bad c =>
        simp only [hf] at hr0
        intro H7 pk7 S8
        clear S7
        refine ⟨true, T.kit1.kc _ (fall_cls hf), fun _ a ha => ?_, fun q => nomatch q⟩
        walk_at "sx"
        refine x_ifD (fun c1 => ?_) (fun c1 => ?_)
        · rw [if_pos c1] at hr0
          subst hr0
          exact k H7 (by walk_at "pk") S8.pick
        · rw [if_neg c1] at hr0
          subst hr0
          walk_at "sx"
          refine x_mkO fun dd H8 e8 hx => ?_
          have pk8 := PK.of_ex e8
          exact k H8 dd _ (by walk_at "pk") (S8.mono e8).pick hx
    · obtain ⟨pk4, ⟨v1, v2, v3, rfl⟩, ms0, du0, hr0, S6⟩ := h
      clear S3
      rw [tr.len, List.drop_length] at hr0
      cases hr0
      walk_at "sx"
      exact k _ (by walk_at "pk") pick
end

section

/-! ### steps over cartels -/
local macro_rules | `(tactic| walk_at "s1") => `(tactic| (first
  | ((with_reducible refine x_dnewP ?_); intro _ _ _ _)
  | ((with_reducible refine x_dictTS (pactD_few _) ?_); intro _ _ _ _)))
local macro_rules | `(tactic| walk_at "sx") => `(tactic| ((refine run ?_); (repeat (walk_at "s1"; (refine run ?_)))))

/-! ### good_tariff -/
abbrev s_good_tariff : Stmt := top 26
abbrev N_good_tariff : List Str := ["worths", "worth", "high", "low"]
theorem sc_good_tariff : FnScope N_good_tariff ["worths"] (defScope s_good_tariff) := ⟨rfl, rfl, rfl, by decide +kernel, rfl, by decide +kernel, by decide +kernel⟩

/-- what it answers -/
def goodT (ws : List Int) : Bool := decide (1 ≤ ws.length ∧ ws.length ≤ 6) && ws.all (fun w => decide (1 ≤ w ∧ w ≤ 10000)) && (List.range (ws.length - 1)).all fun i => decide (ws.getD (i + 1) 0 % ws.getD i 0 = 0)
def spGood (K : PySem.W.Frag) : Sp := fun vs H Q _ => ∃ (a : Addr) (ws : List Int), vs = [.ref a] ∧ SqL K H a (ws.map V.int) ∧ ∀ H', Ex H H' → Q (.bl (goodT ws)) H'
section
variable {P : Program} {w : World} {K : PySem.W.Frag} {mg : Str → Option Value} {base : Heap}
theorem D_good (T : Txt K mg) (F : Df K mg "good_tariff" s_good_tariff) : Dn P w K mg base CX0 1 "good_tariff" ["worths"] (spGood K) := by
  refine F.dn sc_good_tariff (fun _ _ _ _ _ _ us hl => match us, hl with | [_], _ => rfl) (fun vs H Q E h => ?_) (fun f cdv A outer s H vs Q E hr hK h => ?_)
  · obtain ⟨a, ws, rfl, _⟩ := h
    rfl
  · obtain ⟨a, ws, rfl, hS, k⟩ := h
    refine ⟨_, (pss_cons (ps_if (pt_not (pt_chain op_le op_le pe_int (pe_callB g_len rfl T.m_len boot_len (pa_cons (pv 0) pa_nil)) (pe_cst T.c_MOST_RANKS))) (pss_one (ps_ret pe_bl)) pss_nil)
      (pss_cons (ps_for PassesOwn.never rfl (pi_list (pv 0)) (pg_name (i := 1) sc_good_tariff.nd rfl (Or.inl rfl)) (pss_one (ps_if (pt_not (pt_chain op_le op_le pe_int (pv 1) (pe_cst T.c_MOST_WORTH))) (pss_one (ps_ret pe_bl)) pss_nil)))
      (pss_one (ps_ret (pe_callB (cr_all rfl) rfl T.m_all boot_all (pa_cons (pe_lc (own := [("low", 3), ("high", 2)]) (g := gTup K 2 (gCons (gName 3) (gCons (gName 2) (gNil)))) (tt := tYes) rfl sc_good_tariff.nd (pi_zip rfl T.m_zip (pa_cons (pv 0) (pa_cons (pe_slice sl_list (pv 0) (po_some pe_int) po_none) pa_nil))) (blkOk_by (own := [("low", 3), ("high", 2)]) (N := N_good_tariff) (sc := defScope s_good_tariff) (by decide +kernel)) (fun _ _ _ _ _ => pg_tup rfl (pgs_cons (pg_name (i := 3) sc_good_tariff.nd rfl (Or.inl rfl)) (pgs_cons (pg_name (i := 2) sc_good_tariff.nd rfl (Or.inl rfl)) pgs_nil))) (fun _ _ _ _ _ => pts_nil) (fun _ _ _ _ _ => (pe_cmpR op_eq (pe_op op_mod (pv 2) (pv 3)) pe_int (nomark _)))) pa_nil)))))), ?_⟩
    try rw [hK]
    rw [show L2.start N_good_tariff [.ref a] = [some (.ref a), none, none, none] from rfl]
    have hl : (ws.map V.int).length = ws.length := List.length_map _
    have no : ∀ H', Ex H H' → goodT ws = false → Q (.bl false) H' := fun H' e g => by rw [← g]; exact k H' e
    walk_at "sx"
    rw [hl]
    refine x_chD (fun c1 => ?_) (fun c1 => ?_)
    · walk_at "sx"
      refine x_ifN (fun c2 => ?_) (fun c2 => ?_)
      · -- the loop
        walk_at "sx"
        refine x_iLQ hS ?_
        refine x_forQ walk_list (fun i σ H' => H' = H ∧ (∀ (j : Nat) (z : Int), j < i → ws[j]? = some z → 1 ≤ z ∧ z ≤ 10000) ∧ ∃ v : Option V, σ = [some (.ref a), v, none, none]) ⟨rfl, fun j z h => absurd h (Nat.not_lt_zero j), none, rfl⟩ (fun i σ H' _ p => by rw [p.1]; exact hS) ?_ ?_
        · rintro i x σ H1 H2 hi ⟨rfl, hall, v, rfl⟩ ⟨rfl, hx⟩
          obtain ⟨z, rfl, hz⟩ := int_of hx
          walk_at "sx"
          have bad : ¬ (1 ≤ z ∧ z ≤ 10000) → goodT ws = false := fun hn => by
            have g : (ws.all fun w => decide (1 ≤ w ∧ w ≤ 10000)) = false := List.all_eq_false.mpr ⟨z, List.mem_of_getElem? hz, by simp [hn]⟩
            unfold goodT
            rw [g, Bool.and_false, Bool.false_and]
          refine x_chD (fun c3 => ?_) (fun c3 => ?_)
          · walk_at "sx"
            refine x_ifN (fun c4 => ?_) (fun c4 => ?_)
            · walk_at "sx"
              refine ⟨rfl, fun j y hj hy => ?_, _, rfl⟩
              rcases Nat.lt_succ_iff_lt_or_eq.mp hj with h | h
              · exact hall j y h hy
              · subst h
                rw [hz] at hy
                cases hy
                exact ⟨c3, c4⟩
            · walk_at "sx"
              exact no _ (Ex.refl _) (bad fun h => c4 h.2)
          · walk_at "sx"
            exact no _ (Ex.refl _) (bad fun h => c3 h.1)
        · rintro σ H' ⟨rfl, hall, v, rfl⟩
          rw [hl] at hall
          walk_at "sx"
          refine x_slL hS ?_
          intro q hq
          walk_at "sx"
          have hcut : cutV (ws.map V.int) (some 1) none = (ws.drop 1).map V.int := by
            rw [show (1 : Int) = ((1 : Nat) : Int) from rfl, cut_from, List.map_drop]
          rw [hcut]
          refine x_iZQ (ex_l (Ex.new hq) hS) (SqL.of upd_same) ?_
          have hall2 : ∀ w ∈ ws, 1 ≤ w ∧ w ≤ 10000 := fun w hw => by
            obtain ⟨j, hj, e⟩ := List.getElem_of_mem hw
            exact hall j w hj (by rw [List.getElem?_eq_getElem hj, e])
          have n1 : min (ws.map V.int).length ((ws.drop 1).map V.int).length = ws.length - 1 := by
            rw [List.length_map, List.length_map, List.length_drop]; omega
          refine x_lcMap (walk_zip n1.symm) (fun i => V.bl (decide (ws.getD (i + 1) 0 % ws.getD i 0 = 0))) ?hz (fun H3 e => ⟨ex_l e (ex_l (Ex.new hq) hS), ex_l e (SqL.of upd_same)⟩) ?turn ?grow ?done
          case hz => exact sz_of (by omega)
          case turn =>
            rintro D i x H1 H2 Nx hi e1 ⟨p, x1, y1, rfl, hp, rfl, h1, h2⟩ kk
            obtain ⟨u, rfl, hu⟩ := int_of h1
            obtain ⟨v2, rfl, hv⟩ := int_of h2
            rw [List.getElem?_drop, Nat.add_comm] at hv
            have u1 := hall2 u (List.mem_of_getElem? hu)
            walk_at "sx"
            have e0 : decide (v2 % u = 0) = decide (ws.getD (i + 1) 0 % ws.getD i 0 = 0) := by
              rw [List.getD_eq_getElem?_getD, List.getD_eq_getElem?_getD, hu, hv]; rfl
            rw [e0]
            exact kk _ (Ex.refl _)
          case grow =>
            rintro i x H1 H2 hi e1 ⟨p, x1, y1, rfl, hp, rfl, h1, h2⟩
            exact Ex.new hp
          case done =>
            intro D H' hD e hlD
            walk_at "sx"
            refine x_allMap hlD ?_
            have g : goodT ws = (List.range (ws.length - 1)).all fun i => decide (ws.getD (i + 1) 0 % ws.getD i 0 = 0) := by
              unfold goodT
              rw [decide_eq_true (show 1 ≤ ws.length ∧ ws.length ≤ 6 by omega), List.all_eq_true.mpr fun w hw => decide_eq_true (hall2 w hw)]
              rfl
            rw [← g]
            exact k _ ((Ex.new hq).trans e)
      · walk_at "sx"
        exact no _ (Ex.refl _) (by unfold goodT; rw [decide_eq_false (by omega)]; rfl)
    · walk_at "sx"
      exact no _ (Ex.refl _) (by unfold goodT; rw [decide_eq_false (by omega)]; rfl)
end

/-! ### deeds told to a book with a cartel, done or refused -/
abbrev s_pair_of : Stmt := top 47
abbrev N_pair_of : List Str := ["one", "other"]
theorem sc_pair_of : FnScope N_pair_of ["one", "other"] (defScope s_pair_of) := ⟨rfl, rfl, rfl, by decide +kernel, rfl, by decide +kernel, by decide +kernel⟩
abbrev s_Book_need_man : Stmt := inClass (top 48) 6
abbrev N_Book_need_man : List Str := ["self", "name"]
theorem sc_Book_need_man : FnScope N_Book_need_man ["self", "name"] (defScope s_Book_need_man) := ⟨rfl, rfl, rfl, by decide +kernel, rfl, by decide +kernel, by decide +kernel⟩
abbrev s_Book_need_day : Stmt := inClass (top 48) 12
abbrev N_Book_need_day : List Str := ["self", "day"]
theorem sc_Book_need_day : FnScope N_Book_need_day ["self", "day"] (defScope s_Book_need_day) := ⟨rfl, rfl, rfl, by decide +kernel, rfl, by decide +kernel, by decide +kernel⟩
abbrev s_Book_need_two : Stmt := inClass (top 48) 7
abbrev N_Book_need_two : List Str := ["self", "one", "other"]
theorem sc_Book_need_two : FnScope N_Book_need_two ["self", "one", "other"] (defScope s_Book_need_two) := ⟨rfl, rfl, rfl, by decide +kernel, rfl, by decide +kernel, by decide +kernel⟩
abbrev s_Book_need_cartel : Stmt := inClass (top 48) 8
abbrev N_Book_need_cartel : List Str := ["self", "one", "other"]
theorem sc_Book_need_cartel : FnScope N_Book_need_cartel ["self", "one", "other"] (defScope s_Book_need_cartel) := ⟨rfl, rfl, rfl, by decide +kernel, rfl, by decide +kernel, by decide +kernel⟩
abbrev s_Book_enter : Stmt := inClass (top 48) 13
abbrev N_Book_enter : List Str := ["self", "day", "deed", "number", "told"]
theorem sc_Book_enter : FnScope N_Book_enter ["self", "day", "deed"] (defScope s_Book_enter) := ⟨rfl, rfl, rfl, by decide +kernel, rfl, by decide +kernel, by decide +kernel⟩
abbrev s_Book_of_man : Stmt := inClass (top 48) 14
abbrev N_Book_of_man : List Str := ["self", "day", "deed"]
theorem sc_Book_of_man : FnScope N_Book_of_man ["self", "day", "deed"] (defScope s_Book_of_man) := ⟨rfl, rfl, rfl, by decide +kernel, rfl, by decide +kernel, by decide +kernel⟩
abbrev s_Book_take : Stmt := inClass (top 48) 15
abbrev N_Book_take : List Str := ["self", "day", "man", "side"]
theorem sc_Book_take : FnScope N_Book_take ["self", "day", "man", "side"] (defScope s_Book_take) := ⟨rfl, rfl, rfl, by decide +kernel, rfl, by decide +kernel, by decide +kernel⟩
abbrev s_Book_word : Stmt := inClass (top 48) 16
abbrev N_Book_word : List Str := ["self", "day", "man"]
theorem sc_Book_word : FnScope N_Book_word ["self", "day", "man"] (defScope s_Book_word) := ⟨rfl, rfl, rfl, by decide +kernel, rfl, by decide +kernel, by decide +kernel⟩
abbrev s_Book_die : Stmt := inClass (top 48) 19
abbrev N_Book_die : List Str := ["self", "day", "man"]
theorem sc_Book_die : FnScope N_Book_die ["self", "day", "man"] (defScope s_Book_die) := ⟨rfl, rfl, rfl, by decide +kernel, rfl, by decide +kernel, by decide +kernel⟩
abbrev s_Book_rank : Stmt := inClass (top 48) 20
abbrev N_Book_rank : List Str := ["self", "day", "man", "rank"]
theorem sc_Book_rank : FnScope N_Book_rank ["self", "day", "man", "rank"] (defScope s_Book_rank) := ⟨rfl, rfl, rfl, by decide +kernel, rfl, by decide +kernel, by decide +kernel⟩
abbrev s_Book_swap : Stmt := inClass (top 48) 21
abbrev N_Book_swap : List Str := ["self", "day", "one", "other", "ones", "others", "names", "name"]
theorem sc_Book_swap : FnScope N_Book_swap ["self", "day", "one", "other", "ones", "others"] (defScope s_Book_swap) := ⟨rfl, rfl, rfl, by decide +kernel, rfl, by decide +kernel, by decide +kernel⟩
abbrev s_Book_redate : Stmt := inClass (top 48) 23
abbrev N_Book_redate : List Str := ["self", "number", "day", "told"]
theorem sc_Book_redate : FnScope N_Book_redate ["self", "number", "day"] (defScope s_Book_redate) := ⟨rfl, rfl, rfl, by decide +kernel, rfl, by decide +kernel, by decide +kernel⟩
abbrev s_Book_cartel : Stmt := inClass (top 48) 11
abbrev N_Book_cartel : List Str := ["self", "one", "other", "worths", "limit", "pacts"]
theorem sc_Book_cartel : FnScope N_Book_cartel ["self", "one", "other", "worths", "limit"] (defScope s_Book_cartel) := ⟨rfl, rfl, rfl, by decide +kernel, rfl, by decide +kernel, by decide +kernel⟩
abbrev s_Book_deeds : Stmt := inClass (top 48) 29
abbrev N_Book_deeds : List Str := ["self", "day", "deed", "number"]
theorem sc_Book_deeds : FnScope N_Book_deeds ["self"] (defScope s_Book_deeds) := ⟨rfl, rfl, rfl, by decide +kernel, rfl, by decide +kernel, by decide +kernel⟩
abbrev s_Book_cartels : Stmt := inClass (top 48) 28
abbrev N_Book_cartels : List Str := ["self", "pair"]
theorem sc_Book_cartels : FnScope N_Book_cartels ["self"] (defScope s_Book_cartels) := ⟨rfl, rfl, rfl, by decide +kernel, rfl, by decide +kernel, by decide +kernel⟩

section
variable {K : PySem.W.Frag} {H : Hp} {Rs T T2 : List Res} {F F2 : Res → List Res} {p q : Addr} {xs ys : List V} {Q : VK}
theorem x_catS [S : Sat H Rs] [f : Foc cell p (.lst xs) Rs T F] [f2 : Foc cell q (.lst ys) Rs T2 F2] (hz : xs.length + ys.length ≤ sizeLine) (k : ∀ l H', PK H H' → Sat H' (cell l (.lst (xs ++ ys)) :: Rs) → Q (.ref l) H') : rCat (.ref p) (.ref q) H Q :=
  ⟨p, q, xs, ys, rfl, rfl, S.at_, S.at_, hz, fun l hl => k l _ (PK.of_ex (Ex.new hl)) (S.new hl)⟩
theorem x_listS [S : Sat H Rs] [f : Foc cell p (.lst xs) Rs T F] (k : ∀ l H', PK H H' → Sat H' (cell l (.lst xs) :: Rs) → Q (.ref l) H') : rListOf K [.ref p] H Q :=
  x_listL (SqL.of S.at_) fun l hl => k l _ (PK.of_ex (Ex.new hl)) (S.new hl)
theorem x_tupleS [S : Sat H Rs] [f : Foc cell p (.lst xs) Rs T F] (k : ∀ l H', PK H H' → Sat H' Rs → H' l = some (.tup xs) → Q (.ref l) H') : rTupOf K [.ref p] H Q :=
  ⟨p, xs, rfl, .inl ⟨SqL.of S.at_, fun l hl => k l _ (PK.of_ex (Ex.new hl)) (S.mono (Ex.new hl)) upd_same⟩⟩
end
def LookAt (F : FolkL) (Td : Told) (pc : Option Pact) (fresh : Int) (o : LOut) : Prop := (F.map fun f => f.1).Nodup ∧ F.length ≤ 1000 ∧ (Td.map fun t => t.1).Nodup ∧ Td.length ≤ 1000 ∧ ∀ (pa : Addr) (T' : Told), T'.Perm Td → inOrd T' → lookO pc fresh T' ⟨crew0 F, [], pa⟩ = o
/-- a book behind, or the refusal -/
def BFin (K : PySem.W.Frag) (b : Addr) (B B' : Bk) (Rs : List Res) (v : V) (H : Hp) (Q : VK) (E : XK) : LOut → Prop
  | .ok => ∀ H', PK H H' → Sat H' (book (CB K) b B' :: Rs) → Q v H'
  | .bad c => ∀ H', PK H H' → Sat H' (book (CB K) b B :: Rs) → E (.ref (He.ga K c)) none H'
  | .brk => ∀ H' dd fs, PK H H' → Sat H' (book (CB K) b B :: Rs) → H' dd = some (.xd fs) → E (.ref (He.ga K "Breaks")) (some dd) H'
  | .no => False
theorem bfin_of {K : PySem.W.Frag} {b : Addr} {B B' : Bk} {Rs : List Res} {v : V} {H H1 : Hp} {Q Q' : VK} {E : XK} {o : LOut} (h : BFin K b B B' Rs v H Q E o) (pk : PK H H1) (m : ∀ H', Q v H' → Q' v H') : BFin K b B B' Rs v H1 Q' E o := by
  cases o with
  | ok => exact fun H' pk2 S => m H' (h H' (pk.trans pk2) S)
  | bad c => exact fun H' pk2 S => h H' (pk.trans pk2) S
  | brk => exact fun H' dd fs pk2 S e => h H' dd fs (pk.trans pk2) S e
  | no => exact h
theorem hasD_told {n : Int} {Td : Told} : hasD (toldD Td) (.inl n) = Td.any fun t => decide (t.1 = n) := by
  unfold hasD toldD
  rw [List.any_map]
  congr 1
  funext t
  show decide ((Sum.inl t.1 : Key) = Sum.inl n) = _
  by_cases c : t.1 = n
  · rw [decide_eq_true c, decide_eq_true (congrArg Sum.inl c)]
  · rw [decide_eq_false c, decide_eq_false (fun e => c (Sum.inl.inj e))]
theorem enterD {n day : Int} {x : Dd} {Td : Told} (nd : ((Td ++ [(n, day, x)]).map fun t => t.1).Nodup) : putD (toldD Td) (.inl n) (.tuple [.int day, .tuple x.ds]) = toldD (Td ++ [(n, day, x)]) := by
  have h : hasD (toldD Td) (.inl n) = false := by
    rw [hasD_told]
    refine List.any_eq_false.mpr fun t ht => ?_
    intro c
    have c := of_decide_eq_true c
    rw [List.map_append, List.nodup_append] at nd
    exact nd.2.2 t.1 (List.mem_map.mpr ⟨t, ht, rfl⟩) n (by simp) c
  unfold putD
  rw [h, if_neg Bool.false_ne_true]
  unfold toldD
  rw [List.map_append]
  rfl
theorem told_at {n d : Int} {x : Dd} {Td : Told} (nd : (Td.map fun t => t.1).Nodup) (h : (n, d, x) ∈ Td) : ∀ t ∈ Td, t.1 = n → t = (n, d, x) := by
  intro t ht e
  obtain ⟨i, hi⟩ := List.getElem?_of_mem h
  obtain ⟨j, hj⟩ := List.getElem?_of_mem ht
  have a1 : (Td.map fun t => t.1)[i]? = some n := by rw [List.getElem?_map, hi]; rfl
  have a2 : (Td.map fun t => t.1)[j]? = some n := by rw [List.getElem?_map, hj]; exact congrArg some e
  have eij := (List.getElem?_inj (List.getElem?_eq_some_iff.mp a1).1 nd).mp (a1.trans a2.symm)
  subst eij
  exact Option.some.inj (hj.symm.trans hi)
theorem valD_told {n d : Int} {x : Dd} {Td : Told} (nd : (Td.map fun t => t.1).Nodup) (h : (n, d, x) ∈ Td) : valD (toldD Td) (.inl n) = some (.tuple [.int d, .tuple x.ds]) := by
  have h1 : hasD (toldD Td) (.inl n) = true := by
    rw [hasD_told]
    exact List.any_eq_true.mpr ⟨_, h, decide_eq_true rfl⟩
  obtain ⟨e, he⟩ := hasD_val h1
  rw [he]
  unfold valD at he
  cases hf : (toldD Td).find? (fun kv => decide (kv.1 = Sum.inl n)) with
  | none => rw [hf] at he; cases he
  | some u =>
    rw [hf] at he
    have m1 := List.mem_of_find?_eq_some hf
    have m2 : u.1 = Sum.inl n := of_decide_eq_true (List.find?_some (p := fun kv : Key × PyData => decide (kv.1 = Sum.inl n)) hf)
    unfold toldD at m1
    obtain ⟨t, m3, rfl⟩ := List.mem_map.mp m1
    have m4 := told_at nd h t m3 (Sum.inl.inj m2)
    subst m4
    exact he.symm
def entered (B : Bk) (Td : Told) (day : Int) (x : Dd) : Bk := ⟨{ B.st with told := toldD (Td ++ [(B.st.later, day, x)]), later := B.st.later + 1 }, B.past ++ [B.st], []⟩

def spEnter (K : PySem.W.Frag) : Sp := fun vs H Q E => ∃ (b q : Addr) (day : Int) (x : Dd) (B : Bk) (F : FolkL) (Td : Told) (o : LOut) (Rs : List Res), vs = [.ref b, .int day, .ref q] ∧ Tp H (.ref q) (.tuple x.ds) ∧ Sat H (book (CB K) b B :: Rs) ∧ B.st.folk = folkD F ∧ B.st.told = toldD Td ∧ B.past.length < sizeLine ∧ Td.length < 120 ∧
  LookAt F (Td ++ [(B.st.later, day, x)]) B.st.pacts B.st.later o ∧ BFin K b B (entered B Td day x) Rs (.int B.st.later) H Q E o
section
variable {P : Program} {w : World} {K : PySem.W.Frag} {mg : Str → Option Value} {base : Heap}
theorem D_Book_enter (T : Txt K mg) (D_look_through : Dn P w K mg base (L2.CX P w) 5 "look_through" ["folk", "pacts", "told", "fresh"] (spLook K)) (D_Book_keep : DnM P w K mg base CX0 2 (He.ma K (He.ga K "Book") "keep") ["self"] (spKeep K)) (F : Mf K "Book" "enter" "Book.enter" s_Book_enter) : DnM P w K mg base (L2.CX P w) 6 (He.ma K (He.ga K "Book") "enter") ["self", "day", "deed"] (spEnter K) := by
  refine F.dmX sc_Book_enter (fun _ _ _ _ _ _ us hl => match us, hl with | [_, _, _], _ => rfl) (fun vs H Q E h => ?_) (fun f cdv A outer s H vs Q E hr hK h => ?_)
  · obtain ⟨b, q, day, x, B, Fo, Td, o, Rs, rfl, _⟩ := h
    rfl
  · obtain ⟨b, q, day, x, ⟨⟨si, fk, pc, tl, la⟩, past, fut⟩, Fo, Td, o, Rs, rfl, hq, S, e1, e2, hz, hl, lk, k⟩ := h
    have e1 : fk = folkD Fo := e1
    have e2 : tl = toldD Td := e2
    subst e1 e2
    refine ⟨_, (pss_cons (ps_if (pt_cmpR op_ge (pe_callB g_lenD rfl T.m_len boot_len (pa_cons (pe_fldC T.cl_Book T.n_Book_told (pv 0) rfl) pa_nil)) (pe_cst T.c_MOST_DEEDS) (nomark _)) (pss_one (ps_raise rfl (takes_of rfl rfl rfl rfl) (pmk_own PySem.F.excBase_ValueError T.x_Full.xi T.x_Full.g T.x_Full.k (raises_own T.x_Full.b T.x_Full.t) rfl))) pss_nil)
      (pss_cons (ps_set (i := 3) sc_Book_enter.nd rfl (Or.inl rfl) (pe_fldC T.cl_Book T.n_Book_later (pv 0) rfl))
      (pss_cons (ps_set (i := 4) sc_Book_enter.nd rfl (Or.inl rfl) (pe_callTy g_dictD rfl T.m_dict boot_dict (pa_cons (pe_fldC T.cl_Book T.n_Book_told (pv 0) rfl) pa_nil)))
      (pss_cons (ps_dput (hu_of hr) (pv 4) (pv 3) (pe_tup (pa_cons (pv 1) (pa_cons (pv 2) pa_nil))) rfl)
      (pss_cons (ps_expr (pe_dn D_look_through (hr.mono (by first | decide | omega)) passX (pa_cons (pe_fldC T.cl_Book T.n_Book_folk (pv 0) rfl) (pa_cons (pe_fldC T.cl_Book T.n_Book_pacts (pv 0) rfl) (pa_cons (pv 4) (pa_cons (pv 3) pa_nil))))))
      (pss_cons (ps_expr (pe_mt0 (pv 0) T.cl_Book T.me_Book_keep D_Book_keep (hr.mono (by first | decide | omega)) pass0))
      (pss_cons (ps_fldC T.cl_Book T.n_Book_told (pv 0) (pv 4) rfl)
      (pss_cons (ps_fldC T.cl_Book T.n_Book_later (pv 0) (pe_op op_add (pv 3) pe_int) rfl)
      (pss_one (ps_ret (pv 3))))))))))), ?_⟩
    try rw [hK]
    rw [show L2.start N_Book_enter [.ref b, .int day, .ref q] = [some (.ref b), some (.int day), some (.ref q), none, none] from rfl]
    obtain ⟨dx, ba, fo, pa, to, ps, fu, S1⟩ := S.bookE
    have hlt : (toldD Td).length = Td.length := by unfold toldD; rw [List.length_map]
    clear S
    walk_at "sx"
    rw [hlt]
    refine x_ifD (fun c => absurd c (by omega)) (fun c => ?_)
    walk_at "sx"
    rename_i to2 H2 pk2 S2 tq H3 pk3 S3 hq3
    clear S1 S2
    refine x_dp (d := .tuple [.int day, .tuple x.ds]) (by rw [hlt, sizeLine_eq]; omega) (.tup hq3 (.cons (.int _) (.cons (hq.pk (pk2.trans pk3)) .nil))) fun H4 pk4 S4 => ?_
    clear S3
    obtain ⟨l1, l2, l3, l5, l6⟩ := lk
    rw [enterD l3] at S4
    walk_at "sx"
    refine ⟨fo, to2, pa, _, Fo, _, pc, o, _, rfl, S4.pick (Ss := dct fo (folkD Fo) :: dct to2 (toldD (Td ++ [(la, day, x)])) :: dctT pa (pactD pc) :: cell b (.ins (CB K) dx (fsBook (.ref ba) (.ref fo) (.ref pa) (.ref to) (.int la) (.ref ps) (.ref fu))) :: dct ba si :: dct to (toldD Td) :: lsts ps past :: lsts fu fut :: Rs), l1, l2, l3, l5, l6 pa, ?_⟩
    clear S4
    cases o with
    | no => exact k.elim
    | bad c =>
      intro H5 pk5 S5
      exact k H5 (by walk_at "pk") (bookC (C := CB K) (b := b)).pick
    | brk =>
      intro H5 dd fs pk5 S5 hx
      exact k H5 dd fs (by walk_at "pk") (bookC (C := CB K) (b := b)).pick hx
    | ok =>
      intro H5 pk5 S5
      have S6 := bookC (H := H5) (C := CB K) (b := b)
      clear S5
      walk_at "sx"
      refine ⟨b, ⟨⟨si, folkD Fo, pc, toldD Td, la⟩, past, fut⟩, _, rfl, S6, hz, fun H7 pk7 S7 => ?_⟩
      clear S6
      obtain ⟨dx, ba, fo, pa, to, ps, fu, S8⟩ := S7.bookE
      clear S7
      walk_at "sx"
      refine k _ (by walk_at "pk") ?_
      show Sat _ (book (CB K) b ⟨⟨si, folkD Fo, pc, toldD (Td ++ [(la, day, x)]), la + 1⟩, past ++ [⟨si, folkD Fo, pc, toldD Td, la⟩], []⟩ :: Rs)
      exact (bookC (C := CB K) (b := b)).pick
end
def spNeedManX (K : PySem.W.Frag) : Sp := fun vs H Q E => ∃ (b : Addr) (n : Str) (B : Bk) (Rs : List Res), vs = [.ref b, .str n] ∧ Sat H (book (CB K) b B :: Rs) ∧ (hasD B.st.folk (.inr n) = true → Q .non H) ∧ (hasD B.st.folk (.inr n) = false → E (.ref (He.ga K "NoMan")) none H)
def spNeedDayX (K : PySem.W.Frag) : Sp := fun vs H Q E => ∃ (b : Addr) (d : Int), vs = [.ref b, .int d] ∧ (0 ≤ d ∧ d ≤ 1000000 → Q .non H) ∧ (¬ (0 ≤ d ∧ d ≤ 1000000) → E (.ref (He.ga K "BadDay")) none H)

abbrev dayOk (d : Int) : Prop := 0 ≤ d ∧ d ≤ 1000000
def OneAt (t : BSt) (F : FolkL) (Td : Told) (day : Int) (x : Deed) (o : LOut) : Prop := if dayOk day then (if hasD t.folk (.inr x.man) = true then Td.length < 120 ∧ LookAt F (Td ++ [(t.later, day, .one x)]) t.pacts t.later o else o = .bad "NoMan") else o = .bad "BadDay"
def TakeAt (t : BSt) (F : FolkL) (Td : Told) (day : Int) (n sd : Str) (o : LOut) : Prop := if dayOk day then (if hasD t.folk (.inr n) = true then (if hasD t.sides (.inr sd) = true then Td.length < 120 ∧ LookAt F (Td ++ [(t.later, day, .one (.take n sd))]) t.pacts t.later o else o = .bad "NoSide") else o = .bad "NoMan") else o = .bad "BadDay"
def RankAt (t : BSt) (F : FolkL) (Td : Told) (day : Int) (n : Str) (r : Int) (o : LOut) : Prop := if dayOk day then (if hasD t.folk (.inr n) = true then (if 0 ≤ r ∧ r < 6 then Td.length < 120 ∧ LookAt F (Td ++ [(t.later, day, .one (.rank n r))]) t.pacts t.later o else o = .bad "BadRank") else o = .bad "NoMan") else o = .bad "BadDay"
def twoOut (t : BSt) (x y : Str) : Str := if hasD t.sides (.inr x) = true then (if hasD t.sides (.inr y) = true then (if x = y then "Own" else "") else "NoSide") else "NoSide"
def cartOut (t : BSt) (x y : Str) : Str := if twoOut t x y = "" then (if hasT (pactD t.pacts) (prK x y) = true then "" else "NoCartel") else twoOut t x y
def SwapAt (t : BSt) (F : FolkL) (Td : Told) (day : Int) (x y : Str) (os ot : List Str) (o : LOut) : Prop := if dayOk day then (if cartOut t x y = "" then (if os ++ ot = [] then o = .bad "NoMen" else if (os ++ ot).all (fun n => hasD t.folk (.inr n)) = true then (if (metS (os ++ ot)).length < (os ++ ot).length then o = .bad "Twice" else Td.length < 120 ∧ LookAt F (Td ++ [(t.later, day, .swap x y os ot)]) t.pacts t.later o) else o = .bad "NoMan") else o = .bad (cartOut t x y)) else o = .bad "BadDay"
def CartAt (t : BSt) (F : FolkL) (Td : Told) (x y : Str) (ws : List Int) (lim : Int) (o : LOut) : Prop := if twoOut t x y = "" then (if ws.length = 6 ∧ goodT ws = true then (if 0 ≤ lim ∧ lim ≤ 1000000 then (∀ p, t.pacts = some p → p.a = minS x y ∧ p.b = maxS x y) ∧ LookAt F Td (some ⟨minS x y, maxS x y, ws, lim⟩) 0 o else o = .bad "BadLimit") else o = .bad "BadTariff") else o = .bad (twoOut t x y)
def spPair : Sp := fun vs H Q _ => ∃ x y : Str, vs = [.str x, .str y] ∧ ∀ p H', Ex H H' → H' p = some (.tup [.str (minS x y), .str (maxS x y)]) → Q (.ref p) H'
def spNeedTwo (K : PySem.W.Frag) : Sp := fun vs H Q E => ∃ (b : Addr) (x y : Str) (B : Bk) (Rs : List Res), vs = [.ref b, .str x, .str y] ∧ Sat H (book (CB K) b B :: Rs) ∧ (twoOut B.st x y = "" → Q .non H) ∧ (twoOut B.st x y ≠ "" → E (.ref (He.ga K (twoOut B.st x y))) none H)
def spNeedCartel (K : PySem.W.Frag) : Sp := fun vs H Q E => ∃ (b : Addr) (x y : Str) (B : Bk) (Rs : List Res), vs = [.ref b, .str x, .str y] ∧ Sat H (book (CB K) b B :: Rs) ∧ (cartOut B.st x y = "" → ∀ H', Ex H H' → Q .non H') ∧ (cartOut B.st x y ≠ "" → ∀ H', Ex H H' → E (.ref (He.ga K (cartOut B.st x y))) none H')
def spOfMan (K : PySem.W.Frag) : Sp := fun vs H Q E => ∃ (b q : Addr) (day : Int) (x : Deed) (B : Bk) (F : FolkL) (Td : Told) (o : LOut) (Rs : List Res), vs = [.ref b, .int day, .ref q] ∧ H q = some (.tup x.xs) ∧ Sat H (book (CB K) b B :: Rs) ∧ B.st.folk = folkD F ∧ B.st.told = toldD Td ∧ B.past.length < sizeLine ∧ OneAt B.st F Td day x o ∧ BFin K b B (entered B Td day (.one x)) Rs (.int B.st.later) H Q E o
def spOne (K : PySem.W.Frag) (mk : Str → Deed) : Sp := fun vs H Q E => ∃ (b : Addr) (day : Int) (n : Str) (B : Bk) (F : FolkL) (Td : Told) (o : LOut) (Rs : List Res), vs = [.ref b, .int day, .str n] ∧ Sat H (book (CB K) b B :: Rs) ∧ B.st.folk = folkD F ∧ B.st.told = toldD Td ∧ B.past.length < sizeLine ∧ OneAt B.st F Td day (mk n) o ∧ BFin K b B (entered B Td day (.one (mk n))) Rs (.int B.st.later) H Q E o
def spTakeB (K : PySem.W.Frag) : Sp := fun vs H Q E => ∃ (b : Addr) (day : Int) (n sd : Str) (B : Bk) (F : FolkL) (Td : Told) (o : LOut) (Rs : List Res), vs = [.ref b, .int day, .str n, .str sd] ∧ Sat H (book (CB K) b B :: Rs) ∧ B.st.folk = folkD F ∧ B.st.told = toldD Td ∧ B.past.length < sizeLine ∧ TakeAt B.st F Td day n sd o ∧ BFin K b B (entered B Td day (.one (.take n sd))) Rs (.int B.st.later) H Q E o
def spRank (K : PySem.W.Frag) : Sp := fun vs H Q E => ∃ (b : Addr) (day : Int) (n : Str) (r : Int) (B : Bk) (F : FolkL) (Td : Told) (o : LOut) (Rs : List Res), vs = [.ref b, .int day, .str n, .int r] ∧ Sat H (book (CB K) b B :: Rs) ∧ B.st.folk = folkD F ∧ B.st.told = toldD Td ∧ B.past.length < sizeLine ∧ RankAt B.st F Td day n r o ∧ BFin K b B (entered B Td day (.one (.rank n r))) Rs (.int B.st.later) H Q E o
theorem xs_tp {H : Hp} {q : Addr} {x : Deed} (h : H q = some (.tup x.xs)) : Tp H (.ref q) (.tuple x.ds) := by
  cases x <;> exact .tup h (by first | exact .cons (.str _) (.cons (.str _) (.cons (.str _) .nil)) | exact .cons (.str _) (.cons (.str _) .nil) | exact .cons (.str _) (.cons (.str _) (.cons (.int _) .nil)))
section
variable {P : Program} {w : World} {K : PySem.W.Frag} {mg : Str → Option Value} {base : Heap}
theorem D_Book_need_man (T : Txt K mg) (F : Mf K "Book" "need_man" "Book.need_man" s_Book_need_man) : DnM P w K mg base (L2.CX P w) 1 (He.ma K (He.ga K "Book") "need_man") ["self", "name"] (spNeedManX K) := by
  refine F.dmX sc_Book_need_man (fun _ _ _ _ _ _ us hl => match us, hl with | [_, _], _ => rfl) (fun vs H Q E h => ?_) (fun f cdv A outer s H vs Q E hr hK h => ?_)
  · obtain ⟨b, n, B, Rs, rfl, _⟩ := h
    rfl
  · obtain ⟨b, n, B, Rs, rfl, S, yes, no⟩ := h
    refine ⟨_, (pss_one (ps_if (pt_cmp (pc_dnotin (hu_of hr) (pv 1) (pe_fldC T.cl_Book T.n_Book_folk (pv 0) rfl))) (pss_one (ps_raise rfl (takes_of rfl rfl rfl rfl) (pmk_own PySem.F.excBase_ValueError T.x_NoMan.xi T.x_NoMan.g T.x_NoMan.k (raises_own T.x_NoMan.b T.x_NoMan.t) rfl))) pss_nil)), ?_⟩
    try rw [hK]
    rw [show L2.start N_Book_need_man [.ref b, .str n] = [some (.ref b), some (.str n)] from rfl]
    obtain ⟨dx, ba, fo, pa, to, ps, fu, S1⟩ := S.bookE
    walk_at "sx"
    cases c : hasD B.st.folk (.inr n) with
    | true =>
      refine x_ifF ?_
      walk_at "sx"
      exact yes c
    | false =>
      refine x_ifT ?_
      exact no c
theorem D_Book_need_day (T : Txt K mg) (F : Mf K "Book" "need_day" "Book.need_day" s_Book_need_day) : DnM P w K mg base (L2.CX P w) 1 (He.ma K (He.ga K "Book") "need_day") ["self", "day"] (spNeedDayX K) := by
  refine F.dmX sc_Book_need_day (fun _ _ _ _ _ _ us hl => match us, hl with | [_, _], _ => rfl) (fun vs H Q E h => ?_) (fun f cdv A outer s H vs Q E hr hK h => ?_)
  · obtain ⟨b, d, rfl, _⟩ := h
    rfl
  · obtain ⟨b, d, rfl, yes, no⟩ := h
    refine ⟨_, (pss_one (ps_if (pt_not (pt_chain op_le op_le pe_int (pv 1) (pe_cst T.c_LAST_DAY))) (pss_one (ps_raise rfl (takes_of rfl rfl rfl rfl) (pmk_own PySem.F.excBase_ValueError T.x_BadDay.xi T.x_BadDay.g T.x_BadDay.k (raises_own T.x_BadDay.b T.x_BadDay.t) rfl))) pss_nil)), ?_⟩
    try rw [hK]
    rw [show L2.start N_Book_need_day [.ref b, .int d] = [some (.ref b), some (.int d)] from rfl]
    walk_at "sx"
    refine x_chD (fun r0 => ?_) (fun r0 => ?_)
    · walk_at "sx"
      refine x_ifN (fun r1 => ?_) (fun r1 => ?_)
      · walk_at "sx"
        exact yes ⟨r0, r1⟩
      · exact no fun z => r1 z.2
    · walk_at "sx"
      exact no fun z => r0 z.1
theorem D_pair_of (T : Txt K mg) (F : Df K mg "pair_of" s_pair_of) : Dn P w K mg base CX0 1 "pair_of" ["one", "other"] spPair := by
  refine F.dn sc_pair_of (fun _ _ _ _ _ _ us hl => match us, hl with | [_, _], _ => rfl) (fun vs H Q E h => ?_) (fun f cdv A outer s H vs Q E hr hK h => ?_)
  · obtain ⟨x, y, rfl, _⟩ := h
    rfl
  · obtain ⟨x, y, rfl, k⟩ := h
    refine ⟨_, (pss_one (ps_ret (pe_tup (pa_cons (pe_callB (g_minS rfl) rfl T.m_min boot_min (pa_cons (pv 0) (pa_cons (pv 1) pa_nil))) (pa_cons (pe_callB (g_maxS rfl) rfl T.m_max boot_max (pa_cons (pv 0) (pa_cons (pv 1) pa_nil))) pa_nil))))), ?_⟩
    try rw [hK]
    rw [show L2.start N_pair_of [.str x, .str y] = [some (.str x), some (.str y)] from rfl]
    walk_at "sx"
    intro p hp
    exact k p _ (Ex.new hp) upd_same
theorem D_Book_need_two (T : Txt K mg) (D_Book_need_side : DnM P w K mg base (L2.CX P w) 1 (He.ma K (He.ga K "Book") "need_side") ["self", "name"] (spNeedSideX K)) (F : Mf K "Book" "need_two" "Book.need_two" s_Book_need_two) : DnM P w K mg base (L2.CX P w) 2 (He.ma K (He.ga K "Book") "need_two") ["self", "one", "other"] (spNeedTwo K) := by
  refine F.dmX sc_Book_need_two (fun _ _ _ _ _ _ us hl => match us, hl with | [_, _, _], _ => rfl) (fun vs H Q E h => ?_) (fun f cdv A outer s H vs Q E hr hK h => ?_)
  · obtain ⟨b, x, y, B, Rs, rfl, _⟩ := h
    rfl
  · obtain ⟨b, x, y, B, Rs, rfl, S, yes, no⟩ := h
    unfold twoOut at yes no
    refine ⟨_, (pss_cons (ps_expr (pe_mt (pv 0) T.cl_Book T.me_Book_need_side D_Book_need_side (hr.mono (by first | decide | omega)) passX (pa_cons (pv 1) pa_nil)))
      (pss_cons (ps_expr (pe_mt (pv 0) T.cl_Book T.me_Book_need_side D_Book_need_side (hr.mono (by first | decide | omega)) passX (pa_cons (pv 2) pa_nil)))
      (pss_one (ps_if (pt_cmpR op_eq (pv 1) (pv 2) (nomark _)) (pss_one (ps_raise rfl (takes_of rfl rfl rfl rfl) (pmk_own PySem.F.excBase_ValueError T.x_Own.xi T.x_Own.g T.x_Own.k (raises_own T.x_Own.b T.x_Own.t) rfl))) pss_nil)))), ?_⟩
    try rw [hK]
    rw [show L2.start N_Book_need_two [.ref b, .str x, .str y] = [some (.ref b), some (.str x), some (.str y)] from rfl]
    walk_at "sx"
    refine ⟨b, x, B, Rs, rfl, S, fun c1 => ?_, fun c1 => ?_⟩
    · rw [if_pos c1] at yes no
      walk_at "sx"
      refine ⟨b, y, B, Rs, rfl, S, fun c2 => ?_, fun c2 => ?_⟩
      · rw [if_pos c2] at yes no
        walk_at "sx"
        refine x_ifD (fun c3 => ?_) (fun c3 => ?_)
        · rw [if_pos c3] at no
          exact no (by decide)
        · rw [if_neg c3] at yes
          walk_at "sx"
          exact yes rfl
      · rw [if_neg (by rw [c2]; exact Bool.false_ne_true)] at no
        exact no (by decide)
    · rw [if_neg (by rw [c1]; exact Bool.false_ne_true)] at no
      exact no (by decide)
theorem D_Book_need_cartel (T : Txt K mg) (D_Book_need_two : DnM P w K mg base (L2.CX P w) 2 (He.ma K (He.ga K "Book") "need_two") ["self", "one", "other"] (spNeedTwo K)) (D_pair_of : Dn P w K mg base CX0 1 "pair_of" ["one", "other"] spPair) (F : Mf K "Book" "need_cartel" "Book.need_cartel" s_Book_need_cartel) : DnM P w K mg base (L2.CX P w) 3 (He.ma K (He.ga K "Book") "need_cartel") ["self", "one", "other"] (spNeedCartel K) := by
  refine F.dmX sc_Book_need_cartel (fun _ _ _ _ _ _ us hl => match us, hl with | [_, _, _], _ => rfl) (fun vs H Q E h => ?_) (fun f cdv A outer s H vs Q E hr hK h => ?_)
  · obtain ⟨b, x, y, B, Rs, rfl, _⟩ := h
    rfl
  · obtain ⟨b, x, y, B, Rs, rfl, S, yes, no⟩ := h
    unfold cartOut at yes no
    refine ⟨_, (pss_cons (ps_expr (pe_mt (pv 0) T.cl_Book T.me_Book_need_two D_Book_need_two (hr.mono (by first | decide | omega)) passX (pa_cons (pv 1) (pa_cons (pv 2) pa_nil))))
      (pss_one (ps_if (pt_cmp (pc_dnotin (hu_of hr) (pe_dn D_pair_of (hr.mono (by first | decide | omega)) pass0 (pa_cons (pv 1) (pa_cons (pv 2) pa_nil))) (pe_fldC T.cl_Book T.n_Book_pacts (pv 0) rfl))) (pss_one (ps_raise rfl (takes_of rfl rfl rfl rfl) (pmk_own PySem.F.excBase_ValueError T.x_NoCartel.xi T.x_NoCartel.g T.x_NoCartel.k (raises_own T.x_NoCartel.b T.x_NoCartel.t) rfl))) pss_nil))), ?_⟩
    try rw [hK]
    rw [show L2.start N_Book_need_cartel [.ref b, .str x, .str y] = [some (.ref b), some (.str x), some (.str y)] from rfl]
    walk_at "sx"
    refine ⟨b, x, y, B, Rs, rfl, S, fun c1 => ?_, fun c1 => ?_⟩
    · rw [if_pos c1] at yes no
      walk_at "sx"
      refine ⟨x, y, rfl, fun p H1 e1 hp => ?_⟩
      have S1 := S.mono e1
      clear S
      obtain ⟨dx, ba, fo, pa, to, ps, fu, S2⟩ := S1.bookE
      clear S1
      walk_at "sx"
      refine x_dnT (k := prK x y) hp ?_
      walk_at "sx"
      cases c2 : hasT (pactD B.st.pacts) (prK x y) with
      | true =>
        rw [if_pos c2] at yes
        refine x_ifF ?_
        walk_at "sx"
        exact yes rfl _ e1
      | false =>
        rw [if_neg (by rw [c2]; exact Bool.false_ne_true)] at no
        refine x_ifT ?_
        exact no (by decide) _ e1
    · rw [if_neg c1] at no
      exact no c1 H (Ex.refl _)
theorem D_Book_of_man (T : Txt K mg) (D_Book_need_day : DnM P w K mg base (L2.CX P w) 1 (He.ma K (He.ga K "Book") "need_day") ["self", "day"] (spNeedDayX K)) (D_Book_need_man : DnM P w K mg base (L2.CX P w) 1 (He.ma K (He.ga K "Book") "need_man") ["self", "name"] (spNeedManX K)) (D_Book_enter : DnM P w K mg base (L2.CX P w) 6 (He.ma K (He.ga K "Book") "enter") ["self", "day", "deed"] (spEnter K)) (F : Mf K "Book" "of_man" "Book.of_man" s_Book_of_man) : DnM P w K mg base (L2.CX P w) 7 (He.ma K (He.ga K "Book") "of_man") ["self", "day", "deed"] (spOfMan K) := by
  refine F.dmX sc_Book_of_man (fun _ _ _ _ _ _ us hl => match us, hl with | [_, _, _], _ => rfl) (fun vs H Q E h => ?_) (fun f cdv A outer s H vs Q E hr hK h => ?_)
  · obtain ⟨b, q, day, x, B, Fo, Td, o, Rs, rfl, _⟩ := h
    rfl
  · obtain ⟨b, q, day, x, B, Fo, Td, o, Rs, rfl, hq, S, e1, e2, hz, at_, k⟩ := h
    unfold OneAt at at_
    refine ⟨_, (pss_cons (ps_expr (pe_mt (pv 0) T.cl_Book T.me_Book_need_day D_Book_need_day (hr.mono (by first | decide | omega)) passX (pa_cons (pv 1) pa_nil)))
      (pss_cons (ps_expr (pe_mt (pv 0) T.cl_Book T.me_Book_need_man D_Book_need_man (hr.mono (by first | decide | omega)) passX (pa_cons (pe_ix ix_tup (pv 2) pe_int (fun _ _ => rfl)) pa_nil)))
      (pss_one (ps_ret (pe_mt (pv 0) T.cl_Book T.me_Book_enter D_Book_enter (hr.mono (by first | decide | omega)) passX (pa_cons (pv 1) (pa_cons (pv 2) pa_nil))))))), ?_⟩
    try rw [hK]
    rw [show L2.start N_Book_of_man [.ref b, .int day, .ref q] = [some (.ref b), some (.int day), some (.ref q)] from rfl]
    walk_at "sx"
    refine ⟨b, day, rfl, fun c => ?_, fun c => ?_⟩
    · rw [if_pos c] at at_
      walk_at "sx"
      refine x_ixTn (xs := x.xs) (v := .str x.man) (SqT.of hq) (by decide) (by cases x <;> rfl) ?_
      walk_at "sx"
      refine ⟨b, x.man, B, Rs, rfl, S, fun c2 => ?_, fun c2 => ?_⟩
      · rw [if_pos c2] at at_
        walk_at "sx"
        exact ⟨b, q, day, .one x, B, Fo, Td, o, Rs, rfl, xs_tp hq, S, e1, e2, hz, at_.1, at_.2, k⟩
      · rw [if_neg (by rw [c2]; exact Bool.false_ne_true)] at at_
        subst at_
        exact k H PK.refl S
    · rw [if_neg c] at at_
      subst at_
      exact k H PK.refl S
theorem D_Book_word (T : Txt K mg) (D_Book_of_man : DnM P w K mg base (L2.CX P w) 7 (He.ma K (He.ga K "Book") "of_man") ["self", "day", "deed"] (spOfMan K)) (F : Mf K "Book" "word" "Book.word" s_Book_word) : DnM P w K mg base (L2.CX P w) 8 (He.ma K (He.ga K "Book") "word") ["self", "day", "man"] (spOne K .word) := by
  refine F.dmX sc_Book_word (fun _ _ _ _ _ _ us hl => match us, hl with | [_, _, _], _ => rfl) (fun vs H Q E h => ?_) (fun f cdv A outer s H vs Q E hr hK h => ?_)
  · obtain ⟨b, day, n, B, Fo, Td, o, Rs, rfl, _⟩ := h
    rfl
  · obtain ⟨b, day, n, B, Fo, Td, o, Rs, rfl, S, e1, e2, hz, at_, k⟩ := h
    refine ⟨_, (pss_one (ps_ret (pe_mt (pv 0) T.cl_Book T.me_Book_of_man D_Book_of_man (hr.mono (by first | decide | omega)) passX (pa_cons (pv 1) (pa_cons (pe_tup (pa_cons pe_str (pa_cons (pv 2) pa_nil))) pa_nil))))), ?_⟩
    try rw [hK]
    rw [show L2.start N_Book_word [.ref b, .int day, .str n] = [some (.ref b), some (.int day), some (.str n)] from rfl]
    walk_at "sx"
    rename_i q H2 pk2 S2 hq
    clear S
    exact ⟨b, q, day, .word n, B, Fo, Td, o, Rs, rfl, hq, S2, e1, e2, hz, at_, bfin_of k pk2 fun _ z => z⟩
theorem D_Book_die (T : Txt K mg) (D_Book_of_man : DnM P w K mg base (L2.CX P w) 7 (He.ma K (He.ga K "Book") "of_man") ["self", "day", "deed"] (spOfMan K)) (F : Mf K "Book" "die" "Book.die" s_Book_die) : DnM P w K mg base (L2.CX P w) 8 (He.ma K (He.ga K "Book") "die") ["self", "day", "man"] (spOne K .die) := by
  refine F.dmX sc_Book_die (fun _ _ _ _ _ _ us hl => match us, hl with | [_, _, _], _ => rfl) (fun vs H Q E h => ?_) (fun f cdv A outer s H vs Q E hr hK h => ?_)
  · obtain ⟨b, day, n, B, Fo, Td, o, Rs, rfl, _⟩ := h
    rfl
  · obtain ⟨b, day, n, B, Fo, Td, o, Rs, rfl, S, e1, e2, hz, at_, k⟩ := h
    refine ⟨_, (pss_one (ps_ret (pe_mt (pv 0) T.cl_Book T.me_Book_of_man D_Book_of_man (hr.mono (by first | decide | omega)) passX (pa_cons (pv 1) (pa_cons (pe_tup (pa_cons pe_str (pa_cons (pv 2) pa_nil))) pa_nil))))), ?_⟩
    try rw [hK]
    rw [show L2.start N_Book_die [.ref b, .int day, .str n] = [some (.ref b), some (.int day), some (.str n)] from rfl]
    walk_at "sx"
    rename_i q H2 pk2 S2 hq
    clear S
    exact ⟨b, q, day, .die n, B, Fo, Td, o, Rs, rfl, hq, S2, e1, e2, hz, at_, bfin_of k pk2 fun _ z => z⟩
theorem D_Book_take (T : Txt K mg) (D_Book_need_day : DnM P w K mg base (L2.CX P w) 1 (He.ma K (He.ga K "Book") "need_day") ["self", "day"] (spNeedDayX K)) (D_Book_need_man : DnM P w K mg base (L2.CX P w) 1 (He.ma K (He.ga K "Book") "need_man") ["self", "name"] (spNeedManX K)) (D_Book_need_side : DnM P w K mg base (L2.CX P w) 1 (He.ma K (He.ga K "Book") "need_side") ["self", "name"] (spNeedSideX K)) (D_Book_enter : DnM P w K mg base (L2.CX P w) 6 (He.ma K (He.ga K "Book") "enter") ["self", "day", "deed"] (spEnter K)) (F : Mf K "Book" "take" "Book.take" s_Book_take) : DnM P w K mg base (L2.CX P w) 7 (He.ma K (He.ga K "Book") "take") ["self", "day", "man", "side"] (spTakeB K) := by
  refine F.dmX sc_Book_take (fun _ _ _ _ _ _ us hl => match us, hl with | [_, _, _, _], _ => rfl) (fun vs H Q E h => ?_) (fun f cdv A outer s H vs Q E hr hK h => ?_)
  · obtain ⟨b, day, n, sd, B, Fo, Td, o, Rs, rfl, _⟩ := h
    rfl
  · obtain ⟨b, day, n, sd, B, Fo, Td, o, Rs, rfl, S, e1, e2, hz, at_, k⟩ := h
    unfold TakeAt at at_
    refine ⟨_, (pss_cons (ps_expr (pe_mt (pv 0) T.cl_Book T.me_Book_need_day D_Book_need_day (hr.mono (by first | decide | omega)) passX (pa_cons (pv 1) pa_nil)))
      (pss_cons (ps_expr (pe_mt (pv 0) T.cl_Book T.me_Book_need_man D_Book_need_man (hr.mono (by first | decide | omega)) passX (pa_cons (pv 2) pa_nil)))
      (pss_cons (ps_expr (pe_mt (pv 0) T.cl_Book T.me_Book_need_side D_Book_need_side (hr.mono (by first | decide | omega)) passX (pa_cons (pv 3) pa_nil)))
      (pss_one (ps_ret (pe_mt (pv 0) T.cl_Book T.me_Book_enter D_Book_enter (hr.mono (by first | decide | omega)) passX (pa_cons (pv 1) (pa_cons (pe_tup (pa_cons pe_str (pa_cons (pv 2) (pa_cons (pv 3) pa_nil)))) pa_nil)))))))), ?_⟩
    try rw [hK]
    rw [show L2.start N_Book_take [.ref b, .int day, .str n, .str sd] = [some (.ref b), some (.int day), some (.str n), some (.str sd)] from rfl]
    walk_at "sx"
    refine ⟨b, day, rfl, fun c => ?_, fun c => ?_⟩
    · rw [if_pos c] at at_
      walk_at "sx"
      refine ⟨b, n, B, Rs, rfl, S, fun c2 => ?_, fun c2 => ?_⟩
      · rw [if_pos c2] at at_
        walk_at "sx"
        refine ⟨b, sd, B, Rs, rfl, S, fun c4 => ?_, fun c4 => ?_⟩
        · rw [if_pos c4] at at_
          walk_at "sx"
          rename_i q H2 pk2 S2 hq
          clear S
          refine ⟨b, q, day, .one (.take n sd), B, Fo, Td, o, Rs, rfl, xs_tp (x := .take n sd) hq, S2, e1, e2, hz, at_.1, at_.2, bfin_of k pk2 fun H3 k3 => ?_⟩
          walk_at "sx"
          exact k3
        · rw [if_neg (by rw [c4]; exact Bool.false_ne_true)] at at_
          subst at_
          exact k H PK.refl S
      · rw [if_neg (by rw [c2]; exact Bool.false_ne_true)] at at_
        subst at_
        exact k H PK.refl S
    · rw [if_neg c] at at_
      subst at_
      exact k H PK.refl S
theorem D_Book_rank (T : Txt K mg) (D_Book_need_day : DnM P w K mg base (L2.CX P w) 1 (He.ma K (He.ga K "Book") "need_day") ["self", "day"] (spNeedDayX K)) (D_Book_need_man : DnM P w K mg base (L2.CX P w) 1 (He.ma K (He.ga K "Book") "need_man") ["self", "name"] (spNeedManX K)) (D_Book_enter : DnM P w K mg base (L2.CX P w) 6 (He.ma K (He.ga K "Book") "enter") ["self", "day", "deed"] (spEnter K)) (F : Mf K "Book" "rank" "Book.rank" s_Book_rank) : DnM P w K mg base (L2.CX P w) 7 (He.ma K (He.ga K "Book") "rank") ["self", "day", "man", "rank"] (spRank K) := by
  refine F.dmX sc_Book_rank (fun _ _ _ _ _ _ us hl => match us, hl with | [_, _, _, _], _ => rfl) (fun vs H Q E h => ?_) (fun f cdv A outer s H vs Q E hr hK h => ?_)
  · obtain ⟨b, day, n, r, B, Fo, Td, o, Rs, rfl, _⟩ := h
    rfl
  · obtain ⟨b, day, n, r, B, Fo, Td, o, Rs, rfl, S, e1, e2, hz, at_, k⟩ := h
    unfold RankAt at at_
    refine ⟨_, (pss_cons (ps_expr (pe_mt (pv 0) T.cl_Book T.me_Book_need_day D_Book_need_day (hr.mono (by first | decide | omega)) passX (pa_cons (pv 1) pa_nil)))
      (pss_cons (ps_expr (pe_mt (pv 0) T.cl_Book T.me_Book_need_man D_Book_need_man (hr.mono (by first | decide | omega)) passX (pa_cons (pv 2) pa_nil)))
      (pss_cons (ps_if (pt_not (pt_chain op_le op_lt pe_int (pv 3) (pe_cst T.c_MOST_RANKS))) (pss_one (ps_raise rfl (takes_of rfl rfl rfl rfl) (pmk_own PySem.F.excBase_ValueError T.x_BadRank.xi T.x_BadRank.g T.x_BadRank.k (raises_own T.x_BadRank.b T.x_BadRank.t) rfl))) pss_nil)
      (pss_one (ps_ret (pe_mt (pv 0) T.cl_Book T.me_Book_enter D_Book_enter (hr.mono (by first | decide | omega)) passX (pa_cons (pv 1) (pa_cons (pe_tup (pa_cons pe_str (pa_cons (pv 2) (pa_cons (pv 3) pa_nil)))) pa_nil)))))))), ?_⟩
    try rw [hK]
    rw [show L2.start N_Book_rank [.ref b, .int day, .str n, .int r] = [some (.ref b), some (.int day), some (.str n), some (.int r)] from rfl]
    walk_at "sx"
    refine ⟨b, day, rfl, fun c => ?_, fun c => ?_⟩
    · rw [if_pos c] at at_
      walk_at "sx"
      refine ⟨b, n, B, Rs, rfl, S, fun c2 => ?_, fun c2 => ?_⟩
      · rw [if_pos c2] at at_
        walk_at "sx"
        refine x_chD (fun r0 => ?_) (fun r0 => ?_)
        · walk_at "sx"
          refine x_ifN (fun r1 => ?_) (fun r1 => ?_)
          · rw [if_pos ⟨r0, r1⟩] at at_
            walk_at "sx"
            rename_i q H2 pk2 S2 hq
            clear S
            refine ⟨b, q, day, .one (.rank n r), B, Fo, Td, o, Rs, rfl, xs_tp (x := .rank n r) hq, S2, e1, e2, hz, at_.1, at_.2, bfin_of k pk2 fun H3 k3 => ?_⟩
            walk_at "sx"
            exact k3
          · rw [if_neg fun z => r1 z.2] at at_
            subst at_
            exact k H PK.refl S
        · rw [if_neg fun z => r0 z.1] at at_
          subst at_
          walk_at "sx"
          exact k H PK.refl S
      · rw [if_neg (by rw [c2]; exact Bool.false_ne_true)] at at_
        subst at_
        exact k H PK.refl S
    · rw [if_neg c] at at_
      subst at_
      exact k H PK.refl S
end

/-! ### exchanges told, cartels set, numbers strange -/
def nOk (t : BSt) (n : Str) : Bool := hasD t.folk (.inr n)
def spSwap (K : PySem.W.Frag) : Sp := fun vs H Q E => ∃ (b l1 l2 : Addr) (day : Int) (x y : Str) (os ot : List Str) (B : Bk) (F : FolkL) (Td : Told) (o : LOut) (Rs : List Res), vs = [.ref b, .int day, .str x, .str y, .ref l1, .ref l2] ∧ Sat H (book (CB K) b B :: cell l1 (.lst (os.map V.str)) :: cell l2 (.lst (ot.map V.str)) :: Rs) ∧ os.length ≤ 1000 ∧ ot.length ≤ 1000 ∧ B.st.folk = folkD F ∧ B.st.told = toldD Td ∧ B.past.length < sizeLine ∧
  SwapAt B.st F Td day x y os ot o ∧ BFin K b B (entered B Td day (.swap x y os ot)) (cell l1 (.lst (os.map V.str)) :: cell l2 (.lst (ot.map V.str)) :: Rs) (.int B.st.later) H Q E o
def spCartel (K : PySem.W.Frag) : Sp := fun vs H Q E => ∃ (b l : Addr) (x y : Str) (ws : List Int) (lim : Int) (B : Bk) (F : FolkL) (Td : Told) (o : LOut) (Rs : List Res), vs = [.ref b, .str x, .str y, .ref l, .int lim] ∧ Sat H (book (CB K) b B :: cell l (.lst (ws.map V.int)) :: Rs) ∧ B.st.folk = folkD F ∧ B.st.told = toldD Td ∧ B.past.length < sizeLine ∧
  CartAt B.st F Td x y ws lim o ∧ BFin K b B ⟨{ B.st with pacts := some ⟨minS x y, maxS x y, ws, lim⟩ }, B.past ++ [B.st], []⟩ (cell l (.lst (ws.map V.int)) :: Rs) .non H Q E o
def spRedateNo (K : PySem.W.Frag) : Sp := fun vs H Q E => ∃ (b : Addr) (n d : Int) (B : Bk) (Rs : List Res), vs = [.ref b, .int n, .int d] ∧ Sat H (book (CB K) b B :: Rs) ∧ hasD B.st.told (.inl n) = false ∧ E (.ref (He.ga K "NoDeed")) none H
theorem putT_pact {pc : Option Pact} {x y : Str} {ws : List Int} {lim : Int} (h : ∀ p, pc = some p → p.a = minS x y ∧ p.b = maxS x y) : putT (pactD pc) (prK x y) (.tuple [.tuple (ws.map .int), .int lim]) = pactD (some ⟨minS x y, maxS x y, ws, lim⟩) := by
  cases pc with
  | none => rfl
  | some p =>
    obtain ⟨e1, e2⟩ := h p rfl
    obtain ⟨a, b, v, l⟩ := p
    simp only at e1 e2
    subst e1 e2
    simp [putT, hasT, pactD]
theorem tpAll_ints {H : Hp} (ns : List Int) : TpAll H (ns.map V.int) (ns.map .int) := TpAll.ints ns
section
variable {P : Program} {w : World} {K : PySem.W.Frag} {mg : Str → Option Value} {base : Heap}
theorem D_Book_redate (T : Txt K mg) (F : Mf K "Book" "redate" "Book.redate" s_Book_redate) (D_Book_need_day : DnM P w K mg base (L2.CX P w) 1 (He.ma K (He.ga K "Book") "need_day") ["self", "day"] (spNeedDayX K)) (D_look_through : Dn P w K mg base (L2.CX P w) 5 "look_through" ["folk", "pacts", "told", "fresh"] (spLook K)) (D_Book_keep : DnM P w K mg base CX0 2 (He.ma K (He.ga K "Book") "keep") ["self"] (spKeep K)) : DnM P w K mg base (L2.CX P w) 6 (He.ma K (He.ga K "Book") "redate") ["self", "number", "day"] (spRedateNo K) := by
  refine F.dmX sc_Book_redate (fun _ _ _ _ _ _ us hl => match us, hl with | [_, _, _], _ => rfl) (fun vs H Q E h => ?_) (fun f cdv A outer s H vs Q E hr hK h => ?_)
  · obtain ⟨b, n, d, B, Rs, rfl, _⟩ := h
    rfl
  · obtain ⟨b, n, d, B, Rs, rfl, S, hn, no⟩ := h
    refine ⟨_, (pss_cons (ps_if (pt_cmp (pc_dnotin (hu_of hr) (pv 1) (pe_fldC T.cl_Book T.n_Book_told (pv 0) rfl))) (pss_one (ps_raise rfl (takes_of rfl rfl rfl rfl) (pmk_own PySem.F.excBase_ValueError T.x_NoDeed.xi T.x_NoDeed.g T.x_NoDeed.k (raises_own T.x_NoDeed.b T.x_NoDeed.t) rfl))) pss_nil)
      (pss_cons (ps_expr (pe_mt (pv 0) T.cl_Book T.me_Book_need_day D_Book_need_day (hr.mono (by first | decide | omega)) passX (pa_cons (pv 2) pa_nil)))
      (pss_cons (ps_set (i := 3) sc_Book_redate.nd rfl (Or.inl rfl) (pe_callTy g_dictD rfl T.m_dict boot_dict (pa_cons (pe_fldC T.cl_Book T.n_Book_told (pv 0) rfl) pa_nil)))
      (pss_cons (ps_dput (hu_of hr) (pv 3) (pv 1) (pe_tup (pa_cons (pv 2) (pa_cons (pe_ix ix_tup (pe_dget (hu_of hr) (pv 3) (pv 1) (fun _ _ => rfl)) pe_int (fun _ _ => rfl)) pa_nil))) rfl)
      (pss_cons (ps_expr (pe_dn D_look_through (hr.mono (by first | decide | omega)) passX (pa_cons (pe_fldC T.cl_Book T.n_Book_folk (pv 0) rfl) (pa_cons (pe_fldC T.cl_Book T.n_Book_pacts (pv 0) rfl) (pa_cons (pv 3) (pa_cons pe_int pa_nil))))))
      (pss_cons (ps_expr (pe_mt0 (pv 0) T.cl_Book T.me_Book_keep D_Book_keep (hr.mono (by first | decide | omega)) pass0))
      (pss_one (ps_fldC T.cl_Book T.n_Book_told (pv 0) (pv 3) rfl)))))))), ?_⟩
    try rw [hK]
    rw [show L2.start N_Book_redate [.ref b, .int n, .int d] = [some (.ref b), some (.int n), some (.int d), none] from rfl]
    obtain ⟨dx, ba, fo, pa, to, ps, fu, S1⟩ := S.bookE
    clear S
    walk_at "sx"
    rw [hn]
    refine x_ifT ?_
    exact no
theorem D_Book_cartel (T : Txt K mg) (D_Book_need_two : DnM P w K mg base (L2.CX P w) 2 (He.ma K (He.ga K "Book") "need_two") ["self", "one", "other"] (spNeedTwo K)) (D_pair_of : Dn P w K mg base CX0 1 "pair_of" ["one", "other"] spPair) (D_good_tariff : Dn P w K mg base CX0 1 "good_tariff" ["worths"] (spGood K)) (D_look_through : Dn P w K mg base (L2.CX P w) 5 "look_through" ["folk", "pacts", "told", "fresh"] (spLook K)) (D_Book_keep : DnM P w K mg base CX0 2 (He.ma K (He.ga K "Book") "keep") ["self"] (spKeep K))
    (F : Mf K "Book" "cartel" "Book.cartel" s_Book_cartel) : DnM P w K mg base (L2.CX P w) 6 (He.ma K (He.ga K "Book") "cartel") ["self", "one", "other", "worths", "limit"] (spCartel K) := by
  refine F.dmX sc_Book_cartel (fun _ _ _ _ _ _ us hl => match us, hl with | [_, _, _, _, _], _ => rfl) (fun vs H Q E h => ?_) (fun f cdv A outer s H vs Q E hr hK h => ?_)
  · obtain ⟨b, l, x, y, ws, lim, B, Fo, Td, o, Rs, rfl, _⟩ := h
    rfl
  · obtain ⟨b, l, x, y, ws, lim, ⟨⟨si, fk, pc, tl, la⟩, past, fut⟩, Fo, Td, o, Rs, rfl, S, e1, e2, hz, at_, k⟩ := h
    have e1 : fk = folkD Fo := e1
    have e2 : tl = toldD Td := e2
    subst e1 e2
    unfold CartAt at at_
    refine ⟨_, (pss_cons (ps_expr (pe_mt (pv 0) T.cl_Book T.me_Book_need_two D_Book_need_two (hr.mono (by first | decide | omega)) passX (pa_cons (pv 1) (pa_cons (pv 2) pa_nil))))
      (pss_cons (ps_if (PW.pt (pw_or (pt_cmpR op_ne (pe_callB g_len rfl T.m_len boot_len (pa_cons (pv 3) pa_nil)) (pe_cst T.c_MOST_RANKS) (nomark _)) (pw_or1 (pt_not (pt_val (pe_dn D_good_tariff (hr.mono (by first | decide | omega)) pass0 (pa_cons (pv 3) pa_nil))))))) (pss_one (ps_raise rfl (takes_of rfl rfl rfl rfl) (pmk_own PySem.F.excBase_ValueError T.x_BadTariff.xi T.x_BadTariff.g T.x_BadTariff.k (raises_own T.x_BadTariff.b T.x_BadTariff.t) rfl))) pss_nil)
      (pss_cons (ps_if (pt_not (pt_chain op_le op_le pe_int (pv 4) (pe_cst T.c_MOST_LIMIT))) (pss_one (ps_raise rfl (takes_of rfl rfl rfl rfl) (pmk_own PySem.F.excBase_ValueError T.x_BadLimit.xi T.x_BadLimit.g T.x_BadLimit.k (raises_own T.x_BadLimit.b T.x_BadLimit.t) rfl))) pss_nil)
      (pss_cons (ps_set (i := 5) sc_Book_cartel.nd rfl (Or.inl rfl) (pe_callTy (g_dictT hr.units) rfl T.m_dict boot_dict (pa_cons (pe_fldC T.cl_Book T.n_Book_pacts (pv 0) rfl) pa_nil)))
      (pss_cons (ps_dput (hu_of hr) (pv 5) (pe_dn D_pair_of (hr.mono (by first | decide | omega)) pass0 (pa_cons (pv 1) (pa_cons (pv 2) pa_nil))) (pe_tup (pa_cons (pe_callTy g_tuple rfl T.m_tuple boot_tuple (pa_cons (pv 3) pa_nil)) (pa_cons (pv 4) pa_nil))) rfl)
      (pss_cons (ps_expr (pe_dn D_look_through (hr.mono (by first | decide | omega)) passX (pa_cons (pe_fldC T.cl_Book T.n_Book_folk (pv 0) rfl) (pa_cons (pv 5) (pa_cons (pe_fldC T.cl_Book T.n_Book_told (pv 0) rfl) (pa_cons pe_int pa_nil))))))
      (pss_cons (ps_expr (pe_mt0 (pv 0) T.cl_Book T.me_Book_keep D_Book_keep (hr.mono (by first | decide | omega)) pass0))
      (pss_one (ps_fldC T.cl_Book T.n_Book_pacts (pv 0) (pv 5) rfl))))))))), ?_⟩
    try rw [hK]
    rw [show L2.start N_Book_cartel [.ref b, .str x, .str y, .ref l, .int lim] = [some (.ref b), some (.str x), some (.str y), some (.ref l), some (.int lim), none] from rfl]
    walk_at "sx"
    refine ⟨b, x, y, ⟨⟨si, folkD Fo, pc, toldD Td, la⟩, past, fut⟩, _, rfl, S, fun c1 => ?_, fun c1 => ?_⟩
    · rw [if_pos c1] at at_
      walk_at "sx"
      have badT : ¬ (ws.length = 6 ∧ goodT ws = true) → ∀ H', Ex H H' → E (.ref (He.ga K "BadTariff")) none H' := fun c H' e => by
        rw [if_neg c] at at_
        subst at_
        exact k H' (PK.of_ex e) (S.mono e)
      have hl6 : (ws.map V.int).length = ws.length := List.length_map _
      rw [hl6]
      refine x_orD (fun c2 => ?_) (fun c2 => ?_)
      · walk_at "sx"
        exact badT (fun z => c2 (by omega)) H (Ex.refl _)
      walk_at "sx"
      refine ⟨l, ws, rfl, SqL.of sat_at, fun H1 ex1 => ?_⟩
      cases c3 : goodT ws with
      | false =>
        walk_at "sx"
        exact badT (fun z => by rw [z.2] at c3; cases c3) H1 ex1
      | true =>
        have c4 : ws.length = 6 ∧ goodT ws = true := ⟨by omega, c3⟩
        rw [if_pos c4] at at_
        have S1 := S.mono ex1
        have pk1 := PK.of_ex ex1
        clear S badT
        walk_at "sx"
        have badL : ¬ (0 ≤ lim ∧ lim ≤ 1000000) → E (.ref (He.ga K "BadLimit")) none H1 := fun c => by
          rw [if_neg c] at at_
          subst at_
          exact k H1 pk1 S1
        refine x_chD (fun r0 => ?_) (fun r0 => ?_)
        · walk_at "sx"
          refine x_ifN (fun r1 => ?_) (fun r1 => ?_)
          · rw [if_pos ⟨r0, r1⟩] at at_
            obtain ⟨same, l1, l2, l3, l5, l6⟩ := at_
            clear badL
            obtain ⟨dx, ba, fo, pa, to, ps, fu, S2⟩ := S1.bookE
            clear S1
            walk_at "sx"
            rename_i pn H2 pk2 S3
            clear S2
            refine x_tupleS fun wt H3 pk3 S4 hw => ?_
            clear S3
            walk_at "sx"
            rename_i tq H4 pk4 S5 hq
            clear S4
            refine ⟨x, y, rfl, fun pr H5 e5 hp => ?_⟩
            have pk5 := PK.of_ex e5
            have S6 := S5.mono e5
            clear S5
            walk_at "sx"
            have tpW : Tp H5 (.ref tq) (.tuple [.tuple (ws.map .int), .int lim]) := .tup (pk5.tup hq) (.cons (.tup (pk5.tup (pk4.tup hw)) (TpAll.ints ws)) (.cons (.int lim) .nil))
            refine x_dpT (k := prK x y) hp (Nat.lt_of_le_of_lt (pactD_few pc) (by decide)) tpW fun H6 pk6 S7 => ?_
            clear S6
            rw [putT_pact same] at S7
            walk_at "sx"
            refine ⟨fo, to, pn, 0, Fo, Td, some ⟨minS x y, maxS x y, ws, lim⟩, o, _, rfl, S7.pick (Ss := dct fo (folkD Fo) :: dct to (toldD Td) :: dctT pn (pactD (some ⟨minS x y, maxS x y, ws, lim⟩)) :: cell b (.ins (CB K) dx (fsBook (.ref ba) (.ref fo) (.ref pa) (.ref to) (.int la) (.ref ps) (.ref fu))) :: dct ba si :: dctT pa (pactD pc) :: lsts ps past :: lsts fu fut :: cell l (.lst (ws.map V.int)) :: Rs), l1, l2, l3, l5, l6 pn, ?_⟩
            clear S7
            cases o with
            | no => exact k.elim
            | bad c =>
              intro H7 pk7 S8
              exact k H7 (by walk_at "pk") (bookC (C := CB K) (b := b)).pick
            | brk =>
              intro H7 dd fs pk7 S8 hx
              exact k H7 dd fs (by walk_at "pk") (bookC (C := CB K) (b := b)).pick hx
            | ok =>
              intro H7 pk7 S8
              have S9 : Sat H7 (book (CB K) b ⟨⟨si, folkD Fo, pc, toldD Td, la⟩, past, fut⟩ :: dctT pn (pactD (some ⟨minS x y, maxS x y, ws, lim⟩)) :: cell l (.lst (ws.map V.int)) :: Rs) := G.Sat.bookI (S8.pick (Ss := cell b (.ins (CB K) dx (fsBook (.ref ba) (.ref fo) (.ref pa) (.ref to) (.int la) (.ref ps) (.ref fu))) :: dct ba si :: dct fo (folkD Fo) :: dctT pa (pactD pc) :: dct to (toldD Td) :: lsts ps past :: lsts fu fut :: dctT pn (pactD (some ⟨minS x y, maxS x y, ws, lim⟩)) :: cell l (.lst (ws.map V.int)) :: Rs))
              clear S8
              walk_at "sx"
              refine ⟨b, ⟨⟨si, folkD Fo, pc, toldD Td, la⟩, past, fut⟩, _, rfl, S9, hz, fun H8 pk8 S10 => ?_⟩
              clear S9
              obtain ⟨dx, ba, fo, pa, to, ps, fu, S11⟩ := S10.bookE
              clear S10
              walk_at "sx"
              rename_i H9 pk9 S12
              refine k _ (by walk_at "pk") ?_
              show Sat _ (book (CB K) b ⟨⟨si, folkD Fo, some ⟨minS x y, maxS x y, ws, lim⟩, toldD Td, la⟩, past ++ [⟨si, folkD Fo, pc, toldD Td, la⟩], []⟩ :: cell l (.lst (ws.map V.int)) :: Rs)
              exact (G.Sat.bookI (S12.pick (Ss := cell b (.ins (CB K) dx (fsBook (.ref ba) (.ref fo) (.ref pn) (.ref to) (.int la) (.ref ps) (.ref fu))) :: dct ba si :: dct fo (folkD Fo) :: dctT pn (pactD (some ⟨minS x y, maxS x y, ws, lim⟩)) :: dct to (toldD Td) :: lsts ps (past ++ [⟨si, folkD Fo, pc, toldD Td, la⟩]) :: lsts fu [] :: cell l (.lst (ws.map V.int)) :: Rs)))
          · exact badL fun z => r1 z.2
        · walk_at "sx"
          exact badL fun z => r0 z.1
    · rw [if_neg c1] at at_
      subst at_
      exact k H PK.refl S
end

/-! ### an exchange told -/
theorem all_names {t : BSt} {ns : List Str} (h : ¬ ns.all (fun n => hasD t.folk (.inr n)) = true) : ∃ i n, ns[i]? = some n ∧ hasD t.folk (.inr n) = false ∧ ∀ (j : Nat) (m : Str), j < i → ns[j]? = some m → hasD t.folk (.inr m) = true := by
  induction ns with
  | nil => exact absurd rfl h
  | cons x r ih =>
    rw [List.all_cons, Bool.and_eq_true] at h
    cases c : hasD t.folk (.inr x) with
    | false => exact ⟨0, x, rfl, c, fun j m hj => absurd hj (Nat.not_lt_zero j)⟩
    | true =>
      obtain ⟨i, n, h1, h2, h3⟩ := ih (fun z => h ⟨c, z⟩)
      refine ⟨i + 1, n, h1, h2, fun j m hj hm => ?_⟩
      match j, hm with
      | 0, hm => cases hm; exact c
      | j + 1, hm => exact h3 j m (by omega) hm
section
variable {P : Program} {w : World} {K : PySem.W.Frag} {mg : Str → Option Value} {base : Heap}
theorem D_Book_swap (T : Txt K mg) (D_Book_need_day : DnM P w K mg base (L2.CX P w) 1 (He.ma K (He.ga K "Book") "need_day") ["self", "day"] (spNeedDayX K)) (D_Book_need_man : DnM P w K mg base (L2.CX P w) 1 (He.ma K (He.ga K "Book") "need_man") ["self", "name"] (spNeedManX K)) (D_Book_need_cartel : DnM P w K mg base (L2.CX P w) 3 (He.ma K (He.ga K "Book") "need_cartel") ["self", "one", "other"] (spNeedCartel K))
    (D_Book_enter : DnM P w K mg base (L2.CX P w) 6 (He.ma K (He.ga K "Book") "enter") ["self", "day", "deed"] (spEnter K)) (F : Mf K "Book" "swap" "Book.swap" s_Book_swap) : DnM P w K mg base (L2.CX P w) 7 (He.ma K (He.ga K "Book") "swap") ["self", "day", "one", "other", "ones", "others"] (spSwap K) := by
  refine F.dmX sc_Book_swap (fun _ _ _ _ _ _ us hl => match us, hl with | [_, _, _, _, _, _], _ => rfl) (fun vs H Q E h => ?_) (fun f cdv A outer s H vs Q E hr hK h => ?_)
  · obtain ⟨b, l1, l2, day, x, y, os, ot, B, Fo, Td, o, Rs, rfl, _⟩ := h
    rfl
  · obtain ⟨b, l1, l2, day, x, y, os, ot, B, Fo, Td, o, Rs, rfl, S, z1, z2, e1, e2, hz, at_, k⟩ := h
    unfold SwapAt at at_
    refine ⟨_, (pss_cons (ps_expr (pe_mt (pv 0) T.cl_Book T.me_Book_need_day D_Book_need_day (hr.mono (by first | decide | omega)) passX (pa_cons (pv 1) pa_nil)))
      (pss_cons (ps_expr (pe_mt (pv 0) T.cl_Book T.me_Book_need_cartel D_Book_need_cartel (hr.mono (by first | decide | omega)) passX (pa_cons (pv 2) (pa_cons (pv 3) pa_nil))))
      (pss_cons (ps_set (i := 6) sc_Book_swap.nd rfl (Or.inl rfl) (pe_op op_cat (pe_callTy g_list rfl T.m_list boot_list (pa_cons (pv 4) pa_nil)) (pe_callTy g_list rfl T.m_list boot_list (pa_cons (pv 5) pa_nil))))
      (pss_cons (ps_if (pt_cmpR op_eq (pe_callB g_len rfl T.m_len boot_len (pa_cons (pv 6) pa_nil)) pe_int (nomark _)) (pss_one (ps_raise rfl (takes_of rfl rfl rfl rfl) (pmk_own PySem.F.excBase_ValueError T.x_NoMen.xi T.x_NoMen.g T.x_NoMen.k (raises_own T.x_NoMen.b T.x_NoMen.t) rfl))) pss_nil)
      (pss_cons (ps_for (passes_of rfl) rfl (pi_list (pv 6)) (pg_name (i := 7) sc_Book_swap.nd rfl (Or.inl rfl)) (pss_one (ps_expr (pe_mt (pv 0) T.cl_Book T.me_Book_need_man D_Book_need_man (hr.mono (by first | decide | omega)) passX (pa_cons (pv 7) pa_nil)))))
      (pss_cons (ps_if (pt_cmpR op_lt (pe_lenTexts rfl rfl T.m_len rfl T.m_set (pv 6)) (pe_callB g_len rfl T.m_len boot_len (pa_cons (pv 6) pa_nil)) (nomark _)) (pss_one (ps_raise rfl (takes_of rfl rfl rfl rfl) (pmk_own PySem.F.excBase_ValueError T.x_Twice.xi T.x_Twice.g T.x_Twice.k (raises_own T.x_Twice.b T.x_Twice.t) rfl))) pss_nil)
      (pss_one (ps_ret (pe_mt (pv 0) T.cl_Book T.me_Book_enter D_Book_enter (hr.mono (by first | decide | omega)) passX (pa_cons (pv 1) (pa_cons (pe_tup (pa_cons pe_str (pa_cons (pv 2) (pa_cons (pv 3) (pa_cons (pe_callTy g_tuple rfl T.m_tuple boot_tuple (pa_cons (pv 4) pa_nil)) (pa_cons (pe_callTy g_tuple rfl T.m_tuple boot_tuple (pa_cons (pv 5) pa_nil)) pa_nil)))))) pa_nil))))))))))), ?_⟩
    try rw [hK]
    rw [show L2.start N_Book_swap [.ref b, .int day, .str x, .str y, .ref l1, .ref l2] = [some (.ref b), some (.int day), some (.str x), some (.str y), some (.ref l1), some (.ref l2), none, none] from rfl]
    walk_at "sx"
    refine ⟨b, day, rfl, fun c => ?_, fun c => ?_⟩
    rotate_left
    · rw [if_neg c] at at_
      subst at_
      exact k H PK.refl S
    rw [if_pos c] at at_
    walk_at "sx"
    refine ⟨b, x, y, B, _, rfl, S, fun c2 H1 ex1 => ?_, fun c2 H1 ex1 => ?_⟩
    rotate_left
    · rw [if_neg c2] at at_
      subst at_
      exact k H1 (PK.of_ex ex1) (S.mono ex1)
    rw [if_pos c2] at at_
    have S1 := S.mono ex1
    have pk1 := PK.of_ex ex1
    clear S
    walk_at "sx"
    intro m1 hm1
    have S2 := S1.new (o := .lst (os.map V.str)) hm1
    have pk2 : PK H1 (upd H1 m1 (.lst (os.map V.str))) := PK.of_ex (Ex.new hm1)
    generalize upd H1 m1 (.lst (os.map V.str)) = H2 at S2 pk2 ⊢
    clear S1
    walk_at "sx"
    intro m2 hm2
    have S3 := S2.new (o := .lst (ot.map V.str)) hm2
    have pk3 : PK H2 (upd H2 m2 (.lst (ot.map V.str))) := PK.of_ex (Ex.new hm2)
    generalize upd H2 m2 (.lst (ot.map V.str)) = H3 at S3 pk3 ⊢
    clear S2
    walk_at "sx"
    refine x_catS (by rw [List.length_map, List.length_map, sizeLine_eq]; omega) fun m3 H4 pk4 S4 => ?_
    clear S3
    have S5 : Sat H4 (cell m3 (.lst ((os ++ ot).map V.str)) :: book (CB K) b B :: cell l1 (.lst (os.map V.str)) :: cell l2 (.lst (ot.map V.str)) :: Rs) := by
      rw [List.map_append]
      exact S4.pick
    clear S4
    have bad : ∀ z, o = .bad z → ∀ H', PK H4 H' → Sat H' (book (CB K) b B :: cell l1 (.lst (os.map V.str)) :: cell l2 (.lst (ot.map V.str)) :: Rs) → E (.ref (He.ga K z)) none H' := fun z e H' pk S => by
      subst e
      exact k H' (pk1.trans (pk2.trans (pk3.trans (pk4.trans pk)))) S
    have hln : ((os ++ ot).map V.str).length = os.length + ot.length := by rw [List.length_map, List.length_append]
    walk_at "sx"
    rw [hln]
    refine x_ifD (fun c3 => ?_) (fun c3 => ?_)
    · have e0 : os ++ ot = [] := List.length_eq_zero_iff.mp (by rw [List.length_append]; omega)
      rw [if_pos e0] at at_
      exact bad _ at_ H4 PK.refl S5.tail
    have n0 : ¬ os ++ ot = [] := fun e => c3 (by
      have e1 : os.length + ot.length = 0 := by rw [← List.length_append, e]; rfl
      omega)
    rw [if_neg n0] at at_
    walk_at "sx"
    have ka : ∀ i n, (∀ (j : Nat) (m : Str), j < i → (os ++ ot)[j]? = some m → hasD B.st.folk (.inr m) = true) → (os ++ ot)[i]? = some n → hasD B.st.folk (.inr n) = false → o = .bad "NoMan" := fun i n _ hn hh => by
      rw [if_neg (fun z => by
        have := List.all_eq_true.mp z n (List.mem_of_getElem? hn)
        rw [hh] at this
        cases this)] at at_
      exact at_
    refine x_forQ (walk_list (xs := (os ++ ot).map V.str)) (fun i σ H' => H' = H4 ∧ (∃ v : Option V, σ = [some (.ref b), some (.int day), some (.str x), some (.str y), some (.ref l1), some (.ref l2), some (.ref m3), v]) ∧ ∀ (j : Nat) (m : Str), j < i → (os ++ ot)[j]? = some m → hasD B.st.folk (.inr m) = true) ⟨rfl, ⟨_, rfl⟩, fun j m hj => absurd hj (Nat.not_lt_zero j)⟩ (fun i σ H' _ h => ?_) (fun i z σ H5 H6 hi h u => ?_) (fun σ H5 h => ?_)
    · obtain ⟨rfl, _⟩ := h
      exact SqL.of sat_at
    · obtain ⟨rfl, ⟨v, rfl⟩, hall⟩ := h
      obtain ⟨rfl, hx⟩ := u
      rw [List.getElem?_map] at hx
      cases hn : (os ++ ot)[i]? with
      | none => rw [hn] at hx; cases hx
      | some n =>
        rw [hn] at hx
        cases hx
        have S6 := S5.swap
        clear S5
        walk_at "sx"
        refine ⟨b, n, B, _, rfl, S6, fun c5 => ?_, fun c5 => ?_⟩
        · walk_at "sx"
          refine ⟨rfl, ⟨_, rfl⟩, fun j m hj hm => ?_⟩
          rcases Nat.lt_succ_iff_lt_or_eq.mp hj with h1 | h1
          · exact hall j m h1 hm
          · subst h1
            rw [hn] at hm
            cases hm
            exact c5
        · exact bad _ (ka i n hall hn c5) _ PK.refl S6.swap.tail
    · obtain ⟨rfl, ⟨v, rfl⟩, hall⟩ := h
      rw [if_pos (List.all_eq_true.mpr fun n hn => by
        obtain ⟨j, hj⟩ := List.getElem?_of_mem hn
        exact hall j n (by rw [List.length_map]; exact (List.getElem?_eq_some_iff.mp hj).1) hj)] at at_
      walk_at "sx"
      refine x_lenTQ (xs := os ++ ot) (SqL.of sat_at) (by rw [List.length_append]; omega) ?_
      walk_at "sx"
      rw [hln]
      have e3 : (os ++ ot).length = os.length + ot.length := List.length_append
      refine x_ifD (fun c6 => ?_) (fun c6 => ?_)
      · rw [if_pos (by omega)] at at_
        exact bad _ at_ _ PK.refl S5.tail
      rw [if_neg (by omega)] at at_
      clear bad ka
      walk_at "sx"
      refine x_tupleS fun t1 H7 pk7 S7 ht1 => ?_
      clear S5
      walk_at "sx"
      refine x_tupleS fun t2 H8 pk8 S8 ht2 => ?_
      clear S7
      walk_at "sx"
      rename_i q H9 pk9 S9 hq
      have ht1' := pk9.tup (pk8.tup ht1)
      have ht2' := pk9.tup ht2
      clear S8
      have S10 : Sat H9 (book (CB K) b B :: cell l1 (.lst (os.map V.str)) :: cell l2 (.lst (ot.map V.str)) :: Rs) := S9.tail
      clear S9
      refine ⟨b, q, day, .swap x y os ot, B, Fo, Td, o, _, rfl, .tup hq (.cons (.str _) (.cons (.str _) (.cons (.str _) (.cons (.tup ht1' (TpAll.strs os)) (.cons (.tup ht2' (TpAll.strs ot)) .nil))))), S10, e1, e2, hz, at_.1, at_.2, bfin_of k (by walk_at "pk") fun H11 k11 => ?_⟩
      walk_at "sx"
      exact k11
end

/-! ### deeds told -/
def deedD (t : Int × Int × Dd) : PyData := .tuple [.int t.1, .int t.2.1, .tuple t.2.2.ds]
def spDeeds (K : PySem.W.Frag) : Sp := fun vs H Q _ => ∃ (b : Addr) (B : Bk) (Td : Told) (Rs : List Res), vs = [.ref b] ∧ Sat H (book (CB K) b B :: Rs) ∧ B.st.told = toldD Td ∧ (Td.map fun t => t.1).Nodup ∧ Td.length ≤ 1000 ∧
  ∀ p zs (T' : Told) H', T'.Perm Td → inOrd T' → PK H H' → Sat H' (cell p (.lst zs) :: book (CB K) b B :: Rs) → TpAll H' zs (T'.map deedD) → Q (.ref p) H'
section
variable {P : Program} {w : World} {K : PySem.W.Frag} {mg : Str → Option Value} {base : Heap}
theorem D_Book_deeds (T : Txt K mg) (D_in_order : Dn P w K mg base CX0 1 "in_order" ["told"] (spInOrder K)) (F : Mf K "Book" "deeds" "Book.deeds" s_Book_deeds) : DnM P w K mg base CX0 2 (He.ma K (He.ga K "Book") "deeds") ["self"] (spDeeds K) := by
  refine F.dm sc_Book_deeds (fun _ _ _ _ _ _ us hl => match us, hl with | [_], _ => rfl) (fun vs H Q E h => ?_) (fun f cdv A outer s H vs Q E hr hK h => ?_)
  · obtain ⟨b, B, Td, Rs, rfl, _⟩ := h
    rfl
  · obtain ⟨b, ⟨⟨si, fk, pc, tl, la⟩, past, fut⟩, Td, Rs, rfl, S, e2, nd, hlen, k⟩ := h
    have e2 : tl = toldD Td := e2
    subst e2
    refine ⟨_, (pss_one (ps_ret (pe_lc (own := [("day", 1), ("number", 3), ("deed", 2)]) (g := gTup K 3 (gCons (gName 1) (gCons (gName 3) (gCons (gName 2) (gNil))))) (tt := tYes) rfl sc_Book_deeds.nd (pi_list (pe_dn D_in_order (hr.mono (by first | decide | omega)) pass0 (pa_cons (pe_fldC T.cl_Book T.n_Book_told (pv 0) rfl) pa_nil))) (blkOk_by (own := [("day", 1), ("number", 3), ("deed", 2)]) (N := N_Book_deeds) (sc := defScope s_Book_deeds) (by decide +kernel)) (fun _ _ _ _ _ => pg_tup rfl (pgs_cons (pg_name (i := 1) sc_Book_deeds.nd rfl (Or.inl rfl)) (pgs_cons (pg_name (i := 3) sc_Book_deeds.nd rfl (Or.inl rfl)) (pgs_cons (pg_name (i := 2) sc_Book_deeds.nd rfl (Or.inl rfl)) pgs_nil)))) (fun _ _ _ _ _ => pts_nil) (fun _ _ _ _ _ => (pe_tup (pa_cons (pv 3) (pa_cons (pv 1) (pa_cons (pv 2) pa_nil)))))))), ?_⟩
    try rw [hK]
    rw [show L2.start N_Book_deeds [.ref b] = [some (.ref b), none, none, none] from rfl]
    obtain ⟨dx, ba, fo, pa, to, ps, fu, S1⟩ := S.bookE
    clear S
    walk_at "sx"
    refine ⟨to, Td, _, rfl, S1.pick (Ss := dct to (toldD Td) :: cell b (.ins (CB K) dx (fsBook (.ref ba) (.ref fo) (.ref pa) (.ref to) (.int la) (.ref ps) (.ref fu))) :: dct ba si :: dct fo fk :: dctT pa (pactD pc) :: lsts ps past :: lsts fu fut :: Rs), nd, hlen, fun p ys T' H2 pT od pk2 S2 tr => ?_⟩
    have hTl : T'.length = Td.length := pT.length_eq
    clear S1
    have S3 := bookC (H := H2) (C := CB K) (b := b)
    clear S2
    walk_at "sx"
    refine x_lcQ (walk_list (xs := ys)) (fun D i H' => PK H2 H' ∧ ∃ zs, Sat H' (cell D (.lst zs) :: cell p (.lst ys) :: book (CB K) b ⟨⟨si, fk, pc, toldD Td, la⟩, past, fut⟩ :: Rs) ∧ TpAll H' zs ((T'.take i).map deedD)) (fun D hD => ⟨PK.of_ex (Ex.new hD), [], (S3.new hD).pick, .nil⟩) (fun D i H' _ h => ?_) (fun D i x H4 H5 hi h y => ?_) (fun D H4 h => ?_)
    · obtain ⟨_, zs, S4, _⟩ := h
      exact SqL.of sat_at
    · obtain ⟨pk4, zs, S4, tz⟩ := h
      obtain ⟨rfl, hx⟩ := y
      clear S3
      obtain ⟨t, q, n, d, xx, rfl, hT, ht, hq⟩ := tr.get hx
      have ht' := pk4.tup ht
      have hq' := hq.pk pk4
      walk_at "sx"
      rename_i p6 H6 pk6 S6 h6
      clear S4
      have hz : zs.length < sizeLine := by rw [tz.len, List.length_map, List.length_take, sizeLine_eq]; omega
      refine x_eltS hz fun H7 pk7 S7 => ⟨pk4.trans (pk6.trans pk7), _, S7, ?_⟩
      have e1 : (T'.take (i + 1)).map deedD = (T'.take i).map deedD ++ [deedD (n, d, xx)] := by rw [List.take_succ, hT, List.map_append]; rfl
      have tz2 : TpAll H7 zs ((T'.take i).map deedD) := TpAll.pk (pk6.trans pk7) tz
      rw [e1]
      exact tz2.app (.cons (.tup (pk7.tup h6) (.cons (.int _) (.cons (.int _) (.cons (hq'.pk (pk6.trans pk7)) .nil)))) .nil)
    · obtain ⟨pk4, zs, S4, tz⟩ := h
      clear S3
      rw [tr.len, List.take_length] at tz
      exact k D zs T' _ pT od (pk2.trans pk4) pick tz
end

/-! ### the cartel told -/
def pactRow (p : Pact) : PyData := .tuple [.str p.a, .str p.b, .tuple (p.ws.map .int), .int p.lim]
def spCartels (K : PySem.W.Frag) : Sp := fun vs H Q _ => ∃ (b : Addr) (B : Bk) (pc : Pact) (Rs : List Res), vs = [.ref b] ∧ Sat H (book (CB K) b B :: Rs) ∧ B.st.pacts = some pc ∧
  ∀ p z H', PK H H' → Sat H' (cell p (.lst [z]) :: book (CB K) b B :: Rs) → Tp H' z (pactRow pc) → Q (.ref p) H'
theorem x_catAS {K : PySem.W.Frag} {H : Hp} {Rs : List Res} {a b : Addr} {xs ys : List V} {Q : VK} [S : Sat H Rs] (ha : H a = some (.tup xs)) (hb : H b = some (.tup ys)) (nx : xs ≠ []) (ny : ys ≠ []) (hz : xs.length + ys.length ≤ sizeLine) (q : ∀ p H', PK H H' → Sat H' Rs → H' p = some (.tup (xs ++ ys)) → Q (.ref p) H') : rCatA K (.ref a) (.ref b) H Q :=
  ⟨a, b, xs, ys, rfl, rfl, SqT.of ha, SqT.of hb, hz, fun e => absurd e nx, fun _ e => absurd e ny, fun _ _ p hp => q p _ (PK.of_ex (Ex.new hp)) (S.mono (Ex.new hp)) upd_same⟩
section
variable {P : Program} {w : World} {K : PySem.W.Frag} {mg : Str → Option Value} {base : Heap}
theorem D_Book_cartels (T : Txt K mg) (F : Mf K "Book" "cartels" "Book.cartels" s_Book_cartels) : DnM P w K mg base CX0 1 (He.ma K (He.ga K "Book") "cartels") ["self"] (spCartels K) := by
  refine F.dm sc_Book_cartels (fun _ _ _ _ _ _ us hl => match us, hl with | [_], _ => rfl) (fun vs H Q E h => ?_) (fun f cdv A outer s H vs Q E hr hK h => ?_)
  · obtain ⟨b, B, pc, Rs, rfl, _⟩ := h
    rfl
  · obtain ⟨b, ⟨⟨si, fk, pco, tl, la⟩, past, fut⟩, pc, Rs, rfl, S, e2, k⟩ := h
    have e2 : pco = some pc := e2
    subst e2
    obtain ⟨pa_, pb, ws, lim⟩ := pc
    refine ⟨_, (pss_one (ps_ret (pe_lc (own := [("pair", 1)]) (g := gName 1) (tt := tYes) rfl sc_Book_cartels.nd (pi_list (pe_callB cr_sortedOne rfl T.m_sorted boot_sorted (pa_cons (pe_callTy (g_listT rfl) rfl T.m_list boot_list (pa_cons (pe_fldC T.cl_Book T.n_Book_pacts (pv 0) rfl) pa_nil)) pa_nil))) (blkOk_by (own := [("pair", 1)]) (N := N_Book_cartels) (sc := defScope s_Book_cartels) (by decide +kernel)) (fun _ _ _ _ _ => pg_name (i := 1) sc_Book_cartels.nd rfl (Or.inl rfl)) (fun _ _ _ _ _ => pts_nil) (fun _ _ _ _ _ => (pe_op (r := rCatA K) op_catA (pv 1) (pe_dget (hu_of hr) (pe_fldC T.cl_Book T.n_Book_pacts (pv 0) rfl) (pv 1) (fun _ _ => rfl))))))), ?_⟩
    try rw [hK]
    rw [show L2.start N_Book_cartels [.ref b] = [some (.ref b), none] from rfl]
    obtain ⟨dx, ba, fo, pa, to, ps, fu, S1⟩ := S.bookE
    clear S
    walk_at "sx"
    refine x_keysT (kds := pactD (some ⟨pa_, pb, ws, lim⟩)) fun l bs H2 pk2 S2 kp => ?_
    clear S1
    cases kp with
    | cons hb kp =>
      cases kp
      rename_i tb
      walk_at "sx"
      refine x_sortedOne fun l2 H3 pk3 S3 => ?_
      clear S2
      have hb3 : H3 tb = some (.tup [.str pa_, .str pb]) := pk3.tup hb
      walk_at "sx"
      refine x_lcQ (walk_list (xs := [V.ref tb])) (fun D i H' => PK H3 H' ∧ ∃ zs, Sat H' (cell D (.lst zs) :: cell l2 (.lst [.ref tb]) :: cell b (.ins (CB K) dx (fsBook (.ref ba) (.ref fo) (.ref pa) (.ref to) (.int la) (.ref ps) (.ref fu))) :: dct ba si :: dct fo fk :: dctT pa (pactD (some ⟨pa_, pb, ws, lim⟩)) :: dct to tl :: lsts ps past :: lsts fu fut :: Rs) ∧ (i = 0 → zs = []) ∧ (i = 1 → ∃ z, zs = [z] ∧ Tp H' z (pactRow ⟨pa_, pb, ws, lim⟩))) (fun D hD => ⟨PK.of_ex (Ex.new hD), [], (S3.new hD).pick, fun _ => rfl, fun e => absurd e (by decide)⟩) (fun D i H' _ h => ?_) (fun D i x H4 H5 hi h y => ?_) (fun D H4 h => ?_)
      · obtain ⟨_, zs, S4, _⟩ := h
        exact SqL.of sat_at
      · obtain ⟨pk4, zs, S4, h0, _⟩ := h
        obtain ⟨rfl, hx⟩ := y
        have i0 : i = 0 := by
          have hi : i < 1 := hi
          omega
        subst i0
        have zs0 := h0 rfl
        subst zs0
        cases hx
        clear S3
        walk_at "sx"
        refine x_dgT (k := [.inr pa_, .inr pb]) (d := .tuple [.tuple (ws.map .int), .int lim]) (pk4.tup hb3) (by simp [vlT, pactD]) fun v tp => ?_
        cases tp with
        | tup hv ta =>
          rename_i vv xs
          have nx : xs ≠ [] := by
            intro e
            subst e
            cases ta
          have lx : xs.length = 2 := ta.len
          refine x_catAS (pk4.tup hb3) hv (by simp) nx (by rw [lx, sizeLine_eq]; exact Nat.le_of_ble_eq_true rfl) fun p H6 pk6 S6 h6 => ?_
          clear S4
          refine x_eltS (by rw [sizeLine_eq]; decide) fun H7 pk7 S7 => ⟨pk4.trans (pk6.trans pk7), _, S7, fun e => absurd e (by decide), fun _ => ⟨_, rfl, ?_⟩⟩
          refine .tup (pk7.tup h6) ?_
          have t1 : TpAll H7 ([V.str pa_, V.str pb] ++ xs) ([PyData.str pa_, .str pb] ++ [.tuple (ws.map .int), .int lim]) := TpAll.app (.cons (.str _) (.cons (.str _) .nil)) (TpAll.pk (pk6.trans pk7) ta)
          exact t1
      · obtain ⟨pk4, zs, S4, _, h1⟩ := h
        clear S3
        obtain ⟨z, rfl, tz⟩ := h1 rfl
        have S8 := bookC (H := H4) (C := CB K) (b := b)
        exact k D z _ (pk2.trans (pk3.trans pk4)) S8.pick tz
end

end

/-! ### the box as a part -/
def boxR (b : Addr) (n : Nat) : Res := fun h => ∃ l, BoxAt h b l n
theorem satL_kb {b : Addr} {H H' : Hp} (kb : KB b H H') : ∀ {Rs : List Res} {hs : List Hp}, SatL H Rs hs → (∀ k ∈ hs, k b = none) → SatL H' Rs hs
  | [], [], _, _ => trivial
  | _ :: _, h :: hs, ⟨r, x, d, t⟩, n => ⟨r, fun a u e => by
      have c : a ≠ b := fun c => by rw [c, n h List.mem_cons_self] at e; cases e
      exact kb.at_ a u c (x a u e), d, satL_kb kb t fun k hk => n k (List.mem_cons_of_mem _ hk)⟩
  | [], _ :: _, h, _ => h.elim
  | _ :: _, [], h, _ => h.elim
/-- a draw in a heap of parts -/
theorem boxR_take {H : Hp} {b : Addr} {n : Nat} {Rs : List Res} (S : Sat H (boxR b n :: Rs)) : ∃ l, BoxAt H b l n ∧ ∀ H', KB b H H' → BoxAt H' b l (n + 1) → PK H H' ∧ SatP H' (boxR b (n + 1) :: Rs) := by
  obtain ⟨hs, h⟩ := S.ex
  match hs, h with
  | h :: hs, ⟨⟨l, B⟩, x, d, t⟩ =>
    refine ⟨l, B.ex' x, fun H' kb B' => ⟨fun a o p ha => ?_, ⟨?_⟩⟩⟩
    · refine kb.at_ a o (fun e => ?_) ha
      subst e
      obtain ⟨_, _, _, _, _, e1, _⟩ := (B.ex' x).ex
      rw [ha] at e1
      cases e1
      exact p
    · obtain ⟨i, k, tt, s, ns, e1, e2, e3⟩ := B.ex
      have nb : ∀ z ∈ hs, z b = none := fun z hz => by
        cases e : z b with
        | none => rfl
        | some u => exact absurd ((d z hz).1 b _ e1 (by rw [e]; exact Option.some_ne_none u)) id
      have nl : ∀ z ∈ hs, z l = none := fun z hz => by
        cases e : z l with
        | none => rfl
        | some u => exact absurd ((d z hz).1 l _ e2 (by rw [e]; exact Option.some_ne_none u)) id
      obtain ⟨i', k', t', s', ns', f1, f2, f3, f4⟩ := B'.ex
      refine ⟨(fun a => if a = b then H' b else if a = l then H' l else none) :: hs, ⟨l, ⟨i', k', t', s', ns', ?_, ?_, f3, f4⟩⟩, fun a u e => ?_, fun z hz => ⟨fun a u e q => ?_, fun a u e q => ?_⟩, satL_kb kb t nb⟩
      · simp only [if_true]; exact f1
      · simp only [f3, if_false, if_true]; exact f2
      · by_cases c : a = b
        · subst c; simpa using e
        · by_cases c2 : a = l
          · subst c2; simpa [c] using e
          · simp [c, c2] at e
      · by_cases c : a = b
        · subst c; exact absurd (nb z hz) q
        · by_cases c2 : a = l
          · subst c2; exact absurd (nl z hz) q
          · simp [c, c2] at e
      · by_cases c : a = b
        · subst c; rw [nb z hz] at e; cases e
        · by_cases c2 : a = l
          · subst c2; rw [nl z hz] at e; cases e
          · simp [c, c2] at q
theorem take_S {H : Hp} {Q : VK} {E : XK} {b : Addr} {z : Int} {n : Nat} {Rs T : List Res} {F : Res → List Res} [S : Sat H Rs] [f : Foc boxR b n Rs T F] (h0 : 0 < z) (h1 : z < 2 ^ 64) (hn : n ≤ 2 ^ 60) (q : ∀ r H', 0 ≤ r → r < z → PK H H' → Sat H' (F (boxR b (n + 1))) → Q (.int r) H') : spTake [.ref b, .int z] H Q E := by
  obtain ⟨l, B, k⟩ := boxR_take (f.out S)
  exact ⟨b, l, z, n, rfl, h0, h1, B, hn, fun r H' h2 h3 kb B' => q r H' h2 h3 (k H' kb B').1 (f.back (k H' kb B').2.s)⟩

/-! ### names, plainly -/
theorem nm_of {z : Str} (h1 : 1 ≤ z.cps.toList.length) (h2 : z.cps.toList.length ≤ 8) (h : ∀ c ∈ z.cps.toList, 97 ≤ c ∧ c ≤ 122) : Nm z := by
  refine ⟨by simpa [PySem.Str.length] using h1, by simpa [PySem.Str.length] using h2, fun i c hc => h c ?_⟩
  rw [← Array.getElem?_toList] at hc
  exact List.mem_of_getElem? hc
theorem Nm.list {z : Str} (h : Nm z) : 1 ≤ z.cps.toList.length ∧ z.cps.toList.length ≤ 8 ∧ ∀ c ∈ z.cps.toList, 97 ≤ c ∧ c ≤ 122 := by
  refine ⟨by simpa [PySem.Str.length] using h.pos, by simpa [PySem.Str.length] using h.len, fun c hc => ?_⟩
  obtain ⟨i, hi⟩ := List.getElem?_of_mem hc
  rw [Array.getElem?_toList] at hi
  exact h.all i c hi
theorem cps_app (a b : Str) : (a ++ b).cps.toList = a.cps.toList ++ b.cps.toList := by
  show (a.cps ++ b.cps).toList = _
  simp
theorem join_str (ys : List Str) : Txt.join ("" : Str) ys = PySem.Str.join "" ys := PySem.StrLaws.glued_eq_join "" ys
theorem sjoin_list : ∀ ys : List Str, (PySem.Str.join ("" : Str) ys).cps.toList = (ys.map fun y => y.cps.toList).flatten
  | [] => rfl
  | [x] => by simp [PySem.Str.join]
  | x :: y :: r => by
    have ih := sjoin_list (y :: r)
    show (x ++ ("" : Str) ++ PySem.Str.join "" (y :: r)).cps.toList = _
    rw [cps_app, cps_app, ih]
    show x.cps.toList ++ [] ++ _ = _
    rw [List.append_nil]
    rfl
theorem join_list (ys : List Str) : (Txt.join ("" : Str) ys).cps.toList = (ys.map fun y => y.cps.toList).flatten := by rw [join_str, sjoin_list]
/-- one sign of the alphabet -/
def Sg (y : Str) : Prop := ∃ c, y.cps.toList = [c] ∧ 97 ≤ c ∧ c ≤ 122
theorem join_nm {ys : List Str} (h : ∀ y ∈ ys, Sg y) (h1 : 1 ≤ ys.length) (h2 : ys.length ≤ 8) : Nm (Txt.join ("" : Str) ys) := by
  have hl : (ys.map fun y => y.cps.toList).flatten.length = ys.length := by
    clear h1 h2
    induction ys with
    | nil => rfl
    | cons y r ih =>
      obtain ⟨c, e, _⟩ := h y List.mem_cons_self
      rw [List.map_cons, List.flatten_cons, List.length_append, ih fun z hz => h z (List.mem_cons_of_mem _ hz), e, List.length_singleton, List.length_cons]
      omega
  refine nm_of (by rw [join_list, hl]; exact h1) (by rw [join_list, hl]; exact h2) fun c hc => ?_
  rw [join_list] at hc
  obtain ⟨l, m1, m2⟩ := List.mem_flatten.mp hc
  obtain ⟨y, m3, rfl⟩ := List.mem_map.mp m1
  obtain ⟨c2, e, h3, h4⟩ := h y m3
  rw [e] at m2
  rw [List.mem_singleton.mp m2]
  exact ⟨h3, h4⟩

/-! ### drawn names -/
abbrev s__law_named : Stmt := top 53
abbrev N__law_named : List Str := ["_law_box_here", "_law_alike", "_law_letters", "_law_size", "_law_word", "_law_base", "_law_at"]
theorem sc__law_named : FnScope N__law_named ["_law_box_here", "_law_alike"] (defScope s__law_named) := ⟨rfl, rfl, rfl, by decide +kernel, rfl, by decide +kernel, by decide +kernel⟩

theorem letter_at {r : Int} (h0 : 0 ≤ r) (h1 : r < 26) : ∃ c, atI letters.cps.toList r = some c ∧ 97 ≤ c ∧ c ≤ 122 := by
  have h : ∀ k : Fin 26, letters.cps.toList[k.val]? = some (97 + k.val) := by decide +kernel
  have := h ⟨r.toNat, by omega⟩
  refine ⟨97 + r.toNat, ?_, by omega, by omega⟩
  unfold atI ixN
  have hl : letters.cps.toList.length = 26 := by decide +kernel
  rw [hl, if_pos h0, if_pos (by omega)]
  exact this
theorem letters_len : letters.length ≤ sizeLine := by
  have h : letters.length = 26 := by decide +kernel
  rw [h, sizeLine_eq]
  omega
theorem sum_sg : ∀ {ys : List Str}, (∀ y ∈ ys, Sg y) → (ys.map (·.length)).sum = ys.length
  | [], _ => rfl
  | y :: r, h => by
    obtain ⟨c, e, _⟩ := h y List.mem_cons_self
    have e1 : y.length = 1 := by
      have := congrArg List.length e
      simpa [PySem.Str.length] using this
    rw [List.map_cons, List.sum_cons, sum_sg fun z hz => h z (List.mem_cons_of_mem _ hz), e1, List.length_cons]
    omega
theorem cutS_to {z : Str} {k : Nat} : (cutS z none (some (k : Int))).cps.toList = z.cps.toList.take k := by
  unfold cutS
  show List.take _ _ = _
  rw [HT.sIx_nat, HT.sIx_none, List.drop_zero, Nat.sub_zero]
  have e : z.length = z.cps.toList.length := by simp [PySem.Str.length]
  rw [e]
  by_cases c : k ≤ z.cps.toList.length
  · rw [Nat.min_eq_left c]
  · rw [Nat.min_eq_right (by omega), List.take_of_length_le (Nat.le_refl _), List.take_of_length_le (by omega)]
theorem cutS_from {z : Str} {k : Nat} : (cutS z (some (k : Int)) none).cps.toList = z.cps.toList.drop k := by
  unfold cutS
  show List.take _ _ = _
  rw [HT.sIx_nat, HT.sIx_none]
  have e : z.length = z.cps.toList.length := by simp [PySem.Str.length]
  rw [e]
  by_cases c : k ≤ z.cps.toList.length
  · rw [Nat.min_eq_left c, List.take_of_length_le (by rw [List.length_drop]; omega)]
  · rw [Nat.min_eq_right (by omega), List.drop_length, List.drop_eq_nil_of_le (by omega), List.take_nil]
theorem swap_nm {z : Str} {k c : Nat} (h : Nm z) (hk : k < z.length) (c1 : 97 ≤ c) (c2 : c ≤ 122) : Nm (cutS z none (some (k : Int)) ++ (⟨#[c]⟩ : Str) ++ cutS z (some ((k + 1 : Nat) : Int)) none) := by
  have hk2 : k < z.cps.toList.length := by simpa [PySem.Str.length] using hk
  obtain ⟨l1, l2, l3⟩ := h.list
  have e : (cutS z none (some (k : Int)) ++ (⟨#[c]⟩ : Str) ++ cutS z (some ((k + 1 : Nat) : Int)) none).cps.toList = z.cps.toList.take k ++ [c] ++ z.cps.toList.drop (k + 1) := by
    rw [cps_app, cps_app, cutS_to, cutS_from]
  refine nm_of (by rw [e, List.length_append, List.length_append, List.length_singleton]; omega) (by rw [e, List.length_append, List.length_append, List.length_take, List.length_drop, List.length_singleton]; omega) fun x hx => ?_
  rw [e] at hx
  rcases List.mem_append.mp hx with hx | hx
  · rcases List.mem_append.mp hx with hx | hx
    · exact l3 x (List.mem_of_mem_take hx)
    · rw [List.mem_singleton.mp hx]; exact ⟨c1, c2⟩
  · exact l3 x (List.mem_of_mem_drop hx)
def spNamed : Sp := fun vs H Q _ => ∃ (b a : Addr) (n : Nat) (ns : List Str) (Rs : List Res), vs = [.ref b, .ref a] ∧ Sat H (boxR b n :: cell a (.lst (ns.map V.str)) :: Rs) ∧ n ≤ 2 ^ 50 ∧ (∀ z ∈ ns, Nm z) ∧
  ∀ z H' m, Nm z → PK H H' → m ≤ n + 12 → Sat H' (boxR b m :: cell a (.lst (ns.map V.str)) :: Rs) → Q (.str z) H'
section
variable {P : Program} {w : World} {K : PySem.W.Frag} {mg : Str → Option Value} {base : Heap}
theorem D_named (T : Txt K mg) (D__law_take : Dn P w K mg base CX0 2 "_law_take" ["_law_box_here", "_law_size"] spTake) (F : Df K mg "_law_named" s__law_named) : Dn P w K mg base CX0 3 "_law_named" ["_law_box_here", "_law_alike"] spNamed := by
  refine F.dn sc__law_named (fun _ _ _ _ _ _ us hl => match us, hl with | [_, _], _ => rfl) (fun vs H Q E h => ?_) (fun f cdv A outer s H vs Q E hr hK h => ?_)
  · obtain ⟨b, a, n, ns, Rs, rfl, _⟩ := h
    rfl
  · obtain ⟨b, a, n, ns, Rs, rfl, S, hn, hns, k⟩ := h
    refine ⟨_, (pss_cons (ps_set (i := 2) sc__law_named.nd rfl (Or.inr rfl) pe_str)
      (pss_cons (ps_set (i := 3) sc__law_named.nd rfl (Or.inl rfl) (pe_op op_add pe_int (pe_dn D__law_take (hr.mono (by first | decide | omega)) pass0 (pa_cons (pv 0) (pa_cons pe_int pa_nil)))))
      (pss_cons (ps_set (i := 4) sc__law_named.nd rfl (Or.inl rfl) (pe_joinN pe_str (pe_lc (own := [("_law_at", 6)]) (g := gName 6) (tt := tYes) rfl sc__law_named.nd (pi_range1 rfl T.m_range (pa_cons (pv 3) pa_nil)) (blkOk_by (own := [("_law_at", 6)]) (N := N__law_named) (sc := defScope s__law_named) (by decide +kernel)) (fun _ _ _ _ _ => pg_name (i := 6) sc__law_named.nd rfl (Or.inl rfl)) (fun _ _ _ _ _ => pts_nil) (fun _ _ _ _ _ => (pe_ix ix_str (pv 2) (pe_dn D__law_take (hr.mono (by first | decide | omega)) pass0 (pa_cons (pv 0) (pa_cons pe_int pa_nil))) (fun _ _ => rfl))))))
      (pss_cons (ps_if (PW.pt (pw_or (pt_cmpR op_eq (pe_callB g_len rfl T.m_len boot_len (pa_cons (pv 1) pa_nil)) pe_int (nomark _)) (pw_or1 (pt_cmpR op_eq (pe_dn D__law_take (hr.mono (by first | decide | omega)) pass0 (pa_cons (pv 0) (pa_cons pe_int pa_nil))) pe_int (nomark _))))) (pss_one (ps_ret (pv 4))) pss_nil)
      (pss_cons (ps_set (i := 5) sc__law_named.nd rfl (Or.inl rfl) (pe_ix ix_list (pv 1) pe_int (fun _ _ => rfl)))
      (pss_cons (ps_set (i := 6) sc__law_named.nd rfl (Or.inl rfl) (pe_dn D__law_take (hr.mono (by first | decide | omega)) pass0 (pa_cons (pv 0) (pa_cons (pe_callB g_lenS rfl T.m_len boot_len (pa_cons (pv 5) pa_nil)) pa_nil))))
      (pss_one (ps_ret (pe_op op_addS (pe_op op_addS (pe_slice sl_str (pv 5) po_none (po_some (pv 6))) (pe_ix ix_str (pv 2) (pe_dn D__law_take (hr.mono (by first | decide | omega)) pass0 (pa_cons (pv 0) (pa_cons pe_int pa_nil))) (fun _ _ => rfl))) (pe_slice sl_str (pv 5) (po_some (pe_op op_add (pv 6) pe_int)) po_none)))))))))), ?_⟩
    try rw [hK]
    rw [show L2.start N__law_named [.ref b, .ref a] = [some (.ref b), some (.ref a), none, none, none, none, none] from rfl]
    walk_at "sx"
    refine take_S (by decide) (by decide) (by omega) fun r H1 h0 h1 pk1 S1 => ?_
    clear S
    walk_at "sx"
    refine x_iRQ (by omega) (by omega) ?_
    refine x_lcQ walk_r0 (fun D i H' => PK H1 H' ∧ ∃ ys : List Str, ys.length = i ∧ (∀ y ∈ ys, Sg y) ∧ Sat H' (cell D (.lst (ys.map V.str)) :: boxR b (n + 1 + i) :: cell a (.lst (ns.map V.str)) :: Rs)) (fun D hD => ⟨PK.of_ex (Ex.new hD), [], rfl, fun y h => by simp at h, S1.new hD⟩) (fun _ _ _ _ _ => trivial) (fun D i x H2 H3 hi h y => ?_) (fun D H2 h => ?_)
    · obtain ⟨pk2, ys, hl, hg, S2⟩ := h
      obtain ⟨rfl, rfl⟩ := y
      clear S1
      walk_at "sx"
      refine take_S (by decide) (by decide) (by omega) fun r2 H4 g0 g1 pk4 S4 => ?_
      clear S2
      walk_at "sx"
      obtain ⟨c, hc, c1, c2⟩ := letter_at g0 g1
      refine ⟨letters, r2, c, rfl, rfl, letters_len, hc, ?_⟩
      refine x_eltS (by rw [List.length_map, hl, sizeLine_eq]; omega) fun H5 pk5 S5 => ⟨pk2.trans (pk4.trans pk5), ys ++ [⟨#[c]⟩], by rw [List.length_append, hl]; rfl, fun y hy => ?_, ?_⟩
      · rcases List.mem_append.mp hy with hy | hy
        · exact hg y hy
        · rw [List.mem_singleton.mp hy]
          exact ⟨c, rfl, c1, c2⟩
      · rw [List.map_append]
        exact S5
    · obtain ⟨pk2, ys, hl, hg, S2⟩ := h
      clear S1
      walk_at "sx"
      have hl8 : 1 ≤ ys.length ∧ ys.length ≤ 8 := by omega
      refine x_joinL (ys := ys) (SqL.of sat_at) (by rw [sum_sg hg]; show ys.length + ys.length * 0 ≤ _; omega) ?_
      have hw := join_nm hg hl8.1 hl8.2
      walk_at "sx"
      rw [List.length_map]
      refine x_orD (fun c => ?_) (fun c => ?_)
      · walk_at "sx"
        exact k _ _ (n + 1 + (1 + r).toNat) hw (by walk_at "pk") (by omega) pick
      · walk_at "sx"
        refine take_S (by decide) (by decide) (by omega) fun r2 H4 g0 g1 pk4 S4 => ?_
        clear S2
        walk_at "sx"
        refine x_ifD (fun _ => ?_) (fun _ => ?_)
        · walk_at "sx"
          exact k _ _ (n + 1 + (1 + r).toNat + 1) hw (by walk_at "pk") (by omega) pick
        · obtain ⟨z0, rest, rfl⟩ : ∃ z0 rest, ns = z0 :: rest := by
            cases ns with
            | nil => exact absurd rfl c
            | cons z r => exact ⟨z, r, rfl⟩
          have hz0 := hns z0 List.mem_cons_self
          have p0 := hz0.pos
          have p1 := hz0.len
          have hzz : z0.length ≤ sizeLine := by rw [sizeLine_eq]; omega
          walk_at "sx"
          refine x_lenS hzz ?_
          walk_at "sx"
          refine take_S (by omega) (by omega) (by omega) fun r3 H5 q0 q1 pk5 S5 => ?_
          clear S4
          obtain ⟨k2, rfl⟩ : ∃ k2 : Nat, r3 = (k2 : Int) := ⟨r3.toNat, by omega⟩
          walk_at "sx"
          refine ⟨z0, rfl, hzz, ?_⟩
          walk_at "sx"
          refine take_S (by decide) (by decide) (by omega) fun r4 H6 u0 u1 pk6 S6 => ?_
          clear S5
          walk_at "sx"
          obtain ⟨c4, hc4, d1, d2⟩ := letter_at u0 u1
          refine ⟨letters, r4, c4, rfl, rfl, letters_len, hc4, ?_⟩
          have hN := swap_nm hz0 (k := k2) (by omega) d1 d2
          have ll : ∀ z : Str, z.length = z.cps.toList.length := fun z => by simp [PySem.Str.length]
          have l1 : (cutS z0 none (some (k2 : Int))).length ≤ 8 := by
            rw [ll, cutS_to, List.length_take, ← ll]; omega
          have l2 : (cutS z0 (some ((k2 + 1 : Nat) : Int)) none).length ≤ 8 := by
            rw [ll, cutS_from, List.length_drop, ← ll]; omega
          have l3 : (cutS z0 none (some (k2 : Int)) ++ (⟨#[c4]⟩ : Str)).length ≤ 9 := by
            rw [ll, cps_app, List.length_append, ← ll, List.length_singleton]; omega
          walk_at "sx"
          refine x_addS (by show (cutS z0 none (some (k2 : Int))).length + 1 ≤ _; rw [sizeLine_eq]; omega) ?_
          walk_at "sx"
          refine ⟨z0, rfl, hzz, ?_⟩
          walk_at "sx"
          refine x_addS (by rw [sizeLine_eq]; exact Nat.le_trans (Nat.add_le_add l3 l2) (by omega)) ?_
          exact k _ _ (n + 1 + (1 + r).toNat + 3) hN (by walk_at "pk") (by omega) pick
end

/-! ### many names; one more of each kind -/
abbrev s__law_many_names : Stmt := top 55
abbrev N__law_many_names : List Str := ["_law_box_here", "_law_many", "_law_letters", "_law_at"]
theorem sc__law_many_names : FnScope N__law_many_names ["_law_box_here", "_law_many"] (defScope s__law_many_names) := ⟨rfl, rfl, rfl, by decide +kernel, rfl, by decide +kernel, by decide +kernel⟩

/-- the i-th of many names -/
structure MN (i : Nat) (z : Str) : Prop where
  ex : ∃ tl : List Nat, z.cps.toList = (97 + i % 26) :: (97 + i / 26) :: tl ∧ 1 ≤ tl.length ∧ tl.length ≤ 6 ∧ ∀ c ∈ tl, 97 ≤ c ∧ c ≤ 122
theorem inL_of {c : Nat} (h1 : 97 ≤ c) (h2 : c ≤ 122) : inL c = true := by
  have h : ∀ k : Fin 26, inL (97 + k.val) = true := by decide +kernel
  have := h ⟨c - 97, by omega⟩
  rwa [show 97 + (c - 97) = c by omega] at this
theorem str_len (z : Str) : z.length = z.cps.toList.length := by simp [PySem.Str.length]
theorem MN.isN {i : Nat} {z : Str} (h : MN i z) (hi : i < 600) : isN z = true := by
  obtain ⟨tl, e, t1, t2, t3⟩ := h.ex
  unfold Law.isN
  rw [str_len, e, List.length_cons, List.length_cons, decide_eq_true (by omega), decide_eq_true (by omega), Bool.true_and, Bool.true_and]
  refine List.all_eq_true.mpr fun c hc => ?_
  rcases List.mem_cons.mp hc with rfl | hc
  · exact inL_of (by omega) (by omega)
  · rcases List.mem_cons.mp hc with rfl | hc
    · exact inL_of (by omega) (by omega)
    · exact inL_of (t3 c hc).1 (t3 c hc).2
theorem MN.len {i : Nat} {z : Str} (h : MN i z) : z.length ≤ 8 := by
  obtain ⟨tl, e, t1, t2, t3⟩ := h.ex
  rw [str_len, e, List.length_cons, List.length_cons]
  omega
theorem MN.inj {i j : Nat} {z : Str} (h : MN i z) (g : MN j z) : i = j := by
  obtain ⟨tl, e, _⟩ := h.ex
  obtain ⟨tl2, e2, _⟩ := g.ex
  rw [e] at e2
  injection e2 with a b
  injection b with c d
  have := Nat.div_add_mod i 26
  have := Nat.div_add_mod j 26
  omega
def spMany : Sp := fun vs H Q _ => ∃ (b : Addr) (n k : Nat) (Rs : List Res), vs = [.ref b, .int (k : Int)] ∧ Sat H (boxR b n :: Rs) ∧ n ≤ 2 ^ 40 ∧ k ≤ 100 ∧
  ∀ (p : Addr) (ws : List Str) (H' : Hp) (m : Nat), ws.length = k → (∀ i z, ws[i]? = some z → MN i z) → PK H H' → m ≤ n + 12 * k → Sat H' (cell p (.lst (ws.map V.str)) :: boxR b m :: Rs) → Q (.ref p) H'
theorem letter_n {i : Nat} (h : i < 26) : atI letters.cps.toList (i : Int) = some (97 + i) := by
  have h1 : ∀ k : Fin 26, letters.cps.toList[k.val]? = some (97 + k.val) := by decide +kernel
  have hl : letters.cps.toList.length = 26 := by decide +kernel
  unfold atI ixN
  rw [hl, if_pos (by omega), if_pos (by omega)]
  exact h1 ⟨i, h⟩
theorem mn_of {i : Nat} {z : Str} (h : Nm z) : MN i ((⟨#[97 + i % 26]⟩ : Str) ++ (⟨#[97 + i / 26]⟩ : Str) ++ cutS z none (some 6)) := by
  obtain ⟨l1, l2, l3⟩ := h.list
  refine ⟨z.cps.toList.take 6, ?_, ?_, ?_, fun c hc => l3 c (List.mem_of_mem_take hc)⟩
  · rw [cps_app, cps_app, show (cutS z none (some 6)).cps.toList = z.cps.toList.take 6 from cutS_to (k := 6)]
    rfl
  · rw [List.length_take]; omega
  · rw [List.length_take]; omega
section
variable {P : Program} {w : World} {K : PySem.W.Frag} {mg : Str → Option Value} {base : Heap}
theorem D_many (T : Txt K mg) (D__law_named : Dn P w K mg base CX0 3 "_law_named" ["_law_box_here", "_law_alike"] spNamed) (F : Df K mg "_law_many_names" s__law_many_names) : Dn P w K mg base CX0 4 "_law_many_names" ["_law_box_here", "_law_many"] spMany := by
  refine F.dn sc__law_many_names (fun _ _ _ _ _ _ us hl => match us, hl with | [_, _], _ => rfl) (fun vs H Q E h => ?_) (fun f cdv A outer s H vs Q E hr hK h => ?_)
  · obtain ⟨b, n, k0, Rs, rfl, _⟩ := h
    rfl
  · obtain ⟨b, n, k0, Rs, rfl, S, hn, hk, k⟩ := h
    refine ⟨_, (pss_cons (ps_set (i := 2) sc__law_many_names.nd rfl (Or.inr rfl) pe_str)
      (pss_one (ps_ret (pe_lc (own := [("_law_at", 3)]) (g := gName 3) (tt := tYes) rfl sc__law_many_names.nd (pi_range1 rfl T.m_range (pa_cons (pv 1) pa_nil)) (blkOk_by (own := [("_law_at", 3)]) (N := N__law_many_names) (sc := defScope s__law_many_names) (by decide +kernel)) (fun _ _ _ _ _ => pg_name (i := 3) sc__law_many_names.nd rfl (Or.inl rfl)) (fun _ _ _ _ _ => pts_nil) (fun _ _ _ _ _ => (pe_op op_addS (pe_op op_addS (pe_ix ix_str (pv 2) (pe_op op_mod (pv 3) pe_int) (fun _ _ => rfl)) (pe_ix ix_str (pv 2) (pe_op op_fdivW (pv 3) pe_int) (fun _ _ => rfl))) (pe_slice sl_str (pe_dn D__law_named (hr.mono (by first | decide | omega)) pass0 (pa_cons (pv 0) (pa_cons (pe_lst pa_nil) pa_nil))) po_none (po_some pe_int)))))))), ?_⟩
    try rw [hK]
    rw [show L2.start N__law_many_names [.ref b, .int (k0 : Int)] = [some (.ref b), some (.int (k0 : Int)), none, none] from rfl]
    walk_at "sx"
    refine x_iRQ (by omega) (by omega) ?_
    rw [Int.toNat_natCast]
    refine x_lcQ walk_r0 (fun D i H' => PK H H' ∧ ∃ (ws : List Str) (m : Nat), ws.length = i ∧ (∀ i z, ws[i]? = some z → MN i z) ∧ m ≤ n + 12 * i ∧ Sat H' (cell D (.lst (ws.map V.str)) :: boxR b m :: Rs)) (fun D hD => ⟨PK.of_ex (Ex.new hD), [], n, rfl, fun i z h => by simp at h, by omega, S.new hD⟩) (fun _ _ _ _ _ => trivial) (fun D i x H2 H3 hi h y => ?_) (fun D H2 h => ?_)
    · obtain ⟨pk2, ws, m, hl, hw, hm, S2⟩ := h
      obtain ⟨rfl, rfl⟩ := y
      clear S
      walk_at "sx"
      refine ⟨letters, (i : Int) % 26, 97 + i % 26, rfl, rfl, letters_len, by rw [show (i : Int) % 26 = ((i % 26 : Nat) : Int) by omega]; exact letter_n (by omega), ?_⟩
      walk_at "sx"
      refine ⟨letters, (i : Int) / 26, 97 + i / 26, rfl, rfl, letters_len, by rw [show (i : Int) / 26 = ((i / 26 : Nat) : Int) by omega]; exact letter_n (by omega), ?_⟩
      walk_at "sx"
      refine x_addS (by show 1 + 1 ≤ _; rw [sizeLine_eq]; decide) ?_
      walk_at "sx"
      rename_i p4 H4 pk4 S4
      clear S2
      have S5 : Sat H4 (boxR b m :: cell p4 (.lst (([] : List Str).map V.str)) :: cell D (.lst (ws.map V.str)) :: Rs) := (show Sat H4 (boxR b m :: cell p4 (.lst []) :: cell D (.lst (ws.map V.str)) :: Rs) from S4.pick)
      clear S4
      refine ⟨b, p4, m, [], _, rfl, S5, by omega, fun z hz => by simp at hz, fun z H6 m2 hz pk6 hm6 S6 => ?_⟩
      clear S5
      have z8 := hz.len
      walk_at "sx"
      refine ⟨z, rfl, by rw [sizeLine_eq]; omega, ?_⟩
      walk_at "sx"
      have l2 : (cutS z none (some 6)).length ≤ 8 := by
        rw [str_len, show (cutS z none (some 6)).cps.toList = z.cps.toList.take 6 from cutS_to (k := 6), List.length_take]
        omega
      refine x_addS (by show 2 + (cutS z none (some 6)).length ≤ _; rw [sizeLine_eq]; omega) ?_
      refine x_eltS (by rw [List.length_map, sizeLine_eq]; omega) fun H7 pk7 S7 => ?_
      refine ⟨pk2.trans (pk4.trans (pk6.trans pk7)), ws ++ [(⟨#[97 + i % 26]⟩ : Str) ++ (⟨#[97 + i / 26]⟩ : Str) ++ cutS z none (some 6)], m2, by rw [List.length_append, hl]; rfl, fun j y hy => ?_, by omega, ?_⟩
      rotate_left
      · rw [List.map_append]
        show Sat H7 (cell D (.lst (ws.map V.str ++ [.str ((⟨#[97 + i % 26]⟩ : Str) ++ (⟨#[97 + i / 26]⟩ : Str) ++ cutS z none (some 6))])) :: boxR b m2 :: Rs)
        exact S7.pick
      · by_cases c : j < ws.length
        · rw [List.getElem?_append_left c] at hy
          exact hw j y hy
        · rw [List.getElem?_append_right (by omega)] at hy
          have h1 : j - ws.length < 1 := (List.getElem?_eq_some_iff.mp hy).1
          have h2 : j = i := by omega
          subst h2
          rw [show j - ws.length = 0 by omega] at hy
          cases hy
          exact mn_of hz
    · obtain ⟨pk2, ws, m, hl, hw, hm, S2⟩ := h
      exact k D ws _ m hl hw pk2 hm S2
end

/-! ### plain facts of the two books -/
theorem ord_uniq {Td T' : Told} (nd : (Td.map fun t => t.1).Nodup) (p : T'.Perm Td) (o : inOrd T') (o2 : inOrd Td) : T' = Td := by
  refine List.Perm.eq_of_pairwise (fun a b ha hb h1 h2 => ?_) o o2 p
  have h1 : SrtO.lexB (b.2.1, b.1) (a.2.1, a.1) = false := h1
  have h2 : SrtO.lexB (a.2.1, a.1) (b.2.1, b.1) = false := h2
  have e : a.1 = b.1 := by
    have n1 : ¬ SrtO.lexB (b.2.1, b.1) (a.2.1, a.1) = true := by rw [h1]; exact Bool.false_ne_true
    have n2 : ¬ SrtO.lexB (a.2.1, a.1) (b.2.1, b.1) = true := by rw [h2]; exact Bool.false_ne_true
    rw [SrtO.lexB_iff] at n1 n2
    simp only at n1 n2
    omega
  obtain ⟨n, d, x⟩ := b
  exact told_at nd hb a (p.subset ha) e
theorem look_of {F : FolkL} {Td : Told} {pc : Option Pact} {fresh : Int} {o : LOut} (nf : (F.map fun f => f.1).Nodup) (lf : F.length ≤ 1000) (nd : (Td.map fun t => t.1).Nodup) (lt : Td.length ≤ 1000) (od : inOrd Td) (h : ∀ pa, lookO pc fresh Td ⟨crew0 F, [], pa⟩ = o) : LookAt F Td pc fresh o :=
  ⟨nf, lf, nd, lt, fun pa T' p o' => by rw [ord_uniq nd p o' od]; exact h pa⟩
structure Nms (s0 s1 n0 n1 n2 n3 : Str) : Prop where
  a0 : MN 0 s0
  a1 : MN 1 s1
  m0 : MN 0 n0
  m1 : MN 1 n1
  m2 : MN 2 n2
  m3 : MN 3 n3
theorem mn_ne {i j : Nat} {x y : Str} (h : MN i x) (g : MN j y) (e : i ≠ j) : x ≠ y := fun z => e (by subst z; exact h.inj g)
theorem mn_long {i : Nat} {z : Str} (h : MN i z) : 3 ≤ z.cps.toList.length := by
  obtain ⟨tl, e, t1, _⟩ := h.ex
  rw [e, List.length_cons, List.length_cons]
  omega
theorem mn_a {i : Nat} {z : Str} (h : MN i z) : z ≠ "a" := fun e => by
  have := mn_long h
  rw [e] at this
  exact absurd this (by decide +kernel)
theorem mn_e {i : Nat} {z : Str} (h : MN i z) : z ≠ "" := fun e => by
  have := mn_long h
  rw [e] at this
  exact absurd this (by decide +kernel)
theorem mn_lt {x y : Str} (h : MN 0 x) (g : MN 1 y) : x.cps.toList < y.cps.toList := by
  obtain ⟨t, e, _⟩ := h.ex
  obtain ⟨u, e2, _⟩ := g.ex
  rw [e, e2]
  exact List.cons_lt_cons_iff.mpr (.inl (by decide))
section
variable {x y : Str} (h : MN 0 x) (g : MN 1 y)
include h g
theorem mn_min : minS x y = x := by
  unfold minS
  rw [decide_eq_false (fun z => List.lt_asymm z (mn_lt h g)), if_neg Bool.false_ne_true]
theorem mn_max : maxS x y = y := by
  unfold maxS
  rw [decide_eq_true (mn_lt h g), if_pos rfl]
theorem mn_min2 : minS y x = x := by
  unfold minS
  rw [decide_eq_true (mn_lt h g), if_pos rfl]
theorem mn_max2 : maxS y x = y := by
  unfold maxS
  rw [decide_eq_false (fun z => List.lt_asymm z (mn_lt h g)), if_neg Bool.false_ne_true]
end
/-! ### the sides and the men -/
def sid2 (s0 s1 : Str) : KDs := [(.inr s0, .bool true), (.inr s1, .bool true)]
theorem has_sid {s0 s1 n : Str} : hasD (sid2 s0 s1) (.inr n) = (decide (s0 = n) || decide (s1 = n)) := by
  simp [hasD, sid2]
theorem has_folk {F : FolkL} {n : Str} : hasD (folkD F) (.inr n) = F.any fun f => decide (f.1 = n) := by
  unfold hasD folkD
  rw [List.any_map]
  congr 1
  funext f
  show decide ((Sum.inr f.1 : Key) = Sum.inr n) = _
  simp
theorem folk_put {F : FolkL} {n s : Str} {r : Int} (h : (F.any fun f => decide (f.1 = n)) = false) : putD (folkD F) (.inr n) (.tuple [.str s, .int r]) = folkD (F ++ [(n, s, r)]) := by
  unfold putD
  rw [has_folk, h, if_neg Bool.false_ne_true]
  unfold folkD
  rw [List.map_append]
  rfl

/-! ### the first book -/
section
variable (s0 s1 n0 n1 n2 n3 : Str) (r0 r1 r2 r3 base t : Int)
def fk4 : FolkL := [(n0, s0, r0), (n1, s0, r1), (n2, s0, r2), (n3, s0, r3)]
def pc1 : Pact := ⟨s0, s1, [1, 1, 2, 2, 4, 8], 0⟩
def td1 : Told := [(1, base, .one (.take n0 s1))]
def td2 : Told := [(1, base, .one (.take n0 s1)), (2, base + t, .one (.die n1))]
def st4 (Td : Told) (l : Int) : BSt := ⟨sid2 s0 s1, folkD (fk4 s0 n0 n1 n2 n3 r0 r1 r2 r3), some (pc1 s0 s1), toldD Td, l⟩
end
section
variable {s0 s1 n0 n1 n2 n3 : Str} {r0 r1 r2 r3 base t : Int}
theorem fk4_nd (N : Nms s0 s1 n0 n1 n2 n3) : ((fk4 s0 n0 n1 n2 n3 r0 r1 r2 r3).map fun f => f.1).Nodup := by
  have a := mn_ne N.m0 N.m1 (by decide)
  have b := mn_ne N.m0 N.m2 (by decide)
  have c := mn_ne N.m0 N.m3 (by decide)
  have d := mn_ne N.m1 N.m2 (by decide)
  have e := mn_ne N.m1 N.m3 (by decide)
  have f := mn_ne N.m2 N.m3 (by decide)
  simp [fk4, a, b, c, d, e, f]
theorem ord1 : inOrd (td1 s1 n0 base) := List.pairwise_singleton _ _
theorem not_lex {a b c d : Int} (h : c < a ∨ (c = a ∧ d ≤ b)) : SrtO.lexB (a, b) (c, d) = false := by
  cases e : SrtO.lexB (a, b) (c, d) with
  | false => rfl
  | true =>
    rw [SrtO.lexB_iff] at e
    simp only at e
    omega
theorem ord2 (h : 0 ≤ t) : inOrd (td2 s1 n0 n1 base t) := by
  unfold inOrd td2
  refine List.pairwise_cons.mpr ⟨fun z hz => ?_, List.pairwise_singleton _ _⟩
  cases List.mem_singleton.mp hz
  exact not_lex (by simp only; omega)
theorem ord3 {x : Dd} {day : Int} (h : 0 ≤ t) (h2 : t ≤ 8) (hd : day = base + 9) : inOrd (td2 s1 n0 n1 base t ++ [(3, day, x)]) := by
  show ([(1, base, .one (.take n0 s1)), (2, base + t, .one (.die n1)), (3, day, x)] : Told).Pairwise _
  refine List.pairwise_cons.mpr ⟨fun z hz => ?_, List.pairwise_cons.mpr ⟨fun z hz => ?_, List.pairwise_singleton _ _⟩⟩
  · rcases List.mem_cons.mp hz with e | hz
    · subst e
      exact not_lex (by simp only; omega)
    · cases List.mem_singleton.mp hz
      exact not_lex (by simp only; omega)
  · cases List.mem_singleton.mp hz
    exact not_lex (by simp only; omega)
/-- the crew behind the two deeds -/
def cr2 (s0 s1 n0 n1 n2 n3 : Str) (r0 r1 r2 r3 base : Int) : Crew := [(n0, { man0 s0 r0 with keeper := s1, caught := base, bonds := [] }), (n1, { man0 s0 r1 with dead := true, keeper := "", bonds := [] }), (n2, man0 s0 r2), (n3, man0 s0 r3)]
theorem run1 (N : Nms s0 s1 n0 n1 n2 n3) {pc : Option Pact} {fresh : Int} {T : Told} {pa : Addr} : lookO pc fresh (td1 s1 n0 base ++ T) ⟨crew0 (fk4 s0 n0 n1 n2 n3 r0 r1 r2 r3), [], pa⟩ = lookO pc fresh T ⟨(n0, { man0 s0 r0 with keeper := s1, caught := base, bonds := [] }) :: crew0 ((fk4 s0 n0 n1 n2 n3 r0 r1 r2 r3).drop 1), [], pa⟩ := by
  have h : s0 ≠ s1 := mn_ne N.a0 N.a1 (by decide)
  simp [td1, fk4, crew0, lookO, fallS, oneM, findM, setM, fallM, Deed.man, h, dropD]
theorem run2 (N : Nms s0 s1 n0 n1 n2 n3) {pc : Option Pact} {fresh : Int} {T : Told} {pa : Addr} : lookO pc fresh (td2 s1 n0 n1 base t ++ T) ⟨crew0 (fk4 s0 n0 n1 n2 n3 r0 r1 r2 r3), [], pa⟩ = lookO pc fresh T ⟨cr2 s0 s1 n0 n1 n2 n3 r0 r1 r2 r3 base, [], pa⟩ := by
  have h : s0 ≠ s1 := mn_ne N.a0 N.a1 (by decide)
  have h2 : n0 ≠ n1 := mn_ne N.m0 N.m1 (by decide)
  simp [td2, fk4, crew0, lookO, fallS, oneM, findM, setM, fallM, Deed.man, h, h2, dropD, cr2]
theorem look0 (N : Nms s0 s1 n0 n1 n2 n3) {pc : Option Pact} {fresh : Int} : LookAt (fk4 s0 n0 n1 n2 n3 r0 r1 r2 r3) [] pc fresh .ok :=
  look_of (fk4_nd N) (by simp [fk4]) List.nodup_nil (by simp) .nil fun pa => rfl
theorem look1 (N : Nms s0 s1 n0 n1 n2 n3) {pc : Option Pact} {fresh : Int} : LookAt (fk4 s0 n0 n1 n2 n3 r0 r1 r2 r3) (td1 s1 n0 base) pc fresh .ok :=
  look_of (fk4_nd N) (by simp [fk4]) (by simp [td1]) (by simp [td1]) ord1 fun pa => by
    have := run1 N (r0 := r0) (r1 := r1) (r2 := r2) (r3 := r3) (base := base) (pc := pc) (fresh := fresh) (T := []) (pa := pa)
    rw [List.append_nil] at this
    exact this
theorem look2 (N : Nms s0 s1 n0 n1 n2 n3) (h : 0 ≤ t) {pc : Option Pact} {fresh : Int} : LookAt (fk4 s0 n0 n1 n2 n3 r0 r1 r2 r3) (td2 s1 n0 n1 base t) pc fresh .ok :=
  look_of (fk4_nd N) (by simp [fk4]) (by simp [td2]) (by simp [td2]) (ord2 h) fun pa => by
    have := run2 N (r0 := r0) (r1 := r1) (r2 := r2) (r3 := r3) (base := base) (t := t) (pc := pc) (fresh := fresh) (T := []) (pa := pa)
    rw [List.append_nil] at this
    exact this
theorem look3 (N : Nms s0 s1 n0 n1 n2 n3) (h : 0 ≤ t) (h2 : t ≤ 8) {day : Int} (hd : day = base + 9) {x : Dd} {c : Str} {pc : Option Pact} (e : ∀ pa, fallS pc day x ⟨cr2 s0 s1 n0 n1 n2 n3 r0 r1 r2 r3 base, [], pa⟩ = .bad c) : LookAt (fk4 s0 n0 n1 n2 n3 r0 r1 r2 r3) (td2 s1 n0 n1 base t ++ [(3, day, x)]) pc 3 (.bad c) :=
  look_of (fk4_nd N) (by simp [fk4]) (by simp [td2]) (by simp [td2]) (ord3 h h2 hd) fun pa => by
    rw [run2 N]
    show (match fallS pc day x ⟨cr2 s0 s1 n0 n1 n2 n3 r0 r1 r2 r3 base, [], pa⟩ with
      | .ok t' => lookO pc 3 [] t'
      | .bad c => if (3 : Int) = 3 then LOut.bad c else .brk
      | .no => .no) = _
    rw [e pa]
    rfl
theorem fall_own (N : Nms s0 s1 n0 n1 n2 n3) {day : Int} {pc : Option Pact} {pa : Addr} : fallS pc day (.one (.take n1 s0)) ⟨cr2 s0 s1 n0 n1 n2 n3 r0 r1 r2 r3 base, [], pa⟩ = .bad "Own" := by
  have h2 : n0 ≠ n1 := mn_ne N.m0 N.m1 (by decide)
  simp [fallS, oneM, findM, fallM, Deed.man, h2, cr2]
theorem fall_gone (N : Nms s0 s1 n0 n1 n2 n3) {day : Int} {pc : Option Pact} {pa : Addr} : fallS pc day (.one (.word n1)) ⟨cr2 s0 s1 n0 n1 n2 n3 r0 r1 r2 r3 base, [], pa⟩ = .bad "Gone" := by
  have h2 : n0 ≠ n1 := mn_ne N.m0 N.m1 (by decide)
  simp [fallS, oneM, findM, fallM, Deed.man, h2, cr2]
theorem worth_at {r : Int} (h0 : 0 ≤ r) (h1 : r < 6) : ∃ u, ([1, 1, 2, 2, 4, 8] : List Int)[r.toNat]? = some u := by
  have : r.toNat < ([1, 1, 2, 2, 4, 8] : List Int).length := by simp; omega
  exact ⟨_, List.getElem?_eq_getElem this⟩
theorem fall_off (N : Nms s0 s1 n0 n1 n2 n3) (h0 : 0 ≤ r0) (h1 : r0 < 6) {day : Int} {pa : Addr} : fallS (some (pc1 s0 s1)) day (.swap s0 s1 [n0, n2] []) ⟨cr2 s0 s1 n0 n1 n2 n3 r0 r1 r2 r3 base, [], pa⟩ = .bad "OffRoll" := by
  have h02 : n0 ≠ n2 := mn_ne N.m0 N.m2 (by decide)
  have h12 : n1 ≠ n2 := mn_ne N.m1 N.m2 (by decide)
  have e1 : ("" : Str) ≠ s1 := fun e => mn_e N.a1 e.symm
  obtain ⟨u, hu⟩ := worth_at h0 h1
  simp [fallS, swapO, pc1, mn_min N.a0 N.a1, mn_max N.a0 N.a1, goneO, findM, cr2, onR, hu, h0, h02, h12, e1, hasD]
end

/-! ### the other book -/
section
variable (s0 s1 n0 n1 : Str) (rk day : Int)
def fkL : FolkL := [(n0, s0, 0), (n1, s1, rk)]
def pcL : Pact := ⟨s0, s1, [1, 1, 1, 1, 1, 1], 0⟩
def pcM : Pact := ⟨s0, s1, [1, 2, 4, 8, 16, 32], 0⟩
def tL1 : Told := [(1, day, .one (.take n0 s1))]
def tL2 : Told := [(1, day, .one (.take n0 s1)), (2, day, .one (.take n1 s0))]
def tL3 : Told := [(1, day, .one (.take n0 s1)), (2, day, .one (.take n1 s0)), (3, day, .swap s0 s1 [n0] [n1])]
end
section
variable {s0 s1 n0 n1 n2 n3 : Str} {rk day : Int}
theorem fkL_nd (N : Nms s0 s1 n0 n1 n2 n3) : ((fkL s0 s1 n0 n1 rk).map fun f => f.1).Nodup := by
  have a := mn_ne N.m0 N.m1 (by decide)
  simp [fkL, a]
theorem ordL3 : inOrd (tL3 s0 s1 n0 n1 day) := by
  refine List.pairwise_cons.mpr ⟨fun z hz => ?_, List.pairwise_cons.mpr ⟨fun z hz => ?_, List.pairwise_singleton _ _⟩⟩
  · rcases List.mem_cons.mp hz with e | hz
    · subst e
      exact not_lex (.inr ⟨rfl, by simp only; omega⟩)
    · cases List.mem_singleton.mp hz
      exact not_lex (.inr ⟨rfl, by simp only; omega⟩)
  · cases List.mem_singleton.mp hz
    exact not_lex (.inr ⟨rfl, by simp only; omega⟩)
theorem ordL2 : inOrd (tL2 s0 s1 n0 n1 day) := by
  refine List.pairwise_cons.mpr ⟨fun z hz => ?_, List.pairwise_singleton _ _⟩
  cases List.mem_singleton.mp hz
  exact not_lex (.inr ⟨rfl, by simp only; omega⟩)
def crL (s0 s1 n0 n1 : Str) (rk day : Int) : Crew := [(n0, { man0 s0 0 with keeper := s1, caught := day, bonds := [] }), (n1, { man0 s1 rk with keeper := s0, caught := day, bonds := [] })]
theorem runL (N : Nms s0 s1 n0 n1 n2 n3) {pc : Option Pact} {fresh : Int} {T : Told} {pa : Addr} : lookO pc fresh (tL2 s0 s1 n0 n1 day ++ T) ⟨crew0 (fkL s0 s1 n0 n1 rk), [], pa⟩ = lookO pc fresh T ⟨crL s0 s1 n0 n1 rk day, [], pa⟩ := by
  have h : s0 ≠ s1 := mn_ne N.a0 N.a1 (by decide)
  have h' : s1 ≠ s0 := fun e => h e.symm
  have h2 : n0 ≠ n1 := mn_ne N.m0 N.m1 (by decide)
  simp [tL2, fkL, crew0, lookO, fallS, oneM, findM, setM, fallM, Deed.man, h, h', h2, dropD, crL]
theorem lookL0 (N : Nms s0 s1 n0 n1 n2 n3) {pc : Option Pact} {fresh : Int} : LookAt (fkL s0 s1 n0 n1 rk) [] pc fresh .ok :=
  look_of (fkL_nd N) (by simp [fkL]) List.nodup_nil (by simp) .nil fun pa => rfl
theorem lookL1 (N : Nms s0 s1 n0 n1 n2 n3) {pc : Option Pact} {fresh : Int} : LookAt (fkL s0 s1 n0 n1 rk) (tL1 s1 n0 day) pc fresh .ok :=
  look_of (fkL_nd N) (by simp [fkL]) (by simp [tL1]) (by simp [tL1]) (List.pairwise_singleton _ _) fun pa => by
    have h : s0 ≠ s1 := mn_ne N.a0 N.a1 (by decide)
    simp [tL1, fkL, crew0, lookO, fallS, oneM, findM, setM, fallM, Deed.man, h, dropD]
theorem lookL2 (N : Nms s0 s1 n0 n1 n2 n3) {pc : Option Pact} {fresh : Int} : LookAt (fkL s0 s1 n0 n1 rk) (tL2 s0 s1 n0 n1 day) pc fresh .ok :=
  look_of (fkL_nd N) (by simp [fkL]) (by simp [tL2]) (by simp [tL2]) ordL2 fun pa => by
    have := runL N (rk := rk) (day := day) (pc := pc) (fresh := fresh) (T := []) (pa := pa)
    rw [List.append_nil] at this
    exact this
theorem swL {ws : List Int} {u g due : Int} (N : Nms s0 s1 n0 n1 n2 n3) (h0 : 0 ≤ rk) (e0 : ws[0]? = some 1) (e1 : ws[rk.toNat]? = some u) {pa : Addr} : swapO (some ⟨s0, s1, ws, 0⟩) s0 s1 [n0] [n1] ⟨crL s0 s1 n0 n1 rk day, [], pa⟩ =
    if 0 < (if 1 - u < 0 then -(1 - u) else 1 - u) then .bad "Uneven" else .ok ⟨[(n0, { man0 s0 0 with keeper := "", caught := day, bonds := [] }), (n1, { man0 s1 rk with keeper := "", caught := day, bonds := [] })], [(prK s0 s1, .int (1 - u))], pa⟩ := by
  have h : s0 ≠ s1 := mn_ne N.a0 N.a1 (by decide)
  have h2 : n0 ≠ n1 := mn_ne N.m0 N.m1 (by decide)
  simp [swapO, mn_min N.a0 N.a1, mn_max N.a0 N.a1, goneO, findM, crL, onR, e0, e1, h0, h2, dueO, vlT, goAll, goFrom, setM, putT, hasT]
theorem lookL3 (N : Nms s0 s1 n0 n1 n2 n3) (h0 : 1 ≤ rk) (h1 : rk ≤ 5) : LookAt (fkL s0 s1 n0 n1 rk) (tL3 s0 s1 n0 n1 day) (some (pcL s0 s1)) 3 .ok :=
  look_of (fkL_nd N) (by simp [fkL]) (by simp [tL3]) (by simp [tL3]) ordL3 fun pa => by
    have := runL N (rk := rk) (day := day) (pc := some (pcL s0 s1)) (fresh := 3) (T := [(3, day, .swap s0 s1 [n0] [n1])]) (pa := pa)
    refine Eq.trans this ?_
    have e1 : ([1, 1, 1, 1, 1, 1] : List Int)[rk.toNat]? = some 1 := by
      obtain rfl | rfl | rfl | rfl | rfl : rk = 1 ∨ rk = 2 ∨ rk = 3 ∨ rk = 4 ∨ rk = 5 := by omega
      all_goals rfl
    have e := swL (u := 1) (g := 0) (due := 0) (day := day) (pa := pa) N (by omega : (0 : Int) ≤ rk) (rfl : ([1, 1, 1, 1, 1, 1] : List Int)[0]? = some 1) e1
    unfold lookO fallS pcL
    simp only [e]
    rfl
theorem lookM3 (N : Nms s0 s1 n0 n1 n2 n3) (h0 : 1 ≤ rk) (h1 : rk ≤ 5) : LookAt (fkL s0 s1 n0 n1 rk) (tL3 s0 s1 n0 n1 day) (some (pcM s0 s1)) 0 .brk :=
  look_of (fkL_nd N) (by simp [fkL]) (by simp [tL3]) (by simp [tL3]) ordL3 fun pa => by
    have := runL N (rk := rk) (day := day) (pc := some (pcM s0 s1)) (fresh := 0) (T := [(3, day, .swap s0 s1 [n0] [n1])]) (pa := pa)
    refine Eq.trans this ?_
    obtain ⟨u, e1, hu⟩ : ∃ u : Int, ([1, 2, 4, 8, 16, 32] : List Int)[rk.toNat]? = some u ∧ 2 ≤ u := by
      obtain rfl | rfl | rfl | rfl | rfl : rk = 1 ∨ rk = 2 ∨ rk = 3 ∨ rk = 4 ∨ rk = 5 := by omega
      all_goals exact ⟨_, rfl, by decide⟩
    have e := swL (g := 0) (due := 0) (day := day) (pa := pa) N (by omega : (0 : Int) ≤ rk) (rfl : ([1, 2, 4, 8, 16, 32] : List Int)[0]? = some 1) e1
    rw [if_pos (by rw [if_pos (by omega)]; omega)] at e
    unfold lookO fallS pcM
    simp only [e]
    rfl
end

/-! ### calls with two things wrong -/
abbrev s__law_wrong_names : Stmt := top 57
abbrev N__law_wrong_names : List Str := ["_law_book", "_law_way", "_law_one", "_law_man", "_law_bad"]
theorem sc__law_wrong_names : FnScope N__law_wrong_names ["_law_book", "_law_way", "_law_one", "_law_man", "_law_bad"] (defScope s__law_wrong_names) := ⟨rfl, rfl, rfl, by decide +kernel, rfl, by decide +kernel, by decide +kernel⟩
abbrev s__law_wrong_deed : Stmt := top 58
abbrev N__law_wrong_deed : List Str := ["_law_book", "_law_way", "_law_day", "_law_two", "_law_men", "_law_bad", "_law_one", "_law_other"]
theorem sc__law_wrong_deed : FnScope N__law_wrong_deed ["_law_book", "_law_way", "_law_day", "_law_two", "_law_men", "_law_bad"] (defScope s__law_wrong_deed) := ⟨rfl, rfl, rfl, by decide +kernel, rfl, by decide +kernel, by decide +kernel⟩
abbrev s__law_refused : Stmt := top 59
abbrev N__law_refused : List Str := ["_law_book", "_law_half", "_law_way", "_law_day", "_law_two", "_law_men", "_law_bad", "_law_word", "_law_e"]
theorem sc__law_refused : FnScope N__law_refused ["_law_book", "_law_half", "_law_way", "_law_day", "_law_two", "_law_men", "_law_bad"] (defScope s__law_refused) := ⟨rfl, rfl, rfl, by decide +kernel, rfl, by decide +kernel, by decide +kernel⟩

abbrev dueA : List Str := ["BadName", "Taken", "NoSide", "NoSide", "Own", "BadTariff", "NoDeed", "BadName"]
abbrev dueB : List Str := ["BadDay", "NoMan", "NoMan", "Own", "NoMan", "BadRank", "Gone", "BadDay", "NoSide", "Own", "NoMan", "Twice", "OffRoll"]
/-- the first book behind its deeds -/
structure Bk4 (s0 s1 n0 n1 n2 n3 : Str) (base t day : Int) (B : Bk) : Prop where
  N : Nms s0 s1 n0 n1 n2 n3
  t0 : 0 ≤ t
  t8 : t ≤ 8
  b0 : 0 ≤ base
  b1 : base ≤ 998999
  dy : day = base + 9
  ex : ∃ (r0 r1 r2 r3 : Int) (past : List BSt), 0 ≤ r0 ∧ r0 < 6 ∧ past.length < 1000 ∧ B = ⟨st4 s0 s1 n0 n1 n2 n3 r0 r1 r2 r3 (td2 s1 n0 n1 base t) 3, past, []⟩
section
variable {s0 s1 n0 n1 n2 n3 : Str} {r0 r1 r2 r3 : Int} {Td : Told} {l : Int}
theorem sid_a (N : Nms s0 s1 n0 n1 n2 n3) : hasD (st4 s0 s1 n0 n1 n2 n3 r0 r1 r2 r3 Td l).sides (.inr "a") = false := by
  show hasD (sid2 s0 s1) (.inr "a") = false
  rw [has_sid, decide_eq_false (mn_a N.a0), decide_eq_false (mn_a N.a1)]
  rfl
theorem sid_0 : hasD (st4 s0 s1 n0 n1 n2 n3 r0 r1 r2 r3 Td l).sides (.inr s0) = true := by
  show hasD (sid2 s0 s1) (.inr s0) = true
  rw [has_sid, decide_eq_true rfl]
  rfl
theorem sid_1 : hasD (st4 s0 s1 n0 n1 n2 n3 r0 r1 r2 r3 Td l).sides (.inr s1) = true := by
  show hasD (sid2 s0 s1) (.inr s1) = true
  rw [has_sid, decide_eq_true (rfl : s1 = s1), Bool.or_true]
theorem folk_a (N : Nms s0 s1 n0 n1 n2 n3) : hasD (st4 s0 s1 n0 n1 n2 n3 r0 r1 r2 r3 Td l).folk (.inr "a") = false := by
  show hasD (folkD (fk4 s0 n0 n1 n2 n3 r0 r1 r2 r3)) (.inr "a") = false
  rw [has_folk]
  simp [fk4, mn_a N.m0, mn_a N.m1, mn_a N.m2, mn_a N.m3]
theorem folk_in {z : Str} (h : z = n0 ∨ z = n1 ∨ z = n2) : hasD (st4 s0 s1 n0 n1 n2 n3 r0 r1 r2 r3 Td l).folk (.inr z) = true := by
  show hasD (folkD (fk4 s0 n0 n1 n2 n3 r0 r1 r2 r3)) (.inr z) = true
  rw [has_folk]
  rcases h with rfl | rfl | rfl <;> simp [fk4]
theorem two_aa (N : Nms s0 s1 n0 n1 n2 n3) : twoOut (st4 s0 s1 n0 n1 n2 n3 r0 r1 r2 r3 Td l) "a" "a" = "NoSide" := by
  unfold twoOut
  rw [if_neg (by rw [sid_a N]; exact Bool.false_ne_true)]
theorem two_00 : twoOut (st4 s0 s1 n0 n1 n2 n3 r0 r1 r2 r3 Td l) s0 s0 = "Own" := by
  unfold twoOut
  rw [if_pos sid_0, if_pos sid_0, if_pos rfl]
theorem two_01 (N : Nms s0 s1 n0 n1 n2 n3) : twoOut (st4 s0 s1 n0 n1 n2 n3 r0 r1 r2 r3 Td l) s0 s1 = "" := by
  unfold twoOut
  rw [if_pos sid_0, if_pos sid_1, if_neg (mn_ne N.a0 N.a1 (by decide))]
theorem cart_01 (N : Nms s0 s1 n0 n1 n2 n3) : cartOut (st4 s0 s1 n0 n1 n2 n3 r0 r1 r2 r3 Td l) s0 s1 = "" := by
  unfold cartOut
  rw [if_pos (two_01 N), if_pos]
  show hasT (pactD (some (pc1 s0 s1))) (prK s0 s1) = true
  simp [hasT, pactD, pc1, mn_min N.a0 N.a1, mn_max N.a0 N.a1]
theorem cart_bad {t : BSt} {x y z : Str} (h : twoOut t x y = z) (nz : z ≠ "") : cartOut t x y = z := by
  unfold cartOut
  rw [h, if_neg nz]
theorem cat_two {t : BSt} {F : FolkL} {x y z : Str} {ws : List Int} {lim : Int} (h : twoOut t x y = z) (nz : z ≠ "") : CartAt t F Td x y ws lim (.bad z) := by
  unfold CartAt
  rw [h, if_neg nz]
theorem cat_few {t : BSt} {F : FolkL} {x y : Str} {ws : List Int} {lim : Int} (h : twoOut t x y = "") (nl : ws.length ≠ 6) : CartAt t F Td x y ws lim (.bad "BadTariff") := by
  unfold CartAt
  rw [h, if_pos rfl, if_neg fun z => nl z.1]
theorem sorted2 (N : Nms s0 s1 n0 n1 n2 n3) : sortedS [s0, s1] = true := by
  show (!ltCps s1.cps.toList s0.cps.toList && true) = true
  rw [PyProof.Rows.ltCps_eq, decide_eq_false (fun z => List.lt_asymm z (mn_lt N.a0 N.a1))]
  rfl
end
def spWrongN (K : PySem.W.Frag) : Sp := fun vs H Q E => ∃ (b : Addr) (way : Int) (s0 s1 n0 n1 n2 n3 : Str) (ba t day : Int) (B : Bk) (Rs : List Res), vs = [.ref b, .int way, .str s0, .str n0, .str "a"] ∧ 0 ≤ way ∧ way < 8 ∧ Bk4 s0 s1 n0 n1 n2 n3 ba t day B ∧ Sat H (book (CB K) b B :: Rs) ∧
  ∀ H', PK H H' → Sat H' (book (CB K) b B :: Rs) → E (.ref (He.ga K (dueA.getD way.toNat ""))) none H'
abbrev twoL (K : PySem.W.Frag) (p1 p2 : Addr) (s0 s1 n0 n1 n2 n3 : Str) (Rs : List Res) : List Res := cell p1 (.lst [.str s0, .str s1]) :: cell p2 (.lst [.str n0, .str n1, .str n2, .str n3]) :: Rs
def spWrongD (K : PySem.W.Frag) : Sp := fun vs H Q E => ∃ (b p1 p2 : Addr) (way : Int) (s0 s1 n0 n1 n2 n3 : Str) (ba t day : Int) (B : Bk) (Rs : List Res), vs = [.ref b, .int way, .int day, .ref p1, .ref p2, .str "a"] ∧ 0 ≤ way ∧ way < 13 ∧ Bk4 s0 s1 n0 n1 n2 n3 ba t day B ∧ Sat H (book (CB K) b B :: cell p1 (.lst [.str s0, .str s1]) :: cell p2 (.lst [.str n0, .str n1, .str n2, .str n3]) :: Rs) ∧
  ∀ H', PK H H' → Sat H' (book (CB K) b B :: cell p1 (.lst [.str s0, .str s1]) :: cell p2 (.lst [.str n0, .str n1, .str n2, .str n3]) :: Rs) → E (.ref (He.ga K (dueB.getD way.toNat ""))) none H'
section
variable {P : Program} {w : World} {K : PySem.W.Frag} {mg : Str → Option Value} {base : Heap}
theorem D_wrong_names (T : Txt K mg) (D_Book_side : DnM P w K mg base (L2.CX P w) 3 (He.ma K (He.ga K "Book") "side") ["self", "name"] (spSideX K)) (D_Book_man : DnM P w K mg base (L2.CX P w) 3 (He.ma K (He.ga K "Book") "man") ["self", "name", "side", "rank"] (spManX K)) (D_Book_cartel : DnM P w K mg base (L2.CX P w) 6 (He.ma K (He.ga K "Book") "cartel") ["self", "one", "other", "worths", "limit"] (spCartel K)) (D_Book_redate : DnM P w K mg base (L2.CX P w) 6 (He.ma K (He.ga K "Book") "redate") ["self", "number", "day"] (spRedateNo K)) (D_Book_sides : DnM P w K mg base CX0 1 (He.ma K (He.ga K "Book") "sides") ["self"] (spSides K))
    (F : Df K mg "_law_wrong_names" s__law_wrong_names) : Dn P w K mg base (L2.CX P w) 7 "_law_wrong_names" ["_law_book", "_law_way", "_law_one", "_law_man", "_law_bad"] (spWrongN K) := by
  refine F.dnX sc__law_wrong_names (fun _ _ _ _ _ _ us hl => match us, hl with | [_, _, _, _, _], _ => rfl) (fun vs H Q E h => ?_) (fun f cdv A outer s H vs Q E hr hK h => ?_)
  · obtain ⟨b, way, s0, s1, n0, n1, n2, n3, ba, t, day, B, Rs, rfl, _⟩ := h
    rfl
  · obtain ⟨b, way, s0, s1, n0, n1, n2, n3, ba, t, day, B, Rs, rfl, w0, w1, BK, S, k⟩ := h
    obtain ⟨N, t0, t8, b0, b1, dy, r0, r1, r2, r3, past, q0, q1, hp, rfl⟩ := BK
    have hpz : past.length < sizeLine := by rw [sizeLine_eq]; omega
    have lf : (folkD (fk4 s0 n0 n1 n2 n3 r0 r1 r2 r3)).length < 1000 := by simp [folkD, fk4]
    refine ⟨_, (pss_cons (ps_if (pt_cmpR op_eq (pv 1) pe_int (nomark _)) (pss_one (ps_ret (pe_mt (pv 0) T.cl_Book T.me_Book_man D_Book_man (hr.mono (by first | decide | omega)) passX (pa_cons pe_str (pa_cons (pv 4) (pa_cons pe_int pa_nil)))))) pss_nil)
      (pss_cons (ps_if (pt_cmpR op_eq (pv 1) pe_int (nomark _)) (pss_one (ps_ret (pe_mt (pv 0) T.cl_Book T.me_Book_man D_Book_man (hr.mono (by first | decide | omega)) passX (pa_cons (pv 3) (pa_cons (pv 4) (pa_cons pe_int pa_nil)))))) pss_nil)
      (pss_cons (ps_if (pt_cmpR op_eq (pv 1) pe_int (nomark _)) (pss_one (ps_ret (pe_mt (pv 0) T.cl_Book T.me_Book_man D_Book_man (hr.mono (by first | decide | omega)) passX (pa_cons (pv 4) (pa_cons (pv 4) (pa_cons pe_int pa_nil)))))) pss_nil)
      (pss_cons (ps_if (pt_cmpR op_eq (pv 1) pe_int (nomark _)) (pss_one (ps_ret (pe_mt (pv 0) T.cl_Book T.me_Book_cartel D_Book_cartel (hr.mono (by first | decide | omega)) passX (pa_cons (pv 4) (pa_cons (pv 4) (pa_cons (pe_lst pa_nil) (pa_cons (pe_un un_neg pe_int) pa_nil))))))) pss_nil)
      (pss_cons (ps_if (pt_cmpR op_eq (pv 1) pe_int (nomark _)) (pss_one (ps_ret (pe_mt (pv 0) T.cl_Book T.me_Book_cartel D_Book_cartel (hr.mono (by first | decide | omega)) passX (pa_cons (pv 2) (pa_cons (pv 2) (pa_cons (pe_lst pa_nil) (pa_cons (pe_un un_neg pe_int) pa_nil))))))) pss_nil)
      (pss_cons (ps_if (pt_cmpR op_eq (pv 1) pe_int (nomark _)) (pss_one (ps_ret (pe_mt (pv 0) T.cl_Book T.me_Book_cartel D_Book_cartel (hr.mono (by first | decide | omega)) passX (pa_cons (pv 2) (pa_cons (pe_ix ix_list (pe_mt0 (pv 0) T.cl_Book T.me_Book_sides D_Book_sides (hr.mono (by first | decide | omega)) pass0) (pe_callTy g_int rfl T.m_int boot_int (pa_cons (pe_cmpR op_eq (pe_ix ix_list (pe_mt0 (pv 0) T.cl_Book T.me_Book_sides D_Book_sides (hr.mono (by first | decide | omega)) pass0) pe_int (fun _ _ => rfl)) (pv 2) (nomark _)) pa_nil)) (fun _ _ => rfl)) (pa_cons (pe_lst (pa_cons pe_int (pa_cons pe_int (pa_cons pe_int pa_nil)))) (pa_cons (pe_un un_neg pe_int) pa_nil))))))) pss_nil)
      (pss_cons (ps_if (pt_cmpR op_eq (pv 1) pe_int (nomark _)) (pss_one (ps_ret (pe_mt (pv 0) T.cl_Book T.me_Book_redate D_Book_redate (hr.mono (by first | decide | omega)) passX (pa_cons pe_int (pa_cons (pe_un un_neg pe_int) pa_nil))))) pss_nil)
      (pss_one (ps_ret (pe_mt (pv 0) T.cl_Book T.me_Book_side D_Book_side (hr.mono (by first | decide | omega)) passX (pa_cons pe_str pa_nil))))))))))), ?_⟩
    try rw [hK]
    obtain rfl | rfl | rfl | rfl | rfl | rfl | rfl | rfl : way = 0 ∨ way = 1 ∨ way = 2 ∨ way = 3 ∨ way = 4 ∨ way = 5 ∨ way = 6 ∨ way = 7 := by omega
    · rw [show L2.start N__law_wrong_names [.ref b, .int 0, .str s0, .str n0, .str "a"] = [some (.ref b), some (.int 0), some (.str s0), some (.str n0), some (.str "a")] from rfl]
      walk_at "sx"
      refine x_ifD (fun _ => ?_) (fun c => absurd rfl c)
      walk_at "sx"
      have e : manOut (st4 s0 s1 n0 n1 n2 n3 r0 r1 r2 r3 (td2 s1 n0 n1 ba t) 3) "A" "a" 9 = "BadName" := by
        unfold manOut
        rw [if_neg (by decide +kernel)]
      exact ⟨b, "A", "a", 9, _, Rs, rfl, S, by decide, lf, hpz, fun _ H2 pk2 S2 => by rw [e]; exact k H2 pk2 S2, fun c => absurd (e.symm.trans c) (by decide)⟩
    · rw [show L2.start N__law_wrong_names [.ref b, .int 1, .str s0, .str n0, .str "a"] = [some (.ref b), some (.int 1), some (.str s0), some (.str n0), some (.str "a")] from rfl]
      walk_at "sx"
      refine x_ifD (fun c => absurd c (by decide)) (fun _ => ?_)
      walk_at "sx"
      refine x_ifD (fun _ => ?_) (fun c => absurd rfl c)
      walk_at "sx"
      have e : manOut (st4 s0 s1 n0 n1 n2 n3 r0 r1 r2 r3 (td2 s1 n0 n1 ba t) 3) n0 "a" 9 = "Taken" := by
        unfold manOut
        rw [if_pos (N.m0.isN (by decide)), if_pos (folk_in (.inl rfl))]
      exact ⟨b, n0, "a", 9, _, Rs, rfl, S, by have := N.m0.len; omega, lf, hpz, fun _ H2 pk2 S2 => by rw [e]; exact k H2 pk2 S2, fun c => absurd (e.symm.trans c) (by decide)⟩
    · rw [show L2.start N__law_wrong_names [.ref b, .int 2, .str s0, .str n0, .str "a"] = [some (.ref b), some (.int 2), some (.str s0), some (.str n0), some (.str "a")] from rfl]
      walk_at "sx"
      refine x_ifD (fun c => absurd c (by decide)) (fun _ => ?_)
      walk_at "sx"
      refine x_ifD (fun c => absurd c (by decide)) (fun _ => ?_)
      walk_at "sx"
      refine x_ifD (fun _ => ?_) (fun c => absurd rfl c)
      walk_at "sx"
      have e : manOut (st4 s0 s1 n0 n1 n2 n3 r0 r1 r2 r3 (td2 s1 n0 n1 ba t) 3) "a" "a" 9 = "NoSide" := by
        unfold manOut
        rw [if_pos (by decide +kernel), if_neg (by rw [folk_a N]; exact Bool.false_ne_true), if_neg (by rw [sid_a N]; exact Bool.false_ne_true)]
      exact ⟨b, "a", "a", 9, _, Rs, rfl, S, by decide, lf, hpz, fun _ H2 pk2 S2 => by rw [e]; exact k H2 pk2 S2, fun c => absurd (e.symm.trans c) (by decide)⟩
    · rw [show L2.start N__law_wrong_names [.ref b, .int 3, .str s0, .str n0, .str "a"] = [some (.ref b), some (.int 3), some (.str s0), some (.str n0), some (.str "a")] from rfl]
      walk_at "sx"
      refine x_ifD (fun c => absurd c (by decide)) (fun _ => ?_)
      walk_at "sx"
      refine x_ifD (fun c => absurd c (by decide)) (fun _ => ?_)
      walk_at "sx"
      refine x_ifD (fun c => absurd c (by decide)) (fun _ => ?_)
      walk_at "sx"
      refine x_ifD (fun _ => ?_) (fun c => absurd rfl c)
      walk_at "sx"
      rename_i lq H2 pk2 S2
      have S3 : Sat H2 (book (CB K) b ⟨st4 s0 s1 n0 n1 n2 n3 r0 r1 r2 r3 (td2 s1 n0 n1 ba t) 3, past, []⟩ :: cell lq (.lst []) :: Rs) := S2.pick
      clear S S2
      walk_at "sx"
      refine ⟨b, lq, "a", "a", [], -1, _, fk4 s0 n0 n1 n2 n3 r0 r1 r2 r3, td2 s1 n0 n1 ba t, .bad "NoSide", Rs, rfl, S3, rfl, rfl, hpz, cat_two (two_aa N) (by decide), fun H3 pk3 S4 => ?_⟩
      exact k H3 (by walk_at "pk") S4.pick
    · rw [show L2.start N__law_wrong_names [.ref b, .int 4, .str s0, .str n0, .str "a"] = [some (.ref b), some (.int 4), some (.str s0), some (.str n0), some (.str "a")] from rfl]
      walk_at "sx"
      refine x_ifD (fun c => absurd c (by decide)) (fun _ => ?_)
      walk_at "sx"
      refine x_ifD (fun c => absurd c (by decide)) (fun _ => ?_)
      walk_at "sx"
      refine x_ifD (fun c => absurd c (by decide)) (fun _ => ?_)
      walk_at "sx"
      refine x_ifD (fun c => absurd c (by decide)) (fun _ => ?_)
      walk_at "sx"
      refine x_ifD (fun _ => ?_) (fun c => absurd rfl c)
      walk_at "sx"
      rename_i lq H2 pk2 S2
      have S3 : Sat H2 (book (CB K) b ⟨st4 s0 s1 n0 n1 n2 n3 r0 r1 r2 r3 (td2 s1 n0 n1 ba t) 3, past, []⟩ :: cell lq (.lst []) :: Rs) := S2.pick
      clear S S2
      walk_at "sx"
      refine ⟨b, lq, s0, s0, [], -1, _, fk4 s0 n0 n1 n2 n3 r0 r1 r2 r3, td2 s1 n0 n1 ba t, .bad "Own", Rs, rfl, S3, rfl, rfl, hpz, cat_two two_00 (by decide), fun H3 pk3 S4 => ?_⟩
      exact k H3 (by walk_at "pk") S4.pick
    · rw [show L2.start N__law_wrong_names [.ref b, .int 5, .str s0, .str n0, .str "a"] = [some (.ref b), some (.int 5), some (.str s0), some (.str n0), some (.str "a")] from rfl]
      walk_at "sx"
      refine x_ifD (fun c => absurd c (by decide)) (fun _ => ?_)
      walk_at "sx"
      refine x_ifD (fun c => absurd c (by decide)) (fun _ => ?_)
      walk_at "sx"
      refine x_ifD (fun c => absurd c (by decide)) (fun _ => ?_)
      walk_at "sx"
      refine x_ifD (fun c => absurd c (by decide)) (fun _ => ?_)
      walk_at "sx"
      refine x_ifD (fun c => absurd c (by decide)) (fun _ => ?_)
      walk_at "sx"
      refine x_ifD (fun _ => ?_) (fun c => absurd rfl c)
      walk_at "sx"
      refine ⟨b, _, [s0, s1], Rs, rfl, S, rfl, Nat.lt_of_sub_eq_succ rfl, fun p1 ys H2 pm so pk2 S2 => ?_⟩
      have ey : ys = [s0, s1] := sorted_uniq pm so (sorted2 N)
      subst ey
      clear S
      walk_at "sx"
      have S2b : Sat H2 (book (CB K) b ⟨st4 s0 s1 n0 n1 n2 n3 r0 r1 r2 r3 (td2 s1 n0 n1 ba t) 3, past, []⟩ :: cell p1 (.lst [.str s0, .str s1]) :: Rs) := S2.swap
      clear S2
      refine ⟨b, _, [s0, s1], _, rfl, S2b, rfl, Nat.lt_of_sub_eq_succ rfl, fun p2 zs H3 pm2 so2 pk3 S3 => ?_⟩
      have ez : zs = [s0, s1] := sorted_uniq pm2 so2 (sorted2 N)
      subst ez
      clear S2b
      have S3b : Sat H3 (cell p2 (.lst [.str s0, .str s1]) :: book (CB K) b ⟨st4 s0 s1 n0 n1 n2 n3 r0 r1 r2 r3 (td2 s1 n0 n1 ba t) 3, past, []⟩ :: cell p1 (.lst [.str s0, .str s1]) :: Rs) := S3
      clear S3
      walk_at "sx"
      rw [if_pos (decide_eq_true rfl)]
      walk_at "sx"
      rename_i lq H4 pk4 S4b
      have S3 : Sat H4 (book (CB K) b ⟨st4 s0 s1 n0 n1 n2 n3 r0 r1 r2 r3 (td2 s1 n0 n1 ba t) 3, past, []⟩ :: cell lq (.lst [.int 1, .int 2, .int 3]) :: Rs) := S4b.pick
      clear S3b S4b
      walk_at "sx"
      refine ⟨b, lq, s0, s1, [1, 2, 3], -1, _, fk4 s0 n0 n1 n2 n3 r0 r1 r2 r3, td2 s1 n0 n1 ba t, .bad "BadTariff", Rs, rfl, S3, rfl, rfl, hpz, cat_few (two_01 N) (by decide), fun H5 pk5 S5 => ?_⟩
      exact k H5 (by walk_at "pk") S5.pick
    · rw [show L2.start N__law_wrong_names [.ref b, .int 6, .str s0, .str n0, .str "a"] = [some (.ref b), some (.int 6), some (.str s0), some (.str n0), some (.str "a")] from rfl]
      walk_at "sx"
      refine x_ifD (fun c => absurd c (by decide)) (fun _ => ?_)
      walk_at "sx"
      refine x_ifD (fun c => absurd c (by decide)) (fun _ => ?_)
      walk_at "sx"
      refine x_ifD (fun c => absurd c (by decide)) (fun _ => ?_)
      walk_at "sx"
      refine x_ifD (fun c => absurd c (by decide)) (fun _ => ?_)
      walk_at "sx"
      refine x_ifD (fun c => absurd c (by decide)) (fun _ => ?_)
      walk_at "sx"
      refine x_ifD (fun c => absurd c (by decide)) (fun _ => ?_)
      walk_at "sx"
      refine x_ifD (fun _ => ?_) (fun c => absurd rfl c)
      walk_at "sx"
      exact ⟨b, 99, -1, _, Rs, rfl, S, by
        show hasD (toldD (td2 s1 n0 n1 ba t)) (.inl 99) = false
        rw [hasD_told]
        rfl, k H PK.refl S⟩
    · rw [show L2.start N__law_wrong_names [.ref b, .int 7, .str s0, .str n0, .str "a"] = [some (.ref b), some (.int 7), some (.str s0), some (.str n0), some (.str "a")] from rfl]
      walk_at "sx"
      refine x_ifD (fun c => absurd c (by decide)) (fun _ => ?_)
      walk_at "sx"
      refine x_ifD (fun c => absurd c (by decide)) (fun _ => ?_)
      walk_at "sx"
      refine x_ifD (fun c => absurd c (by decide)) (fun _ => ?_)
      walk_at "sx"
      refine x_ifD (fun c => absurd c (by decide)) (fun _ => ?_)
      walk_at "sx"
      refine x_ifD (fun c => absurd c (by decide)) (fun _ => ?_)
      walk_at "sx"
      refine x_ifD (fun c => absurd c (by decide)) (fun _ => ?_)
      walk_at "sx"
      refine x_ifD (fun c => absurd c (by decide)) (fun _ => ?_)
      walk_at "sx"
      have e : sideOut (st4 s0 s1 n0 n1 n2 n3 r0 r1 r2 r3 (td2 s1 n0 n1 ba t) 3) "" = "BadName" := by
        unfold sideOut
        rw [if_neg (by decide +kernel)]
      exact ⟨b, "", _, Rs, rfl, S, by decide, by simp [st4, sid2], hpz, fun _ H2 pk2 S2 => by rw [e]; exact k H2 pk2 S2, fun c => absurd (e.symm.trans c) (by decide)⟩
end

section
variable {P : Program} {w : World} {K : PySem.W.Frag} {mg : Str → Option Value} {base : Heap}
theorem swap_day {t : BSt} {F : FolkL} {Td : Told} {d : Int} {x y : Str} {os ot : List Str} (h : ¬ dayOk d) : SwapAt t F Td d x y os ot (.bad "BadDay") := by
  unfold SwapAt
  rw [if_neg h]
theorem swap_cart {t : BSt} {F : FolkL} {Td : Told} {d : Int} {x y z : Str} {os ot : List Str} (h : dayOk d) (c : cartOut t x y = z) (nz : z ≠ "") : SwapAt t F Td d x y os ot (.bad z) := by
  unfold SwapAt
  rw [if_pos h, c, if_neg nz]
theorem dueA_in {w : Int} (h0 : 0 ≤ w) (h1 : w < 8) : dueA.getD w.toNat "" ∈ xcls := by
  have h : ∀ i : Fin 8, dueA.getD i.val "" ∈ xcls := by decide +kernel
  exact h ⟨w.toNat, by omega⟩
theorem dueB_in {w : Int} (h0 : 0 ≤ w) (h1 : w < 13) : dueB.getD w.toNat "" ∈ xcls := by
  have h : ∀ i : Fin 13, dueB.getD i.val "" ∈ xcls := by decide +kernel
  exact h ⟨w.toNat, by omega⟩
theorem D_wrong_deed (T : Txt K mg) (D_Book_take : DnM P w K mg base (L2.CX P w) 7 (He.ma K (He.ga K "Book") "take") ["self", "day", "man", "side"] (spTakeB K)) (D_Book_rank : DnM P w K mg base (L2.CX P w) 7 (He.ma K (He.ga K "Book") "rank") ["self", "day", "man", "rank"] (spRank K)) (D_Book_word : DnM P w K mg base (L2.CX P w) 8 (He.ma K (He.ga K "Book") "word") ["self", "day", "man"] (spOne K .word)) (D_Book_swap : DnM P w K mg base (L2.CX P w) 7 (He.ma K (He.ga K "Book") "swap") ["self", "day", "one", "other", "ones", "others"] (spSwap K))
    (F : Df K mg "_law_wrong_deed" s__law_wrong_deed) : Dn P w K mg base (L2.CX P w) 9 "_law_wrong_deed" ["_law_book", "_law_way", "_law_day", "_law_two", "_law_men", "_law_bad"] (spWrongD K) := by
  refine F.dnX sc__law_wrong_deed (fun _ _ _ _ _ _ us hl => match us, hl with | [_, _, _, _, _, _], _ => rfl) (fun vs H Q E h => ?_) (fun f cdv A outer s H vs Q E hr hK h => ?_)
  · obtain ⟨b, p1, p2, way, s0, s1, n0, n1, n2, n3, ba, t, day, B, Rs, rfl, _⟩ := h
    rfl
  · obtain ⟨b, p1, p2, way, s0, s1, n0, n1, n2, n3, ba, t, day, B, Rs, rfl, w0, w1, BK, S, k⟩ := h
    obtain ⟨N, t0, t8, b0, b1, dy, r0, r1, r2, r3, past, q0, q1, hp, rfl⟩ := BK
    have hpz : past.length < sizeLine := by rw [sizeLine_eq]; omega
    have dk : dayOk day := ⟨by omega, by omega⟩
    have l2 : (td2 s1 n0 n1 ba t).length < 120 := by simp [td2]
    refine ⟨_, (pss_cons (ps_asg (pv 3) (pg_unl rfl (pgs_cons (pg_name (i := 6) sc__law_wrong_deed.nd rfl (Or.inl rfl)) (pgs_cons (pg_name (i := 7) sc__law_wrong_deed.nd rfl (Or.inl rfl)) pgs_nil))))
      (pss_cons (ps_if (pt_cmpR op_lt (pv 1) pe_int (nomark _)) (pss_one (ps_ret (pe_mt (pv 0) T.cl_Book T.me_Book_take D_Book_take (hr.mono (by first | decide | omega)) passX (pa_cons (pe_ix ix_list (pe_lst (pa_cons (pe_un un_neg pe_int) (pa_cons (pv 2) (pa_cons (pv 2) pa_nil)))) (pv 1) (fun _ _ => rfl)) (pa_cons (pv 5) (pa_cons (pe_ix ix_list (pe_lst (pa_cons (pv 6) (pa_cons (pv 5) (pa_cons (pv 5) pa_nil)))) (pv 1) (fun _ _ => rfl)) pa_nil)))))) pss_nil)
      (pss_cons (ps_if (pt_cmpR op_eq (pv 1) pe_int (nomark _)) (pss_one (ps_ret (pe_mt (pv 0) T.cl_Book T.me_Book_take D_Book_take (hr.mono (by first | decide | omega)) passX (pa_cons (pv 2) (pa_cons (pe_ix ix_list (pv 4) pe_int (fun _ _ => rfl)) (pa_cons (pv 6) pa_nil)))))) pss_nil)
      (pss_cons (ps_if (pt_cmpR op_eq (pv 1) pe_int (nomark _)) (pss_one (ps_ret (pe_mt (pv 0) T.cl_Book T.me_Book_rank D_Book_rank (hr.mono (by first | decide | omega)) passX (pa_cons (pv 2) (pa_cons (pv 5) (pa_cons pe_int pa_nil)))))) pss_nil)
      (pss_cons (ps_if (pt_cmpR op_eq (pv 1) pe_int (nomark _)) (pss_one (ps_ret (pe_mt (pv 0) T.cl_Book T.me_Book_rank D_Book_rank (hr.mono (by first | decide | omega)) passX (pa_cons (pv 2) (pa_cons (pe_ix ix_list (pv 4) pe_int (fun _ _ => rfl)) (pa_cons pe_int pa_nil)))))) pss_nil)
      (pss_cons (ps_if (pt_cmpR op_eq (pv 1) pe_int (nomark _)) (pss_one (ps_ret (pe_mt (pv 0) T.cl_Book T.me_Book_word D_Book_word (hr.mono (by first | decide | omega)) passX (pa_cons (pv 2) (pa_cons (pe_ix ix_list (pv 4) pe_int (fun _ _ => rfl)) pa_nil))))) pss_nil)
      (pss_cons (ps_if (pt_cmpR op_eq (pv 1) pe_int (nomark _)) (pss_one (ps_ret (pe_mt (pv 0) T.cl_Book T.me_Book_swap D_Book_swap (hr.mono (by first | decide | omega)) passX (pa_cons (pe_un un_neg pe_int) (pa_cons (pv 5) (pa_cons (pv 5) (pa_cons (pe_lst pa_nil) (pa_cons (pe_lst pa_nil) pa_nil)))))))) pss_nil)
      (pss_cons (ps_if (pt_cmpR op_eq (pv 1) pe_int (nomark _)) (pss_one (ps_ret (pe_mt (pv 0) T.cl_Book T.me_Book_swap D_Book_swap (hr.mono (by first | decide | omega)) passX (pa_cons (pv 2) (pa_cons (pv 5) (pa_cons (pv 5) (pa_cons (pe_lst pa_nil) (pa_cons (pe_lst pa_nil) pa_nil)))))))) pss_nil)
      (pss_cons (ps_if (pt_cmpR op_eq (pv 1) pe_int (nomark _)) (pss_one (ps_ret (pe_mt (pv 0) T.cl_Book T.me_Book_swap D_Book_swap (hr.mono (by first | decide | omega)) passX (pa_cons (pv 2) (pa_cons (pv 6) (pa_cons (pv 6) (pa_cons (pe_lst pa_nil) (pa_cons (pe_lst pa_nil) pa_nil)))))))) pss_nil)
      (pss_cons (ps_if (pt_cmpR op_eq (pv 1) pe_int (nomark _)) (pss_one (ps_ret (pe_mt (pv 0) T.cl_Book T.me_Book_swap D_Book_swap (hr.mono (by first | decide | omega)) passX (pa_cons (pv 2) (pa_cons (pv 6) (pa_cons (pv 7) (pa_cons (pe_lst (pa_cons (pv 5) (pa_cons (pe_ix ix_list (pv 4) pe_int (fun _ _ => rfl)) pa_nil))) (pa_cons (pe_lst (pa_cons (pe_ix ix_list (pv 4) pe_int (fun _ _ => rfl)) pa_nil)) pa_nil)))))))) pss_nil)
      (pss_cons (ps_if (pt_cmpR op_eq (pv 1) pe_int (nomark _)) (pss_one (ps_ret (pe_mt (pv 0) T.cl_Book T.me_Book_swap D_Book_swap (hr.mono (by first | decide | omega)) passX (pa_cons (pv 2) (pa_cons (pv 6) (pa_cons (pv 7) (pa_cons (pe_lst (pa_cons (pe_ix ix_list (pv 4) pe_int (fun _ _ => rfl)) pa_nil)) (pa_cons (pe_lst (pa_cons (pe_ix ix_list (pv 4) pe_int (fun _ _ => rfl)) pa_nil)) pa_nil)))))))) pss_nil)
      (pss_one (ps_ret (pe_mt (pv 0) T.cl_Book T.me_Book_swap D_Book_swap (hr.mono (by first | decide | omega)) passX (pa_cons (pv 2) (pa_cons (pv 6) (pa_cons (pv 7) (pa_cons (pe_lst (pa_cons (pe_ix ix_list (pv 4) pe_int (fun _ _ => rfl)) (pa_cons (pe_ix ix_list (pv 4) pe_int (fun _ _ => rfl)) pa_nil))) (pa_cons (pe_lst pa_nil) pa_nil))))))))))))))))))), ?_⟩
    try rw [hK]
    obtain rfl | rfl | rfl | rfl | rfl | rfl | rfl | rfl | rfl | rfl | rfl | rfl | rfl : way = 0 ∨ way = 1 ∨ way = 2 ∨ way = 3 ∨ way = 4 ∨ way = 5 ∨ way = 6 ∨ way = 7 ∨ way = 8 ∨ way = 9 ∨ way = 10 ∨ way = 11 ∨ way = 12 := by omega
    · rw [show L2.start N__law_wrong_deed [.ref b, .int 0, .int day, .ref p1, .ref p2, .str "a"] = [some (.ref b), some (.int 0), some (.int day), some (.ref p1), some (.ref p2), some (.str "a"), none, none] from rfl]
      walk_at "sx"
      refine x_asgL (xs := [.str s0, .str s1]) (SqL.of sat_at) rfl ?_
      walk_at "sx"
      refine x_ifD (fun _ => ?_) (fun c => absurd (by decide) c)
      walk_at "sx"
      rename_i l1 H1 pk1 S1 l2a H2 pk2 S2
      clear S S1
      have S3 : Sat H2 (book (CB K) b ⟨st4 s0 s1 n0 n1 n2 n3 r0 r1 r2 r3 (td2 s1 n0 n1 ba t) 3, past, []⟩ :: cell p1 (.lst [.str s0, .str s1]) :: cell p2 (.lst [.str n0, .str n1, .str n2, .str n3]) :: Rs) := S2.pick
      clear S2
      refine ⟨b, -1, "a", s0, _, fk4 s0 n0 n1 n2 n3 r0 r1 r2 r3, td2 s1 n0 n1 ba t, .bad "BadDay", _, rfl, S3, rfl, rfl, hpz, by unfold TakeAt; rw [if_neg (by decide)], fun H9 pk9 S9 => ?_⟩
      exact k H9 (by walk_at "pk") S9.pick
    · rw [show L2.start N__law_wrong_deed [.ref b, .int 1, .int day, .ref p1, .ref p2, .str "a"] = [some (.ref b), some (.int 1), some (.int day), some (.ref p1), some (.ref p2), some (.str "a"), none, none] from rfl]
      walk_at "sx"
      refine x_asgL (xs := [.str s0, .str s1]) (SqL.of sat_at) rfl ?_
      walk_at "sx"
      refine x_ifD (fun _ => ?_) (fun c => absurd (by decide) c)
      walk_at "sx"
      rename_i l1 H1 pk1 S1 l2a H2 pk2 S2
      clear S S1
      have S3 : Sat H2 (book (CB K) b ⟨st4 s0 s1 n0 n1 n2 n3 r0 r1 r2 r3 (td2 s1 n0 n1 ba t) 3, past, []⟩ :: cell p1 (.lst [.str s0, .str s1]) :: cell p2 (.lst [.str n0, .str n1, .str n2, .str n3]) :: Rs) := S2.pick
      clear S2
      refine ⟨b, day, "a", "a", _, fk4 s0 n0 n1 n2 n3 r0 r1 r2 r3, td2 s1 n0 n1 ba t, .bad "NoMan", _, rfl, S3, rfl, rfl, hpz, by unfold TakeAt; rw [if_pos dk, if_neg (by rw [folk_a N]; exact Bool.false_ne_true)], fun H9 pk9 S9 => ?_⟩
      exact k H9 (by walk_at "pk") S9.pick
    · rw [show L2.start N__law_wrong_deed [.ref b, .int 2, .int day, .ref p1, .ref p2, .str "a"] = [some (.ref b), some (.int 2), some (.int day), some (.ref p1), some (.ref p2), some (.str "a"), none, none] from rfl]
      walk_at "sx"
      refine x_asgL (xs := [.str s0, .str s1]) (SqL.of sat_at) rfl ?_
      walk_at "sx"
      refine x_ifD (fun _ => ?_) (fun c => absurd (by decide) c)
      walk_at "sx"
      rename_i l1 H1 pk1 S1 l2a H2 pk2 S2
      clear S S1
      have S3 : Sat H2 (book (CB K) b ⟨st4 s0 s1 n0 n1 n2 n3 r0 r1 r2 r3 (td2 s1 n0 n1 ba t) 3, past, []⟩ :: cell p1 (.lst [.str s0, .str s1]) :: cell p2 (.lst [.str n0, .str n1, .str n2, .str n3]) :: Rs) := S2.pick
      clear S2
      refine ⟨b, day, "a", "a", _, fk4 s0 n0 n1 n2 n3 r0 r1 r2 r3, td2 s1 n0 n1 ba t, .bad "NoMan", _, rfl, S3, rfl, rfl, hpz, by unfold TakeAt; rw [if_pos dk, if_neg (by rw [folk_a N]; exact Bool.false_ne_true)], fun H9 pk9 S9 => ?_⟩
      exact k H9 (by walk_at "pk") S9.pick
    · rw [show L2.start N__law_wrong_deed [.ref b, .int 3, .int day, .ref p1, .ref p2, .str "a"] = [some (.ref b), some (.int 3), some (.int day), some (.ref p1), some (.ref p2), some (.str "a"), none, none] from rfl]
      walk_at "sx"
      refine x_asgL (xs := [.str s0, .str s1]) (SqL.of sat_at) rfl ?_
      walk_at "sx"
      refine x_ifD (fun c => absurd c (by decide)) (fun _ => ?_)
      walk_at "sx"
      refine x_ifD (fun _ => ?_) (fun c => absurd rfl c)
      walk_at "sx"
      refine ⟨b, day, n1, s0, _, fk4 s0 n0 n1 n2 n3 r0 r1 r2 r3, td2 s1 n0 n1 ba t, .bad "Own", _, rfl, S, rfl, rfl, hpz, by unfold TakeAt; rw [if_pos dk, if_pos (folk_in (.inr (.inl rfl))), if_pos sid_0]; exact ⟨l2, look3 N t0 t8 dy fun pa => fall_own N⟩, fun H9 pk9 S9 => ?_⟩
      exact k H9 (by walk_at "pk") S9.pick
    · rw [show L2.start N__law_wrong_deed [.ref b, .int 4, .int day, .ref p1, .ref p2, .str "a"] = [some (.ref b), some (.int 4), some (.int day), some (.ref p1), some (.ref p2), some (.str "a"), none, none] from rfl]
      walk_at "sx"
      refine x_asgL (xs := [.str s0, .str s1]) (SqL.of sat_at) rfl ?_
      walk_at "sx"
      refine x_ifD (fun c => absurd c (by decide)) (fun _ => ?_)
      walk_at "sx"
      refine x_ifD (fun c => absurd c (by decide)) (fun _ => ?_)
      walk_at "sx"
      refine x_ifD (fun _ => ?_) (fun c => absurd rfl c)
      walk_at "sx"
      refine ⟨b, day, "a", 6, _, fk4 s0 n0 n1 n2 n3 r0 r1 r2 r3, td2 s1 n0 n1 ba t, .bad "NoMan", _, rfl, S, rfl, rfl, hpz, by unfold RankAt; rw [if_pos dk, if_neg (by rw [folk_a N]; exact Bool.false_ne_true)], fun H9 pk9 S9 => ?_⟩
      exact k H9 (by walk_at "pk") S9.pick
    · rw [show L2.start N__law_wrong_deed [.ref b, .int 5, .int day, .ref p1, .ref p2, .str "a"] = [some (.ref b), some (.int 5), some (.int day), some (.ref p1), some (.ref p2), some (.str "a"), none, none] from rfl]
      walk_at "sx"
      refine x_asgL (xs := [.str s0, .str s1]) (SqL.of sat_at) rfl ?_
      walk_at "sx"
      refine x_ifD (fun c => absurd c (by decide)) (fun _ => ?_)
      walk_at "sx"
      refine x_ifD (fun c => absurd c (by decide)) (fun _ => ?_)
      walk_at "sx"
      refine x_ifD (fun c => absurd c (by decide)) (fun _ => ?_)
      walk_at "sx"
      refine x_ifD (fun _ => ?_) (fun c => absurd rfl c)
      walk_at "sx"
      refine ⟨b, day, n1, 6, _, fk4 s0 n0 n1 n2 n3 r0 r1 r2 r3, td2 s1 n0 n1 ba t, .bad "BadRank", _, rfl, S, rfl, rfl, hpz, by unfold RankAt; rw [if_pos dk, if_pos (folk_in (.inr (.inl rfl))), if_neg (by decide)], fun H9 pk9 S9 => ?_⟩
      exact k H9 (by walk_at "pk") S9.pick
    · rw [show L2.start N__law_wrong_deed [.ref b, .int 6, .int day, .ref p1, .ref p2, .str "a"] = [some (.ref b), some (.int 6), some (.int day), some (.ref p1), some (.ref p2), some (.str "a"), none, none] from rfl]
      walk_at "sx"
      refine x_asgL (xs := [.str s0, .str s1]) (SqL.of sat_at) rfl ?_
      walk_at "sx"
      refine x_ifD (fun c => absurd c (by decide)) (fun _ => ?_)
      walk_at "sx"
      refine x_ifD (fun c => absurd c (by decide)) (fun _ => ?_)
      walk_at "sx"
      refine x_ifD (fun c => absurd c (by decide)) (fun _ => ?_)
      walk_at "sx"
      refine x_ifD (fun c => absurd c (by decide)) (fun _ => ?_)
      walk_at "sx"
      refine x_ifD (fun _ => ?_) (fun c => absurd rfl c)
      walk_at "sx"
      refine ⟨b, day, n1, _, fk4 s0 n0 n1 n2 n3 r0 r1 r2 r3, td2 s1 n0 n1 ba t, .bad "Gone", _, rfl, S, rfl, rfl, hpz, by unfold OneAt; rw [if_pos dk]; exact Eq.mpr (if_pos (folk_in (.inr (.inl rfl)))) ⟨l2, look3 N t0 t8 dy fun pa => fall_gone N⟩, fun H9 pk9 S9 => ?_⟩
      exact k H9 (by walk_at "pk") S9.pick
    · rw [show L2.start N__law_wrong_deed [.ref b, .int 7, .int day, .ref p1, .ref p2, .str "a"] = [some (.ref b), some (.int 7), some (.int day), some (.ref p1), some (.ref p2), some (.str "a"), none, none] from rfl]
      walk_at "sx"
      refine x_asgL (xs := [.str s0, .str s1]) (SqL.of sat_at) rfl ?_
      walk_at "sx"
      refine x_ifD (fun c => absurd c (by decide)) (fun _ => ?_)
      walk_at "sx"
      refine x_ifD (fun c => absurd c (by decide)) (fun _ => ?_)
      walk_at "sx"
      refine x_ifD (fun c => absurd c (by decide)) (fun _ => ?_)
      walk_at "sx"
      refine x_ifD (fun c => absurd c (by decide)) (fun _ => ?_)
      walk_at "sx"
      refine x_ifD (fun c => absurd c (by decide)) (fun _ => ?_)
      walk_at "sx"
      refine x_ifD (fun _ => ?_) (fun c => absurd rfl c)
      walk_at "sx"
      rename_i m1 H1 pk1 S1 m2 H2 pk2 S2
      clear S S1
      have S3 : Sat H2 (book (CB K) b ⟨st4 s0 s1 n0 n1 n2 n3 r0 r1 r2 r3 (td2 s1 n0 n1 ba t) 3, past, []⟩ :: cell m1 (.lst []) :: cell m2 (.lst []) :: cell p1 (.lst [.str s0, .str s1]) :: cell p2 (.lst [.str n0, .str n1, .str n2, .str n3]) :: Rs) := S2.pick
      clear S2
      refine ⟨b, m1, m2, -1, "a", "a", [], [], _, fk4 s0 n0 n1 n2 n3 r0 r1 r2 r3, td2 s1 n0 n1 ba t, .bad "BadDay", _, rfl, S3, Nat.le_of_ble_eq_true rfl, Nat.le_of_ble_eq_true rfl, rfl, rfl, hpz, swap_day (by decide), fun H9 pk9 S9 => ?_⟩
      exact k H9 (by walk_at "pk") S9.pick
    · rw [show L2.start N__law_wrong_deed [.ref b, .int 8, .int day, .ref p1, .ref p2, .str "a"] = [some (.ref b), some (.int 8), some (.int day), some (.ref p1), some (.ref p2), some (.str "a"), none, none] from rfl]
      walk_at "sx"
      refine x_asgL (xs := [.str s0, .str s1]) (SqL.of sat_at) rfl ?_
      walk_at "sx"
      refine x_ifD (fun c => absurd c (by decide)) (fun _ => ?_)
      walk_at "sx"
      refine x_ifD (fun c => absurd c (by decide)) (fun _ => ?_)
      walk_at "sx"
      refine x_ifD (fun c => absurd c (by decide)) (fun _ => ?_)
      walk_at "sx"
      refine x_ifD (fun c => absurd c (by decide)) (fun _ => ?_)
      walk_at "sx"
      refine x_ifD (fun c => absurd c (by decide)) (fun _ => ?_)
      walk_at "sx"
      refine x_ifD (fun c => absurd c (by decide)) (fun _ => ?_)
      walk_at "sx"
      refine x_ifD (fun _ => ?_) (fun c => absurd rfl c)
      walk_at "sx"
      rename_i m1 H1 pk1 S1 m2 H2 pk2 S2
      clear S S1
      have S3 : Sat H2 (book (CB K) b ⟨st4 s0 s1 n0 n1 n2 n3 r0 r1 r2 r3 (td2 s1 n0 n1 ba t) 3, past, []⟩ :: cell m1 (.lst []) :: cell m2 (.lst []) :: cell p1 (.lst [.str s0, .str s1]) :: cell p2 (.lst [.str n0, .str n1, .str n2, .str n3]) :: Rs) := S2.pick
      clear S2
      refine ⟨b, m1, m2, day, "a", "a", [], [], _, fk4 s0 n0 n1 n2 n3 r0 r1 r2 r3, td2 s1 n0 n1 ba t, .bad "NoSide", _, rfl, S3, Nat.le_of_ble_eq_true rfl, Nat.le_of_ble_eq_true rfl, rfl, rfl, hpz, swap_cart dk (cart_bad (two_aa N) (by decide)) (by decide), fun H9 pk9 S9 => ?_⟩
      exact k H9 (by walk_at "pk") S9.pick
    · rw [show L2.start N__law_wrong_deed [.ref b, .int 9, .int day, .ref p1, .ref p2, .str "a"] = [some (.ref b), some (.int 9), some (.int day), some (.ref p1), some (.ref p2), some (.str "a"), none, none] from rfl]
      walk_at "sx"
      refine x_asgL (xs := [.str s0, .str s1]) (SqL.of sat_at) rfl ?_
      walk_at "sx"
      refine x_ifD (fun c => absurd c (by decide)) (fun _ => ?_)
      walk_at "sx"
      refine x_ifD (fun c => absurd c (by decide)) (fun _ => ?_)
      walk_at "sx"
      refine x_ifD (fun c => absurd c (by decide)) (fun _ => ?_)
      walk_at "sx"
      refine x_ifD (fun c => absurd c (by decide)) (fun _ => ?_)
      walk_at "sx"
      refine x_ifD (fun c => absurd c (by decide)) (fun _ => ?_)
      walk_at "sx"
      refine x_ifD (fun c => absurd c (by decide)) (fun _ => ?_)
      walk_at "sx"
      refine x_ifD (fun c => absurd c (by decide)) (fun _ => ?_)
      walk_at "sx"
      refine x_ifD (fun _ => ?_) (fun c => absurd rfl c)
      walk_at "sx"
      rename_i m1 H1 pk1 S1 m2 H2 pk2 S2
      clear S S1
      have S3 : Sat H2 (book (CB K) b ⟨st4 s0 s1 n0 n1 n2 n3 r0 r1 r2 r3 (td2 s1 n0 n1 ba t) 3, past, []⟩ :: cell m1 (.lst []) :: cell m2 (.lst []) :: cell p1 (.lst [.str s0, .str s1]) :: cell p2 (.lst [.str n0, .str n1, .str n2, .str n3]) :: Rs) := S2.pick
      clear S2
      refine ⟨b, m1, m2, day, s0, s0, [], [], _, fk4 s0 n0 n1 n2 n3 r0 r1 r2 r3, td2 s1 n0 n1 ba t, .bad "Own", _, rfl, S3, Nat.le_of_ble_eq_true rfl, Nat.le_of_ble_eq_true rfl, rfl, rfl, hpz, swap_cart dk (cart_bad two_00 (by decide)) (by decide), fun H9 pk9 S9 => ?_⟩
      exact k H9 (by walk_at "pk") S9.pick
    · rw [show L2.start N__law_wrong_deed [.ref b, .int 10, .int day, .ref p1, .ref p2, .str "a"] = [some (.ref b), some (.int 10), some (.int day), some (.ref p1), some (.ref p2), some (.str "a"), none, none] from rfl]
      walk_at "sx"
      refine x_asgL (xs := [.str s0, .str s1]) (SqL.of sat_at) rfl ?_
      walk_at "sx"
      refine x_ifD (fun c => absurd c (by decide)) (fun _ => ?_)
      walk_at "sx"
      refine x_ifD (fun c => absurd c (by decide)) (fun _ => ?_)
      walk_at "sx"
      refine x_ifD (fun c => absurd c (by decide)) (fun _ => ?_)
      walk_at "sx"
      refine x_ifD (fun c => absurd c (by decide)) (fun _ => ?_)
      walk_at "sx"
      refine x_ifD (fun c => absurd c (by decide)) (fun _ => ?_)
      walk_at "sx"
      refine x_ifD (fun c => absurd c (by decide)) (fun _ => ?_)
      walk_at "sx"
      refine x_ifD (fun c => absurd c (by decide)) (fun _ => ?_)
      walk_at "sx"
      refine x_ifD (fun c => absurd c (by decide)) (fun _ => ?_)
      walk_at "sx"
      refine x_ifD (fun _ => ?_) (fun c => absurd rfl c)
      walk_at "sx"
      rename_i m1 H1 pk1 S1 m2 H2 pk2 S2
      clear S S1
      have S3 : Sat H2 (book (CB K) b ⟨st4 s0 s1 n0 n1 n2 n3 r0 r1 r2 r3 (td2 s1 n0 n1 ba t) 3, past, []⟩ :: cell m1 (.lst [.str "a", .str n2]) :: cell m2 (.lst [.str n2]) :: cell p1 (.lst [.str s0, .str s1]) :: cell p2 (.lst [.str n0, .str n1, .str n2, .str n3]) :: Rs) := S2.pick
      clear S2
      refine ⟨b, m1, m2, day, s0, s1, ["a", n2], [n2], _, fk4 s0 n0 n1 n2 n3 r0 r1 r2 r3, td2 s1 n0 n1 ba t, .bad "NoMan", _, rfl, S3, Nat.le_of_ble_eq_true rfl, Nat.le_of_ble_eq_true rfl, rfl, rfl, hpz, by unfold SwapAt; rw [if_pos dk, if_pos (cart_01 N), if_neg (by simp), if_neg (fun z => by have := List.all_eq_true.mp z "a" (by simp); rw [folk_a N] at this; cases this)], fun H9 pk9 S9 => ?_⟩
      exact k H9 (by walk_at "pk") S9.pick
    · rw [show L2.start N__law_wrong_deed [.ref b, .int 11, .int day, .ref p1, .ref p2, .str "a"] = [some (.ref b), some (.int 11), some (.int day), some (.ref p1), some (.ref p2), some (.str "a"), none, none] from rfl]
      walk_at "sx"
      refine x_asgL (xs := [.str s0, .str s1]) (SqL.of sat_at) rfl ?_
      walk_at "sx"
      refine x_ifD (fun c => absurd c (by decide)) (fun _ => ?_)
      walk_at "sx"
      refine x_ifD (fun c => absurd c (by decide)) (fun _ => ?_)
      walk_at "sx"
      refine x_ifD (fun c => absurd c (by decide)) (fun _ => ?_)
      walk_at "sx"
      refine x_ifD (fun c => absurd c (by decide)) (fun _ => ?_)
      walk_at "sx"
      refine x_ifD (fun c => absurd c (by decide)) (fun _ => ?_)
      walk_at "sx"
      refine x_ifD (fun c => absurd c (by decide)) (fun _ => ?_)
      walk_at "sx"
      refine x_ifD (fun c => absurd c (by decide)) (fun _ => ?_)
      walk_at "sx"
      refine x_ifD (fun c => absurd c (by decide)) (fun _ => ?_)
      walk_at "sx"
      refine x_ifD (fun c => absurd c (by decide)) (fun _ => ?_)
      walk_at "sx"
      refine x_ifD (fun _ => ?_) (fun c => absurd rfl c)
      walk_at "sx"
      rename_i m1 H1 pk1 S1 m2 H2 pk2 S2
      clear S S1
      have S3 : Sat H2 (book (CB K) b ⟨st4 s0 s1 n0 n1 n2 n3 r0 r1 r2 r3 (td2 s1 n0 n1 ba t) 3, past, []⟩ :: cell m1 (.lst [.str n2]) :: cell m2 (.lst [.str n2]) :: cell p1 (.lst [.str s0, .str s1]) :: cell p2 (.lst [.str n0, .str n1, .str n2, .str n3]) :: Rs) := S2.pick
      clear S2
      refine ⟨b, m1, m2, day, s0, s1, [n2], [n2], _, fk4 s0 n0 n1 n2 n3 r0 r1 r2 r3, td2 s1 n0 n1 ba t, .bad "Twice", _, rfl, S3, Nat.le_of_ble_eq_true rfl, Nat.le_of_ble_eq_true rfl, rfl, rfl, hpz, by unfold SwapAt; rw [if_pos dk, if_pos (cart_01 N), if_neg (by simp), if_pos (List.all_eq_true.mpr fun z hz => folk_in (.inr (.inr (by simpa using hz)))), if_pos (by simp [metS, metStep])], fun H9 pk9 S9 => ?_⟩
      exact k H9 (by walk_at "pk") S9.pick
    · rw [show L2.start N__law_wrong_deed [.ref b, .int 12, .int day, .ref p1, .ref p2, .str "a"] = [some (.ref b), some (.int 12), some (.int day), some (.ref p1), some (.ref p2), some (.str "a"), none, none] from rfl]
      walk_at "sx"
      refine x_asgL (xs := [.str s0, .str s1]) (SqL.of sat_at) rfl ?_
      walk_at "sx"
      refine x_ifD (fun c => absurd c (by decide)) (fun _ => ?_)
      walk_at "sx"
      refine x_ifD (fun c => absurd c (by decide)) (fun _ => ?_)
      walk_at "sx"
      refine x_ifD (fun c => absurd c (by decide)) (fun _ => ?_)
      walk_at "sx"
      refine x_ifD (fun c => absurd c (by decide)) (fun _ => ?_)
      walk_at "sx"
      refine x_ifD (fun c => absurd c (by decide)) (fun _ => ?_)
      walk_at "sx"
      refine x_ifD (fun c => absurd c (by decide)) (fun _ => ?_)
      walk_at "sx"
      refine x_ifD (fun c => absurd c (by decide)) (fun _ => ?_)
      walk_at "sx"
      refine x_ifD (fun c => absurd c (by decide)) (fun _ => ?_)
      walk_at "sx"
      refine x_ifD (fun c => absurd c (by decide)) (fun _ => ?_)
      walk_at "sx"
      refine x_ifD (fun c => absurd c (by decide)) (fun _ => ?_)
      walk_at "sx"
      rename_i m1 H1 pk1 S1 m2 H2 pk2 S2
      clear S S1
      have S3 : Sat H2 (book (CB K) b ⟨st4 s0 s1 n0 n1 n2 n3 r0 r1 r2 r3 (td2 s1 n0 n1 ba t) 3, past, []⟩ :: cell m1 (.lst [.str n0, .str n2]) :: cell m2 (.lst []) :: cell p1 (.lst [.str s0, .str s1]) :: cell p2 (.lst [.str n0, .str n1, .str n2, .str n3]) :: Rs) := S2.pick
      clear S2
      refine ⟨b, m1, m2, day, s0, s1, [n0, n2], [], _, fk4 s0 n0 n1 n2 n3 r0 r1 r2 r3, td2 s1 n0 n1 ba t, .bad "OffRoll", _, rfl, S3, Nat.le_of_ble_eq_true rfl, Nat.le_of_ble_eq_true rfl, rfl, rfl, hpz, by unfold SwapAt; rw [if_pos dk, if_pos (cart_01 N), if_neg (by simp), if_pos (List.all_eq_true.mpr fun z hz => folk_in (by simp at hz; rcases hz with h | h; exact .inl h; exact .inr (.inr h))), if_neg (by simp [metS, metStep, mn_ne N.m0 N.m2 (by decide)])]; exact ⟨l2, look3 N t0 t8 dy fun pa => fall_off N q0 q1⟩, fun H9 pk9 S9 => ?_⟩
      exact k H9 (by walk_at "pk") S9.pick
end
def spRefused (K : PySem.W.Frag) : Sp := fun vs H Q _ => ∃ (b p1 p2 : Addr) (half way : Int) (s0 s1 n0 n1 n2 n3 : Str) (ba t day : Int) (B : Bk) (Rs : List Res), vs = [.ref b, .int half, .int way, .int day, .ref p1, .ref p2, .str "a"] ∧ (half = 0 ∧ 0 ≤ way ∧ way < 8 ∨ half = 1 ∧ 0 ≤ way ∧ way < 13) ∧ Bk4 s0 s1 n0 n1 n2 n3 ba t day B ∧ Sat H (book (CB K) b B :: cell p1 (.lst [.str s0, .str s1]) :: cell p2 (.lst [.str n0, .str n1, .str n2, .str n3]) :: Rs) ∧
  ∀ H', PK H H' → Sat H' (book (CB K) b B :: cell p1 (.lst [.str s0, .str s1]) :: cell p2 (.lst [.str n0, .str n1, .str n2, .str n3]) :: Rs) → Q (.str (if half = 0 then dueA.getD way.toNat "" else dueB.getD way.toNat "")) H'
section
variable {P : Program} {w : World} {K : PySem.W.Frag} {mg : Str → Option Value} {base : Heap}
theorem D_refused (T : Txt K mg) (D__law_called : DnE P w K mg base 1 "_law_called" ["_law_e"] (spCalled K)) (D__law_wrong_names : Dn P w K mg base (L2.CX P w) 7 "_law_wrong_names" ["_law_book", "_law_way", "_law_one", "_law_man", "_law_bad"] (spWrongN K)) (D__law_wrong_deed : Dn P w K mg base (L2.CX P w) 9 "_law_wrong_deed" ["_law_book", "_law_way", "_law_day", "_law_two", "_law_men", "_law_bad"] (spWrongD K))
    (F : Df K mg "_law_refused" s__law_refused) : Dn P w K mg base CX0 10 "_law_refused" ["_law_book", "_law_half", "_law_way", "_law_day", "_law_two", "_law_men", "_law_bad"] (spRefused K) := by
  refine F.dn sc__law_refused (fun _ _ _ _ _ _ us hl => match us, hl with | [_, _, _, _, _, _, _], _ => rfl) (fun vs H Q E h => ?_) (fun f cdv A outer s H vs Q E hr hK h => ?_)
  · obtain ⟨b, p1, p2, half, way, s0, s1, n0, n1, n2, n3, ba, t, day, B, Rs, rfl, _⟩ := h
    rfl
  · obtain ⟨b, p1, p2, half, way, s0, s1, n0, n1, n2, n3, ba, t, day, B, Rs, rfl, hw, BK, S, k⟩ := h
    refine ⟨_, (pss_cons (ps_set (i := 7) sc__law_refused.nd rfl (Or.inl rfl) pe_str)
      (pss_cons (ps_try_as (i := 8) rfl rfl sc__law_refused.nd rfl rfl ⟨rfl, by decide, .inl T.x_CartelError.g⟩ takes0 (fun W pn xe tk tp => (pss_one (ps_if (pt_cmpR op_eq (pv 1) pe_int (nomark _)) (pss_one (ps_expr (pe_dnS D__law_wrong_names (hr.mono (by first | decide | omega)) (fun σ => passAt tk σ) (pa_cons (pv 0) (pa_cons (pv 2) (pa_cons (pe_ix (r := rIxL K) ix_list (pv 4) pe_int (fun _ _ => rfl)) (pa_cons (pe_ix (r := rIxL K) ix_list (pv 5) pe_int (fun _ _ => rfl)) (pa_cons (pv 6) pa_nil)))))))) (pss_one (ps_expr (pe_dnS D__law_wrong_deed (hr.mono (by first | decide | omega)) (fun σ => passAt tk σ) (pa_cons (pv 0) (pa_cons (pv 2) (pa_cons (pv 3) (pa_cons (pv 4) (pa_cons (pv 5) (pa_cons (pv 6) pa_nil)))))))))))) (fun a oe cls d pn hz hf => (pss_one (ps_set (i := 7) sc__law_refused.nd rfl (Or.inl rfl) (pe_dnE D__law_called (hr.mono (by first | decide | omega)) hz hf (pa_cons (pv 8) pa_nil))))))
      (pss_one (ps_ret (pv 7))))), ?_⟩
    try rw [hK]
    rw [show L2.start N__law_refused [.ref b, .int half, .int way, .int day, .ref p1, .ref p2, .str "a"] = [some (.ref b), some (.int half), some (.int way), some (.int day), some (.ref p1), some (.ref p2), some (.str "a"), none, none] from rfl]
    walk_at "sx"
    rcases hw with ⟨rfl, w0, w1⟩ | ⟨rfl, w0, w1⟩
    · refine x_ifD (fun _ => ?_) (fun c => absurd rfl c)
      walk_at "sx"
      refine ⟨b, way, s0, s1, n0, n1, n2, n3, ba, t, day, B, _, rfl, w0, w1, BK, S, fun H2 pk2 S2 => ?_⟩
      have hm := dueA_in w0 w1
      refine ⟨true, T.kit1.kc _ hm, fun _ a ha => ?_, fun q => nomatch q⟩
      walk_at "sx"
      refine ⟨dueA.getD way.toNat "", rfl, .inl rfl, hm, rfl, fun H3 e3 => ?_⟩
      have S3 := S2.mono e3
      clear S S2
      walk_at "sx"
      exact k H3 (pk2.trans (PK.of_ex e3)) S3
    · refine x_ifD (fun c => absurd c (by decide)) (fun _ => ?_)
      walk_at "sx"
      refine ⟨b, p1, p2, way, s0, s1, n0, n1, n2, n3, ba, t, day, B, Rs, rfl, w0, w1, BK, S, fun H2 pk2 S2 => ?_⟩
      have hm := dueB_in w0 w1
      refine ⟨true, T.kit1.kc _ hm, fun _ a ha => ?_, fun q => nomatch q⟩
      walk_at "sx"
      refine ⟨dueB.getD way.toNat "", rfl, .inl rfl, hm, rfl, fun H3 e3 => ?_⟩
      have S3 := S2.mono e3
      clear S S2
      walk_at "sx"
      exact k H3 (pk2.trans (PK.of_ex e3)) S3
end

/-! ### the limit first -/
abbrev s__law_limit_first : Stmt := top 56
abbrev N__law_limit_first : List Str := ["_law_two", "_law_men", "_law_day", "_law_rank", "_law_book", "_law_words", "_law_limit", "_law_e"]
theorem sc__law_limit_first : FnScope N__law_limit_first ["_law_two", "_law_men", "_law_day", "_law_rank"] (defScope s__law_limit_first) := ⟨rfl, rfl, rfl, by decide +kernel, rfl, by decide +kernel, by decide +kernel⟩

theorem pe_bmU {X : Cx} {a : Addr} {pn : List (Addr × Obj)} {o e : Expr} {es : List Expr} {to : TE} {t : TA} {name : Str} {apos cpos : Pos} {T id : String} {r : V → List V → Hp → VK → Prop} (pa : PlainAttrs T) (slot : Slot T name id) (hty : typeOf (.builtin id) = pure (.type "method_descriptor")) (hm : MtR (X.suite a pn) id r) (ho : PE (X.suite a pn) o to) (ha : PA (X.suite a pn) (e :: es) t)
    (hbase : attributeBase o name X.env (eval o X.env) = eval o X.env := by rfl)
    (hfew : ((backTo cpos (starEach (e :: es) X.env)).all (fun x => !x.1) && (backToKw cpos (keywordEach [] X.env)).all (fun x => x.1.isSome)
      && decide ((e :: es).length + ([] : List Keyword).length + (if ([] : List Keyword).isEmpty then 0 else 1) < 30)) = true := by rfl)
    (hline : (apos.endLine == cpos.line) = true := by rfl) (hs : starEach (e :: es) X.env = (false, eval e X.env) :: starEach es X.env := by rfl) (hplain : (backTo cpos (starEach es X.env)).any (·.1) = false := by rfl) :
    PE (X.suite a pn) (.Call (.Attribute o name apos) (e :: es) [] cpos) (tBM X.K T r to t) := pe_bm pa slot hty hm ho ha hbase hfew hline hs hplain
def spLimit (K : PySem.W.Frag) : Sp := fun vs H Q _ => ∃ (p1 p2 : Addr) (s0 s1 n0 n1 n2 n3 : Str) (day rk : Int) (Rs : List Res), vs = [.ref p1, .ref p2, .int day, .int rk] ∧ Nms s0 s1 n0 n1 n2 n3 ∧ dayOk day ∧ 1 ≤ rk ∧ rk ≤ 5 ∧ Sat H (cell p1 (.lst [.str s0, .str s1]) :: cell p2 (.lst [.str n0, .str n1, .str n2, .str n3]) :: Rs) ∧
  ∀ H', PK H H' → Sat H' (cell p1 (.lst [.str s0, .str s1]) :: cell p2 (.lst [.str n0, .str n1, .str n2, .str n3]) :: Rs) → Q (.bl true) H'
section
variable {s0 s1 n0 n1 n2 n3 : Str}
theorem sid_put1 : putD [] (.inr s0) (.bool true) = [(.inr s0, .bool true)] := by simp [putD, hasD]
theorem sid_put2 (N : Nms s0 s1 n0 n1 n2 n3) : putD [(.inr s0, .bool true)] (.inr s1) (.bool true) = sid2 s0 s1 := by
  have h : s0 ≠ s1 := mn_ne N.a0 N.a1 (by decide)
  simp [putD, hasD, sid2, h]
theorem side1_goes (N : Nms s0 s1 n0 n1 n2 n3) {f t : _} {l : Int} {p : Option Pact} : sideOut ⟨[], f, p, t, l⟩ s0 = "" := by
  unfold sideOut
  rw [if_pos (N.a0.isN (by decide)), if_neg (by simp [hasD]), if_neg (by simp)]
theorem side2_goes (N : Nms s0 s1 n0 n1 n2 n3) {f t : _} {l : Int} {p : Option Pact} : sideOut ⟨[(.inr s0, .bool true)], f, p, t, l⟩ s1 = "" := by
  have h : s0 ≠ s1 := mn_ne N.a0 N.a1 (by decide)
  unfold sideOut
  rw [if_pos (N.a1.isN (by decide)), if_neg (by simp [hasD, h]), if_neg (by simp)]
theorem man_goes {F : FolkL} {n sd : Str} {r l : Int} {t : KDs} {p : Option Pact} {i : Nat} (hn : MN i n) (hi : i < 600) (no : (F.any fun f => decide (f.1 = n)) = false) (hs : sd = s0 ∨ sd = s1) (r0 : 0 ≤ r) (r1 : r < 6) (hl : F.length < 40) : manOut ⟨sid2 s0 s1, folkD F, p, t, l⟩ n sd r = "" := by
  unfold manOut
  have h2 : hasD (sid2 s0 s1) (.inr sd) = true := by
    rw [has_sid]
    rcases hs with rfl | rfl
    · rw [decide_eq_true rfl]; rfl
    · rw [decide_eq_true (rfl : sd = sd), Bool.or_true]
  have h3 : (folkD F).length = F.length := by unfold folkD; rw [List.length_map]
  rw [if_pos (hn.isN hi), if_neg (by rw [has_folk, no]; exact Bool.false_ne_true), if_pos h2, if_pos ⟨r0, r1⟩, if_neg (by rw [h3]; omega)]
end
def stL (s0 s1 n0 n1 : Str) (rk : Int) (p : Pact) (Td : Told) (l : Int) : BSt := ⟨sid2 s0 s1, folkD (fkL s0 s1 n0 n1 rk), some p, toldD Td, l⟩
section
variable {s0 s1 n0 n1 n2 n3 : Str} {rk day : Int} {p : Pact} {Td : Told} {l : Int} {pc : Option Pact}
theorem twoLim (N : Nms s0 s1 n0 n1 n2 n3) {f t : KDs} : twoOut ⟨sid2 s0 s1, f, pc, t, l⟩ s0 s1 = "" := by
  unfold twoOut
  rw [if_pos (by rw [has_sid, decide_eq_true rfl]; rfl), if_pos (by rw [has_sid, decide_eq_true (rfl : s1 = s1), Bool.or_true]), if_neg (mn_ne N.a0 N.a1 (by decide))]
theorem twoLim2 (N : Nms s0 s1 n0 n1 n2 n3) {f t : KDs} : twoOut ⟨sid2 s0 s1, f, pc, t, l⟩ s1 s0 = "" := by
  unfold twoOut
  rw [if_pos (by rw [has_sid, decide_eq_true (rfl : s1 = s1), Bool.or_true]), if_pos (by rw [has_sid, decide_eq_true rfl]; rfl), if_neg (mn_ne N.a1 N.a0 (by decide))]
theorem cartL0 (N : Nms s0 s1 n0 n1 n2 n3) (h : LookAt (fkL s0 s1 n0 n1 rk) Td (some ⟨minS s0 s1, maxS s0 s1, [1, 1, 1, 1, 1, 1], 0⟩) 0 .ok) {f t : KDs} : CartAt ⟨sid2 s0 s1, f, none, t, l⟩ (fkL s0 s1 n0 n1 rk) Td s0 s1 [1, 1, 1, 1, 1, 1] 0 .ok := by
  unfold CartAt
  rw [if_pos (twoLim N), if_pos (by decide +kernel), if_pos (by decide)]
  exact ⟨(fun p e => nomatch e), h⟩
theorem folkL_has {z : Str} (h : z = n0 ∨ z = n1) : hasD (folkD (fkL s0 s1 n0 n1 rk)) (.inr z) = true := by
  rw [has_folk]
  rcases h with rfl | rfl <;> simp [fkL]
theorem takeL0 (N : Nms s0 s1 n0 n1 n2 n3) (dk : dayOk day) : TakeAt (stL s0 s1 n0 n1 rk p [] 1) (fkL s0 s1 n0 n1 rk) [] day n0 s1 .ok := by
  unfold TakeAt
  have e1 : hasD (stL s0 s1 n0 n1 rk p [] 1).folk (.inr n0) = true := folkL_has (.inl rfl)
  have e2 : hasD (stL s0 s1 n0 n1 rk p [] 1).sides (.inr s1) = true := by show hasD (sid2 s0 s1) (.inr s1) = true; rw [has_sid, decide_eq_true (rfl : s1 = s1), Bool.or_true]
  rw [if_pos dk, if_pos e1, if_pos e2]
  exact ⟨Nat.lt_of_sub_eq_succ (show 120 - 0 = 119 + 1 from rfl), lookL1 N⟩
theorem takeL1 (N : Nms s0 s1 n0 n1 n2 n3) (dk : dayOk day) : TakeAt (stL s0 s1 n0 n1 rk p (tL1 s1 n0 day) 2) (fkL s0 s1 n0 n1 rk) (tL1 s1 n0 day) day n1 s0 .ok := by
  unfold TakeAt
  have e1 : hasD (stL s0 s1 n0 n1 rk p (tL1 s1 n0 day) 2).folk (.inr n1) = true := folkL_has (.inr rfl)
  have e2 : hasD (stL s0 s1 n0 n1 rk p (tL1 s1 n0 day) 2).sides (.inr s0) = true := by show hasD (sid2 s0 s1) (.inr s0) = true; rw [has_sid, decide_eq_true rfl]; rfl
  rw [if_pos dk, if_pos e1, if_pos e2]
  exact ⟨by simp [tL1], lookL2 N⟩
theorem metS2 {x y : Str} (h : x ≠ y) : (metS [x, y]).length = 2 := by
  have h' : ¬ y = x := fun e => h e.symm
  simp [metS, metStep, h, h']
theorem swapL2 (N : Nms s0 s1 n0 n1 n2 n3) (dk : dayOk day) (k1 : 1 ≤ rk) (k5 : rk ≤ 5) : SwapAt (stL s0 s1 n0 n1 rk (pcL s0 s1) (tL2 s0 s1 n0 n1 day) 3) (fkL s0 s1 n0 n1 rk) (tL2 s0 s1 n0 n1 day) day s0 s1 [n0] [n1] .ok := by
  have h01 : n0 ≠ n1 := mn_ne N.m0 N.m1 (by decide)
  have c : cartOut (stL s0 s1 n0 n1 rk (pcL s0 s1) (tL2 s0 s1 n0 n1 day) 3) s0 s1 = "" := by
    unfold cartOut
    have e1 : twoOut (stL s0 s1 n0 n1 rk (pcL s0 s1) (tL2 s0 s1 n0 n1 day) 3) s0 s1 = "" := twoLim N
    rw [if_pos e1, if_pos]
    show hasT (pactD (some (pcL s0 s1))) (prK s0 s1) = true
    simp [hasT, pactD, pcL, mn_min N.a0 N.a1, mn_max N.a0 N.a1]
  have f : ([n0] ++ [n1]).all (fun n => hasD (stL s0 s1 n0 n1 rk (pcL s0 s1) (tL2 s0 s1 n0 n1 day) 3).folk (.inr n)) = true := by
    show (hasD (folkD (fkL s0 s1 n0 n1 rk)) (.inr n0) && (hasD (folkD (fkL s0 s1 n0 n1 rk)) (.inr n1) && true)) = true
    rw [folkL_has (.inl rfl), folkL_has (.inr rfl)]
    rfl
  unfold SwapAt
  rw [if_pos dk, if_pos c, if_neg (by simp), if_pos f, if_neg (by rw [show [n0] ++ [n1] = [n0, n1] from rfl, metS2 h01]; exact Nat.lt_irrefl 2)]
  exact ⟨by simp [tL2], lookL3 N k1 k5⟩
theorem cartM (N : Nms s0 s1 n0 n1 n2 n3) (k1 : 1 ≤ rk) (k5 : rk ≤ 5) {f t : KDs} {lim : Int} {o : LOut} (h : (¬ (0 ≤ lim ∧ lim ≤ 1000000) ∧ o = .bad "BadLimit") ∨ (lim = 0 ∧ o = .brk)) : CartAt ⟨sid2 s0 s1, f, some (pcL s0 s1), t, l⟩ (fkL s0 s1 n0 n1 rk) (tL3 s0 s1 n0 n1 day) s1 s0 [1, 2, 4, 8, 16, 32] lim o := by
  unfold CartAt
  rw [if_pos (twoLim2 N), if_pos (by decide +kernel)]
  rcases h with ⟨h, rfl⟩ | ⟨rfl, rfl⟩
  · rw [if_neg h]
  · rw [if_pos (by decide), mn_min2 N.a0 N.a1, mn_max2 N.a0 N.a1]
    exact ⟨fun p h => by cases h; exact ⟨rfl, rfl⟩, lookM3 N k1 k5⟩
end
def limW : List Str := ["BadLimit", "BadLimit", "Breaks"]
theorem lim_at {i : Nat} {u : V} (hi : i < 3) (hy : ([.int (-1), .int (10 ^ (6 : Int).toNat + 1), .int 0] : List V)[i]? = some u) : ∃ (x : Int) (z : Str), u = .int x ∧ limW[i]? = some z ∧ z ∈ xcls ∧
    ((¬ (0 ≤ x ∧ x ≤ 1000000) ∧ z = "BadLimit") ∨ (x = 0 ∧ z = "Breaks")) := by
  obtain rfl | rfl | rfl : i = 0 ∨ i = 1 ∨ i = 2 := by omega
  · cases hy
    exact ⟨-1, "BadLimit", rfl, rfl, by decide, .inl ⟨by decide, rfl⟩⟩
  · cases hy
    exact ⟨10 ^ (6 : Int).toNat + 1, "BadLimit", rfl, rfl, by decide, .inl ⟨by decide, rfl⟩⟩
  · cases hy
    exact ⟨0, "Breaks", rfl, rfl, by decide, .inr ⟨rfl, rfl⟩⟩
theorem bfin_x {K : PySem.W.Frag} {b : Addr} {B B' : Bk} {Rs : List Res} {v : V} {H : Hp} {Q : VK} {E : XK} {z : Str} (h : ∀ H' d, PK H H' → Sat H' (book (CB K) b B :: Rs) → (d = none ∨ ∃ dd fs, d = some dd ∧ H' dd = some (.xd fs)) → E (.ref (He.ga K z)) d H') : BFin K b B B' Rs v H Q E (if z = "Breaks" then .brk else .bad z) := by
  by_cases c : z = "Breaks"
  · subst c
    rw [if_pos rfl]
    exact fun H' dd fs pk S e => h H' _ pk S (.inr ⟨dd, fs, rfl, e⟩)
  · rw [if_neg c]
    exact fun H' pk S => h H' _ pk S (.inl rfl)
section
variable {P : Program} {w : World} {K : PySem.W.Frag} {mg : Str → Option Value} {base : Heap}
theorem D_limit (T : Txt K mg) (D__law_called : DnE P w K mg base 1 "_law_called" ["_law_e"] (spCalled K)) (D_Book___init__ : DnM P w K mg base CX0 1 (He.ma K (He.ga K "Book") "__init__") ["self"] (spBookInit K)) (D_Book_side : DnM P w K mg base (L2.CX P w) 3 (He.ma K (He.ga K "Book") "side") ["self", "name"] (spSideX K)) (D_Book_man : DnM P w K mg base (L2.CX P w) 3 (He.ma K (He.ga K "Book") "man") ["self", "name", "side", "rank"] (spManX K))
    (D_Book_cartel : DnM P w K mg base (L2.CX P w) 6 (He.ma K (He.ga K "Book") "cartel") ["self", "one", "other", "worths", "limit"] (spCartel K)) (D_Book_take : DnM P w K mg base (L2.CX P w) 7 (He.ma K (He.ga K "Book") "take") ["self", "day", "man", "side"] (spTakeB K)) (D_Book_swap : DnM P w K mg base (L2.CX P w) 7 (He.ma K (He.ga K "Book") "swap") ["self", "day", "one", "other", "ones", "others"] (spSwap K)) (D_Book_deeds : DnM P w K mg base CX0 2 (He.ma K (He.ga K "Book") "deeds") ["self"] (spDeeds K))
    (F : Df K mg "_law_limit_first" s__law_limit_first) : Dn P w K mg base CX0 9 "_law_limit_first" ["_law_two", "_law_men", "_law_day", "_law_rank"] (spLimit K) := by
  refine F.dn sc__law_limit_first (fun _ _ _ _ _ _ us hl => match us, hl with | [_, _, _, _], _ => rfl) (fun vs H Q E h => ?_) (fun f cdv A outer s H vs Q E hr hK h => ?_)
  · obtain ⟨p1, p2, s0, s1, n0, n1, n2, n3, day, rk, Rs, rfl, _⟩ := h
    rfl
  · obtain ⟨p1, p2, s0, s1, n0, n1, n2, n3, day, rk, Rs, rfl, N, dk, k1, k5, S, k⟩ := h
    have h01 : n0 ≠ n1 := mn_ne N.m0 N.m1 (by decide)
    have ls0 := N.a0.len
    have ls1 := N.a1.len
    have ln0 := N.m0.len
    have ln1 := N.m1.len
    refine ⟨_, (pss_cons (ps_set (i := 4) sc__law_limit_first.nd rfl (Or.inl rfl) (pe_mk0 T.mk_Book D_Book___init__ (hr.mono (by first | decide | omega)) pass0 T.g_Book))
      (pss_cons (ps_expr (pe_mt (pv 4) T.cl_Book T.me_Book_side D_Book_side (hr.mono (by first | decide | omega)) passL (pa_cons (pe_ix ix_list (pv 0) pe_int (fun _ _ => rfl)) pa_nil)))
      (pss_cons (ps_expr (pe_mt (pv 4) T.cl_Book T.me_Book_side D_Book_side (hr.mono (by first | decide | omega)) passL (pa_cons (pe_ix ix_list (pv 0) pe_int (fun _ _ => rfl)) pa_nil)))
      (pss_cons (ps_expr (pe_mt (pv 4) T.cl_Book T.me_Book_man D_Book_man (hr.mono (by first | decide | omega)) passL (pa_cons (pe_ix ix_list (pv 1) pe_int (fun _ _ => rfl)) (pa_cons (pe_ix ix_list (pv 0) pe_int (fun _ _ => rfl)) (pa_cons pe_int pa_nil)))))
      (pss_cons (ps_expr (pe_mt (pv 4) T.cl_Book T.me_Book_man D_Book_man (hr.mono (by first | decide | omega)) passL (pa_cons (pe_ix ix_list (pv 1) pe_int (fun _ _ => rfl)) (pa_cons (pe_ix ix_list (pv 0) pe_int (fun _ _ => rfl)) (pa_cons (pv 3) pa_nil)))))
      (pss_cons (ps_expr (pe_mt (pv 4) T.cl_Book T.me_Book_cartel D_Book_cartel (hr.mono (by first | decide | omega)) passL (pa_cons (pe_ix ix_list (pv 0) pe_int (fun _ _ => rfl)) (pa_cons (pe_ix ix_list (pv 0) pe_int (fun _ _ => rfl)) (pa_cons (pe_lst (pa_cons pe_int (pa_cons pe_int (pa_cons pe_int (pa_cons pe_int (pa_cons pe_int (pa_cons pe_int pa_nil))))))) (pa_cons pe_int pa_nil))))))
      (pss_cons (ps_expr (pe_mt (pv 4) T.cl_Book T.me_Book_take D_Book_take (hr.mono (by first | decide | omega)) passL (pa_cons (pv 2) (pa_cons (pe_ix ix_list (pv 1) pe_int (fun _ _ => rfl)) (pa_cons (pe_ix ix_list (pv 0) pe_int (fun _ _ => rfl)) pa_nil)))))
      (pss_cons (ps_expr (pe_mt (pv 4) T.cl_Book T.me_Book_take D_Book_take (hr.mono (by first | decide | omega)) passL (pa_cons (pv 2) (pa_cons (pe_ix ix_list (pv 1) pe_int (fun _ _ => rfl)) (pa_cons (pe_ix ix_list (pv 0) pe_int (fun _ _ => rfl)) pa_nil)))))
      (pss_cons (ps_expr (pe_mt (pv 4) T.cl_Book T.me_Book_swap D_Book_swap (hr.mono (by first | decide | omega)) passL (pa_cons (pv 2) (pa_cons (pe_ix ix_list (pv 0) pe_int (fun _ _ => rfl)) (pa_cons (pe_ix ix_list (pv 0) pe_int (fun _ _ => rfl)) (pa_cons (pe_lst (pa_cons (pe_ix ix_list (pv 1) pe_int (fun _ _ => rfl)) pa_nil)) (pa_cons (pe_lst (pa_cons (pe_ix ix_list (pv 1) pe_int (fun _ _ => rfl)) pa_nil)) pa_nil)))))))
      (pss_cons (ps_set (i := 5) sc__law_limit_first.nd rfl (Or.inl rfl) (pe_lst pa_nil))
      (pss_cons (ps_for PassesOwn.never rfl (pi_tup (pe_tup (pa_cons (pe_un un_neg pe_int) (pa_cons (pe_op op_add (pe_op op_pow pe_int pe_int) pe_int) (pa_cons pe_int pa_nil))))) (pg_name (i := 6) sc__law_limit_first.nd rfl (Or.inl rfl)) (pss_one (ps_try_as (i := 7) rfl rfl sc__law_limit_first.nd rfl rfl ⟨rfl, by decide, .inl T.x_CartelError.g⟩ takes0 (fun W pn xe tk tp => (pss_one (ps_expr (pe_mtS (pv 4) T.cl_Book T.me_Book_cartel D_Book_cartel (hr.mono (by first | decide | omega)) (fun σ => passAt tk σ) (pa_cons (pe_ix (r := rIxL K) ix_list (pv 0) pe_int (fun _ _ => rfl)) (pa_cons (pe_ix (r := rIxL K) ix_list (pv 0) pe_int (fun _ _ => rfl)) (pa_cons (pe_lst (pa_cons pe_int (pa_cons pe_int (pa_cons pe_int (pa_cons pe_int (pa_cons pe_int (pa_cons pe_int pa_nil))))))) (pa_cons (pv 6) pa_nil)))))))) (fun a oe cls d pn hz hf => (pss_one (ps_expr (pe_bmU PySem.F.plainAttrs_list PySem.F.slot_list_append PySem.F.type_list_append mt_append (pv 5) (pa_cons (pe_dnE D__law_called (hr.mono (by first | decide | omega)) hz hf (pa_cons (pv 7) pa_nil)) pa_nil))))))))
      (pss_one (ps_ret (pe_and (pe_cmpR (op_eqD hr.units) (pv 5) (pe_lst (pa_cons pe_str (pa_cons pe_str (pa_cons pe_str pa_nil)))) (nomark _)) (pe_one (pe_cmpR op_eq (pe_callB g_len rfl T.m_len boot_len (pa_cons (pe_mt0 (pv 4) T.cl_Book T.me_Book_deeds D_Book_deeds (hr.mono (by first | decide | omega)) pass0) pa_nil)) pe_int (nomark _))))))))))))))))), ?_⟩
    try rw [hK]
    rw [show L2.start N__law_limit_first [.ref p1, .ref p2, .int day, .int rk] = [some (.ref p1), some (.ref p2), some (.int day), some (.int rk), none, none, none, none] from rfl]
    walk_at "sx"
    rename_i bk dx H1 pk1 S1
    refine ⟨bk, dx, _, rfl, S1, fun H2 pk2 S2 => ?_⟩
    clear S S1
    walk_at "sx"
    refine ⟨bk, s0, B0, _, rfl, S2, by omega, by decide, by decide, fun c => absurd (side1_goes N) c, fun _ H3 pk3 S3 => ?_⟩
    replace S3 : Sat H3 (book (CB K) bk ⟨⟨[(.inr s0, .bool true)], [], none, [], 1⟩, [⟨[], [], none, [], 1⟩], []⟩ :: cell p1 (.lst [.str s0, .str s1]) :: cell p2 (.lst [.str n0, .str n1, .str n2, .str n3]) :: Rs) := S3
    clear S2
    walk_at "sx"
    refine ⟨bk, s1, _, _, rfl, S3, by omega, Nat.lt_of_sub_eq_succ rfl, Nat.lt_of_sub_eq_succ rfl, fun c => absurd (side2_goes N) c, fun _ H4 pk4 S4 => ?_⟩
    have S4 := S4
    rw [sid_put2 N] at S4
    generalize hpa : ([⟨[], [], none, [], 1⟩] : List BSt) ++ _ = pa at S4
    have lpa : pa.length = 2 := by rw [← hpa]; rfl
    clear S3 hpa
    replace S4 : Sat H4 (book (CB K) bk ⟨⟨sid2 s0 s1, folkD [], none, [], 1⟩, pa, []⟩ :: cell p1 (.lst [.str s0, .str s1]) :: cell p2 (.lst [.str n0, .str n1, .str n2, .str n3]) :: Rs) := S4
    walk_at "sx"
    have lpz : pa.length < sizeLine := by rw [lpa, sizeLine_eq]; decide
    refine ⟨bk, n0, s0, 0, _, _, rfl, S4, by omega, Nat.lt_of_sub_eq_succ rfl, lpz, fun c => absurd (man_goes (F := []) N.m0 (by decide) rfl (.inl rfl) (by decide) (by decide) (by decide)) c, fun _ H5 pk5 S5 => ?_⟩
    clear S4
    have S6 : Sat H5 (book (CB K) bk ⟨⟨sid2 s0 s1, folkD [(n0, s0, 0)], none, [], 1⟩, pa ++ [⟨sid2 s0 s1, folkD [], none, [], 1⟩], []⟩ :: cell p1 (.lst [.str s0, .str s1]) :: cell p2 (.lst [.str n0, .str n1, .str n2, .str n3]) :: Rs) := S5
    clear S5
    generalize hpb : pa ++ [(⟨sid2 s0 s1, folkD [], none, [], 1⟩ : BSt)] = pb at S6
    have lpb : pb.length = 3 := by rw [← hpb, List.length_append, lpa]; rfl
    have lpz2 : pb.length < sizeLine := by rw [lpb, sizeLine_eq]; decide
    clear hpb
    walk_at "sx"
    have f01 : (([(n0, s0, 0)] : FolkL).any fun f => decide (f.1 = n1)) = false := by simp [h01]
    refine ⟨bk, n1, s1, rk, _, _, rfl, S6, by omega, Nat.lt_of_sub_eq_succ rfl, lpz2, fun c => absurd (man_goes (F := [(n0, s0, 0)]) N.m1 (by decide) f01 (.inr rfl) (by omega) (by omega) (Nat.lt_of_sub_eq_succ rfl)) c, fun _ H6 pk6 S7 => ?_⟩
    clear S6
    have S8 : Sat H6 (book (CB K) bk ⟨⟨sid2 s0 s1, folkD (fkL s0 s1 n0 n1 rk), none, toldD [], 1⟩, pb ++ [⟨sid2 s0 s1, folkD [(n0, s0, 0)], none, [], 1⟩], []⟩ :: cell p1 (.lst [.str s0, .str s1]) :: cell p2 (.lst [.str n0, .str n1, .str n2, .str n3]) :: Rs) := by
      rw [show fkL s0 s1 n0 n1 rk = [(n0, s0, 0)] ++ [(n1, s1, rk)] from rfl, ← folk_put f01]
      exact S7
    clear S7
    generalize hpc : pb ++ [(⟨sid2 s0 s1, folkD [(n0, s0, 0)], none, [], 1⟩ : BSt)] = pc at S8
    have lpc : pc.length = 4 := by rw [← hpc, List.length_append, lpb]; rfl
    have lpz3 : pc.length < sizeLine := by rw [lpc, sizeLine_eq]; decide
    clear hpc
    walk_at "sx"
    rename_i lq H7 pk7 S9
    have S10 : Sat H7 (book (CB K) bk ⟨⟨sid2 s0 s1, folkD (fkL s0 s1 n0 n1 rk), none, toldD [], 1⟩, pc, []⟩ :: cell lq (.lst [.int 1, .int 1, .int 1, .int 1, .int 1, .int 1]) :: cell p1 (.lst [.str s0, .str s1]) :: cell p2 (.lst [.str n0, .str n1, .str n2, .str n3]) :: Rs) := S9.pick
    clear S8 S9
    walk_at "sx"
    refine ⟨bk, lq, s0, s1, [1, 1, 1, 1, 1, 1], 0, _, fkL s0 s1 n0 n1 rk, [], .ok, _, rfl, S10, rfl, rfl, lpz3, cartL0 N (lookL0 N), fun H8 pk8 S11 => ?_⟩
    clear S10
    have S12 : Sat H8 (book (CB K) bk ⟨stL s0 s1 n0 n1 rk (pcL s0 s1) [] 1, pc ++ [⟨sid2 s0 s1, folkD (fkL s0 s1 n0 n1 rk), none, toldD [], 1⟩], []⟩ :: cell p1 (.lst [.str s0, .str s1]) :: cell p2 (.lst [.str n0, .str n1, .str n2, .str n3]) :: Rs) := by
      rw [mn_min N.a0 N.a1, mn_max N.a0 N.a1] at S11
      have S11 : Sat H8 (book (CB K) bk ⟨stL s0 s1 n0 n1 rk (pcL s0 s1) [] 1, pc ++ [⟨sid2 s0 s1, folkD (fkL s0 s1 n0 n1 rk), none, toldD [], 1⟩], []⟩ :: cell lq (.lst [.int 1, .int 1, .int 1, .int 1, .int 1, .int 1]) :: cell p1 (.lst [.str s0, .str s1]) :: cell p2 (.lst [.str n0, .str n1, .str n2, .str n3]) :: Rs) := S11
      exact S11.pick
    clear S11
    generalize hpd : pc ++ [(⟨sid2 s0 s1, folkD (fkL s0 s1 n0 n1 rk), none, toldD [], 1⟩ : BSt)] = pd at S12
    have lpd : pd.length = 5 := by rw [← hpd, List.length_append, lpc]; rfl
    have lpz4 : pd.length < sizeLine := by rw [lpd, sizeLine_eq]; decide
    clear hpd
    walk_at "sx"
    refine ⟨bk, day, n0, s1, _, fkL s0 s1 n0 n1 rk, [], .ok, _, rfl, S12, rfl, rfl, lpz4, takeL0 N dk, fun H9 pk9 S13 => ?_⟩
    clear S12
    have S14 : Sat H9 (book (CB K) bk ⟨stL s0 s1 n0 n1 rk (pcL s0 s1) (tL1 s1 n0 day) 2, pd ++ [stL s0 s1 n0 n1 rk (pcL s0 s1) [] 1], []⟩ :: cell p1 (.lst [.str s0, .str s1]) :: cell p2 (.lst [.str n0, .str n1, .str n2, .str n3]) :: Rs) := S13
    clear S13
    generalize hpe : pd ++ [stL s0 s1 n0 n1 rk (pcL s0 s1) [] 1] = pe at S14
    have lpe : pe.length = 6 := by rw [← hpe, List.length_append, lpd]; rfl
    have lpz5 : pe.length < sizeLine := by rw [lpe, sizeLine_eq]; decide
    clear hpe
    walk_at "sx"
    refine ⟨bk, day, n1, s0, _, fkL s0 s1 n0 n1 rk, tL1 s1 n0 day, .ok, _, rfl, S14, rfl, rfl, lpz5, takeL1 N dk, fun H10 pk10 S15 => ?_⟩
    clear S14
    have S16 : Sat H10 (book (CB K) bk ⟨stL s0 s1 n0 n1 rk (pcL s0 s1) (tL2 s0 s1 n0 n1 day) 3, pe ++ [stL s0 s1 n0 n1 rk (pcL s0 s1) (tL1 s1 n0 day) 2], []⟩ :: cell p1 (.lst [.str s0, .str s1]) :: cell p2 (.lst [.str n0, .str n1, .str n2, .str n3]) :: Rs) := S15
    clear S15
    generalize hpf : pe ++ [stL s0 s1 n0 n1 rk (pcL s0 s1) (tL1 s1 n0 day) 2] = pf at S16
    have lpf : pf.length = 7 := by rw [← hpf, List.length_append, lpe]; rfl
    have lpz6 : pf.length < sizeLine := by rw [lpf, sizeLine_eq]; decide
    clear hpf
    walk_at "sx"
    rename_i la H11 pk11 S17 lb H12 pk12 S18
    have S19 : Sat H12 (book (CB K) bk ⟨stL s0 s1 n0 n1 rk (pcL s0 s1) (tL2 s0 s1 n0 n1 day) 3, pf, []⟩ :: cell la (.lst [.str n0]) :: cell lb (.lst [.str n1]) :: cell p1 (.lst [.str s0, .str s1]) :: cell p2 (.lst [.str n0, .str n1, .str n2, .str n3]) :: Rs) := S18.pick
    clear S16 S17 S18
    walk_at "sx"
    refine ⟨bk, la, lb, day, s0, s1, [n0], [n1], _, fkL s0 s1 n0 n1 rk, tL2 s0 s1 n0 n1 day, .ok, _, rfl, S19, Nat.le_of_ble_eq_true rfl, Nat.le_of_ble_eq_true rfl, rfl, rfl, lpz6, swapL2 N dk k1 k5, fun H13 pk13 S20 => ?_⟩
    clear S19
    have S21 : Sat H13 (book (CB K) bk ⟨stL s0 s1 n0 n1 rk (pcL s0 s1) (tL3 s0 s1 n0 n1 day) 4, pf ++ [stL s0 s1 n0 n1 rk (pcL s0 s1) (tL2 s0 s1 n0 n1 day) 3], []⟩ :: cell p1 (.lst [.str s0, .str s1]) :: cell p2 (.lst [.str n0, .str n1, .str n2, .str n3]) :: Rs) := by
      have S20 : Sat H13 (book (CB K) bk ⟨stL s0 s1 n0 n1 rk (pcL s0 s1) (tL3 s0 s1 n0 n1 day) 4, pf ++ [stL s0 s1 n0 n1 rk (pcL s0 s1) (tL2 s0 s1 n0 n1 day) 3], []⟩ :: cell la (.lst [.str n0]) :: cell lb (.lst [.str n1]) :: cell p1 (.lst [.str s0, .str s1]) :: cell p2 (.lst [.str n0, .str n1, .str n2, .str n3]) :: Rs) := S20
      exact S20.pick
    clear S20
    generalize hpg : pf ++ [stL s0 s1 n0 n1 rk (pcL s0 s1) (tL2 s0 s1 n0 n1 day) 3] = pg at S21
    have lpg : pg.length = 8 := by rw [← hpg, List.length_append, lpf]; rfl
    have lpz7 : pg.length < sizeLine := by rw [lpg, sizeLine_eq]; decide
    clear hpg
    walk_at "sx"
    rename_i wl H14 pk14 S22 tq H15 pk15 S23 hq0
    clear S21 S22
    generalize hbb : (⟨stL s0 s1 n0 n1 rk (pcL s0 s1) (tL3 s0 s1 n0 n1 day) 4, pg, []⟩ : Bk) = BB at S23
    have hq : H15 tq = some (.tup [.int (-1), .int (10 ^ (6 : Int).toNat + 1), .int 0]) := hq0
    refine x_iTQ (SqT.of hq) ?_
    refine x_forQ (walk_tup (xs := [.int (-1), .int (10 ^ (6 : Int).toNat + 1), .int 0])) (fun i σ H' => (∃ v1 v2 : Option V, σ = [some (V.ref p1), some (V.ref p2), some (V.int day), some (V.int rk), some (V.ref bk), some (V.ref wl), v1, v2]) ∧ PK H15 H' ∧ SatP H' (cell wl (.lst ((limW.take i).map V.str)) :: book (CB K) bk BB :: cell p1 (.lst [.str s0, .str s1]) :: cell p2 (.lst [.str n0, .str n1, .str n2, .str n3]) :: Rs))
      ⟨⟨_, _, rfl⟩, PK.refl, ⟨S23⟩⟩ (fun i σ H' _ h => SqT.of (h.2.1.tup hq)) (fun i u σ H16 H17 hi h y => ?_) (fun σ H16 h => ?_)
    · obtain ⟨⟨v1, v2, rfl⟩, pk16, ⟨S24⟩⟩ := h
      obtain ⟨rfl, hy⟩ := y
      clear S23
      have hi : i < 3 := hi
      obtain ⟨x, z, rfl, hz, hm, hx⟩ := lim_at hi hy
      have hws : limW.take (i + 1) = limW.take i ++ [z] := by rw [List.take_succ, hz]; rfl
      have lws : (limW.take i).length < 4 := by rw [List.length_take]; omega
      generalize limW.take i = ws at S24 hws lws
      walk_at "sx"
      rename_i lq H18 pk18 S25
      have S26 : Sat H18 (book (CB K) bk BB :: cell lq (.lst [.int 1, .int 2, .int 4, .int 8, .int 16, .int 32]) :: cell wl (.lst (ws.map V.str)) :: cell p1 (.lst [.str s0, .str s1]) :: cell p2 (.lst [.str n0, .str n1, .str n2, .str n3]) :: Rs) := S25.pick
      clear S24 S25
      walk_at "sx"
      subst hbb
      refine ⟨bk, lq, s1, s0, [1, 2, 4, 8, 16, 32], x, _, fkL s0 s1 n0 n1 rk, tL3 s0 s1 n0 n1 day, if z = "Breaks" then .brk else .bad z, _, rfl, S26, rfl, rfl, lpz7, cartM N k1 k5 (by
        rcases hx with ⟨h1, rfl⟩ | ⟨rfl, rfl⟩
        · exact .inl ⟨h1, if_neg (by decide)⟩
        · exact .inr ⟨rfl, if_pos rfl⟩), ?_⟩
      refine bfin_x (fun H19 d pk19 S27 hd => ?_)
      clear S26
      refine ⟨true, T.kit1.kc _ hm, fun _ a ha => ?_, fun q => nomatch q⟩
      walk_at "sx"
      refine ⟨z, rfl, hd, hm, rfl, fun H20 e20 => ?_⟩
      have S28 : Sat H20 (cell wl (.lst (ws.map V.str)) :: book (CB K) bk ⟨stL s0 s1 n0 n1 rk (pcL s0 s1) (tL3 s0 s1 n0 n1 day) 4, pg, []⟩ :: cell p1 (.lst [.str s0, .str s1]) :: cell p2 (.lst [.str n0, .str n1, .str n2, .str n3]) :: Rs) := (S27.mono e20).pick
      clear S27
      walk_at "sx"
      refine x_appendS (by rw [List.length_map, sizeLine_eq]; omega) fun H21 pk21 S29 => ?_
      clear S28
      walk_at "sx"
      refine ⟨⟨_, _, rfl⟩, pk16.trans (pk18.trans (pk19.trans ((PK.of_ex e20).trans pk21))), ⟨?_⟩⟩
      rw [hws, List.map_append]
      exact S29
    · obtain ⟨⟨v1, v2, rfl⟩, pk16, ⟨S24⟩⟩ := h
      clear S23
      walk_at "sx"
      rename_i lz H17 pk17 S25
      have S26 : Sat H17 (cell wl (.lst [.str "BadLimit", .str "BadLimit", .str "Breaks"]) :: cell lz (.lst [.str "BadLimit", .str "BadLimit", .str "Breaks"]) :: book (CB K) bk BB :: cell p1 (.lst [.str s0, .str s1]) :: cell p2 (.lst [.str n0, .str n1, .str n2, .str n3]) :: Rs) := S25.swap
      clear S24 S25
      refine x_eqSame (d := .list [.str "BadLimit", .str "BadLimit", .str "Breaks"]) (.lst (SqL.of sat_at) (.cons (.str _) (.cons (.str _) (.cons (.str _) .nil)))) (.lst (SqL.of sat_at) (.cons (.str _) (.cons (.str _) (.cons (.str _) .nil)))) (by decide +kernel) ?_
      refine x_andVT ?_
      walk_at "sx"
      subst hbb
      have S27 : Sat H17 (book (CB K) bk ⟨stL s0 s1 n0 n1 rk (pcL s0 s1) (tL3 s0 s1 n0 n1 day) 4, pg, []⟩ :: cell p1 (.lst [.str s0, .str s1]) :: cell p2 (.lst [.str n0, .str n1, .str n2, .str n3]) :: Rs) := S26.pick
      clear S26
      refine ⟨bk, _, tL3 s0 s1 n0 n1 day, _, rfl, S27, rfl, by simp [tL3], by simp [tL3], fun p3 zs T' H18 pT od pk18 S28 tp => ?_⟩
      have lzs : zs.length = 3 := by rw [tp.len, List.length_map, pT.length_eq]; rfl
      clear S27
      walk_at "sx"
      rw [lzs]
      refine k H18 (by walk_at "pk") ?_
      have S29 : Sat H18 (cell p1 (.lst [.str s0, .str s1]) :: cell p2 (.lst [.str n0, .str n1, .str n2, .str n3]) :: Rs) := S28.pick
      exact S29
end

/-! ### the law -/
abbrev s_law : Stmt := top 60
abbrev N_law : List Str := ["_law_script", "_law_box_here", "_law_two", "_law_men", "_law_some", "_law_bad", "_law_book", "_law_name", "_law_base", "_law_day", "_law_kept", "_law_due", "_law_way", "_law_letter"]
theorem sc_law : FnScope N_law ["_law_script"] (defScope s_law) := ⟨rfl, rfl, rfl, by decide +kernel, rfl, by decide +kernel, by decide +kernel⟩

theorem names6 {ss ms : List Str} (ls : ss.length = 2) (hs : ∀ i z, ss[i]? = some z → MN i z) (lm : ms.length = 4) (hm : ∀ i z, ms[i]? = some z → MN i z) : ∃ s0 s1 n0 n1 n2 n3, ss = [s0, s1] ∧ ms = [n0, n1, n2, n3] ∧ Nms s0 s1 n0 n1 n2 n3 := by
  match ss, ls with
  | [s0, s1], _ =>
    match ms, lm with
    | [n0, n1, n2, n3], _ => exact ⟨s0, s1, n0, n1, n2, n3, rfl, rfl, hs 0 _ rfl, hs 1 _ rfl, hm 0 _ rfl, hm 1 _ rfl, hm 2 _ rfl, hm 3 _ rfl⟩
theorem inV_strs {z : Str} {xs : List Str} : inV (.str z) (xs.map V.str) = true ↔ z ∈ xs := by
  unfold inV
  rw [List.any_map, List.any_eq_true]
  constructor
  · rintro ⟨y, hy, e⟩
    have e : (y == z) = true := e
    rw [← eq_of_beq e]
    exact hy
  · exact fun h => ⟨z, h, by show (z == z) = true; exact beq_self_eq_true z⟩
theorem flat_strs {xs : List Str} : (xs.map V.str).all flatV = true := by
  rw [List.all_map, List.all_eq_true]
  exact fun _ _ => rfl
theorem x_notInS {K : PySem.W.Frag} {H : Hp} {p : Addr} {z : Str} {xs : List Str} {Q : VK} (h : SqL K H p (xs.map V.str)) (no : z ∉ xs) (k : Q (.bl true) H) : rIn K true (.str z) (.ref p) H Q := by
  refine ⟨p, _, rfl, .inl h, rfl, flat_strs, ?_⟩
  rw [if_pos rfl]
  cases e : inV (.str z) (xs.map V.str) with
  | false => exact k
  | true => exact absurd (inV_strs.mp e) no
theorem mn_one {i c : Nat} {z : Str} (h : MN i z) : (⟨#[c]⟩ : Str) ≠ z := fun e => by
  have := mn_long h
  rw [← e] at this
  exact absurd this (by simp)
theorem eight {i c : Nat} (h : ("abcdefgh" : Str).cps[i]? = some c) (hi : i < 8) : c = 97 + i := by
  have g : ∀ k : Fin 8, ("abcdefgh" : Str).cps[k.val]? = some (97 + k.val) := by decide +kernel
  have := g ⟨i, hi⟩
  rw [h] at this
  exact Option.some.inj this
theorem nth_str {l : List Str} {i : Int} {n : Nat} {z : Str} (hi : i = (n : Int)) (h : l[n]? = some z) : (l.map V.str)[i.toNat]? = some (.str z) := by
  subst hi
  rw [Int.toNat_natCast, List.getElem?_map, h]
  rfl
def fkr (s0 : Str) (ns : List Str) (rs : List Int) : FolkL := List.zipWith (fun n r => (n, s0, r)) ns rs
theorem fkr_snoc {s0 n : Str} {r : Int} : ∀ {ns : List Str} {rs : List Int}, ns[rs.length]? = some n → fkr s0 ns (rs ++ [r]) = fkr s0 ns rs ++ [(n, s0, r)]
  | [], _, h => by simp at h
  | m :: ns, [], h => by
    cases h
    show (n, s0, r) :: List.zipWith _ ns [] = _
    rw [List.zipWith_nil_right]
    rfl
  | m :: ns, q :: rs, h => congrArg ((m, s0, q) :: ·) (fkr_snoc (ns := ns) (rs := rs) h)
theorem fkr_no {s0 n : Str} : ∀ {ns : List Str} {rs : List Int}, ns.Nodup → ns[rs.length]? = some n → ((fkr s0 ns rs).any fun f => decide (f.1 = n)) = false
  | [], _, _, h => by simp at h
  | m :: ns, [], _, h => rfl
  | m :: ns, q :: rs, nd, h => by
    rw [List.nodup_cons] at nd
    have h : ns[rs.length]? = some n := h
    have e : m ≠ n := fun e => nd.1 (e ▸ List.mem_of_getElem? h)
    show (decide (m = n) || (fkr s0 ns rs).any fun f => decide (f.1 = n)) = false
    rw [decide_eq_false e, fkr_no nd.2 h]
    rfl
theorem fkr_len {s0 : Str} {ns : List Str} {rs : List Int} : (fkr s0 ns rs).length ≤ rs.length := by
  unfold fkr
  rw [List.length_zipWith]
  omega
theorem four {rs : List Int} (h : rs.length = 4) : ∃ r0 r1 r2 r3, rs = [r0, r1, r2, r3] := by
  match rs, h with
  | [a, b, c, d], _ => exact ⟨a, b, c, d, rfl⟩
theorem mn_ok {i : Nat} {z : Str} (h : MN i z) (hi : i < 600) : PyData.strOk z = true := by
  obtain ⟨tl, e, _, _, t3⟩ := h.ex
  have e2 : PyData.strOk z = z.cps.toList.all fun c => decide (c < 0x110000) := by
    unfold PyData.strOk
    rw [← Array.all_toList]
  rw [e2, e, List.all_eq_true]
  intro c hc
  refine decide_eq_true ?_
  rcases List.mem_cons.mp hc with rfl | hc
  · omega
  · rcases List.mem_cons.mp hc with rfl | hc
    · omega
    · have := t3 c hc
      omega
section
variable {s0 s1 n0 n1 n2 n3 : Str} {r0 r1 r2 r3 bs t : Int} {l : Int}
theorem ms_nd (N : Nms s0 s1 n0 n1 n2 n3) : [n0, n1, n2, n3].Nodup := fk4_nd N (r0 := 0) (r1 := 0) (r2 := 0) (r3 := 0)
theorem ms_mn (N : Nms s0 s1 n0 n1 n2 n3) {i : Nat} {z : Str} (h : [n0, n1, n2, n3][i]? = some z) : MN i z := by
  have hi := (List.getElem?_eq_some_iff.mp h).1
  have hi : i < 4 := hi
  obtain rfl | rfl | rfl | rfl : i = 0 ∨ i = 1 ∨ i = 2 ∨ i = 3 := by omega
  · cases h; exact N.m0
  · cases h; exact N.m1
  · cases h; exact N.m2
  · cases h; exact N.m3
theorem cart4 (N : Nms s0 s1 n0 n1 n2 n3) {tl : KDs} : CartAt ⟨sid2 s0 s1, folkD (fk4 s0 n0 n1 n2 n3 r0 r1 r2 r3), none, tl, l⟩ (fk4 s0 n0 n1 n2 n3 r0 r1 r2 r3) [] s0 s1 [1, 1, 2, 2, 4, 8] 0 .ok := by
  have e : twoOut ⟨sid2 s0 s1, folkD (fk4 s0 n0 n1 n2 n3 r0 r1 r2 r3), none, tl, l⟩ s0 s1 = "" := twoLim N
  unfold CartAt
  rw [if_pos e, if_pos (by decide +kernel), if_pos (by decide)]
  exact ⟨(fun p e => nomatch e), look0 N⟩
theorem take4 (N : Nms s0 s1 n0 n1 n2 n3) (h0 : 0 ≤ bs) (h1 : bs ≤ 998999) : TakeAt (st4 s0 s1 n0 n1 n2 n3 r0 r1 r2 r3 [] 1) (fk4 s0 n0 n1 n2 n3 r0 r1 r2 r3) [] bs n0 s1 .ok := by
  unfold TakeAt
  rw [if_pos ⟨by omega, by omega⟩, if_pos (folk_in (.inl rfl)), if_pos sid_1]
  exact ⟨Nat.lt_of_sub_eq_succ (show 120 - 0 = 119 + 1 from rfl), look1 N⟩
theorem die4 (N : Nms s0 s1 n0 n1 n2 n3) (h0 : 0 ≤ bs) (h1 : bs ≤ 998999) (t0 : 0 ≤ t) (t1 : t ≤ 8) : OneAt (st4 s0 s1 n0 n1 n2 n3 r0 r1 r2 r3 (td1 s1 n0 bs) 2) (fk4 s0 n0 n1 n2 n3 r0 r1 r2 r3) (td1 s1 n0 bs) (bs + t) (.die n1) .ok := by
  unfold OneAt
  rw [if_pos ⟨by omega, by omega⟩]
  refine Eq.mpr (if_pos (folk_in (.inr (.inl rfl)))) ⟨by simp [td1], look2 N t0⟩
def keptD (s0 s1 n0 n1 n2 n3 : Str) (r0 r1 r2 r3 bs t : Int) (ys : List Str) : PyData := .tuple [.list [.str s0, .str s1], .list (ys.map (menRow (fk4 s0 n0 n1 n2 n3 r0 r1 r2 r3))), .list [pactRow (pc1 s0 s1)], .list ((td2 s1 n0 n1 bs t).map deedD)]
theorem kept_ok (N : Nms s0 s1 n0 n1 n2 n3) {ys : List Str} (hy : ys.Perm [n0, n1, n2, n3]) : SeqAt.shaped (keptD s0 s1 n0 n1 n2 n3 r0 r1 r2 r3 bs t ys) = true := by
  have a0 := mn_ok N.a0 (by decide)
  have a1 := mn_ok N.a1 (by decide)
  have m0 := mn_ok N.m0 (by decide)
  have m1 := mn_ok N.m1 (by decide)
  have hm : ∀ y ∈ ys, PyData.strOk y = true := fun y h => by
    have h := hy.mem_iff.mp h
    simp only [List.mem_cons, List.not_mem_nil, or_false] at h
    rcases h with rfl | rfl | rfl | rfl
    · exact m0
    · exact m1
    · exact mn_ok N.m2 (by decide)
    · exact mn_ok N.m3 (by decide)
  have one : ∀ {z : Str}, PyData.strOk z = true → OkD 5 (.str z) := fun h => .str h
  refine OkD.shaped (n := 9) (.tuple (Nat.le_of_ble_eq_true rfl) fun d hd => ?_) (by decide)
  simp only [List.mem_cons, List.not_mem_nil, or_false] at hd
  rcases hd with rfl | rfl | rfl | rfl
  · refine .list (Nat.le_of_ble_eq_true rfl) fun d hd => ?_
    simp only [List.mem_cons, List.not_mem_nil, or_false] at hd
    rcases hd with rfl | rfl
    · exact .str a0
    · exact .str a1
  · refine .list (by rw [List.length_map, hy.length_eq]; exact Nat.le_of_ble_eq_true rfl) fun d hd => ?_
    obtain ⟨y, h1, rfl⟩ := List.mem_map.mp hd
    have hy1 := hm y h1
    unfold menRow
    split
    · next f hf =>
      have hf := List.mem_of_find?_eq_some hf
      have e : f.2.1 = s0 := by
        simp only [fk4, List.mem_cons, List.not_mem_nil, or_false] at hf
        rcases hf with rfl | rfl | rfl | rfl <;> rfl
      refine .tuple (Nat.le_of_ble_eq_true rfl) fun d hd => ?_
      simp only [List.mem_cons, List.not_mem_nil, or_false] at hd
      rcases hd with rfl | rfl | rfl
      · exact .str hy1
      · rw [e]; exact .str a0
      · exact .int _
    · exact .none
  · refine .list (Nat.le_of_ble_eq_true rfl) fun d hd => ?_
    cases List.mem_singleton.mp hd
    refine .tuple (Nat.le_of_ble_eq_true rfl) fun d hd => ?_
    simp only [List.mem_cons, List.not_mem_nil, or_false] at hd
    rcases hd with rfl | rfl | rfl | rfl
    · exact .str a0
    · exact .str a1
    · refine .tuple (Nat.le_of_ble_eq_true rfl) fun d hd => ?_
      obtain ⟨i, _, rfl⟩ := List.mem_map.mp hd
      exact .int _
    · exact .int _
  · refine .list (Nat.le_of_ble_eq_true rfl) fun d hd => ?_
    obtain ⟨u, hu, rfl⟩ := List.mem_map.mp hd
    simp only [td2, List.mem_cons, List.not_mem_nil, or_false] at hu
    rcases hu with rfl | rfl
    · refine .tuple (Nat.le_of_ble_eq_true rfl) fun d hd => ?_
      simp only [List.mem_cons, List.not_mem_nil, or_false] at hd
      rcases hd with rfl | rfl | rfl
      · exact .int _
      · exact .int _
      · refine .tuple (Nat.le_of_ble_eq_true rfl) fun d hd => ?_
        simp only [Dd.ds, Deed.ds, List.mem_cons, List.not_mem_nil, or_false] at hd
        rcases hd with rfl | rfl | rfl
        · exact .str (by decide +kernel)
        · exact .str m0
        · exact .str a1
    · refine .tuple (Nat.le_of_ble_eq_true rfl) fun d hd => ?_
      simp only [List.mem_cons, List.not_mem_nil, or_false] at hd
      rcases hd with rfl | rfl | rfl
      · exact .int _
      · exact .int _
      · refine .tuple (Nat.le_of_ble_eq_true rfl) fun d hd => ?_
        simp only [Dd.ds, Deed.ds, List.mem_cons, List.not_mem_nil, or_false] at hd
        rcases hd with rfl | rfl
        · exact .str (by decide +kernel)
        · exact .str m1
end
section
variable {P : Program} {w : World} {K : PySem.W.Frag} {mg : Str → Option Value} {base : Heap}
theorem D_law (T : Txt K mg) (D__law_box : Dn P w K mg base CX0 1 "_law_box" ["_law_script"] (spBox K)) (D__law_take : Dn P w K mg base CX0 2 "_law_take" ["_law_box_here", "_law_size"] spTake) (D__law_many_names : Dn P w K mg base CX0 4 "_law_many_names" ["_law_box_here", "_law_many"] spMany)
    (D__law_refused : Dn P w K mg base CX0 10 "_law_refused" ["_law_book", "_law_half", "_law_way", "_law_day", "_law_two", "_law_men", "_law_bad"] (spRefused K)) (D__law_limit_first : Dn P w K mg base CX0 9 "_law_limit_first" ["_law_two", "_law_men", "_law_day", "_law_rank"] (spLimit K))
    (D_Book___init__ : DnM P w K mg base CX0 1 (He.ma K (He.ga K "Book") "__init__") ["self"] (spBookInit K)) (D_Book_sides : DnM P w K mg base CX0 1 (He.ma K (He.ga K "Book") "sides") ["self"] (spSides K)) (D_Book_men : DnM P w K mg base CX0 1 (He.ma K (He.ga K "Book") "men") ["self"] (spMen K)) (D_Book_deeds : DnM P w K mg base CX0 2 (He.ma K (He.ga K "Book") "deeds") ["self"] (spDeeds K)) (D_Book_cartels : DnM P w K mg base CX0 1 (He.ma K (He.ga K "Book") "cartels") ["self"] (spCartels K)) (D_Book_side : DnM P w K mg base (L2.CX P w) 3 (He.ma K (He.ga K "Book") "side") ["self", "name"] (spSideX K)) (D_Book_man : DnM P w K mg base (L2.CX P w) 3 (He.ma K (He.ga K "Book") "man") ["self", "name", "side", "rank"] (spManX K)) (D_Book_cartel : DnM P w K mg base (L2.CX P w) 6 (He.ma K (He.ga K "Book") "cartel") ["self", "one", "other", "worths", "limit"] (spCartel K)) (D_Book_take : DnM P w K mg base (L2.CX P w) 7 (He.ma K (He.ga K "Book") "take") ["self", "day", "man", "side"] (spTakeB K)) (D_Book_die : DnM P w K mg base (L2.CX P w) 8 (He.ma K (He.ga K "Book") "die") ["self", "day", "man"] (spOne K .die))
    {f : Addr} {fd : FuncData} (F : Fun K "law" "law" s_law f fd) : FnOk P w K mg base CX0 11 f fd ["_law_script"] (spLaw K) := by
  refine F.ok sc_law (fun vs H Q E h => ?_) (fun cdv A outer s H vs Q E hr h => ?_)
  · obtain ⟨a, ns, rfl, _⟩ := h
    rfl
  · obtain ⟨sc, ns, rfl, hS, hlen, hbits, k⟩ := h
    have hK : (cxOf CX0 P w K mg base N_law "law" (defScope s_law) f cdv A outer s H E).nox.K = K := rfl
    refine ⟨_, (pss_cons (ps_set (i := 1) sc_law.nd rfl (Or.inl rfl) (pe_dn D__law_box (hr.mono (by first | decide | omega)) pass0 (pa_cons (pv 0) pa_nil)))
      (pss_cons (ps_set (i := 2) sc_law.nd rfl (Or.inr rfl) (pe_dn D__law_many_names (hr.mono (by first | decide | omega)) pass0 (pa_cons (pv 1) (pa_cons pe_int pa_nil))))
      (pss_cons (ps_set (i := 3) sc_law.nd rfl (Or.inr rfl) (pe_dn D__law_many_names (hr.mono (by first | decide | omega)) pass0 (pa_cons (pv 1) (pa_cons pe_int pa_nil))))
      (pss_cons (ps_setLc (i := 4) (own := [("_law_letter", 13)]) (g := gName 13) rfl sc_law.nd rfl rfl (sw_true rfl rfl rfl (by decide +kernel)) (pi_str pe_str) (blkOk_by (own := [("_law_letter", 13)]) (N := N_law) (sc := defScope s_law) (by decide +kernel)) (fun _ _ _ _ _ => pg_name (i := 13) sc_law.nd rfl (Or.inl rfl)) (fun _ _ _ _ _ => pts_one (pt_cmpR (r := rIn K true) op_notIn_seq (pv 13) (pe_op op_cat (pv 2) (pv 3)) rfl)) (fun _ _ _ _ _ => (pv 13)))
      (pss_cons (ps_set (i := 5) sc_law.nd rfl (Or.inl rfl) (pe_ix ix_list (pv 4) pe_int (fun _ _ => rfl)))
      (pss_cons (ps_set (i := 6) sc_law.nd rfl (Or.inl rfl) (pe_mk0 T.mk_Book D_Book___init__ (hr.mono (by first | decide | omega)) pass0 T.g_Book))
      (pss_cons (ps_expr (pe_mt (pv 6) T.cl_Book T.me_Book_side D_Book_side (hr.mono (by first | decide | omega)) passL (pa_cons (pe_ix ix_list (pv 2) pe_int (fun _ _ => rfl)) pa_nil)))
      (pss_cons (ps_expr (pe_mt (pv 6) T.cl_Book T.me_Book_side D_Book_side (hr.mono (by first | decide | omega)) passL (pa_cons (pe_ix ix_list (pv 2) pe_int (fun _ _ => rfl)) pa_nil)))
      (pss_cons (ps_for PassesOwn.never rfl (pi_list (pv 3)) (pg_name (i := 7) sc_law.nd rfl (Or.inl rfl)) (pss_one (ps_expr (pe_mt (pv 6) T.cl_Book T.me_Book_man D_Book_man (hr.mono (by first | decide | omega)) passL (pa_cons (pv 7) (pa_cons (pe_ix ix_list (pv 2) pe_int (fun _ _ => rfl)) (pa_cons (pe_dn D__law_take (hr.mono (by first | decide | omega)) pass0 (pa_cons (pv 1) (pa_cons pe_int pa_nil))) pa_nil)))))))
      (pss_cons (ps_expr (pe_mt (pv 6) T.cl_Book T.me_Book_cartel D_Book_cartel (hr.mono (by first | decide | omega)) passL (pa_cons (pe_ix ix_list (pv 2) pe_int (fun _ _ => rfl)) (pa_cons (pe_ix ix_list (pv 2) pe_int (fun _ _ => rfl)) (pa_cons (pe_lst (pa_cons pe_int (pa_cons pe_int (pa_cons pe_int (pa_cons pe_int (pa_cons pe_int (pa_cons pe_int pa_nil))))))) (pa_cons pe_int pa_nil))))))
      (pss_cons (ps_set (i := 8) sc_law.nd rfl (Or.inl rfl) (pe_dn D__law_take (hr.mono (by first | decide | omega)) pass0 (pa_cons (pv 1) (pa_cons pe_int pa_nil))))
      (pss_cons (ps_expr (pe_mt (pv 6) T.cl_Book T.me_Book_take D_Book_take (hr.mono (by first | decide | omega)) passL (pa_cons (pv 8) (pa_cons (pe_ix ix_list (pv 3) pe_int (fun _ _ => rfl)) (pa_cons (pe_ix ix_list (pv 2) pe_int (fun _ _ => rfl)) pa_nil)))))
      (pss_cons (ps_expr (pe_mt (pv 6) T.cl_Book T.me_Book_die D_Book_die (hr.mono (by first | decide | omega)) passL (pa_cons (pe_op op_add (pv 8) (pe_dn D__law_take (hr.mono (by first | decide | omega)) pass0 (pa_cons (pv 1) (pa_cons pe_int pa_nil)))) (pa_cons (pe_ix ix_list (pv 3) pe_int (fun _ _ => rfl)) pa_nil))))
      (pss_cons (ps_set (i := 9) sc_law.nd rfl (Or.inl rfl) (pe_op op_add (pv 8) pe_int))
      (pss_cons (ps_set (i := 10) sc_law.nd rfl (Or.inl rfl) (pe_tup (pa_cons (pe_mt0 (pv 6) T.cl_Book T.me_Book_sides D_Book_sides (hr.mono (by first | decide | omega)) pass0) (pa_cons (pe_mt0 (pv 6) T.cl_Book T.me_Book_men D_Book_men (hr.mono (by first | decide | omega)) pass0) (pa_cons (pe_mt0 (pv 6) T.cl_Book T.me_Book_cartels D_Book_cartels (hr.mono (by first | decide | omega)) pass0) (pa_cons (pe_mt0 (pv 6) T.cl_Book T.me_Book_deeds D_Book_deeds (hr.mono (by first | decide | omega)) pass0) pa_nil))))))
      (pss_cons (ps_set (i := 11) sc_law.nd rfl (Or.inl rfl) (pe_lst (pa_cons pe_str (pa_cons pe_str (pa_cons pe_str (pa_cons pe_str (pa_cons pe_str (pa_cons pe_str (pa_cons pe_str (pa_cons pe_str pa_nil))))))))))
      (pss_cons (ps_for PassesOwn.never rfl (pi_range1 rfl T.m_range (pa_cons pe_int pa_nil)) (pg_name (i := 12) sc_law.nd rfl (Or.inl rfl)) (pss_one (ps_if (pt_cmpR op_ne (pe_dn D__law_refused (hr.mono (by first | decide | omega)) pass0 (pa_cons (pv 6) (pa_cons pe_int (pa_cons (pv 12) (pa_cons (pv 9) (pa_cons (pv 2) (pa_cons (pv 3) (pa_cons (pv 5) pa_nil)))))))) (pe_ix ix_list (pv 11) (pv 12) (fun _ _ => rfl)) (nomark _)) (pss_one (ps_ret pe_bl)) pss_nil)))
      (pss_cons (ps_set (i := 11) sc_law.nd rfl (Or.inl rfl) (pe_lst (pa_cons pe_str (pa_cons pe_str (pa_cons pe_str (pa_cons pe_str (pa_cons pe_str (pa_cons pe_str (pa_cons pe_str (pa_cons pe_str (pa_cons pe_str (pa_cons pe_str (pa_cons pe_str pa_nil)))))))))))))
      (pss_cons (ps_set (i := 11) sc_law.nd rfl (Or.inl rfl) (pe_op op_cat (pv 11) (pe_lst (pa_cons pe_str (pa_cons pe_str pa_nil)))))
      (pss_cons (ps_for PassesOwn.never rfl (pi_range1 rfl T.m_range (pa_cons pe_int pa_nil)) (pg_name (i := 12) sc_law.nd rfl (Or.inl rfl)) (pss_one (ps_if (pt_cmpR op_ne (pe_dn D__law_refused (hr.mono (by first | decide | omega)) pass0 (pa_cons (pv 6) (pa_cons pe_int (pa_cons (pv 12) (pa_cons (pv 9) (pa_cons (pv 2) (pa_cons (pv 3) (pa_cons (pv 5) pa_nil)))))))) (pe_ix ix_list (pv 11) (pv 12) (fun _ _ => rfl)) (nomark _)) (pss_one (ps_ret pe_bl)) pss_nil)))
      (pss_cons (ps_if (pt_not (pt_val (pe_dn D__law_limit_first (hr.mono (by first | decide | omega)) pass0 (pa_cons (pv 2) (pa_cons (pv 3) (pa_cons (pv 9) (pa_cons (pe_op op_add pe_int (pe_dn D__law_take (hr.mono (by first | decide | omega)) pass0 (pa_cons (pv 1) (pa_cons pe_int pa_nil)))) pa_nil))))))) (pss_one (ps_ret pe_bl)) pss_nil)
      (pss_one (ps_ret (pe_cmpR (op_eqD hr.units) (pv 10) (pe_tup (pa_cons (pe_mt0 (pv 6) T.cl_Book T.me_Book_sides D_Book_sides (hr.mono (by first | decide | omega)) pass0) (pa_cons (pe_mt0 (pv 6) T.cl_Book T.me_Book_men D_Book_men (hr.mono (by first | decide | omega)) pass0) (pa_cons (pe_mt0 (pv 6) T.cl_Book T.me_Book_cartels D_Book_cartels (hr.mono (by first | decide | omega)) pass0) (pa_cons (pe_mt0 (pv 6) T.cl_Book T.me_Book_deeds D_Book_deeds (hr.mono (by first | decide | omega)) pass0) pa_nil))))) (nomark _))))))))))))))))))))))))), ?_⟩
    try rw [hK]
    rw [show L2.start N_law [.ref sc] = [some (.ref sc), none, none, none, none, none, none, none, none, none, none, none, none, none] from rfl]
    walk_at "sx"
    refine ⟨sc, ns, rfl, hS, hbits, fun b l H1 hb hl e1 B1 => ?_⟩
    have S1 : Sat H1 [boxR b 0] := ⟨[H1], ⟨l, B1⟩, Ex.refl _, nofun, trivial⟩
    walk_at "sx"
    refine ⟨b, 0, 2, _, rfl, S1, by decide, by decide, fun p1 ss H2 m1 ls mns pk2 hm1 S2 => ?_⟩
    clear S1
    walk_at "sx"
    have S2' : Sat H2 (boxR b m1 :: cell p1 (.lst (ss.map V.str)) :: []) := S2.swap
    clear S2
    refine ⟨b, m1, 4, _, rfl, S2', by omega, by decide, fun p2 ms H3 m2 lm mnm pk3 hm2 S3 => ?_⟩
    clear S2'
    obtain ⟨s0, s1, n0, n1, n2, n3, rfl, rfl, N⟩ := names6 ls mns lm mnm
    have h01 : n0 ≠ n1 := mn_ne N.m0 N.m1 (by decide)
    have ls0 := N.a0.len
    have ls1 := N.a1.len
    have S3a : Sat H3 (cell p2 (.lst [.str n0, .str n1, .str n2, .str n3]) :: boxR b m2 :: cell p1 (.lst [.str s0, .str s1]) :: []) := S3
    have S3' : Sat H3 (cell p1 (.lst [.str s0, .str s1]) :: cell p2 (.lst [.str n0, .str n1, .str n2, .str n3]) :: boxR b (m2) :: []) := S3a.pick
    clear S3 S3a ls mns lm mnm
    walk_at "sx"
    refine x_lcQ (walk_str (z := "abcdefgh")) (fun D i H' => PK H3 H' ∧ SatP H' (cell D (.lst (((List.range i).map fun j => (⟨#[97 + j]⟩ : Str)).map V.str)) :: cell p1 (.lst [.str s0, .str s1]) :: cell p2 (.lst [.str n0, .str n1, .str n2, .str n3]) :: boxR b (m2) :: [])) (fun D hD => ⟨PK.of_ex (Ex.new hD), ⟨S3'.new hD⟩⟩) (fun _ _ _ _ _ => trivial) (fun D i x H4 H5 hi h y => ?_) (fun D H4 h => ?_)
    · obtain ⟨pk4, ⟨S4⟩⟩ := h
      obtain ⟨rfl, c, hc, rfl⟩ := y
      clear S3'
      have hi : i < 8 := hi
      have ec := eight hc hi
      subst ec
      walk_at "sx"
      refine x_catE (xs := [.str s0, .str s1]) (ys := [.str n0, .str n1, .str n2, .str n3]) sat_at sat_at (by rw [sizeLine_eq]; exact Nat.le_of_ble_eq_true rfl) fun l6 H6 e6 h6 => ?_
      have S6 := S4.mono e6
      clear S4
      refine x_notInS (xs := [s0, s1, n0, n1, n2, n3]) (SqL.of h6) (by
        simp only [List.mem_cons, List.not_mem_nil, or_false, not_or]
        exact ⟨mn_one N.a0, mn_one N.a1, mn_one N.m0, mn_one N.m1, mn_one N.m2, mn_one N.m3⟩) ?_
      walk_at "sx"
      refine x_eltS (by rw [List.length_map, List.length_map, List.length_range, sizeLine_eq]; omega) fun H7 pk7 S7 => ⟨pk4.trans ((PK.of_ex e6).trans pk7), ⟨?_⟩⟩
      rw [List.range_succ, List.map_append, List.map_append]
      exact S7
    obtain ⟨pk4, ⟨S4⟩⟩ := h
    clear S3'
    obtain ⟨rr, hrr⟩ : ∃ rr : List V, ((List.range ("abcdefgh" : Str).cps.size).map fun j => (⟨#[97 + j]⟩ : Str)).map V.str = .str "a" :: rr := ⟨_, rfl⟩
    rw [hrr] at S4
    walk_at "sx"
    rename_i bk dx H5 pk5 S5
    clear S4
    refine ⟨bk, dx, _, rfl, S5, fun H6 pk6 S6a => ?_⟩
    have S6 : Sat H6 (book (CB K) bk ⟨⟨[], [], none, [], 1⟩, [], []⟩ :: cell p1 (.lst [.str s0, .str s1]) :: cell p2 (.lst [.str n0, .str n1, .str n2, .str n3]) :: boxR b (m2) :: []) := S6a.pick
    clear S5 S6a
    walk_at "sx"
    refine ⟨bk, s0, _, _, rfl, S6, by omega, by decide, by decide, fun c => absurd (side1_goes N) c, fun _ H7 pk7 S7 => ?_⟩
    replace S7 : Sat H7 (book (CB K) bk ⟨⟨[(.inr s0, .bool true)], [], none, [], 1⟩, [⟨[], [], none, [], 1⟩], []⟩ :: cell p1 (.lst [.str s0, .str s1]) :: cell p2 (.lst [.str n0, .str n1, .str n2, .str n3]) :: boxR b (m2) :: []) := S7
    clear S6
    walk_at "sx"
    refine ⟨bk, s1, _, _, rfl, S7, by omega, Nat.lt_of_sub_eq_succ rfl, Nat.lt_of_sub_eq_succ rfl, fun c => absurd (side2_goes N) c, fun _ H8 pk8 S8 => ?_⟩
    rw [sid_put2 N] at S8
    generalize hpa : ([⟨[], [], none, [], 1⟩] : List BSt) ++ _ = pa at S8
    have lpa : pa.length = 2 := by rw [← hpa]; rfl
    clear S7 hpa
    replace S8 : Sat H8 (book (CB K) bk ⟨⟨sid2 s0 s1, folkD [], none, [], 1⟩, pa, []⟩ :: cell p1 (.lst [.str s0, .str s1]) :: cell p2 (.lst [.str n0, .str n1, .str n2, .str n3]) :: boxR b (m2) :: []) := S8
    walk_at "sx"
    refine x_forQ (walk_list (xs := [.str n0, .str n1, .str n2, .str n3])) (fun i σ H' => (∃ v : Option V, σ = [some (.ref sc), some (.ref b), some (.ref p1), some (.ref p2), some (.ref D), some (.str "a"), some (.ref bk), v, none, none, none, none, none, none]) ∧ ∃ (rs : List Int) (past : List BSt), rs.length = i ∧ (∀ r ∈ rs, 0 ≤ r ∧ r < 6) ∧ past.length = 2 + i ∧ SatP H' (book (CB K) bk ⟨⟨sid2 s0 s1, folkD (fkr s0 [n0, n1, n2, n3] rs), none, [], 1⟩, past, []⟩ :: cell p1 (.lst [.str s0, .str s1]) :: cell p2 (.lst [.str n0, .str n1, .str n2, .str n3]) :: boxR b (m2 + i) :: []))
      ⟨⟨_, rfl⟩, [], pa, rfl, (fun r h => absurd h (by simp)), lpa, ⟨S8⟩⟩ (fun i σ H' _ h => ?_) (fun i u σ H9 H10 hi h y => ?_) (fun σ H9 h => ?_)
    · obtain ⟨_, rs, past, _, _, _, ⟨S9⟩⟩ := h
      exact SqL.of sat_at
    · obtain ⟨⟨v, rfl⟩, rs, past, lr, hrs, hp, ⟨S9⟩⟩ := h
      obtain ⟨rfl, hx⟩ := y
      clear S8
      have hi : i < 4 := hi
      obtain ⟨n, rfl, hn⟩ : ∃ n, u = .str n ∧ [n0, n1, n2, n3][i]? = some n := by
        have hx : ([n0, n1, n2, n3].map V.str)[i]? = some u := hx
        rw [List.getElem?_map] at hx
        cases hz : [n0, n1, n2, n3][i]? with
        | none => rw [hz] at hx; cases hx
        | some z => rw [hz] at hx; cases hx; exact ⟨z, rfl, rfl⟩
      have hmn := ms_mn N hn
      have lnn := hmn.len
      have lk := fkr_len (s0 := s0) (ns := [n0, n1, n2, n3]) (rs := rs)
      have nof := fkr_no (s0 := s0) (rs := rs) (ms_nd N) (by rw [lr]; exact hn)
      walk_at "sx"
      refine take_S (by decide) (by decide) (by omega) fun r H11 r0 r1 pk11 S11 => ?_
      clear S9
      walk_at "sx"
      refine ⟨bk, n, s0, r, _, _, rfl, S11, by omega, by show (folkD (fkr s0 [n0, n1, n2, n3] rs)).length < 1000; unfold folkD; rw [List.length_map]; omega, by show past.length < sizeLine; rw [sizeLine_eq]; omega, fun c => absurd (man_goes hmn (by omega) nof (.inl rfl) r0 r1 (by omega)) c, fun _ H12 pk12 S12 => ?_⟩
      clear S11
      walk_at "sx"
      refine ⟨⟨_, rfl⟩, rs ++ [r], past ++ [⟨sid2 s0 s1, folkD (fkr s0 [n0, n1, n2, n3] rs), none, [], 1⟩], by rw [List.length_append, lr]; rfl, fun q hq => ?_, by rw [List.length_append, hp]; rfl, ⟨?_⟩⟩
      · rcases List.mem_append.mp hq with hq | hq
        · exact hrs q hq
        · cases List.mem_singleton.mp hq
          exact ⟨r0, r1⟩
      · rw [fkr_snoc (by rw [lr]; exact hn), ← folk_put nof]
        exact S12
    obtain ⟨⟨v, rfl⟩, rs, pb, lr, hrs, lpb, ⟨S9a⟩⟩ := h
    clear S8
    obtain ⟨r0, r1, r2, r3, rfl⟩ := four lr
    have g0 := hrs r0 (by simp)
    have lpb : pb.length = 6 := lpb
    have lpz : pb.length < sizeLine := by rw [lpb, sizeLine_eq]; decide
    have S9 : Sat H9 (book (CB K) bk ⟨⟨sid2 s0 s1, folkD (fk4 s0 n0 n1 n2 n3 r0 r1 r2 r3), none, toldD [], 1⟩, pb, []⟩ :: cell p1 (.lst [.str s0, .str s1]) :: cell p2 (.lst [.str n0, .str n1, .str n2, .str n3]) :: boxR b (m2 + 4) :: []) := S9a
    clear S9a hrs lr
    walk_at "sx"
    rename_i lq H10 pk10 S10a
    have S10 : Sat H10 (book (CB K) bk ⟨⟨sid2 s0 s1, folkD (fk4 s0 n0 n1 n2 n3 r0 r1 r2 r3), none, toldD [], 1⟩, pb, []⟩ :: cell lq (.lst [.int 1, .int 1, .int 2, .int 2, .int 4, .int 8]) :: cell p1 (.lst [.str s0, .str s1]) :: cell p2 (.lst [.str n0, .str n1, .str n2, .str n3]) :: boxR b (m2 + 4) :: []) := S10a.pick
    clear S9 S10a
    walk_at "sx"
    refine ⟨bk, lq, s0, s1, [1, 1, 2, 2, 4, 8], 0, _, fk4 s0 n0 n1 n2 n3 r0 r1 r2 r3, [], .ok, _, rfl, S10, rfl, rfl, lpz, cart4 N, fun H11 pk11 S11a => ?_⟩
    clear S10
    rw [mn_min N.a0 N.a1, mn_max N.a0 N.a1] at S11a
    generalize hpc : (⟨⟨sid2 s0 s1, folkD (fk4 s0 n0 n1 n2 n3 r0 r1 r2 r3), none, toldD [], 1⟩, pb, []⟩ : Bk).past ++ [(⟨⟨sid2 s0 s1, folkD (fk4 s0 n0 n1 n2 n3 r0 r1 r2 r3), none, toldD [], 1⟩, pb, []⟩ : Bk).st] = pc at S11a
    have lpc : pc.length = 7 := by rw [← hpc, List.length_append]; show pb.length + 1 = 7; omega
    have lpz2 : pc.length < sizeLine := by rw [lpc, sizeLine_eq]; decide
    clear hpc
    have S11b : Sat H11 (book (CB K) bk ⟨st4 s0 s1 n0 n1 n2 n3 r0 r1 r2 r3 ([]) 1, pc, []⟩ :: cell lq (.lst [.int 1, .int 1, .int 2, .int 2, .int 4, .int 8]) :: cell p1 (.lst [.str s0, .str s1]) :: cell p2 (.lst [.str n0, .str n1, .str n2, .str n3]) :: boxR b (m2 + 4) :: []) := S11a
    have S11 : Sat H11 (book (CB K) bk ⟨st4 s0 s1 n0 n1 n2 n3 r0 r1 r2 r3 ([]) 1, pc, []⟩ :: cell p1 (.lst [.str s0, .str s1]) :: cell p2 (.lst [.str n0, .str n1, .str n2, .str n3]) :: boxR b (m2 + 4) :: []) := S11b.pick
    clear S11a S11b
    walk_at "sx"
    refine take_S (by decide) (by decide) (by omega) fun bs H12 b0 b1 pk12 S12 => ?_
    clear S11
    walk_at "sx"
    refine ⟨bk, bs, n0, s1, _, fk4 s0 n0 n1 n2 n3 r0 r1 r2 r3, [], .ok, _, rfl, S12, rfl, rfl, lpz2, take4 N b0 (by omega), fun H13 pk13 S13a => ?_⟩
    clear S12
    have S13b : Sat H13 (book (CB K) bk ⟨st4 s0 s1 n0 n1 n2 n3 r0 r1 r2 r3 (td1 s1 n0 bs) 2, pc ++ [st4 s0 s1 n0 n1 n2 n3 r0 r1 r2 r3 ([]) 1], []⟩ :: cell p1 (.lst [.str s0, .str s1]) :: cell p2 (.lst [.str n0, .str n1, .str n2, .str n3]) :: boxR b (m2 + 4 + 1) :: []) := S13a
    clear S13a
    generalize hpd : pc ++ [st4 s0 s1 n0 n1 n2 n3 r0 r1 r2 r3 ([]) 1] = pd at S13b
    have lpd : pd.length = 8 := by rw [← hpd, List.length_append, lpc]; rfl
    have lpz3 : pd.length < sizeLine := by rw [lpd, sizeLine_eq]; decide
    clear hpd
    walk_at "sx"
    refine take_S (by decide) (by decide) (by omega) fun t H14 t0 t1 pk14 S14 => ?_
    clear S13b
    walk_at "sx"
    refine ⟨bk, bs + t, n1, _, fk4 s0 n0 n1 n2 n3 r0 r1 r2 r3, td1 s1 n0 bs, .ok, _, rfl, S14, rfl, rfl, lpz3, die4 N b0 (by omega) t0 (by omega), fun H15 pk15 S15a => ?_⟩
    clear S14
    have S15 : Sat H15 (book (CB K) bk ⟨st4 s0 s1 n0 n1 n2 n3 r0 r1 r2 r3 (td2 s1 n0 n1 bs t) 3, pd ++ [st4 s0 s1 n0 n1 n2 n3 r0 r1 r2 r3 (td1 s1 n0 bs) 2], []⟩ :: cell p1 (.lst [.str s0, .str s1]) :: cell p2 (.lst [.str n0, .str n1, .str n2, .str n3]) :: boxR b (m2 + 4 + 1 + 1) :: []) := S15a
    clear S15a
    generalize hpe : pd ++ [st4 s0 s1 n0 n1 n2 n3 r0 r1 r2 r3 (td1 s1 n0 bs) 2] = pe at S15
    have lpe : pe.length = 9 := by rw [← hpe, List.length_append, lpd]; rfl
    clear hpe
    walk_at "sx"
    refine ⟨bk, _, [s0, s1], _, rfl, S15, rfl, Nat.lt_of_sub_eq_succ rfl, fun q1 ys1 H16 pm1 so1 pk16 S16a => ?_⟩
    have ey : ys1 = [s0, s1] := sorted_uniq pm1 so1 (sorted2 N)
    subst ey
    clear S15 pm1 so1
    have S16 : Sat H16 (book (CB K) bk ⟨st4 s0 s1 n0 n1 n2 n3 r0 r1 r2 r3 (td2 s1 n0 n1 bs t) 3, pe, []⟩ :: cell q1 (.lst [.str s0, .str s1]) :: cell p1 (.lst [.str s0, .str s1]) :: cell p2 (.lst [.str n0, .str n1, .str n2, .str n3]) :: boxR b (m2 + 4 + 1 + 1) :: []) := S16a.swap
    clear S16a
    walk_at "sx"
    refine ⟨bk, _, fk4 s0 n0 n1 n2 n3 r0 r1 r2 r3, _, rfl, S16, rfl, Nat.lt_of_sub_eq_succ rfl, fun q2 ys zs2 H17 pm2 so2 pk17 S17a tp2 => ?_⟩
    clear S16
    have S17 : Sat H17 (book (CB K) bk ⟨st4 s0 s1 n0 n1 n2 n3 r0 r1 r2 r3 (td2 s1 n0 n1 bs t) 3, pe, []⟩ :: cell q2 (.lst zs2) :: cell q1 (.lst [.str s0, .str s1]) :: cell p1 (.lst [.str s0, .str s1]) :: cell p2 (.lst [.str n0, .str n1, .str n2, .str n3]) :: boxR b (m2 + 4 + 1 + 1) :: []) := S17a.swap
    clear S17a
    walk_at "sx"
    refine ⟨bk, _, pc1 s0 s1, _, rfl, S17, rfl, fun q3 z3 H18 pk18 S18a tp3 => ?_⟩
    clear S17
    have S18 : Sat H18 (book (CB K) bk ⟨st4 s0 s1 n0 n1 n2 n3 r0 r1 r2 r3 (td2 s1 n0 n1 bs t) 3, pe, []⟩ :: cell q3 (.lst [z3]) :: cell q2 (.lst zs2) :: cell q1 (.lst [.str s0, .str s1]) :: cell p1 (.lst [.str s0, .str s1]) :: cell p2 (.lst [.str n0, .str n1, .str n2, .str n3]) :: boxR b (m2 + 4 + 1 + 1) :: []) := S18a.swap
    clear S18a
    walk_at "sx"
    refine ⟨bk, _, td2 s1 n0 n1 bs t, _, rfl, S18, rfl, by simp [td2], by simp [td2], fun q4 zs4 T4 H19 pT4 od4 pk19 S19a tp4 => ?_⟩
    have eT : T4 = td2 s1 n0 n1 bs t := ord_uniq (by simp [td2]) pT4 od4 (ord2 t0)
    subst eT
    clear S18
    have S19 : Sat H19 (book (CB K) bk ⟨st4 s0 s1 n0 n1 n2 n3 r0 r1 r2 r3 (td2 s1 n0 n1 bs t) 3, pe, []⟩ :: cell q4 (.lst zs4) :: cell q3 (.lst [z3]) :: cell q2 (.lst zs2) :: cell q1 (.lst [.str s0, .str s1]) :: cell p1 (.lst [.str s0, .str s1]) :: cell p2 (.lst [.str n0, .str n1, .str n2, .str n3]) :: boxR b (m2 + 4 + 1 + 1) :: []) := S19a.swap
    clear S19a
    walk_at "sx"
    rename_i q5 H20 pk20 S20 hq5 l7 H21 pk21 S21a
    have tp2' := tp2.pk (pk18.trans (pk19.trans pk20))
    have tp3' := tp3.pk (pk19.trans pk20)
    have tp4' := tp4.pk pk20
    clear tp2 tp3 tp4 S19 pT4
    have S21b : Sat H21 (cell l7 (.lst (dueA.map V.str)) :: book (CB K) bk ⟨st4 s0 s1 n0 n1 n2 n3 r0 r1 r2 r3 (td2 s1 n0 n1 bs t) 3, pe, []⟩ :: cell q4 (.lst zs4) :: cell q3 (.lst [z3]) :: cell q2 (.lst zs2) :: cell q1 (.lst [.str s0, .str s1]) :: cell p1 (.lst [.str s0, .str s1]) :: cell p2 (.lst [.str n0, .str n1, .str n2, .str n3]) :: boxR b (m2 + 4 + 1 + 1) :: []) := S21a
    have S21 : Sat H21 (book (CB K) bk ⟨st4 s0 s1 n0 n1 n2 n3 r0 r1 r2 r3 (td2 s1 n0 n1 bs t) 3, pe, []⟩ :: cell p1 (.lst [.str s0, .str s1]) :: cell p2 (.lst [.str n0, .str n1, .str n2, .str n3]) :: cell l7 (.lst (dueA.map V.str)) :: cell q4 (.lst zs4) :: cell q3 (.lst [z3]) :: cell q2 (.lst zs2) :: cell q1 (.lst [.str s0, .str s1]) :: boxR b (m2 + 4 + 1 + 1) :: []) := S21b.pick
    clear S20 S21a S21b
    refine x_iRQ (by omega) (by omega) ?_
    refine x_forQ walk_r0 (fun i σ H' => (∃ v12 : Option V, σ = [some (.ref sc), some (.ref b), some (.ref p1), some (.ref p2), some (.ref D), some (.str "a"), some (.ref bk), v, some (.int bs), some (.int (bs + 9)), some (.ref q5), some (.ref l7), v12, none]) ∧ PK H21 H' ∧ SatP H' (book (CB K) bk ⟨st4 s0 s1 n0 n1 n2 n3 r0 r1 r2 r3 (td2 s1 n0 n1 bs t) 3, pe, []⟩ :: cell p1 (.lst [.str s0, .str s1]) :: cell p2 (.lst [.str n0, .str n1, .str n2, .str n3]) :: cell l7 (.lst (dueA.map V.str)) :: cell q4 (.lst zs4) :: cell q3 (.lst [z3]) :: cell q2 (.lst zs2) :: cell q1 (.lst [.str s0, .str s1]) :: boxR b (m2 + 4 + 1 + 1) :: []))
      ⟨⟨_, rfl⟩, PK.refl, ⟨S21⟩⟩ (fun _ _ _ _ _ => trivial) (fun i u σ G1 G2 hi h y => ?_) (fun σ H21x h => ?_)
    · obtain ⟨⟨v12, rfl⟩, pkA, ⟨SA⟩⟩ := h
      obtain ⟨rfl, rfl⟩ := y
      clear S21
      have hi : i < 8 := hi
      have hd : dueA[i]? = some (dueA.getD i "") := by rw [List.getD_eq_getElem?_getD, List.getElem?_eq_getElem (show i < dueA.length from hi)]; rfl
      walk_at "sx"
      refine ⟨bk, p1, p2, 0, (i : Int), s0, s1, n0, n1, n2, n3, bs, t, bs + 9, _, _, rfl, by omega, ⟨N, t0, by omega, b0, by omega, rfl, r0, r1, r2, r3, pe, g0.1, g0.2, by rw [lpe]; decide, rfl⟩, SA, fun G3 pkB SB => ?_⟩
      clear SA
      walk_at "sx"
      refine x_ixLn (xs := dueA.map V.str) (SqL.of sat_at) (by omega) (nth_str rfl hd) ?_
      walk_at "sx"
      rw [if_pos rfl, Int.toNat_natCast]
      refine x_ifD (fun c => absurd rfl c) (fun _ => ?_)
      walk_at "sx"
      exact ⟨⟨_, rfl⟩, pkA.trans pkB, ⟨SB⟩⟩
    obtain ⟨⟨v12, rfl⟩, pkAl7, ⟨Sl7⟩⟩ := h
    clear S21
    walk_at "sx"
    rename_i la G5 pkG5 SG5 lb G6 pkG6 SG6
    refine x_cat (xs := [.str "BadDay", .str "NoMan", .str "NoMan", .str "Own", .str "NoMan", .str "BadRank", .str "Gone", .str "BadDay", .str "NoSide", .str "Own", .str "NoMan"]) (ys := [.str "Twice", .str "OffRoll"]) sat_at sat_at (by rw [sizeLine_eq]; exact Nat.le_of_ble_eq_true rfl) fun l8 hl8 => ?_
    have SG7 := SG6.new (o := .lst ([.str "BadDay", .str "NoMan", .str "NoMan", .str "Own", .str "NoMan", .str "BadRank", .str "Gone", .str "BadDay", .str "NoSide", .str "Own", .str "NoMan"] ++ [.str "Twice", .str "OffRoll"])) hl8
    have pkG7 : PK G6 _ := PK.of_ex (Ex.new (o := .lst ([.str "BadDay", .str "NoMan", .str "NoMan", .str "Own", .str "NoMan", .str "BadRank", .str "Gone", .str "BadDay", .str "NoSide", .str "Own", .str "NoMan"] ++ [.str "Twice", .str "OffRoll"])) hl8)
    generalize hG7 : upd G6 l8 _ = G7 at SG7 pkG7 ⊢
    clear hG7 hl8
    have SG8 : Sat G7 (cell l8 (.lst (dueB.map V.str)) :: cell lb (.lst [.str "Twice", .str "OffRoll"]) :: cell la (.lst [.str "BadDay", .str "NoMan", .str "NoMan", .str "Own", .str "NoMan", .str "BadRank", .str "Gone", .str "BadDay", .str "NoSide", .str "Own", .str "NoMan"]) :: book (CB K) bk ⟨st4 s0 s1 n0 n1 n2 n3 r0 r1 r2 r3 (td2 s1 n0 n1 bs t) 3, pe, []⟩ :: cell p1 (.lst [.str s0, .str s1]) :: cell p2 (.lst [.str n0, .str n1, .str n2, .str n3]) :: cell l7 (.lst (dueA.map V.str)) :: cell q4 (.lst zs4) :: cell q3 (.lst [z3]) :: cell q2 (.lst zs2) :: cell q1 (.lst [.str s0, .str s1]) :: boxR b (m2 + 4 + 1 + 1) :: []) := SG7
    have S22 : Sat G7 (book (CB K) bk ⟨st4 s0 s1 n0 n1 n2 n3 r0 r1 r2 r3 (td2 s1 n0 n1 bs t) 3, pe, []⟩ :: cell p1 (.lst [.str s0, .str s1]) :: cell p2 (.lst [.str n0, .str n1, .str n2, .str n3]) :: cell l8 (.lst (dueB.map V.str)) :: cell q4 (.lst zs4) :: cell q3 (.lst [z3]) :: cell q2 (.lst zs2) :: cell q1 (.lst [.str s0, .str s1]) :: boxR b (m2 + 4 + 1 + 1) :: []) := SG8.pick
    clear Sl7 SG5 SG6 SG7 SG8
    walk_at "sx"
    refine x_iRQ (by omega) (by omega) ?_
    refine x_forQ walk_r0 (fun i σ H' => (∃ v12 : Option V, σ = [some (.ref sc), some (.ref b), some (.ref p1), some (.ref p2), some (.ref D), some (.str "a"), some (.ref bk), v, some (.int bs), some (.int (bs + 9)), some (.ref q5), some (.ref l8), v12, none]) ∧ PK G7 H' ∧ SatP H' (book (CB K) bk ⟨st4 s0 s1 n0 n1 n2 n3 r0 r1 r2 r3 (td2 s1 n0 n1 bs t) 3, pe, []⟩ :: cell p1 (.lst [.str s0, .str s1]) :: cell p2 (.lst [.str n0, .str n1, .str n2, .str n3]) :: cell l8 (.lst (dueB.map V.str)) :: cell q4 (.lst zs4) :: cell q3 (.lst [z3]) :: cell q2 (.lst zs2) :: cell q1 (.lst [.str s0, .str s1]) :: boxR b (m2 + 4 + 1 + 1) :: []))
      ⟨⟨_, rfl⟩, PK.refl, ⟨S22⟩⟩ (fun _ _ _ _ _ => trivial) (fun i u σ G1 G2 hi h y => ?_) (fun σ G7x h => ?_)
    · obtain ⟨⟨v12, rfl⟩, pkA, ⟨SA⟩⟩ := h
      obtain ⟨rfl, rfl⟩ := y
      clear S22
      have hi : i < 13 := hi
      have hd : dueB[i]? = some (dueB.getD i "") := by rw [List.getD_eq_getElem?_getD, List.getElem?_eq_getElem (show i < dueB.length from hi)]; rfl
      walk_at "sx"
      refine ⟨bk, p1, p2, 1, (i : Int), s0, s1, n0, n1, n2, n3, bs, t, bs + 9, _, _, rfl, by omega, ⟨N, t0, by omega, b0, by omega, rfl, r0, r1, r2, r3, pe, g0.1, g0.2, by rw [lpe]; decide, rfl⟩, SA, fun G3 pkB SB => ?_⟩
      clear SA
      walk_at "sx"
      refine x_ixLn (xs := dueB.map V.str) (SqL.of sat_at) (by omega) (nth_str rfl hd) ?_
      walk_at "sx"
      rw [if_neg (by decide), Int.toNat_natCast]
      refine x_ifD (fun c => absurd rfl c) (fun _ => ?_)
      walk_at "sx"
      exact ⟨⟨_, rfl⟩, pkA.trans pkB, ⟨SB⟩⟩
    obtain ⟨⟨v12l8, rfl⟩, pkAl8, ⟨Sl8⟩⟩ := h
    clear S22
    walk_at "sx"
    refine take_S (by decide) (by decide) (by omega) fun rk G9 k0 k1 pkG9 SG9 => ?_
    clear Sl8
    have SG9' : Sat G9 (cell p1 (.lst [.str s0, .str s1]) :: cell p2 (.lst [.str n0, .str n1, .str n2, .str n3]) :: book (CB K) bk ⟨st4 s0 s1 n0 n1 n2 n3 r0 r1 r2 r3 (td2 s1 n0 n1 bs t) 3, pe, []⟩ :: cell q4 (.lst zs4) :: cell q3 (.lst [z3]) :: cell q2 (.lst zs2) :: cell q1 (.lst [.str s0, .str s1]) :: boxR b (m2 + 4 + 1 + 1 + 1) :: []) := SG9.pick
    clear SG9
    walk_at "sx"
    refine ⟨p1, p2, s0, s1, n0, n1, n2, n3, bs + 9, 1 + rk, _, rfl, N, ⟨by omega, by omega⟩, by omega, by omega, SG9', fun G10 pkG10 SG10 => ?_⟩
    clear SG9'
    walk_at "sx"
    have SH : Sat G10 (book (CB K) bk ⟨st4 s0 s1 n0 n1 n2 n3 r0 r1 r2 r3 (td2 s1 n0 n1 bs t) 3, pe, []⟩ :: cell p1 (.lst [.str s0, .str s1]) :: cell p2 (.lst [.str n0, .str n1, .str n2, .str n3]) :: cell q4 (.lst zs4) :: cell q3 (.lst [z3]) :: cell q2 (.lst zs2) :: cell q1 (.lst [.str s0, .str s1]) :: boxR b (m2 + 4 + 1 + 1 + 1) :: []) := SG10.pick
    clear SG10
    have SH' : Sat G10 (book (CB K) bk ⟨st4 s0 s1 n0 n1 n2 n3 r0 r1 r2 r3 (td2 s1 n0 n1 bs t) 3, pe, []⟩ :: cell p1 (.lst [.str s0, .str s1]) :: cell p2 (.lst [.str n0, .str n1, .str n2, .str n3]) :: cell q4 (.lst zs4) :: cell q3 (.lst [z3]) :: cell q2 (.lst zs2) :: cell q1 (.lst [.str s0, .str s1]) :: boxR b (m2 + 4 + 1 + 1 + 1) :: []) := SH
    clear SH
    refine ⟨bk, _, [s0, s1], _, rfl, SH', rfl, Nat.lt_of_sub_eq_succ rfl, fun u1 xs1 J1 em1 eo1 pj1 J1a => ?_⟩
    have ex : xs1 = [s0, s1] := sorted_uniq em1 eo1 (sorted2 N)
    subst ex
    clear SH' em1 eo1
    have J1s : Sat J1 (book (CB K) bk ⟨st4 s0 s1 n0 n1 n2 n3 r0 r1 r2 r3 (td2 s1 n0 n1 bs t) 3, pe, []⟩ :: cell u1 (.lst [.str s0, .str s1]) :: cell p1 (.lst [.str s0, .str s1]) :: cell p2 (.lst [.str n0, .str n1, .str n2, .str n3]) :: cell q4 (.lst zs4) :: cell q3 (.lst [z3]) :: cell q2 (.lst zs2) :: cell q1 (.lst [.str s0, .str s1]) :: boxR b (m2 + 4 + 1 + 1 + 1) :: []) := J1a.swap
    clear J1a
    walk_at "sx"
    refine ⟨bk, _, fk4 s0 n0 n1 n2 n3 r0 r1 r2 r3, _, rfl, J1s, rfl, Nat.lt_of_sub_eq_succ rfl, fun u2 xs ws2 J2 em2 eo2 pj2 J2a tq2 => ?_⟩
    have exy : xs = ys := sorted_uniq (em2.trans pm2.symm) eo2 so2
    subst exy
    clear J1s
    have J2s : Sat J2 (book (CB K) bk ⟨st4 s0 s1 n0 n1 n2 n3 r0 r1 r2 r3 (td2 s1 n0 n1 bs t) 3, pe, []⟩ :: cell u2 (.lst ws2) :: cell u1 (.lst [.str s0, .str s1]) :: cell p1 (.lst [.str s0, .str s1]) :: cell p2 (.lst [.str n0, .str n1, .str n2, .str n3]) :: cell q4 (.lst zs4) :: cell q3 (.lst [z3]) :: cell q2 (.lst zs2) :: cell q1 (.lst [.str s0, .str s1]) :: boxR b (m2 + 4 + 1 + 1 + 1) :: []) := J2a.swap
    clear J2a
    walk_at "sx"
    refine ⟨bk, _, pc1 s0 s1, _, rfl, J2s, rfl, fun u3 w3 J3 pj3 J3a tq3 => ?_⟩
    clear J2s
    have J3s : Sat J3 (book (CB K) bk ⟨st4 s0 s1 n0 n1 n2 n3 r0 r1 r2 r3 (td2 s1 n0 n1 bs t) 3, pe, []⟩ :: cell u3 (.lst [w3]) :: cell u2 (.lst ws2) :: cell u1 (.lst [.str s0, .str s1]) :: cell p1 (.lst [.str s0, .str s1]) :: cell p2 (.lst [.str n0, .str n1, .str n2, .str n3]) :: cell q4 (.lst zs4) :: cell q3 (.lst [z3]) :: cell q2 (.lst zs2) :: cell q1 (.lst [.str s0, .str s1]) :: boxR b (m2 + 4 + 1 + 1 + 1) :: []) := J3a.swap
    clear J3a
    walk_at "sx"
    refine ⟨bk, _, td2 s1 n0 n1 bs t, _, rfl, J3s, rfl, by simp [td2], by simp [td2], fun u4 ws4 T4 J4 qT4 oe4 pj4 J4a tq4 => ?_⟩
    have eT : T4 = td2 s1 n0 n1 bs t := ord_uniq (by simp [td2]) qT4 oe4 (ord2 t0)
    subst eT
    clear J3s
    have J4s : Sat J4 (book (CB K) bk ⟨st4 s0 s1 n0 n1 n2 n3 r0 r1 r2 r3 (td2 s1 n0 n1 bs t) 3, pe, []⟩ :: cell u4 (.lst ws4) :: cell u3 (.lst [w3]) :: cell u2 (.lst ws2) :: cell u1 (.lst [.str s0, .str s1]) :: cell p1 (.lst [.str s0, .str s1]) :: cell p2 (.lst [.str n0, .str n1, .str n2, .str n3]) :: cell q4 (.lst zs4) :: cell q3 (.lst [z3]) :: cell q2 (.lst zs2) :: cell q1 (.lst [.str s0, .str s1]) :: boxR b (m2 + 4 + 1 + 1 + 1) :: []) := J4a.swap
    clear J4a
    walk_at "sx"
    rename_i u5 J5 pj5 J5a hu5
    have J5s : Sat J5 (cell u4 (.lst ws4) :: cell u3 (.lst [w3]) :: cell u2 (.lst ws2) :: cell u1 (.lst [.str s0, .str s1]) :: cell q4 (.lst zs4) :: cell q3 (.lst [z3]) :: cell q2 (.lst zs2) :: cell q1 (.lst [.str s0, .str s1]) :: []) := J5a.pick
    clear J4s J5a
    have pkz : PK H20 J5 := pk21.trans (pkAl7.trans (pkG5.trans (pkG6.trans (pkG7.trans (pkAl8.trans (pkG9.trans (pkG10.trans (pj1.trans (pj2.trans (pj3.trans (pj4.trans pj5)))))))))))
    have g1 : J5 q1 = some (.lst [.str s0, .str s1]) := (J5s.pick (Ss := cell q1 (.lst [.str s0, .str s1]) :: [])).get
    have g2 : J5 q2 = some (.lst zs2) := (J5s.pick (Ss := cell q2 (.lst zs2) :: [])).get
    have g3 : J5 q3 = some (.lst [z3]) := (J5s.pick (Ss := cell q3 (.lst [z3]) :: [])).get
    have g4 : J5 q4 = some (.lst zs4) := (J5s.pick (Ss := cell q4 (.lst zs4) :: [])).get
    have f1 : J5 u1 = some (.lst [.str s0, .str s1]) := (J5s.pick (Ss := cell u1 (.lst [.str s0, .str s1]) :: [])).get
    have f2 : J5 u2 = some (.lst ws2) := (J5s.pick (Ss := cell u2 (.lst ws2) :: [])).get
    have f3 : J5 u3 = some (.lst [w3]) := (J5s.pick (Ss := cell u3 (.lst [w3]) :: [])).get
    have f4 : J5 u4 = some (.lst ws4) := J5s.get
    refine x_eqSame (d := keptD s0 s1 n0 n1 n2 n3 r0 r1 r2 r3 bs t xs) ?_ ?_ (kept_ok N pm2) (k _)
    · exact .tup (SqT.of (pkz.tup hq5)) (.cons (.lst (SqL.of g1) (.cons (.str _) (.cons (.str _) .nil))) (.cons (.lst (SqL.of g2) (tp2'.pk pkz).dp) (.cons (.lst (SqL.of g3) (.cons (tp3'.pk pkz).dp .nil)) (.cons (.lst (SqL.of g4) (tp4'.pk pkz).dp) .nil))))
    · exact .tup (SqT.of hu5) (.cons (.lst (SqL.of f1) (.cons (.str _) (.cons (.str _) .nil))) (.cons (.lst (SqL.of f2) (tq2.pk (pj3.trans (pj4.trans pj5))).dp) (.cons (.lst (SqL.of f3) (.cons (tq3.pk (pj4.trans pj5)).dp .nil)) (.cons (.lst (SqL.of f4) (tq4.pk pj5).dp) .nil))))
end

structure All (K : PySem.W.Frag) (mg : Str → Option Value) : Prop where
  T : Txt K mg
  F_good_tariff : Df K mg "good_tariff" s_good_tariff
  F_in_order : Df K mg "in_order" s_in_order
  F_look_through : Df K mg "look_through" s_look_through
  F_all_in : Df K mg "all_in" s_all_in
  F_is_name : Df K mg "is_name" s_is_name
  F_pair_of : Df K mg "pair_of" s_pair_of
  F__law_box : Df K mg "_law_box" s__law_box
  F__law_mixed : Df K mg "_law_mixed" s__law_mixed
  F__law_take : Df K mg "_law_take" s__law_take
  F__law_named : Df K mg "_law_named" s__law_named
  F__law_called : Df K mg "_law_called" s__law_called
  F__law_many_names : Df K mg "_law_many_names" s__law_many_names
  F__law_limit_first : Df K mg "_law_limit_first" s__law_limit_first
  F__law_wrong_names : Df K mg "_law_wrong_names" s__law_wrong_names
  F__law_wrong_deed : Df K mg "_law_wrong_deed" s__law_wrong_deed
  F__law_refused : Df K mg "_law_refused" s__law_refused
  M_Breaks___init__ : Mf K "Breaks" "__init__" "Breaks.__init__" s_Breaks___init__
  M_Man___init__ : Mf K "Man" "__init__" "Man.__init__" s_Man___init__
  M_Man_on_roll : Mf K "Man" "on_roll" "Man.on_roll" s_Man_on_roll
  M_Man_goes_from : Mf K "Man" "goes_from" "Man.goes_from" s_Man_goes_from
  M_Scene___init__ : Mf K "Scene" "__init__" "Scene.__init__" s_Scene___init__
  M_Scene_living : Mf K "Scene" "living" "Scene.living" s_Scene_living
  M_Scene_kept : Mf K "Scene" "kept" "Scene.kept" s_Scene_kept
  M_Scene_taken : Mf K "Scene" "taken" "Scene.taken" s_Scene_taken
  M_Scene_sent : Mf K "Scene" "sent" "Scene.sent" s_Scene_sent
  M_Scene_let_go : Mf K "Scene" "let_go" "Scene.let_go" s_Scene_let_go
  M_Scene_graded : Mf K "Scene" "graded" "Scene.graded" s_Scene_graded
  M_Scene_dies : Mf K "Scene" "dies" "Scene.dies" s_Scene_dies
  M_Scene_gone_over : Mf K "Scene" "gone_over" "Scene.gone_over" s_Scene_gone_over
  M_Scene_swapped : Mf K "Scene" "swapped" "Scene.swapped" s_Scene_swapped
  M_Scene_befalls : Mf K "Scene" "befalls" "Scene.befalls" s_Scene_befalls
  M_Book___init__ : Mf K "Book" "__init__" "Book.__init__" s_Book___init__
  M_Book_state : Mf K "Book" "state" "Book.state" s_Book_state
  M_Book_keep : Mf K "Book" "keep" "Book.keep" s_Book_keep
  M_Book_need_side : Mf K "Book" "need_side" "Book.need_side" s_Book_need_side
  M_Book_need_man : Mf K "Book" "need_man" "Book.need_man" s_Book_need_man
  M_Book_need_two : Mf K "Book" "need_two" "Book.need_two" s_Book_need_two
  M_Book_need_cartel : Mf K "Book" "need_cartel" "Book.need_cartel" s_Book_need_cartel
  M_Book_side : Mf K "Book" "side" "Book.side" s_Book_side
  M_Book_man : Mf K "Book" "man" "Book.man" s_Book_man
  M_Book_cartel : Mf K "Book" "cartel" "Book.cartel" s_Book_cartel
  M_Book_need_day : Mf K "Book" "need_day" "Book.need_day" s_Book_need_day
  M_Book_enter : Mf K "Book" "enter" "Book.enter" s_Book_enter
  M_Book_of_man : Mf K "Book" "of_man" "Book.of_man" s_Book_of_man
  M_Book_take : Mf K "Book" "take" "Book.take" s_Book_take
  M_Book_word : Mf K "Book" "word" "Book.word" s_Book_word
  M_Book_die : Mf K "Book" "die" "Book.die" s_Book_die
  M_Book_rank : Mf K "Book" "rank" "Book.rank" s_Book_rank
  M_Book_swap : Mf K "Book" "swap" "Book.swap" s_Book_swap
  M_Book_redate : Mf K "Book" "redate" "Book.redate" s_Book_redate
  M_Book_sides : Mf K "Book" "sides" "Book.sides" s_Book_sides
  M_Book_men : Mf K "Book" "men" "Book.men" s_Book_men
  M_Book_cartels : Mf K "Book" "cartels" "Book.cartels" s_Book_cartels
  M_Book_deeds : Mf K "Book" "deeds" "Book.deeds" s_Book_deeds

theorem chain {P : Program} {w : World} {K : PySem.W.Frag} {mg : Str → Option Value} {base : Heap} (A : All K mg) {f : Addr} {fd : FuncData} (F : Fun K "law" "law" s_law f fd) : FnOk P w K mg base CX0 11 f fd ["_law_script"] (spLaw K) := by
  have T := A.T
  have D1 : Dn P w K mg base CX0 1 "_law_mixed" _ _ := D_mixed A.F__law_mixed
  have Dtake := D_take T D1 A.F__law_take
  have Dall := D_all_in (P := P) (w := w) (base := base) T A.F_all_in
  have Disn := D_is_name T Dall A.F_is_name
  have Dstate := D_Book_state (P := P) (w := w) (base := base) T A.M_Book_state
  have Dkeep := D_Book_keep T Dstate A.M_Book_keep
  have Dnside := D_Book_need_side (P := P) (w := w) (base := base) T A.M_Book_need_side
  have Dnman := D_Book_need_man (P := P) (w := w) (base := base) T A.M_Book_need_man
  have Dnday := D_Book_need_day (P := P) (w := w) (base := base) T A.M_Book_need_day
  have Dpair := D_pair_of (P := P) (w := w) (base := base) T A.F_pair_of
  have Dtwo := D_Book_need_two T Dnside A.M_Book_need_two
  have Dncart := D_Book_need_cartel T Dtwo Dpair A.M_Book_need_cartel
  have Dinit := D_Book_init (P := P) (w := w) (base := base) T A.M_Book___init__
  have Dside := D_Book_side T Disn Dkeep A.M_Book_side
  have Dman := D_Book_man T Disn Dkeep Dnside A.M_Book_man
  have Dmi := D_Man_init (P := P) (w := w) (base := base) T A.M_Man___init__
  have Dliv := D_Scene_living (P := P) (w := w) (base := base) T A.M_Scene_living
  have Dkept := D_Scene_kept T Dliv A.M_Scene_kept
  have Dtaken := D_Scene_taken T Dliv A.M_Scene_taken
  have Dsent := D_Scene_sent T Dkept A.M_Scene_sent
  have Dgo := D_Scene_let_go T Dkept A.M_Scene_let_go
  have Dgr := D_Scene_graded T Dliv A.M_Scene_graded
  have Ddies := D_Scene_dies T Dliv A.M_Scene_dies
  have Donr := D_Man_on_roll (P := P) (w := w) (base := base) T A.M_Man_on_roll
  have Dgf := D_Man_goes_from (P := P) (w := w) (base := base) T A.M_Man_goes_from
  have Dgone := D_Scene_gone_over T Donr A.M_Scene_gone_over
  have Dsw := D_Scene_swapped T Dgone Dgf A.M_Scene_swapped
  have Dbef := D_Scene_befalls T Dtaken Dsent Dgo Dgr Ddies Dsw A.M_Scene_befalls
  have Dord := D_in_order (P := P) (w := w) (base := base) T A.F_in_order
  have Dsi := D_Scene_init T Dmi A.M_Scene___init__
  have Dbr := D_Breaks_init (P := P) (w := w) (base := base) T A.M_Breaks___init__
  have Dlook := D_look_through T Dsi Dbef Dord Dbr A.F_look_through
  have Dgood := D_good (P := P) (w := w) (base := base) T A.F_good_tariff
  have Denter := D_Book_enter T Dlook Dkeep A.M_Book_enter
  have Dofm := D_Book_of_man T Dnday Dnman Denter A.M_Book_of_man
  have Dword := D_Book_word T Dofm A.M_Book_word
  have Ddie := D_Book_die T Dofm A.M_Book_die
  have Dtk := D_Book_take T Dnday Dnman Dnside Denter A.M_Book_take
  have Drank := D_Book_rank T Dnday Dnman Denter A.M_Book_rank
  have Dredate := D_Book_redate T A.M_Book_redate Dnday Dlook Dkeep
  have Dcart := D_Book_cartel T Dtwo Dpair Dgood Dlook Dkeep A.M_Book_cartel
  have Dswap := D_Book_swap T Dnday Dnman Dncart Denter A.M_Book_swap
  have Dsides := D_Book_sides (P := P) (w := w) (base := base) T A.M_Book_sides
  have Dmen := D_Book_men (P := P) (w := w) (base := base) T A.M_Book_men
  have Ddeeds := D_Book_deeds T Dord A.M_Book_deeds
  have Dcarts := D_Book_cartels (P := P) (w := w) (base := base) T A.M_Book_cartels
  have Dcalled := D_called (P := P) (w := w) (base := base) T A.F__law_called
  have Dnamed := D_named T Dtake A.F__law_named
  have Dmany := D_many T Dnamed A.F__law_many_names
  have Dwn := D_wrong_names T Dside Dman Dcart Dredate Dsides A.F__law_wrong_names
  have Dwd := D_wrong_deed T Dtk Drank Dword Dswap A.F__law_wrong_deed
  have Dref := D_refused T Dcalled Dwn Dwd A.F__law_refused
  have Dlim := D_limit T Dcalled Dinit Dside Dman Dcart Dtk Dswap Ddeeds A.F__law_limit_first
  exact D_law T (D_box T A.F__law_box) Dtake Dmany Dref Dlim Dinit Dsides Dmen Ddeeds Dcarts Dside Dman Dcart Dtk Ddie F
theorem all_ok {w : World} {K : PySem.W.Frag} {h : Heap} {mg : Str → Option Value} (X : K.In h) (GN : h.Ns mainGlobals mg) (c : SaysK fas fns xfs K) : All K mg :=
  ⟨{ m_ValueError := He.free_ok X GN (c.fact 0 17 (f := .free "ValueError") rfl),
     m_abs := He.free_ok X GN (c.fact 0 18 (f := .free "abs") rfl),
     m_all := He.free_ok X GN (c.fact 0 19 (f := .free "all") rfl),
     m_dict := He.free_ok X GN (c.fact 0 20 (f := .free "dict") rfl),
     m_int := He.free_ok X GN (c.fact 0 21 (f := .free "int") rfl),
     m_isinstance := He.free_ok X GN (c.fact 0 22 (f := .free "isinstance") rfl),
     m_len := He.free_ok X GN (c.fact 0 23 (f := .free "len") rfl),
     m_list := He.free_ok X GN (c.fact 0 24 (f := .free "list") rfl),
     m_max := He.free_ok X GN (c.fact 1 0 (f := .free "max") rfl),
     m_min := He.free_ok X GN (c.fact 1 1 (f := .free "min") rfl),
     m_range := He.free_ok X GN (c.fact 1 2 (f := .free "range") rfl),
     m_set := He.free_ok X GN (c.fact 1 3 (f := .free "set") rfl),
     m_sorted := He.free_ok X GN (c.fact 1 4 (f := .free "sorted") rfl),
     m_tuple := He.free_ok X GN (c.fact 1 5 (f := .free "tuple") rfl),
     m_zip := He.free_ok X GN (c.fact 1 6 (f := .free "zip") rfl),
     c_LAST_DAY := He.int_ok X GN (c.fact 1 7 (f := .int "LAST_DAY" 1000000) rfl),
     c_MOST_DEEDS := He.int_ok X GN (c.fact 1 8 (f := .int "MOST_DEEDS" 120) rfl),
     c_MOST_LETTERS := He.int_ok X GN (c.fact 1 9 (f := .int "MOST_LETTERS" 8) rfl),
     c_MOST_LIMIT := He.int_ok X GN (c.fact 1 10 (f := .int "MOST_LIMIT" 1000000) rfl),
     c_MOST_MEN := He.int_ok X GN (c.fact 1 11 (f := .int "MOST_MEN" 40) rfl),
     c_MOST_RANKS := He.int_ok X GN (c.fact 1 12 (f := .int "MOST_RANKS" 6) rfl),
     c_MOST_SIDES := He.int_ok X GN (c.fact 1 13 (f := .int "MOST_SIDES" 6) rfl),
     c_MOST_WORTH := He.int_ok X GN (c.fact 1 14 (f := .int "MOST_WORTH" 10000) rfl),
     x_BadDay := Xc.of (x := "BadDay") X GN c 1 15 1 16 rfl rfl rfl rfl,
     x_BadLimit := Xc.of (x := "BadLimit") X GN c 1 17 1 18 rfl rfl rfl rfl,
     x_BadName := Xc.of (x := "BadName") X GN c 1 19 1 20 rfl rfl rfl rfl,
     x_BadRank := Xc.of (x := "BadRank") X GN c 1 21 1 22 rfl rfl rfl rfl,
     x_BadTariff := Xc.of (x := "BadTariff") X GN c 1 23 1 24 rfl rfl rfl rfl,
     x_CartelError := Xc.of (x := "CartelError") X GN c 2 0 2 1 rfl rfl rfl rfl,
     x_Full := Xc.of (x := "Full") X GN c 2 2 2 3 rfl rfl rfl rfl,
     x_Gone := Xc.of (x := "Gone") X GN c 2 4 2 5 rfl rfl rfl rfl,
     x_Held := Xc.of (x := "Held") X GN c 2 6 2 7 rfl rfl rfl rfl,
     x_NoCartel := Xc.of (x := "NoCartel") X GN c 2 8 2 9 rfl rfl rfl rfl,
     x_NoDeed := Xc.of (x := "NoDeed") X GN c 2 10 2 11 rfl rfl rfl rfl,
     x_NoMan := Xc.of (x := "NoMan") X GN c 2 12 2 13 rfl rfl rfl rfl,
     x_NoMen := Xc.of (x := "NoMen") X GN c 2 14 2 15 rfl rfl rfl rfl,
     x_NoSide := Xc.of (x := "NoSide") X GN c 2 16 2 17 rfl rfl rfl rfl,
     x_NotHeld := Xc.of (x := "NotHeld") X GN c 2 18 2 19 rfl rfl rfl rfl,
     x_OffRoll := Xc.of (x := "OffRoll") X GN c 2 20 2 21 rfl rfl rfl rfl,
     x_Own := Xc.of (x := "Own") X GN c 2 22 2 23 rfl rfl rfl rfl,
     x_Taken := Xc.of (x := "Taken") X GN c 2 24 3 0 rfl rfl rfl rfl,
     x_Twice := Xc.of (x := "Twice") X GN c 3 1 3 2 rfl rfl rfl rfl,
     x_Uneven := Xc.of (x := "Uneven") X GN c 3 3 3 4 rfl rfl rfl rfl,
     cl_Book := He.cls_ok (c.fact 3 6 (f := .cls "Book") rfl),
     cl_Man := He.cls_ok (c.fact 3 7 (f := .cls "Man") rfl),
     cl_Scene := He.cls_ok (c.fact 3 8 (f := .cls "Scene") rfl),
     mk_Book := He.mkr_ok (c.fact 3 9 (f := .mkr "Book") rfl),
     g_Book := He.glo_ok X GN (c.fact 3 10 (f := .glo "Book") rfl),
     mk_Man := He.mkr_ok (c.fact 3 11 (f := .mkr "Man") rfl),
     g_Man := He.glo_ok X GN (c.fact 3 12 (f := .glo "Man") rfl),
     mk_Scene := He.mkr_ok (c.fact 3 13 (f := .mkr "Scene") rfl),
     g_Scene := He.glo_ok X GN (c.fact 3 14 (f := .glo "Scene") rfl),
     n_Book_banners := He.noat_ok (c.fact 3 15 (f := .noat "Book" "banners") rfl),
     n_Book_folk := He.noat_ok (c.fact 3 16 (f := .noat "Book" "folk") rfl),
     n_Book_future := He.noat_ok (c.fact 3 17 (f := .noat "Book" "future") rfl),
     n_Book_later := He.noat_ok (c.fact 3 18 (f := .noat "Book" "later") rfl),
     n_Book_pacts := He.noat_ok (c.fact 3 19 (f := .noat "Book" "pacts") rfl),
     n_Book_past := He.noat_ok (c.fact 3 20 (f := .noat "Book" "past") rfl),
     n_Book_told := He.noat_ok (c.fact 3 21 (f := .noat "Book" "told") rfl),
     n_Man_bonds := He.noat_ok (c.fact 3 22 (f := .noat "Man" "bonds") rfl),
     n_Man_caught := He.noat_ok (c.fact 3 23 (f := .noat "Man" "caught") rfl),
     n_Man_dead := He.noat_ok (c.fact 3 24 (f := .noat "Man" "dead") rfl),
     n_Man_grade := He.noat_ok (c.fact 4 0 (f := .noat "Man" "grade") rfl),
     n_Man_home := He.noat_ok (c.fact 4 1 (f := .noat "Man" "home") rfl),
     n_Man_keeper := He.noat_ok (c.fact 4 2 (f := .noat "Man" "keeper") rfl),
     n_Scene_crew := He.noat_ok (c.fact 4 3 (f := .noat "Scene" "crew") rfl),
     n_Scene_dues := He.noat_ok (c.fact 4 4 (f := .noat "Scene" "dues") rfl),
     n_Scene_pacts := He.noat_ok (c.fact 4 5 (f := .noat "Scene" "pacts") rfl),
     me_Book_cartel := He.meth_ok (c.fact 4 6 (f := .meth "Book" "cartel") rfl),
     me_Book_cartels := He.meth_ok (c.fact 4 7 (f := .meth "Book" "cartels") rfl),
     me_Book_deeds := He.meth_ok (c.fact 4 8 (f := .meth "Book" "deeds") rfl),
     me_Book_die := He.meth_ok (c.fact 4 9 (f := .meth "Book" "die") rfl),
     me_Book_enter := He.meth_ok (c.fact 4 10 (f := .meth "Book" "enter") rfl),
     me_Book_keep := He.meth_ok (c.fact 4 11 (f := .meth "Book" "keep") rfl),
     me_Book_man := He.meth_ok (c.fact 4 12 (f := .meth "Book" "man") rfl),
     me_Book_men := He.meth_ok (c.fact 4 13 (f := .meth "Book" "men") rfl),
     me_Book_need_cartel := He.meth_ok (c.fact 4 14 (f := .meth "Book" "need_cartel") rfl),
     me_Book_need_day := He.meth_ok (c.fact 4 15 (f := .meth "Book" "need_day") rfl),
     me_Book_need_man := He.meth_ok (c.fact 4 16 (f := .meth "Book" "need_man") rfl),
     me_Book_need_side := He.meth_ok (c.fact 4 17 (f := .meth "Book" "need_side") rfl),
     me_Book_need_two := He.meth_ok (c.fact 4 18 (f := .meth "Book" "need_two") rfl),
     me_Book_of_man := He.meth_ok (c.fact 4 19 (f := .meth "Book" "of_man") rfl),
     me_Book_rank := He.meth_ok (c.fact 4 20 (f := .meth "Book" "rank") rfl),
     me_Book_redate := He.meth_ok (c.fact 4 21 (f := .meth "Book" "redate") rfl),
     me_Book_side := He.meth_ok (c.fact 4 22 (f := .meth "Book" "side") rfl),
     me_Book_sides := He.meth_ok (c.fact 4 23 (f := .meth "Book" "sides") rfl),
     me_Book_state := He.meth_ok (c.fact 4 24 (f := .meth "Book" "state") rfl),
     me_Book_swap := He.meth_ok (c.fact 5 0 (f := .meth "Book" "swap") rfl),
     me_Book_take := He.meth_ok (c.fact 5 1 (f := .meth "Book" "take") rfl),
     me_Book_word := He.meth_ok (c.fact 5 2 (f := .meth "Book" "word") rfl),
     me_Man_goes_from := He.meth_ok (c.fact 5 3 (f := .meth "Man" "goes_from") rfl),
     me_Man_on_roll := He.meth_ok (c.fact 5 4 (f := .meth "Man" "on_roll") rfl),
     me_Scene_befalls := He.meth_ok (c.fact 5 5 (f := .meth "Scene" "befalls") rfl),
     me_Scene_dies := He.meth_ok (c.fact 5 6 (f := .meth "Scene" "dies") rfl),
     me_Scene_gone_over := He.meth_ok (c.fact 5 7 (f := .meth "Scene" "gone_over") rfl),
     me_Scene_graded := He.meth_ok (c.fact 5 8 (f := .meth "Scene" "graded") rfl),
     me_Scene_kept := He.meth_ok (c.fact 5 9 (f := .meth "Scene" "kept") rfl),
     me_Scene_let_go := He.meth_ok (c.fact 5 10 (f := .meth "Scene" "let_go") rfl),
     me_Scene_living := He.meth_ok (c.fact 5 11 (f := .meth "Scene" "living") rfl),
     me_Scene_sent := He.meth_ok (c.fact 5 12 (f := .meth "Scene" "sent") rfl),
     me_Scene_swapped := He.meth_ok (c.fact 5 13 (f := .meth "Scene" "swapped") rfl),
     me_Scene_taken := He.meth_ok (c.fact 5 14 (f := .meth "Scene" "taken") rfl),
     s_LETTERS := He.str_ok X GN (c.fact 5 15 (f := .str "LETTERS" "abcdefghijklmnopqrstuvwxyz") rfl),
     g_Breaks := He.glo_ok X GN (c.fact 3 5 (f := .glo "Breaks") rfl),
     ox_Breaks := oexB_ok (c.xf 3 (b := oexB "Breaks") rfl),
     kis := kis_ok (c.xf 0 (b := kisB) rfl),
     kit1 := kit1_ok (c.xf 1 (b := kitB1) rfl),
     no_Breaks_number := He.eqO_ok (c.xf 2 (b := fun K => He.eqO (PySem.W.findIn K (.ref (He.ga K "Breaks")) "number") (some none)) rfl) },
    SaysK.df (x := "good_tariff") (st := s_good_tariff) X GN c 0 0 0 0 rfl rfl rfl rfl,
    SaysK.df (x := "in_order") (st := s_in_order) X GN c 0 1 0 1 rfl rfl rfl rfl,
    SaysK.df (x := "look_through") (st := s_look_through) X GN c 0 2 0 2 rfl rfl rfl rfl,
    SaysK.df (x := "all_in") (st := s_all_in) X GN c 0 3 0 3 rfl rfl rfl rfl,
    SaysK.df (x := "is_name") (st := s_is_name) X GN c 0 4 0 4 rfl rfl rfl rfl,
    SaysK.df (x := "pair_of") (st := s_pair_of) X GN c 0 5 0 5 rfl rfl rfl rfl,
    SaysK.df (x := "_law_box") (st := s__law_box) X GN c 0 6 0 6 rfl rfl rfl rfl,
    SaysK.df (x := "_law_mixed") (st := s__law_mixed) X GN c 0 7 0 7 rfl rfl rfl rfl,
    SaysK.df (x := "_law_take") (st := s__law_take) X GN c 0 8 0 8 rfl rfl rfl rfl,
    SaysK.df (x := "_law_named") (st := s__law_named) X GN c 0 9 0 9 rfl rfl rfl rfl,
    SaysK.df (x := "_law_called") (st := s__law_called) X GN c 0 10 0 10 rfl rfl rfl rfl,
    SaysK.df (x := "_law_many_names") (st := s__law_many_names) X GN c 0 11 0 11 rfl rfl rfl rfl,
    SaysK.df (x := "_law_limit_first") (st := s__law_limit_first) X GN c 0 12 0 12 rfl rfl rfl rfl,
    SaysK.df (x := "_law_wrong_names") (st := s__law_wrong_names) X GN c 0 13 0 13 rfl rfl rfl rfl,
    SaysK.df (x := "_law_wrong_deed") (st := s__law_wrong_deed) X GN c 0 14 0 14 rfl rfl rfl rfl,
    SaysK.df (x := "_law_refused") (st := s__law_refused) X GN c 0 15 0 15 rfl rfl rfl rfl,
    SaysK.mf (C := "Breaks") (m := "__init__") (qual := "Breaks.__init__") (st := s_Breaks___init__) c 0 17 rfl rfl,
    SaysK.mf (C := "Man") (m := "__init__") (qual := "Man.__init__") (st := s_Man___init__) c 0 18 rfl rfl,
    SaysK.mf (C := "Man") (m := "on_roll") (qual := "Man.on_roll") (st := s_Man_on_roll) c 0 19 rfl rfl,
    SaysK.mf (C := "Man") (m := "goes_from") (qual := "Man.goes_from") (st := s_Man_goes_from) c 0 20 rfl rfl,
    SaysK.mf (C := "Scene") (m := "__init__") (qual := "Scene.__init__") (st := s_Scene___init__) c 0 21 rfl rfl,
    SaysK.mf (C := "Scene") (m := "living") (qual := "Scene.living") (st := s_Scene_living) c 0 22 rfl rfl,
    SaysK.mf (C := "Scene") (m := "kept") (qual := "Scene.kept") (st := s_Scene_kept) c 0 23 rfl rfl,
    SaysK.mf (C := "Scene") (m := "taken") (qual := "Scene.taken") (st := s_Scene_taken) c 0 24 rfl rfl,
    SaysK.mf (C := "Scene") (m := "sent") (qual := "Scene.sent") (st := s_Scene_sent) c 1 0 rfl rfl,
    SaysK.mf (C := "Scene") (m := "let_go") (qual := "Scene.let_go") (st := s_Scene_let_go) c 1 1 rfl rfl,
    SaysK.mf (C := "Scene") (m := "graded") (qual := "Scene.graded") (st := s_Scene_graded) c 1 2 rfl rfl,
    SaysK.mf (C := "Scene") (m := "dies") (qual := "Scene.dies") (st := s_Scene_dies) c 1 3 rfl rfl,
    SaysK.mf (C := "Scene") (m := "gone_over") (qual := "Scene.gone_over") (st := s_Scene_gone_over) c 1 4 rfl rfl,
    SaysK.mf (C := "Scene") (m := "swapped") (qual := "Scene.swapped") (st := s_Scene_swapped) c 1 5 rfl rfl,
    SaysK.mf (C := "Scene") (m := "befalls") (qual := "Scene.befalls") (st := s_Scene_befalls) c 1 6 rfl rfl,
    SaysK.mf (C := "Book") (m := "__init__") (qual := "Book.__init__") (st := s_Book___init__) c 1 7 rfl rfl,
    SaysK.mf (C := "Book") (m := "state") (qual := "Book.state") (st := s_Book_state) c 1 8 rfl rfl,
    SaysK.mf (C := "Book") (m := "keep") (qual := "Book.keep") (st := s_Book_keep) c 1 9 rfl rfl,
    SaysK.mf (C := "Book") (m := "need_side") (qual := "Book.need_side") (st := s_Book_need_side) c 1 10 rfl rfl,
    SaysK.mf (C := "Book") (m := "need_man") (qual := "Book.need_man") (st := s_Book_need_man) c 1 11 rfl rfl,
    SaysK.mf (C := "Book") (m := "need_two") (qual := "Book.need_two") (st := s_Book_need_two) c 1 12 rfl rfl,
    SaysK.mf (C := "Book") (m := "need_cartel") (qual := "Book.need_cartel") (st := s_Book_need_cartel) c 1 13 rfl rfl,
    SaysK.mf (C := "Book") (m := "side") (qual := "Book.side") (st := s_Book_side) c 1 14 rfl rfl,
    SaysK.mf (C := "Book") (m := "man") (qual := "Book.man") (st := s_Book_man) c 1 15 rfl rfl,
    SaysK.mf (C := "Book") (m := "cartel") (qual := "Book.cartel") (st := s_Book_cartel) c 1 16 rfl rfl,
    SaysK.mf (C := "Book") (m := "need_day") (qual := "Book.need_day") (st := s_Book_need_day) c 1 17 rfl rfl,
    SaysK.mf (C := "Book") (m := "enter") (qual := "Book.enter") (st := s_Book_enter) c 1 18 rfl rfl,
    SaysK.mf (C := "Book") (m := "of_man") (qual := "Book.of_man") (st := s_Book_of_man) c 1 19 rfl rfl,
    SaysK.mf (C := "Book") (m := "take") (qual := "Book.take") (st := s_Book_take) c 1 20 rfl rfl,
    SaysK.mf (C := "Book") (m := "word") (qual := "Book.word") (st := s_Book_word) c 1 21 rfl rfl,
    SaysK.mf (C := "Book") (m := "die") (qual := "Book.die") (st := s_Book_die) c 1 22 rfl rfl,
    SaysK.mf (C := "Book") (m := "rank") (qual := "Book.rank") (st := s_Book_rank) c 1 23 rfl rfl,
    SaysK.mf (C := "Book") (m := "swap") (qual := "Book.swap") (st := s_Book_swap) c 1 24 rfl rfl,
    SaysK.mf (C := "Book") (m := "redate") (qual := "Book.redate") (st := s_Book_redate) c 2 0 rfl rfl,
    SaysK.mf (C := "Book") (m := "sides") (qual := "Book.sides") (st := s_Book_sides) c 2 1 rfl rfl,
    SaysK.mf (C := "Book") (m := "men") (qual := "Book.men") (st := s_Book_men) c 2 2 rfl rfl,
    SaysK.mf (C := "Book") (m := "cartels") (qual := "Book.cartels") (st := s_Book_cartels) c 2 3 rfl rfl,
    SaysK.mf (C := "Book") (m := "deeds") (qual := "Book.deeds") (st := s_Book_deeds) c 2 4 rfl rfl⟩
end Law
open PySem PySem.W PySem.Calls PyProof.Rows
theorem PySem.Challenge.cw_cartelship_k51_two_refusals_due_holds : PySem.Challenge.rw_cartelship_k51_two_refusals_due.Holds := by
  w_on; o_law
  refine HandSHeadRun.head_any (r := OpenLaw.row PySem.Challenge.rw_cartelship_k51_two_refusals_due) (q := view (OpenLaw.row PySem.Challenge.rw_cartelship_k51_two_refusals_due).prog [60]) (H := G.hookK Law.fas Law.fns Law.xfs) (ob := G.obKT Law.fas Law.fns Law.xfs) (M := 12000) (loose := Law.names) (d := HandSHeadRun.topDef (OpenLaw.row PySem.Challenge.rw_cartelship_k51_two_refusals_due).prog 60) (kwd := []) (G.obKT_eq Law.fas Law.fns Law.xfs)
    (by kernel_rfl) (fun s => by kernel_rfl) Law.hdrun (by kernel_rfl) (by kernel_rfl) (by kernel_rfl) (by rfl) (by first | assumption | decide +kernel) (by decide +kernel) ⟨rfl, rfl, rfl, rfl, rfl, by decide +kernel⟩ ?hw ?hc
  case hw => w_witness2
  case hc =>
    refine G.walk_ofEB (l := PySem.Challenge.rw_cartelship_k51_two_refusals_due) (n := 63) (k := 11) (x := "_law_script") (CX := L2.CX0) rfl (by decide) (by kernel_rfl) ⟨rfl, by decide, by decide⟩ ?F (fun _ _ _ _ z => z)
    intro w mg fa h Y GN hmg0
    obtain ⟨K, KX, c⟩ := Y
    have hmg : mg ("law" : PySem.Str) = some (.ref fa) := by
      have e : (HandSHeadRun.topDef (OpenLaw.row PySem.Challenge.rw_cartelship_k51_two_refusals_due).prog 60).name = ("law" : PySem.Str) := by kernel_rfl
      rw [← e]
      exact hmg0
    obtain ⟨kp, oc, od, osl, kV, doc, pm, an, cdv, ct, lk, cd⟩ := G.SaysK.def_ c 0 16 (d := ⟨("law", none), "law", "law", L2.defArgs Law.s_law, L2.defBody Law.s_law, L2.defScope Law.s_law⟩) rfl rfl
    have e := hmg.symm.trans (He.glo_ok KX GN (G.SaysK.fact c 0 16 (f := .glo "law") rfl rfl))
    cases e
    exact ⟨K, _, G.spLaw K, KX, fun s v => .of_eq rfl, fun H a ns hl hb _ hS => ⟨a, ns, rfl, hS, hl, hb, fun _ => rfl⟩, fun base _ _ => Law.chain (Law.all_ok (w := w) KX GN c) (L2.fun_mk (st := Law.s_law) lk cd kp)⟩
#print axioms PySem.Challenge.cw_cartelship_k51_two_refusals_due_holds


