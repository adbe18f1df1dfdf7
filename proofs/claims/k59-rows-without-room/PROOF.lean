import PyProof.Rows.All
import Wide.All
import OpenK.AllK
import Wide.FinOn
import HandS.ForMost
import HandS.Evl
import HandS.IsInst
import HandS.Wide
import HandS.WideBits
import HandS.RevRange
import HandS.Walk
import HandS.Zip
import HandS.EndBits
import HandS.Style
import HandS.Exc
import HandS.ExcOwn
import HandS.WordsExc
import HandS.TryOnly
import HandS.ExcIs
import KE.KStateDown
import HandS.Head0
import HandS.Head1
import HandS.Head2
import HandS.HeadEnd
import HandS.HeadHook1
import HandS.Sort
import HandS.SortInts
import HandS.SortKw
import HandS.TupAny
import HandS.ExcCtx
import HandS.More
import HandS.ExcValue
import HandS.ExcInit
import KE.KExcIs
import PyProof.StrOps2
import HandS.HotCalls
import HandS.SetFor
import HandS.FStr
import HandS.TupLe
import HandS.HeadHook3
import HandS.ExcField
import HandS.RaiseMore
import HandS.Text
import HandS.NoneIn
import KE.KIntText
import PyProof.StrLawsReplace
import HandS.SortRule
import HandS.List
import PySem.Challenge.RW_cartelship_k59_rows_without_room
set_option Elab.async false
set_option linter.all false
set_option maxRecDepth 100000
set_option maxHeartbeats 0
set_option synthInstance.maxHeartbeats 0
set_option synthInstance.maxSize 100000
namespace G
open PySem PySem.Spec PyProof.Rows L2
def frN (g : Addr → Option Obj) (n : Nat) : PySem.W.Frag := He.frG g (List.range n)
abbrev AlK : Type := (Bool × Bool) × List (List He.FnV)
def obsK (fa : List (List He.Fa)) (fn : List (List He.FnD)) (ex : List (PySem.W.Frag → Bool)) (K : PySem.W.Frag) : AlK :=
  (((fa.all fun l => l.all fun f => f.ok K) && (fn.all fun l => l.all fun d => (He.Fa.code d.at_ d.qual).ok K && PySem.W.keepIn K (.ref (He.fAd K d.at_))), ex.all fun b => b K), fn.map fun l => l.map fun d => He.fnObs K d.at_)
def valK (fn : List (List He.FnD)) : AlK := ((true, true), fn.map fun l => l.map He.FnD.val)
def SaysK (fa : List (List He.Fa)) (fn : List (List He.FnD)) (ex : List (PySem.W.Frag → Bool)) (K : PySem.W.Frag) : Prop := obsK fa fn ex K = valK fn
def hookK (fa : List (List He.Fa)) (fn : List (List He.FnD)) (ex : List (PySem.W.Frag → Bool)) : PySem.W.Hook where
  α := AlK
  obs := fun s => obsK fa fn ex (frN s.heap.get? s.heap.objs.size)
  val := fun _ => valK fn
  says := fun _ h => ∃ K : PySem.W.Frag, K.In h ∧ SaysK fa fn ex K
  of := fun _ _ e => ⟨_, He.frG_in, e⟩
  keeps := fun _ _ _ ⟨K, hK, c⟩ k => ⟨K, PySem.W.Frag.In.keeps hK k, c⟩
def obKT (fa : List (List He.Fa)) (fn : List (List He.FnD)) (ex : List (PySem.W.Frag → Bool)) (s : PySem.W.SharedT) : AlK := obsK fa fn ex (frN (HandSHeadRun.getT s) s.n)
theorem obKT_eq (fa : List (List He.Fa)) (fn : List (List He.FnD)) (ex : List (PySem.W.Frag → Bool)) (s : PySem.W.SharedT) : obKT fa fn ex s = (hookK fa fn ex).obs s.abs := by
  have e : HandSHeadRun.getT s = s.abs.heap.get? := funext (HandSHeadRun.getT_eq s)
  have e2 : s.abs.heap.objs.size = s.n := PySem.W.absHeap_size s.tree s.n _
  unfold obKT
  rw [e, ← e2]
  rfl
def excCB (x : Str) (K : PySem.W.Frag) : Bool :=
  He.eqO (PySem.W.findIn K (.ref (He.ga K x)) "__getattribute__") (some (some (.builtin "BaseException.__getattribute__"))) && (He.eqO (PySem.W.findIn K (.ref (He.ga K x)) "__getattr__") (some none) && (decide (PySem.W.subIn K (.ref (He.ga K x)) (.type "BaseException") = some true) && (PySem.W.hasDictIn K (He.ga K x) &&
    (He.eqO (PySem.W.findIn K (.ref (He.ga K x)) "__class__") (some (some (.builtin "object.__class__"))) && (He.eqO (PySem.W.specialIn K (.builtin "object.__class__") "__get__") (some (some (.builtin "getset_descriptor.__get__"))) && (decide (PySem.W.takesIn K (.builtin "object.__class__") = some true) && decide (PySem.W.mroIn K (He.ga K x) (.type "object") = some true)))))))
def oexB (x : Str) (K : PySem.W.Frag) : Bool := (match K.lookup (He.ga K x) with
  | some ⟨.type "type", _, .cls cd, sl⟩ => (match cd.mro, sl.toList with
    | .ref C' :: bm, [_, _, _, _, some (.builtin n), _] => C' == He.ga K x && n == "ValueError.__new__" && !cd.hasDel && cd.hasDict && PySem.HandSPX.refsVE bm
    | _, _ => false)
  | _ => false) &&
  (He.eqO (PySem.W.findIn K (.ref (He.ga K x)) "__setattr__") (some (some (.builtin "object.__setattr__"))) && (decide (PySem.W.subIn K (.ref (He.ga K x)) (.type "BaseException") = some true) && (decide (PySem.W.typeIn K (.ref (He.ga K x)) = some (.type "type")) && (PySem.W.keepIn K (.ref (He.ga K x)) &&
  (He.eqO (PySem.W.findIn K (.ref (He.ga K x)) "__init__") (some (some (.ref (He.ma K (He.ga K x) "__init__")))) && decide (PySem.W.typeIn K (.ref (He.ma K (He.ga K x) "__init__")) = some (.type "function")))))))
abbrev TabK : Type := Str × List Str
abbrev AlT : Type := AlK × List (Option (List (Option (Str × Int))))
def obsT (fa : List (List He.Fa)) (fn : List (List He.FnD)) (ex : List (PySem.W.Frag → Bool)) (ts : List TabK) (K : PySem.W.Frag) : AlT := (obsK fa fn ex K, ts.map fun t => He.dicW K (He.ga K t.1))
def valT (fn : List (List He.FnD)) (ts : List TabK) (w : World) : AlT := (valK fn, ts.map fun t => some (He.keysIn w.params t.2))
def SaysT (fa : List (List He.Fa)) (fn : List (List He.FnD)) (ex : List (PySem.W.Frag → Bool)) (ts : List TabK) (w : World) (K : PySem.W.Frag) : Prop := obsT fa fn ex ts K = valT fn ts w
def hookT (fa : List (List He.Fa)) (fn : List (List He.FnD)) (ex : List (PySem.W.Frag → Bool)) (ts : List TabK) : PySem.W.Hook where
  α := AlT
  obs := fun s => obsT fa fn ex ts (frN s.heap.get? s.heap.objs.size)
  val := fun w => valT fn ts w
  says := fun w h => ∃ K : PySem.W.Frag, K.In h ∧ SaysT fa fn ex ts w K
  of := fun _ _ e => ⟨_, He.frG_in, e⟩
  keeps := fun _ _ _ ⟨K, hK, c⟩ k => ⟨K, PySem.W.Frag.In.keeps hK k, c⟩
def obTT (fa : List (List He.Fa)) (fn : List (List He.FnD)) (ex : List (PySem.W.Frag → Bool)) (ts : List TabK) (s : PySem.W.SharedT) : AlT := obsT fa fn ex ts (frN (HandSHeadRun.getT s) s.n)
theorem obTT_eq (fa : List (List He.Fa)) (fn : List (List He.FnD)) (ex : List (PySem.W.Frag → Bool)) (ts : List TabK) (s : PySem.W.SharedT) : obTT fa fn ex ts s = (hookT fa fn ex ts).obs s.abs := by
  have e : HandSHeadRun.getT s = s.abs.heap.get? := funext (HandSHeadRun.getT_eq s)
  have e2 : s.abs.heap.objs.size = s.n := PySem.W.absHeap_size s.tree s.n _
  unfold obTT
  rw [e, ← e2]
  rfl
def tabB (x : Str) (kvs : List (Str × Int)) (no : List Str) (K : PySem.W.Frag) : Bool := (kvs.all fun q => match PySem.W.nsIn K (He.ga K x) q.1 with
  | some (some (.int i _)) => decide (i = q.2)
  | _ => false) && (no.all fun z => match PySem.W.nsIn K (He.ga K x) z with
  | some none => true
  | _ => false)
end G
namespace Law
open PySem PySem.Spec PyProof.Rows L2 Evl RZ G
def top (i : Nat) : Stmt := PySem.Challenge.pw_cartelship_k59_rows_without_room.main.body.getD i (.Pass ⟨0, 0, 0, 0⟩)
def fns0 : List He.FnD := [⟨("in_order", none), "in_order", "in_order", defArgs (top 34), defBody (top 34), defScope (top 34)⟩, ⟨("look_through", none), "look_through", "look_through", defArgs (top 36), defBody (top 36), defScope (top 36)⟩, ⟨("all_in", none), "all_in", "all_in", defArgs (top 42), defBody (top 42), defScope (top 42)⟩, ⟨("is_name", none), "is_name", "is_name", defArgs (top 43), defBody (top 43), defScope (top 43)⟩, ⟨("number_of", none), "number_of", "number_of", defArgs (top 44), defBody (top 44), defScope (top 44)⟩, ⟨("numbers_of", none), "numbers_of", "numbers_of", defArgs (top 45), defBody (top 45), defScope (top 45)⟩, ⟨("joined", none), "joined", "joined", defArgs (top 46), defBody (top 46), defScope (top 46)⟩, ⟨("words_of", none), "words_of", "words_of", defArgs (top 57), defBody (top 57), defScope (top 57)⟩, ⟨("deed_of", none), "deed_of", "deed_of", defArgs (top 58), defBody (top 58), defScope (top 58)⟩, ⟨("tell", none), "tell", "tell", defArgs (top 59), defBody (top 59), defScope (top 59)⟩, ⟨("book_rows", none), "book_rows", "book_rows", defArgs (top 63), defBody (top 63), defScope (top 63)⟩, ⟨("read_book", none), "read_book", "read_book", defArgs (top 65), defBody (top 65), defScope (top 65)⟩, ⟨("_law_box", none), "_law_box", "_law_box", defArgs (top 67), defBody (top 67), defScope (top 67)⟩, ⟨("_law_mixed", none), "_law_mixed", "_law_mixed", defArgs (top 68), defBody (top 68), defScope (top 68)⟩, ⟨("_law_take", none), "_law_take", "_law_take", defArgs (top 69), defBody (top 69), defScope (top 69)⟩, ⟨("_law_whole", none), "_law_whole", "_law_whole", defArgs (top 70), defBody (top 70), defScope (top 70)⟩, ⟨("_law_alike", none), "_law_alike", "_law_alike", defArgs (top 71), defBody (top 71), defScope (top 71)⟩, ⟨("_law_named", none), "_law_named", "_law_named", defArgs (top 72), defBody (top 72), defScope (top 72)⟩, ⟨("_law_many_names", none), "_law_many_names", "_law_many_names", defArgs (top 73), defBody (top 73), defScope (top 73)⟩, ⟨("_law_wrong_at", none), "_law_wrong_at", "_law_wrong_at", defArgs (top 74), defBody (top 74), defScope (top 74)⟩, ⟨("_law_full_rows", none), "_law_full_rows", "_law_full_rows", defArgs (top 75), defBody (top 75), defScope (top 75)⟩, ⟨("_law_small_rows", none), "_law_small_rows", "_law_small_rows", defArgs (top 76), defBody (top 76), defScope (top 76)⟩, ⟨("law", none), "law", "law", defArgs (top 77), defBody (top 77), defScope (top 77)⟩, ⟨("BadRow", some "__init__"), "__init__", "BadRow.__init__", defArgs (inClass (top 23) 0), defBody (inClass (top 23) 0), defScope (inClass (top 23) 0)⟩, ⟨("Man", some "__init__"), "__init__", "Man.__init__", defArgs (inClass (top 32) 0), defBody (inClass (top 32) 0), defScope (inClass (top 32) 0)⟩]
def fns1 : List He.FnD := [⟨("Scene", some "__init__"), "__init__", "Scene.__init__", defArgs (inClass (top 33) 0), defBody (inClass (top 33) 0), defScope (inClass (top 33) 0)⟩, ⟨("Scene", some "living"), "living", "Scene.living", defArgs (inClass (top 33) 1), defBody (inClass (top 33) 1), defScope (inClass (top 33) 1)⟩, ⟨("Scene", some "kept"), "kept", "Scene.kept", defArgs (inClass (top 33) 2), defBody (inClass (top 33) 2), defScope (inClass (top 33) 2)⟩, ⟨("Scene", some "taken"), "taken", "Scene.taken", defArgs (inClass (top 33) 3), defBody (inClass (top 33) 3), defScope (inClass (top 33) 3)⟩, ⟨("Scene", some "sent"), "sent", "Scene.sent", defArgs (inClass (top 33) 4), defBody (inClass (top 33) 4), defScope (inClass (top 33) 4)⟩, ⟨("Scene", some "let_go"), "let_go", "Scene.let_go", defArgs (inClass (top 33) 5), defBody (inClass (top 33) 5), defScope (inClass (top 33) 5)⟩, ⟨("Scene", some "graded"), "graded", "Scene.graded", defArgs (inClass (top 33) 6), defBody (inClass (top 33) 6), defScope (inClass (top 33) 6)⟩, ⟨("Scene", some "dies"), "dies", "Scene.dies", defArgs (inClass (top 33) 7), defBody (inClass (top 33) 7), defScope (inClass (top 33) 7)⟩, ⟨("Scene", some "swapped"), "swapped", "Scene.swapped", defArgs (inClass (top 33) 9), defBody (inClass (top 33) 9), defScope (inClass (top 33) 9)⟩, ⟨("Scene", some "befalls"), "befalls", "Scene.befalls", defArgs (inClass (top 33) 10), defBody (inClass (top 33) 10), defScope (inClass (top 33) 10)⟩, ⟨("Book", some "__init__"), "__init__", "Book.__init__", defArgs (inClass (top 54) 0), defBody (inClass (top 54) 0), defScope (inClass (top 54) 0)⟩, ⟨("Book", some "state"), "state", "Book.state", defArgs (inClass (top 54) 1), defBody (inClass (top 54) 1), defScope (inClass (top 54) 1)⟩, ⟨("Book", some "keep"), "keep", "Book.keep", defArgs (inClass (top 54) 3), defBody (inClass (top 54) 3), defScope (inClass (top 54) 3)⟩, ⟨("Book", some "forget"), "forget", "Book.forget", defArgs (inClass (top 54) 4), defBody (inClass (top 54) 4), defScope (inClass (top 54) 4)⟩, ⟨("Book", some "need_side"), "need_side", "Book.need_side", defArgs (inClass (top 54) 5), defBody (inClass (top 54) 5), defScope (inClass (top 54) 5)⟩, ⟨("Book", some "need_man"), "need_man", "Book.need_man", defArgs (inClass (top 54) 6), defBody (inClass (top 54) 6), defScope (inClass (top 54) 6)⟩, ⟨("Book", some "side"), "side", "Book.side", defArgs (inClass (top 54) 9), defBody (inClass (top 54) 9), defScope (inClass (top 54) 9)⟩, ⟨("Book", some "man"), "man", "Book.man", defArgs (inClass (top 54) 10), defBody (inClass (top 54) 10), defScope (inClass (top 54) 10)⟩, ⟨("Book", some "cartel"), "cartel", "Book.cartel", defArgs (inClass (top 54) 11), defBody (inClass (top 54) 11), defScope (inClass (top 54) 11)⟩, ⟨("Book", some "need_day"), "need_day", "Book.need_day", defArgs (inClass (top 54) 12), defBody (inClass (top 54) 12), defScope (inClass (top 54) 12)⟩, ⟨("Book", some "enter"), "enter", "Book.enter", defArgs (inClass (top 54) 13), defBody (inClass (top 54) 13), defScope (inClass (top 54) 13)⟩, ⟨("Book", some "of_man"), "of_man", "Book.of_man", defArgs (inClass (top 54) 14), defBody (inClass (top 54) 14), defScope (inClass (top 54) 14)⟩, ⟨("Book", some "take"), "take", "Book.take", defArgs (inClass (top 54) 15), defBody (inClass (top 54) 15), defScope (inClass (top 54) 15)⟩, ⟨("Book", some "word"), "word", "Book.word", defArgs (inClass (top 54) 16), defBody (inClass (top 54) 16), defScope (inClass (top 54) 16)⟩, ⟨("Book", some "free"), "free", "Book.free", defArgs (inClass (top 54) 17), defBody (inClass (top 54) 17), defScope (inClass (top 54) 17)⟩]
def fns2 : List He.FnD := [⟨("Book", some "flee"), "flee", "Book.flee", defArgs (inClass (top 54) 18), defBody (inClass (top 54) 18), defScope (inClass (top 54) 18)⟩, ⟨("Book", some "die"), "die", "Book.die", defArgs (inClass (top 54) 19), defBody (inClass (top 54) 19), defScope (inClass (top 54) 19)⟩, ⟨("Book", some "rank"), "rank", "Book.rank", defArgs (inClass (top 54) 20), defBody (inClass (top 54) 20), defScope (inClass (top 54) 20)⟩, ⟨("Book", some "swap"), "swap", "Book.swap", defArgs (inClass (top 54) 21), defBody (inClass (top 54) 21), defScope (inClass (top 54) 21)⟩, ⟨("Book", some "sides"), "sides", "Book.sides", defArgs (inClass (top 54) 26), defBody (inClass (top 54) 26), defScope (inClass (top 54) 26)⟩, ⟨("Book", some "men"), "men", "Book.men", defArgs (inClass (top 54) 27), defBody (inClass (top 54) 27), defScope (inClass (top 54) 27)⟩, ⟨("Book", some "cartels"), "cartels", "Book.cartels", defArgs (inClass (top 54) 28), defBody (inClass (top 54) 28), defScope (inClass (top 54) 28)⟩, ⟨("Book", some "deeds"), "deeds", "Book.deeds", defArgs (inClass (top 54) 29), defBody (inClass (top 54) 29), defScope (inClass (top 54) 29)⟩, ⟨("Book", some "upcoming"), "upcoming", "Book.upcoming", defArgs (inClass (top 54) 30), defBody (inClass (top 54) 30), defScope (inClass (top 54) 30)⟩, ⟨("Reader", some "__init__"), "__init__", "Reader.__init__", defArgs (inClass (top 64) 0), defBody (inClass (top 64) 0), defScope (inClass (top 64) 0)⟩, ⟨("Reader", some "behind"), "behind", "Reader.behind", defArgs (inClass (top 64) 1), defBody (inClass (top 64) 1), defScope (inClass (top 64) 1)⟩, ⟨("Reader", some "take_deed"), "take_deed", "Reader.take_deed", defArgs (inClass (top 64) 2), defBody (inClass (top 64) 2), defScope (inClass (top 64) 2)⟩, ⟨("Reader", some "take_named"), "take_named", "Reader.take_named", defArgs (inClass (top 64) 3), defBody (inClass (top 64) 3), defScope (inClass (top 64) 3)⟩, ⟨("Reader", some "take_row"), "take_row", "Reader.take_row", defArgs (inClass (top 64) 4), defBody (inClass (top 64) 4), defScope (inClass (top 64) 4)⟩]
def fns : List (List He.FnD) := [fns0, fns1, fns2]
def fas0 : List He.Fa := [.glo "in_order", .glo "look_through", .glo "all_in", .glo "is_name", .glo "number_of", .glo "numbers_of", .glo "joined", .glo "words_of", .glo "deed_of", .glo "tell", .glo "book_rows", .glo "read_book", .glo "_law_box", .glo "_law_mixed", .glo "_law_take", .glo "_law_whole", .glo "_law_alike", .glo "_law_named", .glo "_law_many_names", .glo "_law_wrong_at", .glo "_law_full_rows", .glo "_law_small_rows", .glo "law", .free "ValueError", .free "all"]
def fas1 : List He.Fa := [.free "bool", .free "dict", .free "enumerate", .free "int", .free "isinstance", .free "len", .free "list", .free "max", .free "range", .free "sorted", .free "str", .free "tuple", .free "zip", .int "LAST_DAY" 1000000, .int "MOST_DEEDS" 120, .int "MOST_FIGURES" 10, .int "MOST_LETTERS" 8, .int "MOST_MEN" 40, .int "MOST_RANKS" 6, .int "MOST_SIDES" 6, .glo "BadDay", .exc "BadDay", .glo "BadName", .exc "BadName", .glo "BadRank"]
def fas2 : List He.Fa := [.exc "BadRank", .glo "CartelError", .exc "CartelError", .glo "Full", .exc "Full", .glo "NoMan", .exc "NoMan", .glo "NoSide", .exc "NoSide", .glo "Taken", .exc "Taken", .glo "BadRow", .glo "Breaks", .cls "Book", .cls "Man", .cls "Reader", .cls "Scene", .mkr "Book", .glo "Book", .mkr "Man", .glo "Man", .mkr "Reader", .glo "Reader", .mkr "Scene", .glo "Scene"]
def fas3 : List He.Fa := [.noat "Book" "banners", .noat "Book" "folk", .noat "Book" "future", .noat "Book" "later", .noat "Book" "pacts", .noat "Book" "past", .noat "Book" "told", .noat "Man" "bonds", .noat "Man" "caught", .noat "Man" "dead", .noat "Man" "grade", .noat "Man" "home", .noat "Man" "keeper", .noat "Reader" "kind", .noat "Reader" "last", .noat "Reader" "made", .noat "Reader" "most", .noat "Scene" "crew", .noat "Scene" "dues", .noat "Scene" "pacts", .meth "Book" "cartel", .meth "Book" "cartels", .meth "Book" "deeds", .meth "Book" "die", .meth "Book" "enter"]
def fas4 : List He.Fa := [.meth "Book" "flee", .meth "Book" "forget", .meth "Book" "free", .meth "Book" "keep", .meth "Book" "man", .meth "Book" "men", .meth "Book" "need_day", .meth "Book" "need_man", .meth "Book" "need_side", .meth "Book" "of_man", .meth "Book" "rank", .meth "Book" "side", .meth "Book" "sides", .meth "Book" "state", .meth "Book" "swap", .meth "Book" "take", .meth "Book" "upcoming", .meth "Book" "word", .meth "Reader" "behind", .meth "Reader" "take_deed", .meth "Reader" "take_named", .meth "Reader" "take_row", .meth "Scene" "befalls", .meth "Scene" "dies", .meth "Scene" "graded"]
def fas5 : List He.Fa := [.meth "Scene" "kept", .meth "Scene" "let_go", .meth "Scene" "living", .meth "Scene" "sent", .meth "Scene" "swapped", .meth "Scene" "taken", .str "FIGURES" "0123456789", .str "LETTERS" "abcdefghijklmnopqrstuvwxyz", .glo "COUNTS", .glo "RANKS", .glo "SIZES"]
def fas : List (List He.Fa) := [fas0, fas1, fas2, fas3, fas4, fas5]
def names0 : List PySem.Str := ["_wall", "__name__", "CartelError", "BadName", "Taken", "Full", "NoSide", "NoMan", "BadRank", "Own", "BadTariff", "BadLimit", "BadDay", "NoCartel", "NoMen", "Twice", "Gone", "Held", "NotHeld", "OffRoll", "Uneven", "NoStep", "Breaks", "BadRow", "MOST_RANKS"]
def names1 : List PySem.Str := ["MOST_WORTH", "good_tariff", "place_of", "roll_of", "Man", "Scene", "in_order", "scene_at", "look_through", "LETTERS", "FIGURES", "MOST_LETTERS", "MOST_FIGURES", "all_in", "is_name", "number_of", "numbers_of", "joined", "MOST_SIDES", "MOST_MEN", "MOST_DEEDS", "LAST_DAY", "MOST_LIMIT", "pair_of", "Book"]
def names2 : List PySem.Str := ["COUNTS", "words_of", "deed_of", "tell", "RANKS", "SIZES", "book_rows", "Reader", "read_book", "_law_box", "_law_mixed", "_law_take", "_law_whole", "_law_alike", "_law_named", "_law_many_names", "_law_wrong_at", "_law_full_rows", "_law_small_rows"]
def names : List PySem.Str := names0 ++ (names1 ++ (names2))
def tbs : List TabK := [("COUNTS", ["take", "word", "free", "flee", "rank", "die"]), ("RANKS", ["side", "man", "cartel", "deed", "next"]), ("SIZES", ["side", "man", "cartel", "next"])]
def xfs : List (PySem.W.Frag → Bool) := [fun K => decide (PySem.W.exmOne K (.ref (He.ga K "Full")) (.ref (He.ga K "CartelError")) = some true), fun K => decide (PySem.W.exmOne K (.ref (He.ga K "BadRow")) (.ref (He.ga K "BadRow")) = some true), excCB "BadRow", fun K => decide (PySem.W.kitOne K (.ref (He.ga K "BadRow")) (.ref (He.ga K "CartelError")) = some true), fun K => decide (PySem.W.kitOne K (.ref (He.ga K "BadRow")) (.type "ValueError") = some true), fun K => decide (PySem.W.kitOne K (.ref (He.ga K "BadRow")) (.ref (He.ga K "BadName")) = some false), fun K => decide (PySem.W.kitOne K (.ref (He.ga K "BadRow")) (.ref (He.ga K "NoMan")) = some false), fun K => decide (PySem.W.kitOne K (.ref (He.ga K "BadRow")) (.ref (He.ga K "Breaks")) = some false), fun K => decide (PySem.W.kitOne K (.ref (He.ga K "BadRow")) (.ref (He.ga K "Full")) = some false), oexB "BadRow", oexB "Breaks", fun K => xfB K (He.ga K "BadRow"), fun K => He.eqO (PySem.W.findIn K (.ref (He.ga K "BadRow")) "at") (some none), tabB "COUNTS" [("take", 3), ("word", 2), ("free", 2), ("flee", 2), ("rank", 3), ("die", 2)] [], tabB "RANKS" [("side", 0), ("man", 1), ("cartel", 2), ("deed", 3), ("next", 4)] [], tabB "SIZES" [("side", 2), ("man", 4), ("cartel", 10), ("next", 2)] []]
abbrev hdR : PySem.W.OpenRow := PySem.W.OpenLaw.row PySem.Challenge.rw_cartelship_k59_rows_without_room
def HdP (w : World) : Prop := HandSHeadRun.RunEq hdR (PySem.W.view hdR.prog [77]) (hookT fas fns xfs tbs) (obTT fas fns xfs tbs) 12000 names w
theorem hdrun0 (w : World) : HdP (w.withFollow "special-get-raises" false) := by
  intro os
  kernel_rfl
theorem hdrun1 (w : World) : HdP (w.withFollow "special-get-raises" true) := by
  intro os
  kernel_rfl
theorem hdrun (w : World) : HandSHeadRun.RunEq hdR (PySem.W.view hdR.prog [77]) (hookT fas fns xfs tbs) (obTT fas fns xfs tbs) 12000 names w := PySem.W.byRow2 "special-get-raises" (P := HdP) hdrun0 hdrun1 w
end Law
set_option Elab.async false
set_option linter.all false
set_option maxRecDepth 100000
set_option synthInstance.maxHeartbeats 0
set_option synthInstance.maxSize 100000
/-! Own layer over HandS: readings run one step at a time. -/
namespace G
open PySem PySem.Spec PyProof.Rows L2 Evl RZ
/-! ### continuations with names of their own -/
def bQ (Q : Bool → Hp → Prop) : VK := fun x H => ∃ k, x = .bl k ∧ Q k H
def opQ2 (r : R2) (x : V) (Q : VK) : VK := fun y H => r x y H Q
def opQ1 (r : R2) (tb : TE) (σ : L2.St) (Q : VK) : VK := fun x H => tb σ H (opQ2 r x Q)
def unQ (r : V → Hp → VK → Prop) (Q : VK) : VK := fun x H => r x H Q
def andQ (u : TT) (σ : L2.St) (Q : Bool → Hp → Prop) : Bool → Hp → Prop := fun c H => if c = true then u σ H Q else Q false H
def orQ (u : TT) (σ : L2.St) (Q : Bool → Hp → Prop) : Bool → Hp → Prop := fun c H => if c = true then Q true H else u σ H Q
def notQ (Q : Bool → Hp → Prop) : Bool → Hp → Prop := fun c H => Q (!c) H
def ifQ (t u : TS) (D : Ends) (σ : L2.St) : Bool → Hp → Prop := fun b H => if b = true then t D σ H else u D σ H
def iteQ (ta tb : TE) (σ : L2.St) (Q : VK) : Bool → Hp → Prop := fun c H => if c = true then ta σ H Q else tb σ H Q
def asgQ (g : TG) (D : Ends) (σ : L2.St) : VK := fun x H => g x σ H D.nx
def dropQ (D : Ends) (σ : L2.St) : VK := fun _ H => D.nx σ H
def consQ (tr : TA) (σ : L2.St) (Q : List V → Hp → Prop) : VK := fun x H => tr σ H fun xs H2 => Q (x :: xs) H2
def callQ (sp : Sp) (Q : VK) (E : XK) : List V → Hp → Prop := fun vs H => sp (vs ++ []) H Q E
def cbQ (r : List V → Hp → VK → Prop) (Q : VK) : List V → Hp → Prop := fun vs H => r vs H Q
def lstQ (Q : VK) : List V → Hp → Prop := fun xs H => xs.length ≤ sizeLine ∧ ∀ p, H p = none → Q (.ref p) (upd H p (.lst xs))
def tupQ (Q : VK) : List V → Hp → Prop := fun xs H => xs.length ≤ sizeLine ∧ ∀ p, H p = none → Q (.ref p) (upd H p (.tup xs))
def andVQ (tb : TE) (σ : L2.St) (Q : VK) : VK := fun x H => ∃ c, x = .bl c ∧ if c = true then tb σ H Q else Q (.bl false) H
def orVQ (tb : TE) (σ : L2.St) (Q : VK) : VK := fun x H => ∃ c, x = .bl c ∧ if c = true then Q (.bl true) H else tb σ H Q
def notVQ (Q : VK) : VK := fun x H => ∃ c, x = .bl c ∧ Q (.bl (!c)) H
section
variable {K : PySem.W.Frag} {σ : L2.St} {H H1 : Hp} {Q : VK} {QB : Bool → Hp → Prop} {QA : List V → Hp → Prop} {v x y : V} {ta tb te : TE} {t u : TS} {c d : TT} {D : Ends} {r : R2} {i : Nat} {g : TG} {tr : TA} {sp : Sp} {E : XK}
/-! ### expressions -/
theorem x_var (h : σ[i]? = some (some v)) (k : Q v H) : tVar i σ H Q := ⟨v, h, k⟩
theorem x_c (k : Q v H) : tC v σ H Q := k
theorem x_op (k : ta σ H (opQ1 r tb σ Q)) : tOp r ta tb σ H Q := k
theorem x_opQ1 (k : tb σ H (opQ2 r x Q)) : opQ1 r tb σ Q x H := k
theorem x_opQ2 (k : r x y H Q) : opQ2 r x Q y H := k
theorem x_un {q : V → Hp → VK → Prop} (k : ta σ H (unQ q Q)) : tUn q ta σ H Q := k
theorem x_unQ {q : V → Hp → VK → Prop} (k : q x H Q) : unQ q Q x H := k
theorem x_I0 {f : Int → Int → V} {a b : Int} (k : Q (f a b) H) : rI0 f (.int a) (.int b) H Q := ⟨a, b, rfl, rfl, k⟩
theorem x_I {C : Int → Int → Prop} {f : Int → Int → V} {a b : Int} (h : C a b) (k : Q (f a b) H) : rI C f (.int a) (.int b) H Q := ⟨a, b, rfl, rfl, h, k⟩
theorem x_rU {f : Int → V} {a : Int} (k : Q (f a) H) : rU f (.int a) H Q := ⟨a, rfl, k⟩
theorem x_eq (h : scal x y = true) (k : Q (.bl (decide (x = y))) H) : rEq x y H Q := ⟨h, k⟩
theorem x_ne (h : scal x y = true) (k : Q (.bl (!decide (x = y))) H) : rNe x y H Q := ⟨h, k⟩
theorem x_eqI {a b : Int} (k : Q (.bl (decide (a = b))) H) : rEq (.int a) (.int b) H Q := ⟨rfl, by
  have e : decide (V.int a = V.int b) = decide (a = b) := by
    by_cases h : a = b
    · rw [decide_eq_true h, decide_eq_true (congrArg V.int h)]
    · rw [decide_eq_false h, decide_eq_false (fun q => h (V.int.inj q))]
  rw [e]; exact k⟩
theorem x_neI {a b : Int} (k : Q (.bl (decide (a ≠ b))) H) : rNe (.int a) (.int b) H Q := ⟨rfl, by
  have e : (!decide (V.int a = V.int b)) = decide (a ≠ b) := by
    by_cases h : a = b
    · rw [decide_eq_false (fun q : a ≠ b => q h), decide_eq_true (congrArg V.int h)]; rfl
    · rw [decide_eq_true h, decide_eq_false (fun q => h (V.int.inj q))]; rfl
  rw [e]; exact k⟩
theorem x_eqS {a b : Str} (k : Q (.bl (decide (a = b))) H) : rEq (.str a) (.str b) H Q := ⟨rfl, by
  have e : decide (V.str a = V.str b) = decide (a = b) := by
    by_cases h : a = b
    · rw [decide_eq_true h, decide_eq_true (congrArg V.str h)]
    · rw [decide_eq_false h, decide_eq_false (fun q => h (V.str.inj q))]
  rw [e]; exact k⟩
theorem x_neS {a b : Str} (k : Q (.bl (decide (a ≠ b))) H) : rNe (.str a) (.str b) H Q := ⟨rfl, by
  have e : (!decide (V.str a = V.str b)) = decide (a ≠ b) := by
    by_cases h : a = b
    · rw [decide_eq_false (fun q : a ≠ b => q h), decide_eq_true (congrArg V.str h)]; rfl
    · rw [decide_eq_true h, decide_eq_false (fun q => h (V.str.inj q))]; rfl
  rw [e]; exact k⟩
theorem x_eqB {a b : Bool} (k : Q (.bl (a == b)) H) : rEq (.bl a) (.bl b) H Q := ⟨rfl, by
  have e : decide (V.bl a = V.bl b) = (a == b) := dec_bl
  rw [e]; exact k⟩
theorem x_neB {a b : Bool} (k : Q (.bl (a != b)) H) : rNe (.bl a) (.bl b) H Q := ⟨rfl, by
  have e : decide (V.bl a = V.bl b) = (a == b) := dec_bl
  rw [e]; exact k⟩
theorem x_neBs {a : Bool} (k : Q (.bl false) H) : rNe (.bl a) (.bl a) H Q := ⟨rfl, by rw [decide_eq_true rfl]; exact k⟩
theorem x_eqBs {a : Bool} (k : Q (.bl true) H) : rEq (.bl a) (.bl a) H Q := ⟨rfl, by rw [decide_eq_true rfl]; exact k⟩
theorem x_gN {R : L2.St → Hp → Prop} (k : R (σ.set i (some v)) H) : gName i v σ H R := k
theorem x_test (k : ta σ H (bQ QB)) : tTest ta σ H QB := k
theorem x_tB (k : ta σ H (bQ QB)) : tB ta σ H QB := k
theorem x_bQ {b : Bool} (k : QB b H) : bQ QB (.bl b) H := ⟨b, rfl, k⟩
theorem x_and (k : c σ H (andQ d σ QB)) : tAnd c d σ H QB := k
theorem x_or (k : c σ H (orQ d σ QB)) : tOr c d σ H QB := k
theorem x_not (k : c σ H (notQ QB)) : tNot c σ H QB := k
theorem x_notQ {b : Bool} (k : QB (!b) H) : notQ QB b H := k
theorem x_andQ {b : Bool} (h1 : b = true → d σ H QB) (h2 : b = false → QB false H) : andQ d σ QB b H := by
  unfold andQ
  cases b with
  | true => exact h1 rfl
  | false => exact h2 rfl
theorem x_orQ {b : Bool} (h1 : b = true → QB true H) (h2 : b = false → d σ H QB) : orQ d σ QB b H := by
  unfold orQ
  cases b with
  | true => exact h1 rfl
  | false => exact h2 rfl
theorem x_ifExp (k : c σ H (iteQ ta tb σ Q)) : tIf c ta tb σ H Q := k
theorem x_iteQ {b : Bool} (h1 : b = true → ta σ H Q) (h2 : b = false → tb σ H Q) : iteQ ta tb σ Q b H := by
  unfold iteQ
  cases b with
  | true => exact h1 rfl
  | false => exact h2 rfl
theorem x_andV (k : ta σ H (andVQ tb σ Q)) : tAndV ta tb σ H Q := k
theorem x_orV (k : ta σ H (orVQ tb σ Q)) : tOrV ta tb σ H Q := k
theorem x_notV (k : ta σ H (notVQ Q)) : tNotV ta σ H Q := k
theorem x_notVQ {b : Bool} (k : Q (.bl (!b)) H) : notVQ Q (.bl b) H := ⟨b, rfl, k⟩
theorem x_andVQ {b : Bool} (h1 : b = true → tb σ H Q) (h2 : b = false → Q (.bl false) H) : andVQ tb σ Q (.bl b) H := by
  refine ⟨b, rfl, ?_⟩
  cases b with
  | true => exact h1 rfl
  | false => exact h2 rfl
theorem x_orVQ {b : Bool} (h1 : b = true → Q (.bl true) H) (h2 : b = false → tb σ H Q) : orVQ tb σ Q (.bl b) H := by
  refine ⟨b, rfl, ?_⟩
  cases b with
  | true => exact h1 rfl
  | false => exact h2 rfl
/-! ### arguments, calls, displays -/
theorem x_nil (k : QA [] H) : tNil σ H QA := k
theorem x_cons (k : te σ H (consQ tr σ QA)) : tCons te tr σ H QA := k
theorem x_consQ (k : tr σ H fun xs H2 => QA (x :: xs) H2) : consQ tr σ QA x H := k
theorem x_call (k : tr σ H (callQ sp Q E)) : tCall sp [] E tr σ H Q := k
theorem x_callQ {vs : List V} (k : sp vs H Q E) : callQ sp Q E vs H := by
  unfold callQ
  rw [List.append_nil]
  exact k
theorem x_cb {q : List V → Hp → VK → Prop} (k : tr σ H (cbQ q Q)) : tCB q tr σ H Q := k
theorem x_cbQ {q : List V → Hp → VK → Prop} {vs : List V} (k : q vs H Q) : cbQ q Q vs H := k
theorem x_lst (k : tr σ H (lstQ Q)) : tLst tr σ H Q := k
theorem x_lstQ {xs : List V} (h : xs.length ≤ sizeLine) (k : ∀ p, H p = none → Q (.ref p) (upd H p (.lst xs))) : lstQ Q xs H := ⟨h, k⟩
theorem x_tup (k : tr σ H (tupQ Q)) : tTup tr σ H Q := k
theorem x_tupQ {xs : List V} (h : xs.length ≤ sizeLine) (k : ∀ p, H p = none → Q (.ref p) (upd H p (.tup xs))) : tupQ Q xs H := ⟨h, k⟩
/-! ### statements -/
theorem x_seq (k : t { D with nx := u D } σ H) : tSeq t u D σ H := k
theorem x_next (k : D.nx σ H) : tNext D σ H := k
theorem x_asg (k : te σ H (asgQ g D σ)) : tAsg te g D σ H := k
theorem x_asgN (k : D.nx (σ.set i (some x)) H) : asgQ (gName i) D σ x H := k
theorem x_drop (k : te σ H (dropQ D σ)) : tDrop te D σ H := k
theorem x_dropQ (k : D.nx σ H) : dropQ D σ x H := k
theorem x_ret (k : te σ H D.rt) : tRet te D σ H := k
theorem x_retN (k : D.rt .non H) : tRetN D σ H := k
theorem x_if (k : c σ H (ifQ t u D σ)) : tIfS c t u D σ H := k
theorem x_ifQ {b : Bool} (h1 : b = true → t D σ H) (h2 : b = false → u D σ H) : ifQ t u D σ b H := by
  unfold ifQ
  cases b with
  | true => exact h1 rfl
  | false => exact h2 rfl
theorem x_cont (k : D.ct σ H) : tCont D σ H := k
theorem x_break (k : D.bk σ H) : tBreak D σ H := k
end

/-! ### rules by names of their own -/
def rLen (K : PySem.W.Frag) : List V → Hp → VK → Prop := fun xs H Q => ∃ p ys, xs = [.ref p] ∧ (SqL K H p ys ∨ SqT K H p ys) ∧ Q (.int ys.length) H
def rLenStr : List V → Hp → VK → Prop := fun xs H Q => ∃ z, xs = [.str z] ∧ z.length ≤ sizeLine ∧ Q (.int z.length) H
def rListOf (K : PySem.W.Frag) : List V → Hp → VK → Prop := fun xs H Q => ∃ p ys, xs = [.ref p] ∧ (SqL K H p ys ∨ SqT K H p ys) ∧ ∀ l, H l = none → Q (.ref l) (upd H l (.lst ys))
def rTupOf (K : PySem.W.Frag) : List V → Hp → VK → Prop := fun xs H Q => ∃ p ys, xs = [.ref p] ∧ ((SqL K H p ys ∧ ∀ l, H l = none → Q (.ref l) (upd H l (.tup ys))) ∨ (SqT K H p ys ∧ Q (.ref p) H))
def rIntOf : List V → Hp → VK → Prop := fun xs H Q => (∃ i, xs = [.int i] ∧ Q (.int i) H) ∨ ∃ k, xs = [.bl k] ∧ Q (.int (if k then 1 else 0)) H
def rMin2 : List V → Hp → VK → Prop := fun xs H Q => ∃ i j, xs = [.int i, .int j] ∧ Q (.int (if j < i then j else i)) H
def rMax2' : List V → Hp → VK → Prop := fun xs H Q => ∃ i j, xs = [.int i, .int j] ∧ Q (.int (if j > i then j else i)) H
def rAddS : R2 := fun x y H Q => ∃ i j, x = .str i ∧ y = .str j ∧ i.length + j.length ≤ sizeLine ∧ Q (.str (i ++ j)) H
def rIsN : R2 := fun x y H Q => y = .non ∧ Q (.bl (decide (x = .non))) H
def rNotN : R2 := fun x y H Q => y = .non ∧ Q (.bl (!decide (x = .non))) H
section
variable {X : Cx}
theorem g_len : CallR X (.builtin "len") (rLen X.K) := call_len_seq
theorem g_lenS : CallR X (.builtin "len") rLenStr := call_len_str
theorem g_list : CallR X (.type "list") (rListOf X.K) := call_list_of
theorem g_tuple : CallR X (.type "tuple") (rTupOf X.K) := call_tuple_of
theorem g_int : CallR X (.type "int") rIntOf := call_int1
theorem g_min (hc : X.calm = true) : CallR X (.builtin "min") rMin2 := call_min2 hc
theorem g_max (hc : X.calm = true) : CallR X (.builtin "max") rMax2' := call_max2 hc
theorem g_isN : OpR X (compareOp .Is) rIsN := op_isN
theorem g_notN : OpR X (compareOp .IsNot) rNotN := op_notN
theorem op_addS : OpR X (binaryOp .Add) rAddS := op_add_str
theorem op_mulB : OpR X (binaryOp .Mult) (rI CMulX fun i j => .int (i * j)) := op_mulX
theorem op_shlB : OpR X (binaryOp .LShift) (rI CShl fun i j => .int (i * 2 ^ j.toNat)) := op_shlW
end
section
variable {K : PySem.W.Frag} {σ : L2.St} {H H1 : Hp} {Q : VK} {p : Addr} {xs : List V}
theorem x_lenL (h : SqL K H p xs) (k : Q (.int xs.length) H) : rLen K [.ref p] H Q := ⟨p, xs, rfl, .inl h, k⟩
theorem x_lenT (h : SqT K H p xs) (k : Q (.int xs.length) H) : rLen K [.ref p] H Q := ⟨p, xs, rfl, .inr h, k⟩
theorem x_lenS {z : Str} (h : z.length ≤ sizeLine) (k : Q (.int z.length) H) : rLenStr [.str z] H Q := ⟨z, rfl, h, k⟩
theorem x_listL (h : SqL K H p xs) (k : ∀ l, H l = none → Q (.ref l) (upd H l (.lst xs))) : rListOf K [.ref p] H Q := ⟨p, xs, rfl, .inl h, k⟩
theorem x_listT (h : SqT K H p xs) (k : ∀ l, H l = none → Q (.ref l) (upd H l (.lst xs))) : rListOf K [.ref p] H Q := ⟨p, xs, rfl, .inr h, k⟩
theorem x_tupL (h : SqL K H p xs) (k : ∀ l, H l = none → Q (.ref l) (upd H l (.tup xs))) : rTupOf K [.ref p] H Q := ⟨p, xs, rfl, .inl ⟨h, k⟩⟩
theorem x_tupT (h : SqT K H p xs) (k : Q (.ref p) H) : rTupOf K [.ref p] H Q := ⟨p, xs, rfl, .inr ⟨h, k⟩⟩
theorem x_intB {b : Bool} (k : Q (.int (if b then 1 else 0)) H) : rIntOf [.bl b] H Q := .inr ⟨b, rfl, k⟩
theorem x_intI {i : Int} (k : Q (.int i) H) : rIntOf [.int i] H Q := .inl ⟨i, rfl, k⟩
theorem x_min {i j : Int} (k : Q (.int (if j < i then j else i)) H) : rMin2 [.int i, .int j] H Q := ⟨i, j, rfl, k⟩
theorem x_max {i j : Int} (k : Q (.int (if j > i then j else i)) H) : rMax2' [.int i, .int j] H Q := ⟨i, j, rfl, k⟩
theorem x_addS {i j : Str} (h : i.length + j.length ≤ sizeLine) (k : Q (.str (i ++ j)) H) : rAddS (.str i) (.str j) H Q := ⟨i, j, rfl, rfl, h, k⟩
theorem x_ixL {i : Int} {v : V} (h : SqL K H p xs) (ha : atI xs i = some v) (k : Q v H) : rIxL K (.ref p) (.int i) H Q := ⟨p, xs, i, v, rfl, rfl, h, ha, k⟩
theorem x_ixT {i : Int} {v : V} (h : SqT K H p xs) (ha : atI xs i = some v) (k : Q v H) : rIxT K (.ref p) (.int i) H Q := ⟨p, xs, i, v, rfl, rfl, h, ha, k⟩
theorem x_slL {lo hi : Option Int} (h : SqL K H p xs) (k : ∀ l, H l = none → Q (.ref l) (upd H l (.lst (cutV xs lo hi)))) : rSlL K (.ref p) lo hi H Q := ⟨p, xs, rfl, h, k⟩
theorem x_all {bs : List Bool} (h : SqL K H p (bs.map V.bl)) (k : Q (.bl (bs.all id)) H) : rAll K [.ref p] H Q := ⟨p, bs, rfl, h, k⟩
theorem x_allMap {n : Nat} {g : Nat → Bool} (h : H p = some (.lst ((List.range n).map fun i => V.bl (g i)))) (k : Q (.bl ((List.range n).all g)) H) : rAll K [.ref p] H Q :=
  ⟨p, (List.range n).map g, rfl, SqL.of (by rw [h, List.map_map]; rfl), by
    have e : ((List.range n).map g).all id = (List.range n).all g := by rw [List.all_map]; rfl
    rw [e]; exact k⟩
theorem x_anyMap {n : Nat} {g : Nat → Bool} (h : H p = some (.lst ((List.range n).map fun i => V.bl (g i)))) (k : Q (.bl ((List.range n).any g)) H) : rAny K [.ref p] H Q :=
  ⟨p, (List.range n).map g, rfl, SqL.of (by rw [h, List.map_map]; rfl), by
    have e : ((List.range n).map g).any id = (List.range n).any g := by rw [List.any_map]; rfl
    rw [e]; exact k⟩
theorem x_sumMap {n : Nat} {g : Nat → Int} (h : H p = some (.lst ((List.range n).map fun i => V.int (g i)))) (k : Q (.int ((List.range n).map g).sum) H) : rSum K [.ref p] H Q :=
  ⟨p, (List.range n).map g, rfl, SqL.of (by rw [h, List.map_map]; rfl), k⟩
theorem x_any {bs : List Bool} (h : SqL K H p (bs.map V.bl)) (k : Q (.bl (bs.any id)) H) : rAny K [.ref p] H Q := ⟨p, bs, rfl, h, k⟩
theorem x_sum {ns : List Int} (h : SqL K H p (ns.map V.int)) (k : Q (.int ns.sum) H) : rSum K [.ref p] H Q := ⟨p, ns, rfl, h, k⟩
theorem x_isN {x : V} (k : Q (.bl (decide (x = .non))) H) : rIsN x .non H Q := ⟨rfl, k⟩
theorem x_notN {x : V} (k : Q (.bl (!decide (x = .non))) H) : rNotN x .non H Q := ⟨rfl, k⟩
theorem x_isNN (k : Q (.bl true) H) : rIsN .non .non H Q := ⟨rfl, k⟩
theorem x_isNI {i : Int} (k : Q (.bl false) H) : rIsN (.int i) .non H Q := ⟨rfl, k⟩
theorem x_isNB {i : Bool} (k : Q (.bl false) H) : rIsN (.bl i) .non H Q := ⟨rfl, k⟩
theorem x_isNS {i : Str} (k : Q (.bl false) H) : rIsN (.str i) .non H Q := ⟨rfl, k⟩
theorem x_isNR {i : Addr} (k : Q (.bl false) H) : rIsN (.ref i) .non H Q := ⟨rfl, k⟩
theorem x_notNN (k : Q (.bl false) H) : rNotN .non .non H Q := ⟨rfl, k⟩
theorem x_notNR {i : Addr} (k : Q (.bl true) H) : rNotN (.ref i) .non H Q := ⟨rfl, k⟩
/-- a method of a list: the receiver, the arguments, the rule -/
def bmQ (K : PySem.W.Frag) (T : String) (r : V → List V → Hp → VK → Prop) (t : TA) (σ : L2.St) (Q : VK) : VK := fun x H1 => tyV K T x H1 ∧ t σ H1 fun xs H2 => r x xs H2 Q
def bmQ2 (r : V → List V → Hp → VK → Prop) (x : V) (Q : VK) : List V → Hp → Prop := fun xs H2 => r x xs H2 Q
theorem x_bm {r : V → List V → Hp → VK → Prop} {T : String} {to : TE} {t : TA} (k : to σ H (bmQ K T r t σ Q)) : tBM K T r to t σ H Q := k
theorem x_bmL {r : V → List V → Hp → VK → Prop} {t : TA} (h : SqL K H p xs) (k : t σ H (bmQ2 r (.ref p) Q)) : bmQ K "list" r t σ Q (.ref p) H := ⟨.inl ⟨rfl, _, h⟩, k⟩
theorem x_bmQ2 {r : V → List V → Hp → VK → Prop} {x : V} {vs : List V} (k : r x vs H Q) : bmQ2 r x Q vs H := k
theorem x_append {y : V} (h : H p = some (.lst xs)) (hz : xs.length < sizeLine) (k : Q .non (upd H p (.lst (xs ++ [y])))) : rAppend (.ref p) [y] H Q := ⟨p, xs, y, rfl, rfl, h, hz, k⟩
def bm0Q (K : PySem.W.Frag) (T : String) (r : V → List V → Hp → VK → Prop) (Q : VK) : VK := fun x H1 => tyV K T x H1 ∧ r x [] H1 Q
theorem x_bm0 {r : V → List V → Hp → VK → Prop} {T : String} {to : TE} (k : to σ H (bm0Q K T r Q)) : tBM0 K T r to σ H Q := k
theorem x_bm0L {r : V → List V → Hp → VK → Prop} (h : SqL K H p xs) (k : r (.ref p) [] H Q) : bm0Q K "list" r Q (.ref p) H := ⟨.inl ⟨rfl, _, h⟩, k⟩
theorem x_reverse (h : H p = some (.lst xs)) (k : Q .non (upd H p (.lst xs.reverse))) : rReverse (.ref p) [] H Q := ⟨p, xs, rfl, rfl, h, k⟩
theorem x_cat {q : Addr} {ys : List V} (h : H p = some (.lst xs)) (h2 : H q = some (.lst ys)) (hz : xs.length + ys.length ≤ sizeLine) (k : ∀ l, H l = none → Q (.ref l) (upd H l (.lst (xs ++ ys)))) : rCat (.ref p) (.ref q) H Q := ⟨p, q, xs, ys, rfl, rfl, h, h2, hz, k⟩
theorem x_rep {n : Int} (h : H p = some (.lst xs)) (h1 : -(2 ^ 63) ≤ n) (h2 : n < 2 ^ 63) (hz : xs.length * n.toNat ≤ sizeLine) (k : ∀ l, H l = none → Q (.ref l) (upd H l (.lst (List.replicate n.toNat xs).flatten))) : rRep (.ref p) (.int n) H Q := ⟨p, n, xs, rfl, rfl, h, h1, h2, hz, k⟩
/-- chains -/
def chQ3 (r' : R2) (y : V) (tc : TE) (σ : L2.St) (Q : VK) : VK := fun z H3 => ∃ k, z = .bl k ∧ (if k = true then tc σ H3 (opQ2 r' y Q) else Q (.bl false) H3)
def chQ2 (r r' : R2) (tc : TE) (σ : L2.St) (x : V) (Q : VK) : VK := fun y H2 => r x y H2 (chQ3 r' y tc σ Q)
def chQ1 (r r' : R2) (tb tc : TE) (σ : L2.St) (Q : VK) : VK := fun x H1 => tb σ H1 (chQ2 r r' tc σ x Q)
theorem x_chain {r r' : R2} {ta tb tc : TE} (k : ta σ H (chQ1 r r' tb tc σ Q)) : tChain r r' ta tb tc σ H Q := k
theorem x_chQ1 {r r' : R2} {tb tc : TE} {x : V} (k : tb σ H (chQ2 r r' tc σ x Q)) : chQ1 r r' tb tc σ Q x H := k
theorem x_chQ2 {r r' : R2} {tc : TE} {x y : V} (k : r x y H (chQ3 r' y tc σ Q)) : chQ2 r r' tc σ x Q y H := k
theorem x_chQ3 {r' : R2} {tc : TE} {y : V} {b : Bool} (h1 : b = true → tc σ H (opQ2 r' y Q)) (h2 : b = false → Q (.bl false) H) : chQ3 r' y tc σ Q (.bl b) H := by
  refine ⟨b, rfl, ?_⟩
  cases b with
  | true => exact h1 rfl
  | false => exact h2 rfl
/-- slices -/
def slQ1 (r : V → Option Int → Option Int → Hp → VK → Prop) (tl th : TO) (σ : L2.St) (Q : VK) : VK := fun x H1 => tl σ H1 fun l H2 => th σ H2 fun u H3 => r x l u H3 Q
def slQ2 (r : V → Option Int → Option Int → Hp → VK → Prop) (th : TO) (σ : L2.St) (Q : VK) (x : V) : Option Int → Hp → Prop := fun l H2 => th σ H2 fun u H3 => r x l u H3 Q
def slQ3 (r : V → Option Int → Option Int → Hp → VK → Prop) (Q : VK) (x : V) (l : Option Int) : Option Int → Hp → Prop := fun u H3 => r x l u H3 Q
def ptQ (R : Option Int → Hp → Prop) : VK := fun x H1 => ∃ i, x = .int i ∧ R (some i) H1
theorem x_sl {r : V → Option Int → Option Int → Hp → VK → Prop} {te : TE} {tl th : TO} (k : te σ H (slQ1 r tl th σ Q)) : tSl r te tl th σ H Q := k
theorem x_slQ1 {r : V → Option Int → Option Int → Hp → VK → Prop} {tl th : TO} {x : V} (k : tl σ H (slQ2 r th σ Q x)) : slQ1 r tl th σ Q x H := k
theorem x_slQ2 {r : V → Option Int → Option Int → Hp → VK → Prop} {th : TO} {x : V} {l : Option Int} (k : th σ H (slQ3 r Q x l)) : slQ2 r th σ Q x l H := k
theorem x_slQ3 {r : V → Option Int → Option Int → Hp → VK → Prop} {x : V} {l u : Option Int} (k : r x l u H Q) : slQ3 r Q x l u H := k
theorem x_noPart {R : Option Int → Hp → Prop} (k : R none H) : tNoPart σ H R := k
theorem x_part {t : TE} {R : Option Int → Hp → Prop} (k : t σ H (ptQ R)) : tPart t σ H R := k
theorem x_ptQ {R : Option Int → Hp → Prop} {i : Int} (k : R (some i) H) : ptQ R (.int i) H := ⟨i, rfl, k⟩
/-- stores into a list -/
def gsQ1 (ti : TE) (t : TSet) (σ : L2.St) (v : V) (R : Hp → Prop) : VK := fun o H1 => ti σ H1 fun i H2 => t o i v H2 R
def gsQ2 (t : TSet) (o v : V) (R : Hp → Prop) : VK := fun i H2 => t o i v H2 R
theorem x_asgS {to ti : TE} {t : TSet} {D : Ends} {v : V} (k : to σ H (gsQ1 ti t σ v (D.nx σ))) : asgQ (gSub to ti t) D σ v H := k
theorem x_gsQ1 {ti : TE} {t : TSet} {o v : V} {R : Hp → Prop} (k : ti σ H (gsQ2 t o v R)) : gsQ1 ti t σ v R o H := k
theorem x_gsQ2 {t : TSet} {o i v : V} {R : Hp → Prop} (k : t o i v H R) : gsQ2 t o v R i H := k
theorem x_setL {i : Int} {j : Nat} {v : V} {R : Hp → Prop} (h : H p = some (.lst xs)) (hj : ixN xs.length i = some j) (k : R (upd H p (.lst (xs.set j v)))) : rSetL (.ref p) (.int i) v H R := ⟨p, xs, i, j, rfl, rfl, h, hj, k⟩
/-- a, b = a tuple -/
theorem x_asgT {n : Nat} {ts : TGs} {D : Ends} (h : SqT K H p xs) (hn : xs.length = n) (k : ts xs σ H D.nx) : asgQ (gTup K n ts) D σ (.ref p) H := ⟨p, xs, rfl, h, hn, k⟩
theorem x_gNil {R : L2.St → Hp → Prop} (k : R σ H) : gNil [] σ H R := ⟨rfl, k⟩
theorem x_gCons {i : Nat} {v : V} {vs : List V} {u : TGs} {R : L2.St → Hp → Prop} (k : u vs (σ.set i (some v)) H R) : gCons (gName i) u (v :: vs) σ H R := ⟨v, vs, rfl, k⟩
/-- a, b = x, y -/
def parQ (i j : Nat) (D : Ends) (σ : L2.St) : List V → Hp → Prop := fun vs H1 => ∃ v w, vs = [v, w] ∧ D.nx ((σ.set i (some v)).set j (some w)) H1
theorem x_par {i j : Nat} {ta : TA} {D : Ends} (k : ta σ H (parQ i j D σ)) : tPar i j ta D σ H := k
theorem x_parQ {i j : Nat} {v w : V} {D : Ends} (k : D.nx ((σ.set i (some v)).set j (some w)) H) : parQ i j D σ [v, w] H := ⟨v, w, rfl, k⟩
/-! ### loops and comprehensions, over anything that is walked -/
def forQ (g : TG) (tb : TS) (D : Ends) (σ : L2.St) : It → Hp → Prop := fun J H1 => ∃ W : Nat → Nat → L2.St → Hp → Prop, (∃ m, W 0 m σ H1) ∧ ∀ i m σ H, W i m σ H →
  (J.stop i H ∧ D.nx σ H) ∨ (J.go i H ∧ ∃ N : L2.St → Hp → Prop, (∀ σ' H', N σ' H' → ∃ m', m' < m ∧ W (i + 1) m' σ' H') ∧ ∀ x H', J.yld i H x H' → g x σ H' fun σ2 H2 => tb { D with nx := N, ct := N, bk := D.nx } σ2 H2)
def tgQ (tb : TS) (N : L2.St → Hp → Prop) (D : Ends) : L2.St → Hp → Prop := fun σ2 H2 => tb { D with nx := N, ct := N, bk := D.nx } σ2 H2
def lcQ (g : TG) (tt : TT) (te : TE) (vs : List Nat) (σ : L2.St) (Q : VK) : It → Hp → Prop := fun J H1 => ∀ D, H1 D = none → ∃ W : Nat → Nat → Hp → Prop, (∃ m, W 0 m (upd H1 D (.lst []))) ∧ ∀ i m H, W i m H →
  (J.stop i H ∧ Q (.ref D) H) ∨ (J.go i H ∧ ∃ Nx : Hp → Prop, (∀ H', Nx H' → ∃ m', m' < m ∧ W (i + 1) m' H') ∧ ∀ x H', J.yld i H x H' → g x (wipe σ vs) H' fun σ2 H2 => wipe σ2 vs = wipe σ vs ∧ tt σ2 H2 fun b H3 =>
    if b = true then te σ2 H3 fun y H4 => ∃ acc, H4 D = some (.lst acc) ∧ acc.length < sizeLine ∧ Nx (upd H4 D (.lst (acc ++ [y]))) else Nx H3)
/-- behind a comprehension's element: it goes into the list at D -/
def eltQ (D : Addr) (Nx : Hp → Prop) : VK := fun y H4 => ∃ acc, H4 D = some (.lst acc) ∧ acc.length < sizeLine ∧ Nx (upd H4 D (.lst (acc ++ [y])))
def ttQ (te : TE) (D : Addr) (Nx : Hp → Prop) (σ2 : L2.St) : Bool → Hp → Prop := fun b H3 => if b = true then te σ2 H3 (eltQ D Nx) else Nx H3
def lcTg (tt : TT) (te : TE) (vs : List Nat) (σ : L2.St) (D : Addr) (Nx : Hp → Prop) : L2.St → Hp → Prop := fun σ2 H2 => wipe σ2 vs = wipe σ vs ∧ tt σ2 H2 (ttQ te D Nx σ2)
def iLQ (K : PySem.W.Frag) (R : It → Hp → Prop) : VK := fun x H1 => ∃ a, x = .ref a ∧ (∃ xs, SqL K H1 a xs) ∧ R (Itl K a) H1
def iTQ (K : PySem.W.Frag) (R : It → Hp → Prop) : VK := fun x H1 => ∃ a, x = .ref a ∧ (∃ xs, SqT K H1 a xs) ∧ R (Itt K a) H1
def iRQ (R : It → Hp → Prop) : List V → Hp → Prop := fun vs H1 => ∃ j : Int, vs = [.int j] ∧ -(2 ^ 62) ≤ j ∧ j < 2 ^ 62 ∧ R (Itr 0 j.toNat) H1
def iR2Q (R : It → Hp → Prop) : List V → Hp → Prop := fun vs H1 => ∃ i j : Int, vs = [.int i, .int j] ∧ (-(2 ^ 62) ≤ i ∧ i < 2 ^ 62 ∧ -(2 ^ 62) ≤ j ∧ j < 2 ^ 62) ∧ R (Itr i (j - i).toNat) H1
def iZQ (K : PySem.W.Frag) (R : It → Hp → Prop) : List V → Hp → Prop := fun vs H1 => ∃ a b xs ys, vs = [.ref a, .ref b] ∧ SqL K H1 a xs ∧ SqL K H1 b ys ∧ R (Itz K a b) H1
def iEQ (K : PySem.W.Frag) (R : It → Hp → Prop) : List V → Hp → Prop := fun vs H1 => ∃ a xs, vs = [.ref a] ∧ SqL K H1 a xs ∧ R (Ite K a) H1
section
variable {wi : TI} {g : TG} {tb : TS} {D : Ends} {J : It} {n : Nat} {G : Hp → Prop} {Y : Nat → Hp → V → Hp → Prop} {R : It → Hp → Prop} {tt : TT} {te : TE} {vs : List Nat}
theorem x_for (k : wi σ H (forQ g tb D σ)) : tFor wi g tb D σ H := k
theorem x_forQ (w : Walk J n G Y) (Pv : Nat → L2.St → Hp → Prop) (h0 : Pv 0 σ H) (hG : ∀ i σ H, i ≤ n → Pv i σ H → G H)
    (hs : ∀ i x σ H H', i < n → Pv i σ H → Y i H x H' → g x σ H' (tgQ tb (Pv (i + 1)) D)) (hd : ∀ σ H, Pv n σ H → D.nx σ H) : forQ g tb D σ J H := for_it w Pv h0 hG hs hd
theorem x_tgN {i : Nat} {v : V} {N : L2.St → Hp → Prop} (k : tb { D with nx := N, ct := N, bk := D.nx } (σ.set i (some v)) H) : gName i v σ H (tgQ tb N D) := k
theorem x_tgQ {N : L2.St → Hp → Prop} (k : tb { D with nx := N, ct := N, bk := D.nx } σ H) : tgQ tb N D σ H := k
theorem x_gTup {m : Nat} {ts : TGs} {S : L2.St → Hp → Prop} (h : SqT K H p xs) (hn : xs.length = m) (k : ts xs σ H S) : gTup K m ts (.ref p) σ H S := ⟨p, xs, rfl, h, hn, k⟩
theorem x_lc (k : wi σ H (lcQ g tt te vs σ Q)) : tLc wi g tt te vs σ H Q := k
theorem x_lcQ (w : Walk J n G Y) (Pv : Addr → Nat → Hp → Prop) (h0 : ∀ D, H D = none → Pv D 0 (upd H D (.lst []))) (hG : ∀ D i H, i ≤ n → Pv D i H → G H)
    (hs : ∀ D i x H H', i < n → Pv D i H → Y i H x H' → g x (wipe σ vs) H' (lcTg tt te vs σ D (Pv D (i + 1)))) (hd : ∀ D H, Pv D n H → Q (.ref D) H) : lcQ g tt te vs σ Q J H :=
  fun D hD => lc_it w (Pv D) (h0 D hD) (hG D) (hs D) (hd D)
theorem x_lcTgN {i : Nat} {v : V} {Dl : Addr} {Nx : Hp → Prop} (hw : wipe ((wipe σ vs).set i (some v)) vs = wipe σ vs) (k : tt ((wipe σ vs).set i (some v)) H (ttQ te Dl Nx ((wipe σ vs).set i (some v)))) : gName i v (wipe σ vs) H (lcTg tt te vs σ Dl Nx) := ⟨hw, k⟩
theorem x_lcTg {σ2 : L2.St} {Dl : Addr} {Nx : Hp → Prop} (hw : wipe σ2 vs = wipe σ vs) (k : tt σ2 H (ttQ te Dl Nx σ2)) : lcTg tt te vs σ Dl Nx σ2 H := ⟨hw, k⟩
theorem x_tYes {QB : Bool → Hp → Prop} (k : QB true H) : tYes σ H QB := k
theorem x_ttT {Dl : Addr} {Nx : Hp → Prop} (k : te σ H (eltQ Dl Nx)) : ttQ te Dl Nx σ true H := k
theorem x_ttQ {b : Bool} {Dl : Addr} {Nx : Hp → Prop} (h1 : b = true → te σ H (eltQ Dl Nx)) (h2 : b = false → Nx H) : ttQ te Dl Nx σ b H := by
  unfold ttQ
  cases b with
  | true => exact h1 rfl
  | false => exact h2 rfl
theorem x_elt {Dl : Addr} {Nx : Hp → Prop} {acc : List V} {y : V} (h : H Dl = some (.lst acc)) (hz : acc.length < sizeLine) (k : Nx (upd H Dl (.lst (acc ++ [y])))) : eltQ Dl Nx y H := ⟨acc, h, hz, k⟩
theorem x_iL {tl : TE} (k : tl σ H (iLQ K R)) : iList K tl σ H R := k
theorem x_iLQ (h : SqL K H p xs) (k : R (Itl K p) H) : iLQ K R (.ref p) H := ⟨p, rfl, ⟨xs, h⟩, k⟩
theorem x_iT {tl : TE} (k : tl σ H (iTQ K R)) : iTup K tl σ H R := k
theorem x_iTQ (h : SqT K H p xs) (k : R (Itt K p) H) : iTQ K R (.ref p) H := ⟨p, rfl, ⟨xs, h⟩, k⟩
theorem x_iR {ta : TA} (k : ta σ H (iRQ R)) : iRng1 ta σ H R := k
theorem x_iRQ {j : Int} (h1 : -(2 ^ 62) ≤ j) (h2 : j < 2 ^ 62) (k : R (Itr 0 j.toNat) H) : iRQ R [.int j] H := ⟨j, rfl, h1, h2, k⟩
theorem x_iR2 {ta : TA} (k : ta σ H (iR2Q R)) : iRng2 ta σ H R := k
theorem x_iR2Q {i j : Int} (h : -(2 ^ 62) ≤ i ∧ i < 2 ^ 62 ∧ -(2 ^ 62) ≤ j ∧ j < 2 ^ 62) (k : R (Itr i (j - i).toNat) H) : iR2Q R [.int i, .int j] H := ⟨i, j, rfl, h, k⟩
theorem x_iZ {ta : TA} (k : ta σ H (iZQ K R)) : iZip K ta σ H R := k
theorem x_iZQ {q : Addr} {ys : List V} (h : SqL K H p xs) (h2 : SqL K H q ys) (k : R (Itz K p q) H) : iZQ K R [.ref p, .ref q] H := ⟨p, q, xs, ys, rfl, h, h2, k⟩
theorem x_iE {ta : TA} (k : ta σ H (iEQ K R)) : iEnum K ta σ H R := k
theorem x_iEQ (h : SqL K H p xs) (k : R (Ite K p) H) : iEQ K R [.ref p] H := ⟨p, xs, rfl, h, k⟩
/-- a comprehension whose elements are the values f i, nothing else changed but by growth -/
theorem x_lcMap (w : Walk J n G Y) (f : Nat → V) (hn : n ≤ sizeLine) (hG : ∀ H', Ex H H' → G H')
    (hs : ∀ D i x H1 H2 (Nx : Hp → Prop), i < n → Ex H H1 → Y i H1 x H2 → (∀ H3, Ex H2 H3 → eltQ D Nx (f i) H3) → g x (wipe σ vs) H2 (lcTg tt te vs σ D Nx)) 
    (hY : ∀ i x H1 H2, i < n → Ex H H1 → Y i H1 x H2 → Ex H1 H2)
    (hd : ∀ D H', H D = none → Ex H H' → H' D = some (.lst ((List.range n).map f)) → Q (.ref D) H') : lcQ g tt te vs σ Q J H := by
  refine x_lcQ w (fun D i H' => H D = none ∧ Ex H H' ∧ H' D = some (.lst ((List.range i).map f))) (fun D hD => ⟨hD, Ex.new hD, upd_same⟩) (fun D i H' _ p => hG H' p.2.1) (fun D i x H1 H2 hi p y => ?_) (fun D H' p => hd D H' p.1 p.2.1 p.2.2)
  obtain ⟨hD, e1, h1⟩ := p
  have e2 := hY i x H1 H2 hi e1 y
  refine hs D i x H1 H2 _ hi e1 y fun H3 e3 => ?_
  refine ⟨(List.range i).map f, e3 _ _ (e2 _ _ h1), by rw [List.length_map, List.length_range]; omega, hD, Ex.mut ((e1.trans e2).trans e3) hD, ?_⟩
  rw [upd_same, List.range_succ, List.map_append]
  rfl
end
end
/-- range(n), range(a, n) by their turns -/
theorem walk_r0 {n : Nat} : Walk (Itr 0 n) n (fun _ => True) (fun i H x H' => H' = H ∧ x = .int (i : Int)) :=
  walk_range.mono (fun _ h => h) fun i H x H' _ _ y => ⟨y.1, by rw [y.2]; show V.int (0 + (i : Int)) = V.int (i : Int); rw [Int.zero_add]⟩
theorem walk_ra {a : Int} {n : Nat} : Walk (Itr a n) n (fun _ => True) (fun i H x H' => H' = H ∧ x = .int (a + (i : Int))) :=
  walk_range.mono (fun _ h => h) fun i H x H' _ _ y => ⟨y.1, y.2⟩
/-! ### a def of the program, ready to be called -/
structure Dn (P : Program) (w : World) (K : PySem.W.Frag) (mg : Str → Option Value) (base : Heap) (CX : CXT) (k : Nat) (x : Str) (ps : List Str) (sp : Sp) : Prop where
  ex : ∃ f fd, FnOk P w K mg base CX k f fd ps sp ∧ mg x = some (.ref f) ∧ PySem.W.keepIn K (.ref f) = true ∧ Binds K fd ps []
structure Df (K : PySem.W.Frag) (mg : Str → Option Value) (x : Str) (st : Stmt) : Prop where
  ex : ∃ f fd, Fun K x x st f fd ∧ mg x = some (.ref f)
theorem Dn.up {P : Program} {w : World} {K : PySem.W.Frag} {mg : Str → Option Value} {base : Heap} {CX : CXT} {k : Nat} {x : Str} {ps : List Str} {sp : Sp} (D : Dn P w K mg base CX k x ps sp) : Dn P w K mg base CX k x ps sp := D
section
variable {X : Cx} {CX : CXT} {k : Nat} {ps : List Str} {sp : Sp} {E : XK} {x : Str} {p pos : Pos} {e : Expr} {es : List Expr} {t : TA}
theorem pe_dn (D : Dn X.prog X.w X.K X.mg X.base CX k x ps sp) (hr : Room k X.A) (hx : Passes CX X E) (ha : PA X (e :: es) t) (hg : Gl X x := by rfl)
    (hdb : (x == ("__debug__" : Str)) = false := by decide) (he : starEach (e :: es) X.env = (false, eval e X.env) :: starEach es X.env := by rfl) (hpl : (backTo pos (starEach es X.env)).any (·.1) = false := by rfl) :
    PE X (.Call (.Name x p) (e :: es) [] pos) (tCall sp [] E t) := by
  obtain ⟨f, fd, F, hm, hk, hb⟩ := D.ex
  exact pe_call F hr hg hm hk hb .nil hx ha hdb he hpl
theorem pe_dn0 (D : Dn X.prog X.w X.K X.mg X.base CX k x ps sp) (hr : Room k X.A) (hx : Passes CX X E) (hg : Gl X x := by rfl)
    (hdb : (x == ("__debug__" : Str)) = false := by decide) : PE X (.Call (.Name x p) [] [] pos) (tCall sp [] E tNil) := by
  obtain ⟨f, fd, F, hm, hk, hb⟩ := D.ex
  exact pe_call0 F hr hg hm hk hb .nil hx hdb
/-- a number of the module -/
def Ci (mg : Str → Option Value) (x : Str) (n : Int) : Prop := ∃ t, mg x = some (.int n t)
theorem pe_cst {n : Int} (c : Ci X.mg x n) (hg : Gl X x := by rfl) (hd : (x == ("__debug__" : Str)) = false := by decide) : PE X (.Name x pos) (tC (.int n)) := by
  obtain ⟨t, h⟩ := c
  exact pe_glob hg h ⟨t, rfl⟩ hd
end
section
variable {P : Program} {w : World} {K : PySem.W.Frag} {mg : Str → Option Value} {base : Heap}
/-- a def of the text by its body, no exception leaving it -/
theorem Df.dn {x : Str} {st : Stmt} {N ps : List Str} {k : Nat} {sp : Sp} (F : Df K mg x st) (S : FnScope N ps (defScope st))
    (hb : ∀ (kV doc pm : Value) (an : Option Addr) (cdv ct : Value) (us : List Value), us.length = ps.length → bindArgs (PySem.W.fnOf x x (defArgs st) (defBody st) (defScope st) .none kV doc pm an cdv ct) ⟨us, []⟩ = pure (ps.zip us))
    (len : ∀ vs H Q E, sp vs H Q E → vs.length = ps.length)
    (hbody : ∀ (f : Addr) (cdv : Value) (A : Around) (outer : List Env) (s : Shared) (H : Hp) (vs : List V) (Q : VK) (E : XK), Room k (A.deeper (envOfC x (defScope st) s.heap.objs.size f cdv)) → (cxOf CX0 P w K mg base N x (defScope st) f cdv A outer s H E).nox.K = K → sp vs H Q E →
      ∃ t, PSs (cxOf CX0 P w K mg base N x (defScope st) f cdv A outer s H E).nox (defBody st) t ∧ t { nx := fun _ H' => Q .non H', rt := Q } (start N vs) H) : Dn P w K mg base CX0 (k + 1) x ps sp := by
  obtain ⟨f, fd, F, hm⟩ := F.ex
  exact ⟨f, fd, F.ok S len (fun cdv A outer s H vs Q E hr h => hbody f cdv A outer s H vs Q E hr rfl h), hm, F.kp, F.binds hb⟩
end
/-! ### numbers -/
theorem cdiv_of {i j : Int} (h0 : 0 < j) (h : j < 2 ^ 64) : CDivW i j := wide_div (b := 64) h0 (by omega) (by decide) (by decide)
theorem mulx_of {i j : Int} (h1 : -(2 ^ 64) < i) (h2 : i < 2 ^ 64) (h3 : -(2 ^ 64) < j) (h4 : j < 2 ^ 64) : CMulX i j := mulx_ok (a := 64) (b := 64) (by omega) (by omega) (by decide)
theorem bits_of {i : Int} (h1 : -(2 ^ 64) < i) (h2 : i < 2 ^ 64) : Builtin.Int.intBits i ≤ 1048576 := by
  have z := PySem.Flt.log2_lt_of (k := 64) (n := i.natAbs) (by decide) (by omega)
  unfold Builtin.Int.intBits
  split <;> omega
section
variable {H : Hp} {Q : VK} {i j : Int}
theorem x_mod (h : 0 < j) (k : Q (.int (i % j)) H) : rI (fun _ j => 0 < j) (fun i j => .int (i % j)) (.int i) (.int j) H Q := ⟨i, j, rfl, rfl, h, k⟩
theorem x_div (h : 0 < j) (h2 : j < 2 ^ 64) (k : Q (.int (i / j)) H) : rI CDivW (fun i j => .int (i / j)) (.int i) (.int j) H Q := ⟨i, j, rfl, rfl, cdiv_of h h2, k⟩
theorem x_mul (h1 : -(2 ^ 64) < i) (h2 : i < 2 ^ 64) (h3 : -(2 ^ 64) < j) (h4 : j < 2 ^ 64) (k : Q (.int (i * j)) H) : rI CMulX (fun i j => .int (i * j)) (.int i) (.int j) H Q := ⟨i, j, rfl, rfl, mulx_of h1 h2 h3 h4, k⟩
theorem x_mulB (h : CMulX i j) (k : Q (.int (i * j)) H) : rI CMulX (fun i j => .int (i * j)) (.int i) (.int j) H Q := ⟨i, j, rfl, rfl, h, k⟩
theorem x_pow (h : CPow i j) (k : Q (.int (i ^ j.toNat)) H) : rI CPow (fun i j => .int (i ^ j.toNat)) (.int i) (.int j) H Q := ⟨i, j, rfl, rfl, h, k⟩
end
theorem at_mem {xs : List V} {r : Int} (h0 : 0 ≤ r) (h : r < (xs.length : Int)) : ∃ v, atI xs r = some v ∧ v ∈ xs := by
  have hl : r.toNat < xs.length := by omega
  exact ⟨xs[r.toNat], at_of (j := r.toNat) (by omega) (List.getElem?_eq_getElem hl), List.getElem_mem hl⟩
theorem at_int {ns : List Int} {r : Int} (h0 : 0 ≤ r) (h : r < (ns.length : Int)) : ∃ v, atI (ns.map V.int) r = some (.int v) ∧ v ∈ ns ∧ ns[r.toNat]? = some v := by
  have hl : r.toNat < ns.length := by omega
  exact ⟨ns[r.toNat], at_of (j := r.toNat) (by omega) (by rw [List.getElem?_map, List.getElem?_eq_getElem hl]; rfl), List.getElem_mem hl, List.getElem?_eq_getElem hl⟩
theorem at_lastI (ws : List Int) (x : Int) : atI ((ws ++ [x]).map V.int) (-1) = some (.int x) := by
  rw [List.map_append]
  exact atI_last _ _
theorem cut_from {xs : List V} {k : Nat} : cutV xs (some (k : Int)) none = xs.drop k := by
  unfold cutV
  rw [HT.sIx_nat, HT.sIx_none]
  by_cases c : k ≤ xs.length
  · rw [Nat.min_eq_left c, List.take_of_length_le (by rw [List.length_drop]; omega)]
  · rw [Nat.min_eq_right (by omega), List.drop_length, List.drop_eq_nil_of_le (by omega), List.take_nil]
theorem cut_to {xs : List V} {k : Nat} : cutV xs none (some (k : Int)) = xs.take k := by
  unfold cutV
  rw [HT.sIx_nat, HT.sIx_none, List.drop_zero, Nat.sub_zero]
  by_cases c : k ≤ xs.length
  · rw [Nat.min_eq_left c]
  · rw [Nat.min_eq_right (by omega), List.take_of_length_le (Nat.le_refl _), List.take_of_length_le (by omega)]
theorem int_of {ns : List Int} {i : Nat} {x : V} (h : (ns.map V.int)[i]? = some x) : ∃ n, x = .int n ∧ ns[i]? = some n := by
  rw [List.getElem?_map] at h
  cases e : ns[i]? with
  | none => rw [e] at h; cases h
  | some u => rw [e] at h; exact ⟨u, (Option.some.inj h).symm, rfl⟩
/-- a tariff -/
structure Tar (ws : List Int) : Prop where
  pos : 1 ≤ ws.length
  len : ws.length ≤ 6
  rng : ∀ w ∈ ws, 1 ≤ w ∧ w ≤ 10000
  ch : ∀ (i : Nat) (a b : Int), ws[i]? = some a → ws[i + 1]? = some b → b % a = 0
theorem Tar.one {x : Int} (h1 : 1 ≤ x) (h2 : x ≤ 10000) : Tar [x] := ⟨Nat.le_refl _, by simp, fun w hw => by
  rw [List.mem_singleton] at hw
  subst hw
  exact ⟨h1, h2⟩, fun i a b _ h => by simp at h⟩
theorem Tar.snoc {ws : List Int} {x y : Int} (t : Tar (ws ++ [x])) (hl : (ws ++ [x]).length ≤ 5) (h1 : 1 ≤ y) (h2 : y ≤ 10000) (hd : y % x = 0) : Tar (ws ++ [x] ++ [y]) := by
  refine ⟨by simp, by rw [List.length_append, List.length_singleton]; omega, fun w hw => ?_, fun i a b ha hb => ?_⟩
  · rcases List.mem_append.mp hw with h | h
    · exact t.rng w h
    · rw [List.mem_singleton] at h
      subst h
      exact ⟨h1, h2⟩
  · by_cases c : i + 1 < (ws ++ [x]).length
    · rw [List.getElem?_append_left (by omega)] at ha
      rw [List.getElem?_append_left c] at hb
      exact t.ch i a b ha hb
    · have hlt := (List.getElem?_eq_some_iff.mp hb).1
      rw [List.length_append, List.length_singleton] at hlt
      have e : i + 1 = (ws ++ [x]).length := by omega
      have ei : i = ws.length := by rw [List.length_append, List.length_singleton] at e; omega
      rw [e, List.getElem?_concat_length] at hb
      rw [List.getElem?_append_left (by omega), ei, List.getElem?_concat_length] at ha
      cases ha; cases hb
      exact hd
/-! ### heaps that grow -/
theorem sqL_upd {K : PySem.W.Frag} {H : Hp} {p q : Addr} {o : HO} {xs : List V} (h : p ≠ q) (e : SqL K H p xs) : SqL K (upd H q o) p xs := by
  rcases e with (e | ⟨u, e⟩) | e
  · exact .inl (.inl (by rw [upd_ne h]; exact e))
  · exact .inl (.inr ⟨u, by rw [upd_ne h]; exact e⟩)
  · exact .inr e
theorem sqT_upd {K : PySem.W.Frag} {H : Hp} {p q : Addr} {o : HO} {xs : List V} (h : p ≠ q) (e : SqT K H p xs) : SqT K (upd H q o) p xs := by
  rcases e with (e | ⟨u, e⟩) | e
  · exact .inl (.inl (by rw [upd_ne h]; exact e))
  · exact .inl (.inr ⟨u, by rw [upd_ne h]; exact e⟩)
  · exact .inr e
/-- all but b is as it was -/
structure KB (b : Addr) (H H' : Hp) : Prop where
  at_ : ∀ a o, a ≠ b → H a = some o → H' a = some o
theorem KB.refl {b : Addr} {H : Hp} : KB b H H := ⟨fun _ _ _ h => h⟩
theorem KB.trans {b : Addr} {H H1 H2 : Hp} (a : KB b H H1) (c : KB b H1 H2) : KB b H H2 := ⟨fun x o n h => c.at_ x o n (a.at_ x o n h)⟩
theorem KB.of_ex {b : Addr} {H H1 : Hp} (e : Ex H H1) : KB b H H1 := ⟨fun x o _ h => e x o h⟩
theorem KB.upd {b : Addr} {H : Hp} {o : HO} : KB b H (upd H b o) := ⟨fun x u n h => by rw [upd_ne n]; exact h⟩
theorem KB.new {b p : Addr} {H : Hp} {o : HO} (h : H p = none) : KB b H (L2.upd H p o) := KB.of_ex (Ex.new h)
theorem KB.mut {b p : Addr} {H H1 : Hp} {o : HO} (e : KB b H H1) (h : H p = none) : KB b H (L2.upd H1 p o) := ⟨fun a u n ha => by
  rw [upd_ne (ne_of_none ha h)]; exact e.at_ a u n ha⟩
theorem KB.sqL {K : PySem.W.Frag} {b a : Addr} {H H' : Hp} {xs : List V} (e : KB b H H') (h : SqL K H a xs) (n : a ≠ b) : SqL K H' a xs := by
  rcases h with (h | ⟨o, h⟩) | h
  · exact .inl (.inl (e.at_ _ _ n h))
  · exact .inl (.inr ⟨o, e.at_ _ _ n h⟩)
  · exact .inr h
/-- what was read ahead of all is read on: b is new, what else changed is new -/
theorem KB.sq0 {K : PySem.W.Frag} {b a : Addr} {H H' : Hp} {xs : List V} (e : KB b H H') (hb : H b = none) (h : SqL K H a xs) : SqL K H' a xs := by
  rcases h with (h | ⟨o, h⟩) | h
  · exact .inl (.inl (e.at_ _ _ (ne_of_none h hb) h))
  · exact .inl (.inr ⟨o, e.at_ _ _ (ne_of_none h hb) h⟩)
  · exact .inr h
theorem ixN_of {n : Nat} {i : Int} (h0 : 0 ≤ i) (h : i < (n : Int)) : ixN n i = some i.toNat := by
  unfold ixN
  rw [if_pos h0, if_pos h]
theorem KB.get {b a : Addr} {H H' : Hp} {o : HO} (e : KB b H H') (n : a ≠ b) (h : H a = some o) : H' a = some o := e.at_ a o n h
theorem ex_get {a : Addr} {H H' : Hp} {o : HO} (e : Ex H H') (h : H a = some o) : H' a = some o := e a o h
theorem KB.sqT {K : PySem.W.Frag} {b a : Addr} {H H' : Hp} {xs : List V} (e : KB b H H') (h : SqT K H a xs) (n : a ≠ b) : SqT K H' a xs := by
  rcases h with (h | ⟨o, h⟩) | h
  · exact .inl (.inl (e.at_ _ _ n h))
  · exact .inl (.inr ⟨o, e.at_ _ _ n h⟩)
  · exact .inr h
theorem ne_fresh {p q : Addr} {H : Hp} {o : HO} (h : H p = none) (hq : H q = some o) : p ≠ q := fun e => by rw [e, hq] at h; cases h
theorem KB.fresh {b p : Addr} {H H' : Hp} (e : KB b H H') (hb : ∃ o, H' b = some o) (h : H' p = none) : H p = none := by
  cases q : H p with
  | none => rfl
  | some o =>
    by_cases n : p = b
    · obtain ⟨o2, h2⟩ := hb
      rw [n, h2] at h
      cases h
    · rw [e.at_ p o n q] at h
      cases h
theorem Ex.sqL {K : PySem.W.Frag} {H H' : Hp} {a : Addr} {xs : List V} (e : Ex H H') (h : SqL K H a xs) : SqL K H' a xs := ex_l e h
theorem Ex.sqT {K : PySem.W.Frag} {H H' : Hp} {a : Addr} {xs : List V} (e : Ex H H') (h : SqT K H a xs) : SqT K H' a xs := ex_t e h
/-! ### tests whose answer is known, or a proposition's -/
section
variable {σ : L2.St} {H : Hp} {Q : VK} {QB : Bool → Hp → Prop} {t u : TS} {d : TT} {D : Ends} {p : Prop} [Decidable p] {ta tb : TE}
theorem x_ifD (h1 : p → t D σ H) (h2 : ¬ p → u D σ H) : ifQ t u D σ (decide p) H := x_ifQ (fun c => h1 (of_decide_eq_true c)) fun c => h2 (of_decide_eq_false c)
theorem x_ifT (h : t D σ H) : ifQ t u D σ true H := h
theorem x_ifF (h : u D σ H) : ifQ t u D σ false H := by
  unfold ifQ
  rw [if_neg Bool.false_ne_true]
  exact h
theorem x_ifN (h1 : p → u D σ H) (h2 : ¬ p → t D σ H) : ifQ t u D σ (!decide p) H := by
  by_cases c : p
  · rw [decide_eq_true c]; exact x_ifF (h1 c)
  · rw [decide_eq_false c]; exact x_ifT (h2 c)
theorem x_notQT (k : QB false H) : notQ QB true H := k
theorem x_notQF (k : QB true H) : notQ QB false H := k
theorem x_andD (h1 : p → d σ H QB) (h2 : ¬ p → QB false H) : andQ d σ QB (decide p) H := x_andQ (fun c => h1 (of_decide_eq_true c)) fun c => h2 (of_decide_eq_false c)
theorem x_andT (h : d σ H QB) : andQ d σ QB true H := h
theorem x_andF (h : QB false H) : andQ d σ QB false H := by
  unfold andQ
  rw [if_neg Bool.false_ne_true]
  exact h
theorem x_orD (h1 : p → QB true H) (h2 : ¬ p → d σ H QB) : orQ d σ QB (decide p) H := x_orQ (fun c => h1 (of_decide_eq_true c)) fun c => h2 (of_decide_eq_false c)
theorem x_orT (h : QB true H) : orQ d σ QB true H := h
theorem x_orF (h : d σ H QB) : orQ d σ QB false H := by
  unfold orQ
  rw [if_neg Bool.false_ne_true]
  exact h
theorem x_andVD (h1 : p → tb σ H Q) (h2 : ¬ p → Q (.bl false) H) : andVQ tb σ Q (.bl (decide p)) H := x_andVQ (fun c => h1 (of_decide_eq_true c)) fun c => h2 (of_decide_eq_false c)
theorem x_andVT (h : tb σ H Q) : andVQ tb σ Q (.bl true) H := ⟨true, rfl, h⟩
theorem x_orVD (h1 : p → Q (.bl true) H) (h2 : ¬ p → tb σ H Q) : orVQ tb σ Q (.bl (decide p)) H := x_orVQ (fun c => h1 (of_decide_eq_true c)) fun c => h2 (of_decide_eq_false c)
theorem x_iteD (h1 : p → ta σ H Q) (h2 : ¬ p → tb σ H Q) : iteQ ta tb σ Q (decide p) H := x_iteQ (fun c => h1 (of_decide_eq_true c)) fun c => h2 (of_decide_eq_false c)
theorem x_chD {r' : R2} {tc : TE} {y : V} (h1 : p → tc σ H (opQ2 r' y Q)) (h2 : ¬ p → Q (.bl false) H) : chQ3 r' y tc σ Q (.bl (decide p)) H := x_chQ3 (fun c => h1 (of_decide_eq_true c)) fun c => h2 (of_decide_eq_false c)
end
/-! ### data -/
mutual
theorem dp_ex {K : PySem.W.Frag} {H H' : Hp} (e : Ex H H') : ∀ {v : V} {d : PyData}, Dp K H v d → Dp K H' v d
  | _, _, .non => .non
  | _, _, .bl b => .bl b
  | _, _, .int i => .int i
  | _, _, .str x => .str x
  | _, _, .lst s a => .lst (ex_l e s) (dpAll_ex e a)
  | _, _, .tup s a => .tup (ex_t e s) (dpAll_ex e a)
theorem dpAll_ex {K : PySem.W.Frag} {H H' : Hp} (e : Ex H H') : ∀ {vs : List V} {ds : List PyData}, DpAll K H vs ds → DpAll K H' vs ds
  | _, _, .nil => .nil
  | _, _, .cons a r => .cons (dp_ex e a) (dpAll_ex e r)
end
section
variable {K : PySem.W.Frag} {H H' : Hp}
theorem dpAll_len : ∀ {vs : List V} {ds : List PyData}, DpAll K H vs ds → vs.length = ds.length
  | _, _, .nil => rfl
  | _, _, .cons _ r => congrArg (· + 1) (dpAll_len r)
theorem dpAll_get : ∀ {vs : List V} {ds : List PyData} {i : Nat} {v : V}, DpAll K H vs ds → vs[i]? = some v → ∃ d, ds[i]? = some d ∧ Dp K H v d
  | _, _, _, _, .nil, h => by simp at h
  | _, _, 0, _, .cons a _, h => by
    have e := Option.some.inj h
    subst e
    exact ⟨_, rfl, a⟩
  | _, _, i + 1, v, .cons _ r, h => dpAll_get (i := i) r h
theorem dpAll_app : ∀ {vs ws : List V} {ds es : List PyData}, DpAll K H vs ds → DpAll K H ws es → DpAll K H (vs ++ ws) (ds ++ es)
  | _, _, _, _, .nil, b => b
  | _, _, _, _, .cons a r, b => .cons a (dpAll_app r b)
theorem dpAll_ints : ∀ ns : List Int, DpAll K H (ns.map V.int) (ns.map PyData.int)
  | [] => .nil
  | n :: r => .cons (.int n) (dpAll_ints r)
theorem dpAll_bls : ∀ ns : List Bool, DpAll K H (ns.map V.bl) (ns.map PyData.bool)
  | [] => .nil
  | n :: r => .cons (.bl n) (dpAll_bls r)
theorem dpAll_strs : ∀ ns : List Str, DpAll K H (ns.map V.str) (ns.map PyData.str)
  | [] => .nil
  | n :: r => .cons (.str n) (dpAll_strs r)
/-- a list of ints, as data -/
abbrev dInts (ns : List Int) : PyData := .list (ns.map PyData.int)
theorem dp_ints {p : Addr} {ns : List Int} (h : SqL K H p (ns.map V.int)) : Dp K H (.ref p) (dInts ns) := .lst h (dpAll_ints ns)
/-- the kind of data -/
def kindD : PyData → String
  | .none => "NoneType"
  | .bool _ => "bool"
  | .int _ => "int"
  | .str _ => "str"
  | .list _ => "list"
  | .tuple _ => "tuple"
  | .dict _ => "dict"
theorem ty_dp {v : V} {d : PyData} (h : Dp K H v d) : TyX K H v (.type (kindD d)) := by
  cases h with
  | non => exact .base .non
  | bl b => exact .base (.bl b)
  | int i => exact .base (.int i)
  | str x => exact .base (.str x)
  | lst s _ =>
    rcases s with (s | ⟨o, s⟩) | ⟨o, its, n, s, c, _⟩
    · exact .base (.lst s)
    · exact .base (.frz s)
    · exact .kList s c
  | tup s _ =>
    rcases s with (s | ⟨o, s⟩) | ⟨o, its, n, s, c, _⟩
    · exact .base (.tup s)
    · exact .fTuple s
    · exact .kTuple s c
theorem x_isi {Q : VK} {v : V} {a T : String} {b : Bool} (ty : TyX K H v (.type a)) (e : PySem.W.kitOne K (.type a) (.type T) = some b) (k : Q (.bl b) H) : rIsi K [v, .ty T] H Q := ⟨v, .ty T, _, _, b, rfl, .ty T, ty, e, k⟩
theorem eqv_same {d : PyData} (s : SeqAt.shaped d = true) : PyData.eqv d d = true := PySem.SeqAt.eqv_refl d (PySem.SeqAt.canLay_of_shaped s)
theorem x_eqD {Q : VK} {x y : V} {d e : PyData} (hx : Dp K H x d) (hy : Dp K H y e) (sx : SeqAt.shaped d = true) (sy : SeqAt.shaped e = true) (k : Q (.bl (PyData.eqv d e)) H) : rEqD K x y H Q := ⟨d, e, hx, hy, sx, sy, k⟩
theorem x_neD {Q : VK} {x y : V} {d e : PyData} (hx : Dp K H x d) (hy : Dp K H y e) (sx : SeqAt.shaped d = true) (sy : SeqAt.shaped e = true) (k : Q (.bl (!PyData.eqv d e)) H) : rNeD K x y H Q := ⟨d, e, hx, hy, sx, sy, k⟩
theorem x_eqSame {Q : VK} {x y : V} {d : PyData} (hx : Dp K H x d) (hy : Dp K H y d) (s : SeqAt.shaped d = true) (k : Q (.bl true) H) : rEqD K x y H Q := x_eqD hx hy s s (by rw [eqv_same s]; exact k)
theorem x_neSame {Q : VK} {x y : V} {d : PyData} (hx : Dp K H x d) (hy : Dp K H y d) (s : SeqAt.shaped d = true) (k : Q (.bl false) H) : rNeD K x y H Q := x_neD hx hy s s (by rw [eqv_same s]; exact k)
theorem shaped_ints (ns : List Int) : SeqAt.shaped (dInts ns) = true := by
  have h : ∀ ns : List Int, PyData.canLayAll0 (ns.map PyData.int) = true ∧ PyData.depthAll (ns.map PyData.int) = 0 := by
    intro ns
    induction ns with
    | nil => exact ⟨by simp [PyData.canLayAll0], by simp [PyData.depthAll]⟩
    | cons n r ih => exact ⟨by simp [PyData.canLayAll0, PyData.canLay0, ih.1], by simp [PyData.depthAll, PyData.depth, ih.2]⟩
  unfold SeqAt.shaped
  simp [PyData.canLay0, PyData.depth, h ns]
/-- data of a depth below n, no list longer than 100000 -/
inductive OkD : Nat → PyData → Prop
  | none {n : Nat} : OkD (n + 1) .none
  | bool {n : Nat} (b : Bool) : OkD (n + 1) (.bool b)
  | int {n : Nat} (i : Int) : OkD (n + 1) (.int i)
  | str {n : Nat} {x : Str} (h : PyData.strOk x = true) : OkD (n + 1) (.str x)
  | list {n : Nat} {ds : List PyData} (hl : ds.length ≤ 100000) (h : ∀ d ∈ ds, OkD n d) : OkD (n + 1) (.list ds)
  | tuple {n : Nat} {ds : List PyData} (hl : ds.length ≤ 100000) (h : ∀ d ∈ ds, OkD n d) : OkD (n + 1) (.tuple ds)
theorem canLayAll_of {ds : List PyData} : (∀ d ∈ ds, PyData.canLay0 d = true) → PyData.canLayAll0 ds = true := by
  induction ds with
  | nil => intro _; simp [PyData.canLayAll0]
  | cons a r ih => intro h; simp [PyData.canLayAll0, h a (List.mem_cons_self), ih fun d hd => h d (List.mem_cons_of_mem _ hd)]
theorem depthAll_of {n : Nat} {ds : List PyData} : (∀ d ∈ ds, PyData.depth d ≤ n) → PyData.depthAll ds ≤ n := by
  induction ds with
  | nil => intro _; simp [PyData.depthAll]
  | cons a r ih =>
    intro h
    have h1 := h a List.mem_cons_self
    have h2 := ih fun d hd => h d (List.mem_cons_of_mem _ hd)
    simp only [PyData.depthAll]
    omega
theorem OkD.lay {n : Nat} {d : PyData} (h : OkD n d) : PyData.canLay0 d = true ∧ PyData.depth d ≤ n := by
  induction h with
  | none => exact ⟨by simp [PyData.canLay0], by simp [PyData.depth]⟩
  | bool b => exact ⟨by simp [PyData.canLay0], by simp [PyData.depth]⟩
  | int i => exact ⟨by simp [PyData.canLay0], by simp [PyData.depth]⟩
  | str h => exact ⟨by simp [PyData.canLay0, h], by simp [PyData.depth]⟩
  | list hl h ih => exact ⟨by simp only [PyData.canLay0]; exact canLayAll_of fun d hd => (ih d hd).1, by simp only [PyData.depth]; have := depthAll_of fun d hd => (ih d hd).2; omega⟩
  | tuple hl h ih => exact ⟨by simp only [PyData.canLay0]; exact canLayAll_of fun d hd => (ih d hd).1, by simp only [PyData.depth]; have := depthAll_of fun d hd => (ih d hd).2; omega⟩
theorem OkD.shaped {n : Nat} {d : PyData} (h : OkD n d) (hn : n ≤ 64) : SeqAt.shaped d = true := by
  unfold SeqAt.shaped
  rw [h.lay.1, decide_eq_true (by have := h.lay.2; omega)]
  rfl
theorem OkD.ints {n : Nat} {ns : List Int} (h : ns.length ≤ 100000) : OkD (n + 2) (dInts ns) := .list (by rw [List.length_map]; exact h) fun d hd => by
  obtain ⟨i, _, rfl⟩ := List.mem_map.mp hd
  exact .int i
/-- zip of two lists or two tuples -/
def iZAQ (K : PySem.W.Frag) (R : It → Hp → Prop) : List V → Hp → Prop := fun vs H1 => ∃ a b xs ys, vs = [.ref a, .ref b] ∧ ((SqL K H1 a xs ∧ SqL K H1 b ys ∧ R (Itz K a b) H1) ∨ (SqT K H1 a xs ∧ SqT K H1 b ys ∧ R (ItzT K a b) H1))
theorem x_iZA {ta : TA} {σ : L2.St} {R : It → Hp → Prop} (k : ta σ H (iZAQ K R)) : iZipA K ta σ H R := k
theorem x_iZAL {R : It → Hp → Prop} {p q : Addr} {xs ys : List V} (h : SqL K H p xs) (h2 : SqL K H q ys) (k : R (Itz K p q) H) : iZAQ K R [.ref p, .ref q] H := ⟨p, q, xs, ys, rfl, .inl ⟨h, h2, k⟩⟩
theorem x_iZAT {R : It → Hp → Prop} {p q : Addr} {xs ys : List V} (h : SqT K H p xs) (h2 : SqT K H q ys) (k : R (ItzT K p q) H) : iZAQ K R [.ref p, .ref q] H := ⟨p, q, xs, ys, rfl, .inr ⟨h, h2, k⟩⟩
theorem walk_zipT {a b : Addr} {xs ys : List V} {n : Nat} (hn : n = min xs.length ys.length) : Walk (ItzT K a b) n (fun H => SqT K H a xs ∧ SqT K H b ys) (YPair (fun i => xs[i]?) (fun i => ys[i]?)) := by
  subst hn
  refine ⟨fun i _ hi q => ?_, fun _ q => ⟨xs, ys, q.1, q.2, by omega⟩, fun i H v H' _ q y => ?_⟩
  · have h1 : i < xs.length := by omega
    have h2 : i < ys.length := by omega
    exact ⟨xs, ys, xs[i], ys[i], q.1, q.2, by simp [h1], by simp [h2]⟩
  · obtain ⟨T, x, z, h1, h2, h3, h4, h5⟩ := y
    exact ⟨T, x, z, h1, h2, h3, h4 xs q.1, h5 ys q.2⟩
/-- a def's contract that can't be asked -/
theorem Df.none {P : Program} {w : World} {mg : Str → Option Value} {base : Heap} {x : Str} {st : Stmt} {ps : List Str} {sp : Sp} (F : Df K mg x st)
    (hb : ∀ (kV doc pm : Value) (an : Option Addr) (cdv ct : Value) (us : List Value), us.length = ps.length → bindArgs (PySem.W.fnOf x x (defArgs st) (defBody st) (defScope st) .none kV doc pm an cdv ct) ⟨us, []⟩ = pure (ps.zip us))
    (no : ∀ vs H Q E, ¬ sp vs H Q E) : Dn P w K mg base CX0 k x ps sp := by
  obtain ⟨f, fd, F, hm⟩ := F.ex
  exact ⟨f, fd, ⟨fun vs H Q E h => absurd h (no vs H Q E), fun A outer s H args us vs Q E _ _ _ _ h => absurd h (no vs H Q E)⟩, hm, F.kp, F.binds hb⟩
end
/-! ### steps whose premises want a tactic -/
section
variable {K : PySem.W.Frag} {H : Hp} {Q : VK} {p : Addr} {xs : List V}
theorem x_ixLn {i : Int} {v : V} (h : SqL K H p xs) (h0 : 0 ≤ i) (ha : xs[i.toNat]? = some v) (k : Q v H) : rIxL K (.ref p) (.int i) H Q := x_ixL h (at_of (j := i.toNat) (by omega) ha) k
theorem x_ixTn {i : Int} {v : V} (h : SqT K H p xs) (h0 : 0 ≤ i) (ha : xs[i.toNat]? = some v) (k : Q v H) : rIxT K (.ref p) (.int i) H Q := x_ixT h (at_of (j := i.toNat) (by omega) ha) k
theorem x_setLn {i : Int} {v : V} {R : Hp → Prop} (h : H p = some (.lst xs)) (h0 : 0 ≤ i) (ha : (xs[i.toNat]?).isSome = true) (k : R (upd H p (.lst (xs.set i.toNat v)))) : rSetL (.ref p) (.int i) v H R := by
  refine x_setL h ?_ k
  have hlt : i.toNat < xs.length := by
    rw [Option.isSome_iff_exists] at ha
    obtain ⟨y, hy⟩ := ha
    exact (List.getElem?_eq_some_iff.mp hy).1
  unfold ixN
  rw [if_pos h0, if_pos (by omega)]
end
/-- a word between two statements -/
theorem x_cut {t u : TS} {D : Ends} {σ : L2.St} {H : Hp} (Mid : L2.St → Hp → Prop) (h : t { D with nx := Mid } σ H) (k : ∀ σ' H', Mid σ' H' → u D σ' H') : tCut t u D σ H := ⟨Mid, h, k⟩
theorem cut_ints (ws : List Int) (lo hi : Option Int) : ∃ us : List Int, cutV (ws.map V.int) lo hi = us.map V.int ∧ us.length ≤ ws.length := by
  refine ⟨(ws.drop (HT.sIx (ws.map V.int).length 0 lo)).take (HT.sIx (ws.map V.int).length (ws.map V.int).length hi - HT.sIx (ws.map V.int).length 0 lo), ?_, ?_⟩
  · unfold cutV
    rw [List.map_take, List.map_drop]
  · rw [List.length_take, List.length_drop]
    omega
theorem rep_ints (ws : List Int) (k : Nat) : (List.replicate k (ws.map V.int)).flatten = ((List.replicate k ws).flatten).map V.int := by
  induction k with
  | zero => rfl
  | succ k ih => rw [List.replicate_succ, List.replicate_succ, List.flatten_cons, List.flatten_cons, List.map_append, ih]
theorem rep_len (ws : List Int) (k : Nat) : ((List.replicate k ws).flatten).length = k * ws.length := by
  induction k with
  | zero => simp
  | succ k ih => rw [List.replicate_succ, List.flatten_cons, List.length_append, ih, Nat.succ_mul]; omega
theorem set_ints (ws : List Int) (j : Nat) (z : Int) : (ws.map V.int).set j (.int z) = (ws.set j z).map V.int := List.map_set.symm
/-- the promise of a law: a list of at most 63 ints is handed in, True comes back -/
def spLaw (K : PySem.W.Frag) : Sp := fun vs H Q _ => ∃ (a : Addr) (ns : List Int), vs = [.ref a] ∧ SqL K H a (ns.map V.int) ∧ ns.length ≤ 63 ∧ (∀ z ∈ ns, Builtin.Int.intBits z ≤ 1048576) ∧ ∀ H', Q (.bl true) H'
/-- a while by a number that falls -/
def whQ (t : TS) (W : Nat → L2.St → Hp → Prop) (m : Nat) (D : Ends) (σ : L2.St) : Bool → Hp → Prop := fun b H1 => if b = true then ∃ N : L2.St → Hp → Prop, (∀ σ' H', N σ' H' → ∃ m', m' < m ∧ W m' σ' H') ∧ t { D with nx := N, ct := N, bk := D.nx } σ H1 else D.nx σ H1
theorem x_while {c : TT} {t : TS} {D : Ends} {σ : L2.St} {H : Hp} (W : Nat → L2.St → Hp → Prop) (m0 : Nat) (h0 : W m0 σ H) (hs : ∀ m σ H, W m σ H → c σ H (whQ t W m D σ)) : tWhile c t D σ H := ⟨W, ⟨m0, h0⟩, hs⟩
theorem x_whD {t : TS} {W : Nat → L2.St → Hp → Prop} {m : Nat} {f : L2.St → Hp → Prop} {rt : VK} {bk ct : L2.St → Hp → Prop} {σ : L2.St} {H : Hp} {p : Prop} [Decidable p]
    (h1 : p → t (Ends.mk (fun σ' H' => ∃ m', m' < m ∧ W m' σ' H') rt f (fun σ' H' => ∃ m', m' < m ∧ W m' σ' H')) σ H) (h2 : ¬ p → f σ H) : whQ t W m (Ends.mk f rt bk ct) σ (decide p) H := by
  unfold whQ
  by_cases c : p
  · rw [if_pos (decide_eq_true c)]
    exact ⟨_, fun _ _ h => h, h1 c⟩
  · rw [if_neg (by rw [decide_eq_false c]; exact Bool.false_ne_true)]
    exact h2 c
theorem x_shl {H : Hp} {Q : VK} {B : Nat} {k : Nat} {n : Nat} (h : B < 2 ^ n) (hn : n + k ≤ 134217728) (q : Q (.int ((B <<< k : Nat) : Int)) H) : rI CShl (fun i j => .int (i * 2 ^ j.toNat)) (.int (B : Int)) (.int (k : Int)) H Q :=
  ⟨B, k, rfl, rfl, shl_ok (by omega) hn, by
    have e : ((B <<< k : Nat) : Int) = (B : Int) * 2 ^ ((k : Int)).toNat := by
      rw [Nat.shiftLeft_eq, Int.toNat_natCast, Int.natCast_mul, Int.natCast_pow]
      rfl
    rw [e] at q
    exact q⟩
/-! ### runs: what is left of a reading when all that needs no word of ours is done (found by the search for instances) -/
class Run (P : Prop) (R : outParam Prop) : Prop where
  go : R → P
theorem run {P R : Prop} [i0 : Run P R] (h : R) : P := i0.go h
instance (priority := low) run_base {P : Prop} : Run P P := ⟨id⟩
/-- the value in a slot -/
class Slot (σ : L2.St) (i : Nat) (v : outParam V) : Prop where
  h : σ[i]? = some (some v)
instance slot_0 {v : V} {σ : L2.St} : Slot (some v :: σ) 0 v := ⟨rfl⟩
instance slot_s {o : Option V} {v : V} {σ : L2.St} {n : Nat} [i : Slot σ n v] : Slot (o :: σ) (n + 1) v := ⟨i.h⟩
/-- a slot stored -/
class SetS (σ : L2.St) (i : Nat) (o : Option V) (σ' : outParam L2.St) : Prop where
  h : σ.set i o = σ'
instance set_0 {o x : Option V} {σ : L2.St} : SetS (x :: σ) 0 o (o :: σ) := ⟨rfl⟩
instance set_s {o x : Option V} {σ σ' : L2.St} {n : Nat} [i : SetS σ n o σ'] : SetS (x :: σ) (n + 1) o (x :: σ') := ⟨by rw [List.set_cons_succ, i.h]⟩
/-- a comprehension's own slots wiped -/
class Wp (σ : L2.St) (ns : List Nat) (σ' : outParam L2.St) : Prop where
  h : wipe σ ns = σ'
instance wp_nil {σ : L2.St} : Wp σ (List.map (fun x : Str × Nat => x.2) []) σ := ⟨rfl⟩
instance wp_cons {σ σ1 σ2 : L2.St} {s : Str} {n : Nat} {l : List (Str × Nat)} [a : Wp σ (List.map (fun x : Str × Nat => x.2) l) σ1] [b : SetS σ1 n none σ2] : Wp σ (List.map (fun x : Str × Nat => x.2) ((s, n) :: l)) σ2 := ⟨by
  show (wipe σ (List.map (fun x : Str × Nat => x.2) l)).set n none = σ2
  rw [a.h, b.h]⟩
instance set_wipe {σ σ1 σ2 : L2.St} {ns : List Nat} {i : Nat} {o : Option V} [a : Wp σ ns σ1] [b : SetS σ1 i o σ2] : SetS (wipe σ ns) i o σ2 := ⟨by rw [a.h, b.h]⟩
class PosI (j : Int) : Prop where
  h : 0 < j
instance posI {m : Nat} : PosI (OfNat.ofNat (m + 1)) := ⟨Int.natCast_pos.mpr (Nat.succ_pos m)⟩
section
variable {K : PySem.W.Frag} {σ σ' : L2.St} {H : Hp} {Q : VK} {QB : Bool → Hp → Prop} {QA : List V → Hp → Prop} {R : Prop} {v x y : V} {ta tb tc te : TE} {t u : TS} {c d : TT} {D : Ends} {r r' : R2} {i j : Nat} {g : TG} {gs : TGs} {tr : TA} {sp : Sp} {E : XK} {vs : List V}
  {f : L2.St → Hp → Prop} {rt : VK} {bk ct : L2.St → Hp → Prop} {a b : Int} {z z' : Str} {k l : Bool} {p q : Addr} {G : L2.St → Hp → Prop} {S : It → Hp → Prop} {ns : List Nat} {tt : TT} {Dl : Addr} {Nx : Hp → Prop}
instance r_var [s : Slot σ i v] [n : Run (Q v H) R] : Run (tVar i σ H Q) R := ⟨fun h => x_var s.h (n.go h)⟩
instance r_c [i0 : Run (Q v H) R] : Run (tC v σ H Q) R := ⟨fun h => x_c (i0.go h)⟩
instance r_op [i0 : Run (ta σ H (opQ1 r tb σ Q)) R] : Run (tOp r ta tb σ H Q) R := ⟨fun h => x_op (i0.go h)⟩
instance r_opQ1 [i0 : Run (tb σ H (opQ2 r x Q)) R] : Run (opQ1 r tb σ Q x H) R := ⟨fun h => x_opQ1 (i0.go h)⟩
instance r_opQ2 [i0 : Run (r x y H Q) R] : Run (opQ2 r x Q y H) R := ⟨fun h => x_opQ2 (i0.go h)⟩
instance r_un {h1 : V → Hp → VK → Prop} [i0 : Run (ta σ H (unQ h1 Q)) R] : Run (tUn h1 ta σ H Q) R := ⟨fun h => x_un (i0.go h)⟩
instance r_unQ {h1 : V → Hp → VK → Prop} [i0 : Run (h1 x H Q) R] : Run (unQ h1 Q x H) R := ⟨fun h => x_unQ (i0.go h)⟩
instance r_I0 {fI : Int → Int → V} [i0 : Run (Q (fI a b) H) R] : Run (rI0 fI (.int a) (.int b) H Q) R := ⟨fun h => x_I0 (i0.go h)⟩
instance r_rU {fI : Int → V} [i0 : Run (Q (fI a) H) R] : Run (rU fI (.int a) H Q) R := ⟨fun h => x_rU (i0.go h)⟩
instance r_mod [m : PosI b] [n : Run (Q (.int (a % b)) H) R] : Run (rI (fun _ j => 0 < j) (fun i j => .int (i % j)) (.int a) (.int b) H Q) R := ⟨fun h => x_mod m.h (n.go h)⟩
instance r_eqI [i0 : Run (Q (.bl (decide (a = b))) H) R] : Run (rEq (.int a) (.int b) H Q) R := ⟨fun h => x_eqI (i0.go h)⟩
instance r_neI [i0 : Run (Q (.bl (decide (a ≠ b))) H) R] : Run (rNe (.int a) (.int b) H Q) R := ⟨fun h => x_neI (i0.go h)⟩
instance r_eqS [i0 : Run (Q (.bl (decide (z = z'))) H) R] : Run (rEq (.str z) (.str z') H Q) R := ⟨fun h => x_eqS (i0.go h)⟩
instance r_neS [i0 : Run (Q (.bl (decide (z ≠ z'))) H) R] : Run (rNe (.str z) (.str z') H Q) R := ⟨fun h => x_neS (i0.go h)⟩
instance r_eqBs [i0 : Run (Q (.bl true) H) R] : Run (rEq (.bl k) (.bl k) H Q) R := ⟨fun h => x_eqBs (i0.go h)⟩
instance r_neBs [i0 : Run (Q (.bl false) H) R] : Run (rNe (.bl k) (.bl k) H Q) R := ⟨fun h => x_neBs (i0.go h)⟩
instance r_test [i0 : Run (ta σ H (bQ QB)) R] : Run (tTest ta σ H QB) R := ⟨fun h => x_test (i0.go h)⟩
instance r_tB [i0 : Run (ta σ H (bQ QB)) R] : Run (tB ta σ H QB) R := ⟨fun h => x_tB (i0.go h)⟩
instance r_bQ [i0 : Run (QB k H) R] : Run (bQ QB (.bl k) H) R := ⟨fun h => x_bQ (i0.go h)⟩
instance r_and [i0 : Run (c σ H (andQ d σ QB)) R] : Run (tAnd c d σ H QB) R := ⟨fun h => x_and (i0.go h)⟩
instance r_or [i0 : Run (c σ H (orQ d σ QB)) R] : Run (tOr c d σ H QB) R := ⟨fun h => x_or (i0.go h)⟩
instance r_not [i0 : Run (c σ H (notQ QB)) R] : Run (tNot c σ H QB) R := ⟨fun h => x_not (i0.go h)⟩
instance (priority := low + 1) r_notQ [i0 : Run (QB (!k) H) R] : Run (notQ QB k H) R := ⟨fun h => x_notQ (i0.go h)⟩
instance r_notQT [i0 : Run (QB false H) R] : Run (notQ QB true H) R := ⟨fun h => x_notQT (i0.go h)⟩
instance r_notQF [i0 : Run (QB true H) R] : Run (notQ QB false H) R := ⟨fun h => x_notQF (i0.go h)⟩
instance r_andT [i0 : Run (d σ H QB) R] : Run (andQ d σ QB true H) R := ⟨fun h => x_andT (i0.go h)⟩
instance r_andF [i0 : Run (QB false H) R] : Run (andQ d σ QB false H) R := ⟨fun h => x_andF (i0.go h)⟩
instance r_orT [i0 : Run (QB true H) R] : Run (orQ d σ QB true H) R := ⟨fun h => x_orT (i0.go h)⟩
instance r_orF [i0 : Run (d σ H QB) R] : Run (orQ d σ QB false H) R := ⟨fun h => x_orF (i0.go h)⟩
instance r_ifExp [i0 : Run (c σ H (iteQ ta tb σ Q)) R] : Run (tIf c ta tb σ H Q) R := ⟨fun h => x_ifExp (i0.go h)⟩
instance r_andV [i0 : Run (ta σ H (andVQ tb σ Q)) R] : Run (tAndV ta tb σ H Q) R := ⟨fun h => x_andV (i0.go h)⟩
instance r_orV [i0 : Run (ta σ H (orVQ tb σ Q)) R] : Run (tOrV ta tb σ H Q) R := ⟨fun h => x_orV (i0.go h)⟩
instance r_notV [i0 : Run (ta σ H (notVQ Q)) R] : Run (tNotV ta σ H Q) R := ⟨fun h => x_notV (i0.go h)⟩
instance r_notVQ [i0 : Run (Q (.bl (!k)) H) R] : Run (notVQ Q (.bl k) H) R := ⟨fun h => x_notVQ (i0.go h)⟩
instance r_andVT [i0 : Run (tb σ H Q) R] : Run (andVQ tb σ Q (.bl true) H) R := ⟨fun h => x_andVT (i0.go h)⟩
instance r_nil [i0 : Run (QA [] H) R] : Run (tNil σ H QA) R := ⟨fun h => x_nil (i0.go h)⟩
instance r_cons [i0 : Run (te σ H (consQ tr σ QA)) R] : Run (tCons te tr σ H QA) R := ⟨fun h => x_cons (i0.go h)⟩
instance r_consQ [i0 : Run (tr σ H fun xs H2 => QA (x :: xs) H2) R] : Run (consQ tr σ QA x H) R := ⟨fun h => x_consQ (i0.go h)⟩
instance r_call [i0 : Run (tr σ H (callQ sp Q E)) R] : Run (tCall sp [] E tr σ H Q) R := ⟨fun h => x_call (i0.go h)⟩
instance r_callQ [i0 : Run (sp vs H Q E) R] : Run (callQ sp Q E vs H) R := ⟨fun h => x_callQ (i0.go h)⟩
instance r_cb {h1 : List V → Hp → VK → Prop} [i0 : Run (tr σ H (cbQ h1 Q)) R] : Run (tCB h1 tr σ H Q) R := ⟨fun h => x_cb (i0.go h)⟩
instance r_cbQ {h1 : List V → Hp → VK → Prop} [i0 : Run (h1 vs H Q) R] : Run (cbQ h1 Q vs H) R := ⟨fun h => x_cbQ (i0.go h)⟩
instance r_lst [i0 : Run (tr σ H (lstQ Q)) R] : Run (tLst tr σ H Q) R := ⟨fun h => x_lst (i0.go h)⟩
instance r_tup [i0 : Run (tr σ H (tupQ Q)) R] : Run (tTup tr σ H Q) R := ⟨fun h => x_tup (i0.go h)⟩
instance r_seq [i0 : Run (t (Ends.mk (u (Ends.mk f rt bk ct)) rt bk ct) σ H) R] : Run (tSeq t u (Ends.mk f rt bk ct) σ H) R := ⟨fun h => x_seq (i0.go h)⟩
instance r_next [i0 : Run (f σ H) R] : Run (tNext (Ends.mk f rt bk ct) σ H) R := ⟨fun h => x_next (D := Ends.mk f rt bk ct) (i0.go h)⟩
instance r_asg [i0 : Run (te σ H (asgQ g (Ends.mk f rt bk ct) σ)) R] : Run (tAsg te g (Ends.mk f rt bk ct) σ H) R := ⟨fun h => x_asg (i0.go h)⟩
instance r_asgN [s : SetS σ i (some x) σ'] [n : Run (f σ' H) R] : Run (asgQ (gName i) (Ends.mk f rt bk ct) σ x H) R := ⟨fun h => x_asgN (D := Ends.mk f rt bk ct) (by rw [s.h]; exact n.go h)⟩
instance r_drop [i0 : Run (te σ H (dropQ (Ends.mk f rt bk ct) σ)) R] : Run (tDrop te (Ends.mk f rt bk ct) σ H) R := ⟨fun h => x_drop (i0.go h)⟩
instance r_dropQ [i0 : Run (f σ H) R] : Run (dropQ (Ends.mk f rt bk ct) σ x H) R := ⟨fun h => x_dropQ (D := Ends.mk f rt bk ct) (i0.go h)⟩
instance r_ret [i0 : Run (te σ H rt) R] : Run (tRet te (Ends.mk f rt bk ct) σ H) R := ⟨fun h => x_ret (D := Ends.mk f rt bk ct) (i0.go h)⟩
instance r_retN [i0 : Run (rt .non H) R] : Run (tRetN (Ends.mk f rt bk ct) σ H) R := ⟨fun h => x_retN (D := Ends.mk f rt bk ct) (i0.go h)⟩
instance r_if [i0 : Run (c σ H (ifQ t u (Ends.mk f rt bk ct) σ)) R] : Run (tIfS c t u (Ends.mk f rt bk ct) σ H) R := ⟨fun h => x_if (i0.go h)⟩
instance r_ifT [i0 : Run (t D σ H) R] : Run (ifQ t u D σ true H) R := ⟨fun h => x_ifT (i0.go h)⟩
instance r_ifF [i0 : Run (u D σ H) R] : Run (ifQ t u D σ false H) R := ⟨fun h => x_ifF (i0.go h)⟩
instance r_cont [i0 : Run (ct σ H) R] : Run (tCont (Ends.mk f rt bk ct) σ H) R := ⟨fun h => x_cont (D := Ends.mk f rt bk ct) (i0.go h)⟩
instance r_break [i0 : Run (bk σ H) R] : Run (tBreak (Ends.mk f rt bk ct) σ H) R := ⟨fun h => x_break (D := Ends.mk f rt bk ct) (i0.go h)⟩
instance r_asgS {hS : TSet} [i0 : Run (ta σ H (gsQ1 tb hS σ v (f σ))) R] : Run (asgQ (gSub ta tb hS) (Ends.mk f rt bk ct) σ v H) R := ⟨fun h => x_asgS (D := Ends.mk f rt bk ct) (i0.go h)⟩
instance r_gsQ1 {hS : TSet} [i0 : Run (tb σ H (gsQ2 hS x v Nx)) R] : Run (gsQ1 tb hS σ v Nx x H) R := ⟨fun h => x_gsQ1 (i0.go h)⟩
instance r_gsQ2 {hS : TSet} [i0 : Run (hS x y v H Nx) R] : Run (gsQ2 hS x v Nx y H) R := ⟨fun h => x_gsQ2 (i0.go h)⟩
instance r_chain [i0 : Run (ta σ H (chQ1 r r' tb tc σ Q)) R] : Run (tChain r r' ta tb tc σ H Q) R := ⟨fun h => x_chain (i0.go h)⟩
instance r_chQ1 [i0 : Run (tb σ H (chQ2 r r' tc σ x Q)) R] : Run (chQ1 r r' tb tc σ Q x H) R := ⟨fun h => x_chQ1 (i0.go h)⟩
instance r_chQ2 [i0 : Run (r x y H (chQ3 r' y tc σ Q)) R] : Run (chQ2 r r' tc σ x Q y H) R := ⟨fun h => x_chQ2 (i0.go h)⟩
instance r_for {wi : TI} [i0 : Run (wi σ H (forQ g t (Ends.mk f rt bk ct) σ)) R] : Run (tFor wi g t (Ends.mk f rt bk ct) σ H) R := ⟨fun h => x_for (i0.go h)⟩
instance r_iL [i0 : Run (ta σ H (iLQ K S)) R] : Run (iList K ta σ H S) R := ⟨fun h => x_iL (i0.go h)⟩
instance r_iT [i0 : Run (ta σ H (iTQ K S)) R] : Run (iTup K ta σ H S) R := ⟨fun h => x_iT (i0.go h)⟩
instance r_iR [i0 : Run (tr σ H (iRQ S)) R] : Run (iRng1 tr σ H S) R := ⟨fun h => x_iR (i0.go h)⟩
instance r_iR2 [i0 : Run (tr σ H (iR2Q S)) R] : Run (iRng2 tr σ H S) R := ⟨fun h => x_iR2 (i0.go h)⟩
instance r_iZ [i0 : Run (tr σ H (iZQ K S)) R] : Run (iZip K tr σ H S) R := ⟨fun h => x_iZ (i0.go h)⟩
instance r_iZA [i0 : Run (tr σ H (iZAQ K S)) R] : Run (iZipA K tr σ H S) R := ⟨fun h => x_iZA (i0.go h)⟩
instance r_iE [i0 : Run (tr σ H (iEQ K S)) R] : Run (iEnum K tr σ H S) R := ⟨fun h => x_iE (i0.go h)⟩
instance r_lc {wi : TI} [i0 : Run (wi σ H (lcQ g tt te ns σ Q)) R] : Run (tLc wi g tt te ns σ H Q) R := ⟨fun h => x_lc (i0.go h)⟩
instance r_gN [s : SetS σ i (some v) σ'] [n : Run (G σ' H) R] : Run (gName i v σ H G) R := ⟨fun h => x_gN (by rw [s.h]; exact n.go h)⟩
instance r_tgQ [n : Run (t (Ends.mk G rt f G) σ H) R] : Run (tgQ t G (Ends.mk f rt bk ct) σ H) R := ⟨fun h => x_tgQ (D := Ends.mk f rt bk ct) (by exact n.go h)⟩
instance r_tYes [i0 : Run (QB true H) R] : Run (tYes σ H QB) R := ⟨fun h => x_tYes (i0.go h)⟩
instance r_ttT [i0 : Run (te σ H (eltQ Dl Nx)) R] : Run (ttQ te Dl Nx σ true H) R := ⟨fun h => x_ttT (i0.go h)⟩
instance r_bm {T : String} {h1 : V → List V → Hp → VK → Prop} [i0 : Run (ta σ H (bmQ K T h1 tr σ Q)) R] : Run (tBM K T h1 ta tr σ H Q) R := ⟨fun h => x_bm (i0.go h)⟩
instance r_bmQ2 {h1 : V → List V → Hp → VK → Prop} [i0 : Run (h1 x vs H Q) R] : Run (bmQ2 h1 x Q vs H) R := ⟨fun h => x_bmQ2 (i0.go h)⟩
instance r_bm0 {T : String} {h1 : V → List V → Hp → VK → Prop} [i0 : Run (ta σ H (bm0Q K T h1 Q)) R] : Run (tBM0 K T h1 ta σ H Q) R := ⟨fun h => x_bm0 (i0.go h)⟩
instance r_sl {h1 : V → Option Int → Option Int → Hp → VK → Prop} {tl th : TO} [i0 : Run (ta σ H (slQ1 h1 tl th σ Q)) R] : Run (tSl h1 ta tl th σ H Q) R := ⟨fun h => x_sl (i0.go h)⟩
instance r_slQ1 {h1 : V → Option Int → Option Int → Hp → VK → Prop} {tl th : TO} [i0 : Run (tl σ H (slQ2 h1 th σ Q x)) R] : Run (slQ1 h1 tl th σ Q x H) R := ⟨fun h => x_slQ1 (i0.go h)⟩
instance r_slQ2 {h1 : V → Option Int → Option Int → Hp → VK → Prop} {th : TO} {lo : Option Int} [i0 : Run (th σ H (slQ3 h1 Q x lo)) R] : Run (slQ2 h1 th σ Q x lo H) R := ⟨fun h => x_slQ2 (i0.go h)⟩
instance r_slQ3 {h1 : V → Option Int → Option Int → Hp → VK → Prop} {lo hi : Option Int} [i0 : Run (h1 x lo hi H Q) R] : Run (slQ3 h1 Q x lo hi H) R := ⟨fun h => x_slQ3 (i0.go h)⟩
instance r_noPart {RO : Option Int → Hp → Prop} [i0 : Run (RO none H) R] : Run (tNoPart σ H RO) R := ⟨fun h => x_noPart (i0.go h)⟩
instance r_part {RO : Option Int → Hp → Prop} [i0 : Run (ta σ H (ptQ RO)) R] : Run (tPart ta σ H RO) R := ⟨fun h => x_part (i0.go h)⟩
instance r_ptQ {RO : Option Int → Hp → Prop} [i0 : Run (RO (some a) H) R] : Run (ptQ RO (.int a) H) R := ⟨fun h => x_ptQ (i0.go h)⟩
instance r_intB [i0 : Run (Q (.int (if k then 1 else 0)) H) R] : Run (rIntOf [.bl k] H Q) R := ⟨fun h => x_intB (i0.go h)⟩
instance r_intI [i0 : Run (Q (.int a) H) R] : Run (rIntOf [.int a] H Q) R := ⟨fun h => x_intI (i0.go h)⟩
instance r_min [i0 : Run (Q (.int (if b < a then b else a)) H) R] : Run (rMin2 [.int a, .int b] H Q) R := ⟨fun h => x_min (i0.go h)⟩
instance r_max [i0 : Run (Q (.int (if b > a then b else a)) H) R] : Run (rMax2' [.int a, .int b] H Q) R := ⟨fun h => x_max (i0.go h)⟩
instance r_par [h0 : Run (tr σ H (parQ i j (Ends.mk f rt bk ct) σ)) R] : Run (tPar i j tr (Ends.mk f rt bk ct) σ H) R := ⟨fun h => x_par (h0.go h)⟩
instance r_parQ {σ2 : L2.St} [s : SetS σ i (some x) σ'] [s2 : SetS σ' j (some y) σ2] [n : Run (f σ2 H) R] : Run (parQ i j (Ends.mk f rt bk ct) σ [x, y] H) R := ⟨fun h => x_parQ (D := Ends.mk f rt bk ct) (by rw [s.h, s2.h]; exact n.go h)⟩
instance r_gCons [s : SetS σ i (some x) σ'] [n : Run (gs vs σ' H G) R] : Run (gCons (gName i) gs (x :: vs) σ H G) R := ⟨fun h => x_gCons (by rw [s.h]; exact n.go h)⟩
instance r_gNil [i0 : Run (G σ H) R] : Run (gNil [] σ H G) R := ⟨fun h => x_gNil (i0.go h)⟩
instance r_isNN [i0 : Run (Q (.bl true) H) R] : Run (rIsN .non .non H Q) R := ⟨fun h => x_isNN (i0.go h)⟩
instance r_isNI [i0 : Run (Q (.bl false) H) R] : Run (rIsN (.int a) .non H Q) R := ⟨fun h => x_isNI (i0.go h)⟩
instance r_isNB [i0 : Run (Q (.bl false) H) R] : Run (rIsN (.bl k) .non H Q) R := ⟨fun h => x_isNB (i0.go h)⟩
instance r_isNS [i0 : Run (Q (.bl false) H) R] : Run (rIsN (.str z) .non H Q) R := ⟨fun h => x_isNS (i0.go h)⟩
instance r_isNR [i0 : Run (Q (.bl false) H) R] : Run (rIsN (.ref p) .non H Q) R := ⟨fun h => x_isNR (i0.go h)⟩
instance r_notNN [i0 : Run (Q (.bl false) H) R] : Run (rNotN .non .non H Q) R := ⟨fun h => x_notNN (i0.go h)⟩
instance r_notNR [i0 : Run (Q (.bl true) H) R] : Run (rNotN (.ref p) .non H Q) R := ⟨fun h => x_notNR (i0.go h)⟩
end
section
variable {K : PySem.W.Frag} {σ : L2.St} {H : Hp} {Q : VK} {R : Prop} {ta : TE} {a : Int} {n : Nat} {S : It → Hp → Prop}
/-! ### bit_length; reversed(range(n)) -/
def bitsQ (Q : VK) : VK := fun x H => ∃ i, x = .int i ∧ Q (.int (Builtin.Int.intBits i : Nat)) H
theorem x_bits (k : ta σ H (bitsQ Q)) : tBits ta σ H Q := k
theorem x_bitsQ (k : Q (.int (Builtin.Int.intBits a : Nat)) H) : bitsQ Q (.int a) H := ⟨a, rfl, k⟩
instance r_bits [i0 : Run (ta σ H (bitsQ Q)) R] : Run (tBits ta σ H Q) R := ⟨fun h => x_bits (i0.go h)⟩
instance r_bitsQ [i0 : Run (Q (.int (Builtin.Int.intBits a : Nat)) H) R] : Run (bitsQ Q (.int a) H) R := ⟨fun h => x_bitsQ (i0.go h)⟩
def rgQ (F : Int → Int → Hp → Prop) : VK := fun x H1 => ∃ n, x = .int n ∧ F 0 n H1
def rrQ (S : It → Hp → Prop) : Int → Int → Hp → Prop := fun a b H1 => -(2 ^ 62) ≤ a ∧ a < 2 ^ 62 ∧ -(2 ^ 62) ≤ b ∧ b < 2 ^ 62 ∧ S (Itc (a + (((b - a).toNat : Nat) : Int) - 1) (-1) (b - a).toNat) H1
instance r_revR {tr : L2.St → Hp → (Int → Int → Hp → Prop) → Prop} [i0 : Run (tr σ H (rrQ S)) R] : Run (iRevR tr σ H S) R := ⟨fun h => i0.go h⟩
instance r_rg1 {F : Int → Int → Hp → Prop} [i0 : Run (ta σ H (rgQ F)) R] : Run (tRg1 ta σ H F) R := ⟨fun h => i0.go h⟩
instance r_rgQ {F : Int → Int → Hp → Prop} [i0 : Run (F 0 a H) R] : Run (rgQ F (.int a) H) R := ⟨fun h => ⟨a, rfl, i0.go h⟩⟩
theorem x_rrQ (h : n < 2 ^ 62) (k : S (Itc ((n : Int) - 1) (-1) n) H) : rrQ S 0 (n : Int) H := by
  refine ⟨by decide, by decide, by omega, by omega, ?_⟩
  rw [show ((n : Int) - 0).toNat = n by omega, show (0 : Int) + (n : Int) - 1 = (n : Int) - 1 by omega]
  exact k
end
theorem walk_rr {n : Nat} : Walk (Itc ((n : Int) - 1) (-1) n) n (fun _ => True) (fun i H x H' => H' = H ∧ x = .int ((n : Int) - 1 - (i : Int))) :=
  walk_rangeC.mono (fun _ h => h) fun i H x H' _ _ y => ⟨y.1, by rw [y.2]; show V.int ((n : Int) - 1 + (i : Int) * -1) = _; rw [Int.mul_neg, Int.mul_one, Int.add_neg_eq_sub]⟩
theorem min_if (a b : Int) : (if b < a then b else a) = min a b := by split <;> omega
theorem max_if (a b : Int) : (if b > a then b else a) = max a b := by split <;> omega
section
variable {H : Hp} {Q : VK} {R : Prop} {k : Bool}
/-! ### is, is not with True, False -/
theorem x_isT (q : Q (.bl k) H) : rIsB (.bl k) (.bl true) H Q := ⟨k, true, rfl, rfl, by cases k <;> exact q⟩
theorem x_isF (q : Q (.bl (!k)) H) : rIsB (.bl k) (.bl false) H Q := ⟨k, false, rfl, rfl, by cases k <;> exact q⟩
theorem x_notT (q : Q (.bl (!k)) H) : rNotB (.bl k) (.bl true) H Q := ⟨k, true, rfl, rfl, by cases k <;> exact q⟩
theorem x_notF (q : Q (.bl k) H) : rNotB (.bl k) (.bl false) H Q := ⟨k, false, rfl, rfl, by cases k <;> exact q⟩
instance r_isT [i0 : Run (Q (.bl k) H) R] : Run (rIsB (.bl k) (.bl true) H Q) R := ⟨fun h => x_isT (i0.go h)⟩
instance r_isF [i0 : Run (Q (.bl (!k)) H) R] : Run (rIsB (.bl k) (.bl false) H Q) R := ⟨fun h => x_isF (i0.go h)⟩
instance r_notT [i0 : Run (Q (.bl (!k)) H) R] : Run (rNotB (.bl k) (.bl true) H Q) R := ⟨fun h => x_notT (i0.go h)⟩
instance r_notF [i0 : Run (Q (.bl k) H) R] : Run (rNotB (.bl k) (.bl false) H Q) R := ⟨fun h => x_notF (i0.go h)⟩
instance r_isFF [i0 : Run (Q (.bl true) H) R] : Run (rIsB (.bl false) (.bl false) H Q) R := ⟨fun h => x_isF (i0.go h)⟩
instance r_notTT [i0 : Run (Q (.bl false) H) R] : Run (rNotB (.bl true) (.bl true) H Q) R := ⟨fun h => x_notT (i0.go h)⟩
end
theorem range_gd {α : Type} (ws : List Int) (g : Int → α) : (List.range ws.length).map (fun i => g (ws.getD i 0)) = ws.map g := by
  apply List.ext_getElem
  · rw [List.length_map, List.length_range, List.length_map]
  · intro i h1 h2
    rw [List.length_map] at h2
    rw [List.getElem_map, List.getElem_map, List.getElem_range, List.getD_eq_getElem?_getD, List.getElem?_eq_getElem h2]
    rfl
section
variable {σ : L2.St} {H : Hp} {QB : Bool → Hp → Prop} {d : TT} {p : Prop} [Decidable p]
theorem x_orN (h1 : p → d σ H QB) (h2 : ¬ p → QB true H) : orQ d σ QB (!decide p) H := by
  by_cases c : p
  · rw [decide_eq_true c]; exact x_orF (h1 c)
  · rw [decide_eq_false c]; exact x_orT (h2 c)
theorem x_andN (h1 : p → QB false H) (h2 : ¬ p → d σ H QB) : andQ d σ QB (!decide p) H := by
  by_cases c : p
  · rw [decide_eq_true c]; exact x_andF (h1 c)
  · rw [decide_eq_false c]; exact x_andT (h2 c)
end
end G

/-! ### the head by facts -/
namespace G
open PySem PySem.Spec PyProof.Rows L2
section
variable {fa : List (List He.Fa)} {fn : List (List He.FnD)} {ex : List (PySem.W.Frag → Bool)} {K : PySem.W.Frag}
theorem SaysK.fact (c : SaysK fa fn ex K) (i j : Nat) {l : List He.Fa} {f : He.Fa} (h : fa[i]? = some l := by rfl) (h2 : l[j]? = some f := by rfl) : f.ok K = true := by
  have c1 := (He.ba (congrArg (fun z : AlK => z.1.1) c)).1
  exact List.all_eq_true.mp (List.all_eq_true.mp c1 l (List.mem_of_getElem? h)) f (List.mem_of_getElem? h2)
theorem SaysK.xf (c : SaysK fa fn ex K) (i : Nat) {b : PySem.W.Frag → Bool} (h : ex[i]? = some b := by rfl) : b K = true :=
  List.all_eq_true.mp (congrArg (fun z : AlK => z.1.2) c) b (List.mem_of_getElem? h)
theorem SaysK.def_ (c : SaysK fa fn ex K) (i j : Nat) {l : List He.FnD} {d : He.FnD} (h : fn[i]? = some l := by rfl) (h2 : l[j]? = some d := by rfl) :
    PySem.W.keepIn K (.ref (He.fAd K d.at_)) = true ∧ ∃ oc od osl kV doc pm an cdv ct, K.lookup (He.fAd K d.at_) = some ⟨oc, od, .func (PySem.W.fnOf d.name d.qual d.params d.body d.scope .none kV doc pm an cdv ct), osl⟩ ∧ PySem.W.codeIn K cdv d.qual = true := by
  have c2 := (He.ba (congrArg (fun z : AlK => z.1.1) c)).2
  have c3 := He.ba (List.all_eq_true.mp (List.all_eq_true.mp c2 l (List.mem_of_getElem? h)) d (List.mem_of_getElem? h2))
  have e : fn.map (fun l => l.map fun d => He.fnObs K d.at_) = fn.map fun l => l.map He.FnD.val := congrArg (fun z : AlK => z.2) c
  have e2 : (fn.map (fun l => l.map fun d => He.fnObs K d.at_))[i]? = (fn.map fun l => l.map He.FnD.val)[i]? := by rw [e]
  rw [List.getElem?_map, List.getElem?_map, h] at e2
  have e3 : (l.map fun d => He.fnObs K d.at_) = l.map He.FnD.val := Option.some.inj e2
  have e4 : (l.map fun d => He.fnObs K d.at_)[j]? = (l.map He.FnD.val)[j]? := by rw [e3]
  rw [List.getElem?_map, List.getElem?_map, h2] at e4
  exact ⟨c3.2, He.fn_ok (Option.some.inj e4) c3.1⟩
/-- a def of the module's top -/
theorem SaysK.df {h : Heap} {mg : Str → Option Value} (X : K.In h) (GN : h.Ns mainGlobals mg) (c : SaysK fa fn ex K) {x : Str} {st : Stmt} (i j i2 j2 : Nat) {l : List He.FnD} {l2 : List He.Fa} (h1 : fn[i]? = some l := by rfl)
    (h2 : l[j]? = some ⟨(x, none), x, x, defArgs st, defBody st, defScope st⟩ := by rfl) (h3 : fa[i2]? = some l2 := by rfl) (h4 : l2[j2]? = some (.glo x) := by rfl) : Df K mg x st := by
  obtain ⟨k, oc, od, osl, kV, doc, pm, an, cdv, ct, l, e⟩ := c.def_ i j h1 h2
  exact ⟨He.ga K x, _, fun_mk (st := st) l e k, He.glo_ok X GN (c.fact i2 j2 h3 h4)⟩
/-- a method -/
structure Mf (K : PySem.W.Frag) (C m qual : Str) (st : Stmt) : Prop where
  ex : ∃ fd, Fun K m qual st (He.ma K (He.ga K C) m) fd
theorem SaysK.mf (c : SaysK fa fn ex K) {C m qual : Str} {st : Stmt} (i j : Nat) {l : List He.FnD} (h1 : fn[i]? = some l := by rfl)
    (h2 : l[j]? = some ⟨(C, some m), m, qual, defArgs st, defBody st, defScope st⟩ := by rfl) : Mf K C m qual st := by
  obtain ⟨k, oc, od, osl, kV, doc, pm, an, cdv, ct, l, e⟩ := c.def_ i j h1 h2
  exact ⟨_, fun_mk (st := st) l e k⟩
end
theorem walk_ofEB {l : PySem.W.OpenLaw} {n k : Nat} {q : Program} {loose : List Str} {XP : (Str → Option Value) → Heap → Prop} {YP : World → Heap → Prop} {d : DefRec} {CX : CXT} {x : Str}
    (hn : l.most = some n) (hn2 : n ≤ sizeLine) (hdf : d.params.defaults = []) (hr : Room k callerA)
    (F : ∀ (w : World) (mg : Str → Option Value) (fa : Addr) (h : Heap), YP w h → h.Ns mainGlobals mg → mg d.name = some (.ref fa) →
      ∃ (K : PySem.W.Frag) (fd : FuncData) (sp : Sp), K.In h ∧ (∀ (s : Shared) (u : Value), BindsTo s fd ⟨[u], []⟩ [(x, u)]) ∧
        (∀ (H : Hp) (a : Addr) (ns : List Int), ns.length ≤ n → (∀ z ∈ ns, Builtin.Int.intBits z ≤ 1048576) → Only H → SqL K H a (ns.map V.int) → sp [.ref a] H (fun v _ => v = .bl true) fun _ _ _ => False) ∧
        ∀ base : Heap, K.In base → base.Ns mainGlobals mg → FnOk l.prog w K mg base CX k fa fd [x] sp)
    (hCX : ∀ (H : Hp) (s : Shared) (e : Value) (s' : Shared), CX [] H s (fun _ _ _ => False) e s' → False) :
    PySem.W.WalkO q loose XP YP l.row.toRowW d [] (fun f vs => PySem.call f vs) := by
  refine Att.attach_callB hn hdf fun w s₀ s₁ mg mb fa o pm cd doc a vs ns G Y ho hd hcd hmg hobj hints hlen hbits hg => ?_
  obtain ⟨K, fd, sp, KX, hb, hsp, hF⟩ := F w mg fa _ Y G.T.g hmg
  exact law_call KX G.T.g G.T.b G.T.builtins G.T.nolimit hg hobj hints (Nat.le_trans hlen hn2) hr hF hb (fun H hO hS => hsp H a ns hlen hbits hO hS) fun H e s' => hCX H s₁ e s'
/-! ### a def that may raise -/
theorem Df.dnX {P : Program} {w : World} {K : PySem.W.Frag} {mg : Str → Option Value} {base : Heap} {x : Str} {st : Stmt} {N ps : List Str} {k : Nat} {sp : Sp} (F : Df K mg x st) (S : FnScope N ps (defScope st))
    (hb : ∀ (kV doc pm : Value) (an : Option Addr) (cdv ct : Value) (us : List Value), us.length = ps.length → bindArgs (PySem.W.fnOf x x (defArgs st) (defBody st) (defScope st) .none kV doc pm an cdv ct) ⟨us, []⟩ = pure (ps.zip us))
    (len : ∀ vs H Q E, sp vs H Q E → vs.length = ps.length)
    (hbody : ∀ (f : Addr) (cdv : Value) (A : Around) (outer : List Env) (s : Shared) (H : Hp) (vs : List V) (Q : VK) (E : XK), Room k (A.deeper (envOfC x (defScope st) s.heap.objs.size f cdv)) → (cxOf (L2.CX P w) P w K mg base N x (defScope st) f cdv A outer s H E).K = K → sp vs H Q E →
      ∃ t, PSs (cxOf (L2.CX P w) P w K mg base N x (defScope st) f cdv A outer s H E) (defBody st) t ∧ t { nx := fun _ H' => Q .non H', rt := Q } (start N vs) H) : Dn P w K mg base (L2.CX P w) (k + 1) x ps sp := by
  obtain ⟨f, fd, F, hm⟩ := F.ex
  exact ⟨f, fd, F.okX S len (fun cdv A outer s H vs Q E hr h => hbody f cdv A outer s H vs Q E hr rfl h), hm, F.kp, F.binds hb⟩
section
variable {X : Cx} {CX : CXT} {k : Nat} {ps : List Str} {sp : Sp} {E : L2.St → XK} {x : Str} {p pos : Pos} {e : Expr} {es : List Expr} {t : TA}
/-- a call in a try -/
theorem pe_dnS (D : Dn X.prog X.w X.K X.mg X.base CX k x ps sp) (hr : Room k X.A) (hx : ∀ σ, PassesAt CX X σ (E σ)) (ha : PA X (e :: es) t) (hg : Gl X x := by rfl)
    (hdb : (x == ("__debug__" : Str)) = false := by decide) (he : starEach (e :: es) X.env = (false, eval e X.env) :: starEach es X.env := by rfl) (hpl : (backTo pos (starEach es X.env)).any (·.1) = false := by rfl) :
    PE X (.Call (.Name x p) (e :: es) [] pos) (tCallS sp E t) := by
  obtain ⟨f, fd, F, hm, hk, hb⟩ := D.ex
  exact pe_callS F hr hg hm hk hb hx ha hdb he hpl
end
/-- an own exception class made with a text -/
structure Xc (K : PySem.W.Frag) (mg : Str → Option Value) (x : Str) : Prop where
  g : mg x = some (.ref (He.ga K x))
  xi : PySem.W.excIn K (He.ga K x) He.veBase "ValueError.__new__" = true
  k : PySem.W.keepIn K (.ref (He.ga K x)) = true
  b : PySem.W.subIn K (.ref (He.ga K x)) (.type "BaseException") = some true
  t : PySem.W.typeIn K (.ref (He.ga K x)) = some (.type "type")
theorem Xc.of {fa : List (List He.Fa)} {fn : List (List He.FnD)} {ex : List (PySem.W.Frag → Bool)} {K : PySem.W.Frag} {h : Heap} {mg : Str → Option Value} {x : Str} (X : K.In h) (GN : h.Ns mainGlobals mg) (c : SaysK fa fn ex K) (i j i2 j2 : Nat) {l l2 : List He.Fa} (h1 : fa[i]? = some l := by rfl) (h2 : l[j]? = some (.glo x) := by rfl) (h3 : fa[i2]? = some l2 := by rfl) (h4 : l2[j2]? = some (.exc x) := by rfl) : Xc K mg x := by
  obtain ⟨a, b, d, e⟩ := He.exc_ok (c.fact i2 j2 h3 h4)
  exact ⟨He.glo_ok X GN (c.fact i j h1 h2), a, b, d, e⟩
theorem passX {P : Program} {w : World} {K : PySem.W.Frag} {mg : Str → Option Value} {base : Heap} {N : List Str} {qual : Str} {scope : Scope} {f : Addr} {cdv : Value} {A : Around} {outer : List Env} {s : Shared} {H : Hp} {E : XK} :
    Passes (L2.CX P w) (cxOf (L2.CX P w) P w K mg base N qual scope f cdv A outer s H E) E := passes_call (takes_of rfl rfl rfl rfl) fun _ _ _ _ h => h
/-! ### try -/
def wOnlyQ (K : PySem.W.Frag) (c : Value) (ts : Addr → Value → Option Addr → TS) (Wout : WX) (D : Ends) : WX := wOnly K c ts Wout D
def callSQ (sp : Sp) (E : L2.St → XK) (σ : L2.St) (Q : VK) : List V → Hp → Prop := fun vs H1 => sp vs H1 Q (E σ)
theorem x_callS {sp : Sp} {E : L2.St → XK} {t : TA} {σ : L2.St} {H : Hp} {Q : VK} (k : t σ H (callSQ sp E σ Q)) : tCallS sp E t σ H Q := k
instance r_callS {sp : Sp} {E : L2.St → XK} {t : TA} {σ : L2.St} {H : Hp} {Q : VK} {R : Prop} [i : Run (t σ H (callSQ sp E σ Q)) R] : Run (tCallS sp E t σ H Q) R := ⟨fun h => x_callS (i.go h)⟩
instance r_callSQ {sp : Sp} {E : L2.St → XK} {vs : List V} {σ : L2.St} {H : Hp} {Q : VK} {R : Prop} [i : Run (sp vs H Q (E σ)) R] : Run (callSQ sp E σ Q vs H) R := ⟨fun h => i.go h⟩
/-! ### x += e -/
section
variable {i : Nat} {te : TE} {ti : TIp} {f : L2.St → Hp → Prop} {rt : VK} {bk ct : L2.St → Hp → Prop} {σ σ' : L2.St} {H : Hp} {R : Prop} {v y z : V} {a b : Int} {fI : Int → Int → Int} {Q : VK}
def augQ1 (i : Nat) (ti : TIp) (v : V) (f : L2.St → Hp → Prop) (σ : L2.St) : VK := fun y H1 => ti v y H1 fun z H2 => f (σ.set i (some z)) H2
def augQ2 (i : Nat) (f : L2.St → Hp → Prop) (σ : L2.St) : VK := fun z H2 => f (σ.set i (some z)) H2
theorem x_aug (h : σ[i]? = some (some v)) (k : te σ H (augQ1 i ti v f σ)) : tAug i te ti (Ends.mk f rt bk ct) σ H := ⟨v, h, k⟩
instance r_aug [s : Slot σ i v] [n : Run (te σ H (augQ1 i ti v f σ)) R] : Run (tAug i te ti (Ends.mk f rt bk ct) σ H) R := ⟨fun h => x_aug s.h (n.go h)⟩
instance r_augQ1 [n : Run (ti v y H (augQ2 i f σ)) R] : Run (augQ1 i ti v f σ y H) R := ⟨fun h => n.go h⟩
instance r_ipI [n : Run (Q (.int (fI a b)) H) R] : Run (ipI fI (.int a) (.int b) H Q) R := ⟨fun h => ⟨a, b, rfl, rfl, n.go h⟩⟩
instance r_augQ2 [s : SetS σ i (some z) σ'] [n : Run (f σ' H) R] : Run (augQ2 i f σ z H) R := ⟨fun h => by
  show f (σ.set i (some z)) H
  rw [s.h]
  exact n.go h⟩
end
/-! ### isinstance of a caught error -/
theorem excCB_ok {x : Str} {K : PySem.W.Frag} (h : excCB x K = true) : ExcC K (He.ga K x) := by
  obtain ⟨a, h⟩ := He.ba h
  obtain ⟨b, h⟩ := He.ba h
  obtain ⟨c, h⟩ := He.ba h
  obtain ⟨d, h⟩ := He.ba h
  obtain ⟨e, h⟩ := He.ba h
  obtain ⟨f, h⟩ := He.ba h
  obtain ⟨g, h⟩ := He.ba h
  exact ⟨He.eqO_ok a, He.eqO_ok b, of_decide_eq_true c, d, He.eqO_ok e, He.eqO_ok f, of_decide_eq_true g, of_decide_eq_true h⟩
def rIsX (K : PySem.W.Frag) (cls : Value) (d : Option Addr) (a : Addr) : List V → Hp → VK → Prop := fun xs H Q => ∃ (D : Addr) (c : V) (cv : Value) (b : Bool), cls = .ref D ∧ d = none ∧ ExcC K D ∧ xs = [.ref a, c] ∧ (∀ u, RelV c u → u = cv) ∧ PySem.W.kitOne K (.ref D) cv = some b ∧ Q (.bl b) H
theorem call_isX {X : Cx} {a : Addr} {cls : Value} {d : Option Addr} {oe : Obj} {pn : List (Addr × Obj)} (hz : Zc cls d oe) (hf : ∃ vs, oe.data = .fields vs) : CallR (X.suite a ((a, oe) :: pn)) (.builtin "isinstance") (rIsX X.K cls d a) := by
  intro pins s σ H xs us Q I r h
  obtain ⟨D, c, cv, b, rfl, rfl, C, e, hcv, k, q⟩ := h
  exact call_isE C hz hf pins s σ H xs us Q I r ⟨c, cv, b, e, hcv, k, q⟩
theorem x_isXr {K : PySem.W.Frag} {D a C : Addr} {b : Bool} {H : Hp} {Q : VK} (C0 : ExcC K D) (k : PySem.W.kitOne K (.ref D) (.ref C) = some b) (q : Q (.bl b) H) : rIsX K (.ref D) none a [.ref a, .ref C] H Q :=
  ⟨D, .ref C, .ref C, b, rfl, rfl, C0, rfl, fun u h => h, k, q⟩
theorem x_isXt {K : PySem.W.Frag} {D a : Addr} {T : String} {b : Bool} {H : Hp} {Q : VK} (C0 : ExcC K D) (k : PySem.W.kitOne K (.ref D) (.type T) = some b) (q : Q (.bl b) H) : rIsX K (.ref D) none a [.ref a, .ty T] H Q :=
  ⟨D, .ty T, .type T, b, rfl, rfl, C0, rfl, fun u h => h, k, q⟩
instance slot_set {σ σ' : L2.St} {i n : Nat} {o : Option V} {v : V} [a : SetS σ i o σ'] [b : Slot σ' n v] : Slot (σ.set i o) n v := ⟨by rw [a.h]; exact b.h⟩
instance sets_set {σ σ1 σ2 : L2.St} {i n : Nat} {o o' : Option V} [a : SetS σ i o σ1] [b : SetS σ1 n o' σ2] : SetS (σ.set i o) n o' σ2 := ⟨by rw [a.h]; exact b.h⟩
end G

set_option Elab.async false
set_option linter.all false
set_option maxRecDepth 100000
set_option synthInstance.maxHeartbeats 0
set_option synthInstance.maxSize 100000
/-! A heap in parts: what stands in it is told by a list of parts that stand apart (but for what never changes). -/
namespace G
open PySem PySem.Spec PyProof.Rows L2 Evl RZ
/-! ### what never changes once it stands -/
def Per : HO → Prop
  | .tup _ => True
  | _ => False
/-- what never changes is kept -/
def PK (H H' : Hp) : Prop := ∀ a o, Per o → H a = some o → H' a = some o
theorem PK.refl {H : Hp} : PK H H := fun _ _ _ h => h
theorem PK.trans {H H1 H2 : Hp} (a : PK H H1) (b : PK H1 H2) : PK H H2 := fun x o p h => b x o p (a x o p h)
theorem PK.of_ex {H H1 : Hp} (e : Ex H H1) : PK H H1 := fun x o _ h => e x o h
theorem PK.upd {H : Hp} {a : Addr} {o u : HO} (h : H a = some o) (n : ¬ Per o) : PK H (upd H a u) := fun x w p hx => by
  have ne : x ≠ a := fun e => by
    rw [e, h] at hx
    cases hx
    exact n p
  rw [upd_ne ne]
  exact hx
theorem PK.tup {H H' : Hp} {a : Addr} {xs : List V} (p : PK H H') (h : H a = some (.tup xs)) : H' a = some (.tup xs) := p _ _ trivial h
/-! ### data: ints, texts, bools, None, tuples of them -/
mutual
inductive Tp (H : Hp) : V → PyData → Prop
  | non : Tp H .non .none
  | bl (b : Bool) : Tp H (.bl b) (.bool b)
  | int (i : Int) : Tp H (.int i) (.int i)
  | str (x : Str) : Tp H (.str x) (.str x)
  | tup {a : Addr} {xs : List V} {ds : List PyData} : H a = some (.tup xs) → TpAll H xs ds → Tp H (.ref a) (.tuple ds)
inductive TpAll (H : Hp) : List V → List PyData → Prop
  | nil : TpAll H [] []
  | cons {v : V} {vs : List V} {d : PyData} {ds : List PyData} : Tp H v d → TpAll H vs ds → TpAll H (v :: vs) (d :: ds)
end
mutual
theorem Tp.pk {H H' : Hp} (p : PK H H') : ∀ {v : V} {d : PyData}, Tp H v d → Tp H' v d
  | _, _, .non => .non
  | _, _, .bl b => .bl b
  | _, _, .int i => .int i
  | _, _, .str x => .str x
  | _, _, .tup s a => .tup (p.tup s) (TpAll.pk p a)
theorem TpAll.pk {H H' : Hp} (p : PK H H') : ∀ {vs : List V} {ds : List PyData}, TpAll H vs ds → TpAll H' vs ds
  | _, _, .nil => .nil
  | _, _, .cons a r => .cons (Tp.pk p a) (TpAll.pk p r)
end
mutual
theorem Tp.dp {K : PySem.W.Frag} {H : Hp} : ∀ {v : V} {d : PyData}, Tp H v d → Dp K H v d
  | _, _, .non => .non
  | _, _, .bl b => .bl b
  | _, _, .int i => .int i
  | _, _, .str x => .str x
  | _, _, .tup s a => .tup (SqT.of s) (TpAll.dp a)
theorem TpAll.dp {K : PySem.W.Frag} {H : Hp} : ∀ {vs : List V} {ds : List PyData}, TpAll H vs ds → DpAll K H vs ds
  | _, _, .nil => .nil
  | _, _, .cons a r => .cons (Tp.dp a) (TpAll.dp r)
end
theorem TpAll.len {H : Hp} : ∀ {vs : List V} {ds : List PyData}, TpAll H vs ds → vs.length = ds.length
  | _, _, .nil => rfl
  | _, _, .cons _ r => congrArg (· + 1) r.len
theorem TpAll.get {H : Hp} : ∀ {vs : List V} {ds : List PyData} {i : Nat} {v : V}, TpAll H vs ds → vs[i]? = some v → ∃ d, ds[i]? = some d ∧ Tp H v d
  | _, _, _, _, .nil, h => by simp at h
  | _, _, 0, _, .cons a _, h => by
    have e := Option.some.inj h
    subst e
    exact ⟨_, rfl, a⟩
  | _, _, i + 1, v, .cons _ r, h => TpAll.get (i := i) r h
theorem TpAll.app {H : Hp} : ∀ {vs ws : List V} {ds es : List PyData}, TpAll H vs ds → TpAll H ws es → TpAll H (vs ++ ws) (ds ++ es)
  | _, _, _, _, .nil, b => b
  | _, _, _, _, .cons a r, b => .cons a (TpAll.app r b)
theorem TpAll.strs {H : Hp} : ∀ ns : List Str, TpAll H (ns.map V.str) (ns.map PyData.str)
  | [] => .nil
  | n :: r => .cons (.str n) (TpAll.strs r)
theorem TpAll.ints {H : Hp} : ∀ ns : List Int, TpAll H (ns.map V.int) (ns.map PyData.int)
  | [] => .nil
  | n :: r => .cons (.int n) (TpAll.ints r)
/-! ### parts -/
abbrev Res := Hp → Prop
def Apart (h k : Hp) : Prop := ∀ a o, h a = some o → k a ≠ none → Per o
def SatL (H : Hp) : List Res → List Hp → Prop
  | [], [] => True
  | R :: Rs, h :: hs => R h ∧ Ex h H ∧ (∀ k ∈ hs, Apart h k ∧ Apart k h) ∧ SatL H Rs hs
  | _, _ => False
class Sat (H : Hp) (Rs : outParam (List Res)) : Prop where
  ex : ∃ hs, SatL H Rs hs
/-- the same, no class (a hypothesis that ends in a class is taken for an instance) -/
structure SatP (H : Hp) (Rs : List Res) : Prop where
  s : Sat H Rs
/-- one cell -/
def cell (a : Addr) (o : HO) : Res := fun h => h a = some o
theorem Ex.up {H : Hp} {p : Addr} {o : HO} (h : H p = some o) : Ex (fun a => if a = p then some o else none) H := fun a u e => by
  by_cases c : a = p
  · subst c
    simp only [if_true] at e
    cases e
    exact h
  · simp [c] at e
theorem SatL.mono {H H' : Hp} (e : Ex H H') : ∀ {Rs : List Res} {hs : List Hp}, SatL H Rs hs → SatL H' Rs hs
  | [], [], _ => trivial
  | _ :: _, _ :: _, ⟨r, x, d, t⟩ => ⟨r, x.trans e, d, SatL.mono e t⟩
  | [], _ :: _, h => h.elim
  | _ :: _, [], h => h.elim
theorem Sat.nil {H : Hp} : Sat H [] := ⟨[], trivial⟩
theorem Sat.mono {H H' : Hp} {Rs : List Res} (S : Sat H Rs) (e : Ex H H') : Sat H' Rs := by
  obtain ⟨hs, h⟩ := S.ex
  exact ⟨hs, h.mono e⟩
theorem Sat.tail {H : Hp} {R : Res} {Rs : List Res} (S : Sat H (R :: Rs)) : Sat H Rs := by
  obtain ⟨hs, h⟩ := S.ex
  match hs, h with
  | _ :: hs, ⟨_, _, _, t⟩ => exact ⟨hs, t⟩
theorem Sat.swap {H : Hp} {R S : Res} {Rs : List Res} (h : Sat H (R :: S :: Rs)) : Sat H (S :: R :: Rs) := by
  obtain ⟨hs, h⟩ := h.ex
  match hs, h with
  | h :: k :: hs, ⟨r, x, d, s, y, e, t⟩ =>
    refine ⟨k :: h :: hs, s, y, fun z hz => ?_, r, x, fun z hz => d z (List.mem_cons_of_mem _ hz), t⟩
    rcases List.mem_cons.mp hz with rfl | hz
    · exact (d k List.mem_cons_self).symm
    · exact e z hz
theorem Sat.under {H : Hp} {R : Res} {Rs Ss : List Res} (k : ∀ H' : Hp, ∀ hs, SatL H' Rs hs → ∃ hs', SatL H' Ss hs' ∧ ∀ z : Hp, (∀ q ∈ hs, Apart z q ∧ Apart q z) → ∀ q ∈ hs', Apart z q ∧ Apart q z) (h : Sat H (R :: Rs)) : Sat H (R :: Ss) := by
  obtain ⟨hs, h⟩ := h.ex
  match hs, h with
  | h :: hs, ⟨r, x, d, t⟩ =>
    obtain ⟨hs', t', d'⟩ := k H hs t
    exact ⟨h :: hs', r, x, d' h d, t'⟩
theorem satL_perm {Rs Ss : List Res} (p : Rs.Perm Ss) : ∀ (H : Hp) (hs : List Hp), SatL H Rs hs → ∃ hs', SatL H Ss hs' ∧ ∀ z : Hp, (∀ q ∈ hs, Apart z q ∧ Apart q z) → ∀ q ∈ hs', Apart z q ∧ Apart q z := by
  induction p with
  | nil => exact fun H hs h => ⟨hs, h, fun z d => d⟩
  | cons R p ih =>
    intro H hs h
    match hs, h with
    | h :: hs, ⟨r, x, d, t⟩ =>
      obtain ⟨hs', t', d'⟩ := ih H hs t
      refine ⟨h :: hs', ⟨r, x, d' h d, t'⟩, fun z dz q hq => ?_⟩
      rcases List.mem_cons.mp hq with rfl | hq
      · exact dz _ List.mem_cons_self
      · exact d' z (fun q hq => dz q (List.mem_cons_of_mem _ hq)) q hq
  | swap R S Rs =>
    intro H hs h
    match hs, h with
    | h :: k :: hs, ⟨r, x, d, s, y, e, t⟩ =>
      refine ⟨k :: h :: hs, ⟨s, y, fun z hz => ?_, r, x, fun z hz => d z (List.mem_cons_of_mem _ hz), t⟩, fun z dz q hq => ?_⟩
      · rcases List.mem_cons.mp hz with rfl | hz
        · exact (d k List.mem_cons_self).symm
        · exact e z hz
      · refine dz q ?_
        simp only [List.mem_cons] at hq ⊢
        rcases hq with h | h | h
        · exact .inr (.inl h)
        · exact .inl h
        · exact .inr (.inr h)
  | trans _ _ ih1 ih2 =>
    intro H hs h
    obtain ⟨h1, t1, d1⟩ := ih1 H hs h
    obtain ⟨h2, t2, d2⟩ := ih2 H h1 t1
    exact ⟨h2, t2, fun z d => d2 z (d1 z d)⟩
theorem Sat.perm {H : Hp} {Rs Ss : List Res} (S : Sat H Rs) (p : Rs.Perm Ss) : Sat H Ss := by
  obtain ⟨hs, h⟩ := S.ex
  obtain ⟨hs', h', _⟩ := satL_perm p H hs h
  exact ⟨hs', h'⟩
theorem Sat.get {H : Hp} {a : Addr} {o : HO} {Rs : List Res} (S : Sat H (cell a o :: Rs)) : H a = some o := by
  obtain ⟨hs, h⟩ := S.ex
  match hs, h with
  | _ :: _, ⟨r, x, _, _⟩ => exact x _ _ r
/-- a part weakened -/
theorem Sat.imp {H : Hp} {R R' : Res} {Rs : List Res} (S : Sat H (R :: Rs)) (k : ∀ h, Ex h H → R h → R' h) : Sat H (R' :: Rs) := by
  obtain ⟨hs, h⟩ := S.ex
  match hs, h with
  | h :: hs, ⟨r, x, d, t⟩ => exact ⟨h :: hs, k h x r, x, d, t⟩
theorem Sat.fact {H : Hp} {R : Res} {Rs : List Res} {P : Prop} (S : Sat H (R :: Rs)) (k : ∀ h, Ex h H → R h → P) : P := by
  obtain ⟨hs, h⟩ := S.ex
  match hs, h with
  | h :: hs, ⟨r, x, d, t⟩ => exact k h x r
theorem satL_dom {H : Hp} : ∀ {Rs : List Res} {hs : List Hp}, SatL H Rs hs → ∀ k ∈ hs, Ex k H
  | [], [], _, k, hk => by simp at hk
  | _ :: _, h :: hs, ⟨_, x, _, t⟩, k, hk => by
    rcases List.mem_cons.mp hk with rfl | hk
    · exact x
    · exact satL_dom t k hk
  | [], _ :: _, h, _, _ => h.elim
  | _ :: _, [], h, _, _ => h.elim
/-- a new cell -/
theorem Sat.new {H : Hp} {p : Addr} {o : HO} {Rs : List Res} (S : Sat H Rs) (hp : H p = none) : Sat (upd H p o) (cell p o :: Rs) := by
  obtain ⟨hs, h⟩ := S.ex
  refine ⟨(fun a => if a = p then some o else none) :: hs, if_pos rfl, Ex.up upd_same, fun k hk => ?_, h.mono (Ex.new hp)⟩
  have ek := satL_dom h k hk
  have kp : k p = none := by
    cases e : k p with
    | none => rfl
    | some u => rw [ek _ _ e] at hp; cases hp
  refine ⟨fun a u e n => ?_, fun a u e n => ?_⟩
  · by_cases c : a = p
    · subst c; exact absurd kp n
    · simp [c] at e
  · by_cases c : a = p
    · subst c; rw [kp] at e; cases e
    · simp [c] at n
/-- a cell changed -/
theorem satL_upd {H : Hp} {p : Addr} {o' : HO} : ∀ {Rs : List Res} {hs : List Hp}, SatL H Rs hs → (∀ k ∈ hs, k p = none) → SatL (upd H p o') Rs hs
  | [], [], _, _ => trivial
  | _ :: _, h :: hs, ⟨r, x, d, t⟩, n => ⟨r, fun a u e => by
      have c : a ≠ p := fun c => by rw [c, n h List.mem_cons_self] at e; cases e
      rw [upd_ne c]
      exact x a u e, d, satL_upd t fun k hk => n k (List.mem_cons_of_mem _ hk)⟩
  | [], _ :: _, h, _ => h.elim
  | _ :: _, [], h, _ => h.elim
theorem Sat.set {H : Hp} {p : Addr} {o o' : HO} {Rs : List Res} (S : Sat H (cell p o :: Rs)) (n : ¬ Per o) : Sat (upd H p o') (cell p o' :: Rs) := by
  obtain ⟨hs, h⟩ := S.ex
  match hs, h with
  | h :: hs, ⟨r, x, d, t⟩ =>
    have kn : ∀ k ∈ hs, k p = none := fun k hk => by
      cases e : k p with
      | none => rfl
      | some u => exact absurd ((d k hk).1 p o r (by rw [e]; exact Option.some_ne_none u)) n
    refine ⟨(fun a => if a = p then some o' else none) :: hs, if_pos rfl, Ex.up upd_same, fun k hk => ⟨fun a u e q => ?_, fun a u e q => ?_⟩, satL_upd t kn⟩
    · by_cases c : a = p
      · subst c; exact absurd (kn k hk) q
      · simp [c] at e
    · by_cases c : a = p
      · subst c; rw [kn k hk] at e; cases e
      · simp [c] at q
theorem Sat.pkset {H : Hp} {p : Addr} {o o' : HO} {Rs : List Res} (S : Sat H (cell p o :: Rs)) (n : ¬ Per o) : PK H (upd H p o') := PK.upd S.get n
/-! ### parts put together -/
/-- several parts as one -/
def star (Rs : List Res) : Res := fun h => Sat h Rs
theorem satL_app {H : Hp} : ∀ {As Bs : List Res} {xs ys : List Hp}, SatL H As xs → SatL H Bs ys → (∀ x ∈ xs, ∀ y ∈ ys, Apart x y ∧ Apart y x) → SatL H (As ++ Bs) (xs ++ ys)
  | [], _, [], _, _, b, _ => b
  | _ :: _, _, x :: xs, ys, ⟨r, e, d, t⟩, b, q => ⟨r, e, fun k hk => by
      rcases List.mem_append.mp hk with h | h
      · exact d k h
      · exact q x List.mem_cons_self k h, satL_app t b fun z hz y hy => q z (List.mem_cons_of_mem _ hz) y hy⟩
  | [], _, _ :: _, _, h, _, _ => h.elim
  | _ :: _, _, [], _, h, _, _ => h.elim
theorem satL_split {H : Hp} : ∀ {As Bs : List Res} {zs : List Hp}, SatL H (As ++ Bs) zs → ∃ xs ys, zs = xs ++ ys ∧ SatL H As xs ∧ SatL H Bs ys ∧ (∀ x ∈ xs, ∀ y ∈ ys, Apart x y ∧ Apart y x)
  | [], _, zs, h => ⟨[], zs, rfl, trivial, h, fun x hx => by simp at hx⟩
  | _ :: As, Bs, z :: zs, ⟨r, e, d, t⟩ => by
    obtain ⟨xs, ys, rfl, h1, h2, h3⟩ := satL_split (As := As) (Bs := Bs) t
    refine ⟨z :: xs, ys, rfl, ⟨r, e, fun k hk => d k (List.mem_append_left _ hk), h1⟩, h2, fun x hx y hy => ?_⟩
    rcases List.mem_cons.mp hx with rfl | hx
    · exact d y (List.mem_append_right _ hy)
    · exact h3 x hx y hy
  | _ :: _, _, [], h => h.elim
theorem Sat.open_ {H : Hp} {As Bs : List Res} (S : Sat H (star As :: Bs)) : Sat H (As ++ Bs) := by
  obtain ⟨hs, h⟩ := S.ex
  match hs, h with
  | h :: hs, ⟨r, x, d, t⟩ =>
    obtain ⟨xs, hx⟩ := r.ex
    refine ⟨xs ++ hs, satL_app (hx.mono x) t fun z hz y hy => ?_⟩
    have ez := satL_dom hx z hz
    exact ⟨fun a o e n => (d y hy).1 a o (ez a o e) n, fun a o e n => (d y hy).2 a o e fun q => by
      cases c : z a with
      | none => exact n c
      | some u => rw [ez a u c] at q; cases q⟩
theorem Sat.close {H : Hp} {As Bs : List Res} (S : Sat H (As ++ Bs)) : Sat H (star As :: Bs) := by
  obtain ⟨zs, h⟩ := S.ex
  obtain ⟨xs, ys, rfl, h1, h2, h3⟩ := satL_split h
  classical
  have ex : ∀ x ∈ xs, Ex x (fun a => if ∃ x ∈ xs, x a ≠ none then H a else none) := fun x hx a o e => by
    have : ∃ x ∈ xs, x a ≠ none := ⟨x, hx, by rw [e]; exact Option.some_ne_none o⟩
    simp only [this, if_true]
    exact satL_dom h1 x hx a o e
  have re : ∀ {Rs : List Res} {zs : List Hp}, SatL H Rs zs → (∀ x ∈ zs, x ∈ xs) → SatL (fun a => if ∃ x ∈ xs, x a ≠ none then H a else none) Rs zs := by
    intro Rs
    induction Rs with
    | nil => intro zs h _; cases zs with
      | nil => trivial
      | cons _ _ => exact h.elim
    | cons R Rs ih =>
      intro zs h m
      cases zs with
      | nil => exact h.elim
      | cons z zs =>
        obtain ⟨r, e, d, t⟩ := h
        exact ⟨r, ex z (m z List.mem_cons_self), d, ih t fun x hx => m x (List.mem_cons_of_mem _ hx)⟩
  refine ⟨(fun a => if ∃ x ∈ xs, x a ≠ none then H a else none) :: ys, ⟨xs, re h1 fun _ h => h⟩, fun a o e => ?_, fun y hy => ⟨fun a o e n => ?_, fun a o e n => ?_⟩, h2⟩
  · by_cases c : ∃ x ∈ xs, x a ≠ none
    · simp only [c, if_true] at e; exact e
    · simp only [c, if_false] at e; cases e
  · by_cases c : ∃ x ∈ xs, x a ≠ none
    · simp only [c, if_true] at e
      obtain ⟨x, hx, nx⟩ := c
      cases q : x a with
      | none => exact absurd q nx
      | some u =>
        have := satL_dom h1 x hx a u q
        rw [e] at this
        cases this
        exact (h3 x hx y hy).1 a o q n
    · simp only [c, if_false] at e; cases e
  · by_cases c : ∃ x ∈ xs, x a ≠ none
    · obtain ⟨x, hx, nx⟩ := c
      exact (h3 x hx y hy).2 a o e nx
    · simp only [c, if_false] at n; exact absurd rfl n
theorem Sat.exE {H : Hp} {α : Type} {f : α → Res} {Rs : List Res} (S : Sat H ((fun h => ∃ x, f x h) :: Rs)) : ∃ x, Sat H (f x :: Rs) := by
  obtain ⟨hs, h⟩ := S.ex
  match hs, h with
  | h :: hs, ⟨⟨x, r⟩, e, d, t⟩ => exact ⟨x, ⟨h :: hs, r, e, d, t⟩⟩
theorem Sat.exI {H : Hp} {α : Type} {f : α → Res} {Rs : List Res} (x : α) (S : Sat H (f x :: Rs)) : Sat H ((fun h => ∃ x, f x h) :: Rs) := S.imp fun _ _ r => ⟨x, r⟩
/-- what never changes may stand in two parts -/
theorem Sat.per {H : Hp} {p : Addr} {o : HO} {Rs : List Res} (S : Sat H Rs) (h : H p = some o) (n : Per o) : Sat H (cell p o :: Rs) := by
  obtain ⟨hs, t⟩ := S.ex
  refine ⟨(fun a => if a = p then some o else none) :: hs, if_pos rfl, Ex.up h, fun k hk => ⟨fun a u e q => ?_, fun a u e q => ?_⟩, t⟩
  · by_cases c : a = p
    · subst c; simp only [if_true] at e; cases e; exact n
    · simp [c] at e
  · by_cases c : a = p
    · subst c
      have := satL_dom t k hk _ _ e
      rw [h] at this
      cases this
      exact n
    · simp [c] at q
/-- the same of anything that leans on what never changes alone -/
def perOf (H : Hp) : Hp := fun a => match H a with
  | some (.tup xs) => some (.tup xs)
  | _ => none
theorem perOf_ex (H : Hp) : Ex (perOf H) H := fun a o e => by
  unfold perOf at e
  split at e
  · next h => cases e; exact h
  · cases e
theorem perOf_per {H : Hp} {a : Addr} {o : HO} (e : perOf H a = some o) : Per o := by
  unfold perOf at e
  split at e
  · cases e; trivial
  · cases e
theorem perOf_pk (H : Hp) : PK H (perOf H) := fun a o p h => by
  unfold perOf
  cases o with
  | tup xs => rw [h]
  | _ => exact p.elim
theorem Sat.perR {H : Hp} {R : Res} {Rs : List Res} (S : Sat H Rs) (h : R (perOf H)) : Sat H (R :: Rs) := by
  obtain ⟨hs, t⟩ := S.ex
  refine ⟨perOf H :: hs, h, perOf_ex H, fun k hk => ⟨fun a u e q => perOf_per e, fun a u e q => ?_⟩, t⟩
  cases c : perOf H a with
  | none => exact absurd c q
  | some z =>
    have h1 := perOf_ex H _ _ c
    have h2 := satL_dom t k hk _ _ e
    rw [h1] at h2
    cases h2
    exact perOf_per c
/-! ### a part by its place -/
class Foc {α β : Type} (fam : α → β → Res) (a : α) (b : outParam β) (Rs : List Res) (T : outParam (List Res)) (F : outParam (Res → List Res)) : Prop where
  perm : ∀ X, (X :: T).Perm (F X)
  eq : F (fam a b) = Rs
instance foc_0 {α β : Type} {fam : α → β → Res} {a : α} {b : β} {Rs : List Res} : Foc fam a b (fam a b :: Rs) Rs (fun X => X :: Rs) := ⟨fun _ => .refl _, rfl⟩
instance foc_s {α β : Type} {fam : α → β → Res} {a : α} {b : β} {S : Res} {Rs T : List Res} {F : Res → List Res} [f : Foc fam a b Rs T F] : Foc fam a b (S :: Rs) (S :: T) (fun X => S :: F X) :=
  ⟨fun X => (List.Perm.swap S X T).trans ((f.perm X).cons S), by rw [f.eq]⟩
section
variable {α β : Type} {fam : α → β → Res} {a : α} {b : β} {Rs T : List Res} {F : Res → List Res} {H : Hp}
theorem Foc.out (f : Foc fam a b Rs T F) (S : Sat H Rs) : Sat H (fam a b :: T) := S.perm (by rw [← f.eq]; exact (f.perm _).symm)
theorem Foc.back (f : Foc fam a b Rs T F) {X : Res} (S : Sat H (X :: T)) : Sat H (F X) := S.perm (f.perm X)
end
theorem foc_perm {α β : Type} {fam : α → β → Res} {a : α} {b : β} {Rs T : List Res} {F : Res → List Res} (f : Foc fam a b Rs T F) : Rs.Perm (fam a b :: T) := by
  have h := f.perm (fam a b)
  rw [f.eq] at h
  exact h.symm
/-- a list of parts that are had among others, in another order -/
inductive SubR : List Res → List Res → Prop
  | nil {Rs : List Res} : SubR [] Rs
  | cons {R : Res} {Rs Ss T : List Res} (h : (R :: T).Perm Ss) (t : SubR Rs T) : SubR (R :: Rs) Ss
theorem Sat.sub {H : Hp} {Rs Ss : List Res} (s : SubR Ss Rs) (S : Sat H Rs) : Sat H Ss := by
  have key : ∀ {Ss Rs : List Res}, SubR Ss Rs → ∃ T, (Ss ++ T).Perm Rs := by
    intro Ss Rs s
    induction s with
    | nil => exact ⟨_, .refl _⟩
    | cons h t ih =>
      obtain ⟨T, q⟩ := ih
      exact ⟨T, (q.cons _).trans h⟩
  have dropR : ∀ {A B : List Res}, Sat H (A ++ B) → Sat H A := by
    intro A B S
    have S2 : Sat H (B ++ A) := S.perm List.perm_append_comm
    clear S
    induction B with
    | nil => exact S2
    | cons b B ih => exact ih S2.tail
  obtain ⟨T, q⟩ := key s
  exact dropR (S.perm q.symm)
class PickR (R : Res) (Ss : List Res) (T : outParam (List Res)) : Prop where
  perm : (R :: T).Perm Ss
instance pick_0 {R : Res} {Rs : List Res} : PickR R (R :: Rs) Rs := ⟨.refl _⟩
instance pick_s {R S : Res} {Rs T : List Res} [p : PickR R Rs T] : PickR R (S :: Rs) (S :: T) := ⟨(List.Perm.swap S R T).trans (p.perm.cons S)⟩
class SubC (Rs Ss : List Res) : Prop where
  sub : SubR Rs Ss
instance subc_nil {Rs : List Res} : SubC [] Rs := ⟨.nil⟩
theorem SubR.refl : ∀ Rs : List Res, SubR Rs Rs
  | [] => .nil
  | _ :: r => .cons (.refl _) (SubR.refl r)
theorem SubR.skip {Rs Ss : List Res} {S : Res} (h : SubR Rs Ss) : SubR Rs (S :: Ss) := by
  induction h with
  | nil => exact .nil
  | @cons R Rs Ss T h t ih => exact .cons ((List.Perm.swap S R T).trans (h.cons S)) ih
class Suf (Rs Ss : List Res) : Prop where
  sub : SubR Rs Ss
instance suf_skip {Rs Ss : List Res} {S : Res} [s : Suf Rs Ss] : Suf Rs (S :: Ss) := ⟨s.sub.skip⟩
instance suf_refl {Rs : List Res} : Suf Rs Rs := ⟨SubR.refl Rs⟩
instance (priority := low) subc_suf {Rs Ss : List Res} [s : Suf Rs Ss] : SubC Rs Ss := ⟨s.sub⟩
instance subc_cons {R : Res} {Rs Ss T : List Res} [p : PickR R Ss T] [s : SubC Rs T] : SubC (R :: Rs) Ss := ⟨.cons p.perm s.sub⟩
theorem Sat.pick {H : Hp} {Rs Ss : List Res} (S : Sat H Rs) [s : SubC Ss Rs] : Sat H Ss := S.sub s.sub
/-! ### classes -/
structure DnM (P : Program) (w : World) (K : PySem.W.Frag) (mg : Str → Option Value) (base : Heap) (CX : CXT) (k : Nat) (f : Addr) (ps : List Str) (sp : Sp) : Prop where
  ex : ∃ fd, FnOk P w K mg base CX k f fd ps sp ∧ Binds K fd ps []
section
variable {P : Program} {w : World} {K : PySem.W.Frag} {mg : Str → Option Value} {base : Heap} {C m qual : Str} {st : Stmt} {N ps : List Str} {k : Nat} {sp : Sp}
abbrev BindOk (m qual : Str) (st : Stmt) (ps : List Str) : Prop := ∀ (kV doc pm : Value) (an : Option Addr) (cdv ct : Value) (us : List Value), us.length = ps.length → bindArgs (PySem.W.fnOf m qual (defArgs st) (defBody st) (defScope st) .none kV doc pm an cdv ct) ⟨us, []⟩ = pure (ps.zip us)
theorem Mf.dm (F : Mf K C m qual st) (S : FnScope N ps (defScope st)) (hb : BindOk m qual st ps) (len : ∀ vs H Q E, sp vs H Q E → vs.length = ps.length)
    (hbody : ∀ (f : Addr) (cdv : Value) (A : Around) (outer : List Env) (s : Shared) (H : Hp) (vs : List V) (Q : VK) (E : XK), Room k (A.deeper (envOfC qual (defScope st) s.heap.objs.size f cdv)) → (cxOf CX0 P w K mg base N qual (defScope st) f cdv A outer s H E).nox.K = K → sp vs H Q E →
      ∃ t, PSs (cxOf CX0 P w K mg base N qual (defScope st) f cdv A outer s H E).nox (defBody st) t ∧ t { nx := fun _ H' => Q .non H', rt := Q } (start N vs) H) : DnM P w K mg base CX0 (k + 1) (He.ma K (He.ga K C) m) ps sp := by
  obtain ⟨fd, F⟩ := F.ex
  exact ⟨fd, F.ok S len (fun cdv A outer s H vs Q E hr h => hbody _ cdv A outer s H vs Q E hr rfl h), F.binds hb⟩
theorem Mf.dmX (F : Mf K C m qual st) (S : FnScope N ps (defScope st)) (hb : BindOk m qual st ps) (len : ∀ vs H Q E, sp vs H Q E → vs.length = ps.length)
    (hbody : ∀ (f : Addr) (cdv : Value) (A : Around) (outer : List Env) (s : Shared) (H : Hp) (vs : List V) (Q : VK) (E : XK), Room k (A.deeper (envOfC qual (defScope st) s.heap.objs.size f cdv)) → (cxOf (L2.CX P w) P w K mg base N qual (defScope st) f cdv A outer s H E).K = K → sp vs H Q E →
      ∃ t, PSs (cxOf (L2.CX P w) P w K mg base N qual (defScope st) f cdv A outer s H E) (defBody st) t ∧ t { nx := fun _ H' => Q .non H', rt := Q } (start N vs) H) : DnM P w K mg base (L2.CX P w) (k + 1) (He.ma K (He.ga K C) m) ps sp := by
  obtain ⟨fd, F⟩ := F.ex
  exact ⟨fd, F.okX S len (fun cdv A outer s H vs Q E hr h => hbody _ cdv A outer s H vs Q E hr rfl h), F.binds hb⟩
theorem Mf.dmN (F : Mf K C m qual st) (S : FnScope N ps (defScope st)) (hb : BindOk m qual st ps) (len : ∀ vs H Q E, sp vs H Q E → vs.length = ps.length)
    (hbody : ∀ (f : Addr) (cdv : Value) (A : Around) (outer : List Env) (s : Shared) (H : Hp) (vs : List V) (Q : VK) (E : XK), Room k (A.deeper (envOfC qual (defScope st) s.heap.objs.size f cdv)) → (cxOf (L2N.CX P w) P w K mg base N qual (defScope st) f cdv A outer s H E).K = K → sp vs H Q E →
      ∃ t, PSs (cxOf (L2N.CX P w) P w K mg base N qual (defScope st) f cdv A outer s H E) (defBody st) t ∧ t { nx := fun _ H' => Q .non H', rt := Q } (start N vs) H) : DnM P w K mg base (L2N.CX P w) (k + 1) (He.ma K (He.ga K C) m) ps sp := by
  obtain ⟨fd, F⟩ := F.ex
  obtain ⟨oc, od, kV, doc, pm, an, cdv, ct, osl, rfl, lk, hcd⟩ := F.ex
  exact ⟨_, fn_of lk hcd S len (fun A outer s H vs Q E hr hsp => hbody _ cdv A outer s H vs Q E hr rfl hsp), F.binds hb⟩
end
theorem passN {P : Program} {w : World} {K : PySem.W.Frag} {mg : Str → Option Value} {base : Heap} {N : List Str} {qual : Str} {scope : Scope} {f : Addr} {cdv : Value} {A : Around} {outer : List Env} {s : Shared} {H : Hp} {E : XK} :
    Passes (L2N.CX P w) (cxOf (L2N.CX P w) P w K mg base N qual scope f cdv A outer s H E) E := L2N.passes_call (L2N.takes_of rfl rfl rfl rfl) fun _ _ _ _ h => h
theorem passNL {X : Cx} : Passes (L2N.CX X.prog X.w) X E0 := fun _ _ _ _ _ _ _ h => by
  obtain ⟨_, _, _, _, _, _, _, _, _, _, _, _, z⟩ := h
  exact z.elim
section
variable {X : Cx} {CX : CXT} {k : Nat} {C f : Addr} {ps : List Str} {sp : Sp} {E : XK} {ES : L2.St → XK} {x m : Str} {p pos apos : Pos} {e o : Expr} {es : List Expr} {ta : TE} {t : TA}
theorem pe_mk (M : Mk X.K C f) (D : DnM X.prog X.w X.K X.mg X.base CX k f ps sp) (hr : Room (k + 1) X.A) (hx : Passes CX X E) (hm : X.mg x = some (.ref C)) (ha : PA X (e :: es) t) (hg : Gl X x := by rfl)
    (hdb : (x == ("__debug__" : Str)) = false := by decide) (he : starEach (e :: es) X.env = (false, eval e X.env) :: starEach es X.env := by rfl) (hpl : (backTo pos (starEach es X.env)).any (·.1) = false := by rfl) :
    PE X (.Call (.Name x p) (e :: es) [] pos) (tMake C sp [] E t) := by
  obtain ⟨fd, F, hb⟩ := D.ex
  exact pe_make M F hr hg hm hb .nil hx ha hdb he hpl
theorem pe_mk0 (M : Mk X.K C f) (D : DnM X.prog X.w X.K X.mg X.base CX k f ps sp) (hr : Room (k + 1) X.A) (hx : Passes CX X E) (hm : X.mg x = some (.ref C)) (hg : Gl X x := by rfl)
    (hdb : (x == ("__debug__" : Str)) = false := by decide) : PE X (.Call (.Name x p) [] [] pos) (tMake C sp [] E tNil) := by
  obtain ⟨fd, F, hb⟩ := D.ex
  exact pe_make0 M F hr hg hm hb .nil hx hdb
theorem pe_mt {pl : Sem Bool} (he : PE X o ta) (c : Cls X.K C) (hm : Meth X.K C m f) (D : DnM X.prog X.w X.K X.mg X.base CX k f ps sp) (hr : Room k X.A) (hx : Passes CX X E) (ha : PA X (e :: es) t)
    (hst : starEach (e :: es) X.env = (false, eval e X.env) :: starEach es X.env := by rfl) (hpl : (backTo pos (starEach es X.env)).any (·.1) = false := by rfl)
    (ht : eval (.Call (.Attribute o m apos) (e :: es) [] pos) X.env = (do
      let ov ← eval o X.env
      standAt apos.atName
      let (f, first) ← holding [ov] (getMethod ov m pl)
      callWith pos f first (backTo pos (starEach (e :: es) X.env)) (backToKw pos (keywordEach [] X.env))) := by rfl) :
    PE X (.Call (.Attribute o m apos) (e :: es) [] pos) (tMeth C m sp [] E ta t) := by
  obtain ⟨fd, F, hb⟩ := D.ex
  exact pe_meth he c hm F hr hb .nil hx ha hst hpl ht
theorem pe_mt0 {pl : Sem Bool} (he : PE X o ta) (c : Cls X.K C) (hm : Meth X.K C m f) (D : DnM X.prog X.w X.K X.mg X.base CX k f ps sp) (hr : Room k X.A) (hx : Passes CX X E)
    (ht : eval (.Call (.Attribute o m apos) [] [] pos) X.env = (do
      let ov ← eval o X.env
      standAt apos.atName
      let (f, first) ← holding [ov] (getMethod ov m pl)
      callWith pos f first (backTo pos (starEach [] X.env)) (backToKw pos (keywordEach [] X.env))) := by rfl) :
    PE X (.Call (.Attribute o m apos) [] [] pos) (tMeth C m sp [] E ta tNil) := by
  obtain ⟨fd, F, hb⟩ := D.ex
  exact pe_meth0 he c hm F hr hb .nil hx ht
/-- a method's call in a try -/
def tMethS (C : Addr) (m : Str) (sp : Sp) (ES : L2.St → XK) (ta : TE) (t : TA) : TE := fun σ H Q => ta σ H fun x H1 => ∃ a dx fs, x = .ref a ∧ H1 a = some (.ins C dx fs) ∧ fs.lookup m = none ∧
  t σ H1 fun vs H2 => sp (x :: vs) H2 Q (ES σ)
theorem pe_mtS {pl : Sem Bool} (he : PE X o ta) (c : Cls X.K C) (hm : Meth X.K C m f) (D : DnM X.prog X.w X.K X.mg X.base CX k f ps sp) (hr : Room k X.A) (hx : ∀ σ, PassesAt CX X σ (ES σ)) (ha : PA X (e :: es) t)
    (hst : starEach (e :: es) X.env = (false, eval e X.env) :: starEach es X.env := by rfl) (hpl : (backTo pos (starEach es X.env)).any (·.1) = false := by rfl)
    (ht : eval (.Call (.Attribute o m apos) (e :: es) [] pos) X.env = (do
      let ov ← eval o X.env
      standAt apos.atName
      let (f, first) ← holding [ov] (getMethod ov m pl)
      callWith pos f first (backTo pos (starEach (e :: es) X.env)) (backToKw pos (keywordEach [] X.env))) := by rfl) :
    PE X (.Call (.Attribute o m apos) (e :: es) [] pos) (tMethS C m sp ES ta t) := by
  obtain ⟨fd, F, hb⟩ := D.ex
  refine ⟨fun pins s σ H Q I h => ?_⟩
  refine PySem.W.methodCall_KW (pl := pl) (thn (he.run pins s σ H _ I h) fun u s1 ⟨x, H1, I1, rx, a, dx, fs, ex, ea, l, q⟩ => ?_) ht
  subst ex
  obtain rfl : u = Value.ref a := rx
  refine getmeth_ok I1 ea c hm l ?_
  refine PySem.W.callWith_K (first := [.ref a]) (h₀ := X.base) I.ok.mod.kin hm.kp (thn (ha.run pos pins s1 σ H1 _ I1 q) fun us s2 ⟨vs, H2, I2, r, q2⟩ => ⟨I2.kIn, ?_⟩) hst hpl
  exact run_fnS (us := .ref a :: us) (vs := .ref a :: vs) F hr hb (hx σ) I2 (.cons rfl r) q2
theorem pe_mt0S {pl : Sem Bool} (he : PE X o ta) (c : Cls X.K C) (hm : Meth X.K C m f) (D : DnM X.prog X.w X.K X.mg X.base CX k f ps sp) (hr : Room k X.A) (hx : ∀ σ, PassesAt CX X σ (ES σ))
    (ht : eval (.Call (.Attribute o m apos) [] [] pos) X.env = (do
      let ov ← eval o X.env
      standAt apos.atName
      let (f, first) ← holding [ov] (getMethod ov m pl)
      callWith pos f first (backTo pos (starEach [] X.env)) (backToKw pos (keywordEach [] X.env))) := by rfl) :
    PE X (.Call (.Attribute o m apos) [] [] pos) (tMethS C m sp ES ta tNil) := by
  obtain ⟨fd, F, hb⟩ := D.ex
  refine ⟨fun pins s σ H Q I h => ?_⟩
  refine PySem.W.methodCall_KW (pl := pl) (thn (he.run pins s σ H _ I h) fun u s1 ⟨x, H1, I1, rx, a, dx, fs, ex, ea, l, q⟩ => ?_) ht
  subst ex
  obtain rfl : u = Value.ref a := rx
  refine getmeth_ok I1 ea c hm l ?_
  exact PySem.W.callWith_K0 (first := [.ref a]) I1.kIn hm.kp (run_fnS (us := [.ref a]) (vs := [.ref a]) F hr hb (hx σ) I1 (.cons rfl .nil) q)
/-! ### fields -/
variable {g : Str} {value : Expr} {tv : TE} {pos' : Pos}
def tFldC (C : Addr) (ta : TE) (g : Str) : TE := fun σ H Q => ta σ H fun x H1 => ∃ a dx fs v, x = .ref a ∧ H1 a = some (.ins C dx fs) ∧ fs.lookup g = some v ∧ Q v H1
def sFldC (C : Addr) (ta tv : TE) (g : Str) : TS := fun D σ H => tv σ H fun y H1 => ta σ H1 fun x H2 => ∃ a dx fs, x = .ref a ∧ H2 a = some (.ins C dx fs) ∧ fs.length < 1000 ∧ D.nx σ (upd H2 a (.ins C dx (putF g y fs)))
theorem pe_fldC (c : Cls X.K C) (n : NoAttr X.K C g) (he : PE X e ta) (hb : attributeBase e g X.env (eval e X.env) = eval e X.env) : PE X (.Attribute e g pos) (tFldC C ta g) := by
  refine ⟨fun pins s σ H Q I h => ?_⟩
  refine attr_of hb (thn (he.run pins s σ H _ I h) fun u s1 ⟨x, H1, I1, rx, a, dx, fs, v, ex, ea, l, q⟩ => ?_)
  subst ex
  obtain rfl : u = Value.ref a := rx
  exact getattr_ok I1 ea c n l fun u' s2 I2 ru => ⟨v, H1, I2, ru, q⟩
theorem ps_fldC (c : Cls X.K C) (n : NoAttr X.K C g) (ha : PE X o ta) (hv : PE X value tv) (hs : swapsWith value (some (.Attribute o g pos')) pos.line X.env = pure false) : PS X (.Assign [.Attribute o g pos'] value pos) (sFldC C ta tv g) := by
  refine ⟨fun pins s σ H D I h => ?_⟩
  refine plainObj_wpAny_Assign_Attribute (thn (hv.run pins s σ H _ I h) fun u s1 ⟨y, H1, I1, ry, q⟩ => thn (ha.run pins s1 σ H1 _ I1 q) fun ov s2 ⟨x, H2, I2, rx, a, dx, fs, ex, ea, l, q2⟩ => ?_) hs
  subst ex
  obtain rfl : ov = Value.ref a := rx
  exact setattr_ok I2 ea c n l ry fun s3 I3 => ⟨σ, _, I3, q2⟩
/-- a text of the module -/
def Cs (mg : Str → Option Value) (x : Str) (z : Str) : Prop := ∃ t, mg x = some (.str z t)
theorem pe_csts {z : Str} (c : Cs X.mg x z) (hg : Gl X x := by rfl) (hd : (x == ("__debug__" : Str)) = false := by decide) : PE X (.Name x pos) (tC (.str z)) := by
  obtain ⟨t, h⟩ := c
  exact pe_glob hg h ⟨t, rfl⟩ hd
end
/-! ### data in dicts -/
abbrev KDs := List (Key × PyData)
inductive KD (h : Hp) : List (Key × V) → KDs → Prop
  | nil : KD h [] []
  | cons {k : Key} {v : V} {d : PyData} {r : List (Key × V)} {t : KDs} : Tp h v d → KD h r t → KD h ((k, v) :: r) ((k, d) :: t)
theorem KD.pk {H H' : Hp} (p : PK H H') {kvs : List (Key × V)} {kds : KDs} (r : KD H kvs kds) : KD H' kvs kds := by
  induction r with
  | nil => exact .nil
  | cons a _ ih => exact .cons (a.pk p) ih
theorem KD.len {H : Hp} {kvs : List (Key × V)} {kds : KDs} (r : KD H kvs kds) : kvs.length = kds.length := by
  induction r with
  | nil => rfl
  | cons _ _ ih => exact congrArg (· + 1) ih
def valD (kds : KDs) (k : Key) : Option PyData := (kds.find? fun kv => decide (kv.1 = k)).map (·.2)
def hasD (kds : KDs) (k : Key) : Bool := kds.any fun kv => decide (kv.1 = k)
def putD (kds : KDs) (k : Key) (d : PyData) : KDs := if hasD kds k = true then kds.map (fun kv => if kv.1 = k then (kv.1, d) else kv) else kds ++ [(k, d)]
def dropD (kds : KDs) (k : Key) : KDs := kds.filter fun kv => decide (kv.1 ≠ k)
section
variable {H : Hp} {kvs : List (Key × V)} {kds : KDs} {k : Key} {v : V} {d : PyData}
theorem KD.sm (r : KD H kvs kds) (h : valD kds k = some d) : ∃ v, valV kvs k = some v ∧ Tp H v d := by
  induction r with
  | nil => cases h
  | @cons j v e r t a q ih =>
    by_cases c : j = k
    · have h2 : valD ((j, e) :: t) k = some e := by simp [valD, List.find?_cons, c]
      rw [h2] at h
      cases h
      exact ⟨v, valV_pos (p := (j, v)) c, a⟩
    · have h2 : valD ((j, e) :: t) k = valD t k := by simp [valD, List.find?_cons, c]
      rw [h2] at h
      obtain ⟨u, e1, e2⟩ := ih h
      exact ⟨u, by rw [valV_neg (p := (j, v)) c]; exact e1, e2⟩
theorem KD.any (r : KD H kvs kds) : (kvs.any fun kv => decide (kv.1 = k)) = hasD kds k := by
  unfold hasD
  induction r with
  | nil => rfl
  | cons a q ih => rw [List.any_cons, List.any_cons, ih]
theorem KD.has (r : KD H kvs kds) : (valV kvs k).isSome = hasD kds k := by rw [← valV_any, r.any]
theorem KD.snoc (r : KD H kvs kds) (a : Tp H v d) : KD H (kvs ++ [(k, v)]) (kds ++ [(k, d)]) := by
  induction r with
  | nil => exact .cons a .nil
  | cons b q ih => exact .cons b ih
theorem KD.put (r : KD H kvs kds) (a : Tp H v d) : KD H (putK kvs k v) (putD kds k d) := by
  unfold putK putD
  rw [r.any]
  split
  · next c =>
    clear c
    induction r with
    | nil => exact .nil
    | @cons j u e r t b q ih =>
      rw [List.map_cons, List.map_cons]
      by_cases c : j = k
      · rw [if_pos c, if_pos c]; exact .cons a ih
      · rw [if_neg c, if_neg c]; exact .cons b ih
  · exact r.snoc a
theorem KD.drop (r : KD H kvs kds) : KD H (dropK kvs k) (dropD kds k) := by
  unfold dropK dropD
  induction r with
  | nil => exact .nil
  | @cons j u e r t b q ih =>
    rw [List.filter_cons, List.filter_cons]
    split
    · exact .cons b ih
    · exact ih
theorem KD.keys (r : KD H kvs kds) : kvs.map (fun kv => kV kv.1) = kds.map (fun kv => kV kv.1) := by
  induction r with
  | nil => rfl
  | cons b q ih => rw [List.map_cons, List.map_cons, ih]
theorem KD.at_ {i : Nat} (r : KD H kvs kds) {u : V} (h : kvs[i]? = some (k, u)) : ∃ e, kds[i]? = some (k, e) ∧ Tp H u e := by
  induction r generalizing i with
  | nil => simp at h
  | cons b q ih =>
    cases i with
    | zero => cases h; exact ⟨_, rfl, b⟩
    | succ i => exact ih (i := i) h
end
/-! ### dicts, lists, tuples as parts -/
theorem ex_join {h H : Hp} (e : Ex h H) : ∃ h', Ex h h' ∧ Ex h' H ∧ PK H h' ∧ (∀ k, Apart h k → Apart k h → Ex k H → Apart h' k ∧ Apart k h') := by
  refine ⟨fun a => match h a with | some o => some o | none => perOf H a, fun a o q => by simp only [q], fun a o q => ?_, fun a o p q => ?_, fun k h1 h2 ek => ⟨fun a o q n => ?_, fun a o q n => ?_⟩⟩
  · cases c : h a with
    | some u => simp only [c] at q; cases q; exact e a _ c
    | none => simp only [c] at q; exact perOf_ex H a o q
  · cases c : h a with
    | some u =>
      have := e a u c
      rw [q] at this
      cases this
      simp only [c]
    | none => simp only [c]; exact perOf_pk H a o p q
  · cases c : h a with
    | some u => simp only [c] at q; cases q; exact h1 a _ c n
    | none => simp only [c] at q; exact perOf_per q
  · cases c : h a with
    | some u => exact h2 a o q (by rw [c]; exact Option.some_ne_none _)
    | none =>
      simp only [c] at n
      cases c2 : perOf H a with
      | none => exact absurd c2 n
      | some z =>
        have h3 := perOf_ex H _ _ c2
        have h4 := ek _ _ q
        rw [h3] at h4
        cases h4
        exact perOf_per c2
/-- a part weakened, all tuples at hand -/
theorem Sat.impP {H : Hp} {R R' : Res} {Rs : List Res} (S : Sat H (R :: Rs)) (mono : ∀ h h', Ex h h' → R h → R h') (k : ∀ h, Ex h H → PK H h → R h → R' h) : Sat H (R' :: Rs) := by
  obtain ⟨hs, h⟩ := S.ex
  match hs, h with
  | h :: hs, ⟨r, x, d, t⟩ =>
    obtain ⟨h', e1, e2, e3, e4⟩ := ex_join x
    exact ⟨h' :: hs, k h' e2 e3 (mono _ _ e1 r), e2, fun z hz => e4 z (d z hz).1 (d z hz).2 (satL_dom t z hz), t⟩
/-- a dict with data in it -/
def dct (p : Addr) (kds : KDs) : Res := fun h => ∃ kvs, h p = some (.dK kvs) ∧ KD h kvs kds
section
variable {H : Hp} {Rs T : List Res} {F : Res → List Res} {p a : Addr} {kds : KDs} {kvs : List (Key × V)} {o : HO}
theorem Sat.dctE (S : Sat H (dct p kds :: Rs)) : ∃ kvs, Sat H (cell p (.dK kvs) :: Rs) ∧ KD H kvs kds := by
  obtain ⟨hs, h⟩ := S.ex
  match hs, h with
  | h :: hs, ⟨⟨kvs, r, kd⟩, x, d, t⟩ => exact ⟨kvs, ⟨h :: hs, r, x, d, t⟩, kd.pk (PK.of_ex x)⟩
theorem Sat.dctI (S : Sat H (cell p (.dK kvs) :: Rs)) (k : KD H kvs kds) : Sat H (dct p kds :: Rs) :=
  S.impP (fun h h' e r => e _ _ r) fun h e pk r => ⟨kvs, r, k.pk pk⟩
theorem Sat.at_ (S : Sat H Rs) [f : Foc cell a o Rs T F] : H a = some o := (f.out S).get
theorem Sat.dat (S : Sat H Rs) [f : Foc dct a kds Rs T F] : ∃ kvs, H a = some (.dK kvs) ∧ KD H kvs kds := by
  obtain ⟨kvs, S, k⟩ := (f.out S).dctE
  exact ⟨kvs, S.get, k⟩
/-- a dict changed -/
theorem Sat.dset (S : Sat H Rs) [f : Foc dct a kds Rs T F] {kvs' : List (Key × V)} {kds' : KDs} (k : KD H kvs' kds') : PK H (upd H a (.dK kvs')) ∧ Sat (upd H a (.dK kvs')) (F (dct a kds')) := by
  obtain ⟨kvs, S, _⟩ := (f.out S).dctE
  have n : ¬ Per (.dK kvs) := id
  have pk := S.pkset (o' := .dK kvs') n
  exact ⟨pk, f.back ((S.set (o' := .dK kvs') n).dctI (k.pk pk))⟩
theorem Sat.dnew (S : Sat H Rs) (hp : H p = none) (k : KD H kvs kds) : PK H (upd H p (.dK kvs)) ∧ Sat (upd H p (.dK kvs)) (dct p kds :: Rs) :=
  ⟨PK.of_ex (Ex.new hp), (S.new hp).dctI (k.pk (PK.of_ex (Ex.new hp)))⟩
/-- a cell changed, by its place -/
theorem Sat.cset (S : Sat H Rs) [f : Foc cell a o Rs T F] (n : ¬ Per o) {o' : HO} : PK H (upd H a o') ∧ Sat (upd H a o') (F (cell a o')) :=
  ⟨(f.out S).pkset n, f.back ((f.out S).set n)⟩
end
/-! ### steps over parts -/
class Lk (g : Str) (fs : List (Str × V)) (v : outParam V) : Prop where
  h : fs.lookup g = some v
class Nk (m : Str) (fs : List (Str × V)) : Prop where
  h : fs.lookup m = none
class Pt (g : Str) (y : V) (fs : List (Str × V)) (fs' : outParam (List (Str × V))) : Prop where
  h : putF g y fs = fs'
  l : fs.length < 1000
/-- an instance of C whose fields do not hide m -/
class HasIns (C : Addr) (m : Str) (a : Addr) (H : Hp) : Prop where
  h : ∃ dx fs, H a = some (.ins C dx fs) ∧ fs.lookup m = none
instance hasIns_cell {C a dx : Addr} {m : Str} {H : Hp} {fs : List (Str × V)} {Rs T : List Res} {F : Res → List Res} [S : Sat H Rs] [f : Foc cell a (.ins C dx fs) Rs T F] [n : Nk m fs] : HasIns C m a H := ⟨dx, fs, S.at_, n.h⟩
def fldQ (C : Addr) (g : Str) (Q : VK) : VK := fun x H1 => ∃ a dx fs v, x = .ref a ∧ H1 a = some (.ins C dx fs) ∧ fs.lookup g = some v ∧ Q v H1
def sfQ1 (C : Addr) (ta : TE) (g : Str) (D : Ends) (σ : L2.St) : VK := fun y H1 => ta σ H1 fun x H2 => ∃ a dx fs, x = .ref a ∧ H2 a = some (.ins C dx fs) ∧ fs.length < 1000 ∧ D.nx σ (upd H2 a (.ins C dx (putF g y fs)))
def sfQ2 (C : Addr) (g : Str) (D : Ends) (σ : L2.St) (y : V) : VK := fun x H2 => ∃ a dx fs, x = .ref a ∧ H2 a = some (.ins C dx fs) ∧ fs.length < 1000 ∧ D.nx σ (upd H2 a (.ins C dx (putF g y fs)))
def methQ (C : Addr) (m : Str) (sp : Sp) (E : XK) (t : TA) (σ : L2.St) (Q : VK) : VK := fun x H1 => ∃ a dx fs, x = .ref a ∧ H1 a = some (.ins C dx fs) ∧ fs.lookup m = none ∧ t σ H1 fun vs H2 => sp (x :: (vs ++ [])) H2 Q E
def methQ2 (sp : Sp) (E : XK) (Q : VK) (x : V) : List V → Hp → Prop := fun vs H2 => sp (x :: (vs ++ [])) H2 Q E
def methSQ (C : Addr) (m : Str) (sp : Sp) (ES : L2.St → XK) (t : TA) (σ : L2.St) (Q : VK) : VK := fun x H1 => ∃ a dx fs, x = .ref a ∧ H1 a = some (.ins C dx fs) ∧ fs.lookup m = none ∧ t σ H1 fun vs H2 => sp (x :: vs) H2 Q (ES σ)
def methSQ2 (sp : Sp) (ES : L2.St → XK) (σ : L2.St) (Q : VK) (x : V) : List V → Hp → Prop := fun vs H2 => sp (x :: vs) H2 Q (ES σ)
def initQ (Q : VK) (x : Addr) : VK := fun v H2 => v = .non ∧ Q (.ref x) H2
def makeQ (C : Addr) (sp : Sp) (E : XK) (Q : VK) : List V → Hp → Prop := fun vs H1 => ∀ x dx, H1 x = none → H1 dx = none → dx ≠ x → sp (.ref x :: (vs ++ [])) (upd (upd H1 dx (.own x)) x (.ins C dx [])) (fun v H2 => v = .non ∧ Q (.ref x) H2) E
def rDictD : List V → Hp → VK → Prop := fun xs H Q => ∃ (a : Addr) (kvs : List (Key × V)), xs = [.ref a] ∧ Rd H a (.dK kvs) ∧ ∀ p, H p = none → Q (.ref p) (upd H p (.dK kvs))
def rLenD : List V → Hp → VK → Prop := fun xs H Q => ∃ a kvs, xs = [V.ref a] ∧ H a = some (.dK kvs) ∧ Q (.int kvs.length) H
theorem g_dictD {X : Cx} : CallR X (.type "dict") rDictD := call_dictD
theorem g_lenD {X : Cx} : CallR X (.builtin "len") rLenD := call_lenD
def dgQ1 (ty : TE) (σ : L2.St) (Q : VK) : VK := fun x H1 => ty σ H1 fun y H2 => ∃ a v, x = .ref a ∧ DGet H2 a y (some v) ∧ Q v H2
def dgQ2 (x : V) (Q : VK) : VK := fun y H2 => ∃ a v, x = .ref a ∧ DGet H2 a y (some v) ∧ Q v H2
def diQ1 (td : TE) (σ : L2.St) (Q : VK) : VK := fun y H1 => td σ H1 fun x H2 => ∃ a o, x = .ref a ∧ DGet H2 a y o ∧ Q (.bl o.isSome) H2
def diQ2 (y : V) (Q : VK) : VK := fun x H2 => ∃ a o, x = .ref a ∧ DGet H2 a y o ∧ Q (.bl o.isSome) H2
def dnQ1 (td : TE) (σ : L2.St) (Q : VK) : VK := fun y H1 => td σ H1 fun x H2 => ∃ a o, x = .ref a ∧ DGet H2 a y o ∧ Q (.bl (!o.isSome)) H2
def dnQ2 (y : V) (Q : VK) : VK := fun x H2 => ∃ a o, x = .ref a ∧ DGet H2 a y o ∧ Q (.bl (!o.isSome)) H2
def dpQ1 (td ty : TE) (D : Ends) (σ : L2.St) : VK := fun v H1 => td σ H1 fun x H2 => ty σ H2 fun y H3 => ∃ a H4, x = .ref a ∧ DPut H3 a y v H4 ∧ D.nx σ H4
def dpQ2 (ty : TE) (D : Ends) (σ : L2.St) (v : V) : VK := fun x H2 => ty σ H2 fun y H3 => ∃ a H4, x = .ref a ∧ DPut H3 a y v H4 ∧ D.nx σ H4
def dpQ3 (D : Ends) (σ : L2.St) (v x : V) : VK := fun y H3 => ∃ a H4, x = .ref a ∧ DPut H3 a y v H4 ∧ D.nx σ H4
def poQ1 (ty : TE) (σ : L2.St) (Q : VK) : VK := fun x H1 => ∃ a, x = .ref a ∧ IsD H1 a ∧ ty σ H1 fun y H2 => ∃ kvs k v, H2 a = some (.dK kvs) ∧ y = kV k ∧ valV kvs k = some v ∧ Q v (upd H2 a (.dK (dropK kvs k)))
def poQ2 (a : Addr) (Q : VK) : VK := fun y H2 => ∃ kvs k v, H2 a = some (.dK kvs) ∧ y = kV k ∧ valV kvs k = some v ∧ Q v (upd H2 a (.dK (dropK kvs k)))
/-- the key of a value -/
class KeyOf (y : V) (k : outParam Key) : Prop where
  h : y = kV k
instance keyOf_i {i : Int} : KeyOf (.int i) (.inl i) := ⟨rfl⟩
instance keyOf_s {z : Str} : KeyOf (.str z) (.inr z) := ⟨rfl⟩
section
variable {K : PySem.W.Frag} {H : Hp} {σ σ' : L2.St} {Rs T : List Res} {F : Res → List Res} {p a C dx : Addr} {kds : KDs} {k : Key} {x y v : V} {d : PyData} {Q : VK} {R : Prop} {fs fs' : List (Str × V)} {g m : Str} {ta tv td ty : TE} {t : TA} {sp : Sp} {E : XK} {ES : L2.St → XK}
  {f : L2.St → Hp → Prop} {rt : VK} {bk ct : L2.St → Hp → Prop} {vs xs : List V} {QA : List V → Hp → Prop} {D : Ends}
instance r_fld [n : Run (ta σ H (fldQ C g Q)) R] : Run (tFldC C ta g σ H Q) R := ⟨fun h => n.go h⟩
instance r_fldQ [S : Sat H Rs] [fo : Foc cell a (.ins C dx fs) Rs T F] [l : Lk g fs v] [n : Run (Q v H) R] : Run (fldQ C g Q (.ref a) H) R := ⟨fun h => ⟨a, dx, fs, v, rfl, S.at_, l.h, n.go h⟩⟩
instance r_sf [n : Run (tv σ H (sfQ1 C ta g D σ)) R] : Run (sFldC C ta tv g D σ H) R := ⟨fun h => n.go h⟩
instance r_sf1 [n : Run (ta σ H (sfQ2 C g D σ y)) R] : Run (sfQ1 C ta g D σ y H) R := ⟨fun h => n.go h⟩
theorem x_sf [S : Sat H Rs] [fo : Foc cell a (.ins C dx fs) Rs T F] [pt : Pt g y fs fs'] (q : ∀ H', PK H H' → Sat H' (F (cell a (.ins C dx fs'))) → f σ H') : sfQ2 C g (Ends.mk f rt bk ct) σ y (.ref a) H := by
  refine ⟨a, dx, fs, rfl, S.at_, pt.l, ?_⟩
  rw [pt.h]
  exact q _ (S.cset id (o' := .ins C dx fs')).1 (S.cset id (o' := .ins C dx fs')).2
instance r_meth [n : Run (ta σ H (methQ C m sp E t σ Q)) R] : Run (tMeth C m sp [] E ta t σ H Q) R := ⟨fun h => n.go h⟩
instance r_methQ [i : HasIns C m a H] [n : Run (t σ H (methQ2 sp E Q (.ref a))) R] : Run (methQ C m sp E t σ Q (.ref a) H) R := ⟨fun h => by
  obtain ⟨dx, fs, e, l⟩ := i.h
  exact ⟨a, dx, fs, rfl, e, l, n.go h⟩⟩
instance r_methQ2 [n : Run (sp (x :: vs) H Q E) R] : Run (methQ2 sp E Q x vs H) R := ⟨fun h => by
  unfold methQ2
  rw [List.append_nil]
  exact n.go h⟩
instance r_methS [n : Run (ta σ H (methSQ C m sp ES t σ Q)) R] : Run (tMethS C m sp ES ta t σ H Q) R := ⟨fun h => n.go h⟩
instance r_methSQ [i : HasIns C m a H] [n : Run (t σ H (methSQ2 sp ES σ Q (.ref a))) R] : Run (methSQ C m sp ES t σ Q (.ref a) H) R := ⟨fun h => by
  obtain ⟨dx, fs, e, l⟩ := i.h
  exact ⟨a, dx, fs, rfl, e, l, n.go h⟩⟩
instance r_methSQ2 [n : Run (sp (x :: vs) H Q (ES σ)) R] : Run (methSQ2 sp ES σ Q x vs H) R := ⟨fun h => n.go h⟩
instance r_make [n : Run (t σ H (makeQ C sp E Q)) R] : Run (tMake C sp [] E t σ H Q) R := ⟨fun h => n.go h⟩
theorem x_make [S : Sat H Rs] (q : ∀ x dx H', PK H H' → Sat H' (cell x (.ins C dx []) :: Rs) → sp (.ref x :: vs) H' (initQ Q x) E) : makeQ C sp E Q vs H := by
  intro x dx hx hdx ne
  rw [List.append_nil]
  have e1 : Ex H (upd H dx (.own x)) := Ex.new hdx
  have h2 : upd H dx (.own x) x = none := by rw [upd_ne (Ne.symm ne)]; exact hx
  exact q x dx _ (PK.of_ex (e1.trans (Ex.new h2))) ((S.mono e1).new h2)
instance r_initQ [n : Run (Q (.ref a) H) R] : Run (initQ Q a .non H) R := ⟨fun h => ⟨rfl, n.go h⟩⟩
theorem x_lstS [S : Sat H Rs] (hz : xs.length ≤ sizeLine) (q : ∀ p H', PK H H' → Sat H' (cell p (.lst xs) :: Rs) → Q (.ref p) H') : lstQ Q xs H := ⟨hz, fun p hp => q p _ (PK.of_ex (Ex.new hp)) (S.new hp)⟩
theorem x_tupS [S : Sat H Rs] (hz : xs.length ≤ sizeLine) (q : ∀ p H', PK H H' → Sat H' Rs → H' p = some (.tup xs) → Q (.ref p) H') : tupQ Q xs H := ⟨hz, fun p hp => q p _ (PK.of_ex (Ex.new hp)) (S.mono (Ex.new hp)) upd_same⟩
theorem x_dnewS [S : Sat H Rs] (q : ∀ p H', PK H H' → Sat H' (dct p [] :: Rs) → Q (.ref p) H') : tDNewK σ H Q := fun p hp => q p _ (S.dnew hp .nil).1 (S.dnew hp .nil).2
theorem x_dictS [S : Sat H Rs] [fo : Foc dct a kds Rs T F] (q : ∀ p H', PK H H' → Sat H' (dct p kds :: Rs) → Q (.ref p) H') : rDictD [.ref a] H Q := by
  obtain ⟨kvs, h, kd⟩ := S.dat (a := a)
  exact ⟨a, kvs, rfl, .inl h, fun p hp => q p _ (S.dnew hp kd).1 (S.dnew hp kd).2⟩
instance r_lenD [S : Sat H Rs] [fo : Foc dct a kds Rs T F] [n : Run (Q (.int kds.length) H) R] : Run (rLenD [.ref a] H Q) R := ⟨fun h => by
  obtain ⟨kvs, e, kd⟩ := S.dat (a := a)
  exact ⟨a, kvs, rfl, e, by rw [kd.len]; exact n.go h⟩⟩
theorem x_listDS [S : Sat H Rs] [fo : Foc dct a kds Rs T F] (q : ∀ p H', PK H H' → Sat H' (cell p (.lst (kds.map fun kv => kV kv.1)) :: Rs) → Q (.ref p) H') : rListD [.ref a] H Q := by
  obtain ⟨kvs, h, kd⟩ := S.dat (a := a)
  refine ⟨a, kvs, rfl, h, fun p hp => ?_⟩
  rw [kd.keys]
  exact q p _ (PK.of_ex (Ex.new hp)) (S.new hp)
instance r_dg [n : Run (td σ H (dgQ1 ty σ Q)) R] : Run (tDGet td ty σ H Q) R := ⟨fun h => n.go h⟩
instance r_dg1 [n : Run (ty σ H (dgQ2 x Q)) R] : Run (dgQ1 ty σ Q x H) R := ⟨fun h => n.go h⟩
theorem x_dg [S : Sat H Rs] [fo : Foc dct a kds Rs T F] [ko : KeyOf y k] (h : valD kds k = some d) (q : ∀ v, Tp H v d → Q v H) : dgQ2 (.ref a) Q y H := by
  obtain ⟨kvs, e, kd⟩ := S.dat (a := a)
  obtain ⟨v, ev, tp⟩ := kd.sm h
  refine ⟨a, v, rfl, ?_, q v tp⟩
  rw [ko.h, ← ev]
  exact DGet.k e
instance r_di [n : Run (ty σ H (diQ1 td σ Q)) R] : Run (tDIn ty td σ H Q) R := ⟨fun h => n.go h⟩
instance r_di1 [n : Run (td σ H (diQ2 y Q)) R] : Run (diQ1 td σ Q y H) R := ⟨fun h => n.go h⟩
instance r_di2 [S : Sat H Rs] [fo : Foc dct a kds Rs T F] [ko : KeyOf y k] [n : Run (Q (.bl (hasD kds k)) H) R] : Run (diQ2 y Q (.ref a) H) R := ⟨fun h => by
  obtain ⟨kvs, e, kd⟩ := S.dat (a := a)
  refine ⟨a, valV kvs k, rfl, by rw [ko.h]; exact DGet.k e, ?_⟩
  rw [kd.has]
  exact n.go h⟩
instance r_dn [n : Run (ty σ H (dnQ1 td σ Q)) R] : Run (tDNotIn ty td σ H Q) R := ⟨fun h => n.go h⟩
instance r_dn1 [n : Run (td σ H (dnQ2 y Q)) R] : Run (dnQ1 td σ Q y H) R := ⟨fun h => n.go h⟩
instance r_dn2 [S : Sat H Rs] [fo : Foc dct a kds Rs T F] [ko : KeyOf y k] [n : Run (Q (.bl (!hasD kds k)) H) R] : Run (dnQ2 y Q (.ref a) H) R := ⟨fun h => by
  obtain ⟨kvs, e, kd⟩ := S.dat (a := a)
  refine ⟨a, valV kvs k, rfl, by rw [ko.h]; exact DGet.k e, ?_⟩
  rw [kd.has]
  exact n.go h⟩
instance r_dp [n : Run (tv σ H (dpQ1 td ty D σ)) R] : Run (sDPut td ty tv D σ H) R := ⟨fun h => n.go h⟩
instance r_dp1 [n : Run (td σ H (dpQ2 ty D σ v)) R] : Run (dpQ1 td ty D σ v H) R := ⟨fun h => n.go h⟩
instance r_dp2 [n : Run (ty σ H (dpQ3 D σ v x)) R] : Run (dpQ2 ty D σ v x H) R := ⟨fun h => n.go h⟩
theorem x_dp [S : Sat H Rs] [fo : Foc dct a kds Rs T F] [ko : KeyOf y k] (hz : kds.length < sizeLine) (tp : Tp H v d) (q : ∀ H', PK H H' → Sat H' (F (dct a (putD kds k d))) → f σ H') : dpQ3 (Ends.mk f rt bk ct) σ v (.ref a) y H := by
  obtain ⟨kvs, e, kd⟩ := S.dat (a := a)
  refine ⟨a, _, rfl, by rw [ko.h]; exact DPut.k e (by rw [kd.len]; exact hz), q _ (S.dset (kd.put tp)).1 (S.dset (kd.put tp)).2⟩
instance r_po [n : Run (td σ H (poQ1 ty σ Q)) R] : Run (tDPop1 td ty σ H Q) R := ⟨fun h => n.go h⟩
instance r_po1 [S : Sat H Rs] [fo : Foc dct a kds Rs T F] [n : Run (ty σ H (poQ2 a Q)) R] : Run (poQ1 ty σ Q (.ref a) H) R := ⟨fun h => by
  obtain ⟨kvs, e, kd⟩ := S.dat (a := a)
  exact ⟨a, rfl, .inl ⟨kvs, .inl e⟩, n.go h⟩⟩
theorem x_po [S : Sat H Rs] [fo : Foc dct a kds Rs T F] [ko : KeyOf y k] (h : valD kds k = some d) (q : ∀ v H', Tp H v d → PK H H' → Sat H' (F (dct a (dropD kds k))) → Q v H') : poQ2 a Q y H := by
  obtain ⟨kvs, e, kd⟩ := S.dat (a := a)
  obtain ⟨v, ev, tp⟩ := kd.sm h
  exact ⟨kvs, k, v, e, ko.h, ev, q v _ tp (S.dset kd.drop).1 (S.dset kd.drop).2⟩
theorem x_appendS [S : Sat H Rs] [fo : Foc cell p (.lst xs) Rs T F] (hz : xs.length < sizeLine) (q : ∀ H', PK H H' → Sat H' (F (cell p (.lst (xs ++ [y])))) → Q .non H') : rAppend (.ref p) [y] H Q :=
  x_append S.at_ hz (q _ (S.cset id (o' := .lst (xs ++ [y]))).1 (S.cset id (o' := .lst (xs ++ [y]))).2)
theorem x_setS {i : Int} {P : Hp → Prop} [S : Sat H Rs] [fo : Foc cell p (.lst xs) Rs T F] (h0 : 0 ≤ i) (ha : (xs[i.toNat]?).isSome = true) (q : ∀ H', PK H H' → Sat H' (F (cell p (.lst (xs.set i.toNat v)))) → P H') : rSetL (.ref p) (.int i) v H P :=
  x_setLn S.at_ h0 ha (q _ (S.cset id (o' := .lst (xs.set i.toNat v))).1 (S.cset id (o' := .lst (xs.set i.toNat v))).2)
/-- a dict locked while it is walked -/
def lkN (a : Addr) (od : Obj) (u : HO) (f : L2.St → Hp → Prop) : L2.St → Hp → Prop := fun σ' H' => H' a = some (.frz od u) ∧ f σ' (upd H' a u)
def lkV (a : Addr) (od : Obj) (u : HO) (f : VK) : VK := fun v H' => H' a = some (.frz od u) ∧ f v (upd H' a u)
theorem lock_sat [S : Sat H Rs] [fo : Foc dct a kds Rs T F] (od : Obj) {kvs : List (Key × V)} (e : H a = some (.dK kvs)) : PK H (upd H a (.frz od (.dK kvs))) ∧ Sat (upd H a (.frz od (.dK kvs))) (F (cell a (.frz od (.dK kvs)))) := by
  obtain ⟨kvs2, S2, _⟩ := (fo.out S).dctE
  have e2 : kvs2 = kvs := by
    have := S2.get
    rw [e] at this
    cases this
    rfl
  subst e2
  exact ⟨S2.pkset id, fo.back (S2.set id)⟩
theorem x_lock {t : TS} (a : Addr) [S : Sat H Rs] [fo : Foc dct a kds Rs T F] (q : ∀ od kvs H', PK H H' → KD H' kvs kds → Sat H' (F (cell a (.frz od (.dK kvs)))) → t (Ends.mk (lkN a od (.dK kvs) f) (lkV a od (.dK kvs) rt) (lkN a od (.dK kvs) bk) (lkN a od (.dK kvs) ct)) σ H') : tLock t (Ends.mk f rt bk ct) σ H := by
  obtain ⟨kvs, e, kd⟩ := S.dat (a := a)
  exact ⟨a, .dK kvs, e, trivial, fun od => q od kvs _ (lock_sat od e).1 (kd.pk (lock_sat od e).1) (lock_sat od e).2⟩
theorem x_lockE {t : TE} (a : Addr) [S : Sat H Rs] [fo : Foc dct a kds Rs T F] (q : ∀ od kvs H', PK H H' → KD H' kvs kds → Sat H' (F (cell a (.frz od (.dK kvs)))) → t σ H' (lkV a od (.dK kvs) Q)) : tLockE t σ H Q := by
  obtain ⟨kvs, e, kd⟩ := S.dat (a := a)
  exact ⟨a, .dK kvs, e, trivial, fun od => q od kvs _ (lock_sat od e).1 (kd.pk (lock_sat od e).1) (lock_sat od e).2⟩
theorem unlock_sat {od : Obj} {kvs : List (Key × V)} [S : Sat H Rs] [fo : Foc cell a (.frz od (.dK kvs)) Rs T F] (kd : KD H kvs kds) : PK H (upd H a (.dK kvs)) ∧ Sat (upd H a (.dK kvs)) (F (dct a kds)) := by
  have S2 := fo.out S
  have pk := S2.pkset (o' := .dK kvs) id
  exact ⟨pk, fo.back ((S2.set (o' := .dK kvs) id).dctI (kd.pk pk))⟩
theorem x_unlock {od : Obj} {kvs : List (Key × V)} [S : Sat H Rs] [fo : Foc cell a (.frz od (.dK kvs)) Rs T F] (kd : KD H kvs kds) (q : ∀ H', PK H H' → Sat H' (F (dct a kds)) → f σ H') : lkN a od (.dK kvs) f σ H :=
  ⟨S.at_, q _ (unlock_sat kd).1 (unlock_sat kd).2⟩
theorem x_unlockV {od : Obj} {kvs : List (Key × V)} [S : Sat H Rs] [fo : Foc cell a (.frz od (.dK kvs)) Rs T F] (kd : KD H kvs kds) (q : ∀ H', PK H H' → Sat H' (F (dct a kds)) → Q v H') : lkV a od (.dK kvs) Q v H :=
  ⟨S.at_, q _ (unlock_sat kd).1 (unlock_sat kd).2⟩
def ikQ (S : It → Hp → Prop) : VK := fun x H1 => ∃ d o, x = .ref d ∧ ((∃ kvs, H1 d = some (.frz o (.dK kvs)) ∧ S (Itk d o kvs) H1) ∨ ∃ kvs, H1 d = some (.frz o (.dT kvs)) ∧ S (Itkt d o kvs) H1)
instance r_ik {W : It → Hp → Prop} [n : Run (td σ H (ikQ W)) R] : Run (iKeys td σ H W) R := ⟨fun h => n.go h⟩
instance r_ikQ {W : It → Hp → Prop} {od : Obj} {kvs : List (Key × V)} [S : Sat H Rs] [fo : Foc cell a (.frz od (.dK kvs)) Rs T F] [n : Run (W (Itk a od kvs) H) R] : Run (ikQ W (.ref a) H) R := ⟨fun h => ⟨a, od, rfl, .inl ⟨kvs, S.at_, n.go h⟩⟩⟩
end
theorem sat_at {H : Hp} {Rs T : List Res} {F : Res → List Res} {a : Addr} {o : HO} [S : Sat H Rs] [f : Foc cell a o Rs T F] : H a = some o := S.at_
/-- a method's contract that can't be asked -/
theorem Mf.none {P : Program} {w : World} {K : PySem.W.Frag} {mg : Str → Option Value} {base : Heap} {C m qual : Str} {st : Stmt} {ps : List Str} {k : Nat} {sp : Sp} (F : Mf K C m qual st) (hb : BindOk m qual st ps) (no : ∀ vs H Q E, ¬ sp vs H Q E) : DnM P w K mg base CX0 k (He.ma K (He.ga K C) m) ps sp := by
  obtain ⟨fd, F⟩ := F.ex
  exact ⟨fd, ⟨fun vs H Q E h => absurd h (no vs H Q E), fun A outer s H args us vs Q E _ _ _ _ h => absurd h (no vs H Q E)⟩, F.binds hb⟩
/-- the parts of a heap in another order, some left out -/
theorem pick {H : Hp} {Rs Ss : List Res} [S : Sat H Rs] [s : SubC Ss Rs] : Sat H Ss := S.pick
section
variable {K : PySem.W.Frag} {H : Hp} {σ : L2.St} {Rs T : List Res} {F : Res → List Res} {p : Addr} {xs : List V} {Q : VK} {R : Prop} {t : TA} {r : V → List V → Hp → VK → Prop} {W : It → Hp → Prop}
instance r_bmLS [S : Sat H Rs] [f : Foc cell p (.lst xs) Rs T F] [n : Run (t σ H (bmQ2 r (.ref p) Q)) R] : Run (bmQ K "list" r t σ Q (.ref p) H) R := ⟨fun h => x_bmL (SqL.of S.at_) (n.go h)⟩
instance r_bm0LS [S : Sat H Rs] [f : Foc cell p (.lst xs) Rs T F] [n : Run (r (.ref p) [] H Q) R] : Run (bm0Q K "list" r Q (.ref p) H) R := ⟨fun h => x_bm0L (SqL.of S.at_) (n.go h)⟩
instance r_lenLS [S : Sat H Rs] [f : Foc cell p (.lst xs) Rs T F] [n : Run (Q (.int xs.length) H) R] : Run (rLen K [.ref p] H Q) R := ⟨fun h => x_lenL (SqL.of S.at_) (n.go h)⟩
instance r_iLQS [S : Sat H Rs] [f : Foc cell p (.lst xs) Rs T F] [n : Run (W (Itl K p) H) R] : Run (iLQ K W (.ref p) H) R := ⟨fun h => x_iLQ (SqL.of S.at_) (n.go h)⟩
end
def isQ (W : It → Hp → Prop) : VK := fun v H1 => ∃ x, v = .str x ∧ W (Its x) H1
section
variable {H : Hp} {σ : L2.St} {te : TE} {W : It → Hp → Prop} {R : Prop} {z : Str}
instance r_is [n : Run (te σ H (isQ W)) R] : Run (iStr te σ H W) R := ⟨fun h => n.go h⟩
instance r_isQ [n : Run (W (Its z) H) R] : Run (isQ W (.str z) H) R := ⟨fun h => ⟨z, rfl, n.go h⟩⟩
end
theorem x_popS {H : Hp} {Rs T : List Res} {F : Res → List Res} {p : Addr} {ws : List V} {v : V} {Q : VK} [S : Sat H Rs] [f : Foc cell p (.lst (ws ++ [v])) Rs T F] (q : ∀ H', PK H H' → Sat H' (F (cell p (.lst ws))) → Q v H') : rPop (.ref p) [] H Q :=
  ⟨p, ws ++ [v], v, rfl, rfl, S.at_, by simp, by
    rw [List.dropLast_concat]
    exact q _ (S.cset id (o' := .lst ws)).1 (S.cset id (o' := .lst ws)).2⟩
section
variable {H : Hp} {σ : L2.St} {Rs T : List Res} {F : Res → List Res} {a : Addr} {kvs : List (Key × V)} {k : Key} {y v : V} {Q : VK} {od : Obj} {f : L2.St → Hp → Prop} {rt : VK} {bk ct : L2.St → Hp → Prop}
theorem x_dgC [S : Sat H Rs] [fo : Foc cell a (.dK kvs) Rs T F] [ko : KeyOf y k] (h : valV kvs k = some v) (q : Q v H) : dgQ2 (.ref a) Q y H :=
  ⟨a, v, rfl, by rw [ko.h, ← h]; exact DGet.k S.at_, q⟩
theorem x_dgF [S : Sat H Rs] [fo : Foc cell a (.frz od (.dK kvs)) Rs T F] [ko : KeyOf y k] (h : valV kvs k = some v) (q : Q v H) : dgQ2 (.ref a) Q y H :=
  ⟨a, v, rfl, by rw [ko.h, ← h]; exact .inl ⟨kvs, k, .inr ⟨od, S.at_⟩, rfl, rfl⟩, q⟩
theorem x_dpC [S : Sat H Rs] [fo : Foc cell a (.dK kvs) Rs T F] [ko : KeyOf y k] (hz : kvs.length < sizeLine) (q : ∀ H', PK H H' → Sat H' (F (cell a (.dK (putK kvs k v)))) → f σ H') : dpQ3 (Ends.mk f rt bk ct) σ v (.ref a) y H :=
  ⟨a, _, rfl, by rw [ko.h]; exact DPut.k S.at_ hz, q _ (S.cset id (o' := .dK (putK kvs k v))).1 (S.cset id (o' := .dK (putK kvs k v))).2⟩
end
theorem dropD_id {kds : KDs} {k : Key} (h : hasD kds k = false) : dropD kds k = kds := by
  unfold dropD hasD at *
  refine List.filter_eq_self.mpr fun kv hkv => ?_
  have := List.any_eq_false.mp h kv hkv
  simpa using this
theorem hasD_val {kds : KDs} {k : Key} (h : hasD kds k = true) : ∃ d, valD kds k = some d := by
  unfold hasD at h
  obtain ⟨kv, h1, h2⟩ := List.any_eq_true.mp h
  unfold valD
  cases e : kds.find? (fun kv => decide (kv.1 = k)) with
  | none => exact absurd h2 (by simpa using List.find?_eq_none.mp e kv h1)
  | some u => exact ⟨u.2, rfl⟩
theorem x_eltS {H : Hp} {Rs T : List Res} {F : Res → List Res} {D : Addr} {Nx : Hp → Prop} {acc : List V} {y : V} [S : Sat H Rs] [fo : Foc cell D (.lst acc) Rs T F] (hz : acc.length < sizeLine) (q : ∀ H', PK H H' → Sat H' (F (cell D (.lst (acc ++ [y])))) → Nx H') : eltQ D Nx y H :=
  x_elt S.at_ hz (q _ (S.cset id (o' := .lst (acc ++ [y]))).1 (S.cset id (o' := .lst (acc ++ [y]))).2)
theorem valV_nodup : ∀ {kvs : List (Key × V)} {i : Nat} {k : Key} {v : V}, (kvs.map (·.1)).Nodup → kvs[i]? = some (k, v) → valV kvs k = some v
  | [], _, _, _, _, h => by simp at h
  | (j, u) :: r, 0, k, v, _, h => by
    cases h
    exact valV_pos (p := (j, u)) rfl
  | (j, u) :: r, i + 1, k, v, nd, h => by
    rw [List.map_cons, List.nodup_cons] at nd
    have hm : k ∈ r.map (·.1) := List.mem_map.mpr ⟨(k, v), List.mem_of_getElem? (i := i) h, rfl⟩
    have hj : j ≠ k := fun e => nd.1 (by rw [show (j, u).1 = k from e]; exact hm)
    rw [valV_neg (p := (j, u)) hj]
    exact valV_nodup (i := i) nd.2 h
/-! ### range with a step -/
def ir3Q (S : It → Hp → Prop) : List V → Hp → Prop := fun vs H1 => ∃ (i j c : Int) (n : Nat), vs = [.int i, .int j, .int c] ∧ RgC i j c n ∧ S (Itc i c n) H1
instance r_ir3 {σ : L2.St} {H : Hp} {ta : TA} {S : It → Hp → Prop} {R : Prop} [n : Run (ta σ H (ir3Q S)) R] : Run (iRng3 ta σ H S) R := ⟨fun h => n.go h⟩
theorem x_ir3 {i j : Int} {H : Hp} {S : It → Hp → Prop} (ha : -(2 ^ 62) ≤ i) (ha' : i < 2 ^ 62) (hb : -(2 ^ 62) ≤ j) (hb' : j < 2 ^ 62) (k : S (Itc i (-1) (i - j).toNat) H) : ir3Q S [.int i, .int j, .int (-1)] H :=
  ⟨i, j, -1, _, rfl, .neg ha ha' hb hb', k⟩
/-! ### join -/
def rJoin (K : PySem.W.Frag) : V → List V → Hp → VK → Prop := fun x xs H Q => ∃ a p, ∃ ys : List Str, x = .str a ∧ xs = [.ref p] ∧ (SqL K H p (ys.map V.str) ∨ SqT K H p (ys.map V.str)) ∧
  (ys.map (·.length)).sum + ys.length * a.length ≤ 16777216 ∧ Q (.str (Txt.join a ys)) H
theorem pe_joinN {X : Cx} {o e : Expr} {to te : TE} {apos pos : Pos} (ho : PE X o to) (he : PE X e te) (hs : starEach [e] X.env = [(false, eval e X.env)] := by rfl) (hbase : attributeBase o "join" X.env (eval o X.env) = eval o X.env := by rfl) (hline : (apos.endLine == pos.line) = true := by rfl) :
    PE X (.Call (.Attribute o "join" apos) [e] [] pos) (tM1 (rJoin X.K) to te) := pe_join ho he hs hbase hline
def m1Q1 (r : V → List V → Hp → VK → Prop) (te : TE) (σ : L2.St) (Q : VK) : VK := fun x H1 => (∃ a, x = .str a) ∧ te σ H1 fun y H2 => r x [y] H2 Q
def m1Q2 (r : V → List V → Hp → VK → Prop) (x : V) (Q : VK) : VK := fun y H2 => r x [y] H2 Q
section
variable {K : PySem.W.Frag} {H : Hp} {σ : L2.St} {to te : TE} {r : V → List V → Hp → VK → Prop} {z : Str} {x y : V} {Q : VK} {R : Prop} {p : Addr} {ys : List Str}
instance r_m1 [n : Run (to σ H (m1Q1 r te σ Q)) R] : Run (tM1 r to te σ H Q) R := ⟨fun h => n.go h⟩
instance r_m1Q1 [n : Run (te σ H (m1Q2 r (.str z) Q)) R] : Run (m1Q1 r te σ Q (.str z) H) R := ⟨fun h => ⟨⟨z, rfl⟩, n.go h⟩⟩
instance r_m1Q2 [n : Run (r x [y] H Q) R] : Run (m1Q2 r x Q y H) R := ⟨fun h => n.go h⟩
theorem x_joinL (h : SqL K H p (ys.map V.str)) (hz : (ys.map (·.length)).sum + ys.length * z.length ≤ 16777216) (q : Q (.str (Txt.join z ys)) H) : rJoin K (.str z) [.ref p] H Q := ⟨z, p, ys, rfl, rfl, .inl h, hz, q⟩
end
end G

set_option Elab.async false
set_option linter.all false
set_option maxRecDepth 100000
set_option maxHeartbeats 4000000
set_option synthInstance.maxHeartbeats 0
set_option synthInstance.maxSize 100000
/-! Exceptions of the program's own classes as values: made, kept, asked of which class, read. -/
namespace G
open PySem PySem.Spec PyProof.Rows L2 Evl RZ
/-- at a: an exception of the class at C; its dict, if it has one, stands by itself -/
def XV (H : Hp) (a C : Addr) (fs : List (Str × V)) : Prop := (fs = [] ∧ H a = some (exo a C none)) ∨ ∃ dx, H a = some (exo a C (some dx)) ∧ H dx = some (exd dx fs)
theorem XV.ex {H H' : Hp} {a C : Addr} {fs : List (Str × V)} (e : Ex H H') (x : XV H a C fs) : XV H' a C fs := by
  rcases x with ⟨h1, h2⟩ | ⟨dx, h1, h2⟩
  · exact .inl ⟨h1, e _ _ h2⟩
  · exact .inr ⟨dx, e _ _ h1, e _ _ h2⟩
theorem XV.inst {P : Program} {w : World} {H : Hp} {h : Heap} {a C : Addr} {fs : List (Str × V)} (ok : HOk P w H h) (x : XV H a C fs) : ∃ (oe : Obj) (od : Option Obj), PySem.W.InstAt h a oe C od ∧ ((∃ o, od = some o ∧ ∃ mA, h.Ns1 (oe.dict.getD 0) mA ∧ (∀ f, RelO (fs.lookup f) (mA f)) ∧ ∀ name, PySem.W.lookIn name o = some (mA name)) ∨ od = none ∧ fs = []) := by
  rcases x with ⟨h1, h2⟩ | ⟨dx, h1, h2⟩
  · obtain ⟨t1, e⟩ := exo_at ok h2
    exact ⟨_, none, ⟨e, rfl, rfl, trivial⟩, .inr ⟨rfl, h1⟩⟩
  · obtain ⟨t1, e⟩ := exo_at ok h1
    obtain ⟨mA, hns, rel⟩ := exd_at ok h2
    obtain ⟨od, ho, hl⟩ := lookIn_ns hns
    exact ⟨_, some od, ⟨e, rfl, rfl, ho⟩, .inl ⟨od, rfl, mA, hns, rel, hl⟩⟩
/-! ### isinstance -/
theorem _root_.L2.ExcC.hc {K : PySem.W.Frag} {D : Addr} (C : ExcC K D) : (PySem.W.clsIn K D).isSome = true := by
  have h := C.hd
  obtain ⟨cd, hc, _⟩ := PySem.W.any_some h
  rw [hc]
  rfl
def rIsV (K : PySem.W.Frag) : List V → Hp → VK → Prop := fun xs H Q => ∃ (a C : Addr) (fs : List (Str × V)) (c : V) (cv : Value) (b : Bool), xs = [.ref a, c] ∧ XV H a C fs ∧ ExcC K C ∧ (∀ u, RelV c u → u = cv) ∧ PySem.W.kitOne K (.ref C) cv = some b ∧ Q (.bl b) H
theorem call_isV {X : Cx} : CallR X (.builtin "isinstance") (rIsV X.K) := by
  intro pins s σ H xs us Q I r h
  obtain ⟨a, C, fs, c, cv, b, rfl, x, F, hcv, e, q⟩ := h
  cases r with
  | cons rx rr =>
    cases rr with
    | cons rt rr =>
      cases rr
      cases rx
      have ec := hcv _ rt
      subst ec
      obtain ⟨oe, od, J, _⟩ := x.inst I.hok
      exact PySem.W.kia_one (PySem.W.kitx_exc F.hc F.hg F.hk F.hs F.ha F.hn F.ht F.hm) I.kIn J e (fun z => nomatch z) fun tk => ⟨.bl b, H, I.kept (t' := tk) fun _ _ z => z, rfl, q⟩
theorem x_isVr {K : PySem.W.Frag} {a C D : Addr} {fs : List (Str × V)} {b : Bool} {H : Hp} {Q : VK} (x : XV H a C fs) (F : ExcC K C) (k : PySem.W.kitOne K (.ref C) (.ref D) = some b) (q : Q (.bl b) H) : rIsV K [.ref a, .ref D] H Q :=
  ⟨a, C, fs, .ref D, .ref D, b, rfl, x, F, fun u h => h, k, q⟩
theorem x_isVt {K : PySem.W.Frag} {a C : Addr} {T : String} {fs : List (Str × V)} {b : Bool} {H : Hp} {Q : VK} (x : XV H a C fs) (F : ExcC K C) (k : PySem.W.kitOne K (.ref C) (.type T) = some b) (q : Q (.bl b) H) : rIsV K [.ref a, .ty T] H Q :=
  ⟨a, C, fs, .ty T, .type T, b, rfl, x, F, fun u h => h, k, q⟩
/-! ### x.f -/
def tExcF (K : PySem.W.Frag) (f : Str) (ta : TE) : TE := fun σ H Q => ta σ H fun x H1 => ∃ (a C : Addr) (fs : List (Str × V)) (v : V), x = .ref a ∧ XV H1 a C fs ∧ ExcC K C ∧ PySem.W.findIn K (.ref C) f = some none ∧ fs.lookup f = some v ∧ Q v H1
theorem pe_excF {X : Cx} {e : Expr} {te : TE} {f : Str} {pos : Pos} (he : PE X e te) (hb : attributeBase e f X.env (eval e X.env) = eval e X.env := by rfl) : PE X (.Attribute e f pos) (tExcF X.K f te) := by
  refine ⟨fun pins s σ H Q I h => ?_⟩
  refine attr_of hb (thn (he.run pins s σ H _ I h) fun u s1 hh => ?_)
  obtain ⟨x, H1, I1, rx, a, C, fs, v, rfl, xv, F, no, l, q⟩ := hh
  obtain rfl : u = Value.ref a := rx
  obtain ⟨oe, od, J, z⟩ := xv.inst I1.hok
  rcases z with ⟨o, rfl, mA, hns, hr, hl⟩ | ⟨_, rfl⟩
  · obtain ⟨w, hu, ru⟩ := RelO.some_of (v := v) (o := mA f) (by rw [← l]; exact hr f)
    exact HandSPX.exc_get I1.kIn J F.hg F.hk F.hs (PySem.W.findObj_own F.hd no rfl (by rw [hl, hu])) (handed_of ru) ⟨v, H1, I1.tok _, ru, q⟩
  · cases l
/-! ### X(e): a class without an own __init__ -/
def tExcV (C : Addr) (ta : TE) : TE := fun σ H Q => ta σ H fun _ H1 => ∀ a, H1 a = none → Q (.ref a) (upd H1 a (exo a C none))
theorem pe_excV {X : Cx} {C : Addr} {bmB : List Value} {B newId initId : String} {x : Str} {e : Expr} {ta : TE} {p pos : Pos} (F : ExcBaseFacts B newId initId bmB) (q : PySem.W.excIn X.K C bmB newId = true) (gC : X.mg x = some (.ref C)) (kC : PySem.W.keepIn X.K (.ref C) = true) (he : PE X e ta) (hg : Gl X x := by rfl)
    (hs : starEach [e] X.env = (false, eval e X.env) :: starEach [] X.env := by rfl) (hdb : (x == ("__debug__" : Str)) = false := by decide) :
    PE X (.Call (.Name x p) [e] [] pos) (tExcV C ta) := by
  refine ⟨fun pins s σ H Q I h => ?_⟩
  refine wpAny_Call_Name_kw (ld_glob I hg gC ?_ hdb)
  refine PySem.W.callWith_K (h₀ := X.base) I.ok.mod.kin kC ?_ hs (by rfl)
  rw [hs]
  show wpAny _ _ (spliced ((false, eval e X.env) :: backTo pos (starEach [] X.env))) _ _ s
  refine Calls.spliced_cons (thn (he.run pins s σ H _ I h) fun u s1 ⟨v, H1, I1, r1, q1⟩ => ?_)
  refine Calls.spliced_nil ⟨I1.kIn, ?_⟩
  show wpAny _ _ (call (.ref C) [u]) _ _ _
  obtain ⟨bm, N, nm, qn, bs, hdct, sn, sub, ab, col, dd, k0, k1, k2, k3, k5, mN, hC, hN, hni, T⟩ := exc_obj I1.kIn q
  refine wpAny_call_exc_subT F T hC hN hni (fun h' a hm => ?_) (by show 1 ≤ sizeLine; rw [sizeLine_eq]; omega)
  have hn : H1 a = none := I1.hok.gone hm.new
  obtain ⟨t, ht, _, _⟩ := hm.there
  exact ⟨.ref a, upd H1 a (exo a C none), I1.laidN hm.keeps hm.new hn (exo_ok ht), rfl, q1 a hn⟩
/-! ### X(e, ..): a class with an own __init__ -/
def tExcI (C : Addr) (sp : Sp) (ta : TA) : TE := fun σ H Q => ta σ H fun vs H1 => vs.length ≤ 1000 ∧ ∀ a, H1 a = none → sp (.ref a :: (vs ++ [])) (upd H1 a (exo a C none)) (fun v H2 => v = .non ∧ Q (.ref a) H2) (fun _ _ _ => False)
structure OexX (K : PySem.W.Frag) (C fI : Addr) : Prop extends OexC K C where
  ini : PySem.W.findIn K (.ref C) "__init__" = some (some (.ref fI))
  tyI : PySem.W.typeIn K (.ref fI) = some (.type "function")
theorem pe_excI {X : Cx} {x : Str} {C fI : Addr} {k : Nat} {ps : List Str} {sp : Sp} {e : Expr} {es : List Expr} {ta : TA} {p pos : Pos} (T : OexX X.K C fI) (D : DnM X.prog X.w X.K X.mg X.base CX0 k fI ps sp) (hr : Room (k + 1) X.A) (hx : Passes CX0 X (fun _ _ _ => False)) (hm : X.mg x = some (.ref C)) (ha : PA X (e :: es) ta) (hg : Gl X x := by rfl)
    (hdb : (x == ("__debug__" : Str)) = false := by decide) (he : starEach (e :: es) X.env = (false, eval e X.env) :: starEach es X.env := by rfl) (hpl : (backTo pos (starEach es X.env)).any (·.1) = false := by rfl) :
    PE X (.Call (.Name x p) (e :: es) [] pos) (tExcI C sp ta) := by
  refine ⟨fun pins s σ H Q I h => ?_⟩
  obtain ⟨fd, F1, hb⟩ := D.ex
  obtain ⟨nm, q, N, bs, bm, sn, sub, ab, col, dd, k0, k1, k2, k3, k5, hC, hbm⟩ := T.cls
  refine wpAny_Call_Name_kw (ld_glob I hg hm ?_ hdb)
  refine PySem.W.callWith_K (h₀ := X.base) I.ok.mod.kin T.kC (thn (ha.run pos pins s σ H _ I h) fun us s1 ⟨vs, H1, I1, r1, hz, q1⟩ => ⟨I1.kIn, ?_⟩) he hpl
  show wpAny _ _ (call (.ref C) us) _ _ _
  obtain ⟨hp, g, dr, tk, os⟩ := s1
  have hsz : hp.objs.size ≤ hp.objs.size + 1 := Nat.le_succ _
  have hn : H1 (hp.objs.size + 1) = none := I1.hok.fresh hsz
  have hq := q1 (hp.objs.size + 1) hn
  have kk : ∀ b o, hp.get? b = some o → ((hp.push (PySem.W.kdv_tup us)).push (PySem.HandSPX.excO C hp.objs.size)).get? b = some o := fun b o e => Heap.get?_push_of_some _ (Heap.get?_push_of_some _ e)
  have hget : ((hp.push (PySem.W.kdv_tup us)).push (PySem.HandSPX.excO C hp.objs.size)).get? (hp.objs.size + 1) = some (PySem.HandSPX.excO C hp.objs.size) := by heap_get
  have I2 : Inv X pins σ (upd H1 (hp.objs.size + 1) (exo (hp.objs.size + 1) C none)) ⟨(hp.push (PySem.W.kdv_tup us)).push (PySem.HandSPX.excO C hp.objs.size), g, dr, tk, os⟩ :=
    I1.laid (t' := tk) (a := hp.objs.size + 1) (o := exo (hp.objs.size + 1) C none) (h' := (hp.push (PySem.W.kdv_tup us)).push (PySem.HandSPX.excO C hp.objs.size)) kk hsz (exo_ok hget)
  have r2 : Vals (V.ref (hp.objs.size + 1) :: (vs ++ [])) (Value.ref (hp.objs.size + 1) :: (us ++ [])) := .cons rfl (r1.append .nil)
  have hl : (Value.ref (hp.objs.size + 1) :: us ++ []).length = ps.length := by
    have e := r2.length
    rw [F1.len _ _ _ _ hq] at e
    exact e.symm
  have hus : us.length ≤ sizeLine := by
    rw [← Paired.length r1, sizeLine_eq]
    omega
  refine wpAny_call (PySem.HandSPX.call_own F.excBase_ValueError (fun Y => PySem.HandSPX.refsVE_contains Y bm hbm) (I1.kIn _ _ hC) (PySem.W.looks_findIn I1.kIn T.ini) (fun self => PySem.W.bind_fn I1.kIn self T.tyI) hus
    (codeAny_mono (F1.run _ X.stack _ _ ⟨Value.ref (hp.objs.size + 1) :: us, []⟩ (Value.ref (hp.objs.size + 1) :: (us ++ [])) _ _ (fun _ _ _ => False) (hr.make C us []) (I2.env0.make C us []) (by have z := hb _ (Value.ref (hp.objs.size + 1) :: us) I2.kIn hl; rw [List.cons_append] at z; exact z) r2 hq) fun r s' hq' => ?_))
  cases r with
  | error er => exact hx pins σ _ _ er s' I2 hq'
  | ok fl =>
    cases fl with
    | ret u =>
      obtain ⟨v, H2, I3, rv, ev, q3⟩ := I2.after hq'
      subst ev
      exact ⟨rv, ⟨V.ref (hp.objs.size + 1), H2, I3, rfl, q3⟩⟩
    | next => exact False.elim hq'
    | brk => exact False.elim hq'
    | cont => exact False.elim hq'
/-- what is asked of the written part for such a class -/
theorem oexB_ok {x : Str} {K : PySem.W.Frag} (h : oexB x K = true) : OexX K (He.ga K x) (He.ma K (He.ga K x) "__init__") := by
  obtain ⟨a, h⟩ := He.ba h
  obtain ⟨b, h⟩ := He.ba h
  obtain ⟨c, h⟩ := He.ba h
  obtain ⟨d, h⟩ := He.ba h
  obtain ⟨e, h⟩ := He.ba h
  obtain ⟨f, h⟩ := He.ba h
  refine ⟨⟨?_, He.eqO_ok b, of_decide_eq_true c, of_decide_eq_true d, e⟩, He.eqO_ok f, of_decide_eq_true h⟩
  split at a
  · rename_i dd cd sl ho
    split at a
    · rename_i C' bm k0 k1 k2 k3 n k5 hm hs
      simp only [Bool.and_eq_true, beq_iff_eq, Bool.not_eq_true'] at a
      obtain ⟨⟨⟨⟨rfl, rfl⟩, hdel⟩, hdct⟩, hbm⟩ := a
      obtain ⟨nm, bs, mro, ns, qn, hd, sn, sub, ab, col, del⟩ := cd
      dsimp only at hm hdel hdct
      subst hm hdel hdct
      have hsl : sl = #[k0, k1, k2, k3, some (.builtin "ValueError.__new__"), k5] := by
        obtain ⟨l⟩ := sl
        simp only at hs
        rw [hs]
      subst hsl
      exact ⟨nm, qn, ns, bs, bm, sn, sub, ab, col, dd, k0, k1, k2, k3, k5, ho, hbm⟩
    · cases a
  · cases a
/-! ### a text so many times -/
def rRepS : R2 := fun x y H Q => ∃ (a : Str) (k : Int), x = .str a ∧ y = .int k ∧ 0 ≤ k ∧ k ≤ 1000 ∧ a.length ≤ 1000 ∧ ∀ z : Str, Q (.str z) H
theorem rep_size (arr : Array Nat) : ∀ (m : Nat) (acc : Array Nat), ((List.replicate m arr).foldl (· ++ ·) acc).size = acc.size + m * arr.size
  | 0, acc => by simp
  | m + 1, acc => by
    rw [List.replicate_succ, List.foldl_cons, rep_size arr m, Array.size_append, Nat.add_mul, Nat.one_mul]
    omega
theorem op_mulS {X : Cx} : OpR X (binaryOp .Mult) rRepS := by
  intro pins s σ H x y v u Q I rx ry h
  obtain ⟨a, k, rfl, rfl, h0, h1, h2, q⟩ := h
  obtain ⟨t, rfl⟩ := rx
  obtain ⟨t', rfl⟩ := ry
  have hm : a.length * k.toNat ≤ 1000 * 1000 := Nat.mul_le_mul h2 (by omega)
  refine P.mul_str (by rw [decide_eq_false (by omega), decide_eq_false (by omega)]; rfl) (fun c _ => ?_) (fun _ _ => ?_) ?_
  · have c2 : (2 ^ 63 - 1) / 1000 ≤ (2 ^ 63 - 1) / k := by
      refine (Int.le_ediv_iff_mul_le (by omega)).mpr ?_
      have : (2 ^ 63 - 1) / 1000 * k ≤ (2 ^ 63 - 1) / 1000 * 1000 := Int.mul_le_mul_of_nonneg_left h1 (by decide)
      omega
    omega
  · show decide (a.length * k.toNat > sizeLine) = false
    exact decide_eq_false (by rw [sizeLine_eq]; omega)
  · split
    · exact ⟨Nat.zero_le _, .str Str.empty, H, I.tok _, ⟨_, rfl⟩, q _⟩
    · split
      · exact ⟨.str a, H, I, ⟨t, rfl⟩, q _⟩
      · refine ⟨?_, .str _, H, I.tok _, ⟨_, rfl⟩, q _⟩
        show ((List.replicate k.toNat a.cps).foldl (· ++ ·) #[]).size ≤ sizeLine
        rw [rep_size, sizeLine_eq]
        have e : a.cps.size = a.length := rfl
        rw [e, Nat.mul_comm]
        show 0 + a.length * k.toNat ≤ _
        omega
/-! ### steps -/
def excQ (C : Addr) (Q : VK) : VK := fun _ H1 => ∀ a, H1 a = none → Q (.ref a) (upd H1 a (exo a C none))
def excIQ (C : Addr) (sp : Sp) (Q : VK) : List V → Hp → Prop := fun vs H1 => vs.length ≤ 1000 ∧ ∀ a, H1 a = none → sp (.ref a :: (vs ++ [])) (upd H1 a (exo a C none)) (fun v H2 => v = .non ∧ Q (.ref a) H2) (fun _ _ _ => False)
def exfQ (K : PySem.W.Frag) (f : Str) (Q : VK) : VK := fun x H1 => ∃ (a C : Addr) (fs : List (Str × V)) (v : V), x = .ref a ∧ XV H1 a C fs ∧ ExcC K C ∧ PySem.W.findIn K (.ref C) f = some none ∧ fs.lookup f = some v ∧ Q v H1
def spExcInit (C : Addr) (f : Str) : Sp := fun vs H Q _ => ∃ (a : Addr) (v : V), vs = [.ref a, v] ∧ H a = some (exo a C none) ∧ ∀ dx, H dx = none → dx ≠ a → Q .non (upd (upd H dx (exd dx [(f, v)])) a (exo a C (some dx)))
section
variable {K : PySem.W.Frag} {C a : Addr} {sp : Sp} {Q : VK} {R : Prop} {te : TE} {ta : TA} {σ : L2.St} {H : Hp} {f : Str} {v x : V} {fs : List (Str × V)}
instance r_excV [n : Run (te σ H (excQ C Q)) R] : Run (tExcV C te σ H Q) R := ⟨fun h => n.go h⟩
instance r_excI [n : Run (ta σ H (excIQ C sp Q)) R] : Run (tExcI C sp ta σ H Q) R := ⟨fun h => n.go h⟩
instance r_excF [n : Run (te σ H (exfQ K f Q)) R] : Run (tExcF K f te σ H Q) R := ⟨fun h => n.go h⟩
theorem x_excV (q : ∀ a H', Ex H H' → XV H' a C [] → Q (.ref a) H') : excQ C Q x H := fun a ha => q a _ (Ex.new ha) (.inl ⟨rfl, upd_same⟩)
theorem x_excI (q : ∀ a H', Ex H H' → XV H' a C [(f, v)] → Q (.ref a) H') : excIQ C (spExcInit C f) Q [v] H :=
  ⟨Nat.le_of_ble_eq_true rfl, fun a ha => ⟨a, v, rfl, upd_same, fun dx hd hne => ⟨rfl, q a _ (fun b o e => by
    have nb : b ≠ a := fun z => by rw [z, ha] at e; cases e
    rw [upd_ne nb]
    have nd : b ≠ dx := fun z => by rw [← z, upd_ne nb, e] at hd; cases hd
    rw [upd_ne nd, upd_ne nb]
    exact e) (.inr ⟨dx, upd_same, by rw [upd_ne hne]; exact upd_same⟩)⟩⟩⟩
theorem x_exF (xv : XV H a C fs) (F : ExcC K C) (no : PySem.W.findIn K (.ref C) f = some none) (l : fs.lookup f = some v) (q : Q v H) : exfQ K f Q (.ref a) H := ⟨a, C, fs, v, rfl, xv, F, no, l, q⟩
theorem x_lstE {xs : List V} (hz : xs.length ≤ sizeLine) (q : ∀ p H', Ex H H' → H' p = some (.lst xs) → Q (.ref p) H') : lstQ Q xs H := ⟨hz, fun p hp => q p _ (Ex.new hp) upd_same⟩
theorem x_catE {p q : Addr} {xs ys : List V} (h : H p = some (.lst xs)) (h2 : H q = some (.lst ys)) (hz : xs.length + ys.length ≤ sizeLine) (k : ∀ l H', Ex H H' → H' l = some (.lst (xs ++ ys)) → Q (.ref l) H') : rCat (.ref p) (.ref q) H Q :=
  x_cat h h2 hz fun l hl => k l _ (Ex.new hl) upd_same
end
/-- exceptions one by one, of the classes named -/
inductive XVs (K : PySem.W.Frag) (H : Hp) : List Addr → List Str → Prop
  | nil : XVs K H [] []
  | cons {a : Addr} {x : Str} {as : List Addr} {xs : List Str} (fs : List (Str × V)) : XV H a (He.ga K x) fs → XVs K H as xs → XVs K H (a :: as) (x :: xs)
theorem XVs.ex {K : PySem.W.Frag} {H H' : Hp} (e : Ex H H') {as : List Addr} {xs : List Str} (h : XVs K H as xs) : XVs K H' as xs := by
  induction h with
  | nil => exact .nil
  | cons fs x _ ih => exact .cons fs (x.ex e) ih
theorem XVs.get {K : PySem.W.Frag} {H : Hp} {as : List Addr} {xs : List Str} (h : XVs K H as xs) : ∀ {i : Nat} {x : Str}, xs[i]? = some x → ∃ a fs, as[i]? = some a ∧ XV H a (He.ga K x) fs := by
  induction h with
  | nil => intro i x e; cases i <;> simp at e
  | cons fs xv _ ih =>
    intro i x e
    match i, e with
    | 0, e => cases e; exact ⟨_, fs, rfl, xv⟩
    | i + 1, e => exact ih (i := i) (by simpa using e)
theorem XVs.app {K : PySem.W.Frag} {H : Hp} {as bs : List Addr} {xs ys : List Str} (h : XVs K H as xs) (h2 : XVs K H bs ys) : XVs K H (as ++ bs) (xs ++ ys) := by
  induction h with
  | nil => exact h2
  | cons fs x _ ih => exact .cons fs x ih
/-! ### a caught exception handed to a def -/
theorem call_isP {X : Cx} {p : Addr × Obj} {cls : Value} {d : Option Addr} (hp : p ∈ X.pn) (hz : Zc cls d p.2) (hf : ∃ vs, p.2.data = .fields vs) : CallR X (.builtin "isinstance") (rIsX X.K cls d p.1) := by
  intro pins s σ H xs us Q I r h
  obtain ⟨D, c, cv, b, rfl, rfl, C, rfl, hcv, e, q⟩ := h
  cases r with
  | cons rx rr =>
    cases rr with
    | cons rt rr =>
      cases rr
      cases rx
      have ec := hcv _ rt
      subst ec
      obtain ⟨hget, _⟩ := I.pin p (List.mem_append_left _ hp)
      obtain ⟨vs, hv⟩ := hf
      obtain ⟨a, oe⟩ := p
      have J : PySem.W.InstAt s.heap a oe D none := by
        obtain ⟨oc, od, oda, osl⟩ := oe
        obtain ⟨h1, h2⟩ := hz
        dsimp only at h1 h2 hv
        subst h1 h2 hv
        exact ⟨hget, rfl, rfl, trivial⟩
      exact PySem.W.kia_one (PySem.W.handS_kitx_exc C.hg C.hk C.hs C.hd C.ha C.hn C.ht C.hm) I.kIn J e (fun z => nomatch z) fun tk => ⟨.bl b, H, I.kept (t' := tk) fun _ _ z => z, rfl, q⟩
/-- what is asked of a def that is handed the exception at hand: its class, its dict, its place -/
abbrev SpE := Value → Option Addr → Addr → Sp
structure FnE (P : Program) (w : World) (K : PySem.W.Frag) (mg : Str → Option Value) (base : Heap) (k : Nat) (f : Addr) (fd : FuncData) (ps : List Str) (sp : SpE) : Prop where
  len : ∀ c d a vs H Q E, sp c d a vs H Q E → vs.length = ps.length
  run : ∀ (A : Around) (outer : List Env) (s : Shared) (H : Hp) (args : Args) (us : List Value) (vs : List V) (Q : VK) (E : XK) (p : Addr × Obj) (c : Value) (d : Option Addr), L2H.RoomH k A → Zc c d p.2 → (∃ vs, p.2.data = .fields vs) → L2H.PinOk outer H s p → Env0 P w K mg base A outer s H → BindsTo s fd args (ps.zip us) → Vals vs us → sp c d p.1 vs H Q E →
    codeAny (model P w) A (.call (.ref f) args) (CR CX0 outer P w H s Q E) s
theorem fn_ofE {P : Program} {w : World} {K : PySem.W.Frag} {mg : Str → Option Value} {base : Heap} {k : Nat} {f : Addr} {name qual : Str} {params : Arguments} {body : List Stmt} {scope : Scope} {dV kV doc pm cdv ct oc : Value} {an od : Option Addr}
    {osl : Array (Option Value)} {N ps : List Str} {sp : SpE} (lk : K.lookup f = some ⟨oc, od, .func (PySem.W.fnOf name qual params body scope dV kV doc pm an cdv ct), osl⟩) (hcd : PySem.W.codeIn K cdv qual = true) (S : FnScope N ps scope)
    (len : ∀ c d a vs H Q E, sp c d a vs H Q E → vs.length = ps.length)
    (hbody : ∀ (A : Around) (outer : List Env) (s : Shared) (H : Hp) (vs : List V) (Q : VK) (E : XK) (p : Addr × Obj) (c : Value) (d : Option Addr), Zc c d p.2 → (∃ vs, p.2.data = .fields vs) → L2H.RoomH k (A.deeper (envOfC qual scope s.heap.objs.size f cdv)) → sp c d p.1 vs H Q E →
      ∃ t, PSs (L2H.cxH CX0 P w K mg base N qual scope f cdv A outer s H E p) body t ∧ t { nx := fun _ H' => Q .non H', rt := Q } (L2.start N vs) H) :
    FnE P w K mg base (k + 1) f (PySem.W.fnOf name qual params body scope dV kV doc pm an cdv ct) ps sp := by
  refine ⟨len, fun A outer s H args us vs Q E p c d hr hz hf hpin e0 hb r hsp => ?_⟩
  have hl := len _ _ _ _ _ _ _ hsp
  have KX : K.In s.heap := e0.mod.kin.keeps fun b o e => (e0.bs b o e).1
  have lim : s.heap.NoLimit := e0.mod.nolimit.keeps fun b o e => (e0.bs b o e).1
  have hkind : ∀ y ∈ ps.zip us, scope.names.lookup y.1 = some .local ∨ (scope.names.lookup y.1 = some .cell ∧ ((cellsFrom (s.heap.objs.size + 1) scope.names []).lookup y.1).isSome = true) := fun ⟨n, v⟩ hy => by
    rcases S.par n (List.of_mem_zip hy).1 with q | q
    · exact .inl q
    · exact .inr ⟨q, PySem.W.cellsFrom_some _ _ _ (.inl q)⟩
  refine codeAny_call_function hr.depth (KX _ _ lk) rfl S.co S.gen rfl (PySem.W.codeRec_of KX hcd) (hb _ _ _ _ ?_)
  refine wpAny_newFunctionEnv_cells S.kind hkind fun env he s1 x => ?_
  subst he
  refine ⟨lim.keeps x.toInCall.keep, codeAny_func ?_⟩
  obtain ⟨t, ht, hq⟩ := hbody A outer s H vs Q E p c d hz hf (hr.deeper _) hsp
  have I : Inv (L2H.cxH CX0 P w K mg base N qual scope f cdv A outer s H E p) [] (L2.start N vs) H s1 := L2H.inv_startH S hpin e0 hl r x
  refine wpAny_mono (ht.run [] s1 (L2.start N vs) H _ I hq) (fun fl s' hs => ?_) fun e s' hs => hs
  have fin : ∀ {σ' : L2.St} {H' : Hp} {v : V} {u : Value}, Inv (L2H.cxH CX0 P w K mg base N qual scope f cdv A outer s H E p) [] σ' H' s' → RelV v u → Q v H' → CE outer P w H s Q u s' :=
    fun {σ' H' v u} J rv q => ⟨v, H', J.os, J.bare, J.base, J.hok, rv, q⟩
  cases fl with
  | ret u =>
    obtain ⟨v, σ', H', J, rv, q⟩ := hs
    exact fin J rv q
  | next =>
    obtain ⟨σ', H', J, q⟩ := hs
    exact fin (v := V.non) (u := Value.none) J rfl q
  | brk =>
    obtain ⟨_, _, _, q⟩ := hs
    exact False.elim q
  | cont =>
    obtain ⟨_, _, _, q⟩ := hs
    exact False.elim q
structure DnE (P : Program) (w : World) (K : PySem.W.Frag) (mg : Str → Option Value) (base : Heap) (k : Nat) (x : Str) (ps : List Str) (sp : SpE) : Prop where
  ex : ∃ f fd, FnE P w K mg base k f fd ps sp ∧ mg x = some (.ref f) ∧ PySem.W.keepIn K (.ref f) = true ∧ Binds K fd ps []
theorem Df.dnE {P : Program} {w : World} {K : PySem.W.Frag} {mg : Str → Option Value} {base : Heap} {x : Str} {st : Stmt} {N ps : List Str} {k : Nat} {sp : SpE} (F : Df K mg x st) (S : FnScope N ps (defScope st))
    (hb : ∀ (kV doc pm : Value) (an : Option Addr) (cdv ct : Value) (us : List Value), us.length = ps.length → bindArgs (PySem.W.fnOf x x (defArgs st) (defBody st) (defScope st) .none kV doc pm an cdv ct) ⟨us, []⟩ = pure (ps.zip us))
    (len : ∀ c d a vs H Q E, sp c d a vs H Q E → vs.length = ps.length)
    (hbody : ∀ (f : Addr) (cdv : Value) (A : Around) (outer : List Env) (s : Shared) (H : Hp) (vs : List V) (Q : VK) (E : XK) (p : Addr × Obj) (c : Value) (d : Option Addr), Zc c d p.2 → (∃ vs, p.2.data = .fields vs) → L2H.RoomH k (A.deeper (envOfC x (defScope st) s.heap.objs.size f cdv)) → (L2H.cxH CX0 P w K mg base N x (defScope st) f cdv A outer s H E p).K = K → sp c d p.1 vs H Q E →
      ∃ t, PSs (L2H.cxH CX0 P w K mg base N x (defScope st) f cdv A outer s H E p) (defBody st) t ∧ t { nx := fun _ H' => Q .non H', rt := Q } (start N vs) H) : DnE P w K mg base (k + 1) x ps sp := by
  obtain ⟨f, fd, F, hm⟩ := F.ex
  have hbb := F.binds hb
  have hkp := F.kp
  obtain ⟨oc, od, kV, doc, pm, an, cdv, ct, osl, rfl, lk, hcd⟩ := F.ex
  exact ⟨f, _, fn_ofE lk hcd S len (fun A outer s H vs Q E p c d hz hf hr h => hbody f cdv A outer s H vs Q E p c d hz hf hr rfl h), hm, hkp, hbb⟩
def tCallE (sp : SpE) (c : Value) (d : Option Addr) (a : Addr) (t : TA) : TE := fun σ H Q => t σ H fun vs H1 => sp c d a vs H1 Q (fun _ _ _ => False)
theorem pe_dnE {X : Cx} {k : Nat} {x : Str} {ps : List Str} {sp : SpE} {e : Expr} {es : List Expr} {t : TA} {q pos : Pos} {a : Addr} {oe : Obj} {cls : Value} {d : Option Addr} {pn : List (Addr × Obj)} (D : DnE X.prog X.w X.K X.mg X.base k x ps sp) (hr : Room k X.A) (hz : Zc cls d oe) (hf : ∃ vs, oe.data = .fields vs)
    (ha : PA (X.suite a ((a, oe) :: pn)) (e :: es) t) (hg : Gl (X.suite a ((a, oe) :: pn)) x := by rfl) (hdb : (x == ("__debug__" : Str)) = false := by decide) (he : starEach (e :: es) X.env = (false, eval e X.env) :: starEach es X.env := by rfl) (hpl : (backTo pos (starEach es X.env)).any (·.1) = false := by rfl) :
    PE (X.suite a ((a, oe) :: pn)) (.Call (.Name x q) (e :: es) [] pos) (tCallE sp cls d a t) := by
  obtain ⟨f, fd, F, hm, hk, hb⟩ := D.ex
  refine ⟨fun pins s σ H Q I h => ?_⟩
  refine wpAny_Call_Name_kw (ld_glob I hg hm ?_ hdb)
  refine PySem.W.callWith_K (h₀ := X.base) I.ok.mod.kin hk (thn (ha.run pos pins s σ H _ I h) fun us s1 ⟨vs, H1, I1, r, h1⟩ => ⟨I1.kIn, ?_⟩) he hpl
  have hl : us.length = ps.length := by rw [← r.length]; exact F.len _ _ _ _ _ _ _ h1
  have b := hb s1 us I1.kIn (by rw [List.append_nil]; exact hl)
  rw [List.append_nil] at b
  have P1 := I1.pin (a, oe) (List.mem_append_left _ List.mem_cons_self)
  have hpin : L2H.PinOk X.stack H1 s1 (a, oe) := ⟨P1.1, P1.2.1, fun hm => (List.mem_cons.mp (I1.stkSub a hm)).elim P1.2.2.1 P1.2.2.2.1, P1.2.2.2.2⟩
  refine wpAny_call (codeAny_mono (F.run (X.suite a ((a, oe) :: pn)).A X.stack s1 H1 ⟨us, []⟩ us vs Q (fun _ _ _ => False) (a, oe) cls d ⟨hr.dp, hr.un⟩ hz hf hpin I1.env0 b r h1) fun r s' hq => ?_)
  cases r with
  | error e => exact False.elim (by simpa [CR] using hq)
  | ok fl =>
    cases fl with
    | ret u => exact I1.after hq
    | next => exact False.elim hq
    | brk => exact False.elim hq
    | cont => exact False.elim hq
instance r_callE {sp : SpE} {c : Value} {d : Option Addr} {a : Addr} {t : TA} {σ : L2.St} {H : Hp} {Q : VK} {R : Prop} [n : Run (t σ H (callQ (sp c d a) Q (fun _ _ _ => False))) R] : Run (tCallE sp c d a t σ H Q) R := ⟨fun h => by
  have z := n.go h
  unfold callQ at z
  simpa [tCallE] using z⟩
/-! ### list.count of flat values -/
def rCntF (K : PySem.W.Frag) : V → List V → Hp → VK → Prop := fun x xs H Q => ∃ (p : Addr) (ys : List V) (y : V), x = .ref p ∧ xs = [y] ∧ SqL K H p ys ∧ flatV y = true ∧ ys.all flatV = true ∧ Q (.int ((ys.countP fun z => eqV z y : Nat) : Int)) H
theorem cnt_eqU {y : V} : ∀ {ys : List V} {its : List Value}, Vals ys its → ys.all flatV = true → its.countP (eqU y) = ys.countP fun z => eqV z y
  | [], [], _, _ => rfl
  | v :: ys, u :: its, .cons r rr, h => by
    rw [List.all_cons, Bool.and_eq_true] at h
    rw [List.countP_cons, List.countP_cons, cnt_eqU rr h.2, eqU_of r h.1]
theorem mt_countF {X : Cx} : MtR X "list.count" (rCntF X.K) := by
  intro pins s σ H x xs v us Q I rx rxs h
  obtain ⟨p, ys, y, rfl, rfl, hs, fy, fys, q⟩ := h
  cases rx
  cases rxs with
  | cons ry rt =>
    rename_i uy ut
    cases rt
    obtain ⟨its, rv, ⟨⟨cls, dd, data, sl⟩, n, ho, hc, hdn, hd⟩, hlen⟩ := I.list hs
    simp only at hc hd
    subst hc hd
    refine call_meets PySem.F.slot_list_count ⟨_, ho, rfl⟩ PySem.F.entry_list_count (PySem.F.args_list_count_2 _ _)
      (SeqAt.list_countAt p its.toArray n dd sl uy (eqU y)) ⟨ho, fun u' hu' => mem_eqAt ry fy rv fys u' (by simpa using hu'), ?_⟩
    refine ⟨.int ((ys.countP fun z => eqV z y : Nat) : Int), H, I.tok _, ⟨s.toks, ?_⟩, q⟩
    show Value.int ((its.toArray.toList.countP (eqU y) : Nat) : Int) s.toks = _
    rw [cnt_eqU rv fys]
end G

set_option Elab.async false
set_option linter.all false
set_option maxRecDepth 100000
set_option maxHeartbeats 4000000
set_option synthInstance.maxHeartbeats 0
set_option synthInstance.maxSize 100000
/-! Texts as words and back; tables of the top; exceptions with a field that a suite holds. -/
namespace G
open PySem PySem.Spec PyProof.Rows L2 Evl RZ
/-! ### words of a text -/
theorem glue_inj {c : Nat} : ∀ {a b x y : List Nat}, c ∉ a → c ∉ b → (x = [] ∨ ∃ t, x = c :: t) → (y = [] ∨ ∃ t, y = c :: t) → a ++ x = b ++ y → a = b ∧ x = y
  | [], [], _, _, _, _, _, _, e => ⟨rfl, e⟩
  | [], d :: b, x, y, _, hb, hx, _, e => by
    exfalso
    rcases hx with rfl | ⟨t, rfl⟩
    · simp at e
    · injection e with e1 _
      exact hb (by rw [e1]; exact List.mem_cons_self)
  | d :: a, [], x, y, ha, _, _, hy, e => by
    exfalso
    rcases hy with rfl | ⟨t, rfl⟩
    · simp at e
    · injection e with e1 _
      exact ha (by rw [e1]; exact List.mem_cons_self)
  | d :: a, d2 :: b, x, y, ha, hb, hx, hy, e => by
    injection e with e1 e2
    obtain ⟨h1, h2⟩ := glue_inj (fun z => ha (List.mem_cons_of_mem _ z)) (fun z => hb (List.mem_cons_of_mem _ z)) hx hy e2
    exact ⟨by rw [e1, h1], h2⟩
def jl (c : Nat) : List (List Nat) → List Nat
  | [] => []
  | [a] => a
  | a :: b :: r => a ++ c :: jl c (b :: r)
theorem jl_inj {c : Nat} : ∀ {as bs : List (List Nat)}, as ≠ [] → bs ≠ [] → (∀ a ∈ as, c ∉ a) → (∀ b ∈ bs, c ∉ b) → jl c as = jl c bs → as = bs
  | [], _, h, _, _, _, _ => absurd rfl h
  | _ :: _, [], _, h, _, _, _ => absurd rfl h
  | [a], [b], _, _, _, _, e => by rw [show a = b from e]
  | [a], b :: b2 :: r, _, _, ha, _, e => by
    exfalso
    have e : a = b ++ c :: jl c (b2 :: r) := e
    exact ha a List.mem_cons_self (by rw [e]; simp)
  | a :: a2 :: r, [b], _, _, _, hb, e => by
    exfalso
    have e : a ++ c :: jl c (a2 :: r) = b := e
    exact hb b List.mem_cons_self (by rw [← e]; simp)
  | a :: a2 :: r, b :: b2 :: t, _, _, ha, hb, e => by
    have e : a ++ c :: jl c (a2 :: r) = b ++ c :: jl c (b2 :: t) := e
    obtain ⟨h1, h2⟩ := glue_inj (ha a List.mem_cons_self) (hb b List.mem_cons_self) (.inr ⟨_, rfl⟩) (.inr ⟨_, rfl⟩) e
    injection h2 with _ h3
    have ih := jl_inj (as := a2 :: r) (bs := b2 :: t) (fun z => nomatch z) (fun z => nomatch z) (fun z hz => ha z (List.mem_cons_of_mem _ hz)) (fun z hz => hb z (List.mem_cons_of_mem _ hz)) h3
    rw [h1, ih]
theorem join_list (c : Nat) : ∀ ws : List Str, (Str.join (⟨#[c]⟩ : Str) ws).cps.toList = jl c (ws.map fun z => z.cps.toList)
  | [] => rfl
  | [a] => rfl
  | a :: b :: r => by
    show (a ++ (⟨#[c]⟩ : Str) ++ Str.join (⟨#[c]⟩ : Str) (b :: r)).cps.toList = _
    have h := join_list c (b :: r)
    show (a.cps ++ #[c] ++ (Str.join (⟨#[c]⟩ : Str) (b :: r)).cps).toList = _
    rw [Array.toList_append, Array.toList_append, h]
    show a.cps.toList ++ [c] ++ _ = a.cps.toList ++ c :: _
    rw [List.append_assoc]
    rfl
theorem split_ne (x y : Str) : Txt.split x y ≠ [] := by
  unfold Txt.split
  split
  · exact fun z => nomatch z
  · split
    · exact fun z => nomatch z
    · rw [StrLaws.partsBetween_eq]
      obtain ⟨p, r, e⟩ := StrLaws.partsFrom_ne x y.length 0 (Builtin.Str.occurrences x y 0 x.length (x.length + 1))
      rw [e]
      exact fun z => nomatch z
theorem cps_inj {a b : Str} (h : a.cps.toList = b.cps.toList) : a = b := by
  obtain ⟨⟨a⟩⟩ := a
  obtain ⟨⟨b⟩⟩ := b
  have h : a = b := h
  rw [h]
theorem map_cps_inj : ∀ {as bs : List Str}, as.map (fun z => z.cps.toList) = bs.map (fun z => z.cps.toList) → as = bs
  | [], [], _ => rfl
  | [], _ :: _, h => by simp at h
  | _ :: _, [], h => by simp at h
  | a :: as, b :: bs, h => by
    rw [List.map_cons, List.map_cons] at h
    injection h with h1 h2
    rw [cps_inj h1, map_cps_inj h2]
theorem split_join {c : Nat} {ws : List Str} (hn : ws ≠ []) (hf : ∀ z ∈ ws, c ∉ z.cps.toList) : Txt.split (Str.join (⟨#[c]⟩ : Str) ws) (⟨#[c]⟩ : Str) = ws := by
  have e := congrArg (fun z : Str => z.cps.toList) (StrLaws.join_split (Str.join (⟨#[c]⟩ : Str) ws) (⟨#[c]⟩ : Str))
  have e : (Str.join (⟨#[c]⟩ : Str) (Txt.split (Str.join (⟨#[c]⟩ : Str) ws) (⟨#[c]⟩ : Str))).cps.toList = (Str.join (⟨#[c]⟩ : Str) ws).cps.toList := e
  rw [join_list, join_list] at e
  refine map_cps_inj (jl_inj ?_ ?_ ?_ ?_ e)
  · exact fun z => split_ne _ _ (List.map_eq_nil_iff.mp z)
  · exact fun z => hn (List.map_eq_nil_iff.mp z)
  · intro a ha
    obtain ⟨z, hz, rfl⟩ := List.mem_map.mp ha
    exact StrLaws.split_free _ _ z hz
  · intro a ha
    obtain ⟨z, hz, rfl⟩ := List.mem_map.mp ha
    exact hf z hz
/-- words with one blank between -/
def jn (ws : List Str) : Str := Txt.join " " ws
theorem jn_eq (ws : List Str) : jn ws = Str.join (⟨#[32]⟩ : Str) ws := by
  show Builtin.Str.glued _ ws = _
  rw [StrLaws.glued_eq_join]
  rfl
def nob (z : Str) : Prop := (32 : Nat) ∉ z.cps.toList
theorem split_jn {ws : List Str} (hn : ws ≠ []) (hf : ∀ z ∈ ws, nob z) : Txt.split (jn ws) " " = ws := by
  rw [jn_eq]
  exact split_join hn hf
theorem jn_one (a : Str) : jn [a] = a := by rw [jn_eq]; rfl
theorem str_assoc (a b c : Str) : a ++ b ++ c = a ++ (b ++ c) := cps_inj (by
  show (a.cps ++ b.cps ++ c.cps).toList = (a.cps ++ (b.cps ++ c.cps)).toList
  simp)
theorem str_nil (a : Str) : Str.empty ++ a = a := cps_inj (by
  show (#[] ++ a.cps).toList = a.cps.toList
  simp)
theorem jn_cons (a b : Str) (r : List Str) : jn (a :: b :: r) = a ++ (" " ++ jn (b :: r)) := by
  rw [jn_eq, jn_eq, ← str_assoc]
  rfl
theorem jn_len : ∀ ws : List Str, (jn ws).length ≤ (ws.map (·.length)).sum + ws.length
  | [] => Nat.zero_le _
  | [a] => by rw [jn_one]; simp
  | a :: b :: r => by
    have h := jn_len (b :: r)
    rw [jn_cons]
    rw [Str.length_append, Str.length_append, List.map_cons, List.sum_cons, List.length_cons]
    have : (" " : Str).length = 1 := rfl
    omega
/-! ### numbers as texts -/
def nt (i : Int) : Str := (toString i : String)
theorem nt_len {i : Int} (h0 : 0 ≤ i) (h1 : i < 10 ^ 10) : (nt i).length ≤ 10 := PySem.W.KT.len_num h0 h1
theorem nt_cps (m : Nat) : (nt (m : Int)).cps.toList = (Nat.toDigits 10 m).map Char.toNat := PySem.W.KIN.signs_num m
theorem nt_reads {i : Int} (h0 : 0 ≤ i) (h1 : i < 10 ^ 10) : PySem.intText? (nt i) = some i := PySem.W.KIN.num_reads h0 h1
theorem nt_digit {m c : Nat} (h : c ∈ (nt (m : Int)).cps.toList) : 48 ≤ c ∧ c ≤ 57 := by
  rw [nt_cps] at h
  obtain ⟨ch, hch, rfl⟩ := List.mem_map.mp h
  exact PyProof.Rows.digit_range (Nat.isDigit_of_mem_toDigits (by decide) (by decide) hch)
theorem nt_nob (m : Nat) : nob (nt (m : Int)) := fun h => by
  have := nt_digit h
  omega
/-- no nought ahead of others -/
theorem nt_head : ∀ (m : Nat), 10 ≤ m → ∃ c r, (nt (m : Int)).cps.toList = c :: r ∧ c ≠ 48 := by
  intro m
  rw [nt_cps]
  induction m using Nat.strongRecOn with
  | _ m ih =>
    intro h
    have hm : m % 10 < 10 := Nat.mod_lt m (by decide)
    have t : Nat.toDigits 10 (m / 10) ++ Nat.toDigits 10 (m % 10) = Nat.toDigits 10 (10 * (m / 10) + m % 10) := Nat.toDigits_append_toDigits (by decide) (by omega) hm
    rw [Nat.div_add_mod] at t
    rw [← t, List.map_append]
    by_cases c : 10 ≤ m / 10
    · have := ih (m / 10) (by omega) c
      obtain ⟨d, r, e, hd⟩ := this
      exact ⟨d, r ++ _, by rw [e]; rfl, hd⟩
    · rw [Nat.toDigits_of_lt_base (show m / 10 < 10 by omega)]
      refine ⟨(Nat.digitChar (m / 10)).toNat, _, rfl, ?_⟩
      have : ∀ k : Fin 10, 1 ≤ k.val → (Nat.digitChar k.val).toNat ≠ 48 := by decide
      exact this ⟨m / 10, by omega⟩ (by show 1 ≤ m / 10; omega)
theorem nt_small {m : Nat} (h : m < 10) : (nt (m : Int)).cps.toList.length = 1 := by
  rw [nt_cps, Nat.toDigits_of_lt_base h]
  rfl
theorem nt_ne (m : Nat) : (nt (m : Int)).cps.toList ≠ [] := by
  by_cases h : m < 10
  · intro e
    have := nt_small h
    rw [e] at this
    cases this
  · obtain ⟨c, r, e, _⟩ := nt_head m (by omega)
    rw [e]
    exact fun z => nomatch z
/-! ### split -/
def rSplit : V → List V → Hp → VK → Prop := fun x xs H Q => ∃ a b, x = .str a ∧ xs = [.str b] ∧ (b.length == 0) = false ∧ a.length + 2 ≤ sizeLine ∧ rNewStrs (Txt.split a b) H Q
theorem pe_splitN {X : Cx} {o e : Expr} {to te : TE} {apos pos : Pos} (ho : PE X o to) (he : PE X e te) (hs : starEach [e] X.env = [(false, eval e X.env)] := by rfl) (hbase : attributeBase o "split" X.env (eval o X.env) = eval o X.env := by rfl) (hline : (apos.endLine == pos.line) = true := by rfl) :
    PE X (.Call (.Attribute o "split" apos) [e] [] pos) (tM1 rSplit to te) := pe_split ho he hs hbase hline
section
variable {K : PySem.W.Frag} {H : Hp} {σ : L2.St} {Q : VK} {Rs T : List Res} {F : Res → List Res} {p : Addr} {xs : List V} {R : Prop}
theorem x_splitS {z : Str} [S : Sat H Rs] (hz : z.length + 2 ≤ sizeLine) (q : ∀ p H', PK H H' → Sat H' (cell p (.lst ((Txt.split z " ").map V.str)) :: Rs) → Q (.ref p) H') : rSplit (.str z) [.str " "] H Q :=
  ⟨z, " ", rfl, rfl, rfl, hz, fun p hp => q p _ (PK.of_ex (Ex.new hp)) (S.new hp)⟩
/-! ### f-strings -/
def fjQ (ts : List TE) (acc : Str) (σ : L2.St) (Q : VK) : VK := fun x H1 => ∃ y : Str, x = .str y ∧ (acc ++ y).length ≤ sizeLine ∧ tJs ts (acc ++ y) σ H1 fun out H1 => Q (.str out) H1
def tFs (ts : List TE) : TE := fun σ H Q => tJs ts Str.empty σ H fun out H1 => Q (.str out) H1
theorem pe_fstr {X : Cx} {v1 v2 : Expr} {rest : List Expr} {ts : List TE} {pos : Pos} (h : PJ X (v1 :: v2 :: rest) ts) : PE X (.JoinedStr (v1 :: v2 :: rest) pos) (tFs ts) := pe_joined h
def fmtQ (Q : VK) : VK := fun x H1 => (∃ y : Str, x = .str y ∧ y.length ≤ sizeLine ∧ Q (.str y) H1) ∨ ∃ i : Int, x = .int i ∧ i.natAbs.log2 < 1920 ∧ Q (.str (toString i)) H1
def fsQ (ts : List TE) (acc : Str) (σ : L2.St) (Q : VK) (H : Hp) : Prop := tJs ts acc σ H fun out H1 => Q (.str out) H1
instance r_fs {ts : List TE} [n : Run (fsQ ts Str.empty σ Q H) R] : Run (tFs ts σ H Q) R := ⟨fun h => n.go h⟩
instance r_fsN {acc : Str} [n : Run (Q (.str acc) H) R] : Run (fsQ [] acc σ Q H) R := ⟨fun h => n.go h⟩
instance r_fsC {acc : Str} {t : TE} {ts : List TE} [n : Run (t σ H (fjQ ts acc σ Q)) R] : Run (fsQ (t :: ts) acc σ Q H) R := ⟨fun h => n.go h⟩
instance r_fmt {te : TE} [n : Run (te σ H (fmtQ Q)) R] : Run (tFmt te σ H Q) R := ⟨fun h => n.go h⟩
theorem x_fj {ts : List TE} {acc y : Str} (hz : (acc ++ y).length ≤ sizeLine) (q : fsQ ts (acc ++ y) σ Q H) : fjQ ts acc σ Q (.str y) H := ⟨y, rfl, hz, q⟩
theorem x_fmtS {y : Str} (hz : y.length ≤ sizeLine) (q : Q (.str y) H) : fmtQ Q (.str y) H := .inl ⟨y, rfl, hz, q⟩
theorem x_fmtI {i : Int} (hz : i.natAbs < 10 ^ 30) (q : Q (.str (nt i)) H) : fmtQ Q (.int i) H := .inr ⟨i, rfl, by
  have : i.natAbs.log2 < 100 := by
    by_cases c : i.natAbs = 0
    · rw [c]; decide
    · exact (Nat.log2_lt c).mpr (Nat.lt_trans hz (by decide))
  omega, q⟩
/-! ### str(x) -/
def rStrOf : List V → Hp → VK → Prop := fun xs H Q => (∃ a, xs = [.str a] ∧ Q (.str a) H) ∨ ∃ i, xs = [.int i] ∧ i.natAbs.log2 < 1920 ∧ Q (.str (toString i)) H
theorem g_str {X : Cx} : CallR X (.type "str") rStrOf := by
  intro pins s σ H xs us Q I r h
  rcases h with h | h
  · exact SkE.call_str_str pins s σ H xs us Q I r h
  · exact call_str_int pins s σ H xs us Q I r h
theorem x_strS {a : Str} (q : Q (.str a) H) : rStrOf [.str a] H Q := .inl ⟨a, rfl, q⟩
theorem x_strI {i : Int} (hz : i.natAbs < 10 ^ 30) (q : Q (.str (nt i)) H) : rStrOf [.int i] H Q := .inr ⟨i, rfl, by
  have : i.natAbs.log2 < 100 := by
    by_cases c : i.natAbs = 0
    · rw [c]; decide
    · exact (Nat.log2_lt c).mpr (Nat.lt_trans hz (by decide))
  omega, q⟩
instance r_strS {a : Str} [n : Run (Q (.str a) H) R] : Run (rStrOf [.str a] H Q) R := ⟨fun h => x_strS (n.go h)⟩
/-! ### int(text) -/
def rIntT : List V → Hp → VK → Prop := fun xs H Q => ∃ a n, xs = [.str a] ∧ PySem.intText? a = some n ∧ a.length ≤ 640 ∧ Q (.int n) H
theorem g_intT {X : Cx} : CallR X (.type "int") rIntT := call_int_str
theorem x_intT {a : Str} {n : Int} (h : PySem.intText? a = some n) (hz : a.length ≤ 640) (q : Q (.int n) H) : rIntT [.str a] H Q := ⟨a, n, rfl, h, hz, q⟩
/-! ### one sign of a text -/
theorem x_ixS {z : Str} {i : Int} {c : Nat} (hz : z.length ≤ sizeLine) (h : atI z.cps.toList i = some c) (q : Q (.str ⟨#[c]⟩) H) : rIxS (.str z) (.int i) H Q := ⟨z, i, c, rfl, rfl, hz, h, q⟩
/-! ### a list or a tuple walked -/
def iAny (K : PySem.W.Frag) (te : TE) : TI := fun σ H R => te σ H fun x H1 => ∃ a, x = .ref a ∧ (((∃ xs, SqL K H1 a xs) ∧ R (Itl K a) H1) ∨ ((∃ xs, SqT K H1 a xs) ∧ R (Itt K a) H1))
theorem pi_any {X : Cx} {tg l : Expr} {tl : TE} (hl : PE X l tl) : PI X tg l (iAny X.K tl) := by
  refine ⟨fun pins s σ H R I h => ?_⟩
  refine thn (hl.run pins s σ H _ I h) fun v s1 ⟨x, H1, I1, r1, q1⟩ => ?_
  obtain ⟨a, e, q1⟩ := q1
  subst e
  cases r1
  rcases q1 with ⟨⟨xs, hq⟩, q⟩ | ⟨⟨xs, hq⟩, q⟩
  · obtain ⟨its, rv, p, hz⟩ := I1.list hq
    refine wpAny_pyIter_list p.isList ?_
    refine ⟨s1.heap.objs.size, [s1.heap.objs.size], _, _, H1, rfl, I1.kept (t' := s1.toks) fun b o e => Heap.get?_push_of_some _ e, turn_list a _, ⟨_, Heap.get?_push_size _ rfl, rfl, rfl⟩, fun b hb => ?_, q⟩
    have e : b = s1.heap.objs.size := by simpa using hb
    subst e
    exact I1.fpOk (Nat.le_refl _) (I1.hok.fresh (Nat.le_refl _))
  · obtain ⟨its, rv, p, hz⟩ := I1.tuple hq
    refine wpAny_pyIter_tuple (show s1.heap.IsTuple a its.toArray from p) ?_
    refine ⟨s1.heap.objs.size, [s1.heap.objs.size], _, _, H1, rfl, I1.kept (t' := s1.toks) fun b o e => Heap.get?_push_of_some _ e, turn_tuple a _, ⟨_, Heap.get?_push_size _ rfl, rfl, rfl⟩, fun b hb => ?_, q⟩
    have e : b = s1.heap.objs.size := by simpa using hb
    subst e
    exact I1.fpOk (Nat.le_refl _) (I1.hok.fresh (Nat.le_refl _))
def iAQ (K : PySem.W.Frag) (R : It → Hp → Prop) : VK := fun x H1 => ∃ a, x = .ref a ∧ (((∃ xs, SqL K H1 a xs) ∧ R (Itl K a) H1) ∨ ((∃ xs, SqT K H1 a xs) ∧ R (Itt K a) H1))
instance r_iA {te : TE} {W : It → Hp → Prop} [n : Run (te σ H (iAQ K W)) R] : Run (iAny K te σ H W) R := ⟨fun h => n.go h⟩
theorem x_iAL {W : It → Hp → Prop} (h : SqL K H p xs) (q : W (Itl K p) H) : iAQ K W (.ref p) H := ⟨p, rfl, .inl ⟨⟨xs, h⟩, q⟩⟩
theorem x_iAT {W : It → Hp → Prop} (h : SqT K H p xs) (q : W (Itt K p) H) : iAQ K W (.ref p) H := ⟨p, rfl, .inr ⟨⟨xs, h⟩, q⟩⟩
end
/-! ### tables of the top -/
def rNotInK (K : PySem.W.Frag) (d : Addr) : R2 := fun x y H Q => ∃ (z : Str) (r : Option Value), x = .str z ∧ y = .ref d ∧ PySem.W.nsIn K d z = some r ∧ Q (.bl (!r.isSome)) H
theorem op_notInK {X : Cx} {d : Addr} {es : Array DictEntry} {n : Nat} (D : KDict X.K X.w d es n) : OpR X (compareOp .NotIn) (rNotInK X.K d) := op_notIn_kd D
/-- the table at d says v of z -/
def KSays (K : PySem.W.Frag) (d : Addr) (z : Str) (v : Option V) : Prop := ∃ r, PySem.W.nsIn K d z = some r ∧ RelO v r
theorem x_notInK {K : PySem.W.Frag} {d : Addr} {z : Str} {v : Option V} {H : Hp} {Q : VK} (h : KSays K d z v) (q : Q (.bl (!v.isSome)) H) : rNotInK K d (.str z) (.ref d) H Q := by
  obtain ⟨r, h1, h2⟩ := h
  refine ⟨z, r, rfl, rfl, h1, ?_⟩
  cases v with
  | none => cases r with
    | none => exact q
    | some u => exact h2.elim
  | some v => cases r with
    | none => exact h2.elim
    | some u => exact q
def rIxK (K : PySem.W.Frag) (w : World) : R2 := rIxD K w
theorem ix_k {X : Cx} : IxR X (rIxK X.K X.w) := ix_kdict
theorem x_ixK {K : PySem.W.Frag} {w : World} {d : Addr} {es : Array DictEntry} {n : Nat} {z : Str} {v : V} {H : Hp} {Q : VK} (D : KDict K w d es n) (h : KSays K d z (some v)) (q : Q v H) : rIxK K w (.ref d) (.str z) H Q := by
  obtain ⟨r, h1, h2⟩ := h
  cases r with
  | none => exact h2.elim
  | some u => exact ⟨d, z, v, rfl, rfl, ⟨es, n, u, D.at_, D.lit, h1, h2⟩, q⟩
/-- D.get(e, f) of a table of the top -/
def tKGet2 (K : PySem.W.Frag) (d : Addr) (ty tx : TE) : TE := fun σ H Q => ty σ H fun y H1 => tx σ H1 fun z H2 => ∃ (k : Str) (v : Option V), y = .str k ∧ KSays K d k v ∧ Q (v.getD z) H2
theorem pe_kget2 {X : Cx} {o e f : Expr} {apos cpos : Pos} {ty tx : TE} {d : Addr} {es : Array DictEntry} {n : Nat} (D : KDict X.K X.w d es n) (ho : PE X o (tC (.ref d))) (he : PE X e ty) (hf : PE X f tx) (m : M2 X o "get" apos e f cpos) : PE X (.Call (.Attribute o "get" apos) [e, f] [] cpos) (tKGet2 X.K d ty tx) := by
  refine ⟨fun pins s σ H Q I h => ?_⟩
  refine wpAny_Call_method m.base m.few m.line PySem.F.plainAttrs_dict PySem.F.slot_dict_get PySem.F.type_dict_get (thn (ho.run pins s σ H (fun x H1 => x = .ref d ∧ H1 = H) I ⟨rfl, rfl⟩) fun u s1 ⟨x, H1, I1, rx, ex, eH⟩ => ?_)
  subst ex eH
  obtain rfl : u = Value.ref d := rx
  have hm := PySem.W.mapOf_K (prog := X.prog) (w := X.w) I1.kIn D.at_ D.lit
  refine ⟨hm.typeIs, fun b q => ?_, ?_⟩
  · cases q
    exact ⟨_, I1.kIn _ _ D.at_, rfl⟩
  rw [m.trees]
  refine Calls.callWith_builtin rfl (Calls.evalArgs_plain (Calls.spliced_cons (thn (he.run pins s1 σ H1 _ I1 h) fun iv s2 ⟨y, H2, I2, ry, q2⟩ =>
    Calls.spliced_cons (thn (hf.run pins s2 σ H2 _ I2 q2) fun fv s3 ⟨z, H3, I3, rz, q3⟩ => Calls.spliced_nil ?_))))
  obtain ⟨k, v, rfl, ⟨r, h1, h2⟩, q⟩ := q3
  obtain ⟨t, rfl⟩ := ry
  have hm3 := PySem.W.mapOf_K (prog := X.prog) (w := X.w) I3.kIn D.at_ D.lit
  refine call_meetsIn PySem.F.slot_dict_get hm3.typeIs PySem.F.entry_dict_get (PySem.F.args_dict_get_3 _ _ _) (meets_dict_get_default (PySem.strKind X.prog X.w) d (PySem.strKind_is X.prog X.w k t) D.low fv) ⟨_, hm3, ?_⟩
  rw [PySem.W.find_K D.at_ h1]
  exact ⟨v.getD z, H3, I3.tok _, h2.getD rz, q⟩
def kgQ1 (K : PySem.W.Frag) (d : Addr) (tx : TE) (σ : L2.St) (Q : VK) : VK := fun y H1 => tx σ H1 fun z H2 => ∃ (k : Str) (v : Option V), y = .str k ∧ KSays K d k v ∧ Q (v.getD z) H2
def kgQ2 (K : PySem.W.Frag) (d : Addr) (y : V) (Q : VK) : VK := fun z H2 => ∃ (k : Str) (v : Option V), y = .str k ∧ KSays K d k v ∧ Q (v.getD z) H2
section
variable {K : PySem.W.Frag} {H : Hp} {σ : L2.St} {Q : VK} {R : Prop} {d : Addr} {ty tx : TE} {y z : V}
instance r_kg [n : Run (ty σ H (kgQ1 K d tx σ Q)) R] : Run (tKGet2 K d ty tx σ H Q) R := ⟨fun h => n.go h⟩
instance r_kg1 [n : Run (tx σ H (kgQ2 K d y Q)) R] : Run (kgQ1 K d tx σ Q y H) R := ⟨fun h => n.go h⟩
theorem x_kg {k : Str} {v : Option V} (h : KSays K d k v) (q : Q (v.getD z) H) : kgQ2 K d (.str k) Q z H := ⟨k, v, rfl, h, q⟩
end
/-! ### tuples compared: whole numbers, or one text each -/
def rLe1 (K : PySem.W.Frag) : R2 := fun x y H Q => ∃ (a b : Addr) (z u : Str), x = .ref a ∧ y = .ref b ∧ SqT K H a [.str z] ∧ SqT K H b [.str u] ∧ Q (.bl (if z = u then true else !decide (u.cps.toList < z.cps.toList))) H
theorem op_le1 {X : Cx} (hu : X.A.units < cLine) : OpR X (compareOp .LtE) (rLe1 X.K) := by
  intro pins s σ H x y v u Q I rx ry h
  obtain ⟨a, b, z, z2, rfl, rfl, ha, hb, q⟩ := h
  cases rx
  cases ry
  obtain ⟨its, r1, p1, _⟩ := I.tuple ha
  obtain ⟨its2, r2, p2, _⟩ := I.tuple hb
  cases r1 with
  | cons q1 q2 =>
    cases q2
    cases r2 with
    | cons q3 q4 =>
      cases q4
      obtain ⟨t1, rfl⟩ := q1
      obtain ⟨t2, rfl⟩ := q3
      have R := Ob.RcOp.tuples_le (A := X.A) (s := s) (e := fun _ => decide (z = z2)) (r := fun _ => !decide (z2.cps.toList < z.cps.toList)) p1 p2 hu (fun j h1 h2 => by
        have j0 : j = 0 := by simpa using h1
        subst j0
        have h := SeqAt.EqAt.str_str (A := X.A.in1) (s := s) z t1 z2 t2
        rw [show (z == z2) = decide (z = z2) by
          by_cases q : z = z2
          · rw [decide_eq_true q]; exact beq_iff_eq.mpr q
          · rw [decide_eq_false q]; exact beq_eq_false_iff_ne.mpr q] at h
        exact h) (fun j h1 h2 _ => by
        have j0 : j = 0 := by simpa using h1
        subst j0
        intro prog w E Q hq
        exact PySem.P.le_str hq)
      refine R X.prog X.w _ _ ?_
      refine ⟨.bl _, H, I, rfl, ?_⟩
      have e : Ob.lexAt (fun _ => decide (z = z2)) (fun _ => !decide (z2.cps.toList < z.cps.toList)) true 0 1 = (if z = z2 then true else !decide (z2.cps.toList < z.cps.toList)) := by
        rw [Ob.lexAt_succ, Ob.lexAt_zero]
        by_cases c : z = z2
        · rw [decide_eq_true c, if_pos rfl, if_pos c]
        · rw [decide_eq_false c, if_neg Bool.false_ne_true, if_neg c]
      rw [← e] at q
      exact q
def rLeP (K : PySem.W.Frag) : R2 := fun x y H Q => rLeT K x y H Q ∨ rLe1 K x y H Q
theorem op_leP {X : Cx} (hu0 : X.A.units + 64 < cLine) : OpR X (compareOp .LtE) (rLeP X.K) := by
  intro pins s σ H x y v u Q I rx ry h
  have hu : X.A.units < cLine := by omega
  rcases h with h | h
  · exact op_leT hu pins s σ H x y v u Q I rx ry h
  · exact op_le1 hu pins s σ H x y v u Q I rx ry h
section
variable {K : PySem.W.Frag} {H : Hp} {Q : VK} {a b : Addr}
theorem x_le1 {z u : Str} (h1 : SqT K H a [.str z]) (h2 : SqT K H b [.str u]) (q : Q (.bl (if z = u then true else !decide (u.cps.toList < z.cps.toList))) H) : rLeP K (.ref a) (.ref b) H Q := .inr ⟨a, b, z, u, rfl, rfl, h1, h2, q⟩
theorem x_le2 {d n d2 n2 : Int} (h1 : SqT K H a [.int d, .int n]) (h2 : SqT K H b [.int d2, .int n2]) (q : Q (.bl (decide (d < d2 ∨ (d = d2 ∧ n ≤ n2)))) H) : rLeP K (.ref a) (.ref b) H Q := by
  refine .inl ⟨a, b, [d, n], [d2, n2], rfl, rfl, h1, h2, ?_⟩
  have e : Ob.lexAt (fun j => decide (([d, n] : List Int).getD j 0 = ([d2, n2] : List Int).getD j 0)) (fun j => decide (([d, n] : List Int).getD j 0 ≤ ([d2, n2] : List Int).getD j 0)) (decide (([d, n] : List Int).length ≤ ([d2, n2] : List Int).length)) 0 (min ([d, n] : List Int).length ([d2, n2] : List Int).length) = decide (d < d2 ∨ (d = d2 ∧ n ≤ n2)) := by
    show Ob.lexAt _ _ true 0 2 = _
    rw [Ob.lexAt_succ, Ob.lexAt_succ, Ob.lexAt_zero]
    show (if decide (d = d2) = true then (if decide (n = n2) = true then true else decide (n ≤ n2)) else decide (d ≤ d2)) = _
    by_cases c : d = d2
    · rw [decide_eq_true c, if_pos rfl]
      by_cases c2 : n = n2
      · rw [decide_eq_true c2, if_pos rfl]
        exact (decide_eq_true (.inr ⟨c, by omega⟩)).symm
      · rw [decide_eq_false c2, if_neg Bool.false_ne_true]
        by_cases c3 : n ≤ n2
        · rw [decide_eq_true c3]; exact (decide_eq_true (.inr ⟨c, c3⟩)).symm
        · rw [decide_eq_false c3]; exact (decide_eq_false (by omega)).symm
    · rw [decide_eq_false c, if_neg Bool.false_ne_true]
      by_cases c3 : d ≤ d2
      · rw [decide_eq_true c3]; exact (decide_eq_true (.inl (by omega))).symm
      · rw [decide_eq_false c3]; exact (decide_eq_false (by omega)).symm
  rw [e]
  exact q
end
/-! ### the exception at hand, with its dict -/
def rIsXd (K : PySem.W.Frag) (cls : Value) (d : Option Addr) (a : Addr) : List V → Hp → VK → Prop := fun xs H Q => ∃ (D dd : Addr) (fs : List (Str × V)) (c : V) (cv : Value) (b : Bool), cls = .ref D ∧ d = some dd ∧ H dd = some (.xd fs) ∧ ExcC K D ∧ xs = [.ref a, c] ∧ (∀ u, RelV c u → u = cv) ∧ PySem.W.kitOne K (.ref D) cv = some b ∧ Q (.bl b) H
theorem inst_xd {X : Cx} {pins : List (Addr × Obj)} {σ : L2.St} {H : Hp} {s : Shared} {a D dd : Addr} {oe : Obj} {fs : List (Str × V)} (I : Inv X pins σ H s) (hget : s.heap.get? a = some oe) (hz : Zc (.ref D) (some dd) oe) (hf : ∃ vs, oe.data = .fields vs) (hx : H dd = some (.xd fs)) : ∃ od, PySem.W.InstAt s.heap a oe D (some od) := by
  obtain ⟨oc, od, oda, osl⟩ := oe
  obtain ⟨h1, h2⟩ := hz
  obtain ⟨vs, hv⟩ := hf
  dsimp only at h1 h2 hv
  subst h1 h2 hv
  obtain ⟨o, ho⟩ : ∃ o, s.heap.get? dd = some o := by
    obtain ⟨mA, hn, _⟩ := (show ObjOk X.prog X.w H s.heap dd (.xd fs) from I.hok dd _ hx)
    obtain ⟨o, ho, _⟩ := lookIn_ns hn
    exact ⟨o, ho⟩
  exact ⟨o, hget, rfl, rfl, ho⟩
theorem call_isXd {X : Cx} {a : Addr} {cls : Value} {d : Option Addr} {oe : Obj} {pn : List (Addr × Obj)} (hz : Zc cls d oe) (hf : ∃ vs, oe.data = .fields vs) : CallR (X.suite a ((a, oe) :: pn)) (.builtin "isinstance") (rIsXd X.K cls d a) := by
  intro pins s σ H xs us Q I r h
  obtain ⟨D, dd, fs, c, cv, b, rfl, rfl, hx, F, rfl, hcv, e, q⟩ := h
  cases r with
  | cons rx rr =>
    cases rr with
    | cons rt rr =>
      cases rr
      cases rx
      have ec := hcv _ rt
      subst ec
      obtain ⟨hget, _⟩ := I.pin (a, oe) (List.mem_append.mpr (.inl List.mem_cons_self))
      obtain ⟨od, J⟩ := inst_xd I hget hz hf hx
      exact PySem.W.kia_one (PySem.W.kitx_exc F.hc F.hg F.hk F.hs F.ha F.hn F.ht F.hm) I.kIn J e (fun z => nomatch z) fun tk => ⟨.bl b, H, I.kept (t' := tk) fun _ _ z => z, rfl, q⟩
def rIsXdT (K : PySem.W.Frag) (cls : Value) (d : Option Addr) (a : Addr) : List V → Hp → VK → Prop := fun xs H Q => ∃ (D dd tp : Addr) (fs : List (Str × V)) (cs : List Addr) (b : Bool), cls = .ref D ∧ d = some dd ∧ H dd = some (.xd fs) ∧ ExcC K D ∧ xs = [.ref a, .ref tp] ∧ H tp = some (.tup (cs.map V.ref)) ∧ PySem.W.kitAny K (.ref D) (cs.map Value.ref) = some b ∧ Q (.bl b) H
theorem vals_refs : ∀ {cs : List Addr} {us : List Value}, Vals (cs.map V.ref) us → us = cs.map Value.ref
  | [], _, h => by cases h; rfl
  | c :: cs, _, h => by
    cases h with
    | cons r t => rw [vals_refs t]; cases r; rfl
theorem call_isXdT {X : Cx} {a : Addr} {cls : Value} {d : Option Addr} {oe : Obj} {pn : List (Addr × Obj)} (hz : Zc cls d oe) (hf : ∃ vs, oe.data = .fields vs) : CallR (X.suite a ((a, oe) :: pn)) (.builtin "isinstance") (rIsXdT X.K cls d a) := by
  intro pins s σ H xs us Q I r h
  obtain ⟨D, dd, tp, fs, cs, b, rfl, rfl, hx, F, rfl, ht, e, q⟩ := h
  cases r with
  | cons rx rr =>
    cases rr with
    | cons rt rr =>
      cases rr
      cases rx
      cases rt
      obtain ⟨hget, _⟩ := I.pin (a, oe) (List.mem_append.mpr (.inl List.mem_cons_self))
      obtain ⟨od, J⟩ := inst_xd I hget hz hf hx
      obtain ⟨_, its, rv, o, h1, h2, n, h3⟩ := (show ObjOk X.prog X.w H s.heap tp (.tup (cs.map V.ref)) from I.hok tp _ ht)
      have e3 := vals_refs rv
      subst e3
      obtain ⟨oc, od2, dt, sl⟩ := o
      simp only at h2 h3
      subst h2 h3
      exact PySem.W.kia_tup (PySem.W.kitx_exc F.hc F.hg F.hk F.hs F.ha F.hn F.ht F.hm) I.kIn J h1 e (fun z => nomatch z) fun tk => ⟨.bl b, H, I.kept (t' := tk) fun _ _ z => z, rfl, q⟩
theorem x_isXd {K : PySem.W.Frag} {D dd a C : Addr} {fs : List (Str × V)} {b : Bool} {H : Hp} {Q : VK} (hx : H dd = some (.xd fs)) (C0 : ExcC K D) (k : PySem.W.kitOne K (.ref D) (.ref C) = some b) (q : Q (.bl b) H) : rIsXd K (.ref D) (some dd) a [.ref a, .ref C] H Q :=
  ⟨D, dd, fs, .ref C, .ref C, b, rfl, rfl, hx, C0, rfl, fun u h => h, k, q⟩
theorem x_isXdt {K : PySem.W.Frag} {D dd a : Addr} {T : String} {fs : List (Str × V)} {b : Bool} {H : Hp} {Q : VK} (hx : H dd = some (.xd fs)) (C0 : ExcC K D) (k : PySem.W.kitOne K (.ref D) (.type T) = some b) (q : Q (.bl b) H) : rIsXd K (.ref D) (some dd) a [.ref a, .ty T] H Q :=
  ⟨D, dd, fs, .ty T, .type T, b, rfl, rfl, hx, C0, rfl, fun u h => h, k, q⟩
/-! ### raise X(e, ..): a class with an own __init__ -/
theorem pmk_oexD {X : Cx} {x : Str} {C fI : Addr} {k : Nat} {ps : List Str} {sp : Sp} {e : Expr} {es : List Expr} {ta : TA} {p pos : Pos} (T : OexX X.K C fI) (D : DnM X.prog X.w X.K X.mg X.base CX0 k fI ps sp) (hr : Room (k + 1) X.A) (hx : Passes CX0 X (fun _ _ _ => False)) (hm : X.mg x = some (.ref C)) (ha : PA X (e :: es) ta) (hg : Gl X x := by rfl)
    (hdb : (x == ("__debug__" : Str)) = false := by decide) (he : starEach (e :: es) X.env = (false, eval e X.env) :: starEach es X.env := by rfl) (hpl : (backTo pos (starEach es X.env)).any (·.1) = false := by rfl) :
    PMk X (.Call (.Name x p) (e :: es) [] pos) (tMkO C sp [] ta) := by
  obtain ⟨fd, F1, hb⟩ := D.ex
  exact pmk_oex T.toOexC T.ini T.tyI F1 hr hb .nil hx hg hm ha hdb he hpl
def mkOQ (C : Addr) (sp : Sp) (Q : XK) : List V → Hp → Prop := fun vs H1 => vs.length ≤ 1000 ∧ ∀ a, H1 a = none → sp (.ref a :: (vs ++ [])) (upd H1 a (exo a C none)) (fun v H2 => v = .non ∧ ∃ (d : Addr) (fs : List (Str × V)), H2 a = some (exo a C (some d)) ∧ H2 d = some (exd d fs) ∧ H1 d = none ∧ Q (.ref C) (some d) (upd (del H2 a) d (.xd fs))) (fun _ _ _ => False)
/-- what is raised with a field -/
theorem x_mkO {C : Addr} {f : Str} {v : V} {Q : XK} {H : Hp} (q : ∀ d H', Ex H H' → H' d = some (.xd [(f, v)]) → Q (.ref C) (some d) H') : mkOQ C (spExcInit C f) Q [v] H :=
  ⟨Nat.le_of_ble_eq_true rfl, fun a ha => ⟨a, v, rfl, upd_same, fun dx hd hne => by
    have hdH : H dx = none := by
      rw [upd_ne hne] at hd
      exact hd
    refine ⟨rfl, dx, [(f, v)], upd_same, by rw [upd_ne hne]; exact upd_same, hdH, q dx _ (fun b o e => ?_) upd_same⟩
    have nb : b ≠ a := fun z => by rw [z, ha] at e; cases e
    have nd : b ≠ dx := fun z => by rw [z, hdH] at e; cases e
    rw [upd_ne nd, del_ne nb, upd_ne nb, upd_ne nd, upd_ne nb]
    exact e⟩⟩
/-! ### a list taken apart into names -/
theorem x_asgL {K : PySem.W.Frag} {H : Hp} {σ : L2.St} {p : Addr} {xs : List V} {n : Nat} {ts : TGs} {D : Ends} (h : SqL K H p xs) (hn : xs.length = n) (k : ts xs σ H D.nx) : asgQ (gUnl K n ts) D σ (.ref p) H := ⟨p, xs, rfl, h, hn, k⟩
/-! ### the head by facts, tables of the top among them -/
section
variable {fa : List (List He.Fa)} {fn : List (List He.FnD)} {ex : List (PySem.W.Frag → Bool)} {ts : List TabK} {w : World} {K : PySem.W.Frag}
theorem SaysT.k (c : SaysT fa fn ex ts w K) : SaysK fa fn ex K := congrArg (fun z : AlT => z.1) c
theorem SaysT.tab (c : SaysT fa fn ex ts w K) (i : Nat) {t : TabK} (h : ts[i]? = some t := by rfl) : ∃ es n, KDict K w (He.ga K t.1) es n := by
  have e : ts.map (fun t => He.dicW K (He.ga K t.1)) = ts.map fun t => some (He.keysIn w.params t.2) := congrArg (fun z : AlT => z.2) c
  have e2 : (ts.map fun t => He.dicW K (He.ga K t.1))[i]? = (ts.map fun t => some (He.keysIn w.params t.2))[i]? := by rw [e]
  rw [List.getElem?_map, List.getElem?_map, h] at e2
  exact He.dicW_ok (Option.some.inj e2)
end
/-- the values of a table -/
theorem tabB_yes {x : Str} {kvs : List (Str × Int)} {no : List Str} {K : PySem.W.Frag} (h : tabB x kvs no K = true) {z : Str} {i : Int} (hm : (z, i) ∈ kvs) : KSays K (He.ga K x) z (some (.int i)) := by
  have h2 := List.all_eq_true.mp (He.ba h).1 _ hm
  cases e : PySem.W.nsIn K (He.ga K x) z with
  | none => simp [e] at h2
  | some r =>
    cases r with
    | none => simp [e] at h2
    | some u =>
      cases u <;> simp [e] at h2
      subst h2
      exact ⟨_, e, ⟨_, rfl⟩⟩
theorem tabB_no {x : Str} {kvs : List (Str × Int)} {no : List Str} {K : PySem.W.Frag} (h : tabB x kvs no K = true) {z : Str} (hm : z ∈ no) : KSays K (He.ga K x) z none := by
  have h2 := List.all_eq_true.mp (He.ba h).2 _ hm
  cases e : PySem.W.nsIn K (He.ga K x) z with
  | none => simp [e] at h2
  | some r =>
    cases r with
    | none => exact ⟨_, e, trivial⟩
    | some u => simp [e] at h2
end G

set_option Elab.async false
set_option linter.all false
set_option maxRecDepth 100000
set_option maxHeartbeats 4000000
/-! sorted of triples (int, int, anything), no two alike in both ints, of any length. -/
namespace G
open PySem PySem.Spec PyProof.Rows L2 Evl RZ SrtO
def IsTri (h : Heap) (v : Value) (x y : Int) (z : Value) : Prop := ∃ a o t u n, v = .ref a ∧ h.get? a = some o ∧ o.cls = .type "tuple" ∧ o.data = .seq #[.int x t, .int y u, z] n
theorem IsTri.keeps {h h' : Heap} {v z : Value} {x y : Int} (p : IsTri h v x y z) (k : ∀ b o, h.get? b = some o → o.cls = .type "tuple" → h'.get? b = some o) : IsTri h' v x y z := by
  obtain ⟨a, o, t, u, n, e, ho, hc, hd⟩ := p
  exact ⟨a, o, t, u, n, e, k _ _ ho hc, hc, hd⟩
theorem tri_firsts {h : Heap} : ∀ {vs : List Value}, (∀ v ∈ vs, ∃ x y z, IsTri h v x y z) → ∃ fs : List Value, PySem.W.KatTups h vs fs ∧ fs.length = vs.length ∧ ∀ f ∈ fs, ∃ x t, f = Value.int x t
  | [], _ => ⟨[], PySem.W.KatTups.nil, rfl, fun _ hm => by simp at hm⟩
  | v :: vs, hp => by
    obtain ⟨fs, h1, h2, h3⟩ := tri_firsts (vs := vs) fun v' hm => hp v' (List.mem_cons_of_mem _ hm)
    obtain ⟨x, y, z, a, o, t, u, n, e, ho, hc, hd⟩ := hp v (List.mem_cons_self ..)
    subst e
    refine ⟨.int x t :: fs, PySem.W.KatTups.cons ho hc hd rfl h1, by rw [List.length_cons, List.length_cons, h2], fun f hm => ?_⟩
    rcases List.mem_cons.mp hm with rfl | hm
    · exact ⟨x, t, rfl⟩
    · exact h3 f hm
section
variable {prog : Program} {w : World} {A : Around} {E : Value → Shared → Prop} {s : Shared}
theorem tri_cmp {vs : List Value} {k : Value → Int × Int} {z : Value → Value} (hp : ∀ v ∈ vs, IsTri s.heap v (k v).1 (k v).2 (z v)) (hi : ∀ v ∈ vs, ∀ u ∈ vs, k v = k u → z v = z u) : Cmp prog w A s (tuples' true) (fun p => p.1 ∈ vs) (lt2 fun v u => lexB (k v) (k u)) := by
  intro p q hm hm'
  have h1 := hp _ hm
  have h2 := hp _ hm'
  have h3 := hi _ hm _ hm'
  show wpAny (model prog w) A (keyLt' (tuples' true) p.1 q.1) (fun r s' => s' = s ∧ r = lexB (k p.1) (k q.1)) (fun _ _ => False) s
  unfold lexB
  have h4 : (k p.1).1 = (k q.1).1 → (k p.1).2 = (k q.1).2 → z p.1 = z q.1 := fun a b => h3 (Prod.ext a b)
  clear h3
  generalize (k p.1).1 = x at h1 h4 ⊢
  generalize (k p.1).2 = y at h1 h4 ⊢
  generalize (k q.1).1 = x' at h2 h4 ⊢
  generalize (k q.1).2 = y' at h2 h4 ⊢
  generalize z p.1 = c at h1 h4
  generalize z q.1 = c' at h2 h4
  obtain ⟨a, o, t, u, n, e, ho, hc, hd⟩ := h1
  obtain ⟨a', o', t', u', n', e', ho', hc', hd'⟩ := h2
  rw [e, e']
  refine PySem.W.kat_lt ho hd ho' hd' ?_
  show PySem.W.KatLex prog w A true (decide (3 < 3)) _ [(.int x t, .int x' t'), (.int y u, .int y' u'), (c, c')] 0 s
  refine PySem.W.kat_cons (SeqAt.EqAt.int_int x t x' t' prog w _ _ ?_)
  refine PySem.W.kat_go (fun e1 => ?_) (fun e1 => ?_)
  · have ex : x = x' := by simpa using e1
    refine PySem.W.kat_yes (PySem.W.kat_cons (SeqAt.EqAt.int_int y u y' u' prog w _ _ ?_))
    refine PySem.W.kat_go (fun e2 => ?_) (fun e2 => ?_)
    · have ey : y = y' := by simpa using e2
      have e3 : (if x = x' then decide (y < y') else decide (x < x')) = false := by
        rw [if_pos ex, ey]
        exact decide_eq_false (Int.lt_irrefl _)
      have ez := h4 ex ey
      subst ez
      exact PySem.W.kat_yes (PySem.W.kat_cons (SeqAt.EqAt.same c prog w _ _ (PySem.W.kat_yes (PySem.W.kat_nil ⟨rfl, e3.symm⟩))))
    · have e3 : (if x = x' then decide (y < y') else decide (x < x')) = decide (y < y') := if_pos ex
      refine PySem.W.kat_no (PySem.W.kat_one _ _ (PyProof.Rows.lt_int ?_))
      exact (show s = s ∧ decide (y < y') = (if x = x' then decide (y < y') else decide (x < x')) from ⟨rfl, e3.symm⟩)
  · have ex : ¬ x = x' := by simpa using e1
    have e3 : (if x = x' then decide (y < y') else decide (x < x')) = decide (x < x') := if_neg ex
    exact PySem.W.kat_no (oneLt_int ⟨rfl, e3.symm⟩)
theorem tri_sortable {a : Addr} {vs : List Value} {k : Value → Int × Int} {z : Value → Value} (h0 : 0 < vs.length) (hp : ∀ v ∈ vs, IsTri s.heap v (k v).1 (k v).2 (z v)) (hi : ∀ v ∈ vs, ∀ u ∈ vs, k v = k u → z v = z u) (ha : ∀ o, s.heap.get? a = some o → o.cls ≠ .type "tuple") : SortableO prog w A s a vs fun v u => lexB (k v) (k u) := by
  intro h' keep
  have hp' : ∀ v ∈ vs, IsTri h' v (k v).1 (k v).2 (z v) := fun v hm => (hp v hm).keeps fun b o e c => keep b o (fun z => by subst z; exact ha o e c) e
  obtain ⟨fs, h1, h2, h3⟩ := tri_firsts fun v hm => ⟨_, _, _, hp' v hm⟩
  refine ⟨tuples' true, fun Q E hq => ?_, tri_cmp hp' hi⟩
  refine PySem.W.kat_kind (T := .type "int") h1 (by omega) (fun f hm => ?_) (by rfl) ?_
  · obtain ⟨x, t, rfl⟩ := h3 f hm
    exact PySem.W.Looks.now
  · have e : (Value.type "int" != Value.type "tuple") = true := by first | decide +kernel | rfl | decide
    rw [e]
    exact hq
theorem sorted_tri {l : Addr} {vs : List Value} {k : Value → Int × Int} {z : Value → Value} {Q : Value → Shared → Prop} (hl : s.heap.IsList l vs.toArray) (hz : vs.length ≤ sizeLine) (hp : ∀ v ∈ vs, IsTri s.heap v (k v).1 (k v).2 (z v)) (hi : ∀ v ∈ vs, ∀ u ∈ vs, k v = k u → z v = z u)
    (h : ∀ (h' : Heap) (d : Addr) (out : List Value), Srtd (fun v u => lexB (k v) (k u)) out → Stb (fun v u => lexB (k v) (k u)) out vs → (∀ b o, s.heap.get? b = some o → h'.get? b = some o) → s.heap.objs.size ≤ d → (∃ n, h'.get? d = some (seqObj "list" out.toArray n)) → Q (.ref d) { s with heap := h' }) :
    wpAny (model prog w) A (call (.builtin "sorted") [.ref l]) Q E s := by
  refine sorted_ord (swo_lex k) hl hz (fun h2 h₁ a ha kk => ?_) fun out hs hb => ?_
  · refine tri_sortable (s := { s with heap := h₁ }) (by omega) (fun v hm => (hp v hm).keeps fun b o e _ => (kk b o e).2) hi fun o e => ?_
    have e' : some o = some (seqObj "list" vs.toArray 0) := e.symm.trans ha
    cases e'
    intro c
    exact absurd (Value.type.inj c) (by decide)
  · exact h _ _ out hs hb (fun b o e => sortedAll_old e) (Nat.le_succ _) (sortedAll_at s.heap vs out.toArray)
end
theorem vals3' {x y z : V} {us : List Value} (r : Vals [x, y, z] us) : ∃ u w' t', us = [u, w', t'] ∧ RelV x u ∧ RelV y w' ∧ RelV z t' := by
  cases r with
  | cons r1 r2 =>
    obtain ⟨u, w', rfl, r3, r4⟩ := vals2 r2
    exact ⟨_, u, w', rfl, r1, r3, r4⟩
/-- sorted(xs), xs a list of triples (int, int, thing), no two alike in both ints -/
def rSortedTri (K : PySem.W.Frag) : List V → Hp → VK → Prop := fun vs H Q => ∃ (a : Addr) (xs : List V) (k : V → Int × Int) (z : V → Addr), vs = [V.ref a] ∧ SqL K H a xs ∧ (∀ x ∈ xs, ∃ t, x = V.ref t ∧ H t = some (.tup [.int (k x).1, .int (k x).2, .ref (z x)])) ∧ (∀ x ∈ xs, ∀ y ∈ xs, k x = k y → z x = z y) ∧
  ∀ ys p, SrtO.Srtd (ltP k) ys → SrtO.Stb (ltP k) ys xs → H p = none → Q (.ref p) (upd H p (.lst ys))
theorem cr_sortedTri {X : Cx} : CallR X (.builtin "sorted") (rSortedTri X.K) := by
  intro pins s σ H vs us Q I r h
  obtain ⟨a, xs, k, z, rfl, hs, hx, hj, q⟩ := h
  obtain ⟨its, rv, hl, hz⟩ := I.list hs
  obtain ⟨u, rfl, ru⟩ := vals1 r
  obtain rfl : u = Value.ref a := ru
  obtain ⟨e1, e2⟩ := refs_back rv fun x m => by
    obtain ⟨t, e, _⟩ := hx x m
    exact ⟨t, e⟩
  have mem : ∀ v ∈ its, backV v ∈ xs := fun v hv => by rw [e1]; exact List.mem_map.mpr ⟨_, hv, rfl⟩
  refine sorted_tri (k := fun u => k (backV u)) (z := fun u => .ref (z (backV u))) hl.isList (by rw [← rv.length]; exact hz) (fun v hv => ?_) (fun v hv u hu e => congrArg Value.ref (hj _ (mem v hv) _ (mem u hu) e)) fun h' d out h1 h2 kp hd hn => ?_
  · obtain ⟨t, rfl⟩ := e2 v hv
    have hm : V.ref t ∈ xs := mem _ hv
    obtain ⟨t', e, ht⟩ := hx _ hm
    cases e
    obtain ⟨_, its2, r2, o, ho, hc, n, hd⟩ := I.hok _ _ ht
    obtain ⟨u1, u2, u3, rfl, ri, rj, rk⟩ := vals3' r2
    obtain ⟨t1, rfl⟩ := ri
    obtain ⟨t2, rfl⟩ := rj
    obtain rfl : u3 = Value.ref (z (V.ref t)) := rk
    exact ⟨t, o, t1, t2, n, rfl, ho, hc, hd⟩
  · have h3 : ∀ u ∈ out, ∃ a, u = Value.ref a := fun u hu => e2 u (h2.perm.mem_iff.mp hu)
    obtain ⟨n, hn⟩ := hn
    have hb : SrtO.Stb (ltP k) (out.map backV) xs := by
      rw [e1]
      exact SrtO.Stb.map (ltP_swo k) backV h2
    refine ⟨.ref d, upd H d (.lst (out.map backV)), I.laid (t' := s.toks) kp hd ⟨?_, out, n, vals_back h3, hn⟩, rfl, q _ d (SrtO.srtd_map h1) hb (I.hok.fresh hd)⟩
    rw [hb.len]
    exact hz
theorem sorted_same {k : V → Int × Int} {xs ys : List V} (h : xs.Pairwise fun x y => ltP k y x = false) (h1 : SrtO.Srtd (ltP k) ys) (h2 : SrtO.Stb (ltP k) ys xs) : ys = xs := SrtO.stb_uniq (ltP_swo k) h1 h h2
end G

set_option Elab.async false
set_option linter.all false
set_option maxRecDepth 100000
set_option maxHeartbeats 0
set_option synthInstance.maxHeartbeats 0
set_option synthInstance.maxSize 100000
namespace Law
open PySem PySem.Spec PyProof.Rows L2 Evl RZ G
structure Txt (K : PySem.W.Frag) (mg : Str → Option Value) : Prop where
  m_ValueError : mg "ValueError" = none
  m_all : mg "all" = none
  m_bool : mg "bool" = none
  m_dict : mg "dict" = none
  m_enumerate : mg "enumerate" = none
  m_int : mg "int" = none
  m_isinstance : mg "isinstance" = none
  m_len : mg "len" = none
  m_list : mg "list" = none
  m_max : mg "max" = none
  m_range : mg "range" = none
  m_sorted : mg "sorted" = none
  m_str : mg "str" = none
  m_tuple : mg "tuple" = none
  m_zip : mg "zip" = none
  c_LAST_DAY : Ci mg "LAST_DAY" 1000000
  c_MOST_DEEDS : Ci mg "MOST_DEEDS" 120
  c_MOST_FIGURES : Ci mg "MOST_FIGURES" 10
  c_MOST_LETTERS : Ci mg "MOST_LETTERS" 8
  c_MOST_MEN : Ci mg "MOST_MEN" 40
  c_MOST_RANKS : Ci mg "MOST_RANKS" 6
  c_MOST_SIDES : Ci mg "MOST_SIDES" 6
  x_BadDay : Xc K mg "BadDay"
  x_BadName : Xc K mg "BadName"
  x_BadRank : Xc K mg "BadRank"
  x_CartelError : Xc K mg "CartelError"
  x_Full : Xc K mg "Full"
  x_NoMan : Xc K mg "NoMan"
  x_NoSide : Xc K mg "NoSide"
  x_Taken : Xc K mg "Taken"
  g_BadRow : mg "BadRow" = some (.ref (He.ga K "BadRow"))
  ox_BadRow : OexX K (He.ga K "BadRow") (He.ma K (He.ga K "BadRow") "__init__")
  g_Breaks : mg "Breaks" = some (.ref (He.ga K "Breaks"))
  ox_Breaks : OexX K (He.ga K "Breaks") (He.ma K (He.ga K "Breaks") "__init__")
  cl_Book : Cls K (He.ga K "Book")
  cl_Man : Cls K (He.ga K "Man")
  cl_Reader : Cls K (He.ga K "Reader")
  cl_Scene : Cls K (He.ga K "Scene")
  mk_Book : Mk K (He.ga K "Book") (He.ma K (He.ga K "Book") "__init__")
  g_Book : mg "Book" = some (.ref (He.ga K "Book"))
  mk_Man : Mk K (He.ga K "Man") (He.ma K (He.ga K "Man") "__init__")
  g_Man : mg "Man" = some (.ref (He.ga K "Man"))
  mk_Reader : Mk K (He.ga K "Reader") (He.ma K (He.ga K "Reader") "__init__")
  g_Reader : mg "Reader" = some (.ref (He.ga K "Reader"))
  mk_Scene : Mk K (He.ga K "Scene") (He.ma K (He.ga K "Scene") "__init__")
  g_Scene : mg "Scene" = some (.ref (He.ga K "Scene"))
  n_Book_banners : NoAttr K (He.ga K "Book") "banners"
  n_Book_folk : NoAttr K (He.ga K "Book") "folk"
  n_Book_future : NoAttr K (He.ga K "Book") "future"
  n_Book_later : NoAttr K (He.ga K "Book") "later"
  n_Book_pacts : NoAttr K (He.ga K "Book") "pacts"
  n_Book_past : NoAttr K (He.ga K "Book") "past"
  n_Book_told : NoAttr K (He.ga K "Book") "told"
  n_Man_bonds : NoAttr K (He.ga K "Man") "bonds"
  n_Man_caught : NoAttr K (He.ga K "Man") "caught"
  n_Man_dead : NoAttr K (He.ga K "Man") "dead"
  n_Man_grade : NoAttr K (He.ga K "Man") "grade"
  n_Man_home : NoAttr K (He.ga K "Man") "home"
  n_Man_keeper : NoAttr K (He.ga K "Man") "keeper"
  n_Reader_kind : NoAttr K (He.ga K "Reader") "kind"
  n_Reader_last : NoAttr K (He.ga K "Reader") "last"
  n_Reader_made : NoAttr K (He.ga K "Reader") "made"
  n_Reader_most : NoAttr K (He.ga K "Reader") "most"
  n_Scene_crew : NoAttr K (He.ga K "Scene") "crew"
  n_Scene_dues : NoAttr K (He.ga K "Scene") "dues"
  n_Scene_pacts : NoAttr K (He.ga K "Scene") "pacts"
  me_Book_cartel : Meth K (He.ga K "Book") "cartel" (He.ma K (He.ga K "Book") "cartel")
  me_Book_cartels : Meth K (He.ga K "Book") "cartels" (He.ma K (He.ga K "Book") "cartels")
  me_Book_deeds : Meth K (He.ga K "Book") "deeds" (He.ma K (He.ga K "Book") "deeds")
  me_Book_die : Meth K (He.ga K "Book") "die" (He.ma K (He.ga K "Book") "die")
  me_Book_enter : Meth K (He.ga K "Book") "enter" (He.ma K (He.ga K "Book") "enter")
  me_Book_flee : Meth K (He.ga K "Book") "flee" (He.ma K (He.ga K "Book") "flee")
  me_Book_forget : Meth K (He.ga K "Book") "forget" (He.ma K (He.ga K "Book") "forget")
  me_Book_free : Meth K (He.ga K "Book") "free" (He.ma K (He.ga K "Book") "free")
  me_Book_keep : Meth K (He.ga K "Book") "keep" (He.ma K (He.ga K "Book") "keep")
  me_Book_man : Meth K (He.ga K "Book") "man" (He.ma K (He.ga K "Book") "man")
  me_Book_men : Meth K (He.ga K "Book") "men" (He.ma K (He.ga K "Book") "men")
  me_Book_need_day : Meth K (He.ga K "Book") "need_day" (He.ma K (He.ga K "Book") "need_day")
  me_Book_need_man : Meth K (He.ga K "Book") "need_man" (He.ma K (He.ga K "Book") "need_man")
  me_Book_need_side : Meth K (He.ga K "Book") "need_side" (He.ma K (He.ga K "Book") "need_side")
  me_Book_of_man : Meth K (He.ga K "Book") "of_man" (He.ma K (He.ga K "Book") "of_man")
  me_Book_rank : Meth K (He.ga K "Book") "rank" (He.ma K (He.ga K "Book") "rank")
  me_Book_side : Meth K (He.ga K "Book") "side" (He.ma K (He.ga K "Book") "side")
  me_Book_sides : Meth K (He.ga K "Book") "sides" (He.ma K (He.ga K "Book") "sides")
  me_Book_state : Meth K (He.ga K "Book") "state" (He.ma K (He.ga K "Book") "state")
  me_Book_swap : Meth K (He.ga K "Book") "swap" (He.ma K (He.ga K "Book") "swap")
  me_Book_take : Meth K (He.ga K "Book") "take" (He.ma K (He.ga K "Book") "take")
  me_Book_upcoming : Meth K (He.ga K "Book") "upcoming" (He.ma K (He.ga K "Book") "upcoming")
  me_Book_word : Meth K (He.ga K "Book") "word" (He.ma K (He.ga K "Book") "word")
  me_Reader_behind : Meth K (He.ga K "Reader") "behind" (He.ma K (He.ga K "Reader") "behind")
  me_Reader_take_deed : Meth K (He.ga K "Reader") "take_deed" (He.ma K (He.ga K "Reader") "take_deed")
  me_Reader_take_named : Meth K (He.ga K "Reader") "take_named" (He.ma K (He.ga K "Reader") "take_named")
  me_Reader_take_row : Meth K (He.ga K "Reader") "take_row" (He.ma K (He.ga K "Reader") "take_row")
  me_Scene_befalls : Meth K (He.ga K "Scene") "befalls" (He.ma K (He.ga K "Scene") "befalls")
  me_Scene_dies : Meth K (He.ga K "Scene") "dies" (He.ma K (He.ga K "Scene") "dies")
  me_Scene_graded : Meth K (He.ga K "Scene") "graded" (He.ma K (He.ga K "Scene") "graded")
  me_Scene_kept : Meth K (He.ga K "Scene") "kept" (He.ma K (He.ga K "Scene") "kept")
  me_Scene_let_go : Meth K (He.ga K "Scene") "let_go" (He.ma K (He.ga K "Scene") "let_go")
  me_Scene_living : Meth K (He.ga K "Scene") "living" (He.ma K (He.ga K "Scene") "living")
  me_Scene_sent : Meth K (He.ga K "Scene") "sent" (He.ma K (He.ga K "Scene") "sent")
  me_Scene_swapped : Meth K (He.ga K "Scene") "swapped" (He.ma K (He.ga K "Scene") "swapped")
  me_Scene_taken : Meth K (He.ga K "Scene") "taken" (He.ma K (He.ga K "Scene") "taken")
  s_FIGURES : Cs mg "FIGURES" "0123456789"
  s_LETTERS : Cs mg "LETTERS" "abcdefghijklmnopqrstuvwxyz"
  xf_BadRow : XfC K (He.ga K "BadRow")
  no_BadRow_at : PySem.W.findIn K (.ref (He.ga K "BadRow")) "at" = some none
  em_Full_CartelError : PySem.W.exmOne K (.ref (He.ga K "Full")) (.ref (He.ga K "CartelError")) = some true
  em_BadRow_BadRow : PySem.W.exmOne K (.ref (He.ga K "BadRow")) (.ref (He.ga K "BadRow")) = some true
  ec_BadRow : ExcC K (He.ga K "BadRow")
  ki_BadRow_CartelError : PySem.W.kitOne K (.ref (He.ga K "BadRow")) (.ref (He.ga K "CartelError")) = some true
  ki_BadRow_ValueError : PySem.W.kitOne K (.ref (He.ga K "BadRow")) (.type "ValueError") = some true
  ki_BadRow_BadName : PySem.W.kitOne K (.ref (He.ga K "BadRow")) (.ref (He.ga K "BadName")) = some false
  ki_BadRow_NoMan : PySem.W.kitOne K (.ref (He.ga K "BadRow")) (.ref (He.ga K "NoMan")) = some false
  ki_BadRow_Breaks : PySem.W.kitOne K (.ref (He.ga K "BadRow")) (.ref (He.ga K "Breaks")) = some false
  ki_BadRow_Full : PySem.W.kitOne K (.ref (He.ga K "BadRow")) (.ref (He.ga K "Full")) = some false
structure Tabs (w : World) (K : PySem.W.Frag) (mg : Str → Option Value) : Prop where
  g_COUNTS : mg "COUNTS" = some (.ref (He.ga K "COUNTS"))
  d_COUNTS : ∃ es n, KDict K w (He.ga K "COUNTS") es n
  b_COUNTS : tabB "COUNTS" [("take", 3), ("word", 2), ("free", 2), ("flee", 2), ("rank", 3), ("die", 2)] [] K = true
  g_RANKS : mg "RANKS" = some (.ref (He.ga K "RANKS"))
  d_RANKS : ∃ es n, KDict K w (He.ga K "RANKS") es n
  b_RANKS : tabB "RANKS" [("side", 0), ("man", 1), ("cartel", 2), ("deed", 3), ("next", 4)] [] K = true
  g_SIZES : mg "SIZES" = some (.ref (He.ga K "SIZES"))
  d_SIZES : ∃ es n, KDict K w (He.ga K "SIZES") es n
  b_SIZES : tabB "SIZES" [("side", 2), ("man", 4), ("cartel", 10), ("next", 2)] [] K = true


/-! ### what stands in the heap -/
local macro_rules | `(tactic| walk_at "hp0") => `(tactic| (first
  | with_reducible assumption
  | with_reducible exact upd_same))
local macro_rules | `(tactic| walk_at "ne") => `(tactic| (first
  | with_reducible assumption
  | with_reducible exact Ne.symm (by with_reducible assumption)
  | ((with_reducible refine ne_fresh (o := ?o) (by with_reducible assumption) ?_); walk_at "hp0")
  | ((with_reducible refine Ne.symm (ne_fresh (o := ?o) (by with_reducible assumption) ?_)); walk_at "hp0")
  | walk_at "neb"))
local macro_rules | `(tactic| walk_at "hp") => `(tactic| (first
  | with_reducible assumption
  | with_reducible exact upd_same
  | ((with_reducible refine Eq.trans (upd_ne ?hne) ?_); (case hne => walk_at "ne"); walk_at "hp")
  | ((with_reducible refine KB.get (by with_reducible assumption) ?hne ?_); (case hne => walk_at "ne"); walk_at "hp")
  | ((with_reducible refine ex_get (by with_reducible assumption) ?_); walk_at "hp")))
local macro_rules | `(tactic| walk_at "sq") => `(tactic| (first
  | with_reducible assumption
  | ((with_reducible refine SqL.of ?_); walk_at "hp")
  | ((with_reducible refine SqT.of ?_); walk_at "hp")
  | ((with_reducible refine ex_l (Ex.new (by with_reducible assumption)) ?_); walk_at "sq")
  | ((with_reducible refine ex_t (Ex.new (by with_reducible assumption)) ?_); walk_at "sq")
  | ((with_reducible refine sqL_upd ?hne ?_); (case hne => walk_at "ne"); walk_at "sq")
  | ((with_reducible refine sqT_upd ?hne ?_); (case hne => walk_at "ne"); walk_at "sq")
  | ((with_reducible refine KB.sqL (by with_reducible assumption) ?_ ?hne); (case hne => walk_at "ne"); walk_at "sq")
  | ((with_reducible refine KB.sqT (by with_reducible assumption) ?_ ?hne); (case hne => walk_at "ne"); walk_at "sq")
  | ((with_reducible refine ex_l (by with_reducible assumption) ?_); walk_at "sq")
  | ((with_reducible refine ex_t (by with_reducible assumption) ?_); walk_at "sq")))
/-! ### grown heaps -/
local macro_rules | `(tactic| walk_at "ex") => `(tactic| (first
  | with_reducible assumption
  | with_reducible exact Ex.refl _
  | ((with_reducible refine Ex.trans ?_ (Ex.new (by with_reducible assumption))); walk_at "ex")
  | ((with_reducible refine Ex.mut ?_ (by with_reducible assumption)); walk_at "ex")
  | ((with_reducible refine Ex.trans ?_ (by with_reducible assumption)); walk_at "ex")))
local macro_rules | `(tactic| walk_at "kb") => `(tactic| (first
  | with_reducible assumption
  | with_reducible exact KB.refl
  | ((with_reducible refine KB.trans ?_ KB.upd); walk_at "kb")
  | ((with_reducible refine KB.trans ?_ (KB.new (by with_reducible assumption))); walk_at "kb")
  | ((with_reducible refine KB.mut ?_ (by with_reducible assumption)); walk_at "kb")
  | ((with_reducible refine KB.trans ?_ (by with_reducible assumption)); walk_at "kb")
  | ((with_reducible refine KB.trans ?_ (KB.of_ex (by with_reducible assumption))); walk_at "kb")))
/-! ### the steps, one after another -/
local macro_rules | `(tactic| walk_at "s1") => `(tactic| (first
  | ((with_reducible refine x_mod ?hc ?_); (case hc => omega))
  | ((with_reducible refine x_pow ?hc ?_); (case hc => (show _ ∧ _ ∧ _; decide)))
  | ((with_reducible refine x_div ?hc ?hd ?_); (case hc => omega); (case hd => omega))
  | ((with_reducible refine x_mul ?h1 ?h2 ?h3 ?h4 ?_); (case h1 => omega); (case h2 => omega); (case h3 => omega); (case h4 => omega))
  | ((with_reducible refine x_lstQ ?hz ?_); (case hz => exact Nat.le_of_ble_eq_true rfl))
  | ((with_reducible refine x_tupQ ?hz ?_); (case hz => exact Nat.le_of_ble_eq_true rfl))
  | ((with_reducible refine x_ixLn (xs := ?xs) (v := ?v) ?hs ?h0 ?ha ?_); (case h0 => decide); (case hs => walk_at "sq"); (case ha => exact rfl))
  | ((with_reducible refine x_ixTn (xs := ?xs) (v := ?v) ?hs ?h0 ?ha ?_); (case h0 => decide); (case hs => walk_at "sq"); (case ha => exact rfl))
  | ((with_reducible refine x_lenL (xs := ?xs) ?hs ?_); (case hs => walk_at "sq"))
  | ((with_reducible refine x_lenT (xs := ?xs) ?hs ?_); (case hs => walk_at "sq"))
  | ((with_reducible refine x_setLn (xs := ?xs) ?hs ?h0 ?ha ?_); (case h0 => decide); (case hs => walk_at "hp"); (case ha => exact rfl))
  | ((with_reducible refine x_listL (xs := ?xs) ?hs ?_); (case hs => walk_at "sq"))
  | ((with_reducible refine x_bmL (xs := ?xs) ?hs ?_); (case hs => walk_at "sq"))
  | ((with_reducible refine x_bm0L (xs := ?xs) ?hs ?_); (case hs => walk_at "sq"))
  | ((with_reducible refine x_gTup (xs := ?xs) ?hs ?hn ?_); (case hs => walk_at "sq"); (case hn => exact rfl))
  | ((with_reducible refine x_asgT (xs := ?xs) ?hs ?hn ?_); (case hs => walk_at "sq"); (case hn => exact rfl))
  | ((with_reducible refine x_lcTg ?hw ?_); (case hw => exact rfl))))
local macro_rules | `(tactic| walk_at "sx") => `(tactic| ((refine run ?_); (repeat (walk_at "s1"; (refine run ?_)))))

/-! ### the box of the script's draws -/
abbrev s__law_mixed : Stmt := top 68
abbrev N__law_mixed : List Str := ["_law_number", "_law_turn", "_law_one"]
theorem sc__law_mixed : FnScope N__law_mixed ["_law_number", "_law_turn"] (defScope s__law_mixed) := ⟨rfl, rfl, rfl, by decide +kernel, rfl, by decide +kernel, by decide +kernel⟩
abbrev s__law_take : Stmt := top 69
abbrev N__law_take : List Str := ["_law_box_here", "_law_size", "_law_left", "_law_cell"]
theorem sc__law_take : FnScope N__law_take ["_law_box_here", "_law_size"] (defScope s__law_take) := ⟨rfl, rfl, rfl, by decide +kernel, rfl, by decide +kernel, by decide +kernel⟩
abbrev s__law_box : Stmt := top 67
abbrev N__law_box : List Str := ["_law_script", "_law_seed", "_law_cell"]
theorem sc__law_box : FnScope N__law_box ["_law_script"] (defScope s__law_box) := ⟨rfl, rfl, rfl, by decide +kernel, rfl, by decide +kernel, by decide +kernel⟩

def spMixed : Sp := fun vs H Q _ => ∃ n t : Int, vs = [.int n, .int t] ∧ Builtin.Int.intBits n ≤ 1048576 ∧ 0 ≤ t ∧ t ≤ 2 ^ 61 ∧ ∀ r : Int, Q (.int r) H
/-- the box at b: the script's copy at l, the next place, what is left of a cell, how often it was asked (at most n times), the seed -/
structure BoxAt (H : Hp) (b l : Addr) (n : Nat) : Prop where
  ex : ∃ (i k t s : Int) (ns : List Int), H b = some (.lst [.ref l, .int i, .int k, .int t, .int s]) ∧ H l = some (.lst (ns.map V.int)) ∧ l ≠ b ∧ (∀ z ∈ ns, Builtin.Int.intBits z ≤ 1048576) ∧ 0 ≤ i ∧ 0 ≤ t ∧ t ≤ (n : Int) ∧ 0 ≤ s ∧ s < 2147483647
theorem BoxAt.some {H : Hp} {b l : Addr} {n : Nat} (h : BoxAt H b l n) : ∃ o, H b = some o := by
  obtain ⟨_, _, _, _, _, e, _⟩ := h.ex
  exact ⟨_, e⟩
theorem BoxAt.mono {H : Hp} {b l : Addr} {n m : Nat} (h : BoxAt H b l n) (hm : n ≤ m) : BoxAt H b l m := by
  obtain ⟨i, k, t, s, ns, e1, e2, e3, e4, e5, e6, e7, e8⟩ := h.ex
  exact ⟨i, k, t, s, ns, e1, e2, e3, e4, e5, e6, by omega, e8⟩
theorem BoxAt.ex' {H H' : Hp} {b l : Addr} {n : Nat} (h : BoxAt H b l n) (e : Ex H H') : BoxAt H' b l n := by
  obtain ⟨i, k, t, s, ns, e1, e2, e3⟩ := h.ex
  exact ⟨i, k, t, s, ns, e _ _ e1, e _ _ e2, e3⟩
theorem BoxAt.exr {H H' : Hp} {b l : Addr} {n : Nat} (e : Ex H H') (h : BoxAt H b l n) : BoxAt H' b l n := h.ex' e
theorem BoxAt.upd {H : Hp} {b l p : Addr} {n : Nat} {o : HO} (h : BoxAt H b l n) (h1 : p ≠ b) (h2 : p ≠ l) : BoxAt (L2.upd H p o) b l n := by
  obtain ⟨i, k, t, s, ns, e1, e2, e3⟩ := h.ex
  exact ⟨i, k, t, s, ns, by rw [upd_ne h1.symm]; exact e1, by rw [upd_ne h2.symm]; exact e2, e3⟩
theorem BoxAt.ne1 {H : Hp} {b l p : Addr} {n : Nat} (hp : H p = none) (h : BoxAt H b l n) : p ≠ b := by
  obtain ⟨_, _, _, _, _, e, _⟩ := h.ex
  exact ne_fresh hp e
theorem BoxAt.ne2 {H : Hp} {b l p : Addr} {n : Nat} (hp : H p = none) (h : BoxAt H b l n) : p ≠ l := by
  obtain ⟨_, _, _, _, _, _, e, _⟩ := h.ex
  exact ne_fresh hp e
def spTake : Sp := fun vs H Q _ => ∃ (b l : Addr) (z : Int) (n : Nat), vs = [.ref b, .int z] ∧ 0 < z ∧ z < 2 ^ 64 ∧ BoxAt H b l n ∧ n ≤ 2 ^ 60 ∧
  ∀ (r : Int) (H' : Hp), 0 ≤ r → r < z → KB b H H' → BoxAt H' b l (n + 1) → Q (.int r) H'
def spBox (K : PySem.W.Frag) : Sp := fun vs H Q _ => ∃ (a : Addr) (ns : List Int), vs = [.ref a] ∧ SqL K H a (ns.map V.int) ∧ (∀ z ∈ ns, Builtin.Int.intBits z ≤ 1048576) ∧
  ∀ (b l : Addr) (H' : Hp), H b = none → H l = none → Ex H H' → BoxAt H' b l 0 → Q (.ref b) H'
section
variable {P : Program} {w : World} {K : PySem.W.Frag} {mg : Str → Option Value} {base : Heap}
theorem D_mixed (F : Df K mg "_law_mixed" s__law_mixed) : Dn P w K mg base CX0 1 "_law_mixed" ["_law_number", "_law_turn"] spMixed := by
  refine F.dn sc__law_mixed (fun _ _ _ _ _ _ us hl => match us, hl with | [_, _], _ => rfl) (fun vs H Q E h => ?_) (fun f cdv A outer s H vs Q E hr hK h => ?_)
  · obtain ⟨n, t, rfl, _⟩ := h
    rfl
  · obtain ⟨n, t, rfl, hn, ht, ht2, k⟩ := h
    refine ⟨_, (pss_cons (ps_set (i := 2) sc__law_mixed.nd rfl (Or.inl rfl) (pe_op op_mod (pe_op op_add (pe_op op_add (pe_op op_mulB (pv 0) pe_int) (pe_op op_mulB (pv 1) pe_int)) pe_int) pe_int))
      (pss_one (ps_ret (pe_op op_fdivW (pe_op op_mod (pe_op op_add (pe_op op_add (pe_op op_mulB (pv 2) (pe_op op_add (pe_op op_mod (pv 2) pe_int) pe_int)) (pe_op op_mulB (pv 1) pe_int)) (pe_op op_mod (pe_op op_fdivW (pv 0) pe_int) pe_int)) pe_int) pe_int)))), ?_⟩
    try rw [hK]
    rw [show L2.start N__law_mixed [.int n, .int t] = [some (.int n), some (.int t), none] from rfl]
    walk_at "sx"
    refine x_mulB (by unfold CMulX; have e : Builtin.Int.intBits 7919 = 13 := by decide
                      omega) ?_
    walk_at "sx"
    have h1 : 0 ≤ (n * 7919 + t * 104729 + 17) % 2147483647 := by omega
    have h2 : (n * 7919 + t * 104729 + 17) % 2147483647 < 2147483647 := by omega
    generalize (n * 7919 + t * 104729 + 17) % 2147483647 = m at h1 h2 ⊢
    walk_at "sx"
    exact k _
theorem D_take (T : Txt K mg) (D__law_mixed : Dn P w K mg base CX0 1 "_law_mixed" ["_law_number", "_law_turn"] spMixed) (F : Df K mg "_law_take" s__law_take) : Dn P w K mg base CX0 2 "_law_take" ["_law_box_here", "_law_size"] spTake := by
  refine F.dn sc__law_take (fun _ _ _ _ _ _ us hl => match us, hl with | [_, _], _ => rfl) (fun vs H Q E h => ?_) (fun f cdv A outer s H vs Q E hr hK h => ?_)
  · obtain ⟨b, l, z, n, rfl, _⟩ := h
    rfl
  · obtain ⟨b, l, z, n, rfl, hz, hz2, B, hn, q⟩ := h
    obtain ⟨i, k, t, s, ns, hb, hl, hlb, hbits, hi, ht, htn, hs0, hs1⟩ := B.ex
    refine ⟨_, (pss_cons (ps_asg (pe_op op_add (pe_ix ix_list (pv 0) pe_int (fun _ _ => rfl)) pe_int) (pg_sub (pv 0) pe_int set_list))
      (pss_cons (ps_if (pt_cmpR op_gt (pe_ix ix_list (pv 0) pe_int (fun _ _ => rfl)) pe_int (nomark _)) (pss_cons (ps_set (i := 2) sc__law_take.nd rfl (Or.inl rfl) (pe_ix ix_list (pv 0) pe_int (fun _ _ => rfl)))
      (pss_cons (ps_asg (pe_op op_fdivW (pv 2) (pv 1)) (pg_sub (pv 0) pe_int set_list))
      (pss_one (ps_ret (pe_op op_mod (pv 2) (pv 1)))))) pss_nil)
      (pss_cons (ps_if (pt_cmpR op_ge (pe_ix ix_list (pv 0) pe_int (fun _ _ => rfl)) (pe_callB g_len rfl T.m_len boot_len (pa_cons (pe_ix ix_list (pv 0) pe_int (fun _ _ => rfl)) pa_nil)) (nomark _)) (pss_one (ps_ret (pe_op op_mod (pe_dn D__law_mixed (hr.mono (by first | decide | omega)) pass0 (pa_cons (pe_ix ix_list (pv 0) pe_int (fun _ _ => rfl)) (pa_cons (pe_ix ix_list (pv 0) pe_int (fun _ _ => rfl)) pa_nil))) (pv 1)))) pss_nil)
      (pss_cons (ps_set (i := 3) sc__law_take.nd rfl (Or.inl rfl) (pe_ix ix_list (pe_ix ix_list (pv 0) pe_int (fun _ _ => rfl)) (pe_ix ix_list (pv 0) pe_int (fun _ _ => rfl)) (fun _ _ => rfl)))
      (pss_cons (ps_asg (pe_op op_add (pe_ix ix_list (pv 0) pe_int (fun _ _ => rfl)) pe_int) (pg_sub (pv 0) pe_int set_list))
      (pss_cons (ps_if (pt_cmpR op_lt (pv 3) (pe_op op_pow pe_int pe_int) (nomark _)) (pss_one (ps_ret (pe_op op_mod (pe_dn D__law_mixed (hr.mono (by first | decide | omega)) pass0 (pa_cons (pv 3) (pa_cons (pe_ix ix_list (pv 0) pe_int (fun _ _ => rfl)) pa_nil))) (pv 1)))) pss_nil)
      (pss_cons (ps_asg (pe_op op_fdivW (pv 3) (pv 1)) (pg_sub (pv 0) pe_int set_list))
      (pss_one (ps_ret (pe_op op_mod (pv 3) (pv 1))))))))))), ?_⟩
    try rw [hK]
    rw [show L2.start N__law_take [.ref b, .int z] = [some (.ref b), some (.int z), none, none] from rfl]
    walk_at "sx"
    have fin : ∀ (r i' k' : Int) (H' : Hp), 0 ≤ i' → H' b = some (.lst [.ref l, .int i', .int k', .int (t + 1), .int s]) → KB b H H' → Q (.int (r % z)) H' := fun r i' k' H' hi' e kb =>
      q _ _ (Int.emod_nonneg _ (by omega)) (Int.emod_lt_of_pos _ hz) kb ⟨i', k', t + 1, s, ns, e, kb.get hlb hl, hlb, hbits, hi', by omega, by omega, hs0, hs1⟩
    have hs := bits_of (i := s) (by omega) (by omega)
    refine x_ifQ (fun c => ?_) (fun _ => ?_)
    · walk_at "sx"
      exact fin _ i _ _ hi upd_same (KB.trans KB.upd KB.upd)
    · walk_at "sx"
      refine x_ifQ (fun c => ?_) (fun c => ?_)
      · walk_at "sx"
        refine ⟨_, _, rfl, hs, by omega, by omega, fun r => ?_⟩
        walk_at "sx"
        exact fin _ i k _ hi upd_same KB.upd
      · walk_at "sx"
        have c2 := of_decide_eq_false c
        rw [List.length_map] at c2
        have hlt : i.toNat < ns.length := by omega
        have hat : atI (ns.map V.int) i = some (.int ns[i.toNat]) := at_of (j := i.toNat) (by omega) (by rw [List.getElem?_map, List.getElem?_eq_getElem hlt]; rfl)
        refine x_ixL (by walk_at "sq") hat ?_
        walk_at "sx"
        refine x_ifQ (fun _ => ?_) (fun _ => ?_)
        · walk_at "sx"
          refine ⟨_, _, rfl, hbits _ (List.getElem_mem hlt), by omega, by omega, fun r => ?_⟩
          walk_at "sx"
          exact fin _ (i + 1) k _ (by omega) upd_same (KB.trans KB.upd KB.upd)
        · walk_at "sx"
          exact fin _ (i + 1) _ _ (by omega) upd_same (KB.trans KB.upd (KB.trans KB.upd KB.upd))
theorem D_box (T : Txt K mg) (F : Df K mg "_law_box" s__law_box) : Dn P w K mg base CX0 1 "_law_box" ["_law_script"] (spBox K) := by
  refine F.dn sc__law_box (fun _ _ _ _ _ _ us hl => match us, hl with | [_], _ => rfl) (fun vs H Q E h => ?_) (fun f cdv A outer s H vs Q E hr hK h => ?_)
  · obtain ⟨a, ns, rfl, _⟩ := h
    rfl
  · obtain ⟨a, ns, rfl, hS, hb, q⟩ := h
    refine ⟨_, (pss_cons (ps_set (i := 1) sc__law_box.nd rfl (Or.inl rfl) pe_int)
      (pss_cons (ps_for PassesOwn.never rfl (pi_list (pv 0)) (pg_name (i := 2) sc__law_box.nd rfl (Or.inl rfl)) (pss_one (ps_set (i := 1) sc__law_box.nd rfl (Or.inl rfl) (pe_op op_mod (pe_op op_add (pe_op op_add (pe_op op_mulB (pv 1) pe_int) (pe_op op_mod (pv 2) pe_int)) pe_int) pe_int))))
      (pss_one (ps_ret (pe_lst (pa_cons (pe_callTy g_list rfl T.m_list boot_list (pa_cons (pv 0) pa_nil)) (pa_cons pe_int (pa_cons pe_int (pa_cons pe_int (pa_cons (pv 1) pa_nil)))))))))), ?_⟩
    try rw [hK]
    rw [show L2.start N__law_box [.ref a] = [some (.ref a), none, none] from rfl]
    walk_at "sx"
    refine x_iLQ hS ?_
    refine x_forQ walk_list (fun i σ H' => H' = H ∧ ∃ (z : Int) (v : Option V), σ = [some (.ref a), some (.int z), v] ∧ 0 ≤ z ∧ z < 2147483647) ⟨rfl, 7, none, rfl, by decide, by decide⟩ (fun i σ H' _ p => by rw [p.1]; exact hS) ?_ ?_
    · rintro i x σ H1 H2 hi ⟨rfl, z, v, rfl, hz0, hz1⟩ ⟨rfl, hx⟩
      obtain ⟨u, rfl⟩ : ∃ u, x = V.int u := by
        rw [List.getElem?_map] at hx
        cases e : ns[i]? with
        | none => rw [e] at hx; cases hx
        | some u => rw [e] at hx; exact ⟨u, (Option.some.inj hx).symm⟩
      walk_at "sx"
      exact ⟨rfl, _, _, rfl, by omega, by omega⟩
    · rintro σ H' ⟨rfl, z, v, rfl, hz0, hz1⟩
      walk_at "sx"
      intro l hl
      walk_at "sx"
      intro b hb'
      have hbl : l ≠ b := ne_of_none upd_same hb'
      exact q b l _ (Same.free (Ex.new hl) hb') hl ((Ex.new hl).trans (Ex.new hb')) ⟨0, 0, 0, z, ns, upd_same, by rw [upd_ne hbl]; exact upd_same, hbl, hb, by decide, by decide, by decide, hz0, hz1⟩
end

theorem x_take {H : Hp} {Q : VK} {E : XK} {b l : Addr} {z : Int} {n : Nat} (B : BoxAt H b l n) (hz : 0 < z) (hz2 : z < 2 ^ 64) (hn : n ≤ 2 ^ 60) (k : ∀ (r : Int) (H' : Hp), 0 ≤ r → r < z → KB b H H' → BoxAt H' b l (n + 1) → Q (.int r) H') : spTake [.ref b, .int z] H Q E :=
  ⟨b, l, z, n, rfl, hz, hz2, B, hn, k⟩

local macro_rules | `(tactic| walk_at "box") => `(tactic| (with_reducible assumption))
local macro_rules | `(tactic| walk_at "neb") => `(tactic| (first
  | with_reducible exact BoxAt.ne1 (by with_reducible assumption) (by with_reducible assumption)
  | with_reducible exact BoxAt.ne2 (by with_reducible assumption) (by with_reducible assumption)
  | with_reducible exact Ne.symm (BoxAt.ne1 (by with_reducible assumption) (by with_reducible assumption))
  | with_reducible exact Ne.symm (BoxAt.ne2 (by with_reducible assumption) (by with_reducible assumption))))

/-! ### steps over parts -/
local macro_rules | `(tactic| walk_at "pk") => `(tactic| (first
  | with_reducible assumption
  | with_reducible exact PK.refl
  | ((with_reducible refine PK.trans ?_ (by with_reducible assumption)); walk_at "pk")))
local macro_rules | `(tactic| walk_at "pt") => `(tactic| (first
  | with_reducible assumption
  | ((with_reducible refine PK.tup ?hpk (by with_reducible assumption)); (case hpk => walk_at "pk"))))
local macro_rules | `(tactic| walk_at "tpa") => `(tactic| (first
  | with_reducible exact TpAll.nil
  | ((with_reducible refine TpAll.cons ?h3 ?h4); (case h3 => walk_at "tp"); (case h4 => walk_at "tpa"))))
local macro_rules | `(tactic| walk_at "tp") => `(tactic| (first
  | with_reducible assumption
  | with_reducible exact Tp.int _
  | with_reducible exact Tp.str _
  | with_reducible exact Tp.bl _
  | with_reducible exact Tp.non
  | ((with_reducible refine Tp.tup (xs := ?xs) ?h1 ?h2); (case h1 => walk_at "pt"); (case h2 => walk_at "tpa"))
  | ((with_reducible refine Tp.pk ?hpk2 (by with_reducible assumption)); (case hpk2 => walk_at "pk"))))
local macro_rules | `(tactic| walk_at "sq") => `(tactic| (first
  | with_reducible assumption
  | exact SqL.of sat_at
  | ((with_reducible refine SqT.of ?_); walk_at "pt")))
local macro_rules | `(tactic| walk_at "s1") => `(tactic| (first
  | ((with_reducible refine x_sf ?_); intro _ _ _)
  | ((with_reducible refine x_dnewS ?_); intro _ _ _ _)
  | ((with_reducible refine x_dictS ?_); intro _ _ _ _)
  | ((with_reducible refine x_listDS ?_); intro _ _ _ _)
  | ((with_reducible refine x_lstS ?hz ?_); (case hz => exact Nat.le_of_ble_eq_true rfl); intro _ _ _ _)
  | ((with_reducible refine x_tupS ?hz ?_); (case hz => exact Nat.le_of_ble_eq_true rfl); intro _ _ _ _ _)
  | ((with_reducible refine x_make ?_); intro _ _ _ _ _)
  | ((with_reducible refine x_ixTn (xs := ?xs) (v := ?v) ?hs ?h0 ?ha ?_); (case h0 => decide); (case hs => walk_at "sq"); (case ha => exact rfl))
  | ((with_reducible refine x_asgT (xs := ?xs) ?hs ?hn ?_); (case hs => walk_at "sq"); (case hn => exact rfl))
  | ((with_reducible refine x_gTup (xs := ?xs) ?hs ?hn ?_); (case hs => walk_at "sq"); (case hn => exact rfl))
  | ((with_reducible refine x_lcTg ?hw ?_); (case hw => exact rfl))))
local macro_rules | `(tactic| walk_at "sx") => `(tactic| ((refine run ?_); (repeat (walk_at "s1"; (refine run ?_)))))

/-! ### names and numbers, good and bad -/
abbrev s_all_in : Stmt := top 42
abbrev N_all_in : List Str := ["word", "signs", "sign"]
theorem sc_all_in : FnScope N_all_in ["word", "signs"] (defScope s_all_in) := ⟨rfl, rfl, rfl, by decide +kernel, rfl, by decide +kernel, by decide +kernel⟩
abbrev s_is_name : Stmt := top 43
abbrev N_is_name : List Str := ["word"]
theorem sc_is_name : FnScope N_is_name ["word"] (defScope s_is_name) := ⟨rfl, rfl, rfl, by decide +kernel, rfl, by decide +kernel, by decide +kernel⟩
abbrev s_number_of : Stmt := top 44
abbrev N_number_of : List Str := ["word"]
theorem sc_number_of : FnScope N_number_of ["word"] (defScope s_number_of) := ⟨rfl, rfl, rfl, by decide +kernel, rfl, by decide +kernel, by decide +kernel⟩
abbrev s_numbers_of : Stmt := top 45
abbrev N_numbers_of : List Str := ["words", "numbers", "word"]
theorem sc_numbers_of : FnScope N_numbers_of ["words"] (defScope s_numbers_of) := ⟨rfl, rfl, rfl, by decide +kernel, rfl, by decide +kernel, by decide +kernel⟩

structure Nm (z : Str) : Prop where
  pos : 1 ≤ z.length
  len : z.length ≤ 8
  all : ∀ (i c : Nat), z.cps[i]? = some c → 97 ≤ c ∧ c ≤ 122
abbrev letters : Str := "abcdefghijklmnopqrstuvwxyz"
abbrev figs : Str := "0123456789"
def inL (c : Nat) : Bool := decide (c ∈ letters.cps.toList)
def isN (z : Str) : Bool := decide (z.length ≤ 8) && (decide (0 < z.length) && z.cps.toList.all inL)
def allInB (z sg : Str) : Bool := decide (0 < z.length) && z.cps.toList.all fun c => decide (c ∈ sg.cps.toList)
def spAllIn : Sp := fun vs H Q _ => ∃ z sg : Str, vs = [.str z, .str sg] ∧ z.length ≤ 1000 ∧ ∀ H', Ex H H' → Q (.bl (allInB z sg)) H'
def spIsName : Sp := fun vs H Q _ => ∃ z : Str, vs = [.str z] ∧ z.length ≤ 1000 ∧ ∀ H', Ex H H' → Q (.bl (isN z)) H'
/-- the number that a word writes -/
def numOf (z : Str) : Option Int := if z.length ≤ 10 ∧ allInB z figs = true then (if 1 < z.length ∧ z.cps.toList.head? = some 48 then none else some ((PySem.NumText.digitsVal z.cps.toList : Nat) : Int)) else none
def optI : Option Int → V
  | none => .non
  | some n => .int n
def spNumberOf : Sp := fun vs H Q _ => ∃ z : Str, vs = [.str z] ∧ z.length ≤ 1000 ∧ ∀ H', Ex H H' → Q (optI (numOf z)) H'
theorem all_range (a : Array Nat) (p : Nat → Bool) : (List.range a.size).all (fun i => (match a[i]? with | some c => p c | none => true)) = a.toList.all p := by
  rw [Bool.eq_iff_iff, List.all_eq_true, List.all_eq_true]
  constructor
  · intro h c hc
    obtain ⟨i, hi⟩ := List.getElem?_of_mem hc
    have hi2 := (List.getElem?_eq_some_iff.mp hi).1
    rw [Array.getElem?_toList] at hi
    have := h i (List.mem_range.mpr (by simpa using hi2))
    rw [hi] at this
    exact this
  · intro h i hi
    cases e : a[i]? with
    | none => rfl
    | some c => exact h c (by rw [← Array.getElem?_toList] at e; exact List.mem_of_getElem? e)
theorem figs_digit {z : Str} (h : allInB z figs = true) : 0 < z.length ∧ ∀ c ∈ z.cps.toList, 48 ≤ c ∧ c ≤ 57 := by
  unfold allInB at h
  rw [Bool.and_eq_true] at h
  refine ⟨of_decide_eq_true h.1, fun c hc => ?_⟩
  have := of_decide_eq_true (List.all_eq_true.mp h.2 c hc)
  have k : ∀ c ∈ figs.cps.toList, 48 ≤ c ∧ c ≤ 57 := by decide +kernel
  exact k c this
theorem digit_figs {z : Str} (h0 : 0 < z.length) (h : ∀ c ∈ z.cps.toList, 48 ≤ c ∧ c ≤ 57) : allInB z figs = true := by
  unfold allInB
  rw [decide_eq_true h0, Bool.true_and]
  refine List.all_eq_true.mpr fun c hc => decide_eq_true ?_
  have := h c hc
  have k : ∀ k : Fin 10, 48 + k.val ∈ figs.cps.toList := by decide +kernel
  have := k ⟨c - 48, by omega⟩
  rwa [show 48 + (c - 48) = c by omega] at this
theorem slen (z : Str) : z.length = z.cps.toList.length := by simp [PySem.Str.length]
theorem num_text {z : Str} (h : allInB z figs = true) (hl : z.length ≤ 1000) : PySem.intText? z = some ((PySem.NumText.digitsVal z.cps.toList : Nat) : Int) := by
  obtain ⟨h0, h1⟩ := figs_digit h
  exact PySem.intText_digits (fun c hc => h1 c hc) (fun e => by rw [slen, e] at h0; exact absurd h0 (by decide)) (by omega)
theorem numOf_nt {i : Int} (h0 : 0 ≤ i) (h1 : i < 10 ^ 10) : numOf (nt i) = some i := by
  obtain ⟨m, rfl⟩ := Int.eq_ofNat_of_zero_le h0
  have hl := nt_len h0 h1
  have hp : 0 < (nt (m : Int)).length := by
    rw [slen]
    cases e : (nt (m : Int)).cps.toList with
    | nil => exact absurd e (nt_ne m)
    | cons a b => exact Nat.zero_lt_succ _
  have hf := digit_figs hp (fun c hc => nt_digit hc)
  have hr := nt_reads h0 h1
  rw [num_text hf (by omega)] at hr
  unfold numOf
  rw [if_pos ⟨hl, hf⟩, if_neg, hr]
  rintro ⟨c1, c2⟩
  by_cases h10 : 10 ≤ m
  · obtain ⟨c, r, e, hc⟩ := nt_head m h10
    rw [e] at c2
    exact hc (Option.some.inj c2)
  · have := nt_small (m := m) (by omega)
    rw [← slen] at this
    omega
theorem numOf_len {z : Str} {n : Int} (h : numOf z = some n) : z.length ≤ 10 := by
  unfold numOf at h
  split at h
  · next c => exact c.1
  · cases h
theorem numOf_nonneg {z : Str} {n : Int} (h : numOf z = some n) : 0 ≤ n := by
  unfold numOf at h
  split at h
  · split at h
    · cases h
    · cases h
      exact Int.natCast_nonneg _
  · cases h
section
variable {P : Program} {w : World} {K : PySem.W.Frag} {mg : Str → Option Value} {base : Heap}
theorem D_all_in (T : Txt K mg) (F : Df K mg "all_in" s_all_in) : Dn P w K mg base CX0 1 "all_in" ["word", "signs"] spAllIn := by
  refine F.dn sc_all_in (fun _ _ _ _ _ _ us hl => match us, hl with | [_, _], _ => rfl) (fun vs H Q E h => ?_) (fun f cdv A outer s H vs Q E hr hK h => ?_)
  · obtain ⟨z, sg, rfl, _⟩ := h
    rfl
  · obtain ⟨z, sg, rfl, h2, k⟩ := h
    refine ⟨_, (pss_one (ps_ret (pe_and (pe_cmpR op_gt (pe_callB g_lenS rfl T.m_len boot_len (pa_cons (pv 0) pa_nil)) pe_int (nomark _)) (pe_one (pe_callB (cr_all rfl) rfl T.m_all boot_all (pa_cons (pe_lc (own := [("sign", 2)]) (g := gName 2) (tt := tYes) rfl sc_all_in.nd (pi_str (pv 0)) (blkOk_by (own := [("sign", 2)]) (N := N_all_in) (sc := defScope s_all_in) (by decide +kernel)) (fun _ _ _ _ _ => pg_name (i := 2) sc_all_in.nd rfl (Or.inl rfl)) (fun _ _ _ _ _ => pts_nil) (fun _ _ _ _ _ => (pe_cmpR op_in_sign (pv 2) (pv 1) rfl))) pa_nil)))))), ?_⟩
    try rw [hK]
    rw [show L2.start N_all_in [.str z, .str sg] = [some (.str z), some (.str sg), none] from rfl]
    have hz : z.length ≤ sizeLine := by rw [sizeLine_eq]; omega
    have hz2 : z.cps.size ≤ sizeLine := hz
    walk_at "sx"
    refine x_lenS hz ?_
    walk_at "sx"
    refine x_andVD (fun c => ?_) (fun c => ?_)
    · walk_at "sx"
      refine x_lcMap walk_str (fun i => V.bl (match z.cps[i]? with | some c => decide (c ∈ sg.cps.toList) | none => true)) hz2 (fun _ _ => trivial) (fun Dl i x H1 H2 Nx hi e1 y k2 => ?_) (fun i x H1 H2 hi e1 y => by rw [y.1]; exact Ex.refl _) (fun Dl H' _ e hD => ?_)
      · obtain ⟨rfl, c, hc, rfl⟩ := y
        walk_at "sx"
        refine ⟨c, sg, rfl, rfl, ?_⟩
        have e2 : (match z.cps[i]? with | some c => decide (c ∈ sg.cps.toList) | none => true) = decide (c ∈ sg.cps.toList) := by rw [hc]
        rw [← e2]
        exact k2 _ (Ex.refl _)
      · walk_at "sx"
        refine x_allMap (g := fun i => (match z.cps[i]? with | some c => decide (c ∈ sg.cps.toList) | none => true)) hD ?_
        have e1 : (List.range z.cps.size).all (fun i => (match z.cps[i]? with | some c => decide (c ∈ sg.cps.toList) | none => true)) = allInB z sg := by
          unfold allInB
          rw [decide_eq_true (show 0 < z.length by omega), Bool.true_and]
          exact all_range z.cps fun c => decide (c ∈ sg.cps.toList)
        rw [e1]
        exact k _ e
    · have e1 : allInB z sg = false := by unfold allInB; rw [decide_eq_false (show ¬ 0 < z.length by omega)]; rfl
      rw [← e1]
      exact k _ (Ex.refl _)
theorem D_is_name (T : Txt K mg) (D_all_in : Dn P w K mg base CX0 1 "all_in" ["word", "signs"] spAllIn) (F : Df K mg "is_name" s_is_name) : Dn P w K mg base CX0 2 "is_name" ["word"] spIsName := by
  refine F.dn sc_is_name (fun _ _ _ _ _ _ us hl => match us, hl with | [_], _ => rfl) (fun vs H Q E h => ?_) (fun f cdv A outer s H vs Q E hr hK h => ?_)
  · obtain ⟨z, rfl, _⟩ := h
    rfl
  · obtain ⟨z, rfl, h2, k⟩ := h
    refine ⟨_, (pss_one (ps_ret (pe_and (pe_cmpR op_le (pe_callB g_lenS rfl T.m_len boot_len (pa_cons (pv 0) pa_nil)) (pe_cst T.c_MOST_LETTERS) (nomark _)) (pe_one (pe_dn D_all_in (hr.mono (by first | decide | omega)) pass0 (pa_cons (pv 0) (pa_cons (pe_csts T.s_LETTERS) pa_nil))))))), ?_⟩
    try rw [hK]
    rw [show L2.start N_is_name [.str z] = [some (.str z)] from rfl]
    have hz : z.length ≤ sizeLine := by rw [sizeLine_eq]; omega
    walk_at "sx"
    refine x_lenS hz ?_
    walk_at "sx"
    refine x_andVD (fun c => ?_) (fun c => ?_)
    · walk_at "sx"
      refine ⟨z, letters, rfl, h2, fun H' e => ?_⟩
      have e1 : allInB z letters = isN z := by unfold isN; rw [decide_eq_true (show z.length ≤ 8 by omega), Bool.true_and]; rfl
      rw [e1]
      exact k _ e
    · have e1 : isN z = false := by unfold isN; rw [decide_eq_false (show ¬ z.length ≤ 8 by omega), Bool.false_and]
      rw [← e1]
      exact k _ (Ex.refl _)
theorem D_number_of (T : Txt K mg) (D_all_in : Dn P w K mg base CX0 1 "all_in" ["word", "signs"] spAllIn) (F : Df K mg "number_of" s_number_of) : Dn P w K mg base CX0 2 "number_of" ["word"] spNumberOf := by
  refine F.dn sc_number_of (fun _ _ _ _ _ _ us hl => match us, hl with | [_], _ => rfl) (fun vs H Q E h => ?_) (fun f cdv A outer s H vs Q E hr hK h => ?_)
  · obtain ⟨z, rfl, _⟩ := h
    rfl
  · obtain ⟨z, rfl, h2, k⟩ := h
    refine ⟨_, (pss_cons (ps_if (PW.pt (pw_or (pt_cmpR op_gt (pe_callB g_lenS rfl T.m_len boot_len (pa_cons (pv 0) pa_nil)) (pe_cst T.c_MOST_FIGURES) (nomark _)) (pw_or1 (pt_not (pt_val (pe_dn D_all_in (hr.mono (by first | decide | omega)) pass0 (pa_cons (pv 0) (pa_cons (pe_csts T.s_FIGURES) pa_nil)))))))) (pss_one (ps_ret pe_non)) pss_nil)
      (pss_cons (ps_if (PW.pt (pw_and (pt_cmpR op_gt (pe_callB g_lenS rfl T.m_len boot_len (pa_cons (pv 0) pa_nil)) pe_int (nomark _)) (pw_and1 (pt_cmpR op_eq (pe_ix ix_str (pv 0) pe_int (fun _ _ => rfl)) pe_str (nomark _))))) (pss_one (ps_ret pe_non)) pss_nil)
      (pss_one (ps_ret (pe_callTy g_intT rfl T.m_int boot_int (pa_cons (pv 0) pa_nil)))))), ?_⟩
    try rw [hK]
    rw [show L2.start N_number_of [.str z] = [some (.str z)] from rfl]
    have hz : z.length ≤ sizeLine := by rw [sizeLine_eq]; omega
    have bad : numOf z = none → ∀ H', Ex H H' → Q .non H' := fun e H' x => by
      have := k H' x
      rwa [e] at this
    walk_at "sx"
    refine x_lenS hz ?_
    walk_at "sx"
    refine x_orD (fun c => ?_) (fun c => ?_)
    · walk_at "sx"
      exact bad (by unfold numOf; rw [if_neg (by omega)]) _ (Ex.refl _)
    · walk_at "sx"
      refine ⟨z, figs, rfl, h2, fun H1 e1 => ?_⟩
      cases ca : allInB z figs with
      | false =>
        walk_at "sx"
        exact bad (by unfold numOf; rw [if_neg (by rw [ca]; simp)]) _ e1
      | true =>
        have hd := figs_digit ca
        walk_at "sx"
        refine x_lenS hz ?_
        walk_at "sx"
        have go : numOf z = some ((PySem.NumText.digitsVal z.cps.toList : Nat) : Int) → Q (.int ((PySem.NumText.digitsVal z.cps.toList : Nat) : Int)) H1 := fun e => by
          have := k H1 e1
          rwa [e] at this
        obtain ⟨c0, r0, hcr⟩ : ∃ c r, z.cps.toList = c :: r := by
          cases e : z.cps.toList with
          | nil => have := hd.1; rw [slen, e] at this; exact absurd this (by decide)
          | cons a b => exact ⟨a, b, rfl⟩
        refine x_andD (fun c1 => ?_) (fun c1 => ?_)
        · walk_at "sx"
          refine x_ixS (c := c0) hz (by rw [hcr]; exact atI_nat (j := 0) rfl) ?_
          walk_at "sx"
          refine x_ifD (fun c2 => ?_) (fun c2 => ?_)
          · walk_at "sx"
            have c2 : c0 = 48 := by
              have := congrArg (fun z : Str => z.cps.toList) c2
              have this : [c0] = [48] := this
              exact List.cons.inj this |>.1
            exact bad (by unfold numOf; rw [if_pos ⟨by omega, ca⟩, if_pos ⟨by omega, by rw [hcr, c2]; rfl⟩]) _ e1
          · walk_at "sx"
            refine x_intT (num_text ca h2) (by omega) ?_
            refine go ?_
            unfold numOf
            rw [if_pos ⟨by omega, ca⟩, if_neg]
            rintro ⟨_, q⟩
            rw [hcr] at q
            have q := Option.some.inj q
            subst q
            exact c2 rfl
        · walk_at "sx"
          refine x_intT (num_text ca h2) (by omega) ?_
          refine go ?_
          unfold numOf
          rw [if_pos ⟨by omega, ca⟩, if_neg (by omega)]
end

def fsBook (a0 a1 a2 a3 a4 a5 a6 : V) : List (Str × V) := [("banners", a0), ("folk", a1), ("pacts", a2), ("told", a3), ("later", a4), ("past", a5), ("future", a6)]
section
variable {y a0 a1 a2 a3 a4 a5 a6 : V}
instance lk_Book_banners : Lk "banners" (fsBook a0 a1 a2 a3 a4 a5 a6) a0 := ⟨rfl⟩
instance pt_Book_banners : Pt "banners" y (fsBook a0 a1 a2 a3 a4 a5 a6) (fsBook y a1 a2 a3 a4 a5 a6) := ⟨rfl, by show 7 < 1000; decide⟩
instance pi_Book_banners : Pt "banners" y [] [("banners", y)] := ⟨rfl, by show 0 < 1000; decide⟩
instance lk_Book_folk : Lk "folk" (fsBook a0 a1 a2 a3 a4 a5 a6) a1 := ⟨rfl⟩
instance pt_Book_folk : Pt "folk" y (fsBook a0 a1 a2 a3 a4 a5 a6) (fsBook a0 y a2 a3 a4 a5 a6) := ⟨rfl, by show 7 < 1000; decide⟩
instance pi_Book_folk : Pt "folk" y [("banners", a0)] [("banners", a0), ("folk", y)] := ⟨rfl, by show 1 < 1000; decide⟩
instance li_Book_folk_banners : Lk "banners" [("banners", a0)] a0 := ⟨rfl⟩
instance lk_Book_pacts : Lk "pacts" (fsBook a0 a1 a2 a3 a4 a5 a6) a2 := ⟨rfl⟩
instance pt_Book_pacts : Pt "pacts" y (fsBook a0 a1 a2 a3 a4 a5 a6) (fsBook a0 a1 y a3 a4 a5 a6) := ⟨rfl, by show 7 < 1000; decide⟩
instance pi_Book_pacts : Pt "pacts" y [("banners", a0), ("folk", a1)] [("banners", a0), ("folk", a1), ("pacts", y)] := ⟨rfl, by show 2 < 1000; decide⟩
instance li_Book_pacts_banners : Lk "banners" [("banners", a0), ("folk", a1)] a0 := ⟨rfl⟩
instance li_Book_pacts_folk : Lk "folk" [("banners", a0), ("folk", a1)] a1 := ⟨rfl⟩
instance lk_Book_told : Lk "told" (fsBook a0 a1 a2 a3 a4 a5 a6) a3 := ⟨rfl⟩
instance pt_Book_told : Pt "told" y (fsBook a0 a1 a2 a3 a4 a5 a6) (fsBook a0 a1 a2 y a4 a5 a6) := ⟨rfl, by show 7 < 1000; decide⟩
instance pi_Book_told : Pt "told" y [("banners", a0), ("folk", a1), ("pacts", a2)] [("banners", a0), ("folk", a1), ("pacts", a2), ("told", y)] := ⟨rfl, by show 3 < 1000; decide⟩
instance li_Book_told_banners : Lk "banners" [("banners", a0), ("folk", a1), ("pacts", a2)] a0 := ⟨rfl⟩
instance li_Book_told_folk : Lk "folk" [("banners", a0), ("folk", a1), ("pacts", a2)] a1 := ⟨rfl⟩
instance li_Book_told_pacts : Lk "pacts" [("banners", a0), ("folk", a1), ("pacts", a2)] a2 := ⟨rfl⟩
instance lk_Book_later : Lk "later" (fsBook a0 a1 a2 a3 a4 a5 a6) a4 := ⟨rfl⟩
instance pt_Book_later : Pt "later" y (fsBook a0 a1 a2 a3 a4 a5 a6) (fsBook a0 a1 a2 a3 y a5 a6) := ⟨rfl, by show 7 < 1000; decide⟩
instance pi_Book_later : Pt "later" y [("banners", a0), ("folk", a1), ("pacts", a2), ("told", a3)] [("banners", a0), ("folk", a1), ("pacts", a2), ("told", a3), ("later", y)] := ⟨rfl, by show 4 < 1000; decide⟩
instance li_Book_later_banners : Lk "banners" [("banners", a0), ("folk", a1), ("pacts", a2), ("told", a3)] a0 := ⟨rfl⟩
instance li_Book_later_folk : Lk "folk" [("banners", a0), ("folk", a1), ("pacts", a2), ("told", a3)] a1 := ⟨rfl⟩
instance li_Book_later_pacts : Lk "pacts" [("banners", a0), ("folk", a1), ("pacts", a2), ("told", a3)] a2 := ⟨rfl⟩
instance li_Book_later_told : Lk "told" [("banners", a0), ("folk", a1), ("pacts", a2), ("told", a3)] a3 := ⟨rfl⟩
instance lk_Book_past : Lk "past" (fsBook a0 a1 a2 a3 a4 a5 a6) a5 := ⟨rfl⟩
instance pt_Book_past : Pt "past" y (fsBook a0 a1 a2 a3 a4 a5 a6) (fsBook a0 a1 a2 a3 a4 y a6) := ⟨rfl, by show 7 < 1000; decide⟩
instance pi_Book_past : Pt "past" y [("banners", a0), ("folk", a1), ("pacts", a2), ("told", a3), ("later", a4)] [("banners", a0), ("folk", a1), ("pacts", a2), ("told", a3), ("later", a4), ("past", y)] := ⟨rfl, by show 5 < 1000; decide⟩
instance li_Book_past_banners : Lk "banners" [("banners", a0), ("folk", a1), ("pacts", a2), ("told", a3), ("later", a4)] a0 := ⟨rfl⟩
instance li_Book_past_folk : Lk "folk" [("banners", a0), ("folk", a1), ("pacts", a2), ("told", a3), ("later", a4)] a1 := ⟨rfl⟩
instance li_Book_past_pacts : Lk "pacts" [("banners", a0), ("folk", a1), ("pacts", a2), ("told", a3), ("later", a4)] a2 := ⟨rfl⟩
instance li_Book_past_told : Lk "told" [("banners", a0), ("folk", a1), ("pacts", a2), ("told", a3), ("later", a4)] a3 := ⟨rfl⟩
instance li_Book_past_later : Lk "later" [("banners", a0), ("folk", a1), ("pacts", a2), ("told", a3), ("later", a4)] a4 := ⟨rfl⟩
instance lk_Book_future : Lk "future" (fsBook a0 a1 a2 a3 a4 a5 a6) a6 := ⟨rfl⟩
instance pt_Book_future : Pt "future" y (fsBook a0 a1 a2 a3 a4 a5 a6) (fsBook a0 a1 a2 a3 a4 a5 y) := ⟨rfl, by show 7 < 1000; decide⟩
instance pi_Book_future : Pt "future" y [("banners", a0), ("folk", a1), ("pacts", a2), ("told", a3), ("later", a4), ("past", a5)] (fsBook a0 a1 a2 a3 a4 a5 y) := ⟨rfl, by show 6 < 1000; decide⟩
instance li_Book_future_banners : Lk "banners" [("banners", a0), ("folk", a1), ("pacts", a2), ("told", a3), ("later", a4), ("past", a5)] a0 := ⟨rfl⟩
instance li_Book_future_folk : Lk "folk" [("banners", a0), ("folk", a1), ("pacts", a2), ("told", a3), ("later", a4), ("past", a5)] a1 := ⟨rfl⟩
instance li_Book_future_pacts : Lk "pacts" [("banners", a0), ("folk", a1), ("pacts", a2), ("told", a3), ("later", a4), ("past", a5)] a2 := ⟨rfl⟩
instance li_Book_future_told : Lk "told" [("banners", a0), ("folk", a1), ("pacts", a2), ("told", a3), ("later", a4), ("past", a5)] a3 := ⟨rfl⟩
instance li_Book_future_later : Lk "later" [("banners", a0), ("folk", a1), ("pacts", a2), ("told", a3), ("later", a4), ("past", a5)] a4 := ⟨rfl⟩
instance li_Book_future_past : Lk "past" [("banners", a0), ("folk", a1), ("pacts", a2), ("told", a3), ("later", a4), ("past", a5)] a5 := ⟨rfl⟩
instance nk_Book_state : Nk "state" (fsBook a0 a1 a2 a3 a4 a5 a6) := ⟨rfl⟩
instance nk_Book_settle : Nk "settle" (fsBook a0 a1 a2 a3 a4 a5 a6) := ⟨rfl⟩
instance nk_Book_keep : Nk "keep" (fsBook a0 a1 a2 a3 a4 a5 a6) := ⟨rfl⟩
instance nk_Book_forget : Nk "forget" (fsBook a0 a1 a2 a3 a4 a5 a6) := ⟨rfl⟩
instance nk_Book_need_side : Nk "need_side" (fsBook a0 a1 a2 a3 a4 a5 a6) := ⟨rfl⟩
instance nk_Book_need_man : Nk "need_man" (fsBook a0 a1 a2 a3 a4 a5 a6) := ⟨rfl⟩
instance nk_Book_need_two : Nk "need_two" (fsBook a0 a1 a2 a3 a4 a5 a6) := ⟨rfl⟩
instance nk_Book_need_cartel : Nk "need_cartel" (fsBook a0 a1 a2 a3 a4 a5 a6) := ⟨rfl⟩
instance nk_Book_side : Nk "side" (fsBook a0 a1 a2 a3 a4 a5 a6) := ⟨rfl⟩
instance nk_Book_man : Nk "man" (fsBook a0 a1 a2 a3 a4 a5 a6) := ⟨rfl⟩
instance nk_Book_cartel : Nk "cartel" (fsBook a0 a1 a2 a3 a4 a5 a6) := ⟨rfl⟩
instance nk_Book_need_day : Nk "need_day" (fsBook a0 a1 a2 a3 a4 a5 a6) := ⟨rfl⟩
instance nk_Book_enter : Nk "enter" (fsBook a0 a1 a2 a3 a4 a5 a6) := ⟨rfl⟩
instance nk_Book_of_man : Nk "of_man" (fsBook a0 a1 a2 a3 a4 a5 a6) := ⟨rfl⟩
instance nk_Book_take : Nk "take" (fsBook a0 a1 a2 a3 a4 a5 a6) := ⟨rfl⟩
instance nk_Book_word : Nk "word" (fsBook a0 a1 a2 a3 a4 a5 a6) := ⟨rfl⟩
instance nk_Book_free : Nk "free" (fsBook a0 a1 a2 a3 a4 a5 a6) := ⟨rfl⟩
instance nk_Book_flee : Nk "flee" (fsBook a0 a1 a2 a3 a4 a5 a6) := ⟨rfl⟩
instance nk_Book_die : Nk "die" (fsBook a0 a1 a2 a3 a4 a5 a6) := ⟨rfl⟩
instance nk_Book_rank : Nk "rank" (fsBook a0 a1 a2 a3 a4 a5 a6) := ⟨rfl⟩
instance nk_Book_swap : Nk "swap" (fsBook a0 a1 a2 a3 a4 a5 a6) := ⟨rfl⟩
instance nk_Book_strike : Nk "strike" (fsBook a0 a1 a2 a3 a4 a5 a6) := ⟨rfl⟩
instance nk_Book_redate : Nk "redate" (fsBook a0 a1 a2 a3 a4 a5 a6) := ⟨rfl⟩
instance nk_Book_undo : Nk "undo" (fsBook a0 a1 a2 a3 a4 a5 a6) := ⟨rfl⟩
instance nk_Book_redo : Nk "redo" (fsBook a0 a1 a2 a3 a4 a5 a6) := ⟨rfl⟩
instance nk_Book_sides : Nk "sides" (fsBook a0 a1 a2 a3 a4 a5 a6) := ⟨rfl⟩
instance nk_Book_men : Nk "men" (fsBook a0 a1 a2 a3 a4 a5 a6) := ⟨rfl⟩
instance nk_Book_cartels : Nk "cartels" (fsBook a0 a1 a2 a3 a4 a5 a6) := ⟨rfl⟩
instance nk_Book_deeds : Nk "deeds" (fsBook a0 a1 a2 a3 a4 a5 a6) := ⟨rfl⟩
instance nk_Book_upcoming : Nk "upcoming" (fsBook a0 a1 a2 a3 a4 a5 a6) := ⟨rfl⟩
instance nk_Book_scene : Nk "scene" (fsBook a0 a1 a2 a3 a4 a5 a6) := ⟨rfl⟩
instance nk_Book_as_of : Nk "as_of" (fsBook a0 a1 a2 a3 a4 a5 a6) := ⟨rfl⟩
instance nk_Book_stands : Nk "stands" (fsBook a0 a1 a2 a3 a4 a5 a6) := ⟨rfl⟩
instance nk_Book_holder : Nk "holder" (fsBook a0 a1 a2 a3 a4 a5 a6) := ⟨rfl⟩
instance nk_Book_words : Nk "words" (fsBook a0 a1 a2 a3 a4 a5 a6) := ⟨rfl⟩
instance nk_Book_rank_of : Nk "rank_of" (fsBook a0 a1 a2 a3 a4 a5 a6) := ⟨rfl⟩
instance nk_Book_may_serve : Nk "may_serve" (fsBook a0 a1 a2 a3 a4 a5 a6) := ⟨rfl⟩
instance nk_Book_line : Nk "line" (fsBook a0 a1 a2 a3 a4 a5 a6) := ⟨rfl⟩
instance nk_Book_roll : Nk "roll" (fsBook a0 a1 a2 a3 a4 a5 a6) := ⟨rfl⟩
instance nk_Book_account : Nk "account" (fsBook a0 a1 a2 a3 a4 a5 a6) := ⟨rfl⟩
instance nk_Book_both_rolls : Nk "both_rolls" (fsBook a0 a1 a2 a3 a4 a5 a6) := ⟨rfl⟩
instance nk_Book_fullest : Nk "fullest" (fsBook a0 a1 a2 a3 a4 a5 a6) := ⟨rfl⟩
instance nk_Book_paper : Nk "paper" (fsBook a0 a1 a2 a3 a4 a5 a6) := ⟨rfl⟩
instance nk_Book_twin : Nk "twin" (fsBook a0 a1 a2 a3 a4 a5 a6) := ⟨rfl⟩
end
def fsMan (a0 a1 a2 a3 a4 a5 : V) : List (Str × V) := [("home", a0), ("grade", a1), ("dead", a2), ("keeper", a3), ("caught", a4), ("bonds", a5)]
section
variable {y a0 a1 a2 a3 a4 a5 : V}
instance lk_Man_home : Lk "home" (fsMan a0 a1 a2 a3 a4 a5) a0 := ⟨rfl⟩
instance pt_Man_home : Pt "home" y (fsMan a0 a1 a2 a3 a4 a5) (fsMan y a1 a2 a3 a4 a5) := ⟨rfl, by show 6 < 1000; decide⟩
instance pi_Man_home : Pt "home" y [] [("home", y)] := ⟨rfl, by show 0 < 1000; decide⟩
instance lk_Man_grade : Lk "grade" (fsMan a0 a1 a2 a3 a4 a5) a1 := ⟨rfl⟩
instance pt_Man_grade : Pt "grade" y (fsMan a0 a1 a2 a3 a4 a5) (fsMan a0 y a2 a3 a4 a5) := ⟨rfl, by show 6 < 1000; decide⟩
instance pi_Man_grade : Pt "grade" y [("home", a0)] [("home", a0), ("grade", y)] := ⟨rfl, by show 1 < 1000; decide⟩
instance li_Man_grade_home : Lk "home" [("home", a0)] a0 := ⟨rfl⟩
instance lk_Man_dead : Lk "dead" (fsMan a0 a1 a2 a3 a4 a5) a2 := ⟨rfl⟩
instance pt_Man_dead : Pt "dead" y (fsMan a0 a1 a2 a3 a4 a5) (fsMan a0 a1 y a3 a4 a5) := ⟨rfl, by show 6 < 1000; decide⟩
instance pi_Man_dead : Pt "dead" y [("home", a0), ("grade", a1)] [("home", a0), ("grade", a1), ("dead", y)] := ⟨rfl, by show 2 < 1000; decide⟩
instance li_Man_dead_home : Lk "home" [("home", a0), ("grade", a1)] a0 := ⟨rfl⟩
instance li_Man_dead_grade : Lk "grade" [("home", a0), ("grade", a1)] a1 := ⟨rfl⟩
instance lk_Man_keeper : Lk "keeper" (fsMan a0 a1 a2 a3 a4 a5) a3 := ⟨rfl⟩
instance pt_Man_keeper : Pt "keeper" y (fsMan a0 a1 a2 a3 a4 a5) (fsMan a0 a1 a2 y a4 a5) := ⟨rfl, by show 6 < 1000; decide⟩
instance pi_Man_keeper : Pt "keeper" y [("home", a0), ("grade", a1), ("dead", a2)] [("home", a0), ("grade", a1), ("dead", a2), ("keeper", y)] := ⟨rfl, by show 3 < 1000; decide⟩
instance li_Man_keeper_home : Lk "home" [("home", a0), ("grade", a1), ("dead", a2)] a0 := ⟨rfl⟩
instance li_Man_keeper_grade : Lk "grade" [("home", a0), ("grade", a1), ("dead", a2)] a1 := ⟨rfl⟩
instance li_Man_keeper_dead : Lk "dead" [("home", a0), ("grade", a1), ("dead", a2)] a2 := ⟨rfl⟩
instance lk_Man_caught : Lk "caught" (fsMan a0 a1 a2 a3 a4 a5) a4 := ⟨rfl⟩
instance pt_Man_caught : Pt "caught" y (fsMan a0 a1 a2 a3 a4 a5) (fsMan a0 a1 a2 a3 y a5) := ⟨rfl, by show 6 < 1000; decide⟩
instance pi_Man_caught : Pt "caught" y [("home", a0), ("grade", a1), ("dead", a2), ("keeper", a3)] [("home", a0), ("grade", a1), ("dead", a2), ("keeper", a3), ("caught", y)] := ⟨rfl, by show 4 < 1000; decide⟩
instance li_Man_caught_home : Lk "home" [("home", a0), ("grade", a1), ("dead", a2), ("keeper", a3)] a0 := ⟨rfl⟩
instance li_Man_caught_grade : Lk "grade" [("home", a0), ("grade", a1), ("dead", a2), ("keeper", a3)] a1 := ⟨rfl⟩
instance li_Man_caught_dead : Lk "dead" [("home", a0), ("grade", a1), ("dead", a2), ("keeper", a3)] a2 := ⟨rfl⟩
instance li_Man_caught_keeper : Lk "keeper" [("home", a0), ("grade", a1), ("dead", a2), ("keeper", a3)] a3 := ⟨rfl⟩
instance lk_Man_bonds : Lk "bonds" (fsMan a0 a1 a2 a3 a4 a5) a5 := ⟨rfl⟩
instance pt_Man_bonds : Pt "bonds" y (fsMan a0 a1 a2 a3 a4 a5) (fsMan a0 a1 a2 a3 a4 y) := ⟨rfl, by show 6 < 1000; decide⟩
instance pi_Man_bonds : Pt "bonds" y [("home", a0), ("grade", a1), ("dead", a2), ("keeper", a3), ("caught", a4)] (fsMan a0 a1 a2 a3 a4 y) := ⟨rfl, by show 5 < 1000; decide⟩
instance li_Man_bonds_home : Lk "home" [("home", a0), ("grade", a1), ("dead", a2), ("keeper", a3), ("caught", a4)] a0 := ⟨rfl⟩
instance li_Man_bonds_grade : Lk "grade" [("home", a0), ("grade", a1), ("dead", a2), ("keeper", a3), ("caught", a4)] a1 := ⟨rfl⟩
instance li_Man_bonds_dead : Lk "dead" [("home", a0), ("grade", a1), ("dead", a2), ("keeper", a3), ("caught", a4)] a2 := ⟨rfl⟩
instance li_Man_bonds_keeper : Lk "keeper" [("home", a0), ("grade", a1), ("dead", a2), ("keeper", a3), ("caught", a4)] a3 := ⟨rfl⟩
instance li_Man_bonds_caught : Lk "caught" [("home", a0), ("grade", a1), ("dead", a2), ("keeper", a3), ("caught", a4)] a4 := ⟨rfl⟩
instance nk_Man_on_roll : Nk "on_roll" (fsMan a0 a1 a2 a3 a4 a5) := ⟨rfl⟩
instance nk_Man_since : Nk "since" (fsMan a0 a1 a2 a3 a4 a5) := ⟨rfl⟩
instance nk_Man_goes_from : Nk "goes_from" (fsMan a0 a1 a2 a3 a4 a5) := ⟨rfl⟩
end
def fsScene (a0 a1 a2 : V) : List (Str × V) := [("crew", a0), ("pacts", a1), ("dues", a2)]
section
variable {y a0 a1 a2 : V}
instance lk_Scene_crew : Lk "crew" (fsScene a0 a1 a2) a0 := ⟨rfl⟩
instance pt_Scene_crew : Pt "crew" y (fsScene a0 a1 a2) (fsScene y a1 a2) := ⟨rfl, by show 3 < 1000; decide⟩
instance pi_Scene_crew : Pt "crew" y [] [("crew", y)] := ⟨rfl, by show 0 < 1000; decide⟩
instance lk_Scene_pacts : Lk "pacts" (fsScene a0 a1 a2) a1 := ⟨rfl⟩
instance pt_Scene_pacts : Pt "pacts" y (fsScene a0 a1 a2) (fsScene a0 y a2) := ⟨rfl, by show 3 < 1000; decide⟩
instance pi_Scene_pacts : Pt "pacts" y [("crew", a0)] [("crew", a0), ("pacts", y)] := ⟨rfl, by show 1 < 1000; decide⟩
instance li_Scene_pacts_crew : Lk "crew" [("crew", a0)] a0 := ⟨rfl⟩
instance lk_Scene_dues : Lk "dues" (fsScene a0 a1 a2) a2 := ⟨rfl⟩
instance pt_Scene_dues : Pt "dues" y (fsScene a0 a1 a2) (fsScene a0 a1 y) := ⟨rfl, by show 3 < 1000; decide⟩
instance pi_Scene_dues : Pt "dues" y [("crew", a0), ("pacts", a1)] (fsScene a0 a1 y) := ⟨rfl, by show 2 < 1000; decide⟩
instance li_Scene_dues_crew : Lk "crew" [("crew", a0), ("pacts", a1)] a0 := ⟨rfl⟩
instance li_Scene_dues_pacts : Lk "pacts" [("crew", a0), ("pacts", a1)] a1 := ⟨rfl⟩
instance nk_Scene_living : Nk "living" (fsScene a0 a1 a2) := ⟨rfl⟩
instance nk_Scene_kept : Nk "kept" (fsScene a0 a1 a2) := ⟨rfl⟩
instance nk_Scene_taken : Nk "taken" (fsScene a0 a1 a2) := ⟨rfl⟩
instance nk_Scene_sent : Nk "sent" (fsScene a0 a1 a2) := ⟨rfl⟩
instance nk_Scene_let_go : Nk "let_go" (fsScene a0 a1 a2) := ⟨rfl⟩
instance nk_Scene_graded : Nk "graded" (fsScene a0 a1 a2) := ⟨rfl⟩
instance nk_Scene_dies : Nk "dies" (fsScene a0 a1 a2) := ⟨rfl⟩
instance nk_Scene_gone_over : Nk "gone_over" (fsScene a0 a1 a2) := ⟨rfl⟩
instance nk_Scene_swapped : Nk "swapped" (fsScene a0 a1 a2) := ⟨rfl⟩
instance nk_Scene_befalls : Nk "befalls" (fsScene a0 a1 a2) := ⟨rfl⟩
end

/-! ### a book in parts -/
structure BSt where
  sides : KDs
  folk : KDs
  pacts : KDs
  told : KDs
  later : Int
structure Bk where
  st : BSt
  past : List BSt
  fut : List BSt
def snap (v : V) (t : BSt) : Res := fun h => ∃ q d1 d2 d3 d4 : Addr, (v = .ref q ∧ h q = some (.tup [.ref d1, .ref d2, .ref d3, .ref d4, .int t.later])) ∧ star [dct d1 t.sides, dct d2 t.folk, dct d3 t.pacts, dct d4 t.told] h
def snaps : List V → List BSt → List Res := List.zipWith snap
def snapsR (us : List V) (xs : List BSt) : Res := star (snaps us xs)
def lsts (p : Addr) (xs : List BSt) : Res := fun h => ∃ vs : List V, vs.length = xs.length ∧ star [cell p (.lst vs), snapsR vs xs] h
def book (C b : Addr) (B : Bk) : Res := fun h => ∃ dx ba fo pa to ps fu : Addr, star [cell b (.ins C dx (fsBook (.ref ba) (.ref fo) (.ref pa) (.ref to) (.int B.st.later) (.ref ps) (.ref fu))),
  dct ba B.st.sides, dct fo B.st.folk, dct pa B.st.pacts, dct to B.st.told, lsts ps B.past, lsts fu B.fut] h
section
variable {H : Hp} {Rs : List Res} {v : V} {t : BSt} {p b C : Addr} {xs : List BSt} {B : Bk}
theorem star_mono {Rs : List Res} : ∀ h h' : Hp, Ex h h' → star Rs h → star Rs h' := fun _ _ e s => Sat.mono s e
theorem _root_.G.Sat.snapE (S : Sat H (snap v t :: Rs)) : ∃ q d1 d2 d3 d4 : Addr, v = .ref q ∧ H q = some (.tup [.ref d1, .ref d2, .ref d3, .ref d4, .int t.later]) ∧ Sat H (dct d1 t.sides :: dct d2 t.folk :: dct d3 t.pacts :: dct d4 t.told :: Rs) := by
  obtain ⟨q, S⟩ := S.exE
  obtain ⟨d1, S⟩ := S.exE
  obtain ⟨d2, S⟩ := S.exE
  obtain ⟨d3, S⟩ := S.exE
  obtain ⟨d4, S⟩ := S.exE
  have f := S.fact (P := v = .ref q ∧ H q = some (.tup [.ref d1, .ref d2, .ref d3, .ref d4, .int t.later])) fun h e r => ⟨r.1.1, e _ _ r.1.2⟩
  exact ⟨q, d1, d2, d3, d4, f.1, f.2, (S.imp fun _ _ r => r.2).open_⟩
theorem _root_.G.Sat.snapI {q d1 d2 d3 d4 : Addr} (hq : H q = some (.tup [.ref d1, .ref d2, .ref d3, .ref d4, .int t.later])) (S : Sat H (dct d1 t.sides :: dct d2 t.folk :: dct d3 t.pacts :: dct d4 t.told :: Rs)) : Sat H (snap (.ref q) t :: Rs) :=
  (Sat.close (As := [dct d1 t.sides, dct d2 t.folk, dct d3 t.pacts, dct d4 t.told]) S).impP star_mono fun h e pk r => ⟨q, d1, d2, d3, d4, ⟨rfl, pk.tup hq⟩, r⟩
theorem _root_.G.Sat.lstsE (S : Sat H (lsts p xs :: Rs)) : ∃ vs : List V, vs.length = xs.length ∧ Sat H (cell p (.lst vs) :: snapsR vs xs :: Rs) := by
  obtain ⟨vs, S⟩ := S.exE
  have f := S.fact (P := vs.length = xs.length) fun h e r => r.1
  exact ⟨vs, f, (S.imp fun _ _ r => r.2).open_⟩
theorem _root_.G.Sat.lstsI {vs : List V} (hl : vs.length = xs.length) (S : Sat H (cell p (.lst vs) :: snapsR vs xs :: Rs)) : Sat H (lsts p xs :: Rs) :=
  (Sat.close (As := [_, _]) S).imp fun h e r => ⟨vs, hl, r⟩
theorem snaps_app {v : V} {t : BSt} : ∀ {vs : List V} {xs : List BSt}, vs.length = xs.length → snaps (vs ++ [v]) (xs ++ [t]) = snaps vs xs ++ [snap v t]
  | [], [], _ => rfl
  | _ :: vs, _ :: xs, h => congrArg (_ :: ·) (snaps_app (vs := vs) (xs := xs) (by simpa using h))
  | [], _ :: _, h => by simp at h
  | _ :: _, [], h => by simp at h
theorem _root_.G.Sat.push {v : V} {vs : List V} (hl : vs.length = xs.length) (S : Sat H (snapsR vs xs :: snap v t :: Rs)) : Sat H (snapsR (vs ++ [v]) (xs ++ [t]) :: Rs) := by
  unfold snapsR
  refine Sat.close ?_
  rw [snaps_app hl, List.append_assoc]
  exact S.open_
theorem _root_.G.Sat.pop {vs : List V} (hl : vs.length = (xs ++ [t]).length) (S : Sat H (snapsR vs (xs ++ [t]) :: Rs)) : ∃ (ws : List V) (v : V), vs = ws ++ [v] ∧ ws.length = xs.length ∧ Sat H (snapsR ws xs :: snap v t :: Rs) := by
  rw [List.length_append, List.length_singleton] at hl
  obtain ⟨ws, v, rfl⟩ := SrtO.snoc_of (l := vs) (by omega)
  have hw : ws.length = xs.length := by rw [List.length_append, List.length_singleton] at hl; omega
  unfold snapsR at S
  rw [snaps_app hw] at S
  refine ⟨ws, v, rfl, hw, Sat.close ?_⟩
  have S2 := S.open_
  rw [List.append_assoc] at S2
  exact S2
theorem _root_.G.Sat.noSnaps (S : Sat H Rs) : Sat H (snapsR [] [] :: Rs) := Sat.close (As := []) S
theorem _root_.G.Sat.bookE (S : Sat H (book C b B :: Rs)) : ∃ dx ba fo pa to ps fu : Addr, Sat H (cell b (.ins C dx (fsBook (.ref ba) (.ref fo) (.ref pa) (.ref to) (.int B.st.later) (.ref ps) (.ref fu))) ::
  dct ba B.st.sides :: dct fo B.st.folk :: dct pa B.st.pacts :: dct to B.st.told :: lsts ps B.past :: lsts fu B.fut :: Rs) := by
  obtain ⟨dx, S⟩ := S.exE
  obtain ⟨ba, S⟩ := S.exE
  obtain ⟨fo, S⟩ := S.exE
  obtain ⟨pa, S⟩ := S.exE
  obtain ⟨to, S⟩ := S.exE
  obtain ⟨ps, S⟩ := S.exE
  obtain ⟨fu, S⟩ := S.exE
  exact ⟨dx, ba, fo, pa, to, ps, fu, S.open_⟩
theorem _root_.G.Sat.bookI {dx ba fo pa to ps fu : Addr} {t : BSt} {past fut : List BSt} (S : Sat H (cell b (.ins C dx (fsBook (.ref ba) (.ref fo) (.ref pa) (.ref to) (.int t.later) (.ref ps) (.ref fu))) ::
  dct ba t.sides :: dct fo t.folk :: dct pa t.pacts :: dct to t.told :: lsts ps past :: lsts fu fut :: Rs)) : Sat H (book C b ⟨t, past, fut⟩ :: Rs) :=
  (Sat.close (As := [_, _, _, _, _, _, _]) S).imp fun h e r => ⟨dx, ba, fo, pa, to, ps, fu, r⟩
instance hasIns_book {C a : Addr} {m : Str} {B : Bk} {T : List Res} {F : Res → List Res} [S : Sat H Rs] [f : Foc (book C) a B Rs T F] [n : ∀ a0 a1 a2 a3 a4 a5 a6, Nk m (fsBook a0 a1 a2 a3 a4 a5 a6)] : HasIns C m a H := by
  obtain ⟨dx, ba, fo, pa, to, ps, fu, S⟩ := (f.out S).bookE
  exact ⟨dx, _, S.get, (n _ _ _ _ _ _ _).h⟩
theorem bookC {C b dx ba fo pa to ps fu : Addr} {l : Int} {k1 k2 k3 k4 : KDs} {past fut : List BSt} {T1 T2 T3 T4 T5 T6 T7 : List Res} {F1 F2 F3 F4 F5 F6 F7 : Res → List Res} [S : Sat H Rs]
    [f1 : Foc cell b (.ins C dx (fsBook (.ref ba) (.ref fo) (.ref pa) (.ref to) (.int l) (.ref ps) (.ref fu))) Rs T1 F1] [f2 : Foc dct ba k1 T1 T2 F2] [f3 : Foc dct fo k2 T2 T3 F3] [f4 : Foc dct pa k3 T3 T4 F4] [f5 : Foc dct to k4 T4 T5 F5] [f6 : Foc lsts ps past T5 T6 F6] [f7 : Foc lsts fu fut T6 T7 F7] :
    Sat H (book C b ⟨⟨k1, k2, k3, k4, l⟩, past, fut⟩ :: T7) := by
  exact G.Sat.bookI (t := ⟨k1, k2, k3, k4, l⟩) (S.perm ((foc_perm f1).trans (.cons _ ((foc_perm f2).trans (.cons _ ((foc_perm f3).trans (.cons _ ((foc_perm f4).trans (.cons _ ((foc_perm f5).trans (.cons _ ((foc_perm f6).trans (.cons _ (foc_perm f7))))))))))))))
section
variable {T1 T2 T3 : List Res} {F1 F2 F3 : Res → List Res} {us : List V}
theorem lstsPush [S : Sat H Rs] [f1 : Foc cell p (.lst (us ++ [v])) Rs T1 F1] [f2 : Foc snapsR us xs T1 T2 F2] [f3 : Foc snap v t T2 T3 F3] (hl : us.length = xs.length) : Sat H (lsts p (xs ++ [t]) :: T3) := by
  have S2 : Sat H (snapsR us xs :: snap v t :: cell p (.lst (us ++ [v])) :: T3) :=
    S.perm ((foc_perm f1).trans ((List.Perm.cons _ ((foc_perm f2).trans (.cons _ (foc_perm f3)))).trans (((List.Perm.swap _ _ _)).trans (.cons _ (.swap _ _ _)))))
  have S3 := S2.push hl
  exact G.Sat.lstsI (by rw [List.length_append, List.length_append, hl]; rfl) S3.swap
theorem lstsNil [S : Sat H Rs] [f1 : Foc cell p (.lst []) Rs T1 F1] : Sat H (lsts p [] :: T1) := by
  have S2 := (f1.out S).noSnaps
  exact G.Sat.lstsI rfl S2.swap
theorem lstsPop [S : Sat H Rs] [f1 : Foc cell p (.lst us) Rs T1 F1] [f2 : Foc snapsR us (xs ++ [t]) T1 T2 F2] (hl : us.length = (xs ++ [t]).length) : ∃ (ws : List V) (v : V), us = ws ++ [v] ∧ ws.length = xs.length ∧ Sat H (cell p (.lst us) :: snapsR ws xs :: snap v t :: T2) := by
  have S2 : Sat H (snapsR us (xs ++ [t]) :: cell p (.lst us) :: T2) := S.perm ((foc_perm f1).trans ((List.Perm.cons _ (foc_perm f2)).trans (.swap _ _ _)))
  obtain ⟨ws, v, e, hw, S3⟩ := S2.pop hl
  exact ⟨ws, v, e, hw, S3.perm (((List.Perm.swap _ _ _).cons _).trans (.swap _ _ _))⟩
theorem lstsBack [S : Sat H Rs] [f1 : Foc cell p (.lst us) Rs T1 F1] [f2 : Foc snapsR us xs T1 T2 F2] (hl : us.length = xs.length) : Sat H (lsts p xs :: T2) :=
  G.Sat.lstsI hl (S.perm ((foc_perm f1).trans (.cons _ (foc_perm f2))))
theorem lstsO [S : Sat H Rs] [f1 : Foc lsts p xs Rs T1 F1] : ∃ us : List V, us.length = xs.length ∧ Sat H (cell p (.lst us) :: snapsR us xs :: T1) := (f1.out S).lstsE
end
end

/-! ### the book's own steps -/
abbrev s_Book_state : Stmt := inClass (top 54) 1
abbrev N_Book_state : List Str := ["self"]
theorem sc_Book_state : FnScope N_Book_state ["self"] (defScope s_Book_state) := ⟨rfl, rfl, rfl, by decide +kernel, rfl, by decide +kernel, by decide +kernel⟩
abbrev s_Book_keep : Stmt := inClass (top 54) 3
abbrev N_Book_keep : List Str := ["self"]
theorem sc_Book_keep : FnScope N_Book_keep ["self"] (defScope s_Book_keep) := ⟨rfl, rfl, rfl, by decide +kernel, rfl, by decide +kernel, by decide +kernel⟩
abbrev s_Book___init__ : Stmt := inClass (top 54) 0
abbrev N_Book___init__ : List Str := ["self"]
theorem sc_Book___init__ : FnScope N_Book___init__ ["self"] (defScope s_Book___init__) := ⟨rfl, rfl, rfl, by decide +kernel, rfl, by decide +kernel, by decide +kernel⟩
abbrev s_Book_need_side : Stmt := inClass (top 54) 5
abbrev N_Book_need_side : List Str := ["self", "name"]
theorem sc_Book_need_side : FnScope N_Book_need_side ["self", "name"] (defScope s_Book_need_side) := ⟨rfl, rfl, rfl, by decide +kernel, rfl, by decide +kernel, by decide +kernel⟩
abbrev s_Book_side : Stmt := inClass (top 54) 9
abbrev N_Book_side : List Str := ["self", "name"]
theorem sc_Book_side : FnScope N_Book_side ["self", "name"] (defScope s_Book_side) := ⟨rfl, rfl, rfl, by decide +kernel, rfl, by decide +kernel, by decide +kernel⟩
abbrev s_Book_man : Stmt := inClass (top 54) 10
abbrev N_Book_man : List Str := ["self", "name", "side", "rank"]
theorem sc_Book_man : FnScope N_Book_man ["self", "name", "side", "rank"] (defScope s_Book_man) := ⟨rfl, rfl, rfl, by decide +kernel, rfl, by decide +kernel, by decide +kernel⟩

abbrev CB (K : PySem.W.Frag) : Addr := He.ga K "Book"
def spState (K : PySem.W.Frag) : Sp := fun vs H Q _ => ∃ (b dx ba fo pa to : Addr) (ps fu : V) (t : BSt) (Rs : List Res), vs = [.ref b] ∧
  Sat H (cell b (.ins (CB K) dx (fsBook (.ref ba) (.ref fo) (.ref pa) (.ref to) (.int t.later) ps fu)) :: dct ba t.sides :: dct fo t.folk :: dct pa t.pacts :: dct to t.told :: Rs) ∧
  ∀ v H', PK H H' → Sat H' (snap v t :: cell b (.ins (CB K) dx (fsBook (.ref ba) (.ref fo) (.ref pa) (.ref to) (.int t.later) ps fu)) :: dct ba t.sides :: dct fo t.folk :: dct pa t.pacts :: dct to t.told :: Rs) → Q v H'
def spKeep (K : PySem.W.Frag) : Sp := fun vs H Q _ => ∃ (b : Addr) (B : Bk) (Rs : List Res), vs = [.ref b] ∧ Sat H (book (CB K) b B :: Rs) ∧ B.past.length < sizeLine ∧
  ∀ H', PK H H' → Sat H' (book (CB K) b ⟨B.st, B.past ++ [B.st], []⟩ :: Rs) → Q .non H'
abbrev B0 : Bk := ⟨⟨[], [], [], [], 1⟩, [], []⟩
def spBookInit (K : PySem.W.Frag) : Sp := fun vs H Q _ => ∃ (b dx : Addr) (Rs : List Res), vs = [.ref b] ∧ Sat H (cell b (.ins (CB K) dx []) :: Rs) ∧ ∀ H', PK H H' → Sat H' (book (CB K) b B0 :: Rs) → Q .non H'
def sideOut (t : BSt) (n : Str) : Str := if isN n = true then (if hasD t.sides (.inr n) = true then "Taken" else if 6 ≤ t.sides.length then "Full" else "") else "BadName"
def manOut (t : BSt) (n sd : Str) (r : Int) : Str := if isN n = true then (if hasD t.folk (.inr n) = true then "Taken" else if hasD t.sides (.inr sd) = true then (if 0 ≤ r ∧ r < 6 then (if 40 ≤ t.folk.length then "Full" else "") else "BadRank") else "NoSide") else "BadName"
def spNeedSideX (K : PySem.W.Frag) : Sp := fun vs H Q E => ∃ (b : Addr) (n : Str) (B : Bk) (Rs : List Res), vs = [.ref b, .str n] ∧ Sat H (book (CB K) b B :: Rs) ∧ (hasD B.st.sides (.inr n) = true → Q .non H) ∧ (hasD B.st.sides (.inr n) = false → E (.ref (He.ga K "NoSide")) none H)
def spSideX (K : PySem.W.Frag) : Sp := fun vs H Q E => ∃ (b : Addr) (n : Str) (B : Bk) (Rs : List Res), vs = [.ref b, .str n] ∧ Sat H (book (CB K) b B :: Rs) ∧ n.length ≤ 1000 ∧ B.st.sides.length < 1000 ∧ B.past.length < sizeLine ∧
  (sideOut B.st n ≠ "" → ∀ H', PK H H' → Sat H' (book (CB K) b B :: Rs) → E (.ref (He.ga K (sideOut B.st n))) none H') ∧
  (sideOut B.st n = "" → ∀ H', PK H H' → Sat H' (book (CB K) b ⟨{ B.st with sides := putD B.st.sides (.inr n) (.bool true) }, B.past ++ [B.st], []⟩ :: Rs) → Q .non H')
def spManX (K : PySem.W.Frag) : Sp := fun vs H Q E => ∃ (b : Addr) (n sd : Str) (r : Int) (B : Bk) (Rs : List Res), vs = [.ref b, .str n, .str sd, .int r] ∧ Sat H (book (CB K) b B :: Rs) ∧ n.length ≤ 1000 ∧ B.st.folk.length < 1000 ∧ B.past.length < sizeLine ∧
  (manOut B.st n sd r ≠ "" → ∀ H', PK H H' → Sat H' (book (CB K) b B :: Rs) → E (.ref (He.ga K (manOut B.st n sd r))) none H') ∧
  (manOut B.st n sd r = "" → ∀ H', PK H H' → Sat H' (book (CB K) b ⟨{ B.st with folk := putD B.st.folk (.inr n) (.tuple [.str sd, .int r]) }, B.past ++ [B.st], []⟩ :: Rs) → Q .non H')
section
variable {P : Program} {w : World} {K : PySem.W.Frag} {mg : Str → Option Value} {base : Heap}
theorem D_Book_state (T : Txt K mg) (F : Mf K "Book" "state" "Book.state" s_Book_state) : DnM P w K mg base CX0 1 (He.ma K (He.ga K "Book") "state") ["self"] (spState K) := by
  refine F.dm sc_Book_state (fun _ _ _ _ _ _ us hl => match us, hl with | [_], _ => rfl) (fun vs H Q E h => ?_) (fun f cdv A outer s H vs Q E hr hK h => ?_)
  · obtain ⟨b, dx, ba, fo, pa, to, ps, fu, t, Rs, rfl, _⟩ := h
    rfl
  · obtain ⟨b, dx, ba, fo, pa, to, ps, fu, t, Rs, rfl, S, k⟩ := h
    refine ⟨_, (pss_one (ps_ret (pe_tup (pa_cons (pe_callTy g_dictD rfl T.m_dict boot_dict (pa_cons (pe_fldC T.cl_Book T.n_Book_banners (pv 0) rfl) pa_nil)) (pa_cons (pe_callTy g_dictD rfl T.m_dict boot_dict (pa_cons (pe_fldC T.cl_Book T.n_Book_folk (pv 0) rfl) pa_nil)) (pa_cons (pe_callTy g_dictD rfl T.m_dict boot_dict (pa_cons (pe_fldC T.cl_Book T.n_Book_pacts (pv 0) rfl) pa_nil)) (pa_cons (pe_callTy g_dictD rfl T.m_dict boot_dict (pa_cons (pe_fldC T.cl_Book T.n_Book_told (pv 0) rfl) pa_nil)) (pa_cons (pe_fldC T.cl_Book T.n_Book_later (pv 0) rfl) pa_nil)))))))), ?_⟩
    try rw [hK]
    rw [show L2.start N_Book_state [.ref b] = [some (.ref b)] from rfl]
    walk_at "sx"
    refine k _ _ (by walk_at "pk") (G.Sat.snapI (by walk_at "pt") pick)
theorem D_Book_keep (T : Txt K mg) (D_Book_state : DnM P w K mg base CX0 1 (He.ma K (He.ga K "Book") "state") ["self"] (spState K)) (F : Mf K "Book" "keep" "Book.keep" s_Book_keep) : DnM P w K mg base CX0 2 (He.ma K (He.ga K "Book") "keep") ["self"] (spKeep K) := by
  refine F.dm sc_Book_keep (fun _ _ _ _ _ _ us hl => match us, hl with | [_], _ => rfl) (fun vs H Q E h => ?_) (fun f cdv A outer s H vs Q E hr hK h => ?_)
  · obtain ⟨b, B, Rs, rfl, _⟩ := h
    rfl
  · obtain ⟨b, B, Rs, rfl, S, hz, k⟩ := h
    obtain ⟨dx, ba, fo, pa, to, ps, fu, S⟩ := S.bookE
    obtain ⟨us, hl, S1⟩ := lstsO (H := H) (p := ps)
    replace S : Sat H (cell b (.ins (CB K) dx (fsBook (.ref ba) (.ref fo) (.ref pa) (.ref to) (.int B.st.later) (.ref ps) (.ref fu))) :: dct ba B.st.sides :: dct fo B.st.folk :: dct pa B.st.pacts :: dct to B.st.told :: cell ps (.lst us) :: snapsR us B.past :: Rs) := S1.pick
    clear S1
    refine ⟨_, (pss_cons (ps_expr (pe_bm PySem.F.plainAttrs_list PySem.F.slot_list_append PySem.F.type_list_append mt_append (pe_fldC T.cl_Book T.n_Book_past (pv 0) rfl) (pa_cons (pe_mt0 (pv 0) T.cl_Book T.me_Book_state D_Book_state (hr.mono (by first | decide | omega)) pass0) pa_nil)))
      (pss_one (ps_fldC T.cl_Book T.n_Book_future (pv 0) (pe_lst pa_nil) rfl))), ?_⟩
    try rw [hK]
    rw [show L2.start N_Book_keep [.ref b] = [some (.ref b)] from rfl]
    walk_at "sx"
    refine ⟨b, dx, ba, fo, pa, to, _, _, B.st, _, rfl, S, fun v H1 pk1 S1 => ?_⟩
    clear S
    walk_at "sx"
    refine x_appendS (by rw [hl]; exact hz) fun H2 pk2 S2 => ?_
    walk_at "sx"
    rename_i p H3 pk3 S3 H4 pk4 S4
    have S5 := lstsNil (H := H4) (p := p)
    have S6 := lstsPush (H := H4) (p := ps) (t := B.st) hl
    exact k _ (by walk_at "pk") (bookC (C := CB K) (b := b)).pick
theorem D_Book_init (T : Txt K mg) (F : Mf K "Book" "__init__" "Book.__init__" s_Book___init__) : DnM P w K mg base CX0 1 (He.ma K (He.ga K "Book") "__init__") ["self"] (spBookInit K) := by
  refine F.dm sc_Book___init__ (fun _ _ _ _ _ _ us hl => match us, hl with | [_], _ => rfl) (fun vs H Q E h => ?_) (fun f cdv A outer s H vs Q E hr hK h => ?_)
  · obtain ⟨b, dx, Rs, rfl, _⟩ := h
    rfl
  · obtain ⟨b, dx, Rs, rfl, S, k⟩ := h
    refine ⟨_, (pss_cons (ps_fldC T.cl_Book T.n_Book_banners (pv 0) (pe_dnewK) rfl)
      (pss_cons (ps_fldC T.cl_Book T.n_Book_folk (pv 0) (pe_dnewK) rfl)
      (pss_cons (ps_fldC T.cl_Book T.n_Book_pacts (pv 0) (pe_dnewK) rfl)
      (pss_cons (ps_fldC T.cl_Book T.n_Book_told (pv 0) (pe_dnewK) rfl)
      (pss_cons (ps_fldC T.cl_Book T.n_Book_later (pv 0) pe_int rfl)
      (pss_cons (ps_fldC T.cl_Book T.n_Book_past (pv 0) (pe_lst pa_nil) rfl)
      (pss_one (ps_fldC T.cl_Book T.n_Book_future (pv 0) (pe_lst pa_nil) rfl)))))))), ?_⟩
    try rw [hK]
    rw [show L2.start N_Book___init__ [.ref b] = [some (.ref b)] from rfl]
    walk_at "sx"
    rename_i p1 H1 pk1 S1 H2 pk2 S2 p2 H3 pk3 S3 H4 pk4 S4
    have S5 := lstsNil (H := H4) (p := p1)
    have S6 := lstsNil (H := H4) (p := p2)
    exact k _ (by walk_at "pk") (bookC (C := CB K) (b := b)).pick
theorem D_Book_need_side (T : Txt K mg) (F : Mf K "Book" "need_side" "Book.need_side" s_Book_need_side) : DnM P w K mg base (L2.CX P w) 1 (He.ma K (He.ga K "Book") "need_side") ["self", "name"] (spNeedSideX K) := by
  refine F.dmX sc_Book_need_side (fun _ _ _ _ _ _ us hl => match us, hl with | [_, _], _ => rfl) (fun vs H Q E h => ?_) (fun f cdv A outer s H vs Q E hr hK h => ?_)
  · obtain ⟨b, n, B, Rs, rfl, _⟩ := h
    rfl
  · obtain ⟨b, n, B, Rs, rfl, S, yes, no⟩ := h
    refine ⟨_, (pss_one (ps_if (pt_cmp (pc_dnotin (hu_of hr) (pv 1) (pe_fldC T.cl_Book T.n_Book_banners (pv 0) rfl))) (pss_one (ps_raise rfl (takes_of rfl rfl rfl rfl) (pmk_own PySem.F.excBase_ValueError T.x_NoSide.xi T.x_NoSide.g T.x_NoSide.k (raises_own T.x_NoSide.b T.x_NoSide.t) rfl))) pss_nil)), ?_⟩
    try rw [hK]
    rw [show L2.start N_Book_need_side [.ref b, .str n] = [some (.ref b), some (.str n)] from rfl]
    obtain ⟨dx, ba, fo, pa, to, ps, fu, S1⟩ := S.bookE
    walk_at "sx"
    cases c : hasD B.st.sides (.inr n) with
    | true =>
      refine x_ifF ?_
      walk_at "sx"
      exact yes c
    | false =>
      refine x_ifT ?_
      exact no c
theorem D_Book_side (T : Txt K mg) (D_is_name : Dn P w K mg base CX0 2 "is_name" ["word"] spIsName) (D_Book_keep : DnM P w K mg base CX0 2 (He.ma K (He.ga K "Book") "keep") ["self"] (spKeep K)) (F : Mf K "Book" "side" "Book.side" s_Book_side) : DnM P w K mg base (L2.CX P w) 3 (He.ma K (He.ga K "Book") "side") ["self", "name"] (spSideX K) := by
  refine F.dmX sc_Book_side (fun _ _ _ _ _ _ us hl => match us, hl with | [_, _], _ => rfl) (fun vs H Q E h => ?_) (fun f cdv A outer s H vs Q E hr hK h => ?_)
  · obtain ⟨b, n, B, Rs, rfl, _⟩ := h
    rfl
  · obtain ⟨b, n, B, Rs, rfl, S, hn, h2, hz, no, yes⟩ := h
    refine ⟨_, (pss_cons (ps_if (pt_not (pt_val (pe_dn D_is_name (hr.mono (by first | decide | omega)) pass0 (pa_cons (pv 1) pa_nil)))) (pss_one (ps_raise rfl (takes_of rfl rfl rfl rfl) (pmk_own PySem.F.excBase_ValueError T.x_BadName.xi T.x_BadName.g T.x_BadName.k (raises_own T.x_BadName.b T.x_BadName.t) rfl))) pss_nil)
      (pss_cons (ps_if (pt_cmp (pc_din (hu_of hr) (pv 1) (pe_fldC T.cl_Book T.n_Book_banners (pv 0) rfl))) (pss_one (ps_raise rfl (takes_of rfl rfl rfl rfl) (pmk_own PySem.F.excBase_ValueError T.x_Taken.xi T.x_Taken.g T.x_Taken.k (raises_own T.x_Taken.b T.x_Taken.t) rfl))) pss_nil)
      (pss_cons (ps_if (pt_cmpR op_ge (pe_callB g_lenD rfl T.m_len boot_len (pa_cons (pe_fldC T.cl_Book T.n_Book_banners (pv 0) rfl) pa_nil)) (pe_cst T.c_MOST_SIDES) (nomark _)) (pss_one (ps_raise rfl (takes_of rfl rfl rfl rfl) (pmk_own PySem.F.excBase_ValueError T.x_Full.xi T.x_Full.g T.x_Full.k (raises_own T.x_Full.b T.x_Full.t) rfl))) pss_nil)
      (pss_cons (ps_expr (pe_mt0 (pv 0) T.cl_Book T.me_Book_keep D_Book_keep (hr.mono (by first | decide | omega)) pass0))
      (pss_one (ps_dput (hu_of hr) (pe_fldC T.cl_Book T.n_Book_banners (pv 0) rfl) (pv 1) pe_bl rfl)))))), ?_⟩
    try rw [hK]
    rw [show L2.start N_Book_side [.ref b, .str n] = [some (.ref b), some (.str n)] from rfl]
    walk_at "sx"
    refine ⟨n, rfl, hn, fun H1 e1 => ?_⟩
    have S1 := S.mono e1
    have pk1 := PK.of_ex e1
    have bad : ∀ z : Str, sideOut B.st n = z → z ≠ "" → E (.ref (He.ga K z)) none H1 := fun z e hz => by
      rw [← e]
      rw [← e] at hz
      exact no hz _ pk1 S1
    clear S no
    unfold sideOut at bad yes
    obtain ⟨dx, ba, fo, pa, to, ps, fu, S2⟩ := S1.bookE
    cases c0 : isN n with
    | false =>
      rw [c0, if_neg Bool.false_ne_true] at bad
      walk_at "sx"
      exact bad _ rfl (by decide)
    | true =>
      rw [c0, if_pos rfl] at bad yes
      walk_at "sx"
      cases c1 : hasD B.st.sides (.inr n) with
      | true =>
        rw [c1, if_pos rfl] at bad
        refine x_ifT ?_
        exact bad _ rfl (by decide)
      | false =>
        rw [c1, if_neg Bool.false_ne_true] at bad yes
        refine x_ifF ?_
        walk_at "sx"
        refine x_ifD (fun c2 => ?_) (fun c2 => ?_)
        · rw [if_pos (by omega)] at bad
          exact bad _ rfl (by decide)
        · rw [if_neg (by omega)] at yes
          have yes := yes rfl
          walk_at "sx"
          refine ⟨b, B, Rs, rfl, S1, hz, fun H3 pk3 S3 => ?_⟩
          obtain ⟨dx, ba, fo, pa, to, ps, fu, S4⟩ := S3.bookE
          walk_at "sx"
          refine x_dp (d := .bool true) (by rw [sizeLine_eq]; show B.st.sides.length < _; omega) (by walk_at "tp") fun H5 pk5 S5 => ?_
          walk_at "sx"
          exact yes _ (by walk_at "pk") (bookC (C := CB K) (b := b)).pick
theorem D_Book_man (T : Txt K mg) (D_is_name : Dn P w K mg base CX0 2 "is_name" ["word"] spIsName) (D_Book_keep : DnM P w K mg base CX0 2 (He.ma K (He.ga K "Book") "keep") ["self"] (spKeep K)) (D_Book_need_side : DnM P w K mg base (L2.CX P w) 1 (He.ma K (He.ga K "Book") "need_side") ["self", "name"] (spNeedSideX K)) (F : Mf K "Book" "man" "Book.man" s_Book_man) : DnM P w K mg base (L2.CX P w) 3 (He.ma K (He.ga K "Book") "man") ["self", "name", "side", "rank"] (spManX K) := by
  refine F.dmX sc_Book_man (fun _ _ _ _ _ _ us hl => match us, hl with | [_, _, _, _], _ => rfl) (fun vs H Q E h => ?_) (fun f cdv A outer s H vs Q E hr hK h => ?_)
  · obtain ⟨b, n, sd, r, B, Rs, rfl, _⟩ := h
    rfl
  · obtain ⟨b, n, sd, r, B, Rs, rfl, S, hn, h2, hz, no, yes⟩ := h
    refine ⟨_, (pss_cons (ps_if (pt_not (pt_val (pe_dn D_is_name (hr.mono (by first | decide | omega)) pass0 (pa_cons (pv 1) pa_nil)))) (pss_one (ps_raise rfl (takes_of rfl rfl rfl rfl) (pmk_own PySem.F.excBase_ValueError T.x_BadName.xi T.x_BadName.g T.x_BadName.k (raises_own T.x_BadName.b T.x_BadName.t) rfl))) pss_nil)
      (pss_cons (ps_if (pt_cmp (pc_din (hu_of hr) (pv 1) (pe_fldC T.cl_Book T.n_Book_folk (pv 0) rfl))) (pss_one (ps_raise rfl (takes_of rfl rfl rfl rfl) (pmk_own PySem.F.excBase_ValueError T.x_Taken.xi T.x_Taken.g T.x_Taken.k (raises_own T.x_Taken.b T.x_Taken.t) rfl))) pss_nil)
      (pss_cons (ps_expr (pe_mt (pv 0) T.cl_Book T.me_Book_need_side D_Book_need_side (hr.mono (by first | decide | omega)) passX (pa_cons (pv 2) pa_nil)))
      (pss_cons (ps_if (pt_not (pt_chain op_le op_lt pe_int (pv 3) (pe_cst T.c_MOST_RANKS))) (pss_one (ps_raise rfl (takes_of rfl rfl rfl rfl) (pmk_own PySem.F.excBase_ValueError T.x_BadRank.xi T.x_BadRank.g T.x_BadRank.k (raises_own T.x_BadRank.b T.x_BadRank.t) rfl))) pss_nil)
      (pss_cons (ps_if (pt_cmpR op_ge (pe_callB g_lenD rfl T.m_len boot_len (pa_cons (pe_fldC T.cl_Book T.n_Book_folk (pv 0) rfl) pa_nil)) (pe_cst T.c_MOST_MEN) (nomark _)) (pss_one (ps_raise rfl (takes_of rfl rfl rfl rfl) (pmk_own PySem.F.excBase_ValueError T.x_Full.xi T.x_Full.g T.x_Full.k (raises_own T.x_Full.b T.x_Full.t) rfl))) pss_nil)
      (pss_cons (ps_expr (pe_mt0 (pv 0) T.cl_Book T.me_Book_keep D_Book_keep (hr.mono (by first | decide | omega)) pass0))
      (pss_one (ps_dput (hu_of hr) (pe_fldC T.cl_Book T.n_Book_folk (pv 0) rfl) (pv 1) (pe_tup (pa_cons (pv 2) (pa_cons (pv 3) pa_nil))) rfl)))))))), ?_⟩
    try rw [hK]
    rw [show L2.start N_Book_man [.ref b, .str n, .str sd, .int r] = [some (.ref b), some (.str n), some (.str sd), some (.int r)] from rfl]
    walk_at "sx"
    refine ⟨n, rfl, hn, fun H1 e1 => ?_⟩
    have S1 := S.mono e1
    have pk1 := PK.of_ex e1
    have bad : ∀ z : Str, manOut B.st n sd r = z → z ≠ "" → E (.ref (He.ga K z)) none H1 := fun z e hz => by
      rw [← e]
      rw [← e] at hz
      exact no hz _ pk1 S1
    clear S no
    unfold manOut at bad yes
    obtain ⟨dx, ba, fo, pa, to, ps, fu, S2⟩ := S1.bookE
    cases c0 : isN n with
    | false =>
      rw [c0, if_neg Bool.false_ne_true] at bad
      walk_at "sx"
      exact bad _ rfl (by decide)
    | true =>
      rw [c0, if_pos rfl] at bad yes
      walk_at "sx"
      cases c1 : hasD B.st.folk (.inr n) with
      | true =>
        rw [c1, if_pos rfl] at bad
        refine x_ifT ?_
        exact bad _ rfl (by decide)
      | false =>
        rw [c1, if_neg Bool.false_ne_true] at bad yes
        refine x_ifF ?_
        walk_at "sx"
        refine ⟨b, sd, B, Rs, rfl, S1, fun c2 => ?_, fun c2 => ?_⟩
        · rw [if_pos c2] at bad yes
          walk_at "sx"
          refine x_chD (fun r0 => ?_) (fun r0 => ?_)
          · walk_at "sx"
            refine x_ifN (fun r1 => ?_) (fun r1 => ?_)
            · rw [if_pos ⟨r0, r1⟩] at bad yes
              walk_at "sx"
              refine x_ifD (fun c3 => ?_) (fun c3 => ?_)
              · rw [if_pos (by omega)] at bad
                exact bad _ rfl (by decide)
              · rw [if_neg (by omega)] at yes
                have yes := yes rfl
                walk_at "sx"
                refine ⟨b, B, Rs, rfl, S1, hz, fun H3 pk3 S3 => ?_⟩
                obtain ⟨dx, ba, fo, pa, to, ps, fu, S4⟩ := S3.bookE
                walk_at "sx"
                rename_i q H4 pk4 S5 hq
                refine x_dp (d := .tuple [.str sd, .int r]) (by rw [sizeLine_eq]; show B.st.folk.length < _; omega) (by walk_at "tp") fun H5 pk5 S6 => ?_
                clear S4 S5
                walk_at "sx"
                exact yes _ (by walk_at "pk") (bookC (C := CB K) (b := b)).pick
            · rw [if_neg (fun z => r1 z.2)] at bad
              exact bad _ rfl (by decide)
          · rw [if_neg (fun z => r0 z.1)] at bad
            walk_at "sx"
            exact bad _ rfl (by decide)
        · rw [if_neg (by rw [c2]; exact Bool.false_ne_true)] at bad
          exact bad _ rfl (by decide)
end

/-! ### sides and men told -/
abbrev s_Book_sides : Stmt := inClass (top 54) 26
abbrev N_Book_sides : List Str := ["self"]
theorem sc_Book_sides : FnScope N_Book_sides ["self"] (defScope s_Book_sides) := ⟨rfl, rfl, rfl, by decide +kernel, rfl, by decide +kernel, by decide +kernel⟩
abbrev s_Book_men : Stmt := inClass (top 54) 27
abbrev N_Book_men : List Str := ["self", "name"]
theorem sc_Book_men : FnScope N_Book_men ["self"] (defScope s_Book_men) := ⟨rfl, rfl, rfl, by decide +kernel, rfl, by decide +kernel, by decide +kernel⟩

theorem rising_pw : ∀ (p : Str) (l : List Str), risingS p l = true → (p :: l).Pairwise (fun a b => a.cps.toList ≤ b.cps.toList)
  | p, [], _ => List.pairwise_singleton _ _
  | p, x :: r, h => by
    have h : (!ltCps x.cps.toList p.cps.toList && risingS x r) = true := h
    rw [Bool.and_eq_true] at h
    have h1 : ¬ x.cps.toList < p.cps.toList := by
      have := h.1
      rw [PyProof.Rows.ltCps_eq] at this
      simpa using this
    have ih := rising_pw x r h.2
    refine List.pairwise_cons.mpr ⟨fun y hy => ?_, ih⟩
    rcases List.mem_cons.mp hy with rfl | hy
    · exact h1
    · exact List.le_trans (show p.cps.toList ≤ x.cps.toList from h1) ((List.pairwise_cons.mp ih).1 y hy)
theorem sorted_uniq {xs ys : List Str} (p : xs.Perm ys) (hx : sortedS xs = true) (hy : sortedS ys = true) : xs = ys := by
  have pw : ∀ l : List Str, sortedS l = true → l.Pairwise (fun a b => a.cps.toList ≤ b.cps.toList) := fun l h => by
    cases l with
    | nil => exact .nil
    | cons x r => exact rising_pw x r h
  refine List.Perm.eq_of_pairwise (fun a b _ _ h1 h2 => ?_) (pw _ hx) (pw _ hy) p
  have e : a.cps.toList = b.cps.toList := List.le_antisymm h1 h2
  obtain ⟨⟨a⟩⟩ := a
  obtain ⟨⟨b⟩⟩ := b
  have e : a = b := e
  rw [e]
def spSides (K : PySem.W.Frag) : Sp := fun vs H Q _ => ∃ (b : Addr) (B : Bk) (ns : List Str) (Rs : List Res), vs = [.ref b] ∧ Sat H (book (CB K) b B :: Rs) ∧ B.st.sides.map (fun kv => kV kv.1) = ns.map V.str ∧ ns.length < 64 ∧
  ∀ p ys H', ys.Perm ns → sortedS ys = true → PK H H' → Sat H' (cell p (.lst (ys.map V.str)) :: book (CB K) b B :: Rs) → Q (.ref p) H'
abbrev FolkL := List (Str × Str × Int)
def folkD (F : FolkL) : KDs := F.map fun f => (Sum.inr f.1, .tuple [.str f.2.1, .int f.2.2])
def menRow (F : FolkL) (n : Str) : PyData := match F.find? (fun f => decide (f.1 = n)) with
  | some f => .tuple [.str n, .str f.2.1, .int f.2.2]
  | none => .none
theorem valD_folk {F : FolkL} {n : Str} (h : n ∈ F.map fun f => f.1) : ∃ f, F.find? (fun f => decide (f.1 = n)) = some f ∧ valD (folkD F) (.inr n) = some (.tuple [.str f.2.1, .int f.2.2]) ∧ menRow F n = .tuple [.str n, .str f.2.1, .int f.2.2] := by
  obtain ⟨g, hg, rfl⟩ := List.mem_map.mp h
  have e : (F.find? (fun f => decide (f.1 = g.1))).isSome = true := List.find?_isSome.mpr ⟨g, hg, decide_eq_true rfl⟩
  obtain ⟨f, hf⟩ := Option.isSome_iff_exists.mp e
  refine ⟨f, hf, ?_, by unfold menRow; rw [hf]⟩
  unfold valD folkD
  rw [List.find?_map]
  have e2 : ((fun kv : Key × PyData => decide (kv.1 = Sum.inr g.1)) ∘ fun f : Str × Str × Int => ((Sum.inr f.1 : Key), PyData.tuple [.str f.2.1, .int f.2.2])) = fun f => decide (f.1 = g.1) := by
    funext f
    show decide ((Sum.inr f.1 : Key) = Sum.inr g.1) = _
    by_cases c : f.1 = g.1
    · rw [decide_eq_true c, decide_eq_true (congrArg Sum.inr c)]
    · rw [decide_eq_false c, decide_eq_false (fun z => c (Sum.inr.inj z))]
  rw [e2, hf]
  rfl
theorem folkD_names (F : FolkL) : (folkD F).map (fun kv => kV kv.1) = (F.map fun f => f.1).map V.str := by
  unfold folkD
  rw [List.map_map, List.map_map]
  rfl
def spMen (K : PySem.W.Frag) : Sp := fun vs H Q _ => ∃ (b : Addr) (B : Bk) (F : FolkL) (Rs : List Res), vs = [.ref b] ∧ Sat H (book (CB K) b B :: Rs) ∧ B.st.folk = folkD F ∧ F.length < 64 ∧
  ∀ p ys zs H', ys.Perm (F.map fun f => f.1) → sortedS ys = true → PK H H' → Sat H' (cell p (.lst zs) :: book (CB K) b B :: Rs) → TpAll H' zs (ys.map (menRow F)) → Q (.ref p) H'
section
variable {P : Program} {w : World} {K : PySem.W.Frag} {mg : Str → Option Value} {base : Heap}
theorem D_Book_sides (T : Txt K mg) (F : Mf K "Book" "sides" "Book.sides" s_Book_sides) : DnM P w K mg base CX0 1 (He.ma K (He.ga K "Book") "sides") ["self"] (spSides K) := by
  refine F.dm sc_Book_sides (fun _ _ _ _ _ _ us hl => match us, hl with | [_], _ => rfl) (fun vs H Q E h => ?_) (fun f cdv A outer s H vs Q E hr hK h => ?_)
  · obtain ⟨b, B, ns, Rs, rfl, _⟩ := h
    rfl
  · obtain ⟨b, B, ns, Rs, rfl, S, hk, hl, k⟩ := h
    refine ⟨_, (pss_one (ps_ret (pe_callB cr_sortedS rfl T.m_sorted boot_sorted (pa_cons (pe_callTy (call_list_dK rfl) rfl T.m_list boot_list (pa_cons (pe_fldC T.cl_Book T.n_Book_banners (pv 0) rfl) pa_nil)) pa_nil)))), ?_⟩
    try rw [hK]
    rw [show L2.start N_Book_sides [.ref b] = [some (.ref b)] from rfl]
    obtain ⟨dx, ba, fo, pa, to, ps, fu, S1⟩ := S.bookE
    clear S
    walk_at "sx"
    rename_i p H3 pk3 S3
    rw [hk] at S3
    clear S1
    refine ⟨p, ns, rfl, SqL.of sat_at, hl, fun ys p2 hp hs hp2 => ?_⟩
    have S4 := S3.new hp2 (o := .lst (ys.map V.str))
    clear S3
    have S5 := bookC (H := upd H3 p2 (.lst (ys.map V.str))) (C := CB K) (b := b)
    exact k p2 ys _ hp hs (pk3.trans (PK.of_ex (Ex.new hp2))) S5.pick
theorem D_Book_men (T : Txt K mg) (F : Mf K "Book" "men" "Book.men" s_Book_men) : DnM P w K mg base CX0 1 (He.ma K (He.ga K "Book") "men") ["self"] (spMen K) := by
  refine F.dm sc_Book_men (fun _ _ _ _ _ _ us hl => match us, hl with | [_], _ => rfl) (fun vs H Q E h => ?_) (fun f cdv A outer s H vs Q E hr hK h => ?_)
  · obtain ⟨b, B, Fo, Rs, rfl, _⟩ := h
    rfl
  · obtain ⟨b, ⟨⟨si, fk, pc, tl, la⟩, past, fut⟩, Fo, Rs, rfl, S, e1, hl, k⟩ := h
    have e1 : fk = folkD Fo := e1
    subst e1
    refine ⟨_, (pss_one (ps_ret (pe_lc (own := [("name", 1)]) (g := gName 1) (tt := tYes) rfl sc_Book_men.nd (pi_list (pe_callB cr_sortedS rfl T.m_sorted boot_sorted (pa_cons (pe_callTy (call_list_dK rfl) rfl T.m_list boot_list (pa_cons (pe_fldC T.cl_Book T.n_Book_folk (pv 0) rfl) pa_nil)) pa_nil))) (blkOk_by (own := [("name", 1)]) (N := N_Book_men) (sc := defScope s_Book_men) (by decide +kernel)) (fun _ _ _ _ _ => pg_name (i := 1) sc_Book_men.nd rfl (Or.inl rfl)) (fun _ _ _ _ _ => pts_nil) (fun _ _ _ _ _ => (pe_tup (pa_cons (pv 1) (pa_cons (pe_ix (r := rIxT K) ix_tup (pe_dget (hu_of hr) (pe_fldC T.cl_Book T.n_Book_folk (pv 0) rfl) (pv 1) (fun _ _ => rfl)) pe_int (fun _ _ => rfl)) (pa_cons (pe_ix (r := rIxT K) ix_tup (pe_dget (hu_of hr) (pe_fldC T.cl_Book T.n_Book_folk (pv 0) rfl) (pv 1) (fun _ _ => rfl)) pe_int (fun _ _ => rfl)) pa_nil)))))))), ?_⟩
    try rw [hK]
    rw [show L2.start N_Book_men [.ref b] = [some (.ref b), none] from rfl]
    obtain ⟨dx, ba, fo, pa, to, ps, fu, S1⟩ := S.bookE
    clear S
    walk_at "sx"
    rename_i p H3 pk3 S3
    rw [show (⟨⟨si, folkD Fo, pc, tl, la⟩, past, fut⟩ : Bk).st.folk = folkD Fo from rfl, folkD_names] at S3
    clear S1
    refine ⟨p, _, rfl, SqL.of sat_at, by rw [List.length_map]; exact hl, fun ys p2 hp hs hp2 => ?_⟩
    have S4 := S3.new hp2 (o := .lst (ys.map V.str))
    have pk4 : PK H3 (upd H3 p2 (.lst (ys.map V.str))) := PK.of_ex (Ex.new hp2)
    generalize upd H3 p2 (.lst (ys.map V.str)) = H4 at S4 pk4 ⊢
    clear S3
    have S5 : Sat H4 (cell p2 (.lst (ys.map V.str)) :: cell b (.ins (CB K) dx (fsBook (.ref ba) (.ref fo) (.ref pa) (.ref to) (.int la) (.ref ps) (.ref fu))) :: dct ba si :: dct fo (folkD Fo) :: dct pa pc :: dct to tl :: lsts ps past :: lsts fu fut :: Rs) := S4.pick
    clear S4
    have hyl : ys.length < 64 := by rw [hp.length_eq, List.length_map]; exact hl
    walk_at "sx"
    refine x_lcQ (walk_list (xs := ys.map V.str)) (fun D i H' => PK H4 H' ∧ ∃ zs, Sat H' (cell D (.lst zs) :: cell p2 (.lst (ys.map V.str)) :: cell b (.ins (CB K) dx (fsBook (.ref ba) (.ref fo) (.ref pa) (.ref to) (.int la) (.ref ps) (.ref fu))) :: dct ba si :: dct fo (folkD Fo) :: dct pa pc :: dct to tl :: lsts ps past :: lsts fu fut :: Rs) ∧ TpAll H' zs ((ys.take i).map (menRow Fo))) (fun D hD => ⟨PK.of_ex (Ex.new hD), [], (S5.new hD).pick, .nil⟩) (fun D i H' _ h => ?_) (fun D i x H6 H7 hi h y => ?_) (fun D H6 h => ?_)
    · obtain ⟨_, zs, S6, _⟩ := h
      exact SqL.of sat_at
    · obtain ⟨pk6, zs, S6, tz⟩ := h
      obtain ⟨rfl, hx⟩ := y
      clear S5
      rw [List.getElem?_map] at hx
      cases hy : ys[i]? with
      | none => rw [hy] at hx; cases hx
      | some n =>
        rw [hy] at hx
        cases hx
        obtain ⟨f, _, hv, hrow⟩ := valD_folk (hp.mem_iff.mp (List.mem_of_getElem? hy))
        walk_at "sx"
        refine x_dg hv fun v tp => ?_
        obtain ⟨q, rfl, hq⟩ : ∃ q, v = .ref q ∧ H7 q = some (.tup [.str f.2.1, .int f.2.2]) := by
          cases tp with
          | tup e1 a => cases a with | cons a1 a => cases a with | cons a2 a => cases a; cases a1; cases a2; exact ⟨_, rfl, e1⟩
        walk_at "sx"
        refine x_dg hv fun v2 tp2 => ?_
        obtain ⟨q2, rfl, hq2⟩ : ∃ q, v2 = .ref q ∧ H7 q = some (.tup [.str f.2.1, .int f.2.2]) := by
          cases tp2 with
          | tup e1 a => cases a with | cons a1 a => cases a with | cons a2 a => cases a; cases a1; cases a2; exact ⟨_, rfl, e1⟩
        walk_at "sx"
        rename_i p8 H8 pk8 S8 h8
        clear S6
        have hz : zs.length < sizeLine := by rw [tz.len, List.length_map, List.length_take, sizeLine_eq]; omega
        refine x_eltS hz fun H9 pk9 S9 => ⟨pk6.trans (pk8.trans pk9), _, S9, ?_⟩
        have e1 : (ys.take (i + 1)).map (menRow Fo) = (ys.take i).map (menRow Fo) ++ [menRow Fo n] := by rw [List.take_succ, hy, List.map_append]; rfl
        rw [e1, hrow]
        exact (TpAll.pk (pk8.trans pk9) tz).app (.cons (.tup (pk9.tup h8) (.cons (.str _) (.cons (.str _) (.cons (.int _) .nil)))) .nil)
    · obtain ⟨pk6, zs, S6, tz⟩ := h
      clear S5
      rw [List.length_map, List.take_length] at tz
      have S7 := bookC (H := H6) (C := CB K) (b := b)
      exact k D ys zs _ hp hs (pk3.trans (pk4.trans pk6)) S7.pick tz
end

/-! ### a scene in parts -/
abbrev CS (K : PySem.W.Frag) : Addr := He.ga K "Scene"
abbrev CM (K : PySem.W.Frag) : Addr := He.ga K "Man"
structure MSt where
  home : Str
  grade : Int
  dead : Bool
  keeper : Str
  caught : Int
  bonds : KDs
abbrev Crew := List (Str × MSt)
def findM : Crew → Str → Option MSt
  | [], _ => none
  | (k, m) :: r, n => if k = n then some m else findM r n
def setM : Crew → Str → MSt → Crew
  | [], _, _ => []
  | (k, m) :: r, n, m' => if k = n then (k, m') :: r else (k, m) :: setM r n m'
abbrev manV (m : MSt) (bo : Addr) : List (Str × V) := fsMan (.str m.home) (.int m.grade) (.bl m.dead) (.str m.keeper) (.int m.caught) (.ref bo)
def man (C : Addr) (v : V) (m : MSt) : Res := fun h => ∃ a dx bo : Addr, v = .ref a ∧ star [cell a (.ins C dx (manV m bo)), dct bo m.bonds] h
def mans (C : Addr) : List (Key × V) → Crew → List Res := List.zipWith fun kv nm => man C kv.2 nm.2
def crewR (C p : Addr) (ms : Crew) : Res := fun h => ∃ kvs : List (Key × V), kvs.map (fun kv => kv.1) = ms.map (fun nm => Sum.inr nm.1) ∧ star [cell p (.dK kvs), star (mans C kvs ms)] h
def scene (K : PySem.W.Frag) (s : Addr) (ms : Crew) : Res := fun h => ∃ (dx p du : Addr) (pv : V), star [cell s (.ins (CS K) dx (fsScene (.ref p) pv (.ref du))), crewR (CM K) p ms, dct du []] h
section
variable {H : Hp} {Rs : List Res} {C p s : Addr} {ms : Crew} {n : Str} {m : MSt} {kvs : List (Key × V)}
theorem setM_keys (ms : Crew) (n : Str) (m' : MSt) : (setM ms n m').map (fun nm => nm.1) = ms.map (fun nm => nm.1) := by
  induction ms with
  | nil => rfl
  | cons a r ih =>
    obtain ⟨k, m⟩ := a
    unfold setM
    by_cases c : k = n
    · rw [if_pos c]; rfl
    · rw [if_neg c, List.map_cons, List.map_cons, ih]
theorem findM_set (ms : Crew) (n : Str) (m' : MSt) (h : (findM ms n).isSome = true) : findM (setM ms n m') n = some m' := by
  induction ms with
  | nil => cases h
  | cons a r ih =>
    obtain ⟨k, m⟩ := a
    unfold setM
    by_cases c : k = n
    · rw [if_pos c]; unfold findM; rw [if_pos c]
    · unfold findM at h
      rw [if_neg c] at h
      rw [if_neg c]
      unfold findM
      rw [if_neg c]
      exact ih h
theorem mans_at : ∀ {kvs : List (Key × V)} {ms : Crew}, kvs.map (fun kv => kv.1) = ms.map (fun nm => Sum.inr nm.1) → findM ms n = some m →
    ∃ v A B, valV kvs (.inr n) = some v ∧ mans C kvs ms = A ++ man C v m :: B ∧ ∀ m', mans C kvs (setM ms n m') = A ++ man C v m' :: B
  | [], [], _, h => by cases h
  | [], _ :: _, e, _ => by simp at e
  | _ :: _, [], e, _ => by simp at e
  | (k, v) :: kvs, (j, u) :: ms, e, h => by
    rw [List.map_cons, List.map_cons] at e
    injection e with e1 e2
    have e1 : k = Sum.inr j := e1
    unfold findM at h
    by_cases c : j = n
    · rw [if_pos c] at h
      cases h
      refine ⟨v, [], mans C kvs ms, valV_pos (p := (k, v)) (by rw [e1, c]), rfl, fun m' => ?_⟩
      unfold setM
      rw [if_pos c]
      rfl
    · rw [if_neg c] at h
      obtain ⟨w, A, B, h1, h2, h3⟩ := mans_at e2 h
      refine ⟨w, man C v u :: A, B, ?_, ?_, fun m' => ?_⟩
      · rw [valV_neg (p := (k, v)) (fun z => c (Sum.inr.inj (e1.symm.trans z)))]
        exact h1
      · show man C v u :: mans C kvs ms = _
        rw [h2]
        rfl
      · unfold setM
        rw [if_neg c]
        show man C v u :: mans C kvs (setM ms n m') = _
        rw [h3 m']
        rfl
theorem _root_.G.Sat.manE {v : V} (S : Sat H (man C v m :: Rs)) : ∃ a dx bo : Addr, v = .ref a ∧ Sat H (cell a (.ins C dx (manV m bo)) :: dct bo m.bonds :: Rs) := by
  obtain ⟨a, S⟩ := S.exE
  obtain ⟨dx, S⟩ := S.exE
  obtain ⟨bo, S⟩ := S.exE
  have f := S.fact (P := v = .ref a) fun h e r => r.1
  exact ⟨a, dx, bo, f, (S.imp fun _ _ r => r.2).open_⟩
theorem _root_.G.Sat.manI {a dx bo : Addr} (S : Sat H (cell a (.ins C dx (manV m bo)) :: dct bo m.bonds :: Rs)) : Sat H (man C (.ref a) m :: Rs) :=
  (Sat.close (As := [_, _]) S).imp fun h e r => ⟨a, dx, bo, rfl, r⟩
theorem _root_.G.Sat.crewE (S : Sat H (crewR C p ms :: Rs)) : ∃ kvs : List (Key × V), kvs.map (fun kv => kv.1) = ms.map (fun nm => Sum.inr nm.1) ∧ Sat H (cell p (.dK kvs) :: star (mans C kvs ms) :: Rs) := by
  obtain ⟨kvs, S⟩ := S.exE
  have f := S.fact (P := kvs.map (fun kv => kv.1) = ms.map (fun nm => Sum.inr nm.1)) fun h e r => r.1
  exact ⟨kvs, f, (S.imp fun _ _ r => r.2).open_⟩
theorem _root_.G.Sat.crewI (e : kvs.map (fun kv => kv.1) = ms.map (fun nm => Sum.inr nm.1)) (S : Sat H (cell p (.dK kvs) :: star (mans C kvs ms) :: Rs)) : Sat H (crewR C p ms :: Rs) :=
  (Sat.close (As := [_, _]) S).imp fun h _ r => ⟨kvs, e, r⟩
/-- one man of the crew taken out, and put back changed -/
theorem _root_.G.Sat.crewAt (S : Sat H (crewR C p ms :: Rs)) (hn : findM ms n = some m) : ∃ (kvs : List (Key × V)) (a dx bo : Addr) (Os : List Res), valV kvs (.inr n) = some (.ref a) ∧
    Sat H (cell p (.dK kvs) :: cell a (.ins C dx (manV m bo)) :: dct bo m.bonds :: star Os :: Rs) ∧
    ∀ (H' : Hp) (m' : MSt) (bo' : Addr) (Rs' : List Res), Sat H' (cell p (.dK kvs) :: cell a (.ins C dx (manV m' bo')) :: dct bo' m'.bonds :: star Os :: Rs') → SatP H' (crewR C p (setM ms n m') :: Rs') := by
  obtain ⟨kvs, e, S⟩ := S.crewE
  obtain ⟨v, A, B, h1, h2, h3⟩ := mans_at (C := C) e hn
  rw [h2] at S
  have S1 : Sat H (man C v m :: (A ++ (B ++ (cell p (.dK kvs) :: Rs)))) := by
    have S2 : Sat H ((A ++ man C v m :: B) ++ (cell p (.dK kvs) :: Rs)) := S.swap.open_
    rw [List.append_assoc] at S2
    exact S2.perm List.perm_middle
  obtain ⟨a, dx, bo, rfl, S3⟩ := S1.manE
  refine ⟨kvs, a, dx, bo, A ++ B, h1, ?_, fun H' m' bo' Rs' S' => ?_⟩
  · have S4 : Sat H ((A ++ B) ++ (cell p (.dK kvs) :: cell a (.ins C dx (manV m bo)) :: dct bo m.bonds :: Rs)) := by
      refine S3.perm ?_
      rw [← List.append_assoc]
      refine (List.Perm.trans (.cons _ List.perm_middle.symm) (List.perm_middle (l₁ := A ++ B)).symm).trans ?_
      refine List.Perm.append_left _ ?_
      exact (List.Perm.cons _ (.swap _ _ _)).trans (.swap _ _ _)
    have S5 := S4.close
    exact S5.perm ((List.Perm.swap _ _ _).trans (.cons _ ((List.Perm.swap _ _ _).trans (.cons _ (.swap _ _ _)))))
  · have S4 : Sat H' (star (A ++ B) :: cell a (.ins C dx (manV m' bo')) :: dct bo' m'.bonds :: cell p (.dK kvs) :: Rs') :=
      S'.perm ((((List.Perm.swap _ _ _).trans (.cons _ (.swap _ _ _))).trans (.cons _ (.cons _ (.swap _ _ _)))).trans (((List.Perm.swap _ _ _).cons _).trans (.swap _ _ _)))
    have S5 : Sat H' (cell a (.ins C dx (manV m' bo')) :: dct bo' m'.bonds :: ((A ++ B) ++ (cell p (.dK kvs) :: Rs'))) := by
      have S6 := S4.open_
      refine S6.perm ?_
      exact (List.perm_middle (l₁ := A ++ B)).trans (.cons _ (List.perm_middle (l₁ := A ++ B)))
    have S7 := S5.manI
    have S8 : Sat H' ((A ++ man C (.ref a) m' :: B) ++ (cell p (.dK kvs) :: Rs')) := by
      refine S7.perm ?_
      rw [List.append_assoc, List.append_assoc]
      exact List.perm_middle.symm
    rw [← h3 m'] at S8
    refine ⟨G.Sat.crewI (kvs := kvs) ?_ S8.close.swap⟩
    have k := congrArg (List.map (Sum.inr : Str → Key)) (setM_keys ms n m')
    rw [List.map_map, List.map_map] at k
    rw [e]
    exact k.symm
theorem _root_.G.Sat.sceneE {K : PySem.W.Frag} (S : Sat H (scene K s ms :: Rs)) : ∃ (dx p du : Addr) (pv : V), Sat H (cell s (.ins (CS K) dx (fsScene (.ref p) pv (.ref du))) :: crewR (CM K) p ms :: dct du [] :: Rs) := by
  obtain ⟨dx, S⟩ := S.exE
  obtain ⟨p, S⟩ := S.exE
  obtain ⟨du, S⟩ := S.exE
  obtain ⟨pv, S⟩ := S.exE
  exact ⟨dx, p, du, pv, S.open_⟩
theorem _root_.G.Sat.sceneI {K : PySem.W.Frag} {dx p du : Addr} {pv : V} (S : Sat H (cell s (.ins (CS K) dx (fsScene (.ref p) pv (.ref du))) :: crewR (CM K) p ms :: dct du [] :: Rs)) : Sat H (scene K s ms :: Rs) :=
  (Sat.close (As := [_, _, _]) S).imp fun h e r => ⟨dx, p, du, pv, r⟩
end
instance hasIns_scene {K : PySem.W.Frag} {a : Addr} {m : Str} {ms : Crew} {H : Hp} {Rs T : List Res} {F : Res → List Res} [S : Sat H Rs] [f : Foc (scene K) a ms Rs T F] [n : ∀ a0 a1 a2, Nk m (fsScene a0 a1 a2)] : HasIns (He.ga K "Scene") m a H := by
  obtain ⟨dx, p, du, pv, S⟩ := (f.out S).sceneE
  exact ⟨dx, _, S.get, (n _ _ _).h⟩

/-! ### what befalls the men of a scene -/
abbrev s_Man___init__ : Stmt := inClass (top 32) 0
abbrev N_Man___init__ : List Str := ["self", "home", "grade"]
theorem sc_Man___init__ : FnScope N_Man___init__ ["self", "home", "grade"] (defScope s_Man___init__) := ⟨rfl, rfl, rfl, by decide +kernel, rfl, by decide +kernel, by decide +kernel⟩
abbrev s_Scene_living : Stmt := inClass (top 33) 1
abbrev N_Scene_living : List Str := ["self", "name", "man"]
theorem sc_Scene_living : FnScope N_Scene_living ["self", "name"] (defScope s_Scene_living) := ⟨rfl, rfl, rfl, by decide +kernel, rfl, by decide +kernel, by decide +kernel⟩
abbrev s_Scene_kept : Stmt := inClass (top 33) 2
abbrev N_Scene_kept : List Str := ["self", "name", "man"]
theorem sc_Scene_kept : FnScope N_Scene_kept ["self", "name"] (defScope s_Scene_kept) := ⟨rfl, rfl, rfl, by decide +kernel, rfl, by decide +kernel, by decide +kernel⟩
abbrev s_Scene_taken : Stmt := inClass (top 33) 3
abbrev N_Scene_taken : List Str := ["self", "day", "name", "side", "man"]
theorem sc_Scene_taken : FnScope N_Scene_taken ["self", "day", "name", "side"] (defScope s_Scene_taken) := ⟨rfl, rfl, rfl, by decide +kernel, rfl, by decide +kernel, by decide +kernel⟩
abbrev s_Scene_sent : Stmt := inClass (top 33) 4
abbrev N_Scene_sent : List Str := ["self", "name", "man"]
theorem sc_Scene_sent : FnScope N_Scene_sent ["self", "name"] (defScope s_Scene_sent) := ⟨rfl, rfl, rfl, by decide +kernel, rfl, by decide +kernel, by decide +kernel⟩
abbrev s_Scene_let_go : Stmt := inClass (top 33) 5
abbrev N_Scene_let_go : List Str := ["self", "name", "man"]
theorem sc_Scene_let_go : FnScope N_Scene_let_go ["self", "name"] (defScope s_Scene_let_go) := ⟨rfl, rfl, rfl, by decide +kernel, rfl, by decide +kernel, by decide +kernel⟩
abbrev s_Scene_graded : Stmt := inClass (top 33) 6
abbrev N_Scene_graded : List Str := ["self", "name", "grade", "man"]
theorem sc_Scene_graded : FnScope N_Scene_graded ["self", "name", "grade"] (defScope s_Scene_graded) := ⟨rfl, rfl, rfl, by decide +kernel, rfl, by decide +kernel, by decide +kernel⟩
abbrev s_Scene_dies : Stmt := inClass (top 33) 7
abbrev N_Scene_dies : List Str := ["self", "name", "man"]
theorem sc_Scene_dies : FnScope N_Scene_dies ["self", "name"] (defScope s_Scene_dies) := ⟨rfl, rfl, rfl, by decide +kernel, rfl, by decide +kernel, by decide +kernel⟩
abbrev s_Scene_swapped : Stmt := inClass (top 33) 9
abbrev N_Scene_swapped : List Str := ["self", "one", "other", "ones", "others", "pair", "worths", "limit", "got", "due", "name"]
theorem sc_Scene_swapped : FnScope N_Scene_swapped ["self", "one", "other", "ones", "others"] (defScope s_Scene_swapped) := ⟨rfl, rfl, rfl, by decide +kernel, rfl, by decide +kernel, by decide +kernel⟩
abbrev s_Scene_befalls : Stmt := inClass (top 33) 10
abbrev N_Scene_befalls : List Str := ["self", "day", "deed"]
theorem sc_Scene_befalls : FnScope N_Scene_befalls ["self", "day", "deed"] (defScope s_Scene_befalls) := ⟨rfl, rfl, rfl, by decide +kernel, rfl, by decide +kernel, by decide +kernel⟩

abbrev man0 (hm : Str) (g : Int) : MSt := ⟨hm, g, false, "", 0, []⟩
def spManInit (K : PySem.W.Frag) : Sp := fun vs H Q _ => ∃ (a dx : Addr) (hm : Str) (g : Int) (Rs : List Res), vs = [.ref a, .str hm, .int g] ∧ Sat H (cell a (.ins (CM K) dx []) :: Rs) ∧ ∀ H', PK H H' → Sat H' (man (CM K) (.ref a) (man0 hm g) :: Rs) → Q .non H'
def spLiving (K : PySem.W.Frag) : Sp := fun vs H Q _ => ∃ (s : Addr) (n : Str) (dx p : Addr) (pw du : V) (kvs : List (Key × V)) (a dm bo : Addr) (m : MSt) (Rs : List Res), vs = [.ref s, .str n] ∧
  Sat H (cell s (.ins (CS K) dx (fsScene (.ref p) pw du)) :: cell p (.dK kvs) :: cell a (.ins (CM K) dm (manV m bo)) :: Rs) ∧ valV kvs (.inr n) = some (.ref a) ∧ m.dead = false ∧ Q (.ref a) H
def spKept (K : PySem.W.Frag) : Sp := fun vs H Q _ => ∃ (s : Addr) (n : Str) (dx p : Addr) (pw du : V) (kvs : List (Key × V)) (a dm bo : Addr) (m : MSt) (Rs : List Res), vs = [.ref s, .str n] ∧
  Sat H (cell s (.ins (CS K) dx (fsScene (.ref p) pw du)) :: cell p (.dK kvs) :: cell a (.ins (CM K) dm (manV m bo)) :: Rs) ∧ valV kvs (.inr n) = some (.ref a) ∧ m.dead = false ∧ m.keeper ≠ "" ∧ Q (.ref a) H
inductive Deed where
  | take (n s : Str)
  | word (n : Str)
  | free (n : Str)
  | flee (n : Str)
  | die (n : Str)
  | rank (n : Str) (r : Int)
def Deed.man : Deed → Str
  | .take n _ | .word n | .free n | .flee n | .die n | .rank n _ => n
def Deed.xs : Deed → List V
  | .take n s => [.str "take", .str n, .str s]
  | .word n => [.str "word", .str n]
  | .free n => [.str "free", .str n]
  | .flee n => [.str "flee", .str n]
  | .die n => [.str "die", .str n]
  | .rank n r => [.str "rank", .str n, .int r]
def Deed.ds : Deed → List PyData
  | .take n s => [.str "take", .str n, .str s]
  | .word n => [.str "word", .str n]
  | .free n => [.str "free", .str n]
  | .flee n => [.str "flee", .str n]
  | .die n => [.str "die", .str n]
  | .rank n r => [.str "rank", .str n, .int r]
/-- what a deed makes of its man, if it may be -/
def fallM (day : Int) : Deed → MSt → Option MSt
  | .take _ s, m => if m.home ≠ s ∧ m.dead = false ∧ m.keeper = "" then some { m with keeper := s, caught := day, bonds := dropD m.bonds (.inr s) } else none
  | .word _, m => if m.dead = false ∧ m.keeper ≠ "" ∧ m.bonds.length < 1000 then some { m with keeper := "", bonds := putD m.bonds (.inr m.keeper) (.int m.caught) } else none
  | .free _, m => if m.dead = false ∧ m.keeper ≠ "" then some { m with keeper := "" } else none
  | .flee _, m => if m.dead = false ∧ m.keeper ≠ "" then some { m with keeper := "" } else none
  | .die _, m => if m.dead = false then some { m with dead := true, keeper := "", bonds := [] } else none
  | .rank _ r, m => if m.dead = false then some { m with grade := r } else none
/-- the deed x of the day falls on the man m of the crew -/
def spFall (K : PySem.W.Frag) (args : Str → Int → Deed → Option (List V)) : Sp := fun vs H Q _ => ∃ (s : Addr) (day : Int) (x : Deed) (ms : Crew) (m m' : MSt) (as : List V) (Rs : List Res), args x.man day x = some as ∧ vs = .ref s :: as ∧ Sat H (scene K s ms :: Rs) ∧ findM ms x.man = some m ∧ fallM day x m = some m' ∧
  ∀ H', PK H H' → Sat H' (scene K s (setM ms x.man m') :: Rs) → Q .non H'
def aTake (n : Str) (day : Int) : Deed → Option (List V)
  | .take _ s => some [.int day, .str n, .str s]
  | _ => none
def aWord (n : Str) (_ : Int) : Deed → Option (List V)
  | .word _ => some [.str n]
  | _ => none
def aGo (n : Str) (_ : Int) : Deed → Option (List V)
  | .free _ => some [.str n]
  | .flee _ => some [.str n]
  | _ => none
def aDie (n : Str) (_ : Int) : Deed → Option (List V)
  | .die _ => some [.str n]
  | _ => none
def aRank (n : Str) (_ : Int) : Deed → Option (List V)
  | .rank _ r => some [.str n, .int r]
  | _ => none
def spBefalls (K : PySem.W.Frag) : Sp := fun vs H Q _ => ∃ (s q : Addr) (day : Int) (x : Deed) (ms : Crew) (m m' : MSt) (Rs : List Res), vs = [.ref s, .int day, .ref q] ∧ H q = some (.tup x.xs) ∧ Sat H (scene K s ms :: Rs) ∧ findM ms x.man = some m ∧ fallM day x m = some m' ∧
  ∀ H', PK H H' → Sat H' (scene K s (setM ms x.man m') :: Rs) → Q .non H'
/-- one man of a scene opened, and the scene behind his change -/
theorem _root_.G.Sat.sceneAt {H : Hp} {Rs : List Res} {K : PySem.W.Frag} {s : Addr} {ms : Crew} {n : Str} {m : MSt} (S : Sat H (scene K s ms :: Rs)) (hn : findM ms n = some m) : ∃ (dx p du : Addr) (pw : V) (kvs : List (Key × V)) (a dm bo : Addr) (Os : List Res), valV kvs (.inr n) = some (.ref a) ∧
    Sat H (cell s (.ins (CS K) dx (fsScene (.ref p) pw (.ref du))) :: cell p (.dK kvs) :: cell a (.ins (CM K) dm (manV m bo)) :: dct bo m.bonds :: star Os :: dct du [] :: Rs) ∧
    ∀ (H' : Hp) (m' : MSt) (bo' : Addr) (Rs' : List Res), Sat H' (cell s (.ins (CS K) dx (fsScene (.ref p) pw (.ref du))) :: cell p (.dK kvs) :: cell a (.ins (CM K) dm (manV m' bo')) :: dct bo' m'.bonds :: star Os :: dct du [] :: Rs') → SatP H' (scene K s (setM ms n m') :: Rs') := by
  obtain ⟨dx, p, du, pw, S⟩ := S.sceneE
  obtain ⟨kvs, a, dm, bo, Os, h1, S2, back⟩ := S.swap.crewAt hn
  refine ⟨dx, p, du, pw, kvs, a, dm, bo, Os, h1, S2.pick, fun H' m' bo' Rs' S' => ?_⟩
  have S3 : Sat H' (cell p (.dK kvs) :: cell a (.ins (CM K) dm (manV m' bo')) :: dct bo' m'.bonds :: star Os :: cell s (.ins (CS K) dx (fsScene (.ref p) pw (.ref du))) :: dct du [] :: Rs') := S'.pick
  exact ⟨G.Sat.sceneI (back H' m' bo' _ S3).s.swap⟩
section
variable {P : Program} {w : World} {K : PySem.W.Frag} {mg : Str → Option Value} {base : Heap}
theorem D_Man_init (T : Txt K mg) (F : Mf K "Man" "__init__" "Man.__init__" s_Man___init__) : DnM P w K mg base CX0 1 (He.ma K (He.ga K "Man") "__init__") ["self", "home", "grade"] (spManInit K) := by
  refine F.dm sc_Man___init__ (fun _ _ _ _ _ _ us hl => match us, hl with | [_, _, _], _ => rfl) (fun vs H Q E h => ?_) (fun f cdv A outer s H vs Q E hr hK h => ?_)
  · obtain ⟨a, dx, hm, g, Rs, rfl, _⟩ := h
    rfl
  · obtain ⟨a, dx, hm, g, Rs, rfl, S, k⟩ := h
    refine ⟨_, (pss_cons (ps_fldC T.cl_Man T.n_Man_home (pv 0) (pv 1) rfl)
      (pss_cons (ps_fldC T.cl_Man T.n_Man_grade (pv 0) (pv 2) rfl)
      (pss_cons (ps_fldC T.cl_Man T.n_Man_dead (pv 0) pe_bl rfl)
      (pss_cons (ps_fldC T.cl_Man T.n_Man_keeper (pv 0) pe_str rfl)
      (pss_cons (ps_fldC T.cl_Man T.n_Man_caught (pv 0) pe_int rfl)
      (pss_one (ps_fldC T.cl_Man T.n_Man_bonds (pv 0) (pe_dnewK) rfl))))))), ?_⟩
    try rw [hK]
    rw [show L2.start N_Man___init__ [.ref a, .str hm, .int g] = [some (.ref a), some (.str hm), some (.int g)] from rfl]
    walk_at "sx"
    rename_i p H3 pk3 S3 H4 pk4 S4
    exact k _ (by walk_at "pk") (G.Sat.manI (dx := dx) (bo := p) (m := man0 hm g) pick)
theorem D_Scene_living (T : Txt K mg) (F : Mf K "Scene" "living" "Scene.living" s_Scene_living) : DnM P w K mg base CX0 1 (He.ma K (He.ga K "Scene") "living") ["self", "name"] (spLiving K) := by
  refine F.dm sc_Scene_living (fun _ _ _ _ _ _ us hl => match us, hl with | [_, _], _ => rfl) (fun vs H Q E h => ?_) (fun f cdv A outer s H vs Q E hr hK h => ?_)
  · obtain ⟨s, n, dx, p, pw, du, kvs, a, dm, bo, m, Rs, rfl, _⟩ := h
    rfl
  · obtain ⟨s, n, dx, p, pw, du, kvs, a, dm, bo, m, Rs, rfl, S, hv, hd, k⟩ := h
    refine ⟨_, (pss_cons (ps_set (i := 2) sc_Scene_living.nd rfl (Or.inl rfl) (pe_dget (hu_of hr) (pe_fldC T.cl_Scene T.n_Scene_crew (pv 0) rfl) (pv 1) (fun _ _ => rfl)))
      (pss_cons (ps_if (pt_val (pe_fldC T.cl_Man T.n_Man_dead (pv 2) rfl)) (pss_one ps_never) pss_nil)
      (pss_one (ps_ret (pv 2))))), ?_⟩
    try rw [hK]
    rw [show L2.start N_Scene_living [.ref s, .str n] = [some (.ref s), some (.str n), none] from rfl]
    walk_at "sx"
    refine x_dgC hv ?_
    walk_at "sx"
    rw [hd]
    walk_at "sx"
    exact k
theorem D_Scene_kept (T : Txt K mg) (D_Scene_living : DnM P w K mg base CX0 1 (He.ma K (He.ga K "Scene") "living") ["self", "name"] (spLiving K)) (F : Mf K "Scene" "kept" "Scene.kept" s_Scene_kept) : DnM P w K mg base CX0 2 (He.ma K (He.ga K "Scene") "kept") ["self", "name"] (spKept K) := by
  refine F.dm sc_Scene_kept (fun _ _ _ _ _ _ us hl => match us, hl with | [_, _], _ => rfl) (fun vs H Q E h => ?_) (fun f cdv A outer s H vs Q E hr hK h => ?_)
  · obtain ⟨s, n, dx, p, pw, du, kvs, a, dm, bo, m, Rs, rfl, _⟩ := h
    rfl
  · obtain ⟨s, n, dx, p, pw, du, kvs, a, dm, bo, m, Rs, rfl, S, hv, hd, hk, k⟩ := h
    refine ⟨_, (pss_cons (ps_set (i := 2) sc_Scene_kept.nd rfl (Or.inl rfl) (pe_mt (pv 0) T.cl_Scene T.me_Scene_living D_Scene_living (hr.mono (by first | decide | omega)) pass0 (pa_cons (pv 1) pa_nil)))
      (pss_cons (ps_if (pt_cmpR op_eq (pe_fldC T.cl_Man T.n_Man_keeper (pv 2) rfl) pe_str (nomark _)) (pss_one ps_never) pss_nil)
      (pss_one (ps_ret (pv 2))))), ?_⟩
    try rw [hK]
    rw [show L2.start N_Scene_kept [.ref s, .str n] = [some (.ref s), some (.str n), none] from rfl]
    walk_at "sx"
    refine ⟨s, n, dx, p, pw, du, kvs, a, dm, bo, m, Rs, rfl, S, hv, hd, ?_⟩
    walk_at "sx"
    refine x_ifD (fun c => absurd c hk) (fun _ => ?_)
    walk_at "sx"
    exact k
theorem D_Scene_taken (T : Txt K mg) (D_Scene_living : DnM P w K mg base CX0 1 (He.ma K (He.ga K "Scene") "living") ["self", "name"] (spLiving K)) (F : Mf K "Scene" "taken" "Scene.taken" s_Scene_taken) : DnM P w K mg base CX0 2 (He.ma K (He.ga K "Scene") "taken") ["self", "day", "name", "side"] (spFall K aTake) := by
  refine F.dm sc_Scene_taken (fun _ _ _ _ _ _ us hl => match us, hl with | [_, _, _, _], _ => rfl) (fun vs H Q E h => ?_) (fun f cdv A outer s0 H vs Q E hr hK h => ?_)
  · obtain ⟨s, day, x, ms, m, m', as, Rs, ha, rfl, _⟩ := h
    cases x <;> cases ha
    rfl
  · obtain ⟨s, day, x, ms, m, m', as, Rs, ha, rfl, S, hn, hf, k⟩ := h
    cases x with
    | take n sd =>
      simp only [Deed.man] at ha hn k
      cases ha
      simp only [fallM] at hf
      split at hf
      · next c =>
        cases hf
        obtain ⟨c1, c2, c3⟩ := c
        refine ⟨_, (pss_cons (ps_if (pt_cmpR op_eq (pe_fldC T.cl_Man T.n_Man_home (pe_dget (hu_of hr) (pe_fldC T.cl_Scene T.n_Scene_crew (pv 0) rfl) (pv 2) (fun _ _ => rfl)) rfl) (pv 3) (nomark _)) (pss_one ps_never) pss_nil)
      (pss_cons (ps_set (i := 4) sc_Scene_taken.nd rfl (Or.inl rfl) (pe_mt (pv 0) T.cl_Scene T.me_Scene_living D_Scene_living (hr.mono (by first | decide | omega)) pass0 (pa_cons (pv 2) pa_nil)))
      (pss_cons (ps_if (pt_cmpR op_ne (pe_fldC T.cl_Man T.n_Man_keeper (pv 4) rfl) pe_str (nomark _)) (pss_one ps_never) pss_nil)
      (pss_cons (ps_fldC T.cl_Man T.n_Man_keeper (pv 4) (pv 3) rfl)
      (pss_cons (ps_fldC T.cl_Man T.n_Man_caught (pv 4) (pv 1) rfl)
      (pss_one (ps_if (pt_cmp (pc_din (hu_of hr) (pv 3) (pe_fldC T.cl_Man T.n_Man_bonds (pv 4) rfl))) (pss_one (ps_expr (pe_dpop1 (pe_fldC T.cl_Man T.n_Man_bonds (pv 4) rfl) (pv 3) ⟨rfl, rfl, rfl, rfl⟩))) pss_nil))))))), ?_⟩
        try rw [hK]
        rw [show L2.start N_Scene_taken [.ref s, .int day, .str n, .str sd] = [some (.ref s), some (.int day), some (.str n), some (.str sd), none] from rfl]
        obtain ⟨dx, p, du, pw, kvs, a, dm, bo, Os, hv, S2, back⟩ := S.sceneAt hn
        clear S
        walk_at "sx"
        refine x_dgC hv ?_
        walk_at "sx"
        refine x_ifD (fun c => absurd c c1) (fun _ => ?_)
        walk_at "sx"
        refine ⟨s, n, dx, p, pw, .ref du, kvs, a, dm, bo, m, _, rfl, S2, hv, c2, ?_⟩
        walk_at "sx"
        refine x_ifD (fun c => absurd c3 c) (fun _ => ?_)
        walk_at "sx"
        have fin : ∀ H', PK H H' → Sat H' (cell s (.ins (CS K) dx (fsScene (.ref p) pw (.ref du))) :: cell p (.dK kvs) :: cell a (.ins (CM K) dm (manV { m with keeper := sd, caught := day, bonds := dropD m.bonds (.inr sd) } bo)) :: dct bo (dropD m.bonds (.inr sd)) :: star Os :: dct du [] :: Rs) → Q .non H' := fun H' pk S' =>
          k H' pk (back H' { m with keeper := sd, caught := day, bonds := dropD m.bonds (.inr sd) } bo _ S').s
        cases hb : hasD m.bonds (.inr sd) with
        | false =>
          walk_at "sx"
          refine fin _ (by walk_at "pk") ?_
          rw [dropD_id hb]
          exact pick
        | true =>
          walk_at "sx"
          obtain ⟨d, hd⟩ := hasD_val hb
          refine x_po hd fun v H5 tp pk5 S5 => ?_
          walk_at "sx"
          exact fin _ (by walk_at "pk") pick
      · cases hf
    | _ => cases ha
end

section
variable {P : Program} {w : World} {K : PySem.W.Frag} {mg : Str → Option Value} {base : Heap}
theorem D_Scene_sent (T : Txt K mg) (D_Scene_kept : DnM P w K mg base CX0 2 (He.ma K (He.ga K "Scene") "kept") ["self", "name"] (spKept K)) (F : Mf K "Scene" "sent" "Scene.sent" s_Scene_sent) : DnM P w K mg base CX0 3 (He.ma K (He.ga K "Scene") "sent") ["self", "name"] (spFall K aWord) := by
  refine F.dm sc_Scene_sent (fun _ _ _ _ _ _ us hl => match us, hl with | [_, _], _ => rfl) (fun vs H Q E h => ?_) (fun f cdv A outer s0 H vs Q E hr hK h => ?_)
  · obtain ⟨s, day, x, ms, m, m', as, Rs, ha, rfl, _⟩ := h
    cases x <;> cases ha
    all_goals rfl
  · obtain ⟨s, day, x, ms, m, m', as, Rs, ha, rfl, S, hn, hf, k⟩ := h
    cases x with
    | word n =>
      simp only [Deed.man] at ha hn k
      cases ha
      simp only [fallM] at hf
      split at hf
      · next c =>
        cases hf
        refine ⟨_, (pss_cons (ps_set (i := 2) sc_Scene_sent.nd rfl (Or.inl rfl) (pe_mt (pv 0) T.cl_Scene T.me_Scene_kept D_Scene_kept (hr.mono (by first | decide | omega)) pass0 (pa_cons (pv 1) pa_nil)))
      (pss_cons (ps_dput (hu_of hr) (pe_fldC T.cl_Man T.n_Man_bonds (pv 2) rfl) (pe_fldC T.cl_Man T.n_Man_keeper (pv 2) rfl) (pe_fldC T.cl_Man T.n_Man_caught (pv 2) rfl) rfl)
      (pss_one (ps_fldC T.cl_Man T.n_Man_keeper (pv 2) pe_str rfl)))), ?_⟩
        try rw [hK]
        rw [show L2.start N_Scene_sent [.ref s, .str n] = [some (.ref s), some (.str n), none] from rfl]
        obtain ⟨dx, p, du, pw, kvs, a, dm, bo, Os, hv, S2, back⟩ := S.sceneAt hn
        clear S
        walk_at "sx"
        obtain ⟨c1, c2, c3⟩ := c
        refine ⟨s, n, dx, p, pw, .ref du, kvs, a, dm, bo, m, _, rfl, S2, hv, c1, c2, ?_⟩
        walk_at "sx"
        refine x_dp (d := .int m.caught) (by rw [sizeLine_eq]; omega) (by walk_at "tp") fun H5 pk5 S5 => ?_
        walk_at "sx"
        exact k _ (by walk_at "pk") (back _ { m with keeper := "", bonds := putD m.bonds (.inr m.keeper) (.int m.caught) } bo _ pick).s
      · cases hf
    | _ => cases ha
theorem D_Scene_let_go (T : Txt K mg) (D_Scene_kept : DnM P w K mg base CX0 2 (He.ma K (He.ga K "Scene") "kept") ["self", "name"] (spKept K)) (F : Mf K "Scene" "let_go" "Scene.let_go" s_Scene_let_go) : DnM P w K mg base CX0 3 (He.ma K (He.ga K "Scene") "let_go") ["self", "name"] (spFall K aGo) := by
  refine F.dm sc_Scene_let_go (fun _ _ _ _ _ _ us hl => match us, hl with | [_, _], _ => rfl) (fun vs H Q E h => ?_) (fun f cdv A outer s0 H vs Q E hr hK h => ?_)
  · obtain ⟨s, day, x, ms, m, m', as, Rs, ha, rfl, _⟩ := h
    cases x <;> cases ha
    all_goals rfl
  · obtain ⟨s, day, x, ms, m, m', as, Rs, ha, rfl, S, hn, hf, k⟩ := h
    cases x with
    | free n =>
      simp only [Deed.man] at ha hn k
      cases ha
      simp only [fallM] at hf
      split at hf
      · next c =>
        cases hf
        refine ⟨_, (pss_cons (ps_set (i := 2) sc_Scene_let_go.nd rfl (Or.inl rfl) (pe_mt (pv 0) T.cl_Scene T.me_Scene_kept D_Scene_kept (hr.mono (by first | decide | omega)) pass0 (pa_cons (pv 1) pa_nil)))
      (pss_one (ps_fldC T.cl_Man T.n_Man_keeper (pv 2) pe_str rfl))), ?_⟩
        try rw [hK]
        rw [show L2.start N_Scene_let_go [.ref s, .str n] = [some (.ref s), some (.str n), none] from rfl]
        obtain ⟨dx, p, du, pw, kvs, a, dm, bo, Os, hv, S2, back⟩ := S.sceneAt hn
        clear S
        walk_at "sx"
        obtain ⟨c1, c2⟩ := c
        refine ⟨s, n, dx, p, pw, .ref du, kvs, a, dm, bo, m, _, rfl, S2, hv, c1, c2, ?_⟩
        walk_at "sx"
        exact k _ (by walk_at "pk") (back _ { m with keeper := "" } bo _ pick).s
      · cases hf
    | flee n =>
      simp only [Deed.man] at ha hn k
      cases ha
      simp only [fallM] at hf
      split at hf
      · next c =>
        cases hf
        refine ⟨_, (pss_cons (ps_set (i := 2) sc_Scene_let_go.nd rfl (Or.inl rfl) (pe_mt (pv 0) T.cl_Scene T.me_Scene_kept D_Scene_kept (hr.mono (by first | decide | omega)) pass0 (pa_cons (pv 1) pa_nil)))
      (pss_one (ps_fldC T.cl_Man T.n_Man_keeper (pv 2) pe_str rfl))), ?_⟩
        try rw [hK]
        rw [show L2.start N_Scene_let_go [.ref s, .str n] = [some (.ref s), some (.str n), none] from rfl]
        obtain ⟨dx, p, du, pw, kvs, a, dm, bo, Os, hv, S2, back⟩ := S.sceneAt hn
        clear S
        walk_at "sx"
        obtain ⟨c1, c2⟩ := c
        refine ⟨s, n, dx, p, pw, .ref du, kvs, a, dm, bo, m, _, rfl, S2, hv, c1, c2, ?_⟩
        walk_at "sx"
        exact k _ (by walk_at "pk") (back _ { m with keeper := "" } bo _ pick).s
      · cases hf
    | _ => cases ha
theorem D_Scene_graded (T : Txt K mg) (D_Scene_living : DnM P w K mg base CX0 1 (He.ma K (He.ga K "Scene") "living") ["self", "name"] (spLiving K)) (F : Mf K "Scene" "graded" "Scene.graded" s_Scene_graded) : DnM P w K mg base CX0 2 (He.ma K (He.ga K "Scene") "graded") ["self", "name", "grade"] (spFall K aRank) := by
  refine F.dm sc_Scene_graded (fun _ _ _ _ _ _ us hl => match us, hl with | [_, _, _], _ => rfl) (fun vs H Q E h => ?_) (fun f cdv A outer s0 H vs Q E hr hK h => ?_)
  · obtain ⟨s, day, x, ms, m, m', as, Rs, ha, rfl, _⟩ := h
    cases x <;> cases ha
    all_goals rfl
  · obtain ⟨s, day, x, ms, m, m', as, Rs, ha, rfl, S, hn, hf, k⟩ := h
    cases x with
    | rank n r =>
      simp only [Deed.man] at ha hn k
      cases ha
      simp only [fallM] at hf
      split at hf
      · next c =>
        cases hf
        refine ⟨_, (pss_cons (ps_set (i := 3) sc_Scene_graded.nd rfl (Or.inl rfl) (pe_mt (pv 0) T.cl_Scene T.me_Scene_living D_Scene_living (hr.mono (by first | decide | omega)) pass0 (pa_cons (pv 1) pa_nil)))
      (pss_one (ps_fldC T.cl_Man T.n_Man_grade (pv 3) (pv 2) rfl))), ?_⟩
        try rw [hK]
        rw [show L2.start N_Scene_graded [.ref s, .str n, .int r] = [some (.ref s), some (.str n), some (.int r), none] from rfl]
        obtain ⟨dx, p, du, pw, kvs, a, dm, bo, Os, hv, S2, back⟩ := S.sceneAt hn
        clear S
        walk_at "sx"
        refine ⟨s, n, dx, p, pw, .ref du, kvs, a, dm, bo, m, _, rfl, S2, hv, c, ?_⟩
        walk_at "sx"
        exact k _ (by walk_at "pk") (back _ { m with grade := r } bo _ pick).s
      · cases hf
    | _ => cases ha
theorem D_Scene_dies (T : Txt K mg) (D_Scene_living : DnM P w K mg base CX0 1 (He.ma K (He.ga K "Scene") "living") ["self", "name"] (spLiving K)) (F : Mf K "Scene" "dies" "Scene.dies" s_Scene_dies) : DnM P w K mg base CX0 2 (He.ma K (He.ga K "Scene") "dies") ["self", "name"] (spFall K aDie) := by
  refine F.dm sc_Scene_dies (fun _ _ _ _ _ _ us hl => match us, hl with | [_, _], _ => rfl) (fun vs H Q E h => ?_) (fun f cdv A outer s0 H vs Q E hr hK h => ?_)
  · obtain ⟨s, day, x, ms, m, m', as, Rs, ha, rfl, _⟩ := h
    cases x <;> cases ha
    all_goals rfl
  · obtain ⟨s, day, x, ms, m, m', as, Rs, ha, rfl, S, hn, hf, k⟩ := h
    cases x with
    | die n =>
      simp only [Deed.man] at ha hn k
      cases ha
      simp only [fallM] at hf
      split at hf
      · next c =>
        cases hf
        refine ⟨_, (pss_cons (ps_set (i := 2) sc_Scene_dies.nd rfl (Or.inl rfl) (pe_mt (pv 0) T.cl_Scene T.me_Scene_living D_Scene_living (hr.mono (by first | decide | omega)) pass0 (pa_cons (pv 1) pa_nil)))
      (pss_cons (ps_fldC T.cl_Man T.n_Man_dead (pv 2) pe_bl rfl)
      (pss_cons (ps_fldC T.cl_Man T.n_Man_keeper (pv 2) pe_str rfl)
      (pss_one (ps_fldC T.cl_Man T.n_Man_bonds (pv 2) (pe_dnewK) rfl))))), ?_⟩
        try rw [hK]
        rw [show L2.start N_Scene_dies [.ref s, .str n] = [some (.ref s), some (.str n), none] from rfl]
        obtain ⟨dx, p, du, pw, kvs, a, dm, bo, Os, hv, S2, back⟩ := S.sceneAt hn
        clear S
        walk_at "sx"
        refine ⟨s, n, dx, p, pw, .ref du, kvs, a, dm, bo, m, _, rfl, S2, hv, c, ?_⟩
        walk_at "sx"
        rename_i bo2 H7 pk7 S7 H8 pk8 S8
        exact k _ (by walk_at "pk") (back _ { m with dead := true, keeper := "", bonds := [] } bo2 _ pick).s
      · cases hf
    | _ => cases ha
end

section
variable {P : Program} {w : World} {K : PySem.W.Frag} {mg : Str → Option Value} {base : Heap}
def spNever : Sp := fun _ _ _ _ => False
theorem D_Scene_befalls (T : Txt K mg) (D_Scene_taken : DnM P w K mg base CX0 2 (He.ma K (He.ga K "Scene") "taken") ["self", "day", "name", "side"] (spFall K aTake)) (D_Scene_sent : DnM P w K mg base CX0 3 (He.ma K (He.ga K "Scene") "sent") ["self", "name"] (spFall K aWord)) (D_Scene_let_go : DnM P w K mg base CX0 3 (He.ma K (He.ga K "Scene") "let_go") ["self", "name"] (spFall K aGo))
    (D_Scene_graded : DnM P w K mg base CX0 2 (He.ma K (He.ga K "Scene") "graded") ["self", "name", "grade"] (spFall K aRank)) (D_Scene_dies : DnM P w K mg base CX0 2 (He.ma K (He.ga K "Scene") "dies") ["self", "name"] (spFall K aDie)) (D_Scene_swapped : DnM P w K mg base CX0 1 (He.ma K (He.ga K "Scene") "swapped") ["self", "one", "other", "ones", "others"] spNever)
    (F : Mf K "Scene" "befalls" "Scene.befalls" s_Scene_befalls) : DnM P w K mg base CX0 4 (He.ma K (He.ga K "Scene") "befalls") ["self", "day", "deed"] (spBefalls K) := by
  refine F.dm sc_Scene_befalls (fun _ _ _ _ _ _ us hl => match us, hl with | [_, _, _], _ => rfl) (fun vs H Q E h => ?_) (fun f cdv A outer s0 H vs Q E hr hK h => ?_)
  · obtain ⟨s, q, day, x, ms, m, m', Rs, rfl, _⟩ := h
    rfl
  · obtain ⟨s, q, day, x, ms, m, m', Rs, rfl, hq, S, hn, hf, k⟩ := h
    refine ⟨_, (pss_one (ps_if (pt_cmpR op_eq (pe_ix ix_tup (pv 2) pe_int (fun _ _ => rfl)) pe_str (nomark _)) (pss_one (ps_expr (pe_mt (pv 0) T.cl_Scene T.me_Scene_taken D_Scene_taken (hr.mono (by first | decide | omega)) pass0 (pa_cons (pv 1) (pa_cons (pe_ix ix_tup (pv 2) pe_int (fun _ _ => rfl)) (pa_cons (pe_ix ix_tup (pv 2) pe_int (fun _ _ => rfl)) pa_nil)))))) (pss_one (ps_if (pt_cmpR op_eq (pe_ix ix_tup (pv 2) pe_int (fun _ _ => rfl)) pe_str (nomark _)) (pss_one (ps_expr (pe_mt (pv 0) T.cl_Scene T.me_Scene_sent D_Scene_sent (hr.mono (by first | decide | omega)) pass0 (pa_cons (pe_ix ix_tup (pv 2) pe_int (fun _ _ => rfl)) pa_nil)))) (pss_one (ps_if (pt_cmpR op_eq (pe_ix ix_tup (pv 2) pe_int (fun _ _ => rfl)) pe_str (nomark _)) (pss_one (ps_expr (pe_mt (pv 0) T.cl_Scene T.me_Scene_graded D_Scene_graded (hr.mono (by first | decide | omega)) pass0 (pa_cons (pe_ix ix_tup (pv 2) pe_int (fun _ _ => rfl)) (pa_cons (pe_ix ix_tup (pv 2) pe_int (fun _ _ => rfl)) pa_nil))))) (pss_one (ps_if (pt_cmpR op_eq (pe_ix ix_tup (pv 2) pe_int (fun _ _ => rfl)) pe_str (nomark _)) (pss_one (ps_expr (pe_mt (pv 0) T.cl_Scene T.me_Scene_dies D_Scene_dies (hr.mono (by first | decide | omega)) pass0 (pa_cons (pe_ix ix_tup (pv 2) pe_int (fun _ _ => rfl)) pa_nil)))) (pss_one (ps_if (pt_cmpR op_eq (pe_ix ix_tup (pv 2) pe_int (fun _ _ => rfl)) pe_str (nomark _)) (pss_one (ps_expr (pe_mt (pv 0) T.cl_Scene T.me_Scene_swapped D_Scene_swapped (hr.mono (by first | decide | omega)) pass0 (pa_cons (pe_ix ix_tup (pv 2) pe_int (fun _ _ => rfl)) (pa_cons (pe_ix ix_tup (pv 2) pe_int (fun _ _ => rfl)) (pa_cons (pe_ix ix_tup (pv 2) pe_int (fun _ _ => rfl)) (pa_cons (pe_ix ix_tup (pv 2) pe_int (fun _ _ => rfl)) pa_nil))))))) (pss_one (ps_expr (pe_mt (pv 0) T.cl_Scene T.me_Scene_let_go D_Scene_let_go (hr.mono (by first | decide | omega)) pass0 (pa_cons (pe_ix ix_tup (pv 2) pe_int (fun _ _ => rfl)) pa_nil)))))))))))))), ?_⟩
    try rw [hK]
    rw [show L2.start N_Scene_befalls [.ref s, .int day, .ref q] = [some (.ref s), some (.int day), some (.ref q)] from rfl]
    have fin : ∀ H', PK H H' → Sat H' (scene K s (setM ms x.man m') :: Rs) → Q .non H' := k
    clear k
    cases x with
    | take n sd =>
        simp only [Deed.xs] at hq
        walk_at "sx"
        refine x_ifD (fun _ => ?_) (fun c => absurd rfl c)
        walk_at "sx"
        refine ⟨s, day, .take n sd, ms, m, m', [.int day, .str n, .str sd], Rs, rfl, rfl, S, hn, hf, fun H1 pk1 S1 => ?_⟩
        walk_at "sx"
        exact fin _ pk1 S1
    | word n =>
        simp only [Deed.xs] at hq
        walk_at "sx"
        refine x_ifD (fun c => absurd c (by decide)) (fun _ => ?_)
        walk_at "sx"
        refine x_ifD (fun _ => ?_) (fun c => absurd rfl c)
        walk_at "sx"
        refine ⟨s, day, .word n, ms, m, m', [.str n], Rs, rfl, rfl, S, hn, hf, fun H1 pk1 S1 => ?_⟩
        walk_at "sx"
        exact fin _ pk1 S1
    | rank n r =>
        simp only [Deed.xs] at hq
        walk_at "sx"
        refine x_ifD (fun c => absurd c (by decide)) (fun _ => ?_)
        walk_at "sx"
        refine x_ifD (fun c => absurd c (by decide)) (fun _ => ?_)
        walk_at "sx"
        refine x_ifD (fun _ => ?_) (fun c => absurd rfl c)
        walk_at "sx"
        refine ⟨s, day, .rank n r, ms, m, m', [.str n, .int r], Rs, rfl, rfl, S, hn, hf, fun H1 pk1 S1 => ?_⟩
        walk_at "sx"
        exact fin _ pk1 S1
    | die n =>
        simp only [Deed.xs] at hq
        walk_at "sx"
        refine x_ifD (fun c => absurd c (by decide)) (fun _ => ?_)
        walk_at "sx"
        refine x_ifD (fun c => absurd c (by decide)) (fun _ => ?_)
        walk_at "sx"
        refine x_ifD (fun c => absurd c (by decide)) (fun _ => ?_)
        walk_at "sx"
        refine x_ifD (fun _ => ?_) (fun c => absurd rfl c)
        walk_at "sx"
        refine ⟨s, day, .die n, ms, m, m', [.str n], Rs, rfl, rfl, S, hn, hf, fun H1 pk1 S1 => ?_⟩
        walk_at "sx"
        exact fin _ pk1 S1
    | free n =>
        simp only [Deed.xs] at hq
        walk_at "sx"
        refine x_ifD (fun c => absurd c (by decide)) (fun _ => ?_)
        walk_at "sx"
        refine x_ifD (fun c => absurd c (by decide)) (fun _ => ?_)
        walk_at "sx"
        refine x_ifD (fun c => absurd c (by decide)) (fun _ => ?_)
        walk_at "sx"
        refine x_ifD (fun c => absurd c (by decide)) (fun _ => ?_)
        walk_at "sx"
        refine x_ifD (fun c => absurd c (by decide)) (fun _ => ?_)
        walk_at "sx"
        refine ⟨s, day, .free n, ms, m, m', [.str n], Rs, rfl, rfl, S, hn, hf, fun H1 pk1 S1 => ?_⟩
        walk_at "sx"
        exact fin _ pk1 S1
    | flee n =>
        simp only [Deed.xs] at hq
        walk_at "sx"
        refine x_ifD (fun c => absurd c (by decide)) (fun _ => ?_)
        walk_at "sx"
        refine x_ifD (fun c => absurd c (by decide)) (fun _ => ?_)
        walk_at "sx"
        refine x_ifD (fun c => absurd c (by decide)) (fun _ => ?_)
        walk_at "sx"
        refine x_ifD (fun c => absurd c (by decide)) (fun _ => ?_)
        walk_at "sx"
        refine x_ifD (fun c => absurd c (by decide)) (fun _ => ?_)
        walk_at "sx"
        refine ⟨s, day, .flee n, ms, m, m', [.str n], Rs, rfl, rfl, S, hn, hf, fun H1 pk1 S1 => ?_⟩
        walk_at "sx"
        exact fin _ pk1 S1
end

/-! ### the deeds in order -/
abbrev s_in_order : Stmt := top 34
abbrev N_in_order : List Str := ["told", "number"]
theorem sc_in_order : FnScope N_in_order ["told"] (defScope s_in_order) := ⟨rfl, rfl, rfl, by decide +kernel, rfl, by decide +kernel, by decide +kernel⟩

abbrev Told := List (Int × Int × Deed)
def toldD (T : Told) : KDs := T.map fun t => (Sum.inl t.1, .tuple [.int t.2.1, .tuple t.2.2.ds])
theorem tp_xs {H : Hp} {v : V} {x : Deed} (h : Tp H v (.tuple x.ds)) : ∃ q, v = .ref q ∧ H q = some (.tup x.xs) := by
  cases x with
  | take n s => cases h with | tup e a => cases a with | cons a1 a => cases a with | cons a2 a => cases a with | cons a3 a => cases a; cases a1; cases a2; cases a3; exact ⟨_, rfl, e⟩
  | word n => cases h with | tup e a => cases a with | cons a1 a => cases a with | cons a2 a => cases a; cases a1; cases a2; exact ⟨_, rfl, e⟩
  | free n => cases h with | tup e a => cases a with | cons a1 a => cases a with | cons a2 a => cases a; cases a1; cases a2; exact ⟨_, rfl, e⟩
  | flee n => cases h with | tup e a => cases a with | cons a1 a => cases a with | cons a2 a => cases a; cases a1; cases a2; exact ⟨_, rfl, e⟩
  | die n => cases h with | tup e a => cases a with | cons a1 a => cases a with | cons a2 a => cases a; cases a1; cases a2; exact ⟨_, rfl, e⟩
  | rank n r => cases h with | tup e a => cases a with | cons a1 a => cases a with | cons a2 a => cases a with | cons a3 a => cases a; cases a1; cases a2; cases a3; exact ⟨_, rfl, e⟩
theorem xs_tp {H : Hp} {q : Addr} {x : Deed} (h : H q = some (.tup x.xs)) : Tp H (.ref q) (.tuple x.ds) := by
  cases x <;> exact .tup h (by first | exact .cons (.str _) (.cons (.str _) (.cons (.str _) .nil)) | exact .cons (.str _) (.cons (.str _) .nil) | exact .cons (.str _) (.cons (.str _) (.cons (.int _) .nil)))
/-- the triples (day, number, deed) -/
inductive TriAll (H : Hp) : List V → Told → Prop
  | nil : TriAll H [] []
  | cons {t q : Addr} {n d : Int} {x : Deed} {ys : List V} {T : Told} : H t = some (.tup [.int d, .int n, .ref q]) → H q = some (.tup x.xs) → TriAll H ys T → TriAll H (.ref t :: ys) ((n, d, x) :: T)
section
variable {H H' : Hp} {ys : List V} {T : Told}
theorem TriAll.pk (p : PK H H') (h : TriAll H ys T) : TriAll H' ys T := by
  induction h with
  | nil => exact .nil
  | cons a b _ ih => exact .cons (p.tup a) (p.tup b) ih
theorem TriAll.len (h : TriAll H ys T) : ys.length = T.length := by
  induction h with
  | nil => rfl
  | cons _ _ _ ih => exact congrArg (· + 1) ih
theorem TriAll.snoc {t q : Addr} {n d : Int} {x : Deed} (h : TriAll H ys T) (a : H t = some (.tup [.int d, .int n, .ref q])) (b : H q = some (.tup x.xs)) : TriAll H (ys ++ [.ref t]) (T ++ [(n, d, x)]) := by
  induction h with
  | nil => exact .cons a b .nil
  | cons a' b' _ ih => exact .cons a' b' ih
theorem TriAll.get {i : Nat} {y : V} (h : TriAll H ys T) (e : ys[i]? = some y) : ∃ t q n d x, y = .ref t ∧ T[i]? = some (n, d, x) ∧ H t = some (.tup [.int d, .int n, .ref q]) ∧ H q = some (.tup x.xs) := by
  induction h generalizing i with
  | nil => simp at e
  | cons a b _ ih =>
    cases i with
    | zero => cases e; exact ⟨_, _, _, _, _, rfl, rfl, a, b⟩
    | succ i => exact ih (i := i) e
def keyT (H : Hp) (y : V) : Int × Int := match y with
  | .ref t => (match H t with
    | some (.tup [.int d, .int n, _]) => (d, n)
    | _ => (0, 0))
  | _ => (0, 0)
def refT (H : Hp) (y : V) : Addr := match y with
  | .ref t => (match H t with
    | some (.tup [.int _, .int _, .ref q]) => q
    | _ => 0)
  | _ => 0
theorem keyT_eq {t q : Addr} {n d : Int} (h : H t = some (.tup [.int d, .int n, .ref q])) : keyT H (.ref t) = (d, n) ∧ refT H (.ref t) = q := by
  unfold keyT refT
  simp [h]
/-- day, then number -/
def inOrd (T : Told) : Prop := T.Pairwise fun a b => SrtO.lexB (b.2.1, b.1) (a.2.1, a.1) = false
theorem TriAll.keys (h : TriAll H ys T) : ys.map (keyT H) = T.map fun t => (t.2.1, t.1) := by
  induction h with
  | nil => rfl
  | cons a b _ ih => rw [List.map_cons, List.map_cons, ih, (keyT_eq a).1]
end
theorem TriAll.perm {H : Hp} {ys zs : List V} {T : Told} (h : TriAll H ys T) (p : zs.Perm ys) : ∃ T', T'.Perm T ∧ TriAll H zs T' := by
  replace p := p.symm
  induction p generalizing T with
  | nil => exact ⟨T, .refl _, h⟩
  | cons x _ ih =>
    cases h with
    | cons a b h =>
      obtain ⟨T', pT, h'⟩ := ih h
      exact ⟨_ :: T', pT.cons _, .cons a b h'⟩
  | swap x y l =>
    cases h with
    | cons a b h =>
      cases h with
      | cons a' b' h => exact ⟨_ :: _ :: _, .swap _ _ _, .cons a' b' (.cons a b h)⟩
  | trans _ _ ih1 ih2 =>
    obtain ⟨T1, p1, h1⟩ := ih1 h
    obtain ⟨T2, p2, h2⟩ := ih2 h1
    exact ⟨T2, p2.trans p1, h2⟩
def spInOrder (K : PySem.W.Frag) : Sp := fun vs H Q _ => ∃ (a : Addr) (T : Told) (Rs : List Res), vs = [.ref a] ∧ Sat H (dct a (toldD T) :: Rs) ∧ (T.map fun t => t.1).Nodup ∧ T.length ≤ 1000 ∧
  ∀ p ys T' H', T'.Perm T → inOrd T' → PK H H' → Sat H' (cell p (.lst ys) :: dct a (toldD T) :: Rs) → TriAll H' ys T' → Q (.ref p) H'
theorem toldD_at {H : Hp} {kvs : List (Key × V)} {T : Told} (kd : KD H kvs (toldD T)) {i : Nat} {k : Key} {v : V} (h : kvs[i]? = some (k, v)) : ∃ n d x t q, T[i]? = some (n, d, x) ∧ k = Sum.inl n ∧ v = .ref t ∧ H t = some (.tup [.int d, .ref q]) ∧ H q = some (.tup x.xs) := by
  obtain ⟨e, he, tp⟩ := kd.at_ h
  unfold toldD at he
  rw [List.getElem?_map] at he
  cases ht : T[i]? with
  | none => rw [ht] at he; cases he
  | some u =>
    obtain ⟨n, d, x⟩ := u
    rw [ht] at he
    cases he
    cases tp with
    | tup e1 a =>
      cases a with
      | cons a1 a =>
        cases a with
        | cons a2 a =>
          cases a
          cases a1
          obtain ⟨q, rfl, hq⟩ := tp_xs a2
          exact ⟨n, d, x, _, q, rfl, rfl, rfl, e1, hq⟩
theorem toldD_nodup {H : Hp} {kvs : List (Key × V)} {T : Told} (kd : KD H kvs (toldD T)) (nd : (T.map fun t => t.1).Nodup) : (kvs.map (·.1)).Nodup := by
  have e : kvs.map (·.1) = (T.map fun t => t.1).map Sum.inl := by
    have h : ∀ {kvs : List (Key × V)} {kds : KDs}, KD H kvs kds → kvs.map (·.1) = kds.map (·.1) := by
      intro kvs kds r
      induction r with
      | nil => rfl
      | cons a _ ih => rw [List.map_cons, List.map_cons, ih]
    rw [h kd]
    unfold toldD
    rw [List.map_map, List.map_map]
    rfl
  rw [e]
  exact (List.pairwise_map.mpr (nd.imp fun h e => h (Sum.inl.inj e)))
section
variable {P : Program} {w : World} {K : PySem.W.Frag} {mg : Str → Option Value} {base : Heap}
theorem D_in_order (T : Txt K mg) (F : Df K mg "in_order" s_in_order) : Dn P w K mg base CX0 1 "in_order" ["told"] (spInOrder K) := by
  refine F.dn sc_in_order (fun _ _ _ _ _ _ us hl => match us, hl with | [_], _ => rfl) (fun vs H Q E h => ?_) (fun f cdv A outer s H vs Q E hr hK h => ?_)
  · obtain ⟨a, Td, Rs, rfl, _⟩ := h
    rfl
  · obtain ⟨a, Td, Rs, rfl, S, nd, hlen, k⟩ := h
    refine ⟨_, (pss_one (ps_ret (pe_callB cr_sortedTri rfl T.m_sorted boot_sorted (pa_cons (pe_lock (pe_lc (own := [("number", 1)]) (g := gName 1) (tt := tYes) rfl sc_in_order.nd (pi_keys (pv 0)) (blkOk_by (own := [("number", 1)]) (N := N_in_order) (sc := defScope s_in_order) (by decide +kernel)) (fun _ _ _ _ _ => pg_name (i := 1) sc_in_order.nd rfl (Or.inl rfl)) (fun _ _ _ _ _ => pts_nil) (fun _ _ _ _ _ => (pe_tup (pa_cons (pe_ix (r := rIxT K) ix_tup (pe_dget (hu_of hr) (pv 0) (pv 1) (fun _ _ => rfl)) pe_int (fun _ _ => rfl)) (pa_cons (pv 1) (pa_cons (pe_ix (r := rIxT K) ix_tup (pe_dget (hu_of hr) (pv 0) (pv 1) (fun _ _ => rfl)) pe_int (fun _ _ => rfl)) pa_nil))))))) pa_nil)))), ?_⟩
    try rw [hK]
    rw [show L2.start N_in_order [.ref a] = [some (.ref a), none] from rfl]
    walk_at "sx"
    refine x_lockE a fun ob kvs H1 pk1 kd S1 => ?_
    have hl : kvs.length = Td.length := by rw [kd.len]; unfold toldD; rw [List.length_map]
    have nd2 := toldD_nodup kd nd
    walk_at "sx"
    refine x_lcQ walk_keys (fun D i H' => PK H1 H' ∧ ∃ ys, Sat H' (cell D (.lst ys) :: cell a (.frz ob (.dK kvs)) :: Rs) ∧ TriAll H' ys (Td.take i)) (fun D hD => ⟨PK.of_ex (Ex.new hD), [], S1.new hD, .nil⟩) (fun D i H' _ h => ?_) (fun D i x H2 H3 hi h y => ?_) (fun D H2 h => ?_)
    · obtain ⟨_, ys, S2, _⟩ := h
      exact sat_at
    · obtain ⟨pk2, ys, S2, tr⟩ := h
      obtain ⟨rfl, ky, v, hk, rfl⟩ := y
      obtain ⟨n, d, x, t, q, ht, rfl, rfl, h1, h2⟩ := toldD_at kd hk
      have hv := valV_nodup nd2 hk
      have h1' := pk2.tup h1
      have h2' := pk2.tup h2
      clear S1 S
      simp only [kV]
      walk_at "sx"
      refine x_dgF hv ?_
      walk_at "sx"
      refine x_dgF hv ?_
      walk_at "sx"
      rename_i p4 H4 pk4 S4 h4
      have hz : ys.length < sizeLine := by rw [tr.len, List.length_take, sizeLine_eq]; omega
      refine x_eltS hz fun H5 pk5 S5 => ⟨pk2.trans (pk4.trans pk5), _, S5, ?_⟩
      have e1 : Td.take (i + 1) = Td.take i ++ [(n, d, x)] := by rw [List.take_succ, ht]; rfl
      rw [e1]
      exact ((tr.pk pk4).pk pk5).snoc (pk5.tup h4) ((pk4.trans pk5).tup h2')
    · obtain ⟨pk2, ys, S2, tr⟩ := h
      have e1 : Td.take kvs.length = Td := by rw [hl]; exact List.take_length
      rw [e1] at tr
      clear S1 S
      refine x_unlockV (kd.pk pk2) fun H3 pk3 S3 => ?_
      have tr3 := tr.pk pk3
      clear S2
      walk_at "sx"
      have ke := tr3.keys
      refine ⟨D, ys, keyT H3, refT H3, rfl, SqL.of sat_at, fun y hy => ?_, fun y hy z hz2 e => ?_, fun zs p hs hb hp => ?_⟩
      · obtain ⟨i, hi⟩ := List.getElem?_of_mem hy
        obtain ⟨t, q, n, d, x, rfl, _, h1, _⟩ := tr3.get hi
        rw [(keyT_eq h1).1, (keyT_eq h1).2]
        exact ⟨t, rfl, h1⟩
      · obtain ⟨i, hi⟩ := List.getElem?_of_mem hy
        obtain ⟨j, hj⟩ := List.getElem?_of_mem hz2
        obtain ⟨t, q, n, d, x, rfl, hti, h1, _⟩ := tr3.get hi
        obtain ⟨t2, q2, n2, d2, x2, rfl, htj, h2, _⟩ := tr3.get hj
        rw [(keyT_eq h1).1, (keyT_eq h2).1] at e
        have en : n = n2 := congrArg Prod.snd e
        subst en
        have eij : i = j := by
          have a1 : (Td.map fun t => t.1)[i]? = some n := by rw [List.getElem?_map, hti]; rfl
          have a2 : (Td.map fun t => t.1)[j]? = some n := by rw [List.getElem?_map, htj]; rfl
          exact (List.getElem?_inj (List.getElem?_eq_some_iff.mp a1).1 nd).mp (a1.trans a2.symm)
        subst eij
        rw [hi] at hj
        rw [Option.some.inj hj]
      · obtain ⟨T', pT, tr4⟩ := tr3.perm hb.perm
        have od : inOrd T' := by
          have hm : (zs.map (keyT H3)).Pairwise fun a b => SrtO.lexB b a = false := List.pairwise_map.mpr hs
          rw [tr4.keys] at hm
          exact List.pairwise_map.mp hm
        exact k p zs T' _ pT od (pk1.trans (pk2.trans (pk3.trans (PK.of_ex (Ex.new hp))))) ((S3.new hp).pick) (tr4.pk (PK.of_ex (Ex.new hp)))
end

/-! ### a scene set up and run through -/
abbrev s_Scene___init__ : Stmt := inClass (top 33) 0
abbrev N_Scene___init__ : List Str := ["self", "folk", "pacts", "name"]
theorem sc_Scene___init__ : FnScope N_Scene___init__ ["self", "folk", "pacts"] (defScope s_Scene___init__) := ⟨rfl, rfl, rfl, by decide +kernel, rfl, by decide +kernel, by decide +kernel⟩
abbrev s_look_through : Stmt := top 36
abbrev N_look_through : List Str := ["folk", "pacts", "told", "fresh", "scene", "when", "number", "deed"]
theorem sc_look_through : FnScope N_look_through ["folk", "pacts", "told", "fresh"] (defScope s_look_through) := ⟨rfl, rfl, rfl, by decide +kernel, rfl, by decide +kernel, by decide +kernel⟩

def crew0 (F : FolkL) : Crew := F.map fun f => (f.1, man0 f.2.1 f.2.2)
def fallC (d : Int) (x : Deed) (ms : Crew) : Option Crew := (findM ms x.man).bind fun m => (fallM d x m).map (setM ms x.man)
def runD : Told → Crew → Option Crew
  | [], ms => some ms
  | t :: r, ms => (fallC t.2.1 t.2.2 ms).bind (runD r)
def upto (day : Int) (T : Told) : Told := T.filter fun t => decide (t.2.1 ≤ day)
theorem mans_app {C : Addr} {kv : Key × V} {nm : Str × MSt} : ∀ {kvs : List (Key × V)} {ms : Crew}, kvs.length = ms.length → mans C (kvs ++ [kv]) (ms ++ [nm]) = mans C kvs ms ++ [man C kv.2 nm.2]
  | [], [], _ => rfl
  | _ :: kvs, _ :: ms, h => congrArg (_ :: ·) (mans_app (kvs := kvs) (ms := ms) (by simpa using h))
  | [], _ :: _, h => by simp at h
  | _ :: _, [], h => by simp at h
theorem folkD_at {H : Hp} {kvs : List (Key × V)} {F : FolkL} (kd : KD H kvs (folkD F)) {i : Nat} {k : Key} {v : V} (h : kvs[i]? = some (k, v)) : ∃ n sd g t, F[i]? = some (n, sd, g) ∧ k = Sum.inr n ∧ v = .ref t ∧ H t = some (.tup [.str sd, .int g]) := by
  obtain ⟨e, he, tp⟩ := kd.at_ h
  unfold folkD at he
  rw [List.getElem?_map] at he
  cases ht : F[i]? with
  | none => rw [ht] at he; cases he
  | some u =>
    obtain ⟨n, sd, g⟩ := u
    rw [ht] at he
    cases he
    cases tp with
    | tup e1 a =>
      cases a with
      | cons a1 a =>
        cases a with
        | cons a2 a =>
          cases a
          cases a1
          cases a2
          exact ⟨n, sd, g, _, rfl, rfl, rfl, e1⟩
theorem kd_keys {H : Hp} {kvs : List (Key × V)} {kds : KDs} (r : KD H kvs kds) : kvs.map (·.1) = kds.map (·.1) := by
  induction r with
  | nil => rfl
  | cons a _ ih => rw [List.map_cons, List.map_cons, ih]
theorem folkD_keys (F : FolkL) : (folkD F).map (·.1) = F.map fun f => (Sum.inr f.1 : Key) := by
  unfold folkD
  rw [List.map_map]
  rfl
theorem not_in_take {l : List Str} {i : Nat} {n : Str} (nd : l.Nodup) (h : l[i]? = some n) : n ∉ l.take i := fun hm => by
  obtain ⟨j, hj⟩ := List.getElem?_of_mem hm
  rw [List.getElem?_take] at hj
  split at hj
  · next c =>
    have := (List.getElem?_inj (List.getElem?_eq_some_iff.mp hj).1 nd).mp (hj.trans h.symm)
    omega
  · cases hj
def spSceneInit (K : PySem.W.Frag) : Sp := fun vs H Q _ => ∃ (s dx fo : Addr) (pw : V) (F : FolkL) (Rs : List Res), vs = [.ref s, .ref fo, pw] ∧ Sat H (cell s (.ins (CS K) dx []) :: dct fo (folkD F) :: Rs) ∧ (F.map fun f => f.1).Nodup ∧ F.length ≤ 1000 ∧
  ∀ H', PK H H' → Sat H' (scene K s (crew0 F) :: dct fo (folkD F) :: Rs) → Q .non H'
section
variable {P : Program} {w : World} {K : PySem.W.Frag} {mg : Str → Option Value} {base : Heap}
theorem D_Scene_init (T : Txt K mg) (D_Man___init__ : DnM P w K mg base CX0 1 (He.ma K (He.ga K "Man") "__init__") ["self", "home", "grade"] (spManInit K)) (F : Mf K "Scene" "__init__" "Scene.__init__" s_Scene___init__) : DnM P w K mg base CX0 3 (He.ma K (He.ga K "Scene") "__init__") ["self", "folk", "pacts"] (spSceneInit K) := by
  refine F.dm sc_Scene___init__ (fun _ _ _ _ _ _ us hl => match us, hl with | [_, _, _], _ => rfl) (fun vs H Q E h => ?_) (fun f cdv A outer s0 H vs Q E hr hK h => ?_)
  · obtain ⟨s, dx, fo, pw, Fo, Rs, rfl, _⟩ := h
    rfl
  · obtain ⟨s, dx, fo, pw, Fo, Rs, rfl, S, nd, hlen, k⟩ := h
    refine ⟨_, (pss_cons (ps_fldC T.cl_Scene T.n_Scene_crew (pv 0) (pe_dnewK) rfl)
      (pss_cons (ps_lock (ps_for PassesOwn.never rfl (pi_keys (pv 1)) (pg_name (i := 3) sc_Scene___init__.nd rfl (Or.inl rfl)) (pss_one (ps_dput (hu_of hr) (pe_fldC T.cl_Scene T.n_Scene_crew (pv 0) rfl) (pv 3) (pe_mk T.mk_Man D_Man___init__ (hr.mono (by first | decide | omega)) pass0 T.g_Man (pa_cons (pe_ix ix_tup (pe_dget (hu_of hr) (pv 1) (pv 3) (fun _ _ => rfl)) pe_int (fun _ _ => rfl)) (pa_cons (pe_ix ix_tup (pe_dget (hu_of hr) (pv 1) (pv 3) (fun _ _ => rfl)) pe_int (fun _ _ => rfl)) pa_nil))) rfl))))
      (pss_cons (ps_fldC T.cl_Scene T.n_Scene_pacts (pv 0) (pv 2) rfl)
      (pss_one (ps_fldC T.cl_Scene T.n_Scene_dues (pv 0) (pe_dnewK) rfl))))), ?_⟩
    try rw [hK]
    rw [show L2.start N_Scene___init__ [.ref s, .ref fo, pw] = [some (.ref s), some (.ref fo), some (pw), none] from rfl]
    walk_at "sx"
    rename_i p H1 pk1 S1 H2 pk2 S2
    clear S S1
    refine x_lock fo fun ob kvs H3 pk3 kd S3 => ?_
    clear S2
    have hl : kvs.length = Fo.length := by rw [kd.len]; unfold folkD; rw [List.length_map]
    have kk : kvs.map (·.1) = Fo.map fun f => (Sum.inr f.1 : Key) := (kd_keys kd).trans (folkD_keys Fo)
    have nd2 : (kvs.map (·.1)).Nodup := by
      rw [kk]
      exact List.pairwise_map.mpr ((List.pairwise_map.mp nd).imp fun h e => h (Sum.inr.inj e))
    obtain ⟨k0, S4, kd0⟩ := Sat.dctE S3
    cases kd0
    have S5 : Sat H3 (crewR (CM K) p [] :: cell s (.ins (CS K) dx [("crew", .ref p)]) :: cell fo (.frz ob (.dK kvs)) :: Rs) := G.Sat.crewI (kvs := []) rfl (Sat.swap (Sat.close (As := []) S4))
    clear S3 S4
    walk_at "sx"
    refine x_forQ walk_keys (fun i σ H' => PK H3 H' ∧ (∃ v : Option V, σ = [some (.ref s), some (.ref fo), some pw, v]) ∧ Sat H' (crewR (CM K) p (crew0 (Fo.take i)) :: cell s (.ins (CS K) dx [("crew", .ref p)]) :: cell fo (.frz ob (.dK kvs)) :: Rs)) ⟨PK.refl, ⟨_, rfl⟩, S5⟩ (fun i σ H' _ h => ?_) (fun i x σ H4 H5 hi h y => ?_) (fun σ H4 h => ?_)
    · obtain ⟨_, _, S6⟩ := h
      exact sat_at
    · obtain ⟨pk4, ⟨v, rfl⟩, S6⟩ := h
      obtain ⟨rfl, ky, u, hk, rfl⟩ := y
      clear S5
      obtain ⟨n, sd, g, t, hf, rfl, rfl, ht⟩ := folkD_at kd hk
      have hv := valV_nodup nd2 hk
      have ht' := pk4.tup ht
      obtain ⟨kc, ec, S7⟩ := S6.crewE
      clear S6
      simp only [kV]
      walk_at "sx"
      refine x_dgF hv ?_
      walk_at "sx"
      refine x_dgF hv ?_
      walk_at "sx"
      rename_i a dm H6 pk6 S8
      clear S7
      refine ⟨a, dm, sd, g, _, rfl, S8, fun H7 pk7 S9 => ?_⟩
      clear S8
      walk_at "sx"
      have hkl : kc.length = (crew0 (Fo.take i)).length := by
        have := congrArg List.length ec
        rw [List.length_map, List.length_map] at this
        exact this
      have hkl2 : kc.length ≤ 1000 := by
        rw [hkl]
        unfold crew0
        rw [List.length_map, List.length_take]
        omega
      refine x_dpC (by rw [sizeLine_eq]; omega) fun H8 pk8 S10 => ?_
      clear S9
      have nf : valV kc (.inr n) = none := by
        cases e : valV kc (.inr n) with
        | none => rfl
        | some z =>
          have h1 : (valV kc (.inr n)).isSome = true := by rw [e]; rfl
          rw [← valV_any] at h1
          obtain ⟨kv, m1, m2⟩ := List.any_eq_true.mp h1
          have m3 : (Sum.inr n : Key) ∈ kc.map (fun kv => kv.1) := List.mem_map.mpr ⟨kv, m1, of_decide_eq_true m2⟩
          rw [ec] at m3
          obtain ⟨nm, m4, m5⟩ := List.mem_map.mp m3
          unfold crew0 at m4
          obtain ⟨ff, m6, rfl⟩ := List.mem_map.mp m4
          have m7 : ff.1 = n := Sum.inr.inj m5
          have m8 : n ∈ (Fo.map fun f => f.1).take i := by
            rw [← List.map_take]
            exact List.mem_map.mpr ⟨ff, m6, m7⟩
          exact absurd m8 (not_in_take nd (by rw [List.getElem?_map, hf]; rfl))
      rw [putK_new _ nf] at S10
      have e1 : crew0 (Fo.take (i + 1)) = crew0 (Fo.take i) ++ [(n, man0 sd g)] := by
        have e2 : Fo.take (i + 1) = Fo.take i ++ [(n, sd, g)] := by rw [List.take_succ, hf]; rfl
        unfold crew0
        rw [e2, List.map_append]
        rfl
      have S11 : Sat H8 (star (mans (CM K) kc (crew0 (Fo.take i))) :: man (CM K) (.ref a) (man0 sd g) :: cell p (.dK (kc ++ [(.inr n, .ref a)])) :: cell s (.ins (CS K) dx [("crew", .ref p)]) :: cell fo (.frz ob (.dK kvs)) :: Rs) := S10.pick
      clear S10
      have S12 := S11.open_
      have S13 : Sat H8 ((mans (CM K) (kc ++ [(.inr n, .ref a)]) (crew0 (Fo.take i) ++ [(n, man0 sd g)])) ++ (cell p (.dK (kc ++ [(.inr n, .ref a)])) :: cell s (.ins (CS K) dx [("crew", .ref p)]) :: cell fo (.frz ob (.dK kvs)) :: Rs)) := by
        rw [mans_app hkl, List.append_assoc]
        exact S12
      have S14 := S13.close.swap
      refine ⟨pk4.trans (pk6.trans (pk7.trans pk8)), ⟨_, rfl⟩, ?_⟩
      rw [e1]
      refine G.Sat.crewI ?_ S14
      rw [List.map_append, List.map_append, ec]
      rfl
    · obtain ⟨pk4, ⟨v, rfl⟩, S6⟩ := h
      clear S5
      have e1 : Fo.take kvs.length = Fo := by rw [hl]; exact List.take_length
      rw [e1] at S6
      refine x_unlock (kd.pk pk4) fun H5 pk5 S7 => ?_
      clear S6
      walk_at "sx"
      rename_i H8 pk8 S8 du H9 pk9 S9 H10 pk10 S10
      exact k _ (by walk_at "pk") (G.Sat.sceneI (dx := dx) (p := p) (du := du) (pv := pw) pick)
def spLook (K : PySem.W.Frag) : Sp := fun vs H Q _ => ∃ (fo to : Addr) (pw z : V) (F : FolkL) (Td : Told) (Rs : List Res), vs = [.ref fo, pw, .ref to, z] ∧ Sat H (dct fo (folkD F) :: dct to (toldD Td) :: Rs) ∧
  (F.map fun f => f.1).Nodup ∧ F.length ≤ 1000 ∧ (Td.map fun t => t.1).Nodup ∧ Td.length ≤ 1000 ∧ (∀ T', T'.Perm Td → inOrd T' → ∃ ms, runD T' (crew0 F) = some ms) ∧
  ∀ H', PK H H' → Sat H' (dct fo (folkD F) :: dct to (toldD Td) :: Rs) → Q .non H'
theorem fall_of {d : Int} {x : Deed} {ms ms' : Crew} (h : fallC d x ms = some ms') : ∃ m m', findM ms x.man = some m ∧ fallM d x m = some m' ∧ ms' = setM ms x.man m' := by
  unfold fallC at h
  cases e : findM ms x.man with
  | none => rw [e] at h; cases h
  | some m =>
    rw [e] at h
    cases e2 : fallM d x m with
    | none => simp [e2] at h
    | some m' =>
      simp [e2] at h
      exact ⟨m, m', rfl, e2, h.symm⟩
end

/-! ### a book looked through, and changed -/
section
variable {P : Program} {w : World} {K : PySem.W.Frag} {mg : Str → Option Value} {base : Heap}
theorem D_look_through (T : Txt K mg) (D_Scene___init__ : DnM P w K mg base CX0 3 (He.ma K (He.ga K "Scene") "__init__") ["self", "folk", "pacts"] (spSceneInit K)) (D_Scene_befalls : DnM P w K mg base CX0 4 (He.ma K (He.ga K "Scene") "befalls") ["self", "day", "deed"] (spBefalls K)) (D_in_order : Dn P w K mg base CX0 1 "in_order" ["told"] (spInOrder K)) (F : Df K mg "look_through" s_look_through) : Dn P w K mg base CX0 5 "look_through" ["folk", "pacts", "told", "fresh"] (spLook K) := by
  refine F.dn sc_look_through (fun _ _ _ _ _ _ us hl => match us, hl with | [_, _, _, _], _ => rfl) (fun vs H Q E h => ?_) (fun f cdv A outer s0 H vs Q E hr hK h => ?_)
  · obtain ⟨fo, to, pw, z, Fo, Td, Rs, rfl, _⟩ := h
    rfl
  · obtain ⟨fo, to, pw, z, Fo, Td, Rs, rfl, S, nd, hlen, nd2, hlen2, hrun, k⟩ := h
    refine ⟨_, (pss_cons (ps_set (i := 4) sc_look_through.nd rfl (Or.inl rfl) (pe_mk T.mk_Scene D_Scene___init__ (hr.mono (by first | decide | omega)) pass0 T.g_Scene (pa_cons (pv 0) (pa_cons (pv 1) pa_nil))))
      (pss_one (ps_for PassesOwn.never rfl (pi_list (pe_dn D_in_order (hr.mono (by first | decide | omega)) pass0 (pa_cons (pv 2) pa_nil))) (pg_tup rfl (pgs_cons (pg_name (i := 5) sc_look_through.nd rfl (Or.inl rfl)) (pgs_cons (pg_name (i := 6) sc_look_through.nd rfl (Or.inl rfl)) (pgs_cons (pg_name (i := 7) sc_look_through.nd rfl (Or.inl rfl)) pgs_nil)))) (pss_one (ps_try_thru0 (pss_one (ps_expr (pe_mt (pv 4) T.cl_Scene T.me_Scene_befalls D_Scene_befalls (hr.mono (by first | decide | omega)) pass0 (pa_cons (pv 5) (pa_cons (pv 7) pa_nil)))))))))), ?_⟩
    try rw [hK]
    rw [show L2.start N_look_through [.ref fo, pw, .ref to, z] = [some (.ref fo), some (pw), some (.ref to), some (z), none, none, none, none] from rfl]
    walk_at "sx"
    rename_i s dx H1 pk1 S1
    refine ⟨s, dx, fo, pw, Fo, _, rfl, S1.pick (Ss := cell s (.ins (CS K) dx []) :: dct fo (folkD Fo) :: dct to (toldD Td) :: Rs), nd, hlen, fun H2 pk2 S2 => ?_⟩
    clear S S1
    walk_at "sx"
    refine ⟨to, Td, _, rfl, S2.pick (Ss := dct to (toldD Td) :: scene K s (crew0 Fo) :: dct fo (folkD Fo) :: Rs), nd2, hlen2, fun p ys T' H3 pT od pk3 S3 tr => ?_⟩
    obtain ⟨ms, hrun⟩ := hrun T' pT od
    clear S2
    walk_at "sx"
    refine x_forQ (walk_list (xs := ys)) (fun i σ H' => PK H3 H' ∧ (∃ v1 v2 v3 : Option V, σ = [some (.ref fo), some pw, some (.ref to), some z, some (.ref s), v1, v2, v3]) ∧ ∃ ms0, runD (T'.drop i) ms0 = some ms ∧ Sat H' (scene K s ms0 :: cell p (.lst ys) :: dct to (toldD Td) :: dct fo (folkD Fo) :: Rs)) ⟨PK.refl, ⟨_, _, _, rfl⟩, _, by rw [List.drop_zero]; exact hrun, pick⟩ (fun i σ H' _ h => ?_) (fun i x σ H4 H5 hi h y => ?_) (fun σ H4 h => ?_)
    · obtain ⟨_, _, _, _, S6⟩ := h
      exact SqL.of sat_at
    · obtain ⟨pk4, ⟨v1, v2, v3, rfl⟩, ms0, hr0, S6⟩ := h
      obtain ⟨rfl, hx⟩ := y
      clear S3
      obtain ⟨t, q, n, d, xx, rfl, hT, ht, hq⟩ := tr.get hx
      have ht' := pk4.tup ht
      have hq' := pk4.tup hq
      have hd : T'.drop i = (n, d, xx) :: T'.drop (i + 1) := by
        obtain ⟨h1, h2⟩ := List.getElem?_eq_some_iff.mp hT
        rw [List.drop_eq_getElem_cons h1, h2]
      walk_at "sx"
      rw [hd] at hr0
      unfold runD at hr0
      cases hf : fallC d xx ms0 with
      | none => simp [hf] at hr0
      | some ms1 =>
        simp [hf] at hr0
        obtain ⟨m, m', h1, h2, rfl⟩ := fall_of hf
        refine ⟨s, q, d, xx, ms0, m, m', _, rfl, hq', S6, h1, h2, fun H7 pk7 S7 => ?_⟩
        clear S6
        walk_at "sx"
        exact ⟨pk4.trans pk7, ⟨_, _, _, rfl⟩, _, hr0, S7⟩
    · obtain ⟨pk4, ⟨v1, v2, v3, rfl⟩, ms0, hr0, S6⟩ := h
      clear S3
      rw [tr.len, List.drop_length] at hr0
      cases hr0
      walk_at "sx"
      exact k _ (by walk_at "pk") pick
end

/-! ### deeds told, struck, redated -/
abbrev s_Book_enter : Stmt := inClass (top 54) 13
abbrev N_Book_enter : List Str := ["self", "day", "deed", "number", "told"]
theorem sc_Book_enter : FnScope N_Book_enter ["self", "day", "deed"] (defScope s_Book_enter) := ⟨rfl, rfl, rfl, by decide +kernel, rfl, by decide +kernel, by decide +kernel⟩
abbrev s_Book_need_man : Stmt := inClass (top 54) 6
abbrev N_Book_need_man : List Str := ["self", "name"]
theorem sc_Book_need_man : FnScope N_Book_need_man ["self", "name"] (defScope s_Book_need_man) := ⟨rfl, rfl, rfl, by decide +kernel, rfl, by decide +kernel, by decide +kernel⟩
abbrev s_Book_need_day : Stmt := inClass (top 54) 12
abbrev N_Book_need_day : List Str := ["self", "day"]
theorem sc_Book_need_day : FnScope N_Book_need_day ["self", "day"] (defScope s_Book_need_day) := ⟨rfl, rfl, rfl, by decide +kernel, rfl, by decide +kernel, by decide +kernel⟩
abbrev s_Book_of_man : Stmt := inClass (top 54) 14
abbrev N_Book_of_man : List Str := ["self", "day", "deed"]
theorem sc_Book_of_man : FnScope N_Book_of_man ["self", "day", "deed"] (defScope s_Book_of_man) := ⟨rfl, rfl, rfl, by decide +kernel, rfl, by decide +kernel, by decide +kernel⟩
abbrev s_Book_take : Stmt := inClass (top 54) 15
abbrev N_Book_take : List Str := ["self", "day", "man", "side"]
theorem sc_Book_take : FnScope N_Book_take ["self", "day", "man", "side"] (defScope s_Book_take) := ⟨rfl, rfl, rfl, by decide +kernel, rfl, by decide +kernel, by decide +kernel⟩
abbrev s_Book_word : Stmt := inClass (top 54) 16
abbrev N_Book_word : List Str := ["self", "day", "man"]
theorem sc_Book_word : FnScope N_Book_word ["self", "day", "man"] (defScope s_Book_word) := ⟨rfl, rfl, rfl, by decide +kernel, rfl, by decide +kernel, by decide +kernel⟩
abbrev s_Book_free : Stmt := inClass (top 54) 17
abbrev N_Book_free : List Str := ["self", "day", "man"]
theorem sc_Book_free : FnScope N_Book_free ["self", "day", "man"] (defScope s_Book_free) := ⟨rfl, rfl, rfl, by decide +kernel, rfl, by decide +kernel, by decide +kernel⟩
abbrev s_Book_flee : Stmt := inClass (top 54) 18
abbrev N_Book_flee : List Str := ["self", "day", "man"]
theorem sc_Book_flee : FnScope N_Book_flee ["self", "day", "man"] (defScope s_Book_flee) := ⟨rfl, rfl, rfl, by decide +kernel, rfl, by decide +kernel, by decide +kernel⟩
abbrev s_Book_die : Stmt := inClass (top 54) 19
abbrev N_Book_die : List Str := ["self", "day", "man"]
theorem sc_Book_die : FnScope N_Book_die ["self", "day", "man"] (defScope s_Book_die) := ⟨rfl, rfl, rfl, by decide +kernel, rfl, by decide +kernel, by decide +kernel⟩
abbrev s_Book_rank : Stmt := inClass (top 54) 20
abbrev N_Book_rank : List Str := ["self", "day", "man", "rank"]
theorem sc_Book_rank : FnScope N_Book_rank ["self", "day", "man", "rank"] (defScope s_Book_rank) := ⟨rfl, rfl, rfl, by decide +kernel, rfl, by decide +kernel, by decide +kernel⟩
abbrev s_Book_deeds : Stmt := inClass (top 54) 29
abbrev N_Book_deeds : List Str := ["self", "day", "deed", "number"]
theorem sc_Book_deeds : FnScope N_Book_deeds ["self"] (defScope s_Book_deeds) := ⟨rfl, rfl, rfl, by decide +kernel, rfl, by decide +kernel, by decide +kernel⟩

def lookOk (F : FolkL) (Td : Told) : Prop := (F.map fun f => f.1).Nodup ∧ F.length ≤ 1000 ∧ (Td.map fun t => t.1).Nodup ∧ Td.length ≤ 1000 ∧ ∀ T', T'.Perm Td → inOrd T' → ∃ ms, runD T' (crew0 F) = some ms
def strikeT (n : Int) (Td : Told) : Told := Td.filter fun t => decide (t.1 ≠ n)
theorem hasD_told {n : Int} {Td : Told} : hasD (toldD Td) (.inl n) = Td.any fun t => decide (t.1 = n) := by
  unfold hasD toldD
  rw [List.any_map]
  congr 1
  funext t
  show decide ((Sum.inl t.1 : Key) = Sum.inl n) = _
  by_cases c : t.1 = n
  · rw [decide_eq_true c, decide_eq_true (congrArg Sum.inl c)]
  · rw [decide_eq_false c, decide_eq_false (fun e => c (Sum.inl.inj e))]
theorem enterD {n day : Int} {x : Deed} {Td : Told} (nd : ((Td ++ [(n, day, x)]).map fun t => t.1).Nodup) : putD (toldD Td) (.inl n) (.tuple [.int day, .tuple x.ds]) = toldD (Td ++ [(n, day, x)]) := by
  have h : hasD (toldD Td) (.inl n) = false := by
    rw [hasD_told]
    refine List.any_eq_false.mpr fun t ht => ?_
    intro c
    have c := of_decide_eq_true c
    rw [List.map_append, List.nodup_append] at nd
    exact nd.2.2 t.1 (List.mem_map.mpr ⟨t, ht, rfl⟩) n (by simp) c
  unfold putD
  rw [h, if_neg Bool.false_ne_true]
  unfold toldD
  rw [List.map_append]
  rfl
theorem strikeD {n : Int} {Td : Told} : dropD (toldD Td) (.inl n) = toldD (strikeT n Td) := by
  unfold dropD toldD strikeT
  rw [List.filter_map]
  congr 1
  refine List.filter_congr fun t _ => ?_
  show decide ((Sum.inl t.1 : Key) ≠ Sum.inl n) = decide (t.1 ≠ n)
  simp
theorem told_at {n d : Int} {x : Deed} {Td : Told} (nd : (Td.map fun t => t.1).Nodup) (h : (n, d, x) ∈ Td) : ∀ t ∈ Td, t.1 = n → t = (n, d, x) := by
  intro t ht e
  obtain ⟨i, hi⟩ := List.getElem?_of_mem h
  obtain ⟨j, hj⟩ := List.getElem?_of_mem ht
  have a1 : (Td.map fun t => t.1)[i]? = some n := by rw [List.getElem?_map, hi]; rfl
  have a2 : (Td.map fun t => t.1)[j]? = some n := by rw [List.getElem?_map, hj]; exact congrArg some e
  have eij := (List.getElem?_inj (List.getElem?_eq_some_iff.mp a1).1 nd).mp (a1.trans a2.symm)
  subst eij
  exact Option.some.inj (hj.symm.trans hi)
theorem valD_told {n d : Int} {x : Deed} {Td : Told} (nd : (Td.map fun t => t.1).Nodup) (h : (n, d, x) ∈ Td) : valD (toldD Td) (.inl n) = some (.tuple [.int d, .tuple x.ds]) := by
  have h1 : hasD (toldD Td) (.inl n) = true := by
    rw [hasD_told]
    exact List.any_eq_true.mpr ⟨_, h, decide_eq_true rfl⟩
  obtain ⟨e, he⟩ := hasD_val h1
  rw [he]
  unfold valD at he
  cases hf : (toldD Td).find? (fun kv => decide (kv.1 = Sum.inl n)) with
  | none => rw [hf] at he; cases he
  | some u =>
    rw [hf] at he
    have m1 := List.mem_of_find?_eq_some hf
    have m2 : u.1 = Sum.inl n := of_decide_eq_true (List.find?_some (p := fun kv : Key × PyData => decide (kv.1 = Sum.inl n)) hf)
    unfold toldD at m1
    obtain ⟨t, m3, rfl⟩ := List.mem_map.mp m1
    have m4 := told_at nd h t m3 (Sum.inl.inj m2)
    subst m4
    exact he.symm
def entered (B : Bk) (Td : Told) (day : Int) (x : Deed) : Bk := ⟨{ B.st with told := toldD (Td ++ [(B.st.later, day, x)]), later := B.st.later + 1 }, B.past ++ [B.st], []⟩
def spEnterX (K : PySem.W.Frag) : Sp := fun vs H Q E => ∃ (b q : Addr) (day : Int) (x : Deed) (B : Bk) (F : FolkL) (Td : Told) (Rs : List Res), vs = [.ref b, .int day, .ref q] ∧ H q = some (.tup x.xs) ∧ Sat H (book (CB K) b B :: Rs) ∧ B.st.folk = folkD F ∧ B.st.told = toldD Td ∧ B.past.length < sizeLine ∧
  (120 ≤ Td.length → E (.ref (He.ga K "Full")) none H) ∧
  (Td.length < 120 → lookOk F (Td ++ [(B.st.later, day, x)]) ∧ ∀ H', PK H H' → Sat H' (book (CB K) b (entered B Td day x) :: Rs) → Q (.int B.st.later) H')
section
variable {P : Program} {w : World} {K : PySem.W.Frag} {mg : Str → Option Value} {base : Heap}
theorem D_Book_enter (T : Txt K mg) (D_look_through : Dn P w K mg base CX0 5 "look_through" ["folk", "pacts", "told", "fresh"] (spLook K)) (D_Book_keep : DnM P w K mg base CX0 2 (He.ma K (He.ga K "Book") "keep") ["self"] (spKeep K)) (F : Mf K "Book" "enter" "Book.enter" s_Book_enter) : DnM P w K mg base (L2.CX P w) 6 (He.ma K (He.ga K "Book") "enter") ["self", "day", "deed"] (spEnterX K) := by
  refine F.dmX sc_Book_enter (fun _ _ _ _ _ _ us hl => match us, hl with | [_, _, _], _ => rfl) (fun vs H Q E h => ?_) (fun f cdv A outer s H vs Q E hr hK h => ?_)
  · obtain ⟨b, q, day, x, B, Fo, Td, Rs, rfl, _⟩ := h
    rfl
  · obtain ⟨b, q, day, x, ⟨⟨si, fk, pc, tl, la⟩, past, fut⟩, Fo, Td, Rs, rfl, hq, S, e1, e2, hz, no, yes⟩ := h
    have e1 : fk = folkD Fo := e1
    have e2 : tl = toldD Td := e2
    subst e1 e2
    refine ⟨_, (pss_cons (ps_if (pt_cmpR op_ge (pe_callB g_lenD rfl T.m_len boot_len (pa_cons (pe_fldC T.cl_Book T.n_Book_told (pv 0) rfl) pa_nil)) (pe_cst T.c_MOST_DEEDS) (nomark _)) (pss_one (ps_raise rfl (takes_of rfl rfl rfl rfl) (pmk_own PySem.F.excBase_ValueError T.x_Full.xi T.x_Full.g T.x_Full.k (raises_own T.x_Full.b T.x_Full.t) rfl))) pss_nil)
      (pss_cons (ps_set (i := 3) sc_Book_enter.nd rfl (Or.inl rfl) (pe_fldC T.cl_Book T.n_Book_later (pv 0) rfl))
      (pss_cons (ps_set (i := 4) sc_Book_enter.nd rfl (Or.inl rfl) (pe_callTy g_dictD rfl T.m_dict boot_dict (pa_cons (pe_fldC T.cl_Book T.n_Book_told (pv 0) rfl) pa_nil)))
      (pss_cons (ps_dput (hu_of hr) (pv 4) (pv 3) (pe_tup (pa_cons (pv 1) (pa_cons (pv 2) pa_nil))) rfl)
      (pss_cons (ps_expr (pe_dn D_look_through (hr.mono (by first | decide | omega)) pass0 (pa_cons (pe_fldC T.cl_Book T.n_Book_folk (pv 0) rfl) (pa_cons (pe_fldC T.cl_Book T.n_Book_pacts (pv 0) rfl) (pa_cons (pv 4) (pa_cons (pv 3) pa_nil))))))
      (pss_cons (ps_expr (pe_mt0 (pv 0) T.cl_Book T.me_Book_keep D_Book_keep (hr.mono (by first | decide | omega)) pass0))
      (pss_cons (ps_fldC T.cl_Book T.n_Book_told (pv 0) (pv 4) rfl)
      (pss_cons (ps_fldC T.cl_Book T.n_Book_later (pv 0) (pe_op op_add (pv 3) pe_int) rfl)
      (pss_one (ps_ret (pv 3))))))))))), ?_⟩
    try rw [hK]
    rw [show L2.start N_Book_enter [.ref b, .int day, .ref q] = [some (.ref b), some (.int day), some (.ref q), none, none] from rfl]
    obtain ⟨dx, ba, fo, pa, to, ps, fu, S1⟩ := S.bookE
    have hlt : (toldD Td).length = Td.length := by unfold toldD; rw [List.length_map]
    clear S
    walk_at "sx"
    rw [hlt]
    refine x_ifD (fun c => no (by omega)) (fun c => ?_)
    have hl : Td.length < 120 := by omega
    obtain ⟨lk, k⟩ := yes hl
    walk_at "sx"
    rename_i to2 H2 pk2 S2 tq H3 pk3 S3 hq3
    clear S1 S2
    refine x_dp (d := .tuple [.int day, .tuple x.ds]) (by rw [hlt, sizeLine_eq]; omega) (.tup hq3 (.cons (.int _) (.cons (xs_tp ((pk2.trans pk3).tup hq)) .nil))) fun H4 pk4 S4 => ?_
    clear S3
    obtain ⟨l1, l2, l3, l5, l6⟩ := lk
    rw [enterD l3] at S4
    walk_at "sx"
    refine ⟨fo, to2, .ref pa, _, Fo, _, _, rfl, S4.pick (Ss := dct fo (folkD Fo) :: dct to2 (toldD (Td ++ [(la, day, x)])) :: cell b (.ins (CB K) dx (fsBook (.ref ba) (.ref fo) (.ref pa) (.ref to) (.int la) (.ref ps) (.ref fu))) :: dct ba si :: dct pa pc :: dct to (toldD Td) :: lsts ps past :: lsts fu fut :: Rs), l1, l2, l3, l5, l6, fun H5 pk5 S5 => ?_⟩
    clear S4
    have S6 := bookC (H := H5) (C := CB K) (b := b)
    clear S5
    walk_at "sx"
    refine ⟨b, ⟨⟨si, folkD Fo, pc, toldD Td, la⟩, past, fut⟩, _, rfl, S6, hz, fun H7 pk7 S7 => ?_⟩
    clear S6
    obtain ⟨dx, ba, fo, pa, to, ps, fu, S8⟩ := S7.bookE
    clear S7
    walk_at "sx"
    refine k _ (by walk_at "pk") ?_
    show Sat _ (book (CB K) b ⟨⟨si, folkD Fo, pc, toldD (Td ++ [(la, day, x)]), la + 1⟩, past ++ [⟨si, folkD Fo, pc, toldD Td, la⟩], []⟩ :: Rs)
    exact (bookC (C := CB K) (b := b)).pick
end
def spNeedManX (K : PySem.W.Frag) : Sp := fun vs H Q E => ∃ (b : Addr) (n : Str) (B : Bk) (Rs : List Res), vs = [.ref b, .str n] ∧ Sat H (book (CB K) b B :: Rs) ∧ (hasD B.st.folk (.inr n) = true → Q .non H) ∧ (hasD B.st.folk (.inr n) = false → E (.ref (He.ga K "NoMan")) none H)
def spNeedDayX (K : PySem.W.Frag) : Sp := fun vs H Q E => ∃ (b : Addr) (d : Int), vs = [.ref b, .int d] ∧ (0 ≤ d ∧ d ≤ 1000000 → Q .non H) ∧ (¬ (0 ≤ d ∧ d ≤ 1000000) → E (.ref (He.ga K "BadDay")) none H)
def oneOut (t : BSt) (day : Int) (n : Str) : Str := if 0 ≤ day ∧ day ≤ 1000000 then (if hasD t.folk (.inr n) = true then (if 120 ≤ t.told.length then "Full" else "") else "NoMan") else "BadDay"
def takeOut (t : BSt) (day : Int) (n sd : Str) : Str := if 0 ≤ day ∧ day ≤ 1000000 then (if hasD t.folk (.inr n) = true then (if hasD t.sides (.inr sd) = true then (if 120 ≤ t.told.length then "Full" else "") else "NoSide") else "NoMan") else "BadDay"
def spOfManX (K : PySem.W.Frag) : Sp := fun vs H Q E => ∃ (b q : Addr) (day : Int) (x : Deed) (B : Bk) (F : FolkL) (Td : Told) (Rs : List Res), vs = [.ref b, .int day, .ref q] ∧ H q = some (.tup x.xs) ∧ Sat H (book (CB K) b B :: Rs) ∧ B.st.folk = folkD F ∧ B.st.told = toldD Td ∧ B.past.length < sizeLine ∧
  (oneOut B.st day x.man ≠ "" → E (.ref (He.ga K (oneOut B.st day x.man))) none H) ∧
  (oneOut B.st day x.man = "" → lookOk F (Td ++ [(B.st.later, day, x)]) ∧ ∀ H', PK H H' → Sat H' (book (CB K) b (entered B Td day x) :: Rs) → Q (.int B.st.later) H')
def spOneX (K : PySem.W.Frag) (mk : Str → Deed) : Sp := fun vs H Q E => ∃ (b : Addr) (day : Int) (n : Str) (B : Bk) (F : FolkL) (Td : Told) (Rs : List Res), vs = [.ref b, .int day, .str n] ∧ Sat H (book (CB K) b B :: Rs) ∧ B.st.folk = folkD F ∧ B.st.told = toldD Td ∧ B.past.length < sizeLine ∧
  (oneOut B.st day n ≠ "" → ∀ H', PK H H' → Sat H' (book (CB K) b B :: Rs) → E (.ref (He.ga K (oneOut B.st day n))) none H') ∧
  (oneOut B.st day n = "" → lookOk F (Td ++ [(B.st.later, day, mk n)]) ∧ ∀ H', PK H H' → Sat H' (book (CB K) b (entered B Td day (mk n)) :: Rs) → Q (.int B.st.later) H')
def spTakeX (K : PySem.W.Frag) : Sp := fun vs H Q E => ∃ (b : Addr) (day : Int) (n sd : Str) (B : Bk) (F : FolkL) (Td : Told) (Rs : List Res), vs = [.ref b, .int day, .str n, .str sd] ∧ Sat H (book (CB K) b B :: Rs) ∧ B.st.folk = folkD F ∧ B.st.told = toldD Td ∧ B.past.length < sizeLine ∧
  (takeOut B.st day n sd ≠ "" → ∀ H', PK H H' → Sat H' (book (CB K) b B :: Rs) → E (.ref (He.ga K (takeOut B.st day n sd))) none H') ∧
  (takeOut B.st day n sd = "" → lookOk F (Td ++ [(B.st.later, day, .take n sd)]) ∧ ∀ H', PK H H' → Sat H' (book (CB K) b (entered B Td day (.take n sd)) :: Rs) → Q (.int B.st.later) H')
def rankOut (t : BSt) (day : Int) (n : Str) (r : Int) : Str := if 0 ≤ day ∧ day ≤ 1000000 then (if hasD t.folk (.inr n) = true then (if 0 ≤ r ∧ r < 6 then (if 120 ≤ t.told.length then "Full" else "") else "BadRank") else "NoMan") else "BadDay"
def spRankX (K : PySem.W.Frag) : Sp := fun vs H Q E => ∃ (b : Addr) (day : Int) (n : Str) (r : Int) (B : Bk) (F : FolkL) (Td : Told) (Rs : List Res), vs = [.ref b, .int day, .str n, .int r] ∧ Sat H (book (CB K) b B :: Rs) ∧ B.st.folk = folkD F ∧ B.st.told = toldD Td ∧ B.past.length < sizeLine ∧
  (rankOut B.st day n r ≠ "" → ∀ H', PK H H' → Sat H' (book (CB K) b B :: Rs) → E (.ref (He.ga K (rankOut B.st day n r))) none H') ∧
  (rankOut B.st day n r = "" → lookOk F (Td ++ [(B.st.later, day, .rank n r)]) ∧ ∀ H', PK H H' → Sat H' (book (CB K) b (entered B Td day (.rank n r)) :: Rs) → Q (.int B.st.later) H')
theorem told_len (Td : Told) : (toldD Td).length = Td.length := by unfold toldD; rw [List.length_map]
section
variable {P : Program} {w : World} {K : PySem.W.Frag} {mg : Str → Option Value} {base : Heap}
theorem D_Book_need_man (T : Txt K mg) (F : Mf K "Book" "need_man" "Book.need_man" s_Book_need_man) : DnM P w K mg base (L2.CX P w) 1 (He.ma K (He.ga K "Book") "need_man") ["self", "name"] (spNeedManX K) := by
  refine F.dmX sc_Book_need_man (fun _ _ _ _ _ _ us hl => match us, hl with | [_, _], _ => rfl) (fun vs H Q E h => ?_) (fun f cdv A outer s H vs Q E hr hK h => ?_)
  · obtain ⟨b, n, B, Rs, rfl, _⟩ := h
    rfl
  · obtain ⟨b, n, B, Rs, rfl, S, yes, no⟩ := h
    refine ⟨_, (pss_one (ps_if (pt_cmp (pc_dnotin (hu_of hr) (pv 1) (pe_fldC T.cl_Book T.n_Book_folk (pv 0) rfl))) (pss_one (ps_raise rfl (takes_of rfl rfl rfl rfl) (pmk_own PySem.F.excBase_ValueError T.x_NoMan.xi T.x_NoMan.g T.x_NoMan.k (raises_own T.x_NoMan.b T.x_NoMan.t) rfl))) pss_nil)), ?_⟩
    try rw [hK]
    rw [show L2.start N_Book_need_man [.ref b, .str n] = [some (.ref b), some (.str n)] from rfl]
    obtain ⟨dx, ba, fo, pa, to, ps, fu, S1⟩ := S.bookE
    walk_at "sx"
    cases c : hasD B.st.folk (.inr n) with
    | true =>
      refine x_ifF ?_
      walk_at "sx"
      exact yes c
    | false =>
      refine x_ifT ?_
      exact no c
theorem D_Book_need_day (T : Txt K mg) (F : Mf K "Book" "need_day" "Book.need_day" s_Book_need_day) : DnM P w K mg base (L2.CX P w) 1 (He.ma K (He.ga K "Book") "need_day") ["self", "day"] (spNeedDayX K) := by
  refine F.dmX sc_Book_need_day (fun _ _ _ _ _ _ us hl => match us, hl with | [_, _], _ => rfl) (fun vs H Q E h => ?_) (fun f cdv A outer s H vs Q E hr hK h => ?_)
  · obtain ⟨b, d, rfl, _⟩ := h
    rfl
  · obtain ⟨b, d, rfl, yes, no⟩ := h
    refine ⟨_, (pss_one (ps_if (pt_not (pt_chain op_le op_le pe_int (pv 1) (pe_cst T.c_LAST_DAY))) (pss_one (ps_raise rfl (takes_of rfl rfl rfl rfl) (pmk_own PySem.F.excBase_ValueError T.x_BadDay.xi T.x_BadDay.g T.x_BadDay.k (raises_own T.x_BadDay.b T.x_BadDay.t) rfl))) pss_nil)), ?_⟩
    try rw [hK]
    rw [show L2.start N_Book_need_day [.ref b, .int d] = [some (.ref b), some (.int d)] from rfl]
    walk_at "sx"
    refine x_chD (fun r0 => ?_) (fun r0 => ?_)
    · walk_at "sx"
      refine x_ifN (fun r1 => ?_) (fun r1 => ?_)
      · walk_at "sx"
        exact yes ⟨r0, r1⟩
      · exact no fun z => r1 z.2
    · walk_at "sx"
      exact no fun z => r0 z.1
theorem D_Book_of_man (T : Txt K mg) (D_Book_need_day : DnM P w K mg base (L2.CX P w) 1 (He.ma K (He.ga K "Book") "need_day") ["self", "day"] (spNeedDayX K)) (D_Book_need_man : DnM P w K mg base (L2.CX P w) 1 (He.ma K (He.ga K "Book") "need_man") ["self", "name"] (spNeedManX K)) (D_Book_enter : DnM P w K mg base (L2.CX P w) 6 (He.ma K (He.ga K "Book") "enter") ["self", "day", "deed"] (spEnterX K))
    (F : Mf K "Book" "of_man" "Book.of_man" s_Book_of_man) : DnM P w K mg base (L2.CX P w) 7 (He.ma K (He.ga K "Book") "of_man") ["self", "day", "deed"] (spOfManX K) := by
  refine F.dmX sc_Book_of_man (fun _ _ _ _ _ _ us hl => match us, hl with | [_, _, _], _ => rfl) (fun vs H Q E h => ?_) (fun f cdv A outer s H vs Q E hr hK h => ?_)
  · obtain ⟨b, q, day, x, B, Fo, Td, Rs, rfl, _⟩ := h
    rfl
  · obtain ⟨b, q, day, x, B, Fo, Td, Rs, rfl, hq, S, e1, e2, hz, no, yes⟩ := h
    have tl : B.st.told.length = Td.length := by rw [e2, told_len]
    unfold oneOut at no yes
    refine ⟨_, (pss_cons (ps_expr (pe_mt (pv 0) T.cl_Book T.me_Book_need_day D_Book_need_day (hr.mono (by first | decide | omega)) passX (pa_cons (pv 1) pa_nil)))
      (pss_cons (ps_expr (pe_mt (pv 0) T.cl_Book T.me_Book_need_man D_Book_need_man (hr.mono (by first | decide | omega)) passX (pa_cons (pe_ix ix_tup (pv 2) pe_int (fun _ _ => rfl)) pa_nil)))
      (pss_one (ps_ret (pe_mt (pv 0) T.cl_Book T.me_Book_enter D_Book_enter (hr.mono (by first | decide | omega)) passX (pa_cons (pv 1) (pa_cons (pv 2) pa_nil))))))), ?_⟩
    try rw [hK]
    rw [show L2.start N_Book_of_man [.ref b, .int day, .ref q] = [some (.ref b), some (.int day), some (.ref q)] from rfl]
    walk_at "sx"
    refine ⟨b, day, rfl, fun c => ?_, fun c => ?_⟩
    · rw [if_pos c] at no yes
      walk_at "sx"
      refine x_ixTn (xs := x.xs) (v := .str x.man) (SqT.of hq) (by decide) (by cases x <;> rfl) ?_
      walk_at "sx"
      refine ⟨b, x.man, B, Rs, rfl, S, fun c2 => ?_, fun c2 => ?_⟩
      · rw [if_pos c2] at no yes
        walk_at "sx"
        refine ⟨b, q, day, x, B, Fo, Td, Rs, rfl, hq, S, e1, e2, hz, fun c3 => ?_, fun c3 => yes (if_neg (by omega))⟩
        rw [if_pos (by omega)] at no
        exact no (by decide)
      · rw [if_neg (by rw [c2]; exact Bool.false_ne_true)] at no
        exact no (by decide)
    · rw [if_neg c] at no
      exact no (by decide)
theorem D_Book_take (T : Txt K mg) (D_Book_need_day : DnM P w K mg base (L2.CX P w) 1 (He.ma K (He.ga K "Book") "need_day") ["self", "day"] (spNeedDayX K)) (D_Book_need_man : DnM P w K mg base (L2.CX P w) 1 (He.ma K (He.ga K "Book") "need_man") ["self", "name"] (spNeedManX K)) (D_Book_need_side : DnM P w K mg base (L2.CX P w) 1 (He.ma K (He.ga K "Book") "need_side") ["self", "name"] (spNeedSideX K)) (D_Book_enter : DnM P w K mg base (L2.CX P w) 6 (He.ma K (He.ga K "Book") "enter") ["self", "day", "deed"] (spEnterX K))
    (F : Mf K "Book" "take" "Book.take" s_Book_take) : DnM P w K mg base (L2.CX P w) 7 (He.ma K (He.ga K "Book") "take") ["self", "day", "man", "side"] (spTakeX K) := by
  refine F.dmX sc_Book_take (fun _ _ _ _ _ _ us hl => match us, hl with | [_, _, _, _], _ => rfl) (fun vs H Q E h => ?_) (fun f cdv A outer s H vs Q E hr hK h => ?_)
  · obtain ⟨b, day, n, sd, B, Fo, Td, Rs, rfl, _⟩ := h
    rfl
  · obtain ⟨b, day, n, sd, B, Fo, Td, Rs, rfl, S, e1, e2, hz, no, yes⟩ := h
    have tl : B.st.told.length = Td.length := by rw [e2, told_len]
    unfold takeOut at no yes
    refine ⟨_, (pss_cons (ps_expr (pe_mt (pv 0) T.cl_Book T.me_Book_need_day D_Book_need_day (hr.mono (by first | decide | omega)) passX (pa_cons (pv 1) pa_nil)))
      (pss_cons (ps_expr (pe_mt (pv 0) T.cl_Book T.me_Book_need_man D_Book_need_man (hr.mono (by first | decide | omega)) passX (pa_cons (pv 2) pa_nil)))
      (pss_cons (ps_expr (pe_mt (pv 0) T.cl_Book T.me_Book_need_side D_Book_need_side (hr.mono (by first | decide | omega)) passX (pa_cons (pv 3) pa_nil)))
      (pss_one (ps_ret (pe_mt (pv 0) T.cl_Book T.me_Book_enter D_Book_enter (hr.mono (by first | decide | omega)) passX (pa_cons (pv 1) (pa_cons (pe_tup (pa_cons pe_str (pa_cons (pv 2) (pa_cons (pv 3) pa_nil)))) pa_nil)))))))), ?_⟩
    try rw [hK]
    rw [show L2.start N_Book_take [.ref b, .int day, .str n, .str sd] = [some (.ref b), some (.int day), some (.str n), some (.str sd)] from rfl]
    walk_at "sx"
    refine ⟨b, day, rfl, fun c => ?_, fun c => ?_⟩
    · rw [if_pos c] at no yes
      walk_at "sx"
      refine ⟨b, n, B, Rs, rfl, S, fun c2 => ?_, fun c2 => ?_⟩
      · rw [if_pos c2] at no yes
        walk_at "sx"
        refine ⟨b, sd, B, Rs, rfl, S, fun c4 => ?_, fun c4 => ?_⟩
        · rw [if_pos c4] at no yes
          walk_at "sx"
          rename_i q H2 pk2 S2 hq
          clear S
          refine ⟨b, q, day, .take n sd, B, Fo, Td, Rs, rfl, hq, S2, e1, e2, hz, fun c3 => ?_, fun c3 => ?_⟩
          · rw [if_pos (by omega)] at no
            exact no (by decide) _ pk2 S2
          · obtain ⟨lk, k⟩ := yes (if_neg (by omega))
            refine ⟨lk, fun H3 pk3 S3 => ?_⟩
            clear S2
            walk_at "sx"
            exact k _ (pk2.trans pk3) S3
        · rw [if_neg (by rw [c4]; exact Bool.false_ne_true)] at no
          exact no (by decide) _ PK.refl S
      · rw [if_neg (by rw [c2]; exact Bool.false_ne_true)] at no
        exact no (by decide) _ PK.refl S
    · rw [if_neg c] at no
      exact no (by decide) _ PK.refl S
theorem D_Book_rank (T : Txt K mg) (D_Book_need_day : DnM P w K mg base (L2.CX P w) 1 (He.ma K (He.ga K "Book") "need_day") ["self", "day"] (spNeedDayX K)) (D_Book_need_man : DnM P w K mg base (L2.CX P w) 1 (He.ma K (He.ga K "Book") "need_man") ["self", "name"] (spNeedManX K)) (D_Book_enter : DnM P w K mg base (L2.CX P w) 6 (He.ma K (He.ga K "Book") "enter") ["self", "day", "deed"] (spEnterX K))
    (F : Mf K "Book" "rank" "Book.rank" s_Book_rank) : DnM P w K mg base (L2.CX P w) 7 (He.ma K (He.ga K "Book") "rank") ["self", "day", "man", "rank"] (spRankX K) := by
  refine F.dmX sc_Book_rank (fun _ _ _ _ _ _ us hl => match us, hl with | [_, _, _, _], _ => rfl) (fun vs H Q E h => ?_) (fun f cdv A outer s H vs Q E hr hK h => ?_)
  · obtain ⟨b, day, n, r, B, Fo, Td, Rs, rfl, _⟩ := h
    rfl
  · obtain ⟨b, day, n, r, B, Fo, Td, Rs, rfl, S, e1, e2, hz, no, yes⟩ := h
    have tl : B.st.told.length = Td.length := by rw [e2, told_len]
    unfold rankOut at no yes
    refine ⟨_, (pss_cons (ps_expr (pe_mt (pv 0) T.cl_Book T.me_Book_need_day D_Book_need_day (hr.mono (by first | decide | omega)) passX (pa_cons (pv 1) pa_nil)))
      (pss_cons (ps_expr (pe_mt (pv 0) T.cl_Book T.me_Book_need_man D_Book_need_man (hr.mono (by first | decide | omega)) passX (pa_cons (pv 2) pa_nil)))
      (pss_cons (ps_if (pt_not (pt_chain op_le op_lt pe_int (pv 3) (pe_cst T.c_MOST_RANKS))) (pss_one (ps_raise rfl (takes_of rfl rfl rfl rfl) (pmk_own PySem.F.excBase_ValueError T.x_BadRank.xi T.x_BadRank.g T.x_BadRank.k (raises_own T.x_BadRank.b T.x_BadRank.t) rfl))) pss_nil)
      (pss_one (ps_ret (pe_mt (pv 0) T.cl_Book T.me_Book_enter D_Book_enter (hr.mono (by first | decide | omega)) passX (pa_cons (pv 1) (pa_cons (pe_tup (pa_cons pe_str (pa_cons (pv 2) (pa_cons (pv 3) pa_nil)))) pa_nil)))))))), ?_⟩
    try rw [hK]
    rw [show L2.start N_Book_rank [.ref b, .int day, .str n, .int r] = [some (.ref b), some (.int day), some (.str n), some (.int r)] from rfl]
    walk_at "sx"
    refine ⟨b, day, rfl, fun c => ?_, fun c => ?_⟩
    · rw [if_pos c] at no yes
      walk_at "sx"
      refine ⟨b, n, B, Rs, rfl, S, fun c2 => ?_, fun c2 => ?_⟩
      · rw [if_pos c2] at no yes
        walk_at "sx"
        refine x_chD (fun r0 => ?_) (fun r0 => ?_)
        · walk_at "sx"
          refine x_ifN (fun r1 => ?_) (fun r1 => ?_)
          · rw [if_pos ⟨r0, r1⟩] at no yes
            walk_at "sx"
            rename_i q H2 pk2 S2 hq
            clear S
            refine ⟨b, q, day, .rank n r, B, Fo, Td, Rs, rfl, hq, S2, e1, e2, hz, fun c3 => ?_, fun c3 => ?_⟩
            · rw [if_pos (by omega)] at no
              exact no (by decide) _ pk2 S2
            · obtain ⟨lk, k⟩ := yes (if_neg (by omega))
              refine ⟨lk, fun H3 pk3 S3 => ?_⟩
              clear S2
              walk_at "sx"
              exact k _ (pk2.trans pk3) S3
          · rw [if_neg (fun z => r1 z.2)] at no
            exact no (by decide) _ PK.refl S
        · rw [if_neg (fun z => r0 z.1)] at no
          walk_at "sx"
          exact no (by decide) _ PK.refl S
      · rw [if_neg (by rw [c2]; exact Bool.false_ne_true)] at no
        exact no (by decide) _ PK.refl S
    · rw [if_neg c] at no
      exact no (by decide) _ PK.refl S
theorem D_Book_word (T : Txt K mg) (D_Book_of_man : DnM P w K mg base (L2.CX P w) 7 (He.ma K (He.ga K "Book") "of_man") ["self", "day", "deed"] (spOfManX K)) (F : Mf K "Book" "word" "Book.word" s_Book_word) : DnM P w K mg base (L2.CX P w) 8 (He.ma K (He.ga K "Book") "word") ["self", "day", "man"] (spOneX K .word) := by
  refine F.dmX sc_Book_word (fun _ _ _ _ _ _ us hl => match us, hl with | [_, _, _], _ => rfl) (fun vs H Q E h => ?_) (fun f cdv A outer s H vs Q E hr hK h => ?_)
  · obtain ⟨b, day, n, B, Fo, Td, Rs, rfl, _⟩ := h
    rfl
  · obtain ⟨b, day, n, B, Fo, Td, Rs, rfl, S, e1, e2, hz, no, yes⟩ := h
    refine ⟨_, (pss_one (ps_ret (pe_mt (pv 0) T.cl_Book T.me_Book_of_man D_Book_of_man (hr.mono (by first | decide | omega)) passX (pa_cons (pv 1) (pa_cons (pe_tup (pa_cons pe_str (pa_cons (pv 2) pa_nil))) pa_nil))))), ?_⟩
    try rw [hK]
    rw [show L2.start N_Book_word [.ref b, .int day, .str n] = [some (.ref b), some (.int day), some (.str n)] from rfl]
    walk_at "sx"
    rename_i q H2 pk2 S2 hq
    clear S
    refine ⟨b, q, day, .word n, B, Fo, Td, Rs, rfl, hq, S2, e1, e2, hz, fun c => no c _ pk2 S2, fun c => ?_⟩
    obtain ⟨lk, k⟩ := yes c
    exact ⟨lk, fun H3 pk3 S3 => k _ (pk2.trans pk3) S3⟩
theorem D_Book_free (T : Txt K mg) (D_Book_of_man : DnM P w K mg base (L2.CX P w) 7 (He.ma K (He.ga K "Book") "of_man") ["self", "day", "deed"] (spOfManX K)) (F : Mf K "Book" "free" "Book.free" s_Book_free) : DnM P w K mg base (L2.CX P w) 8 (He.ma K (He.ga K "Book") "free") ["self", "day", "man"] (spOneX K .free) := by
  refine F.dmX sc_Book_free (fun _ _ _ _ _ _ us hl => match us, hl with | [_, _, _], _ => rfl) (fun vs H Q E h => ?_) (fun f cdv A outer s H vs Q E hr hK h => ?_)
  · obtain ⟨b, day, n, B, Fo, Td, Rs, rfl, _⟩ := h
    rfl
  · obtain ⟨b, day, n, B, Fo, Td, Rs, rfl, S, e1, e2, hz, no, yes⟩ := h
    refine ⟨_, (pss_one (ps_ret (pe_mt (pv 0) T.cl_Book T.me_Book_of_man D_Book_of_man (hr.mono (by first | decide | omega)) passX (pa_cons (pv 1) (pa_cons (pe_tup (pa_cons pe_str (pa_cons (pv 2) pa_nil))) pa_nil))))), ?_⟩
    try rw [hK]
    rw [show L2.start N_Book_free [.ref b, .int day, .str n] = [some (.ref b), some (.int day), some (.str n)] from rfl]
    walk_at "sx"
    rename_i q H2 pk2 S2 hq
    clear S
    refine ⟨b, q, day, .free n, B, Fo, Td, Rs, rfl, hq, S2, e1, e2, hz, fun c => no c _ pk2 S2, fun c => ?_⟩
    obtain ⟨lk, k⟩ := yes c
    exact ⟨lk, fun H3 pk3 S3 => k _ (pk2.trans pk3) S3⟩
theorem D_Book_die (T : Txt K mg) (D_Book_of_man : DnM P w K mg base (L2.CX P w) 7 (He.ma K (He.ga K "Book") "of_man") ["self", "day", "deed"] (spOfManX K)) (F : Mf K "Book" "die" "Book.die" s_Book_die) : DnM P w K mg base (L2.CX P w) 8 (He.ma K (He.ga K "Book") "die") ["self", "day", "man"] (spOneX K .die) := by
  refine F.dmX sc_Book_die (fun _ _ _ _ _ _ us hl => match us, hl with | [_, _, _], _ => rfl) (fun vs H Q E h => ?_) (fun f cdv A outer s H vs Q E hr hK h => ?_)
  · obtain ⟨b, day, n, B, Fo, Td, Rs, rfl, _⟩ := h
    rfl
  · obtain ⟨b, day, n, B, Fo, Td, Rs, rfl, S, e1, e2, hz, no, yes⟩ := h
    refine ⟨_, (pss_one (ps_ret (pe_mt (pv 0) T.cl_Book T.me_Book_of_man D_Book_of_man (hr.mono (by first | decide | omega)) passX (pa_cons (pv 1) (pa_cons (pe_tup (pa_cons pe_str (pa_cons (pv 2) pa_nil))) pa_nil))))), ?_⟩
    try rw [hK]
    rw [show L2.start N_Book_die [.ref b, .int day, .str n] = [some (.ref b), some (.int day), some (.str n)] from rfl]
    walk_at "sx"
    rename_i q H2 pk2 S2 hq
    clear S
    refine ⟨b, q, day, .die n, B, Fo, Td, Rs, rfl, hq, S2, e1, e2, hz, fun c => no c _ pk2 S2, fun c => ?_⟩
    obtain ⟨lk, k⟩ := yes c
    exact ⟨lk, fun H3 pk3 S3 => k _ (pk2.trans pk3) S3⟩
theorem D_Book_flee (T : Txt K mg) (D_Book_of_man : DnM P w K mg base (L2.CX P w) 7 (He.ma K (He.ga K "Book") "of_man") ["self", "day", "deed"] (spOfManX K)) (F : Mf K "Book" "flee" "Book.flee" s_Book_flee) : DnM P w K mg base (L2.CX P w) 8 (He.ma K (He.ga K "Book") "flee") ["self", "day", "man"] (spOneX K .flee) := by
  refine F.dmX sc_Book_flee (fun _ _ _ _ _ _ us hl => match us, hl with | [_, _, _], _ => rfl) (fun vs H Q E h => ?_) (fun f cdv A outer s H vs Q E hr hK h => ?_)
  · obtain ⟨b, day, n, B, Fo, Td, Rs, rfl, _⟩ := h
    rfl
  · obtain ⟨b, day, n, B, Fo, Td, Rs, rfl, S, e1, e2, hz, no, yes⟩ := h
    refine ⟨_, (pss_one (ps_ret (pe_mt (pv 0) T.cl_Book T.me_Book_of_man D_Book_of_man (hr.mono (by first | decide | omega)) passX (pa_cons (pv 1) (pa_cons (pe_tup (pa_cons pe_str (pa_cons (pv 2) pa_nil))) pa_nil))))), ?_⟩
    try rw [hK]
    rw [show L2.start N_Book_flee [.ref b, .int day, .str n] = [some (.ref b), some (.int day), some (.str n)] from rfl]
    walk_at "sx"
    rename_i q H2 pk2 S2 hq
    clear S
    refine ⟨b, q, day, .flee n, B, Fo, Td, Rs, rfl, hq, S2, e1, e2, hz, fun c => no c _ pk2 S2, fun c => ?_⟩
    obtain ⟨lk, k⟩ := yes c
    exact ⟨lk, fun H3 pk3 S3 => k _ (pk2.trans pk3) S3⟩
end
def deedD (t : Int × Int × Deed) : PyData := .tuple [.int t.1, .int t.2.1, .tuple t.2.2.ds]
def spDeeds (K : PySem.W.Frag) : Sp := fun vs H Q _ => ∃ (b : Addr) (B : Bk) (Td : Told) (Rs : List Res), vs = [.ref b] ∧ Sat H (book (CB K) b B :: Rs) ∧ B.st.told = toldD Td ∧ (Td.map fun t => t.1).Nodup ∧ Td.length ≤ 1000 ∧
  ∀ p zs (T' : Told) H', T'.Perm Td → inOrd T' → PK H H' → Sat H' (cell p (.lst zs) :: book (CB K) b B :: Rs) → TpAll H' zs (T'.map deedD) → Q (.ref p) H'
section
variable {P : Program} {w : World} {K : PySem.W.Frag} {mg : Str → Option Value} {base : Heap}
theorem D_Book_deeds (T : Txt K mg) (D_in_order : Dn P w K mg base CX0 1 "in_order" ["told"] (spInOrder K)) (F : Mf K "Book" "deeds" "Book.deeds" s_Book_deeds) : DnM P w K mg base CX0 2 (He.ma K (He.ga K "Book") "deeds") ["self"] (spDeeds K) := by
  refine F.dm sc_Book_deeds (fun _ _ _ _ _ _ us hl => match us, hl with | [_], _ => rfl) (fun vs H Q E h => ?_) (fun f cdv A outer s H vs Q E hr hK h => ?_)
  · obtain ⟨b, B, Td, Rs, rfl, _⟩ := h
    rfl
  · obtain ⟨b, ⟨⟨si, fk, pc, tl, la⟩, past, fut⟩, Td, Rs, rfl, S, e2, nd, hlen, k⟩ := h
    have e2 : tl = toldD Td := e2
    subst e2
    refine ⟨_, (pss_one (ps_ret (pe_lc (own := [("day", 1), ("number", 3), ("deed", 2)]) (g := gTup K 3 (gCons (gName 1) (gCons (gName 3) (gCons (gName 2) (gNil))))) (tt := tYes) rfl sc_Book_deeds.nd (pi_list (pe_dn D_in_order (hr.mono (by first | decide | omega)) pass0 (pa_cons (pe_fldC T.cl_Book T.n_Book_told (pv 0) rfl) pa_nil))) (blkOk_by (own := [("day", 1), ("number", 3), ("deed", 2)]) (N := N_Book_deeds) (sc := defScope s_Book_deeds) (by decide +kernel)) (fun _ _ _ _ _ => pg_tup rfl (pgs_cons (pg_name (i := 1) sc_Book_deeds.nd rfl (Or.inl rfl)) (pgs_cons (pg_name (i := 3) sc_Book_deeds.nd rfl (Or.inl rfl)) (pgs_cons (pg_name (i := 2) sc_Book_deeds.nd rfl (Or.inl rfl)) pgs_nil)))) (fun _ _ _ _ _ => pts_nil) (fun _ _ _ _ _ => (pe_tup (pa_cons (pv 3) (pa_cons (pv 1) (pa_cons (pv 2) pa_nil)))))))), ?_⟩
    try rw [hK]
    rw [show L2.start N_Book_deeds [.ref b] = [some (.ref b), none, none, none] from rfl]
    obtain ⟨dx, ba, fo, pa, to, ps, fu, S1⟩ := S.bookE
    clear S
    walk_at "sx"
    refine ⟨to, Td, _, rfl, S1.pick (Ss := dct to (toldD Td) :: cell b (.ins (CB K) dx (fsBook (.ref ba) (.ref fo) (.ref pa) (.ref to) (.int la) (.ref ps) (.ref fu))) :: dct ba si :: dct fo fk :: dct pa pc :: lsts ps past :: lsts fu fut :: Rs), nd, hlen, fun p ys T' H2 pT od2 pk2 S2 tr => ?_⟩
    have hTl : T'.length = Td.length := pT.length_eq
    clear S1
    have S3 := bookC (H := H2) (C := CB K) (b := b)
    clear S2
    walk_at "sx"
    refine x_lcQ (walk_list (xs := ys)) (fun D i H' => PK H2 H' ∧ ∃ zs, Sat H' (cell D (.lst zs) :: cell p (.lst ys) :: book (CB K) b ⟨⟨si, fk, pc, toldD Td, la⟩, past, fut⟩ :: Rs) ∧ TpAll H' zs ((T'.take i).map deedD)) (fun D hD => ⟨PK.of_ex (Ex.new hD), [], (S3.new hD).pick, .nil⟩) (fun D i H' _ h => ?_) (fun D i x H4 H5 hi h y => ?_) (fun D H4 h => ?_)
    · obtain ⟨_, zs, S4, _⟩ := h
      exact SqL.of sat_at
    · obtain ⟨pk4, zs, S4, tz⟩ := h
      obtain ⟨rfl, hx⟩ := y
      clear S3
      obtain ⟨t, q, n, d, xx, rfl, hT, ht, hq⟩ := tr.get hx
      have ht' := pk4.tup ht
      have hq' := pk4.tup hq
      walk_at "sx"
      rename_i p6 H6 pk6 S6 h6
      clear S4
      have hz : zs.length < sizeLine := by rw [tz.len, List.length_map, List.length_take, sizeLine_eq]; omega
      refine x_eltS hz fun H7 pk7 S7 => ⟨pk4.trans (pk6.trans pk7), _, S7, ?_⟩
      have e1 : (T'.take (i + 1)).map deedD = (T'.take i).map deedD ++ [deedD (n, d, xx)] := by rw [List.take_succ, hT, List.map_append]; rfl
      have tz2 : TpAll H7 zs ((T'.take i).map deedD) := TpAll.pk (pk6.trans pk7) tz
      rw [e1]
      exact tz2.app (.cons (.tup (pk7.tup h6) (.cons (.int _) (.cons (.int _) (.cons (xs_tp ((pk6.trans pk7).tup hq')) .nil)))) .nil)
    · obtain ⟨pk4, zs, S4, tz⟩ := h
      clear S3
      rw [tr.len, List.take_length] at tz
      exact k D zs T' _ pT od2 (pk2.trans pk4) pick tz
end

/-! ### deeds as words, a book as rows -/
abbrev s_joined : Stmt := top 46
abbrev N_joined : List Str := ["parts", "part"]
theorem sc_joined : FnScope N_joined ["parts"] (defScope s_joined) := ⟨rfl, rfl, rfl, by decide +kernel, rfl, by decide +kernel, by decide +kernel⟩
abbrev s_words_of : Stmt := top 57
abbrev N_words_of : List Str := ["deed", "part"]
theorem sc_words_of : FnScope N_words_of ["deed"] (defScope s_words_of) := ⟨rfl, rfl, rfl, by decide +kernel, rfl, by decide +kernel, by decide +kernel⟩
abbrev s_deed_of : Stmt := top 58
abbrev N_deed_of : List Str := ["words", "at", "rank"]
theorem sc_deed_of : FnScope N_deed_of ["words"] (defScope s_deed_of) := ⟨rfl, rfl, rfl, by decide +kernel, rfl, by decide +kernel, by decide +kernel⟩
abbrev s_tell : Stmt := top 59
abbrev N_tell : List Str := ["book", "day", "deed"]
theorem sc_tell : FnScope N_tell ["book", "day", "deed"] (defScope s_tell) := ⟨rfl, rfl, rfl, by decide +kernel, rfl, by decide +kernel, by decide +kernel⟩
abbrev s_Book_cartels : Stmt := inClass (top 54) 28
abbrev N_Book_cartels : List Str := ["self", "pair"]
theorem sc_Book_cartels : FnScope N_Book_cartels ["self"] (defScope s_Book_cartels) := ⟨rfl, rfl, rfl, by decide +kernel, rfl, by decide +kernel, by decide +kernel⟩
abbrev s_Book_upcoming : Stmt := inClass (top 54) 30
abbrev N_Book_upcoming : List Str := ["self"]
theorem sc_Book_upcoming : FnScope N_Book_upcoming ["self"] (defScope s_Book_upcoming) := ⟨rfl, rfl, rfl, by decide +kernel, rfl, by decide +kernel, by decide +kernel⟩
abbrev s_Book_forget : Stmt := inClass (top 54) 4
abbrev N_Book_forget : List Str := ["self"]
theorem sc_Book_forget : FnScope N_Book_forget ["self"] (defScope s_Book_forget) := ⟨rfl, rfl, rfl, by decide +kernel, rfl, by decide +kernel, by decide +kernel⟩
abbrev s_book_rows : Stmt := top 63
abbrev N_book_rows : List Str := ["book", "rows", "one", "other", "worths", "limit", "number", "day", "deed", "name", "row"]
theorem sc_book_rows : FnScope N_book_rows ["book"] (defScope s_book_rows) := ⟨rfl, rfl, rfl, by decide +kernel, rfl, by decide +kernel, by decide +kernel⟩
abbrev s_Book_swap : Stmt := inClass (top 54) 21
abbrev N_Book_swap : List Str := ["self", "day", "one", "other", "ones", "others", "names", "name"]
theorem sc_Book_swap : FnScope N_Book_swap ["self", "day", "one", "other", "ones", "others"] (defScope s_Book_swap) := ⟨rfl, rfl, rfl, by decide +kernel, rfl, by decide +kernel, by decide +kernel⟩

inductive Part where
  | s (z : Str)
  | i (n : Int)
def Part.v : Part → V
  | .s z => .str z
  | .i n => .int n
def Part.t : Part → Str
  | .s z => z
  | .i n => nt n
def Part.ok : Part → Prop
  | .s z => z.length ≤ 100
  | .i n => 0 ≤ n ∧ n < 10 ^ 10
theorem Part.len {p : Part} (h : p.ok) : p.t.length ≤ 100 := by
  cases p with
  | s z => exact h
  | i n => exact Nat.le_trans (nt_len h.1 h.2) (by decide)
theorem parts_sum : ∀ {ps : List Part}, (∀ p ∈ ps, p.ok) → ((ps.map Part.t).map (·.length)).sum ≤ 100 * ps.length
  | [], _ => Nat.le_refl _
  | p :: r, h => by
    have h1 := Part.len (h p List.mem_cons_self)
    have h2 := parts_sum (ps := r) fun q hq => h q (List.mem_cons_of_mem _ hq)
    rw [List.map_cons, List.map_cons, List.sum_cons, List.length_cons]
    omega
def spJoined (K : PySem.W.Frag) : Sp := fun vs H Q _ => ∃ (p : Addr) (ps : List Part), vs = [.ref p] ∧ (SqL K H p (ps.map Part.v) ∨ SqT K H p (ps.map Part.v)) ∧ ps.length ≤ 1000 ∧ (∀ q ∈ ps, q.ok) ∧ ∀ H', Ex H H' → Q (.str (jn (ps.map Part.t))) H'
/-- a deed's words -/
def Deed.ps : Deed → List Part
  | .take n s => [.s "take", .s n, .s s]
  | .word n => [.s "word", .s n]
  | .free n => [.s "free", .s n]
  | .flee n => [.s "flee", .s n]
  | .die n => [.s "die", .s n]
  | .rank n r => [.s "rank", .s n, .i r]
def Deed.wd (x : Deed) : List Str := x.ps.map Part.t
theorem Deed.ps_v (x : Deed) : x.ps.map Part.v = x.xs := by cases x <;> rfl
/-- what a deed names, fit for a row -/
def wordOk (z : Str) : Prop := 1 ≤ z.length ∧ z.length ≤ 100 ∧ nob z
def Deed.ok : Deed → Prop
  | .take n s => wordOk n ∧ wordOk s
  | .word n | .free n | .flee n | .die n => wordOk n
  | .rank n r => wordOk n ∧ 0 ≤ r ∧ r < 10 ^ 10
theorem Deed.ps_ok : ∀ {x : Deed}, x.ok → ∀ q ∈ x.ps, q.ok
  | .take n s, h => List.forall_mem_cons.mpr ⟨(show (_ : Str).length ≤ 100 from Nat.le_of_ble_eq_true rfl), (List.forall_mem_cons.mpr ⟨h.1.2.1, (List.forall_mem_cons.mpr ⟨h.2.2.1, (fun _ h => nomatch h)⟩)⟩)⟩
  | .word n, h => List.forall_mem_cons.mpr ⟨(show (_ : Str).length ≤ 100 from Nat.le_of_ble_eq_true rfl), (List.forall_mem_cons.mpr ⟨h.2.1, (fun _ h => nomatch h)⟩)⟩
  | .free n, h => List.forall_mem_cons.mpr ⟨(show (_ : Str).length ≤ 100 from Nat.le_of_ble_eq_true rfl), (List.forall_mem_cons.mpr ⟨h.2.1, (fun _ h => nomatch h)⟩)⟩
  | .flee n, h => List.forall_mem_cons.mpr ⟨(show (_ : Str).length ≤ 100 from Nat.le_of_ble_eq_true rfl), (List.forall_mem_cons.mpr ⟨h.2.1, (fun _ h => nomatch h)⟩)⟩
  | .die n, h => List.forall_mem_cons.mpr ⟨(show (_ : Str).length ≤ 100 from Nat.le_of_ble_eq_true rfl), (List.forall_mem_cons.mpr ⟨h.2.1, (fun _ h => nomatch h)⟩)⟩
  | .rank n r, h => List.forall_mem_cons.mpr ⟨(show (_ : Str).length ≤ 100 from Nat.le_of_ble_eq_true rfl), (List.forall_mem_cons.mpr ⟨h.1.2.1, (List.forall_mem_cons.mpr ⟨h.2, (fun _ h => nomatch h)⟩)⟩)⟩
def spWordsOf (K : PySem.W.Frag) : Sp := fun vs H Q _ => ∃ (q : Addr) (x : Deed) (Rs : List Res), vs = [.ref q] ∧ H q = some (.tup x.xs) ∧ x.ok ∧ Sat H Rs ∧ ∀ p H', PK H H' → Sat H' (cell p (.lst (x.wd.map V.str)) :: Rs) → Q (.ref p) H'
def spDeedOf (K : PySem.W.Frag) : Sp := fun vs H Q _ => ∃ (p : Addr) (x : Deed) (Rs : List Res), vs = [.ref p] ∧ Sat H (cell p (.lst (x.wd.map V.str)) :: Rs) ∧ x.ok ∧ ∀ q H', PK H H' → Sat H' (cell p (.lst (x.wd.map V.str)) :: Rs) → H' q = some (.tup x.xs) → Q (.ref q) H'
def deedOut (t : BSt) (day : Int) : Deed → Str
  | .take n s => takeOut t day n s
  | .rank n r => rankOut t day n r
  | .word n | .free n | .flee n | .die n => oneOut t day n
def spTell (K : PySem.W.Frag) : Sp := fun vs H Q E => ∃ (b q : Addr) (day : Int) (x : Deed) (B : Bk) (F : FolkL) (Td : Told) (Rs : List Res), vs = [.ref b, .int day, .ref q] ∧ H q = some (.tup x.xs) ∧ Sat H (book (CB K) b B :: Rs) ∧ B.st.folk = folkD F ∧ B.st.told = toldD Td ∧ B.past.length < sizeLine ∧
  (deedOut B.st day x ≠ "" → ∀ H', PK H H' → Sat H' (book (CB K) b B :: Rs) → E (.ref (He.ga K (deedOut B.st day x))) none H') ∧
  (deedOut B.st day x = "" → lookOk F (Td ++ [(B.st.later, day, x)]) ∧ ∀ H', PK H H' → Sat H' (book (CB K) b (entered B Td day x) :: Rs) → Q (.int B.st.later) H')
def spUpcoming (K : PySem.W.Frag) : Sp := fun vs H Q _ => ∃ (b : Addr) (B : Bk) (Rs : List Res), vs = [.ref b] ∧ Sat H (book (CB K) b B :: Rs) ∧ Q (.int B.st.later) H
def spForget (K : PySem.W.Frag) : Sp := fun vs H Q _ => ∃ (b : Addr) (B : Bk) (Rs : List Res), vs = [.ref b] ∧ Sat H (book (CB K) b B :: Rs) ∧ ∀ H', PK H H' → Sat H' (book (CB K) b ⟨B.st, [], []⟩ :: Rs) → Q .non H'
/-- no cartels -/
def spCartels (K : PySem.W.Frag) : Sp := fun vs H Q _ => ∃ (b : Addr) (B : Bk) (Rs : List Res), vs = [.ref b] ∧ Sat H (book (CB K) b B :: Rs) ∧ B.st.pacts = [] ∧ ∀ p H', PK H H' → Sat H' (cell p (.lst []) :: book (CB K) b B :: Rs) → Q (.ref p) H'
section
variable {P : Program} {w : World} {K : PySem.W.Frag} {mg : Str → Option Value} {base : Heap}
theorem D_joined (T : Txt K mg) (F : Df K mg "joined" s_joined) : Dn P w K mg base CX0 1 "joined" ["parts"] (spJoined K) := by
  refine F.dn sc_joined (fun _ _ _ _ _ _ us hl => match us, hl with | [_], _ => rfl) (fun vs H Q E h => ?_) (fun f cdv A outer s H vs Q E hr hK h => ?_)
  · obtain ⟨p, ps, rfl, _⟩ := h
    rfl
  · obtain ⟨p, ps, rfl, hs, hl, ho, k⟩ := h
    refine ⟨_, (pss_one (ps_ret (pe_joinN pe_str (pe_lc (own := [("part", 1)]) (g := gName 1) (tt := tYes) rfl sc_joined.nd (pi_any (pv 0)) (blkOk_by (own := [("part", 1)]) (N := N_joined) (sc := defScope s_joined) (by decide +kernel)) (fun _ _ _ _ _ => pg_name (i := 1) sc_joined.nd rfl (Or.inl rfl)) (fun _ _ _ _ _ => pts_nil) (fun _ _ _ _ _ => (pe_callTy g_str rfl T.m_str boot_str (pa_cons (pv 1) pa_nil))))))), ?_⟩
    try rw [hK]
    rw [show L2.start N_joined [.ref p] = [some (.ref p), none] from rfl]
    have hfin : ∀ D H', H D = none → Ex H H' → H' D = some (.lst ((List.range ps.length).map fun i => V.str ((ps.map Part.t).getD i ""))) → rJoin K (.str " ") [.ref D] H' Q := fun D H' _ e hD => by
      have e2 : ((List.range ps.length).map fun i => V.str ((ps.map Part.t).getD i "")) = (ps.map Part.t).map V.str := by
        apply List.ext_getElem
        · simp
        · intro i h1 h2
          simp at h1 h2
          simp [h1]
      rw [e2] at hD
      refine x_joinL (ys := ps.map Part.t) (SqL.of hD) ?_ (k _ e)
      have := parts_sum ho
      have l1 : (" " : Str).length = 1 := rfl
      rw [List.length_map, l1]
      omega
    have stp : ∀ i v H2 D (Nx : Hp → Prop), (ps.map Part.v)[i]? = some v → (∀ H3, Ex H2 H3 → eltQ D Nx (V.str ((ps.map Part.t).getD i "")) H3) → rStrOf [v] H2 (eltQ D Nx) := fun i v H2 D Nx hv k2 => by
      rw [List.getElem?_map] at hv
      cases hp : ps[i]? with
      | none => rw [hp] at hv; cases hv
      | some q =>
        rw [hp] at hv
        cases hv
        have e : (ps.map Part.t).getD i "" = q.t := by rw [List.getD_eq_getElem?_getD, List.getElem?_map, hp]; rfl
        rw [e] at k2
        have hq := ho q (List.mem_of_getElem? hp)
        cases q with
        | s z => exact x_strS (k2 _ (Ex.refl _))
        | i n => exact x_strI (by have := hq.1; have := hq.2; omega) (k2 _ (Ex.refl _))
    walk_at "sx"
    rcases hs with hs | hs
    · refine x_iAL hs ?_
      refine x_lcMap (walk_list (xs := ps.map Part.v)) (fun i => V.str ((ps.map Part.t).getD i "")) (by rw [List.length_map, sizeLine_eq]; omega) (fun H' e => ex_l e hs) (fun D i x H1 H2 Nx hi e1 y k2 => ?_) (fun i x H1 H2 hi e1 y => by rw [y.1]; exact Ex.refl _) (fun D H' hD e h => ?_)
      · obtain ⟨rfl, hx⟩ := y
        walk_at "sx"
        exact stp i x _ D Nx hx k2
      · walk_at "sx"
        rw [List.length_map] at h
        exact hfin D H' hD e h
    · refine x_iAT hs ?_
      refine x_lcMap (walk_tup (xs := ps.map Part.v)) (fun i => V.str ((ps.map Part.t).getD i "")) (by rw [List.length_map, sizeLine_eq]; omega) (fun H' e => ex_t e hs) (fun D i x H1 H2 Nx hi e1 y k2 => ?_) (fun i x H1 H2 hi e1 y => by rw [y.1]; exact Ex.refl _) (fun D H' hD e h => ?_)
      · obtain ⟨rfl, hx⟩ := y
        walk_at "sx"
        exact stp i x _ D Nx hx k2
      · walk_at "sx"
        rw [List.length_map] at h
        exact hfin D H' hD e h
theorem D_words_of (T : Txt K mg) (F : Df K mg "words_of" s_words_of) : Dn P w K mg base CX0 1 "words_of" ["deed"] (spWordsOf K) := by
  refine F.dn sc_words_of (fun _ _ _ _ _ _ us hl => match us, hl with | [_], _ => rfl) (fun vs H Q E h => ?_) (fun f cdv A outer s H vs Q E hr hK h => ?_)
  · obtain ⟨q, x, Rs, rfl, _⟩ := h
    rfl
  · obtain ⟨q, x, Rs, rfl, hq, hx, S, k⟩ := h
    refine ⟨_, (pss_cons (ps_if (pt_cmpR op_ne (pe_ix ix_tup (pv 0) pe_int (fun _ _ => rfl)) pe_str (nomark _)) (pss_one (ps_ret (pe_lc (own := [("part", 1)]) (g := gName 1) (tt := tYes) rfl sc_words_of.nd (pi_tup (pv 0)) (blkOk_by (own := [("part", 1)]) (N := N_words_of) (sc := defScope s_words_of) (by decide +kernel)) (fun _ _ _ _ _ => pg_name (i := 1) sc_words_of.nd rfl (Or.inl rfl)) (fun _ _ _ _ _ => pts_nil) (fun _ _ _ _ _ => (pe_callTy g_str rfl T.m_str boot_str (pa_cons (pv 1) pa_nil)))))) pss_nil)
      (pss_one (ps_ret (pe_op op_cat (pe_op op_cat (pe_op op_cat (pe_lst (pa_cons pe_str (pa_cons (pe_ix ix_tup (pv 0) pe_int (fun _ _ => rfl)) (pa_cons (pe_ix ix_tup (pv 0) pe_int (fun _ _ => rfl)) pa_nil)))) (pe_callTy g_list rfl T.m_list boot_list (pa_cons (pe_ix ix_tup (pv 0) pe_int (fun _ _ => rfl)) pa_nil))) (pe_lst (pa_cons pe_str pa_nil))) (pe_callTy g_list rfl T.m_list boot_list (pa_cons (pe_ix ix_tup (pv 0) pe_int (fun _ _ => rfl)) pa_nil)))))), ?_⟩
    try rw [hK]
    rw [show L2.start N_words_of [.ref q] = [some (.ref q), none] from rfl]
    have ho := Deed.ps_ok hx
    obtain ⟨w0, r0, e0, ne⟩ : ∃ w0 r0, x.xs = .str w0 :: r0 ∧ w0 ≠ "swap" := by cases x <;> exact ⟨_, _, rfl, by decide⟩
    walk_at "sx"
    refine x_ixTn (xs := x.xs) (v := .str w0) (SqT.of hq) (by decide) (by rw [e0]; rfl) ?_
    walk_at "sx"
    refine x_ifD (fun _ => ?_) (fun c => absurd ne c)
    walk_at "sx"
    refine x_iTQ (SqT.of hq) ?_
    rw [← Deed.ps_v] at hq
    refine x_lcQ (walk_tup (xs := x.ps.map Part.v)) (fun D i H' => PK H H' ∧ Sat H' (cell D (.lst (((x.ps.map Part.t).take i).map V.str)) :: Rs)) (fun D hD => ⟨PK.of_ex (Ex.new hD), S.new hD⟩) (fun D i H' _ h => SqT.of (h.1.tup hq)) (fun D i y H2 H3 hi h yy => ?_) (fun D H2 h => ?_)
    · obtain ⟨pk2, S2⟩ := h
      obtain ⟨rfl, hy⟩ := yy
      clear S
      rw [List.length_map] at hi
      rw [List.getElem?_map] at hy
      cases hp : x.ps[i]? with
      | none => rw [hp] at hy; cases hy
      | some p =>
        rw [hp] at hy
        cases hy
        walk_at "sx"
        have hlen : x.ps.length ≤ 3 := by cases x <;> exact Nat.le_of_ble_eq_true rfl
        have fin : eltQ D (fun H' => PK H H' ∧ Sat H' (cell D (.lst (((x.ps.map Part.t).take (i + 1)).map V.str)) :: Rs)) (.str p.t) H3 := by
          refine x_eltS (by rw [List.length_map, List.length_take, List.length_map, sizeLine_eq]; omega) fun H4 pk4 S4 => ⟨pk2.trans pk4, ?_⟩
          rw [List.take_succ, List.getElem?_map, hp, List.map_append]
          exact S4
        have hpo := ho p (List.mem_of_getElem? hp)
        cases p with
        | s z => exact x_strS fin
        | i n => exact x_strI (by have := hpo.1; have := hpo.2; omega) fin
    · obtain ⟨pk2, S2⟩ := h
      rw [List.length_map, List.take_of_length_le (by rw [List.length_map]; exact Nat.le_refl _)] at S2
      exact k D H2 pk2 S2
theorem D_Book_upcoming (T : Txt K mg) (F : Mf K "Book" "upcoming" "Book.upcoming" s_Book_upcoming) : DnM P w K mg base CX0 1 (He.ma K (He.ga K "Book") "upcoming") ["self"] (spUpcoming K) := by
  refine F.dm sc_Book_upcoming (fun _ _ _ _ _ _ us hl => match us, hl with | [_], _ => rfl) (fun vs H Q E h => ?_) (fun f cdv A outer s H vs Q E hr hK h => ?_)
  · obtain ⟨b, B, Rs, rfl, _⟩ := h
    rfl
  · obtain ⟨b, B, Rs, rfl, S, k⟩ := h
    refine ⟨_, (pss_one (ps_ret (pe_fldC T.cl_Book T.n_Book_later (pv 0) rfl))), ?_⟩
    try rw [hK]
    rw [show L2.start N_Book_upcoming [.ref b] = [some (.ref b)] from rfl]
    obtain ⟨dx, ba, fo, pa, to, ps, fu, S1⟩ := S.bookE
    walk_at "sx"
    exact k
theorem D_Book_forget (T : Txt K mg) (F : Mf K "Book" "forget" "Book.forget" s_Book_forget) : DnM P w K mg base CX0 1 (He.ma K (He.ga K "Book") "forget") ["self"] (spForget K) := by
  refine F.dm sc_Book_forget (fun _ _ _ _ _ _ us hl => match us, hl with | [_], _ => rfl) (fun vs H Q E h => ?_) (fun f cdv A outer s H vs Q E hr hK h => ?_)
  · obtain ⟨b, B, Rs, rfl, _⟩ := h
    rfl
  · obtain ⟨b, B, Rs, rfl, S, k⟩ := h
    refine ⟨_, (pss_cons (ps_fldC T.cl_Book T.n_Book_past (pv 0) (pe_lst pa_nil) rfl)
      (pss_one (ps_fldC T.cl_Book T.n_Book_future (pv 0) (pe_lst pa_nil) rfl))), ?_⟩
    try rw [hK]
    rw [show L2.start N_Book_forget [.ref b] = [some (.ref b)] from rfl]
    obtain ⟨dx, ba, fo, pa, to, ps, fu, S1⟩ := S.bookE
    clear S
    walk_at "sx"
    rename_i p1 H1 pk1 S2 H2 pk2 S3 p2 H3 pk3 S4 H4 pk4 S5
    clear S1 S2 S3 S4
    have S6 := lstsNil (H := H4) (p := p1)
    have S7 := lstsNil (H := H4) (p := p2)
    exact k _ (by walk_at "pk") (bookC (C := CB K) (b := b)).pick
theorem D_Book_cartels (T : Txt K mg) (F : Mf K "Book" "cartels" "Book.cartels" s_Book_cartels) : DnM P w K mg base CX0 1 (He.ma K (He.ga K "Book") "cartels") ["self"] (spCartels K) := by
  refine F.dm sc_Book_cartels (fun _ _ _ _ _ _ us hl => match us, hl with | [_], _ => rfl) (fun vs H Q E h => ?_) (fun f cdv A outer s H vs Q E hr hK h => ?_)
  · obtain ⟨b, B, Rs, rfl, _⟩ := h
    rfl
  · obtain ⟨b, B, Rs, rfl, S, e0, k⟩ := h
    refine ⟨_, (pss_one (ps_ret (pe_lc (own := [("pair", 1)]) (g := gName 1) (tt := tYes) rfl sc_Book_cartels.nd (pi_list (pe_callB cr_sortedS rfl T.m_sorted boot_sorted (pa_cons (pe_callTy (call_list_dK rfl) rfl T.m_list boot_list (pa_cons (pe_fldC T.cl_Book T.n_Book_pacts (pv 0) rfl) pa_nil)) pa_nil))) (blkOk_by (own := [("pair", 1)]) (N := N_Book_cartels) (sc := defScope s_Book_cartels) (by decide +kernel)) (fun _ _ _ _ _ => pg_name (i := 1) sc_Book_cartels.nd rfl (Or.inl rfl)) (fun _ _ _ _ _ => pts_nil) (fun _ _ _ _ _ => (pe_op op_addS (pv 1) (pe_dget (hu_of hr) (pe_fldC T.cl_Book T.n_Book_pacts (pv 0) rfl) (pv 1) (fun _ _ => rfl))))))), ?_⟩
    try rw [hK]
    rw [show L2.start N_Book_cartels [.ref b] = [some (.ref b), none] from rfl]
    obtain ⟨dx, ba, fo, pa, to, ps, fu, S1⟩ := S.bookE
    rw [e0] at S1
    clear S
    walk_at "sx"
    rename_i p H3 pk3 S3
    clear S1
    refine ⟨p, [], rfl, SqL.of (show H3 p = some (.lst (([] : List Str).map V.str)) from sat_at), by decide, fun ys p2 hp hs hp2 => ?_⟩
    have ey : ys = [] := List.length_eq_zero_iff.mp hp.length_eq
    subst ey
    have S4 := S3.new hp2 (o := .lst (([] : List Str).map V.str))
    have pk4 : PK H3 (upd H3 p2 (.lst (([] : List Str).map V.str))) := PK.of_ex (Ex.new hp2)
    generalize upd H3 p2 (.lst (([] : List Str).map V.str)) = H4 at S4 pk4 ⊢
    clear S3
    have S4 : Sat H4 (cell p2 (.lst []) :: _) := S4
    walk_at "sx"
    refine x_lcQ (walk_list (xs := [])) (fun D i H' => PK H4 H' ∧ Sat H' (cell D (.lst []) :: cell p2 (.lst []) :: cell b (.ins (CB K) dx (fsBook (.ref ba) (.ref fo) (.ref pa) (.ref to) (.int B.st.later) (.ref ps) (.ref fu))) :: dct ba B.st.sides :: dct fo B.st.folk :: dct pa [] :: dct to B.st.told :: lsts ps B.past :: lsts fu B.fut :: Rs)) (fun D hD => ⟨PK.of_ex (Ex.new hD), (S4.new hD).pick⟩) (fun D i H' _ h => ?_) (fun D i y H2 H5 hi h yy => absurd hi (Nat.not_lt_zero _)) (fun D H2 h => ?_)
    · have S5 := h.2
      exact SqL.of sat_at
    · obtain ⟨pk5, S5⟩ := h
      clear S4
      have S6 := bookC (H := H2) (C := CB K) (b := b)
      refine k D H2 (pk3.trans (pk4.trans pk5)) ?_
      obtain ⟨⟨si, fk, pc, tl, la⟩, past, fut⟩ := B
      have e0 : pc = [] := e0
      subst e0
      exact S6.pick
end

/-! ### deeds of words, told -/
theorem x_slS {K : PySem.W.Frag} {H : Hp} {Q : VK} {Rs T : List Res} {F : Res → List Res} {p : Addr} {xs : List V} {lo hi : Option Int} [S : Sat H Rs] [f : Foc cell p (.lst xs) Rs T F] (q : ∀ l H', PK H H' → Sat H' (cell l (.lst (cutV xs lo hi)) :: Rs) → Q (.ref l) H') : rSlL K (.ref p) lo hi H Q :=
  x_slL (SqL.of S.at_) fun l hl => q l _ (PK.of_ex (Ex.new hl)) (S.new hl)
theorem x_tupLS {K : PySem.W.Frag} {H : Hp} {Q : VK} {Rs T : List Res} {F : Res → List Res} {p : Addr} {xs : List V} [S : Sat H Rs] [f : Foc cell p (.lst xs) Rs T F] (q : ∀ l H', PK H H' → Sat H' Rs → H' l = some (.tup xs) → Q (.ref l) H') : rTupOf K [.ref p] H Q :=
  x_tupL (SqL.of S.at_) fun l hl => q l _ (PK.of_ex (Ex.new hl)) (S.mono (Ex.new hl)) upd_same
theorem ne_cons_nil {d : PyData} {ds : List PyData} : PyData.eqv (.list (d :: ds)) (.list []) = false := by
  simp [PyData.eqv, PyData.eqvAll]
section
variable {P : Program} {w : World} {K : PySem.W.Frag} {mg : Str → Option Value} {base : Heap}
theorem D_deed_of (T : Txt K mg) (TB : Tabs w K mg) (D_number_of : Dn P w K mg base CX0 2 "number_of" ["word"] spNumberOf) (F : Df K mg "deed_of" s_deed_of) : Dn P w K mg base CX0 3 "deed_of" ["words"] (spDeedOf K) := by
  refine F.dn sc_deed_of (fun _ _ _ _ _ _ us hl => match us, hl with | [_], _ => rfl) (fun vs H Q E h => ?_) (fun f cdv A outer s H vs Q E hr hK h => ?_)
  · obtain ⟨p, x, Rs, rfl, _⟩ := h
    rfl
  · obtain ⟨p, x, Rs, rfl, S, hx, k⟩ := h
    obtain ⟨es_C, n_C, kd_COUNTS⟩ := TB.d_COUNTS
    refine ⟨_, (pss_cons (ps_if (PW.pt (pw_and (pt_cmpR op_gt (pe_callB g_len rfl T.m_len boot_len (pa_cons (pv 0) pa_nil)) pe_int (nomark _)) (pw_and (pt_cmpR op_eq (pe_ix ix_list (pv 0) pe_int (fun _ _ => rfl)) pe_str (nomark _)) (pw_and1 (pt_cmpR op_eq (pe_bm PySem.F.plainAttrs_list PySem.F.slot_list_count PySem.F.type_list_count mt_countF (pv 0) (pa_cons pe_str pa_nil)) pe_int (nomark _)))))) (pss_cons (ps_set (i := 1) sc_deed_of.nd rfl (Or.inl rfl) (pe_bm PySem.F.plainAttrs_list PySem.F.slot_list_index PySem.F.type_list_index mt_index (pv 0) (pa_cons pe_str pa_nil)))
      (pss_cons (ps_if (pt_cmpR op_lt (pv 1) pe_int (nomark _)) (pss_one (ps_ret pe_non)) pss_nil)
      (pss_one (ps_ret (pe_tup (pa_cons pe_str (pa_cons (pe_ix ix_list (pv 0) pe_int (fun _ _ => rfl)) (pa_cons (pe_ix ix_list (pv 0) pe_int (fun _ _ => rfl)) (pa_cons (pe_callTy g_tuple rfl T.m_tuple boot_tuple (pa_cons (pe_slice sl_list (pv 0) (po_some pe_int) (po_some (pv 1))) pa_nil)) (pa_cons (pe_callTy g_tuple rfl T.m_tuple boot_tuple (pa_cons (pe_slice sl_list (pv 0) (po_some (pe_op op_add (pv 1) pe_int)) po_none) pa_nil)) pa_nil)))))))))) pss_nil)
      (pss_cons (ps_if (PW.pt (pw_or (pt_cmpR (op_eqD hr.units) (pe_slice sl_list (pv 0) po_none (po_some pe_int)) (pe_lst pa_nil) (nomark _)) (pw_or1 (pt_cmpR op_ne (pe_kget2 kd_COUNTS (pe_glob (v := .ref (He.ga K "COUNTS")) rfl TB.g_COUNTS rfl) (pe_ix ix_list (pv 0) pe_int (fun _ _ => rfl)) pe_int ⟨rfl, rfl, rfl, rfl⟩) (pe_callB g_len rfl T.m_len boot_len (pa_cons (pv 0) pa_nil)) (nomark _))))) (pss_one (ps_ret pe_non)) pss_nil)
      (pss_cons (ps_if (pt_cmpR op_eq (pe_ix ix_list (pv 0) pe_int (fun _ _ => rfl)) pe_str (nomark _)) (pss_cons (ps_set (i := 2) sc_deed_of.nd rfl (Or.inl rfl) (pe_dn D_number_of (hr.mono (by first | decide | omega)) pass0 (pa_cons (pe_ix ix_list (pv 0) pe_int (fun _ _ => rfl)) pa_nil)))
      (pss_cons (ps_if (pt_cmpR g_isN (pv 2) pe_non (nomark _)) (pss_one (ps_ret pe_non)) pss_nil)
      (pss_one (ps_ret (pe_tup (pa_cons pe_str (pa_cons (pe_ix ix_list (pv 0) pe_int (fun _ _ => rfl)) (pa_cons (pv 2) pa_nil)))))))) pss_nil)
      (pss_one (ps_ret (pe_callTy g_tuple rfl T.m_tuple boot_tuple (pa_cons (pv 0) pa_nil))))))), ?_⟩
    try rw [hK]
    rw [show L2.start N_deed_of [.ref p] = [some (.ref p), none, none] from rfl]
    obtain ⟨w0, r0, e0, hk, hl⟩ : ∃ w0 r0, x.wd.map V.str = .str w0 :: r0 ∧ KSays K (He.ga K "COUNTS") w0 (some (.int ((r0.length + 1 : Nat) : Int))) ∧ r0.length ≤ 2 := by
      have z := fun {w0 : Str} {c : Int} (i : Nat) h => tabB_yes (z := w0) (i := c) TB.b_COUNTS (List.mem_of_getElem? (i := i) h)
      cases x with
      | take n s => exact ⟨_, _, rfl, z 0 rfl, Nat.le_of_ble_eq_true rfl⟩
      | word n => exact ⟨_, _, rfl, z 1 rfl, Nat.le_of_ble_eq_true rfl⟩
      | free n => exact ⟨_, _, rfl, z 2 rfl, Nat.le_of_ble_eq_true rfl⟩
      | flee n => exact ⟨_, _, rfl, z 3 rfl, Nat.le_of_ble_eq_true rfl⟩
      | rank n r => exact ⟨_, _, rfl, z 4 rfl, Nat.le_of_ble_eq_true rfl⟩
      | die n => exact ⟨_, _, rfl, z 5 rfl, Nat.le_of_ble_eq_true rfl⟩
    have S0 : Sat H (cell p (.lst (.str w0 :: r0)) :: Rs) := e0 ▸ S
    walk_at "sx"
    refine x_andD (fun c => ?_) (fun _ => ?_)
    · simp only [List.length_cons] at c
      omega
    walk_at "sx"
    refine x_slS fun l1 H1 pk1 S1 => ?_
    clear S S0
    walk_at "sx"
    rename_i l2 H2 pk2 S2
    clear S1
    have ec : cutV (.str w0 :: r0 : List V) none (some 1) = [.str w0] := (cut_to (k := 1)).trans rfl
    rw [ec] at S2
    have hw0 : PyData.strOk w0 = true := by
      cases x <;> (cases e0; decide +kernel)
    refine x_eqD (d := .list [.str w0]) (e := .list []) (.lst (SqL.of (show H2 l1 = some (.lst [.str w0]) from sat_at)) (.cons (.str w0) .nil)) (.lst (SqL.of (show H2 l2 = some (.lst []) from sat_at)) .nil) (OkD.shaped (n := 2) (.list (Nat.le_of_ble_eq_true rfl) fun d hd => by rw [List.mem_singleton.mp hd]; exact .str hw0) (by decide)) (by decide +kernel) ?_
    rw [ne_cons_nil]
    walk_at "sx"
    refine x_kg hk ?_
    show opQ1 rNe (tCB (G.rLen K) (tCons (tVar 0) tNil)) [some (V.ref p), none, none] _ (.int ((r0.length + 1 : Nat) : Int)) H2
    walk_at "sx"
    refine x_ifD (fun c => absurd rfl c) (fun _ => ?_)
    have S3 : Sat H2 (cell p (.lst (x.wd.map V.str)) :: Rs) := by
      rw [e0]
      exact S2.pick
    have pk3 : PK H H2 := pk1.trans pk2
    clear S2
    have hh : (w0 ≠ "rank" ∧ x.xs = .str w0 :: r0) ∨ ∃ n r, x = .rank n r := by
      cases x with
      | rank n r => exact .inr ⟨n, r, rfl⟩
      | _ => exact .inl (by cases e0; exact ⟨by decide, rfl⟩)
    have S4 : Sat H2 (cell p (.lst (.str w0 :: r0)) :: Rs) := e0 ▸ S3
    rcases hh with ⟨hne, ex⟩ | ⟨n, r, rfl⟩
    · walk_at "sx"
      refine x_ifD (fun c => absurd c hne) (fun _ => ?_)
      walk_at "sx"
      refine x_tupLS fun l H3 pk4 S5 h5 => ?_
      refine k l H3 (pk3.trans pk4) ?_ (by rw [ex]; exact h5)
      rw [e0]
      exact S5
    · cases e0
      have S4 : Sat H2 (cell p (.lst [.str "rank", .str n, .str (nt r)]) :: Rs) := S4
      clear S3
      walk_at "sx"
      refine x_ifD (fun _ => ?_) (fun c => absurd rfl c)
      walk_at "sx"
      refine ⟨nt r, rfl, by have := nt_len hx.2.1 hx.2.2; omega, fun H3 e3 => ?_⟩
      rw [numOf_nt hx.2.1 hx.2.2]
      simp only [optI]
      have S5 := S4.mono e3
      clear S4
      walk_at "sx"
      rename_i q H4 pk4 S6 h6
      exact k q H4 (pk3.trans ((PK.of_ex e3).trans pk4)) S6 h6
theorem D_tell (T : Txt K mg) (D_Book_take : DnM P w K mg base (L2.CX P w) 7 (He.ma K (He.ga K "Book") "take") ["self", "day", "man", "side"] (spTakeX K)) (D_Book_word : DnM P w K mg base (L2.CX P w) 8 (He.ma K (He.ga K "Book") "word") ["self", "day", "man"] (spOneX K .word)) (D_Book_free : DnM P w K mg base (L2.CX P w) 8 (He.ma K (He.ga K "Book") "free") ["self", "day", "man"] (spOneX K .free))
    (D_Book_flee : DnM P w K mg base (L2.CX P w) 8 (He.ma K (He.ga K "Book") "flee") ["self", "day", "man"] (spOneX K .flee)) (D_Book_die : DnM P w K mg base (L2.CX P w) 8 (He.ma K (He.ga K "Book") "die") ["self", "day", "man"] (spOneX K .die)) (D_Book_rank : DnM P w K mg base (L2.CX P w) 7 (He.ma K (He.ga K "Book") "rank") ["self", "day", "man", "rank"] (spRankX K)) (D_Book_swap : DnM P w K mg base CX0 1 (He.ma K (He.ga K "Book") "swap") ["self", "day", "one", "other", "ones", "others"] spNever)
    (F : Df K mg "tell" s_tell) : Dn P w K mg base (L2.CX P w) 9 "tell" ["book", "day", "deed"] (spTell K) := by
  refine F.dnX sc_tell (fun _ _ _ _ _ _ us hl => match us, hl with | [_, _, _], _ => rfl) (fun vs H Q E h => ?_) (fun f cdv A outer s H vs Q E hr hK h => ?_)
  · obtain ⟨b, q, day, x, B, Fo, Td, Rs, rfl, _⟩ := h
    rfl
  · obtain ⟨b, q, day, x, B, Fo, Td, Rs, rfl, hq, S, e1, e2, hz, no, yes⟩ := h
    refine ⟨_, (pss_cons (ps_if (pt_cmpR op_eq (pe_ix ix_tup (pv 2) pe_int (fun _ _ => rfl)) pe_str (nomark _)) (pss_one (ps_ret (pe_mt (pv 0) T.cl_Book T.me_Book_take D_Book_take (hr.mono (by first | decide | omega)) passX (pa_cons (pv 1) (pa_cons (pe_ix ix_tup (pv 2) pe_int (fun _ _ => rfl)) (pa_cons (pe_ix ix_tup (pv 2) pe_int (fun _ _ => rfl)) pa_nil)))))) pss_nil)
      (pss_cons (ps_if (pt_cmpR op_eq (pe_ix ix_tup (pv 2) pe_int (fun _ _ => rfl)) pe_str (nomark _)) (pss_one (ps_ret (pe_mt (pv 0) T.cl_Book T.me_Book_word D_Book_word (hr.mono (by first | decide | omega)) passX (pa_cons (pv 1) (pa_cons (pe_ix ix_tup (pv 2) pe_int (fun _ _ => rfl)) pa_nil))))) pss_nil)
      (pss_cons (ps_if (pt_cmpR op_eq (pe_ix ix_tup (pv 2) pe_int (fun _ _ => rfl)) pe_str (nomark _)) (pss_one (ps_ret (pe_mt (pv 0) T.cl_Book T.me_Book_free D_Book_free (hr.mono (by first | decide | omega)) passX (pa_cons (pv 1) (pa_cons (pe_ix ix_tup (pv 2) pe_int (fun _ _ => rfl)) pa_nil))))) pss_nil)
      (pss_cons (ps_if (pt_cmpR op_eq (pe_ix ix_tup (pv 2) pe_int (fun _ _ => rfl)) pe_str (nomark _)) (pss_one (ps_ret (pe_mt (pv 0) T.cl_Book T.me_Book_flee D_Book_flee (hr.mono (by first | decide | omega)) passX (pa_cons (pv 1) (pa_cons (pe_ix ix_tup (pv 2) pe_int (fun _ _ => rfl)) pa_nil))))) pss_nil)
      (pss_cons (ps_if (pt_cmpR op_eq (pe_ix ix_tup (pv 2) pe_int (fun _ _ => rfl)) pe_str (nomark _)) (pss_one (ps_ret (pe_mt (pv 0) T.cl_Book T.me_Book_die D_Book_die (hr.mono (by first | decide | omega)) passX (pa_cons (pv 1) (pa_cons (pe_ix ix_tup (pv 2) pe_int (fun _ _ => rfl)) pa_nil))))) pss_nil)
      (pss_cons (ps_if (pt_cmpR op_eq (pe_ix ix_tup (pv 2) pe_int (fun _ _ => rfl)) pe_str (nomark _)) (pss_one (ps_ret (pe_mt (pv 0) T.cl_Book T.me_Book_rank D_Book_rank (hr.mono (by first | decide | omega)) passX (pa_cons (pv 1) (pa_cons (pe_ix ix_tup (pv 2) pe_int (fun _ _ => rfl)) (pa_cons (pe_ix ix_tup (pv 2) pe_int (fun _ _ => rfl)) pa_nil)))))) pss_nil)
      (pss_one (ps_ret (pe_mt (pv 0) T.cl_Book T.me_Book_swap D_Book_swap (hr.mono (by first | decide | omega)) pass0 (pa_cons (pv 1) (pa_cons (pe_ix ix_tup (pv 2) pe_int (fun _ _ => rfl)) (pa_cons (pe_ix ix_tup (pv 2) pe_int (fun _ _ => rfl)) (pa_cons (pe_callTy g_list rfl T.m_list boot_list (pa_cons (pe_ix ix_tup (pv 2) pe_int (fun _ _ => rfl)) pa_nil)) (pa_cons (pe_callTy g_list rfl T.m_list boot_list (pa_cons (pe_ix ix_tup (pv 2) pe_int (fun _ _ => rfl)) pa_nil)) pa_nil)))))))))))))), ?_⟩
    try rw [hK]
    rw [show L2.start N_tell [.ref b, .int day, .ref q] = [some (.ref b), some (.int day), some (.ref q)] from rfl]
    cases x with
    | take n sd =>
      simp only [Deed.xs] at hq
      walk_at "sx"
      refine x_ifD (fun _ => ?_) (fun c => absurd rfl c)
      walk_at "sx"
      exact ⟨b, day, n, sd, B, Fo, Td, Rs, rfl, S, e1, e2, hz, no, yes⟩
    | word n =>
      simp only [Deed.xs] at hq
      walk_at "sx"
      refine x_ifD (fun c => absurd c (by decide)) (fun _ => ?_)
      walk_at "sx"
      refine x_ifD (fun _ => ?_) (fun c => absurd rfl c)
      walk_at "sx"
      exact ⟨b, day, n, B, Fo, Td, Rs, rfl, S, e1, e2, hz, no, yes⟩
    | free n =>
      simp only [Deed.xs] at hq
      walk_at "sx"
      refine x_ifD (fun c => absurd c (by decide)) (fun _ => ?_)
      walk_at "sx"
      refine x_ifD (fun c => absurd c (by decide)) (fun _ => ?_)
      walk_at "sx"
      refine x_ifD (fun _ => ?_) (fun c => absurd rfl c)
      walk_at "sx"
      exact ⟨b, day, n, B, Fo, Td, Rs, rfl, S, e1, e2, hz, no, yes⟩
    | flee n =>
      simp only [Deed.xs] at hq
      walk_at "sx"
      refine x_ifD (fun c => absurd c (by decide)) (fun _ => ?_)
      walk_at "sx"
      refine x_ifD (fun c => absurd c (by decide)) (fun _ => ?_)
      walk_at "sx"
      refine x_ifD (fun c => absurd c (by decide)) (fun _ => ?_)
      walk_at "sx"
      refine x_ifD (fun _ => ?_) (fun c => absurd rfl c)
      walk_at "sx"
      exact ⟨b, day, n, B, Fo, Td, Rs, rfl, S, e1, e2, hz, no, yes⟩
    | die n =>
      simp only [Deed.xs] at hq
      walk_at "sx"
      refine x_ifD (fun c => absurd c (by decide)) (fun _ => ?_)
      walk_at "sx"
      refine x_ifD (fun c => absurd c (by decide)) (fun _ => ?_)
      walk_at "sx"
      refine x_ifD (fun c => absurd c (by decide)) (fun _ => ?_)
      walk_at "sx"
      refine x_ifD (fun c => absurd c (by decide)) (fun _ => ?_)
      walk_at "sx"
      refine x_ifD (fun _ => ?_) (fun c => absurd rfl c)
      walk_at "sx"
      exact ⟨b, day, n, B, Fo, Td, Rs, rfl, S, e1, e2, hz, no, yes⟩
    | rank n r =>
      simp only [Deed.xs] at hq
      walk_at "sx"
      refine x_ifD (fun c => absurd c (by decide)) (fun _ => ?_)
      walk_at "sx"
      refine x_ifD (fun c => absurd c (by decide)) (fun _ => ?_)
      walk_at "sx"
      refine x_ifD (fun c => absurd c (by decide)) (fun _ => ?_)
      walk_at "sx"
      refine x_ifD (fun c => absurd c (by decide)) (fun _ => ?_)
      walk_at "sx"
      refine x_ifD (fun c => absurd c (by decide)) (fun _ => ?_)
      walk_at "sx"
      refine x_ifD (fun _ => ?_) (fun c => absurd rfl c)
      walk_at "sx"
      exact ⟨b, day, n, r, B, Fo, Td, Rs, rfl, S, e1, e2, hz, no, yes⟩
end

/-! ### numbers of words; a book's rows -/
theorem x_catS {H : Hp} {Q : VK} {Rs T T2 : List Res} {F F2 : Res → List Res} {p q : Addr} {xs ys : List V} [S : Sat H Rs] [f : Foc cell p (.lst xs) Rs T F] [f2 : Foc cell q (.lst ys) Rs T2 F2] (hz : xs.length + ys.length ≤ sizeLine) (k : ∀ l H', PK H H' → Sat H' (cell l (.lst (xs ++ ys)) :: Rs) → Q (.ref l) H') : rCat (.ref p) (.ref q) H Q :=
  x_cat S.at_ S.at_ hz fun l hl => k l _ (PK.of_ex (Ex.new hl)) (S.new hl)
theorem x_extendS {H : Hp} {Q : VK} {Rs T T2 : List Res} {F F2 : Res → List Res} {p q : Addr} {xs ys : List V} [S : Sat H Rs] [f : Foc cell p (.lst xs) Rs T F] [f2 : Foc cell q (.lst ys) Rs T2 F2] (hz : xs.length + ys.length ≤ sizeLine) (k : ∀ H', PK H H' → Sat H' (F (cell p (.lst (xs ++ ys)))) → Q .non H') : rExtend (.ref p) [.ref q] H Q :=
  ⟨p, q, xs, ys, rfl, rfl, S.at_, S.at_, hz, k _ (S.cset id (o' := .lst (xs ++ ys))).1 (S.cset id (o' := .lst (xs ++ ys))).2⟩
theorem x_catAS {K : PySem.W.Frag} {H : Hp} {Q : VK} {Rs : List Res} {p q : Addr} {xs ys : List V} [S : Sat H Rs] (h : H p = some (.tup xs)) (h2 : H q = some (.tup ys)) (n1 : xs ≠ []) (n2 : ys ≠ []) (hz : xs.length + ys.length ≤ sizeLine) (k : ∀ l H', PK H H' → Sat H' Rs → H' l = some (.tup (xs ++ ys)) → Q (.ref l) H') : rCatA K (.ref p) (.ref q) H Q :=
  ⟨p, q, xs, ys, rfl, rfl, SqT.of h, SqT.of h2, hz, fun c => absurd c n1, fun _ c => absurd c n2, fun _ _ l hl => k l _ (PK.of_ex (Ex.new hl)) (S.mono (Ex.new hl)) upd_same⟩
def spNumbersOf (K : PySem.W.Frag) : Sp := fun vs H Q _ => ∃ (p : Addr) (zs : List Str) (Rs : List Res), vs = [.ref p] ∧ Sat H (cell p (.lst (zs.map V.str)) :: Rs) ∧ (∀ z ∈ zs, z.length ≤ 1000) ∧ zs.length ≤ 1000 ∧
  (∀ ns : List Int, zs.map numOf = ns.map some → ∀ l H', PK H H' → Sat H' (cell l (.lst (ns.map V.int)) :: cell p (.lst (zs.map V.str)) :: Rs) → Q (.ref l) H') ∧
  ((∃ z ∈ zs, numOf z = none) → ∀ H', PK H H' → Sat H' (cell p (.lst (zs.map V.str)) :: Rs) → Q .non H')
def manW (F : FolkL) (n : Str) : List Str := match F.find? (fun f => decide (f.1 = n)) with
  | some f => ["man", n, f.2.1, nt f.2.2]
  | none => []
def deedW (t : Int × Int × Deed) : List Str := "deed" :: nt t.1 :: nt t.2.1 :: t.2.2.wd
def rowsT (ys zs : List Str) (F : FolkL) (T : Told) (la : Int) : List Str := (ys.map fun n => jn ["side", n]) ++ (zs.map fun n => jn (manW F n)) ++ (T.map fun t => jn (deedW t)) ++ [jn ["next", nt la]]
structure RowsOk (ns : List Str) (F : FolkL) (Td : Told) (la : Int) : Prop where
  n1 : ns.length < 64
  n2 : ∀ n ∈ ns, n.length ≤ 100
  f1 : F.length < 64
  f2 : ∀ f ∈ F, f.1.length ≤ 100 ∧ f.2.1.length ≤ 100 ∧ 0 ≤ f.2.2 ∧ f.2.2 < 10 ^ 10
  t0 : (Td.map fun t => t.1).Nodup
  t1 : Td.length ≤ 1000
  t2 : ∀ t ∈ Td, 0 ≤ t.1 ∧ t.1 < 10 ^ 10 ∧ 0 ≤ t.2.1 ∧ t.2.1 < 10 ^ 10 ∧ t.2.2.ok
  l1 : 0 ≤ la ∧ la < 10 ^ 10
def spBookRows (K : PySem.W.Frag) : Sp := fun vs H Q _ => ∃ (b : Addr) (B : Bk) (ns : List Str) (F : FolkL) (Td : Told) (Rs : List Res), vs = [.ref b] ∧ Sat H (book (CB K) b B :: Rs) ∧ B.st.sides.map (fun kv => kV kv.1) = ns.map V.str ∧ B.st.folk = folkD F ∧ B.st.pacts = [] ∧ B.st.told = toldD Td ∧ RowsOk ns F Td B.st.later ∧
  ∀ p ys zs T' H', ys.Perm ns → sortedS ys = true → zs.Perm (F.map fun f => f.1) → sortedS zs = true → T'.Perm Td → inOrd T' → PK H H' → Sat H' (cell p (.lst ((rowsT ys zs F T' B.st.later).map V.str)) :: book (CB K) b B :: Rs) → Q (.ref p) H'
theorem jn_two (a b : Str) : a ++ " " ++ b = jn [a, b] := by rw [jn_cons, jn_one, str_assoc]
section
variable {P : Program} {w : World} {K : PySem.W.Frag} {mg : Str → Option Value} {base : Heap}
theorem D_numbers_of (T : Txt K mg) (D_number_of : Dn P w K mg base CX0 2 "number_of" ["word"] spNumberOf) (F : Df K mg "numbers_of" s_numbers_of) : Dn P w K mg base CX0 3 "numbers_of" ["words"] (spNumbersOf K) := by
  refine F.dn sc_numbers_of (fun _ _ _ _ _ _ us hl => match us, hl with | [_], _ => rfl) (fun vs H Q E h => ?_) (fun f cdv A outer s H vs Q E hr hK h => ?_)
  · obtain ⟨p, zs, Rs, rfl, _⟩ := h
    rfl
  · obtain ⟨p, zs, Rs, rfl, S, hl, hn, yes, no⟩ := h
    refine ⟨_, (pss_cons (ps_setLc (i := 1) (own := [("word", 2)]) (g := gName 2) (tt := tYes) rfl sc_numbers_of.nd rfl rfl (sw_true rfl rfl rfl (by decide +kernel)) (pi_list (pv 0)) (blkOk_by (own := [("word", 2)]) (N := N_numbers_of) (sc := defScope s_numbers_of) (by decide +kernel)) (fun _ _ _ _ _ => pg_name (i := 2) sc_numbers_of.nd rfl (Or.inl rfl)) (fun _ _ _ _ _ => pts_nil) (fun _ _ _ _ _ => (pe_dn D_number_of (hr.mono (by first | decide | omega)) pass0 (pa_cons (pv 2) pa_nil))))
      (pss_cons (ps_if (pt_cmpR op_in_seq pe_non (pv 1) rfl) (pss_one (ps_ret pe_non)) pss_nil)
      (pss_one (ps_ret (pv 1))))), ?_⟩
    try rw [hK]
    rw [show L2.start N_numbers_of [.ref p] = [some (.ref p), none, none] from rfl]
    walk_at "sx"
    refine x_lcQ (walk_list (xs := zs.map V.str)) (fun D i H' => PK H H' ∧ Sat H' (cell D (.lst (((zs.take i).map numOf).map optI)) :: cell p (.lst (zs.map V.str)) :: Rs)) (fun D hD => ⟨PK.of_ex (Ex.new hD), S.new hD⟩) (fun D i H' _ h => ?_) (fun D i y H2 H3 hi h yy => ?_) (fun D H2 h => ?_)
    · have S2 := h.2
      exact SqL.of sat_at
    · obtain ⟨pk2, S2⟩ := h
      obtain ⟨rfl, hy⟩ := yy
      clear S
      rw [List.length_map] at hi
      rw [List.getElem?_map] at hy
      cases hp : zs[i]? with
      | none => rw [hp] at hy; cases hy
      | some z =>
        rw [hp] at hy
        cases hy
        walk_at "sx"
        refine ⟨z, rfl, hl z (List.mem_of_getElem? hp), fun H4 e4 => ?_⟩
        have S4 := S2.mono e4
        clear S2
        refine x_eltS (by rw [List.length_map, List.length_map, List.length_take, sizeLine_eq]; omega) fun H5 pk5 S5 => ⟨pk2.trans ((PK.of_ex e4).trans pk5), ?_⟩
        rw [List.take_succ, hp, List.map_append, List.map_append]
        exact S5
    · obtain ⟨pk2, S2⟩ := h
      clear S
      rw [List.length_map, List.take_length] at S2
      walk_at "sx"
      refine ⟨D, _, rfl, .inl (SqL.of sat_at), rfl, ?_, ?_⟩
      · refine List.all_eq_true.mpr fun v hv => ?_
        obtain ⟨o, _, rfl⟩ := List.mem_map.mp hv
        cases o <;> rfl
      · rw [if_neg Bool.false_ne_true]
        have e : inV .non ((zs.map numOf).map optI) = decide (∃ z ∈ zs, numOf z = none) := by
          unfold inV
          rw [Bool.eq_iff_iff, List.any_eq_true, decide_eq_true_iff]
          constructor
          · rintro ⟨v, hv, h⟩
            obtain ⟨o, ho, rfl⟩ := List.mem_map.mp hv
            obtain ⟨z, hz, rfl⟩ := List.mem_map.mp ho
            refine ⟨z, hz, ?_⟩
            cases e : numOf z with
            | none => rfl
            | some n => rw [e] at h; cases h
          · rintro ⟨z, hz, h⟩
            exact ⟨.non, List.mem_map.mpr ⟨none, List.mem_map.mpr ⟨z, hz, h⟩, rfl⟩, rfl⟩
        rw [e]
        walk_at "sx"
        refine x_ifD (fun c => ?_) (fun c => ?_)
        · walk_at "sx"
          exact no c _ pk2 S2.tail
        · walk_at "sx"
          have hns : ∃ ns : List Int, zs.map numOf = ns.map some := by
            refine ⟨zs.map fun z => (numOf z).getD 0, ?_⟩
            rw [List.map_map]
            refine List.map_congr_left fun z hz => ?_
            cases e : numOf z with
            | none => exact absurd ⟨z, hz, e⟩ c
            | some n => simp [e]
          obtain ⟨ns, hns⟩ := hns
          refine yes ns hns D H2 pk2 ?_
          rw [hns] at S2
          have e2 : (ns.map some).map optI = ns.map V.int := by rw [List.map_map]; rfl
          rw [e2] at S2
          exact S2
end

theorem men_tp {H : Hp} {v : V} {F : FolkL} {n : Str} (hn : n ∈ F.map fun f => f.1) (h : Tp H v (menRow F n)) : ∃ f q, F.find? (fun f => decide (f.1 = n)) = some f ∧ f ∈ F ∧ v = .ref q ∧ H q = some (.tup [.str n, .str f.2.1, .int f.2.2]) := by
  obtain ⟨f, hf, _, hr⟩ := valD_folk hn
  rw [hr] at h
  cases h with
  | tup e a => cases a with | cons a1 a => cases a with | cons a2 a => cases a with | cons a3 a => cases a; cases a1; cases a2; cases a3; exact ⟨f, _, hf, List.mem_of_find?_eq_some hf, rfl, e⟩
theorem deed_tp {H : Hp} {v : V} {t : Int × Int × Deed} (h : Tp H v (deedD t)) : ∃ q r, v = .ref q ∧ H q = some (.tup [.int t.1, .int t.2.1, .ref r]) ∧ H r = some (.tup t.2.2.xs) := by
  cases h with
  | tup e a => cases a with | cons a1 a => cases a with | cons a2 a => cases a with | cons a3 a => cases a; cases a1; cases a2; obtain ⟨r, rfl, hr⟩ := tp_xs a3; exact ⟨_, r, rfl, e, hr⟩
section
variable {P : Program} {w : World} {K : PySem.W.Frag} {mg : Str → Option Value} {base : Heap}
theorem D_book_rows (T : Txt K mg) (D_joined : Dn P w K mg base CX0 1 "joined" ["parts"] (spJoined K)) (D_words_of : Dn P w K mg base CX0 1 "words_of" ["deed"] (spWordsOf K)) (D_Book_sides : DnM P w K mg base CX0 1 (He.ma K (He.ga K "Book") "sides") ["self"] (spSides K)) (D_Book_men : DnM P w K mg base CX0 1 (He.ma K (He.ga K "Book") "men") ["self"] (spMen K)) (D_Book_cartels : DnM P w K mg base CX0 1 (He.ma K (He.ga K "Book") "cartels") ["self"] (spCartels K)) (D_Book_deeds : DnM P w K mg base CX0 2 (He.ma K (He.ga K "Book") "deeds") ["self"] (spDeeds K)) (D_Book_upcoming : DnM P w K mg base CX0 1 (He.ma K (He.ga K "Book") "upcoming") ["self"] (spUpcoming K))
    (F : Df K mg "book_rows" s_book_rows) : Dn P w K mg base CX0 3 "book_rows" ["book"] (spBookRows K) := by
  refine F.dn sc_book_rows (fun _ _ _ _ _ _ us hl => match us, hl with | [_], _ => rfl) (fun vs H Q E h => ?_) (fun f cdv A outer s H vs Q E hr hK h => ?_)
  · obtain ⟨b, B, ns, Fo, Td, Rs, rfl, _⟩ := h
    rfl
  · obtain ⟨b, B, ns, Fo, Td, Rs, rfl, S, e1, e2, e3, e4, ok, k⟩ := h
    refine ⟨_, (pss_cons (ps_setLc (i := 1) (own := [("name", 9)]) (g := gName 9) (tt := tYes) rfl sc_book_rows.nd rfl rfl (sw_true rfl rfl rfl (by decide +kernel)) (pi_list (pe_mt0 (pv 0) T.cl_Book T.me_Book_sides D_Book_sides (hr.mono (by first | decide | omega)) pass0)) (blkOk_by (own := [("name", 9)]) (N := N_book_rows) (sc := defScope s_book_rows) (by decide +kernel)) (fun _ _ _ _ _ => pg_name (i := 9) sc_book_rows.nd rfl (Or.inl rfl)) (fun _ _ _ _ _ => pts_nil) (fun _ _ _ _ _ => (pe_op op_addS pe_str (pv 9))))
      (pss_cons (ps_expr (pe_bm PySem.F.plainAttrs_list PySem.F.slot_list_extend PySem.F.type_list_extend mt_extend (pv 1) (pa_cons (pe_lc (own := [("row", 10)]) (g := gName 10) (tt := tYes) rfl sc_book_rows.nd (pi_list (pe_mt0 (pv 0) T.cl_Book T.me_Book_men D_Book_men (hr.mono (by first | decide | omega)) pass0)) (blkOk_by (own := [("row", 10)]) (N := N_book_rows) (sc := defScope s_book_rows) (by decide +kernel)) (fun _ _ _ _ _ => pg_name (i := 10) sc_book_rows.nd rfl (Or.inl rfl)) (fun _ _ _ _ _ => pts_nil) (fun _ _ _ _ _ => (pe_dn D_joined (hr.mono (by first | decide | omega)) pass0 (pa_cons (pe_op (r := rCatA K) op_catA (pe_tup (pa_cons pe_str pa_nil)) (pv 10)) pa_nil)))) pa_nil)))
      (pss_cons (ps_for PassesOwn.never rfl (pi_list (pe_mt0 (pv 0) T.cl_Book T.me_Book_cartels D_Book_cartels (hr.mono (by first | decide | omega)) pass0)) (pg_tup rfl (pgs_cons (pg_name (i := 2) sc_book_rows.nd rfl (Or.inl rfl)) (pgs_cons (pg_name (i := 3) sc_book_rows.nd rfl (Or.inl rfl)) (pgs_cons (pg_name (i := 4) sc_book_rows.nd rfl (Or.inl rfl)) (pgs_cons (pg_name (i := 5) sc_book_rows.nd rfl (Or.inl rfl)) pgs_nil))))) (pss_one (ps_expr (pe_bm PySem.F.plainAttrs_list PySem.F.slot_list_append PySem.F.type_list_append mt_append (pv 1) (pa_cons (pe_dn D_joined (hr.mono (by first | decide | omega)) pass0 (pa_cons (pe_op op_cat (pe_op op_cat (pe_lst (pa_cons pe_str (pa_cons (pv 2) (pa_cons (pv 3) pa_nil)))) (pe_callTy g_list rfl T.m_list boot_list (pa_cons (pv 4) pa_nil))) (pe_lst (pa_cons (pv 5) pa_nil))) pa_nil)) pa_nil)))))
      (pss_cons (ps_for PassesOwn.never rfl (pi_list (pe_mt0 (pv 0) T.cl_Book T.me_Book_deeds D_Book_deeds (hr.mono (by first | decide | omega)) pass0)) (pg_tup rfl (pgs_cons (pg_name (i := 6) sc_book_rows.nd rfl (Or.inl rfl)) (pgs_cons (pg_name (i := 7) sc_book_rows.nd rfl (Or.inl rfl)) (pgs_cons (pg_name (i := 8) sc_book_rows.nd rfl (Or.inl rfl)) pgs_nil)))) (pss_one (ps_expr (pe_bm PySem.F.plainAttrs_list PySem.F.slot_list_append PySem.F.type_list_append mt_append (pv 1) (pa_cons (pe_dn D_joined (hr.mono (by first | decide | omega)) pass0 (pa_cons (pe_op op_cat (pe_lst (pa_cons pe_str (pa_cons (pv 6) (pa_cons (pv 7) pa_nil)))) (pe_dn D_words_of (hr.mono (by first | decide | omega)) pass0 (pa_cons (pv 8) pa_nil))) pa_nil)) pa_nil)))))
      (pss_one (ps_ret (pe_op op_cat (pv 1) (pe_lst (pa_cons (pe_dn D_joined (hr.mono (by first | decide | omega)) pass0 (pa_cons (pe_lst (pa_cons pe_str (pa_cons (pe_mt0 (pv 0) T.cl_Book T.me_Book_upcoming D_Book_upcoming (hr.mono (by first | decide | omega)) pass0) pa_nil))) pa_nil)) pa_nil))))))))), ?_⟩
    try rw [hK]
    rw [show L2.start N_book_rows [.ref b] = [some (.ref b), none, none, none, none, none, none, none, none, none, none] from rfl]
    walk_at "sx"
    refine ⟨b, B, ns, Rs, rfl, S, e1, ok.n1, fun p1 ys H1 hys sys pk1 S1 => ?_⟩
    clear S
    have yl : ys.length < 64 := by rw [hys.length_eq]; exact ok.n1
    walk_at "sx"
    refine x_lcQ (walk_list (xs := ys.map V.str)) (fun D i H' => PK H1 H' ∧ Sat H' (cell D (.lst (((ys.take i).map fun n => jn ["side", n]).map V.str)) :: cell p1 (.lst (ys.map V.str)) :: book (CB K) b B :: Rs)) (fun D hD => ⟨PK.of_ex (Ex.new hD), S1.new hD⟩) (fun D i H' _ h => ?_) (fun D i y H2 H3 hi h yy => ?_) (fun pr H2 h => ?_)
    · have S2 := h.2
      exact SqL.of sat_at
    · obtain ⟨pk2, S2⟩ := h
      obtain ⟨rfl, hy⟩ := yy
      clear S1
      rw [List.getElem?_map] at hy
      cases hp : ys[i]? with
      | none => rw [hp] at hy; cases hy
      | some n =>
        rw [hp] at hy
        cases hy
        have hn := ok.n2 n (hys.mem_iff.mp (List.mem_of_getElem? hp))
        walk_at "sx"
        have l5 : ("side " : Str).length = 5 := rfl
        refine x_addS (by rw [l5, sizeLine_eq]; omega) ?_
        refine x_eltS (by rw [List.length_map, List.length_map, List.length_take, sizeLine_eq]; omega) fun H5 pk5 S5 => ⟨pk2.trans pk5, ?_⟩
        rw [List.take_succ, hp, List.map_append, List.map_append]
        have es : ("side " : Str) ++ n = jn ["side", n] := jn_two "side" n
        rw [es] at S5
        exact S5
    obtain ⟨pk2, S2⟩ := h
    clear S1
    rw [List.length_map, List.take_length] at S2
    generalize hA : (ys.map fun n => jn ["side", n]) = As at S2
    have hAl : As.length < 64 := by rw [← hA, List.length_map]; exact yl
    walk_at "sx"
    have S2' : Sat H2 (book (CB K) b B :: cell pr (.lst (As.map V.str)) :: Rs) := S2.pick
    clear S2
    refine ⟨b, B, Fo, _, rfl, S2', e2, ok.f1, fun p2 zs us H3 hzs szs pk3 S3 tp3 => ?_⟩
    clear S2'
    have zl : zs.length < 64 := by rw [hzs.length_eq, List.length_map]; exact ok.f1
    walk_at "sx"
    refine x_lcQ (walk_list (xs := us)) (fun D i H' => PK H3 H' ∧ Sat H' (cell D (.lst (((zs.take i).map fun n => jn (manW Fo n)).map V.str)) :: cell p2 (.lst us) :: book (CB K) b B :: cell pr (.lst (As.map V.str)) :: Rs)) (fun D hD => ⟨PK.of_ex (Ex.new hD), S3.new hD⟩) (fun D i H' _ h => ?_) (fun D i y H4 H5 hi h yy => ?_) (fun pq H4 h => ?_)
    · have S4 := h.2
      exact SqL.of sat_at
    · obtain ⟨pk4, S4⟩ := h
      obtain ⟨rfl, hy⟩ := yy
      clear S3
      obtain ⟨d, hd, tp⟩ := TpAll.get (TpAll.pk pk4 tp3) hy
      rw [List.getElem?_map] at hd
      cases hp : zs[i]? with
      | none => rw [hp] at hd; cases hd
      | some n =>
        rw [hp] at hd
        cases hd
        obtain ⟨fo, q, hf, hfm, rfl, hq⟩ := men_tp (hzs.mem_iff.mp (List.mem_of_getElem? hp)) tp
        obtain ⟨g1, g2, g3, g4⟩ := ok.f2 fo hfm
        have hnn : fo.1 = n := of_decide_eq_true (List.find?_some (p := fun f : Str × Str × Int => decide (f.1 = n)) hf)
        walk_at "sx"
        rename_i t1 H6 pk6 S6 h6
        clear S4
        refine x_catAS h6 (pk6.tup hq) (fun z => nomatch z) (fun z => nomatch z) (by rw [sizeLine_eq]; exact Nat.le_of_ble_eq_true rfl) fun t2 H7 pk7 S7 h7 => ?_
        clear S6
        walk_at "sx"
        refine ⟨t2, [.s "man", .s n, .s fo.2.1, .i fo.2.2], rfl, .inr (SqT.of h7), Nat.le_of_ble_eq_true rfl, List.forall_mem_cons.mpr ⟨Nat.le_of_ble_eq_true rfl, List.forall_mem_cons.mpr ⟨by rw [← hnn]; exact g1, List.forall_mem_cons.mpr ⟨g2, List.forall_mem_cons.mpr ⟨⟨g3, g4⟩, fun _ h => nomatch h⟩⟩⟩⟩, fun H8 e8 => ?_⟩
        have S8 := S7.mono e8
        clear S7
        refine x_eltS (by rw [List.length_map, List.length_map, List.length_take, sizeLine_eq]; omega) fun H9 pk9 S9 => ⟨pk4.trans (pk6.trans (pk7.trans ((PK.of_ex e8).trans pk9))), ?_⟩
        rw [List.take_succ, hp, List.map_append, List.map_append]
        have em : jn (([.s "man", .s n, .s fo.2.1, .i fo.2.2] : List Part).map Part.t) = jn (manW Fo n) := by
          unfold manW
          rw [hf]
          rfl
        rw [em] at S9
        exact S9
    obtain ⟨pk4, S4⟩ := h
    clear S3
    have ul : us.length = zs.length := by rw [tp3.len, List.length_map]
    rw [ul, List.take_length] at S4
    generalize hB : (zs.map fun n => jn (manW Fo n)) = Bs at S4
    have hBl : Bs.length < 64 := by rw [← hB, List.length_map]; exact zl
    walk_at "sx"
    refine x_extendS (by rw [List.length_map, List.length_map, sizeLine_eq]; omega) fun H5 pk5 S5 => ?_
    clear S4
    rw [← List.map_append] at S5
    have S5' : Sat H5 (book (CB K) b B :: cell pr (.lst ((As ++ Bs).map V.str)) :: Rs) := S5.pick
    clear S5
    walk_at "sx"
    refine ⟨b, B, _, rfl, S5', e3, fun p3 H6 pk6 S6 => ?_⟩
    clear S5'
    walk_at "sx"
    refine x_forQ (walk_list (xs := [])) (fun i σ H' => PK H6 H' ∧ (∃ o1 o2 o3 o4 : Option V, σ = [some (.ref b), some (.ref pr), o1, o2, o3, o4, none, none, none, none, none]) ∧ Sat H' (cell p3 (.lst []) :: book (CB K) b B :: cell pr (.lst ((As ++ Bs).map V.str)) :: Rs)) ⟨PK.refl, ⟨_, _, _, _, rfl⟩, S6⟩ (fun i σ H' _ h => ?_) (fun i y σ H7 H8 hi h yy => absurd hi (Nat.not_lt_zero _)) (fun σ H7 h => ?_)
    · have S7 := h.2.2
      exact SqL.of sat_at
    obtain ⟨pk7, ⟨o1, o2, o3, o4, rfl⟩, S7⟩ := h
    clear S6
    have S7' : Sat H7 (book (CB K) b B :: cell pr (.lst ((As ++ Bs).map V.str)) :: Rs) := S7.pick
    clear S7
    walk_at "sx"
    refine ⟨b, B, Td, _, rfl, S7', e4, ok.t0, ok.t1, fun p4 ds T' H8 hT od pk8 S8 tp8 => ?_⟩
    clear S7'
    have tl : T'.length ≤ 1000 := by rw [hT.length_eq]; exact ok.t1
    walk_at "sx"
    refine x_forQ (walk_list (xs := ds)) (fun i σ H' => PK H8 H' ∧ (∃ q1 q2 q3 : Option V, σ = [some (.ref b), some (.ref pr), o1, o2, o3, o4, q1, q2, q3, none, none]) ∧ Sat H' (cell p4 (.lst ds) :: book (CB K) b B :: cell pr (.lst ((As ++ Bs ++ (T'.take i).map fun t => jn (deedW t)).map V.str)) :: Rs)) ⟨PK.refl, ⟨_, _, _, rfl⟩, by rw [List.take_zero, List.map_nil, List.append_nil]; exact S8⟩ (fun i σ H' _ h => ?_) (fun i y σ H9 H10 hi h yy => ?_) (fun σ H9 h => ?_)
    · have S9 := h.2.2
      exact SqL.of sat_at
    · obtain ⟨pk9, ⟨q1, q2, q3, rfl⟩, S9⟩ := h
      obtain ⟨rfl, hy⟩ := yy
      clear S8
      obtain ⟨d, hd, tp⟩ := TpAll.get (TpAll.pk pk9 tp8) hy
      rw [List.getElem?_map] at hd
      cases hp : T'[i]? with
      | none => rw [hp] at hd; cases hd
      | some t =>
        rw [hp] at hd
        cases hd
        obtain ⟨q, r, rfl, hq, hrr⟩ := deed_tp tp
        obtain ⟨g1, g2, g3, g4, g5⟩ := ok.t2 t (hT.mem_iff.mp (List.mem_of_getElem? hp))
        walk_at "sx"
        rename_i l1 H11 pk11 S11
        clear S9
        refine ⟨r, t.2.2, _, rfl, pk11.tup hrr, g5, S11, fun l2 H12 pk12 S12 => ?_⟩
        clear S11
        walk_at "sx"
        refine x_catS (by rw [List.length_map]; have : t.2.2.wd.length ≤ 3 := by (cases t.2.2 <;> exact Nat.le_of_ble_eq_true rfl)
                          rw [sizeLine_eq]; show 3 + _ ≤ _; omega) fun l3 H13 pk13 S13 => ?_
        clear S12
        walk_at "sx"
        refine ⟨l3, .s "deed" :: .i t.1 :: .i t.2.1 :: (t.2.2.wd.map Part.s), rfl, .inl (SqL.of ?_), ?_, ?_, fun H14 e14 => ?_⟩
        · have : (Part.s "deed" :: .i t.1 :: .i t.2.1 :: (t.2.2.wd.map Part.s)).map Part.v = [.str "deed", .int t.1, .int t.2.1] ++ t.2.2.wd.map V.str := by
            rw [List.map_cons, List.map_cons, List.map_cons, List.map_map]
            rfl
          rw [this]
          exact sat_at
        · rw [List.length_cons, List.length_cons, List.length_cons, List.length_map]
          have : t.2.2.wd.length ≤ 3 := by (cases t.2.2 <;> exact Nat.le_of_ble_eq_true rfl)
          omega
        · refine List.forall_mem_cons.mpr ⟨Nat.le_of_ble_eq_true rfl, List.forall_mem_cons.mpr ⟨⟨g1, g2⟩, List.forall_mem_cons.mpr ⟨⟨g3, g4⟩, fun p hp => ?_⟩⟩⟩
          obtain ⟨z, hz, rfl⟩ := List.mem_map.mp hp
          obtain ⟨p0, hp0, rfl⟩ := List.mem_map.mp hz
          exact Part.len (Deed.ps_ok g5 p0 hp0)
        · have S14 := S13.mono e14
          clear S13
          refine x_appendS (by rw [List.length_map, List.length_append, List.length_append, List.length_map, List.length_take, sizeLine_eq]; omega) fun H15 pk15 S15 => ?_
          clear S14
          walk_at "sx"
          refine ⟨pk9.trans (pk11.trans (pk12.trans (pk13.trans ((PK.of_ex e14).trans pk15)))), ⟨_, _, _, rfl⟩, ?_⟩
          have ej : (Part.s "deed" :: .i t.1 :: .i t.2.1 :: (t.2.2.wd.map Part.s)).map Part.t = deedW t := by
            rw [List.map_cons, List.map_cons, List.map_cons, List.map_map]
            have : (t.2.2.wd.map (Part.t ∘ Part.s)) = t.2.2.wd := by
              have h1 : (Part.t ∘ Part.s) = id := rfl
              rw [h1, List.map_id]
            rw [this]
            rfl
          rw [ej] at S15
          rw [List.take_succ, hp, List.map_append (f := fun t => jn (deedW t)), ← List.append_assoc, List.map_append (f := V.str)]
          have S15' : Sat H15 (cell p4 (.lst ds) :: book (CB K) b B :: cell pr (.lst ((As ++ Bs ++ (T'.take i).map fun t => jn (deedW t)).map V.str ++ [.str (jn (deedW t))])) :: Rs) := S15.pick
          exact S15'
    obtain ⟨pk9, ⟨q1, q2, q3, rfl⟩, S9⟩ := h
    clear S8
    have dl : ds.length = T'.length := by rw [tp8.len, List.length_map]
    rw [dl, List.take_length] at S9
    have S9' : Sat H9 (book (CB K) b B :: cell pr (.lst ((As ++ Bs ++ T'.map fun t => jn (deedW t)).map V.str)) :: Rs) := S9.pick
    clear S9
    walk_at "sx"
    refine ⟨b, B, _, rfl, S9', ?_⟩
    walk_at "sx"
    rename_i l5 H10 pk10 S10
    refine ⟨l5, [.s "next", .i B.st.later], rfl, .inl (SqL.of (show H10 l5 = some (.lst [.str "next", .int B.st.later]) from sat_at)), Nat.le_of_ble_eq_true rfl, List.forall_mem_cons.mpr ⟨Nat.le_of_ble_eq_true rfl, List.forall_mem_cons.mpr ⟨ok.l1, fun _ h => nomatch h⟩⟩, fun H11 e11 => ?_⟩
    have S11 := S10.mono e11
    clear S9' S10
    walk_at "sx"
    rename_i l6 H12 pk12 S12
    clear S11
    refine x_catS (by rw [List.length_map, List.length_append, List.length_append, List.length_map, sizeLine_eq]; show _ + 1 ≤ _; omega) fun l7 H13 pk13 S13 => ?_
    clear S12
    refine k l7 ys zs T' H13 hys sys hzs szs hT od (pk1.trans (pk2.trans (pk3.trans (pk4.trans (pk5.trans (pk6.trans (pk7.trans (pk8.trans (pk9.trans (pk10.trans ((PK.of_ex e11).trans (pk12.trans pk13)))))))))))) ?_
    unfold rowsT
    rw [hA, hB, List.map_append (f := V.str)]
    have S13' : Sat H13 (cell l7 (.lst ((As ++ Bs ++ T'.map fun t => jn (deedW t)).map V.str ++ [.str (jn (([.s "next", .i B.st.later] : List Part).map Part.t))])) :: book (CB K) b B :: Rs) := S13.pick
    exact S13'
end

/-! ### a reader of rows -/
def fsReader (a0 a1 a2 a3 : V) : List (Str × V) := [("made", a0), ("kind", a1), ("last", a2), ("most", a3)]
section
variable {y a0 a1 a2 a3 : V}
instance lk_Reader_made : Lk "made" (fsReader a0 a1 a2 a3) a0 := ⟨rfl⟩
instance pt_Reader_made : Pt "made" y (fsReader a0 a1 a2 a3) (fsReader y a1 a2 a3) := ⟨rfl, by show 4 < 1000; decide⟩
instance pi_Reader_made : Pt "made" y [] [("made", y)] := ⟨rfl, by show 0 < 1000; decide⟩
instance lk_Reader_kind : Lk "kind" (fsReader a0 a1 a2 a3) a1 := ⟨rfl⟩
instance pt_Reader_kind : Pt "kind" y (fsReader a0 a1 a2 a3) (fsReader a0 y a2 a3) := ⟨rfl, by show 4 < 1000; decide⟩
instance pi_Reader_kind : Pt "kind" y [("made", a0)] [("made", a0), ("kind", y)] := ⟨rfl, by show 1 < 1000; decide⟩
instance li_Reader_kind_made : Lk "made" [("made", a0)] a0 := ⟨rfl⟩
instance lk_Reader_last : Lk "last" (fsReader a0 a1 a2 a3) a2 := ⟨rfl⟩
instance pt_Reader_last : Pt "last" y (fsReader a0 a1 a2 a3) (fsReader a0 a1 y a3) := ⟨rfl, by show 4 < 1000; decide⟩
instance pi_Reader_last : Pt "last" y [("made", a0), ("kind", a1)] [("made", a0), ("kind", a1), ("last", y)] := ⟨rfl, by show 2 < 1000; decide⟩
instance li_Reader_last_made : Lk "made" [("made", a0), ("kind", a1)] a0 := ⟨rfl⟩
instance li_Reader_last_kind : Lk "kind" [("made", a0), ("kind", a1)] a1 := ⟨rfl⟩
instance lk_Reader_most : Lk "most" (fsReader a0 a1 a2 a3) a3 := ⟨rfl⟩
instance pt_Reader_most : Pt "most" y (fsReader a0 a1 a2 a3) (fsReader a0 a1 a2 y) := ⟨rfl, by show 4 < 1000; decide⟩
instance pi_Reader_most : Pt "most" y [("made", a0), ("kind", a1), ("last", a2)] (fsReader a0 a1 a2 y) := ⟨rfl, by show 3 < 1000; decide⟩
instance li_Reader_most_made : Lk "made" [("made", a0), ("kind", a1), ("last", a2)] a0 := ⟨rfl⟩
instance li_Reader_most_kind : Lk "kind" [("made", a0), ("kind", a1), ("last", a2)] a1 := ⟨rfl⟩
instance li_Reader_most_last : Lk "last" [("made", a0), ("kind", a1), ("last", a2)] a2 := ⟨rfl⟩
instance nk_Reader_behind : Nk "behind" (fsReader a0 a1 a2 a3) := ⟨rfl⟩
instance nk_Reader_take_deed : Nk "take_deed" (fsReader a0 a1 a2 a3) := ⟨rfl⟩
instance nk_Reader_take_named : Nk "take_named" (fsReader a0 a1 a2 a3) := ⟨rfl⟩
instance nk_Reader_take_row : Nk "take_row" (fsReader a0 a1 a2 a3) := ⟨rfl⟩
end

abbrev s_Reader___init__ : Stmt := inClass (top 64) 0
abbrev N_Reader___init__ : List Str := ["self"]
theorem sc_Reader___init__ : FnScope N_Reader___init__ ["self"] (defScope s_Reader___init__) := ⟨rfl, rfl, rfl, by decide +kernel, rfl, by decide +kernel, by decide +kernel⟩
abbrev s_Reader_behind : Stmt := inClass (top 64) 1
abbrev N_Reader_behind : List Str := ["self", "place"]
theorem sc_Reader_behind : FnScope N_Reader_behind ["self", "place"] (defScope s_Reader_behind) := ⟨rfl, rfl, rfl, by decide +kernel, rfl, by decide +kernel, by decide +kernel⟩
abbrev s_Reader_take_deed : Stmt := inClass (top 64) 2
abbrev N_Reader_take_deed : List Str := ["self", "words", "numbers", "deed", "number", "day"]
theorem sc_Reader_take_deed : FnScope N_Reader_take_deed ["self", "words"] (defScope s_Reader_take_deed) := ⟨rfl, rfl, rfl, by decide +kernel, rfl, by decide +kernel, by decide +kernel⟩
abbrev s_Reader_take_named : Stmt := inClass (top 64) 3
abbrev N_Reader_take_named : List Str := ["self", "words", "number", "rank", "numbers"]
theorem sc_Reader_take_named : FnScope N_Reader_take_named ["self", "words"] (defScope s_Reader_take_named) := ⟨rfl, rfl, rfl, by decide +kernel, rfl, by decide +kernel, by decide +kernel⟩
abbrev s_Reader_take_row : Stmt := inClass (top 64) 4
abbrev N_Reader_take_row : List Str := ["self", "row", "words"]
theorem sc_Reader_take_row : FnScope N_Reader_take_row ["self", "row"] (defScope s_Reader_take_row) := ⟨rfl, rfl, rfl, by decide +kernel, rfl, by decide +kernel, by decide +kernel⟩
abbrev s_read_book : Stmt := top 65
abbrev N_read_book : List Str := ["rows", "reader", "at", "row"]
theorem sc_read_book : FnScope N_read_book ["rows"] (defScope s_read_book) := ⟨rfl, rfl, rfl, by decide +kernel, rfl, by decide +kernel, by decide +kernel⟩
abbrev s_BadRow___init__ : Stmt := inClass (top 23) 0
abbrev N_BadRow___init__ : List Str := ["self", "at"]
theorem sc_BadRow___init__ : FnScope N_BadRow___init__ ["self", "at"] (defScope s_BadRow___init__) := ⟨rfl, rfl, rfl, by decide +kernel, rfl, by decide +kernel, by decide +kernel⟩
abbrev s_Book_cartel : Stmt := inClass (top 54) 11
abbrev N_Book_cartel : List Str := ["self", "one", "other", "worths", "limit", "pacts"]
theorem sc_Book_cartel : FnScope N_Book_cartel ["self", "one", "other", "worths", "limit"] (defScope s_Book_cartel) := ⟨rfl, rfl, rfl, by decide +kernel, rfl, by decide +kernel, by decide +kernel⟩

abbrev CR (K : PySem.W.Frag) : Addr := He.ga K "Reader"
inductive Pl where
  | non
  | one (z : Str)
  | two (d n : Int)
def Pl.xs : Pl → List V
  | .non => []
  | .one z => [.str z]
  | .two d n => [.int d, .int n]
def Pl.ds : Pl → List PyData
  | .non => []
  | .one z => [.str z]
  | .two d n => [.int d, .int n]
def Pl.ok : Pl → Prop
  | .one z => PyData.strOk z = true
  | _ => True
/-- the second is behind the first -/
def Pl.lt : Pl → Pl → Prop
  | .non, _ => True
  | .one u, .one z => u.cps.toList < z.cps.toList
  | .two d n, .two d2 n2 => d < d2 ∨ (d = d2 ∧ n < n2)
  | _, _ => False
structure Rd where
  ss : KDs
  F : FolkL
  pa : KDs
  Td : Told
  later : Int
  past : List BSt
  kind : Int
  last : Pl
  most : Int
def Rd.st (S : Rd) : BSt := ⟨S.ss, folkD S.F, S.pa, toldD S.Td, S.later⟩
def Rd.B (S : Rd) : Bk := ⟨S.st, S.past, []⟩
abbrev R0 : Rd := ⟨[], [], [], [], 1, [], 0, .non, 0⟩
def readerR (K : PySem.W.Frag) (r : Addr) (S : Rd) : Res := fun h => ∃ dx b q : Addr, (h q = some (.tup S.last.xs)) ∧ star [cell r (.ins (CR K) dx (fsReader (.ref b) (.int S.kind) (.ref q) (.int S.most))), book (CB K) b S.B] h
section
variable {H : Hp} {Rs : List Res} {K : PySem.W.Frag} {r : Addr} {S : Rd}
theorem _root_.G.Sat.readerE (s : Sat H (readerR K r S :: Rs)) : ∃ dx b q : Addr, H q = some (.tup S.last.xs) ∧ Sat H (cell r (.ins (CR K) dx (fsReader (.ref b) (.int S.kind) (.ref q) (.int S.most))) :: book (CB K) b S.B :: Rs) := by
  obtain ⟨dx, s⟩ := s.exE
  obtain ⟨b, s⟩ := s.exE
  obtain ⟨q, s⟩ := s.exE
  have f := s.fact (P := H q = some (.tup S.last.xs)) fun h e r => e _ _ r.1
  exact ⟨dx, b, q, f, (s.imp fun _ _ r => r.2).open_⟩
theorem _root_.G.Sat.readerI {dx b q : Addr} (hq : H q = some (.tup S.last.xs)) (s : Sat H (cell r (.ins (CR K) dx (fsReader (.ref b) (.int S.kind) (.ref q) (.int S.most))) :: book (CB K) b S.B :: Rs)) : Sat H (readerR K r S :: Rs) :=
  (Sat.close (As := [cell r (.ins (CR K) dx (fsReader (.ref b) (.int S.kind) (.ref q) (.int S.most))), book (CB K) b S.B]) s).impP (fun h h' e rr => by
    exact star_mono h h' e rr) fun h e pk rr => ⟨dx, b, q, pk.tup hq, rr⟩
end
instance hasIns_reader {K : PySem.W.Frag} {a : Addr} {m : Str} {S : Rd} {H : Hp} {Rs T : List Res} {F : Res → List Res} [s : Sat H Rs] [f : Foc (readerR K) a S Rs T F] [n : ∀ a0 a1 a2 a3, Nk m (fsReader a0 a1 a2 a3)] : HasIns (He.ga K "Reader") m a H := by
  obtain ⟨dx, b, q, _, s⟩ := (f.out s).readerE
  exact ⟨dx, _, s.get, (n _ _ _ _).h⟩
def spReaderInit (K : PySem.W.Frag) : Sp := fun vs H Q _ => ∃ (r dx : Addr) (Rs : List Res), vs = [.ref r] ∧ Sat H (cell r (.ins (CR K) dx []) :: Rs) ∧ ∀ H', PK H H' → Sat H' (readerR K r R0 :: Rs) → Q .non H'
def spBehind (K : PySem.W.Frag) : Sp := fun vs H Q _ => ∃ (r dx q p : Addr) (bv kv mv : V) (l x : Pl) (Rs : List Res), vs = [.ref r, .ref p] ∧ Sat H (cell r (.ins (CR K) dx (fsReader bv kv (.ref q) mv)) :: Rs) ∧ H q = some (.tup l.xs) ∧ H p = some (.tup x.xs) ∧ l.ok ∧ Pl.lt l x ∧
  ∀ H', PK H H' → Sat H' (cell r (.ins (CR K) dx (fsReader bv kv (.ref p) mv)) :: Rs) → Q (.bl true) H'
theorem Pl.tp {H : Hp} {q : Addr} {l : Pl} (h : H q = some (.tup l.xs)) : Tp H (.ref q) (.tuple l.ds) := by
  cases l with
  | non => exact .tup h .nil
  | one z => exact .tup h (.cons (.str _) .nil)
  | two d n => exact .tup h (.cons (.int _) (.cons (.int _) .nil))
theorem Pl.okD {l : Pl} (h : l.ok) : OkD 2 (.tuple l.ds) := by
  cases l with
  | non => exact .tuple (Nat.le_of_ble_eq_true rfl) fun d hd => nomatch hd
  | one z => exact .tuple (Nat.le_of_ble_eq_true rfl) fun d hd => by rw [List.mem_singleton.mp hd]; exact .str h
  | two d n => exact .tuple (Nat.le_of_ble_eq_true rfl) (List.forall_mem_cons.mpr ⟨.int _, List.forall_mem_cons.mpr ⟨.int _, fun _ h => nomatch h⟩⟩)
section
variable {P : Program} {w : World} {K : PySem.W.Frag} {mg : Str → Option Value} {base : Heap}
theorem D_BadRow_init (T : Txt K mg) (F : Mf K "BadRow" "__init__" "BadRow.__init__" s_BadRow___init__) : DnM P w K mg base CX0 1 (He.ma K (He.ga K "BadRow") "__init__") ["self", "at"] (spExcInit (He.ga K "BadRow") "at") := by
  refine F.dm sc_BadRow___init__ (fun _ _ _ _ _ _ us hl => match us, hl with | [_, _], _ => rfl) (fun vs H Q E h => ?_) (fun f cdv A outer s H vs Q E hr hK h => ?_)
  · obtain ⟨a, v, rfl, _⟩ := h
    rfl
  · obtain ⟨a, v, rfl, ha, k⟩ := h
    refine ⟨_, (pss_one (ps_ost (pv 0) (pv 1))), ?_⟩
    try rw [hK]
    exact ⟨v, rfl, .ref a, rfl, a, He.ga K "BadRow", rfl, T.ox_BadRow.toOexC, T.no_BadRow_at, .inl ⟨ha, fun dx hd hne => k dx hd hne⟩⟩
theorem D_Reader_init (T : Txt K mg) (D_Book___init__ : DnM P w K mg base CX0 1 (He.ma K (He.ga K "Book") "__init__") ["self"] (spBookInit K)) (F : Mf K "Reader" "__init__" "Reader.__init__" s_Reader___init__) : DnM P w K mg base CX0 3 (He.ma K (He.ga K "Reader") "__init__") ["self"] (spReaderInit K) := by
  refine F.dm sc_Reader___init__ (fun _ _ _ _ _ _ us hl => match us, hl with | [_], _ => rfl) (fun vs H Q E h => ?_) (fun f cdv A outer s H vs Q E hr hK h => ?_)
  · obtain ⟨r, dx, Rs, rfl, _⟩ := h
    rfl
  · obtain ⟨r, dx, Rs, rfl, S, k⟩ := h
    refine ⟨_, (pss_cons (ps_fldC T.cl_Reader T.n_Reader_made (pv 0) (pe_mk0 T.mk_Book D_Book___init__ (hr.mono (by first | decide | omega)) pass0 T.g_Book) rfl)
      (pss_cons (ps_fldC T.cl_Reader T.n_Reader_kind (pv 0) pe_int rfl)
      (pss_cons (ps_fldC T.cl_Reader T.n_Reader_last (pv 0) (pe_tup pa_nil) rfl)
      (pss_one (ps_fldC T.cl_Reader T.n_Reader_most (pv 0) pe_int rfl))))), ?_⟩
    try rw [hK]
    rw [show L2.start N_Reader___init__ [.ref r] = [some (.ref r)] from rfl]
    walk_at "sx"
    rename_i b db H1 pk1 S1
    refine ⟨b, db, _, rfl, S1, fun H2 pk2 S2 => ?_⟩
    clear S S1
    walk_at "sx"
    rename_i H3 pk3 S3 H4 pk4 S4 q H5 pk5 S5 hq H6 pk6 S6 H7 pk7 S7
    refine k _ (by walk_at "pk") (G.Sat.readerI (dx := dx) (b := b) (q := q) ?_ ?_)
    · exact (pk6.trans pk7).tup hq
    · have S8 : Sat H7 (cell r (.ins (CR K) dx (fsReader (.ref b) (.int 0) (.ref q) (.int 0))) :: book (CB K) b B0 :: Rs) := S7.pick
      exact S8
theorem D_Reader_behind (T : Txt K mg) (F : Mf K "Reader" "behind" "Reader.behind" s_Reader_behind) : DnM P w K mg base CX0 1 (He.ma K (He.ga K "Reader") "behind") ["self", "place"] (spBehind K) := by
  refine F.dm sc_Reader_behind (fun _ _ _ _ _ _ us hl => match us, hl with | [_, _], _ => rfl) (fun vs H Q E h => ?_) (fun f cdv A outer s H vs Q E hr hK h => ?_)
  · obtain ⟨r, dx, q, p, bv, kv, mv, l, x, Rs, rfl, _⟩ := h
    rfl
  · obtain ⟨r, dx, q, p, bv, kv, mv, l, x, Rs, rfl, S, hq, hp, ho, hlt, k⟩ := h
    refine ⟨_, (pss_cons (ps_if (PW.pt (pw_and (pt_cmpR (op_neD hr.units) (pe_fldC T.cl_Reader T.n_Reader_last (pv 0) rfl) (pe_tup pa_nil) (nomark _)) (pw_and1 (pt_cmpR (op_leP hr.units) (pv 1) (pe_fldC T.cl_Reader T.n_Reader_last (pv 0) rfl) (nomark _))))) (pss_one (ps_ret pe_bl)) pss_nil)
      (pss_cons (ps_fldC T.cl_Reader T.n_Reader_last (pv 0) (pv 1) rfl)
      (pss_one (ps_ret pe_bl)))), ?_⟩
    try rw [hK]
    rw [show L2.start N_Reader_behind [.ref r, .ref p] = [some (.ref r), some (.ref p)] from rfl]
    walk_at "sx"
    rename_i t H1 pk1 S1 ht
    clear S
    have hq1 := pk1.tup hq
    have hp1 := pk1.tup hp
    refine x_neD (Tp.dp (Pl.tp hq1)) (Tp.dp (Pl.tp (l := .non) ht)) (Pl.okD ho |>.shaped (by decide)) (Pl.okD (l := .non) trivial |>.shaped (by decide)) ?_
    have fin : tSeq (sFldC (He.ga K "Reader") (tVar 0) (tVar 1) "last") (tRet (tC (V.bl true))) { nx := fun x H' => Q V.non H', rt := Q } [some (.ref r), some (.ref p)] H1 := by
      walk_at "sx"
      rename_i H2 pk2 S2
      exact k H2 (pk1.trans pk2) S2
    cases l with
    | non =>
      rw [show PyData.eqv (.tuple (Pl.non).ds) (.tuple (Pl.non).ds) = true from rfl]
      simp only [Bool.not_true]
      refine x_bQ ?_
      refine x_andF ?_
      exact x_ifF fin
    | one u =>
      rw [show PyData.eqv (.tuple (Pl.one u).ds) (.tuple (Pl.non).ds) = false by simp [Pl.ds, PyData.eqv, PyData.eqvAll]]
      simp only [Bool.not_false]
      refine x_bQ ?_
      refine x_andT ?_
      cases x with
      | one z =>
        walk_at "sx"
        refine x_le1 (SqT.of hp1) (SqT.of hq1) ?_
        have hlt : u.cps.toList < z.cps.toList := hlt
        rw [if_neg (fun e => by rw [e] at hlt; exact absurd hlt (List.lt_irrefl _)), decide_eq_true hlt]
        walk_at "sx"
        exact fin
      | _ => exact hlt.elim
    | two d n =>
      rw [show PyData.eqv (.tuple (Pl.two d n).ds) (.tuple (Pl.non).ds) = false by simp [Pl.ds, PyData.eqv, PyData.eqvAll]]
      simp only [Bool.not_false]
      refine x_bQ ?_
      refine x_andT ?_
      cases x with
      | two d2 n2 =>
        walk_at "sx"
        refine x_le2 (SqT.of hp1) (SqT.of hq1) ?_
        have hlt : d < d2 ∨ (d = d2 ∧ n < n2) := hlt
        rw [decide_eq_false (by omega)]
        walk_at "sx"
        rename_i H2 pk2 S2
        exact k H2 (pk1.trans pk2) S2
      | _ => exact hlt.elim
end

/-! ### rows taken -/
theorem cut_mid {xs : List V} {i j : Nat} (h : i ≤ j) (hj : j ≤ xs.length) : cutV xs (some (i : Int)) (some (j : Int)) = (xs.drop i).take (j - i) := by
  unfold cutV
  rw [HT.sIx_nat, HT.sIx_nat, Nat.min_eq_left (by omega : i ≤ xs.length), Nat.min_eq_left hj]
inductive Item where
  | side (n : Str)
  | man (n s : Str) (g : Int)
  | deed (t : Int × Int × Deed)
  | next (k : Int)
def Item.ws : Item → List Str
  | .side n => ["side", n]
  | .man n s g => ["man", n, s, nt g]
  | .deed t => deedW t
  | .next k => ["next", nt k]
def Item.kind : Item → Int
  | .side _ => 0
  | .man _ _ _ => 1
  | .deed _ => 3
  | .next _ => 4
/-- the reader when a row's kind is seen -/
def Rd.at_ (S : Rd) (k : Int) : Rd := if S.kind < k then { S with kind := k, last := .non } else S
def Rd.told (S : Rd) (t : Int × Int × Deed) : Rd := ⟨S.ss, S.F, S.pa, S.Td ++ [t], t.1 + 1, S.past ++ [{ S.st with later := t.1 }], S.kind, .two t.2.1 t.1, if t.1 > S.most then t.1 else S.most⟩
def deedGo (S : Rd) (t : Int × Int × Deed) : Str := deedOut { S.st with later := t.1 } t.2.1 t.2.2
structure DeedIn (S : Rd) (t : Int × Int × Deed) : Prop where
  p : S.past.length < 1000
  n1 : 1 ≤ t.1
  n2 : t.1 < 10 ^ 10
  d1 : 0 ≤ t.2.1
  d2 : t.2.1 < 10 ^ 10
  x : t.2.2.ok
  new : ∀ u ∈ S.Td, u.1 ≠ t.1
  lo : S.last.ok
  lt : Pl.lt S.last (.two t.2.1 t.1)
  look : deedGo S t = "" → lookOk S.F (S.Td ++ [t])
def spTakeDeed (K : PySem.W.Frag) : Sp := fun vs H Q E => ∃ (r p : Addr) (S : Rd) (t : Int × Int × Deed) (Rs : List Res), vs = [.ref r, .ref p] ∧ Sat H (readerR K r S :: cell p (.lst ((deedW t).map V.str)) :: Rs) ∧ DeedIn S t ∧
  (deedGo S t ≠ "" → ∀ H', PK H H' → Sat H' (cell p (.lst ((deedW t).map V.str)) :: Rs) → E (.ref (He.ga K (deedGo S t))) none H') ∧
  (deedGo S t = "" → ∀ H', PK H H' → Sat H' (readerR K r (S.told t) :: cell p (.lst ((deedW t).map V.str)) :: Rs) → Q (.bl true) H')
section
variable {P : Program} {w : World} {K : PySem.W.Frag} {mg : Str → Option Value} {base : Heap}
theorem D_take_deed (T : Txt K mg) (D_numbers_of : Dn P w K mg base CX0 3 "numbers_of" ["words"] (spNumbersOf K)) (D_deed_of : Dn P w K mg base CX0 3 "deed_of" ["words"] (spDeedOf K)) (D_tell : Dn P w K mg base (L2.CX P w) 9 "tell" ["book", "day", "deed"] (spTell K)) (D_Reader_behind : DnM P w K mg base CX0 1 (He.ma K (He.ga K "Reader") "behind") ["self", "place"] (spBehind K))
    (F : Mf K "Reader" "take_deed" "Reader.take_deed" s_Reader_take_deed) : DnM P w K mg base (L2.CX P w) 10 (He.ma K (He.ga K "Reader") "take_deed") ["self", "words"] (spTakeDeed K) := by
  refine F.dmX sc_Reader_take_deed (fun _ _ _ _ _ _ us hl => match us, hl with | [_, _], _ => rfl) (fun vs H Q E h => ?_) (fun f cdv A outer s H vs Q E hr hK h => ?_)
  · obtain ⟨r, p, S, t, Rs, rfl, _⟩ := h
    rfl
  · obtain ⟨r, p, S, ⟨num, day, x⟩, Rs, rfl, S0, ok, no, yes⟩ := h
    refine ⟨_, (pss_cons (ps_set (i := 2) sc_Reader_take_deed.nd rfl (Or.inl rfl) (pe_dn D_numbers_of (hr.mono (by first | decide | omega)) pass0 (pa_cons (pe_slice sl_list (pv 1) (po_some pe_int) (po_some pe_int)) pa_nil)))
      (pss_cons (ps_set (i := 3) sc_Reader_take_deed.nd rfl (Or.inl rfl) (pe_dn D_deed_of (hr.mono (by first | decide | omega)) pass0 (pa_cons (pe_slice sl_list (pv 1) (po_some pe_int) po_none) pa_nil)))
      (pss_cons (ps_if (PW.pt (pw_or (pt_cmpR g_isN (pv 2) pe_non (nomark _)) (pw_or (pt_cmpR op_ne (pe_callB g_len rfl T.m_len boot_len (pa_cons (pv 2) pa_nil)) pe_int (nomark _)) (pw_or1 (pt_cmpR g_isN (pv 3) pe_non (nomark _)))))) (pss_one (ps_ret pe_bl)) pss_nil)
      (pss_cons (ps_asg (pv 2) (pg_unl rfl (pgs_cons (pg_name (i := 4) sc_Reader_take_deed.nd rfl (Or.inl rfl)) (pgs_cons (pg_name (i := 5) sc_Reader_take_deed.nd rfl (Or.inl rfl)) pgs_nil))))
      (pss_cons (ps_if (PW.pt (pw_or (pt_cmpR op_lt (pv 4) pe_int (nomark _)) (pw_or (pt_cmp (pc_din (hu_of hr) (pv 4) (pe_fldC T.cl_Book T.n_Book_told (pe_fldC T.cl_Reader T.n_Reader_made (pv 0) rfl) rfl))) (pw_or1 (pt_not (pt_val (pe_mt (pv 0) T.cl_Reader T.me_Reader_behind D_Reader_behind (hr.mono (by first | decide | omega)) pass0 (pa_cons (pe_tup (pa_cons (pv 5) (pa_cons (pv 4) pa_nil))) pa_nil)))))))) (pss_one (ps_ret pe_bl)) pss_nil)
      (pss_cons (ps_fldC T.cl_Book T.n_Book_later (pe_fldC T.cl_Reader T.n_Reader_made (pv 0) rfl) (pv 4) rfl)
      (pss_cons (ps_expr (pe_dn D_tell (hr.mono (by first | decide | omega)) passX (pa_cons (pe_fldC T.cl_Reader T.n_Reader_made (pv 0) rfl) (pa_cons (pv 5) (pa_cons (pv 3) pa_nil)))))
      (pss_cons (ps_fldC T.cl_Reader T.n_Reader_most (pv 0) (pe_callB (g_max rfl) rfl T.m_max boot_max (pa_cons (pe_fldC T.cl_Reader T.n_Reader_most (pv 0) rfl) (pa_cons (pv 4) pa_nil))) rfl)
      (pss_one (ps_ret pe_bl)))))))))), ?_⟩
    try rw [hK]
    rw [show L2.start N_Reader_take_deed [.ref r, .ref p] = [some (.ref r), some (.ref p), none, none, none, none] from rfl]
    have S1 : Sat H (readerR K r S :: cell p (.lst (.str "deed" :: .str (nt num) :: .str (nt day) :: x.wd.map V.str)) :: Rs) := S0
    walk_at "sx"
    refine x_slS fun l1 H1 pk1 S2 => ?_
    have e1 : cutV (.str "deed" :: .str (nt num) :: .str (nt day) :: x.wd.map V.str : List V) (some 1) (some 3) = ([nt num, nt day] : List Str).map V.str := cut_mid (i := 1) (j := 3) (by decide) (by simp)
    rw [e1] at S2
    clear S0 S1
    walk_at "sx"
    obtain ⟨g1, g2, g3, g4, g5, g6, g7, g8, g9, g10⟩ := ok
    have g2 : 1 ≤ num := g2
    have g3 : num < 10 ^ 10 := g3
    have g4 : 0 ≤ day := g4
    have g5 : day < 10 ^ 10 := g5
    have g7 : ∀ u ∈ S.Td, u.1 ≠ num := g7
    refine ⟨l1, [nt num, nt day], _, rfl, S2, ?_, Nat.le_of_ble_eq_true rfl, fun ns hns l2 H2 pk2 S3 => ?_, fun hn => ?_⟩
    · refine List.forall_mem_cons.mpr ⟨?_, List.forall_mem_cons.mpr ⟨?_, fun _ h => nomatch h⟩⟩
      · have := nt_len (i := num) (by omega) g3; omega
      · have := nt_len g4 g5; omega
    rotate_left
    · obtain ⟨z, hz, e⟩ := hn
      exfalso
      rcases List.mem_cons.mp hz with rfl | hz
      · rw [numOf_nt (by omega) g3] at e; cases e
      · rw [List.mem_singleton.mp hz, numOf_nt g4 g5] at e; cases e
    have ens : ns = [num, day] := by
      rw [List.map_cons, List.map_cons, List.map_nil, numOf_nt (by omega) g3, numOf_nt g4 g5] at hns
      match ns, hns with
      | [a, b], hns => simp at hns; rw [hns.1, hns.2]
    subst ens
    clear S2
    have S3 : Sat H2 (cell l2 (.lst [.int num, .int day]) :: cell l1 (.lst [.str (nt num), .str (nt day)]) :: readerR K r S :: cell p (.lst (.str "deed" :: .str (nt num) :: .str (nt day) :: x.wd.map V.str)) :: Rs) := S3
    walk_at "sx"
    refine x_slS fun l3 H3 pk3 S4 => ?_
    have e2 : cutV (.str "deed" :: .str (nt num) :: .str (nt day) :: x.wd.map V.str : List V) (some 3) none = x.wd.map V.str := cut_from (k := 3)
    rw [e2] at S4
    clear S3
    walk_at "sx"
    refine ⟨l3, x, _, rfl, S4, g6, fun q H4 pk4 S5 hq => ?_⟩
    clear S4
    have S6 : Sat H4 (readerR K r S :: cell l2 (.lst [.int num, .int day]) :: cell p (.lst (.str "deed" :: .str (nt num) :: .str (nt day) :: x.wd.map V.str)) :: Rs) := S5.pick
    clear S5
    walk_at "sx"
    refine x_orD (fun c => absurd c (by simp)) (fun _ => ?_)
    walk_at "sx"
    refine x_asgL (SqL.of (show H4 l2 = some (.lst [.int num, .int day]) from sat_at)) rfl ?_
    walk_at "sx"
    refine x_orD (fun c => absurd c (by omega)) (fun _ => ?_)
    obtain ⟨dx, b, q0, hq0, S7⟩ := S6.readerE
    obtain ⟨bdx, ba, fo, pa, to, ps, fu, S8⟩ := S7.swap.bookE
    clear S6 S7
    have hno : hasD S.B.st.told (.inl num) = false := by
      show hasD (toldD S.Td) (.inl num) = false
      rw [hasD_told]
      exact List.any_eq_false.mpr fun u hu c => g7 u hu (of_decide_eq_true c)
    walk_at "sx"
    rw [hno]
    walk_at "sx"
    rename_i q1 H5 pk5 S9 hq1
    clear S8
    refine ⟨r, dx, q0, q1, .ref b, .int S.kind, .int S.most, S.last, .two day num, _, rfl, S9.pick (Ss := cell r (.ins (CR K) dx (fsReader (.ref b) (.int S.kind) (.ref q0) (.int S.most))) :: cell b (.ins (CB K) bdx (fsBook (.ref ba) (.ref fo) (.ref pa) (.ref to) (.int S.B.st.later) (.ref ps) (.ref fu))) :: dct ba S.B.st.sides :: dct fo S.B.st.folk :: dct pa S.B.st.pacts :: dct to S.B.st.told :: lsts ps S.B.past :: lsts fu S.B.fut :: cell p (.lst (.str "deed" :: .str (nt num) :: .str (nt day) :: x.wd.map V.str)) :: Rs), pk5.tup hq0, hq1, g8, g9, fun H6 pk6 S10 => ?_⟩
    clear S9
    walk_at "sx"
    rename_i H7 pk7 S11
    clear S10
    have S12 := bookC (H := H7) (C := CB K) (b := b)
    clear S11
    have hq7 : H7 q = some (.tup x.xs) := (pk5.trans (pk6.trans pk7)).tup hq
    walk_at "sx"
    refine ⟨b, q, day, x, ⟨{ S.st with later := num }, S.past, []⟩, S.F, S.Td, _, rfl, hq7, S12.pick (Ss := book (CB K) b ⟨⟨S.B.st.sides, S.B.st.folk, S.B.st.pacts, S.B.st.told, num⟩, S.B.past, S.B.fut⟩ :: cell r (.ins (CR K) dx (fsReader (.ref b) (.int S.kind) (.ref q1) (.int S.most))) :: cell p (.lst (.str "deed" :: .str (nt num) :: .str (nt day) :: x.wd.map V.str)) :: Rs), rfl, rfl, by rw [sizeLine_eq]; show S.past.length < _; omega, fun c H8 pk8 S13 => ?_, fun c => ⟨g10 c, fun H8 pk8 S13 => ?_⟩⟩
    · exact no c H8 (by walk_at "pk") S13.tail.tail
    · clear S12
      walk_at "sx"
      rename_i H9 pk9 S14
      refine yes c H9 (by walk_at "pk") ?_
      have hq9 : H9 q1 = some (.tup (Pl.two day num).xs) := (pk6.trans (pk7.trans (pk8.trans pk9))).tup hq1
      exact G.Sat.readerI (S := S.told (num, day, x)) (dx := dx) (b := b) (q := q1) hq9 S14.swap
end

/-! ### rows of sides, men, the next number -/
def Rd.named (S : Rd) : Item → Rd
  | .side n => { S with ss := putD S.ss (.inr n) (.bool true), past := S.past ++ [S.st], last := .one n }
  | .man n s g => { S with F := S.F ++ [(n, s, g)], past := S.past ++ [S.st], last := .one n }
  | .deed _ => S
  | .next k => { S with later := k }
def namedGo (S : Rd) : Item → Str
  | .side n => sideOut S.st n
  | .man n s g => manOut S.st n s g
  | _ => ""
def NamedIn (S : Rd) : Item → Prop
  | .side n => n.length ≤ 100 ∧ S.ss.length < 1000 ∧ S.last.ok ∧ (sideOut S.st n = "" → Pl.lt S.last (.one n))
  | .man n s g => n.length ≤ 100 ∧ S.F.length < 1000 ∧ S.last.ok ∧ 0 ≤ g ∧ g < 10 ^ 10 ∧ (manOut S.st n s g = "" → Pl.lt S.last (.one n))
  | .deed _ => False
  | .next k => 0 ≤ k ∧ k < 10 ^ 10 ∧ S.most < k
theorem folk_snoc {F : FolkL} {n s : Str} {g : Int} (h : hasD (folkD F) (.inr n) = false) : putD (folkD F) (.inr n) (.tuple [.str s, .int g]) = folkD (F ++ [(n, s, g)]) := by
  unfold putD
  rw [h, if_neg Bool.false_ne_true]
  unfold folkD
  rw [List.map_append]
  rfl
theorem manOut_new {t : BSt} {n s : Str} {g : Int} (h : manOut t n s g = "") : hasD t.folk (.inr n) = false := by
  unfold manOut at h
  split at h
  · split at h
    · exact absurd h (by decide)
    · next c => cases e : hasD t.folk (.inr n) with
      | false => rfl
      | true => exact absurd e c
  · exact absurd h (by decide)
def spTakeNamed (K : PySem.W.Frag) : Sp := fun vs H Q E => ∃ (r p : Addr) (S : Rd) (it : Item) (Rs : List Res), vs = [.ref r, .ref p] ∧ Sat H (readerR K r S :: cell p (.lst (it.ws.map V.str)) :: Rs) ∧ S.past.length < 1000 ∧ NamedIn S it ∧
  (namedGo S it ≠ "" → ∀ H', PK H H' → Sat H' (cell p (.lst (it.ws.map V.str)) :: Rs) → E (.ref (He.ga K (namedGo S it))) none H') ∧
  (namedGo S it = "" → ∀ H', PK H H' → Sat H' (readerR K r (S.named it) :: cell p (.lst (it.ws.map V.str)) :: Rs) → Q (.bl true) H')
section
variable {P : Program} {w : World} {K : PySem.W.Frag} {mg : Str → Option Value} {base : Heap}
theorem D_Book_cartel (F : Mf K "Book" "cartel" "Book.cartel" s_Book_cartel) : DnM P w K mg base CX0 1 (He.ma K (He.ga K "Book") "cartel") ["self", "one", "other", "worths", "limit"] spNever :=
  F.none (fun _ _ _ _ _ _ us hl => match us, hl with | [_, _, _, _, _], _ => rfl) (fun _ _ _ _ h => h)
theorem D_Book_swap (F : Mf K "Book" "swap" "Book.swap" s_Book_swap) : DnM P w K mg base CX0 1 (He.ma K (He.ga K "Book") "swap") ["self", "day", "one", "other", "ones", "others"] spNever :=
  F.none (fun _ _ _ _ _ _ us hl => match us, hl with | [_, _, _, _, _, _], _ => rfl) (fun _ _ _ _ h => h)
theorem D_take_named (T : Txt K mg) (TB : Tabs w K mg) (D_number_of : Dn P w K mg base CX0 2 "number_of" ["word"] spNumberOf) (D_numbers_of : Dn P w K mg base CX0 3 "numbers_of" ["words"] (spNumbersOf K)) (D_Book_side : DnM P w K mg base (L2.CX P w) 3 (He.ma K (He.ga K "Book") "side") ["self", "name"] (spSideX K)) (D_Book_man : DnM P w K mg base (L2.CX P w) 3 (He.ma K (He.ga K "Book") "man") ["self", "name", "side", "rank"] (spManX K))
    (D_Book_cartel : DnM P w K mg base CX0 1 (He.ma K (He.ga K "Book") "cartel") ["self", "one", "other", "worths", "limit"] spNever) (D_Reader_behind : DnM P w K mg base CX0 1 (He.ma K (He.ga K "Reader") "behind") ["self", "place"] (spBehind K)) (F : Mf K "Reader" "take_named" "Reader.take_named" s_Reader_take_named) : DnM P w K mg base (L2.CX P w) 4 (He.ma K (He.ga K "Reader") "take_named") ["self", "words"] (spTakeNamed K) := by
  refine F.dmX sc_Reader_take_named (fun _ _ _ _ _ _ us hl => match us, hl with | [_, _], _ => rfl) (fun vs H Q E h => ?_) (fun f cdv A outer s H vs Q E hr hK h => ?_)
  · obtain ⟨r, p, S, it, Rs, rfl, _⟩ := h
    rfl
  · obtain ⟨r, p, S, it, Rs, rfl, S0, hp, ok, no, yes⟩ := h
    obtain ⟨es_S, n_S, kd_SIZES⟩ := TB.d_SIZES
    have z := fun {w0 : Str} {c : Int} (i : Nat) h => tabB_yes (z := w0) (i := c) TB.b_SIZES (List.mem_of_getElem? (i := i) h)
    refine ⟨_, (pss_cons (ps_if (pt_cmpR op_ne (pe_callB g_len rfl T.m_len boot_len (pa_cons (pv 1) pa_nil)) (pe_ix ix_k (pe_glob (v := .ref (He.ga K "SIZES")) rfl TB.g_SIZES rfl) (pe_ix ix_list (pv 1) pe_int (fun _ _ => rfl)) (fun _ _ => rfl)) (nomark _)) (pss_one (ps_ret pe_bl)) pss_nil)
      (pss_cons (ps_if (pt_cmpR op_eq (pe_ix ix_list (pv 1) pe_int (fun _ _ => rfl)) pe_str (nomark _)) (pss_cons (ps_set (i := 2) sc_Reader_take_named.nd rfl (Or.inl rfl) (pe_dn D_number_of (hr.mono (by first | decide | omega)) pass0 (pa_cons (pe_ix ix_list (pv 1) pe_int (fun _ _ => rfl)) pa_nil)))
      (pss_cons (ps_if (PW.pt (pw_or (pt_cmpR g_isN (pv 2) pe_non (nomark _)) (pw_or1 (pt_cmpR op_le (pv 2) (pe_fldC T.cl_Reader T.n_Reader_most (pv 0) rfl) (nomark _))))) (pss_one (ps_ret pe_bl)) pss_nil)
      (pss_cons (ps_fldC T.cl_Book T.n_Book_later (pe_fldC T.cl_Reader T.n_Reader_made (pv 0) rfl) (pv 2) rfl)
      (pss_one (ps_ret pe_bl))))) pss_nil)
      (pss_cons (ps_if (pt_cmpR op_eq (pe_ix ix_list (pv 1) pe_int (fun _ _ => rfl)) pe_str (nomark _)) (pss_cons (ps_expr (pe_mt (pe_fldC T.cl_Reader T.n_Reader_made (pv 0) rfl) T.cl_Book T.me_Book_side D_Book_side (hr.mono (by first | decide | omega)) passX (pa_cons (pe_ix ix_list (pv 1) pe_int (fun _ _ => rfl)) pa_nil)))
      (pss_one (ps_ret (pe_mt (pv 0) T.cl_Reader T.me_Reader_behind D_Reader_behind (hr.mono (by first | decide | omega)) pass0 (pa_cons (pe_tup (pa_cons (pe_ix ix_list (pv 1) pe_int (fun _ _ => rfl)) pa_nil)) pa_nil))))) pss_nil)
      (pss_cons (ps_if (pt_cmpR op_eq (pe_ix ix_list (pv 1) pe_int (fun _ _ => rfl)) pe_str (nomark _)) (pss_cons (ps_set (i := 3) sc_Reader_take_named.nd rfl (Or.inl rfl) (pe_dn D_number_of (hr.mono (by first | decide | omega)) pass0 (pa_cons (pe_ix ix_list (pv 1) pe_int (fun _ _ => rfl)) pa_nil)))
      (pss_cons (ps_if (pt_cmpR g_isN (pv 3) pe_non (nomark _)) (pss_one (ps_ret pe_bl)) pss_nil)
      (pss_cons (ps_expr (pe_mt (pe_fldC T.cl_Reader T.n_Reader_made (pv 0) rfl) T.cl_Book T.me_Book_man D_Book_man (hr.mono (by first | decide | omega)) passX (pa_cons (pe_ix ix_list (pv 1) pe_int (fun _ _ => rfl)) (pa_cons (pe_ix ix_list (pv 1) pe_int (fun _ _ => rfl)) (pa_cons (pv 3) pa_nil)))))
      (pss_one (ps_ret (pe_mt (pv 0) T.cl_Reader T.me_Reader_behind D_Reader_behind (hr.mono (by first | decide | omega)) pass0 (pa_cons (pe_tup (pa_cons (pe_ix ix_list (pv 1) pe_int (fun _ _ => rfl)) pa_nil)) pa_nil))))))) pss_nil)
      (pss_cons (ps_set (i := 4) sc_Reader_take_named.nd rfl (Or.inl rfl) (pe_dn D_numbers_of (hr.mono (by first | decide | omega)) pass0 (pa_cons (pe_slice sl_list (pv 1) (po_some pe_int) po_none) pa_nil)))
      (pss_cons (ps_if (PW.pt (pw_or (pt_cmpR g_isN (pv 4) pe_non (nomark _)) (pw_or1 (pt_cmpR op_ge_str (pe_ix ix_list (pv 1) pe_int (fun _ _ => rfl)) (pe_ix ix_list (pv 1) pe_int (fun _ _ => rfl)) (nomark _))))) (pss_one (ps_ret pe_bl)) pss_nil)
      (pss_cons (ps_expr (pe_mt (pe_fldC T.cl_Reader T.n_Reader_made (pv 0) rfl) T.cl_Book T.me_Book_cartel D_Book_cartel (hr.mono (by first | decide | omega)) pass0 (pa_cons (pe_ix ix_list (pv 1) pe_int (fun _ _ => rfl)) (pa_cons (pe_ix ix_list (pv 1) pe_int (fun _ _ => rfl)) (pa_cons (pe_slice sl_list (pv 4) po_none (po_some pe_int)) (pa_cons (pe_ix ix_list (pv 4) pe_int (fun _ _ => rfl)) pa_nil))))))
      (pss_one (ps_ret (pe_mt (pv 0) T.cl_Reader T.me_Reader_behind D_Reader_behind (hr.mono (by first | decide | omega)) pass0 (pa_cons (pe_tup (pa_cons (pe_ix ix_list (pv 1) pe_int (fun _ _ => rfl)) (pa_cons (pe_ix ix_list (pv 1) pe_int (fun _ _ => rfl)) pa_nil))) pa_nil))))))))))), ?_⟩
    try rw [hK]
    rw [show L2.start N_Reader_take_named [.ref r, .ref p] = [some (.ref r), some (.ref p), none, none, none] from rfl]
    have hpz : S.past.length < sizeLine := by rw [sizeLine_eq]; omega
    cases it with
    | deed t => exact ok.elim
    | next k =>
      obtain ⟨k0, k1, k2⟩ := ok
      have S1 : Sat H (readerR K r S :: cell p (.lst [.str "next", .str (nt k)]) :: Rs) := S0
      clear S0
      walk_at "sx"
      refine x_ixK kd_SIZES (z 3 rfl) ?_
      walk_at "sx"
      refine x_ifD (fun c => absurd rfl c) (fun _ => ?_)
      walk_at "sx"
      refine x_ifD (fun _ => ?_) (fun c => absurd rfl c)
      walk_at "sx"
      refine ⟨nt k, rfl, by have := nt_len k0 k1; omega, fun H1 e1 => ?_⟩
      rw [numOf_nt k0 k1]
      simp only [optI]
      have S2 := S1.mono e1
      clear S1
      obtain ⟨dx, b, q0, hq0, S7⟩ := S2.readerE
      obtain ⟨bdx, ba, fo, pa, to, ps, fu, S8⟩ := S7.swap.bookE
      clear S2 S7
      walk_at "sx"
      refine x_ifD (fun c => absurd c (by omega)) (fun _ => ?_)
      walk_at "sx"
      rename_i H2 pk2 S9
      have S12 := bookC (H := H2) (C := CB K) (b := b)
      refine yes rfl H2 ((PK.of_ex e1).trans pk2) ?_
      have S13 : Sat H2 (cell r (.ins (CR K) dx (fsReader (.ref b) (.int S.kind) (.ref q0) (.int S.most))) :: book (CB K) b ⟨⟨S.B.st.sides, S.B.st.folk, S.B.st.pacts, S.B.st.told, k⟩, S.B.past, S.B.fut⟩ :: cell p (.lst [.str "next", .str (nt k)]) :: Rs) := S12.pick
      exact G.Sat.readerI (S := S.named (.next k)) (dx := dx) (b := b) (q := q0) (pk2.tup hq0) S13
    | side n =>
      obtain ⟨n1, n2, n3, n4⟩ := ok
      have S1 : Sat H (readerR K r S :: cell p (.lst [.str "side", .str n]) :: Rs) := S0
      clear S0
      walk_at "sx"
      refine x_ixK kd_SIZES (z 0 rfl) ?_
      walk_at "sx"
      refine x_ifD (fun c => absurd rfl c) (fun _ => ?_)
      walk_at "sx"
      refine x_ifD (fun c => absurd c (by decide)) (fun _ => ?_)
      walk_at "sx"
      refine x_ifD (fun _ => ?_) (fun c => absurd rfl c)
      obtain ⟨dx, b, q0, hq0, S7⟩ := S1.readerE
      clear S1
      walk_at "sx"
      refine ⟨b, n, S.B, _, rfl, S7.swap, by omega, n2, hpz, fun c H2 pk2 S2 => no c H2 pk2 S2.tail.tail, fun c H2 pk2 S2 => ?_⟩
      clear S7
      walk_at "sx"
      rename_i q1 H3 pk3 S3 hq1
      clear S2
      refine ⟨r, dx, q0, q1, .ref b, .int S.kind, .int S.most, S.last, .one n, _, rfl, S3.swap, (pk2.trans pk3).tup hq0, hq1, n3, n4 c, fun H4 pk4 S4 => ?_⟩
      clear S3
      walk_at "sx"
      refine yes c H4 (by walk_at "pk") ?_
      exact G.Sat.readerI (S := S.named (.side n)) (dx := dx) (b := b) (q := q1) (pk4.tup hq1) S4
    | man n sd g =>
      obtain ⟨n1, n2, n3, g0, g1, n4⟩ := ok
      have S1 : Sat H (readerR K r S :: cell p (.lst [.str "man", .str n, .str sd, .str (nt g)]) :: Rs) := S0
      clear S0
      walk_at "sx"
      refine x_ixK kd_SIZES (z 1 rfl) ?_
      walk_at "sx"
      refine x_ifD (fun c => absurd rfl c) (fun _ => ?_)
      walk_at "sx"
      refine x_ifD (fun c => absurd c (by decide)) (fun _ => ?_)
      walk_at "sx"
      refine x_ifD (fun c => absurd c (by decide)) (fun _ => ?_)
      walk_at "sx"
      refine x_ifD (fun _ => ?_) (fun c => absurd rfl c)
      walk_at "sx"
      refine ⟨nt g, rfl, by have := nt_len g0 g1; omega, fun H1 e1 => ?_⟩
      rw [numOf_nt g0 g1]
      simp only [optI]
      have S2 := S1.mono e1
      clear S1
      obtain ⟨dx, b, q0, hq0, S7⟩ := S2.readerE
      clear S2
      walk_at "sx"
      have hfl : S.B.st.folk.length < 1000 := by show (folkD S.F).length < 1000; unfold folkD; rw [List.length_map]; exact n2
      refine ⟨b, n, sd, g, S.B, _, rfl, S7.swap, by omega, hfl, hpz, fun c H2 pk2 S2 => no c H2 ((PK.of_ex e1).trans pk2) S2.tail.tail, fun c H2 pk2 S2 => ?_⟩
      clear S7
      have efn : putD S.B.st.folk (.inr n) (.tuple [.str sd, .int g]) = folkD (S.F ++ [(n, sd, g)]) := folk_snoc (manOut_new c)
      rw [efn] at S2
      walk_at "sx"
      rename_i q1 H3 pk3 S3 hq1
      clear S2
      refine ⟨r, dx, q0, q1, .ref b, .int S.kind, .int S.most, S.last, .one n, _, rfl, S3.swap, (pk2.trans pk3).tup hq0, hq1, n3, n4 c, fun H4 pk4 S4 => ?_⟩
      clear S3
      walk_at "sx"
      refine yes c H4 ((PK.of_ex e1).trans (pk2.trans (pk3.trans pk4))) ?_
      exact G.Sat.readerI (S := S.named (.man n sd g)) (dx := dx) (b := b) (q := q1) (pk4.tup hq1) S4
end

/-! ### one row, all rows -/
def rowGo (S : Rd) : Item → Str
  | .deed t => deedGo (S.at_ 3) t
  | it => namedGo (S.at_ it.kind) it
def Rd.step (S : Rd) : Item → Rd
  | .deed t => (S.at_ 3).told t
  | it => (S.at_ it.kind).named it
def RowAsk (S : Rd) : Item → Prop
  | .deed t => DeedIn (S.at_ 3) t
  | it => NamedIn (S.at_ it.kind) it
structure RowIn (S : Rd) (it : Item) : Prop where
  k1 : S.kind ≤ it.kind
  k2 : S.kind ≠ 4
  p : S.past.length < 1000
  ask : RowAsk S it
  nb : ∀ z ∈ it.ws, nob z
  len : (jn it.ws).length ≤ 10000
def spTakeRow (K : PySem.W.Frag) : Sp := fun vs H Q _ => ∃ (r : Addr) (S : Rd) (it : Item) (Rs : List Res), vs = [.ref r, .str (jn it.ws)] ∧ Sat H (readerR K r S :: Rs) ∧ RowIn S it ∧ (rowGo S it = "" ∨ rowGo S it = "Full") ∧
  (rowGo S it = "Full" → ∀ H', PK H H' → Sat H' Rs → Q (.bl false) H') ∧
  (rowGo S it = "" → ∀ H', PK H H' → Sat H' (readerR K r (S.step it) :: Rs) → Q (.bl true) H')
theorem at_past (S : Rd) (k : Int) : (S.at_ k).past = S.past := by unfold Rd.at_; split <;> rfl
section
variable {P : Program} {w : World} {K : PySem.W.Frag} {mg : Str → Option Value} {base : Heap}
theorem D_take_row (T : Txt K mg) (TB : Tabs w K mg) (D_Reader_take_deed : DnM P w K mg base (L2.CX P w) 10 (He.ma K (He.ga K "Reader") "take_deed") ["self", "words"] (spTakeDeed K)) (D_Reader_take_named : DnM P w K mg base (L2.CX P w) 4 (He.ma K (He.ga K "Reader") "take_named") ["self", "words"] (spTakeNamed K)) (F : Mf K "Reader" "take_row" "Reader.take_row" s_Reader_take_row) : DnM P w K mg base CX0 11 (He.ma K (He.ga K "Reader") "take_row") ["self", "row"] (spTakeRow K) := by
  refine F.dm sc_Reader_take_row (fun _ _ _ _ _ _ us hl => match us, hl with | [_, _], _ => rfl) (fun vs H Q E h => ?_) (fun f cdv A outer s H vs Q E hr hK h => ?_)
  · obtain ⟨r, S, it, Rs, rfl, _⟩ := h
    rfl
  · obtain ⟨r, S, it, Rs, rfl, S0, ok, two, no, yes⟩ := h
    obtain ⟨es_R, n_R, kd_RANKS⟩ := TB.d_RANKS
    have z := fun {w0 : Str} {c : Int} (i : Nat) h => tabB_yes (z := w0) (i := c) TB.b_RANKS (List.mem_of_getElem? (i := i) h)
    refine ⟨_, (pss_cons (ps_set (i := 2) sc_Reader_take_row.nd rfl (Or.inl rfl) (pe_splitN (pv 1) pe_str))
      (pss_cut (ps_if (PW.pt (pw_or (pt_cmpR (op_notInK kd_RANKS) (pe_ix ix_list (pv 2) pe_int (fun _ _ => rfl)) (pe_glob (v := .ref (He.ga K "RANKS")) rfl TB.g_RANKS rfl) rfl) (pw_or (pt_cmpR op_lt (pe_ix ix_k (pe_glob (v := .ref (He.ga K "RANKS")) rfl TB.g_RANKS rfl) (pe_ix ix_list (pv 2) pe_int (fun _ _ => rfl)) (fun _ _ => rfl)) (pe_fldC T.cl_Reader T.n_Reader_kind (pv 0) rfl) (nomark _)) (pw_or1 (pt_cmpR op_eq (pe_fldC T.cl_Reader T.n_Reader_kind (pv 0) rfl) (pe_ix ix_k (pe_glob (v := .ref (He.ga K "RANKS")) rfl TB.g_RANKS rfl) pe_str (fun _ _ => rfl)) (nomark _)))))) (pss_one (ps_ret pe_bl)) pss_nil)
      (pss_cut (ps_if (pt_cmpR op_gt (pe_ix ix_k (pe_glob (v := .ref (He.ga K "RANKS")) rfl TB.g_RANKS rfl) (pe_ix ix_list (pv 2) pe_int (fun _ _ => rfl)) (fun _ _ => rfl)) (pe_fldC T.cl_Reader T.n_Reader_kind (pv 0) rfl) (nomark _)) (pss_cons (ps_fldC T.cl_Reader T.n_Reader_kind (pv 0) (pe_ix ix_k (pe_glob (v := .ref (He.ga K "RANKS")) rfl TB.g_RANKS rfl) (pe_ix ix_list (pv 2) pe_int (fun _ _ => rfl)) (fun _ _ => rfl)) rfl)
      (pss_one (ps_fldC T.cl_Reader T.n_Reader_last (pv 0) (pe_tup pa_nil) rfl))) pss_nil)
      (pss_one (ps_try_only rfl rfl ⟨rfl, by decide, .inl T.x_CartelError.g⟩ takes0 (fun W pn xe tk tp => (pss_cons (ps_if (pt_cmpR op_eq (pe_ix (r := rIxL K) ix_list (pv 2) pe_int (fun _ _ => rfl)) pe_str (nomark _)) (pss_one (ps_ret (pe_mtS (pv 0) T.cl_Reader T.me_Reader_take_deed D_Reader_take_deed (hr.mono (by first | decide | omega)) (fun σ => passAt tk σ) (pa_cons (pv 2) pa_nil)))) pss_nil)
      (pss_one (ps_ret (pe_mtS (pv 0) T.cl_Reader T.me_Reader_take_named D_Reader_take_named (hr.mono (by first | decide | omega)) (fun σ => passAt tk σ) (pa_cons (pv 2) pa_nil)))))) (fun a oe cls d pn hz hf => (pss_one (ps_ret pe_bl)))))))), ?_⟩
    try rw [hK]
    rw [show L2.start N_Reader_take_row [.ref r, .str (jn it.ws)] = [some (.ref r), some (.str (jn it.ws)), none] from rfl]
    obtain ⟨w0, r0, e0, hk, hdd⟩ : ∃ w0 r0, it.ws.map V.str = .str w0 :: r0 ∧ KSays K (He.ga K "RANKS") w0 (some (.int it.kind)) ∧ ((∃ t, it = .deed t ∧ w0 = "deed") ∨ ((∀ t, it ≠ .deed t) ∧ w0 ≠ "deed")) := by
      cases it with
      | side n => exact ⟨_, _, rfl, z 0 rfl, .inr ⟨(fun t h => nomatch h), by decide⟩⟩
      | man n s g => exact ⟨_, _, rfl, z 1 rfl, .inr ⟨(fun t h => nomatch h), by decide⟩⟩
      | deed t => exact ⟨_, _, rfl, z 3 rfl, .inl ⟨t, rfl, rfl⟩⟩
      | next k => exact ⟨_, _, rfl, z 4 rfl, .inr ⟨(fun t h => nomatch h), by decide⟩⟩
    have hne : it.ws ≠ [] := fun e => by rw [e] at e0; cases e0
    have hlen := ok.len
    walk_at "sx"
    refine x_splitS (by rw [sizeLine_eq]; omega) fun p H1 pk1 S1 => ?_
    rw [split_jn hne ok.nb, e0] at S1
    clear S0
    obtain ⟨dx, b, q0, hq0, S2⟩ := S1.swap.readerE
    clear S1
    have k1 := ok.k1
    have k2 := ok.k2
    walk_at "sx"
    refine x_cut (fun σ' H' => PK H1 H' ∧ σ' = [some (.ref r), some (.str (jn it.ws)), some (.ref p)] ∧ Sat H' (cell r (.ins (CR K) dx (fsReader (.ref b) (.int S.kind) (.ref q0) (.int S.most))) :: book (CB K) b S.B :: cell p (.lst (.str w0 :: r0)) :: Rs)) ?_ fun σ' H2 h => ?_
    · walk_at "sx"
      refine x_notInK hk ?_
      simp only [Option.isSome, Bool.not_true]
      walk_at "sx"
      refine x_ixK kd_RANKS hk ?_
      walk_at "sx"
      refine x_orD (fun c => absurd c (by omega)) (fun _ => ?_)
      walk_at "sx"
      refine x_ixK kd_RANKS (z 4 rfl) ?_
      walk_at "sx"
      refine x_ifD (fun c => absurd c k2) (fun _ => ?_)
      walk_at "sx"
      exact ⟨PK.refl, rfl, S2⟩
    obtain ⟨pk2, rfl, S3⟩ := h
    clear S2
    have hq2 := pk2.tup hq0
    walk_at "sx"
    refine x_cut (fun σ' H' => PK H2 H' ∧ σ' = [some (.ref r), some (.str (jn it.ws)), some (.ref p)] ∧ Sat H' (readerR K r (S.at_ it.kind) :: cell p (.lst (it.ws.map V.str)) :: Rs)) ?_ fun σ' H3 h => ?_
    · walk_at "sx"
      refine x_ixK kd_RANKS hk ?_
      walk_at "sx"
      refine x_ifD (fun c => ?_) (fun c => ?_)
      · walk_at "sx"
        refine x_ixK kd_RANKS hk ?_
        walk_at "sx"
        rename_i G1 pg1 U1 q1 G2 pg2 U2 hq1 G3 pg3 U3
        clear U1 U2
        refine ⟨pg1.trans (pg2.trans pg3), rfl, ?_⟩
        rw [show S.at_ it.kind = { S with kind := it.kind, last := .non } from if_pos c, e0]
        exact G.Sat.readerI (S := { S with kind := it.kind, last := .non }) (pg3.tup hq1) U3
      · walk_at "sx"
        refine ⟨PK.refl, rfl, ?_⟩
        rw [show S.at_ it.kind = S from if_neg (by omega), e0]
        exact G.Sat.readerI hq2 S3
    obtain ⟨pk3, rfl, S4⟩ := h
    clear S3
    have pk03 : PK H H3 := pk1.trans (pk2.trans pk3)
    have hp3 : (S.at_ it.kind).past.length < 1000 := by rw [at_past]; exact ok.p
    have S4' : Sat H3 (readerR K r (S.at_ it.kind) :: cell p (.lst (.str w0 :: r0)) :: Rs) := by rw [← e0]; exact S4
    walk_at "sx"
    rcases hdd with ⟨t, rfl, hw⟩ | ⟨hnt, hw⟩
    · refine x_ifD (fun _ => ?_) (fun c => absurd hw c)
      clear S4'
      walk_at "sx"
      refine ⟨r, p, S.at_ 3, t, Rs, rfl, S4, ok.ask, fun c H4 pk4 S5 => ?_, fun c H4 pk4 S5 => ?_⟩
      · have two : deedGo (S.at_ 3) t = "" ∨ deedGo (S.at_ 3) t = "Full" := two
        have e : deedGo (S.at_ 3) t = "Full" := two.resolve_left c
        rw [e]
        refine ⟨true, T.em_Full_CartelError, fun _ a ha => ?_, fun q => nomatch q⟩
        walk_at "sx"
        exact no e _ (pk03.trans pk4) S5.tail
      · exact yes c H4 (pk03.trans pk4) S5.swap.tail
    · refine x_ifD (fun c => absurd c hw) (fun _ => ?_)
      clear S4'
      walk_at "sx"
      have eg : rowGo S it = namedGo (S.at_ it.kind) it := by cases it <;> first | rfl | exact absurd rfl (hnt _)
      have es : S.step it = (S.at_ it.kind).named it := by cases it <;> first | rfl | exact absurd rfl (hnt _)
      have ea : NamedIn (S.at_ it.kind) it := by
        have := ok.ask
        cases it <;> first | exact this | exact absurd rfl (hnt _)
      refine ⟨r, p, S.at_ it.kind, it, Rs, rfl, S4, hp3, ea, fun c H4 pk4 S5 => ?_, fun c H4 pk4 S5 => ?_⟩
      · have e : namedGo (S.at_ it.kind) it = "Full" := by rw [← eg] at c ⊢; exact two.resolve_left c
        rw [e]
        refine ⟨true, T.em_Full_CartelError, fun _ a ha => ?_, fun q => nomatch q⟩
        walk_at "sx"
        exact no (by rw [eg]; exact e) _ (pk03.trans pk4) S5.tail
      · refine yes (by rw [eg]; exact c) H4 (pk03.trans pk4) ?_
        rw [es]
        exact S5.swap.tail
end

/-! ### a book read -/
inductive Rds : Nat → Rd → List Item → Nat ⊕ Rd → Prop
  | nil {i : Nat} {S : Rd} : Rds i S [] (.inr S)
  | ok {i : Nat} {S : Rd} {it : Item} {r : List Item} {o : Nat ⊕ Rd} (h : RowIn S it) (g : rowGo S it = "") (t : Rds (i + 1) (S.step it) r o) : Rds i S (it :: r) o
  | bad {i : Nat} {S : Rd} {it : Item} {r : List Item} (h : RowIn S it) (g : rowGo S it = "Full") : Rds i S (it :: r) (.inl i)
abbrev rowsV (its : List Item) : List V := (its.map fun it => jn it.ws).map V.str
def spReadBook (K : PySem.W.Frag) : Sp := fun vs H Q E => ∃ (p : Addr) (its : List Item) (o : Nat ⊕ Rd) (Rs : List Res), vs = [.ref p] ∧ Sat H (cell p (.lst (rowsV its)) :: Rs) ∧ Rds 0 R0 its o ∧
  (∀ S, o = .inr S → S.kind = 4 ∧ ∀ b H', PK H H' → Sat H' (book (CB K) b ⟨S.st, [], []⟩ :: cell p (.lst (rowsV its)) :: Rs) → Q (.ref b) H') ∧
  (∀ i : Nat, o = .inl i → ∀ d H', PK H H' → Sat H' (cell p (.lst (rowsV its)) :: Rs) → H' d = some (.xd [("at", .int (i : Int))]) → E (.ref (He.ga K "BadRow")) (some d) H')
instance r_mkO {C : Addr} {sp : Sp} {ta : TA} {σ : L2.St} {H : Hp} {Q : XK} {R : Prop} [n : Run (ta σ H (mkOQ C sp Q)) R] : Run (tMkO C sp [] ta σ H Q) R := ⟨fun h => n.go h⟩
section
variable {P : Program} {w : World} {K : PySem.W.Frag} {mg : Str → Option Value} {base : Heap}
theorem D_read_book (T : Txt K mg) (TB : Tabs w K mg) (D_Reader___init__ : DnM P w K mg base CX0 3 (He.ma K (He.ga K "Reader") "__init__") ["self"] (spReaderInit K)) (D_Reader_take_row : DnM P w K mg base CX0 11 (He.ma K (He.ga K "Reader") "take_row") ["self", "row"] (spTakeRow K)) (D_BadRow___init__ : DnM P w K mg base CX0 1 (He.ma K (He.ga K "BadRow") "__init__") ["self", "at"] (spExcInit (He.ga K "BadRow") "at")) (D_Book_forget : DnM P w K mg base CX0 1 (He.ma K (He.ga K "Book") "forget") ["self"] (spForget K))
    (F : Df K mg "read_book" s_read_book) : Dn P w K mg base (L2.CX P w) 12 "read_book" ["rows"] (spReadBook K) := by
  refine F.dnX sc_read_book (fun _ _ _ _ _ _ us hl => match us, hl with | [_], _ => rfl) (fun vs H Q E h => ?_) (fun f cdv A outer s H vs Q E hr hK h => ?_)
  · obtain ⟨p, its, o, Rs, rfl, _⟩ := h
    rfl
  · obtain ⟨p, its, o, Rs, rfl, S0, hR, yes, no⟩ := h
    obtain ⟨es_R, n_R, kd_RANKS⟩ := TB.d_RANKS
    have z := fun {w0 : Str} {c : Int} (i : Nat) h => tabB_yes (z := w0) (i := c) TB.b_RANKS (List.mem_of_getElem? (i := i) h)
    refine ⟨_, (pss_cons (ps_set (i := 1) sc_read_book.nd rfl (Or.inl rfl) (pe_mk0 T.mk_Reader D_Reader___init__ (hr.mono (by first | decide | omega)) pass0 T.g_Reader))
      (pss_cons (ps_for (passes_of rfl) rfl (pi_enum rfl T.m_enumerate (pa_cons (pv 0) pa_nil)) (pg_tup rfl (pgs_cons (pg_name (i := 2) sc_read_book.nd rfl (Or.inl rfl)) (pgs_cons (pg_name (i := 3) sc_read_book.nd rfl (Or.inl rfl)) pgs_nil))) (pss_one (ps_if (pt_not (pt_val (pe_mt (pv 1) T.cl_Reader T.me_Reader_take_row D_Reader_take_row (hr.mono (by first | decide | omega)) pass0 (pa_cons (pv 3) pa_nil)))) (pss_one (ps_raise rfl (takes_of rfl rfl rfl rfl) (pmk_oexD T.ox_BadRow D_BadRow___init__ (hr.mono (by first | decide | omega)) pass0 T.g_BadRow (pa_cons (pv 2) pa_nil)))) pss_nil)))
      (pss_cons (ps_if (pt_cmpR op_ne (pe_fldC T.cl_Reader T.n_Reader_kind (pv 1) rfl) (pe_ix ix_k (pe_glob (v := .ref (He.ga K "RANKS")) rfl TB.g_RANKS rfl) pe_str (fun _ _ => rfl)) (nomark _)) (pss_one (ps_raise rfl (takes_of rfl rfl rfl rfl) (pmk_oexD T.ox_BadRow D_BadRow___init__ (hr.mono (by first | decide | omega)) pass0 T.g_BadRow (pa_cons (pe_callB g_len rfl T.m_len boot_len (pa_cons (pv 0) pa_nil)) pa_nil)))) pss_nil)
      (pss_cons (ps_expr (pe_mt0 (pe_fldC T.cl_Reader T.n_Reader_made (pv 1) rfl) T.cl_Book T.me_Book_forget D_Book_forget (hr.mono (by first | decide | omega)) pass0))
      (pss_one (ps_ret (pe_fldC T.cl_Reader T.n_Reader_made (pv 1) rfl))))))), ?_⟩
    try rw [hK]
    rw [show L2.start N_read_book [.ref p] = [some (.ref p), none, none, none] from rfl]
    walk_at "sx"
    rename_i r dr H1 pk1 S1
    refine ⟨r, dr, _, rfl, S1, fun H2 pk2 S2 => ?_⟩
    clear S0 S1
    walk_at "sx"
    refine x_iEQ (SqL.of (show H2 p = some (.lst (rowsV its)) from sat_at)) ?_
    refine x_forQ (walk_enum (xs := rowsV its)) (fun i σ H' => PK H2 H' ∧ (∃ v1 v2 : Option V, σ = [some (.ref p), some (.ref r), v1, v2]) ∧ ∃ S : Rd, Rds i S (its.drop i) o ∧ Sat H' (readerR K r S :: cell p (.lst (rowsV its)) :: Rs)) ⟨PK.refl, ⟨_, _, rfl⟩, R0, by rw [List.drop_zero]; exact hR, S2⟩ (fun i σ H' _ h => ?_) (fun i x σ H3 H4 hi h y => ?_) (fun σ H3 h => ?_)
    · obtain ⟨_, _, S, _, S3⟩ := h
      exact SqL.of sat_at
    · obtain ⟨pk3, ⟨v1, v2, rfl⟩, S, hr3, S3⟩ := h
      clear S2
      obtain ⟨T0, x0, z0, h1, h2, h3, h4, h5⟩ := y
      subst h1
      have hi2 : i < its.length := by rw [List.length_map, List.length_map] at hi; exact hi
      have hx0 : x0 = .int (i : Int) := (Option.some.inj h4).symm
      subst hx0
      have hz0 : z0 = .str (jn its[i].ws) := by
        have h5 : (rowsV its)[i]? = some z0 := h5
        rw [List.getElem?_map, List.getElem?_map, List.getElem?_eq_getElem hi2] at h5
        exact (Option.some.inj h5).symm
      subst hz0
      have hdr : its.drop i = its[i] :: its.drop (i + 1) := List.drop_eq_getElem_cons hi2
      generalize its[i] = it at hdr h3 h5
      have pk4 : PK H3 H4 := by rw [h3]; exact PK.of_ex (Ex.new h2)
      have S4 : Sat H4 (readerR K r S :: cell p (.lst (rowsV its)) :: Rs) := by rw [h3]; exact S3.mono (Ex.new h2)
      have hT : H4 T0 = some (.tup [.int (i : Int), .str (jn it.ws)]) := by rw [h3]; exact upd_same
      clear S3 h3
      rw [hdr] at hr3
      walk_at "sx"
      have hrow : rowGo S it = "" ∨ rowGo S it = "Full" := by cases hr3 with
        | ok h g t => exact .inl g
        | bad h g => exact .inr g
      have hin : RowIn S it := by cases hr3 with
        | ok h g t => exact h
        | bad h g => exact h
      refine ⟨r, S, it, _, rfl, S4, hin, hrow, fun c H5 pk5 S5 => ?_, fun c H5 pk5 S5 => ?_⟩
      · cases hr3 with
        | ok h g t => rw [g] at c; exact absurd c (by decide)
        | bad h g =>
          clear S4
          walk_at "sx"
          refine x_mkO fun d H6 e6 hd => ?_
          exact no i rfl d H6 (pk1.trans (pk2.trans (pk3.trans (pk4.trans (pk5.trans (PK.of_ex e6)))))) (S5.mono e6) hd
      · cases hr3 with
        | bad h g => rw [g] at c; exact absurd c (by decide)
        | ok h g t =>
          clear S4
          walk_at "sx"
          exact ⟨pk3.trans (pk4.trans pk5), ⟨_, _, rfl⟩, S.step it, t, S5⟩
    · obtain ⟨pk3, ⟨v1, v2, rfl⟩, S, hr3, S3⟩ := h
      clear S2
      have hn : (rowsV its).length = its.length := by rw [List.length_map, List.length_map]
      rw [hn, List.drop_length] at hr3
      cases hr3
      obtain ⟨k4, k⟩ := yes S rfl
      obtain ⟨dx, b, q0, hq0, S4⟩ := S3.readerE
      clear S3
      walk_at "sx"
      refine x_ixK kd_RANKS (z 4 rfl) ?_
      walk_at "sx"
      refine x_ifD (fun c => absurd k4 c) (fun _ => ?_)
      walk_at "sx"
      refine ⟨b, S.B, _, rfl, S4.swap, fun H4 pk4 S5 => ?_⟩
      clear S4
      have S6 : Sat H4 (cell r (.ins (CR K) dx (fsReader (.ref b) (.int S.kind) (.ref q0) (.int S.most))) :: book (CB K) b ⟨S.st, [], []⟩ :: cell p (.lst (rowsV its)) :: Rs) := S5.swap
      clear S5
      walk_at "sx"
      exact k b H4 (pk1.trans (pk2.trans (pk3.trans pk4))) S6.tail
end

/-! ### the box as a part -/
def boxR (b : Addr) (n : Nat) : Res := fun h => ∃ l, BoxAt h b l n
theorem satL_kb {b : Addr} {H H' : Hp} (kb : KB b H H') : ∀ {Rs : List Res} {hs : List Hp}, SatL H Rs hs → (∀ k ∈ hs, k b = none) → SatL H' Rs hs
  | [], [], _, _ => trivial
  | _ :: _, h :: hs, ⟨r, x, d, t⟩, n => ⟨r, fun a u e => by
      have c : a ≠ b := fun c => by rw [c, n h List.mem_cons_self] at e; cases e
      exact kb.at_ a u c (x a u e), d, satL_kb kb t fun k hk => n k (List.mem_cons_of_mem _ hk)⟩
  | [], _ :: _, h, _ => h.elim
  | _ :: _, [], h, _ => h.elim
/-- a draw in a heap of parts -/
theorem boxR_take {H : Hp} {b : Addr} {n : Nat} {Rs : List Res} (S : Sat H (boxR b n :: Rs)) : ∃ l, BoxAt H b l n ∧ ∀ H', KB b H H' → BoxAt H' b l (n + 1) → PK H H' ∧ SatP H' (boxR b (n + 1) :: Rs) := by
  obtain ⟨hs, h⟩ := S.ex
  match hs, h with
  | h :: hs, ⟨⟨l, B⟩, x, d, t⟩ =>
    refine ⟨l, B.ex' x, fun H' kb B' => ⟨fun a o p ha => ?_, ⟨?_⟩⟩⟩
    · refine kb.at_ a o (fun e => ?_) ha
      subst e
      obtain ⟨_, _, _, _, _, e1, _⟩ := (B.ex' x).ex
      rw [ha] at e1
      cases e1
      exact p
    · obtain ⟨i, k, tt, s, ns, e1, e2, e3⟩ := B.ex
      have nb : ∀ z ∈ hs, z b = none := fun z hz => by
        cases e : z b with
        | none => rfl
        | some u => exact absurd ((d z hz).1 b _ e1 (by rw [e]; exact Option.some_ne_none u)) id
      have nl : ∀ z ∈ hs, z l = none := fun z hz => by
        cases e : z l with
        | none => rfl
        | some u => exact absurd ((d z hz).1 l _ e2 (by rw [e]; exact Option.some_ne_none u)) id
      obtain ⟨i', k', t', s', ns', f1, f2, f3, f4⟩ := B'.ex
      refine ⟨(fun a => if a = b then H' b else if a = l then H' l else none) :: hs, ⟨l, ⟨i', k', t', s', ns', ?_, ?_, f3, f4⟩⟩, fun a u e => ?_, fun z hz => ⟨fun a u e q => ?_, fun a u e q => ?_⟩, satL_kb kb t nb⟩
      · simp only [if_true]; exact f1
      · simp only [f3, if_false, if_true]; exact f2
      · by_cases c : a = b
        · subst c; simpa using e
        · by_cases c2 : a = l
          · subst c2; simpa [c] using e
          · simp [c, c2] at e
      · by_cases c : a = b
        · subst c; exact absurd (nb z hz) q
        · by_cases c2 : a = l
          · subst c2; exact absurd (nl z hz) q
          · simp [c, c2] at e
      · by_cases c : a = b
        · subst c; rw [nb z hz] at e; cases e
        · by_cases c2 : a = l
          · subst c2; rw [nl z hz] at e; cases e
          · simp [c, c2] at q
theorem take_S {H : Hp} {Q : VK} {E : XK} {b : Addr} {z : Int} {n : Nat} {Rs T : List Res} {F : Res → List Res} [S : Sat H Rs] [f : Foc boxR b n Rs T F] (h0 : 0 < z) (h1 : z < 2 ^ 64) (hn : n ≤ 2 ^ 60) (q : ∀ r H', 0 ≤ r → r < z → PK H H' → Sat H' (F (boxR b (n + 1))) → Q (.int r) H') : spTake [.ref b, .int z] H Q E := by
  obtain ⟨l, B, k⟩ := boxR_take (f.out S)
  exact ⟨b, l, z, n, rfl, h0, h1, B, hn, fun r H' h2 h3 kb B' => q r H' h2 h3 (k H' kb B').1 (f.back (k H' kb B').2.s)⟩

/-! ### names, plainly -/
theorem nm_of {z : Str} (h1 : 1 ≤ z.cps.toList.length) (h2 : z.cps.toList.length ≤ 8) (h : ∀ c ∈ z.cps.toList, 97 ≤ c ∧ c ≤ 122) : Nm z := by
  refine ⟨by simpa [PySem.Str.length] using h1, by simpa [PySem.Str.length] using h2, fun i c hc => h c ?_⟩
  rw [← Array.getElem?_toList] at hc
  exact List.mem_of_getElem? hc
theorem Nm.list {z : Str} (h : Nm z) : 1 ≤ z.cps.toList.length ∧ z.cps.toList.length ≤ 8 ∧ ∀ c ∈ z.cps.toList, 97 ≤ c ∧ c ≤ 122 := by
  refine ⟨by simpa [PySem.Str.length] using h.pos, by simpa [PySem.Str.length] using h.len, fun c hc => ?_⟩
  obtain ⟨i, hi⟩ := List.getElem?_of_mem hc
  rw [Array.getElem?_toList] at hi
  exact h.all i c hi
theorem cps_app (a b : Str) : (a ++ b).cps.toList = a.cps.toList ++ b.cps.toList := by
  show (a.cps ++ b.cps).toList = _
  simp
theorem join_str (ys : List Str) : Txt.join ("" : Str) ys = PySem.Str.join "" ys := PySem.StrLaws.glued_eq_join "" ys
theorem sjoin_list : ∀ ys : List Str, (PySem.Str.join ("" : Str) ys).cps.toList = (ys.map fun y => y.cps.toList).flatten
  | [] => rfl
  | [x] => by simp [PySem.Str.join]
  | x :: y :: r => by
    have ih := sjoin_list (y :: r)
    show (x ++ ("" : Str) ++ PySem.Str.join "" (y :: r)).cps.toList = _
    rw [cps_app, cps_app, ih]
    show x.cps.toList ++ [] ++ _ = _
    rw [List.append_nil]
    rfl
theorem join_list (ys : List Str) : (Txt.join ("" : Str) ys).cps.toList = (ys.map fun y => y.cps.toList).flatten := by rw [join_str, sjoin_list]
/-- one sign of the alphabet -/
def Sg (y : Str) : Prop := ∃ c, y.cps.toList = [c] ∧ 97 ≤ c ∧ c ≤ 122
theorem join_nm {ys : List Str} (h : ∀ y ∈ ys, Sg y) (h1 : 1 ≤ ys.length) (h2 : ys.length ≤ 8) : Nm (Txt.join ("" : Str) ys) := by
  have hl : (ys.map fun y => y.cps.toList).flatten.length = ys.length := by
    clear h1 h2
    induction ys with
    | nil => rfl
    | cons y r ih =>
      obtain ⟨c, e, _⟩ := h y List.mem_cons_self
      rw [List.map_cons, List.flatten_cons, List.length_append, ih fun z hz => h z (List.mem_cons_of_mem _ hz), e, List.length_singleton, List.length_cons]
      omega
  refine nm_of (by rw [join_list, hl]; exact h1) (by rw [join_list, hl]; exact h2) fun c hc => ?_
  rw [join_list] at hc
  obtain ⟨l, m1, m2⟩ := List.mem_flatten.mp hc
  obtain ⟨y, m3, rfl⟩ := List.mem_map.mp m1
  obtain ⟨c2, e, h3, h4⟩ := h y m3
  rw [e] at m2
  rw [List.mem_singleton.mp m2]
  exact ⟨h3, h4⟩

/-! ### drawn names -/
abbrev s__law_named : Stmt := top 72
abbrev N__law_named : List Str := ["_law_box_here", "_law_alike_here", "_law_letters", "_law_size", "_law_word", "_law_base", "_law_at"]
theorem sc__law_named : FnScope N__law_named ["_law_box_here", "_law_alike_here"] (defScope s__law_named) := ⟨rfl, rfl, rfl, by decide +kernel, rfl, by decide +kernel, by decide +kernel⟩

theorem letter_at {r : Int} (h0 : 0 ≤ r) (h1 : r < 26) : ∃ c, atI letters.cps.toList r = some c ∧ 97 ≤ c ∧ c ≤ 122 := by
  have h : ∀ k : Fin 26, letters.cps.toList[k.val]? = some (97 + k.val) := by decide +kernel
  have := h ⟨r.toNat, by omega⟩
  refine ⟨97 + r.toNat, ?_, by omega, by omega⟩
  unfold atI ixN
  have hl : letters.cps.toList.length = 26 := by decide +kernel
  rw [hl, if_pos h0, if_pos (by omega)]
  exact this
theorem letters_len : letters.length ≤ sizeLine := by
  have h : letters.length = 26 := by decide +kernel
  rw [h, sizeLine_eq]
  omega
theorem sum_sg : ∀ {ys : List Str}, (∀ y ∈ ys, Sg y) → (ys.map (·.length)).sum = ys.length
  | [], _ => rfl
  | y :: r, h => by
    obtain ⟨c, e, _⟩ := h y List.mem_cons_self
    have e1 : y.length = 1 := by
      have := congrArg List.length e
      simpa [PySem.Str.length] using this
    rw [List.map_cons, List.sum_cons, sum_sg fun z hz => h z (List.mem_cons_of_mem _ hz), e1, List.length_cons]
    omega
theorem cutS_to {z : Str} {k : Nat} : (cutS z none (some (k : Int))).cps.toList = z.cps.toList.take k := by
  unfold cutS
  show List.take _ _ = _
  rw [HT.sIx_nat, HT.sIx_none, List.drop_zero, Nat.sub_zero]
  have e : z.length = z.cps.toList.length := by simp [PySem.Str.length]
  rw [e]
  by_cases c : k ≤ z.cps.toList.length
  · rw [Nat.min_eq_left c]
  · rw [Nat.min_eq_right (by omega), List.take_of_length_le (Nat.le_refl _), List.take_of_length_le (by omega)]
theorem cutS_from {z : Str} {k : Nat} : (cutS z (some (k : Int)) none).cps.toList = z.cps.toList.drop k := by
  unfold cutS
  show List.take _ _ = _
  rw [HT.sIx_nat, HT.sIx_none]
  have e : z.length = z.cps.toList.length := by simp [PySem.Str.length]
  rw [e]
  by_cases c : k ≤ z.cps.toList.length
  · rw [Nat.min_eq_left c, List.take_of_length_le (by rw [List.length_drop]; omega)]
  · rw [Nat.min_eq_right (by omega), List.drop_length, List.drop_eq_nil_of_le (by omega), List.take_nil]
theorem swap_nm {z : Str} {k c : Nat} (h : Nm z) (hk : k < z.length) (c1 : 97 ≤ c) (c2 : c ≤ 122) : Nm (cutS z none (some (k : Int)) ++ (⟨#[c]⟩ : Str) ++ cutS z (some ((k + 1 : Nat) : Int)) none) := by
  have hk2 : k < z.cps.toList.length := by simpa [PySem.Str.length] using hk
  obtain ⟨l1, l2, l3⟩ := h.list
  have e : (cutS z none (some (k : Int)) ++ (⟨#[c]⟩ : Str) ++ cutS z (some ((k + 1 : Nat) : Int)) none).cps.toList = z.cps.toList.take k ++ [c] ++ z.cps.toList.drop (k + 1) := by
    rw [cps_app, cps_app, cutS_to, cutS_from]
  refine nm_of (by rw [e, List.length_append, List.length_append, List.length_singleton]; omega) (by rw [e, List.length_append, List.length_append, List.length_take, List.length_drop, List.length_singleton]; omega) fun x hx => ?_
  rw [e] at hx
  rcases List.mem_append.mp hx with hx | hx
  · rcases List.mem_append.mp hx with hx | hx
    · exact l3 x (List.mem_of_mem_take hx)
    · rw [List.mem_singleton.mp hx]; exact ⟨c1, c2⟩
  · exact l3 x (List.mem_of_mem_drop hx)
def spNamed : Sp := fun vs H Q _ => ∃ (b a : Addr) (n : Nat) (ns : List Str) (Rs : List Res), vs = [.ref b, .ref a] ∧ Sat H (boxR b n :: cell a (.lst (ns.map V.str)) :: Rs) ∧ n ≤ 2 ^ 50 ∧ (∀ z ∈ ns, Nm z) ∧
  ∀ z H' m, Nm z → PK H H' → m ≤ n + 12 → Sat H' (boxR b m :: cell a (.lst (ns.map V.str)) :: Rs) → Q (.str z) H'
section
variable {P : Program} {w : World} {K : PySem.W.Frag} {mg : Str → Option Value} {base : Heap}
theorem D_named (T : Txt K mg) (D__law_take : Dn P w K mg base CX0 2 "_law_take" ["_law_box_here", "_law_size"] spTake) (F : Df K mg "_law_named" s__law_named) : Dn P w K mg base CX0 3 "_law_named" ["_law_box_here", "_law_alike_here"] spNamed := by
  refine F.dn sc__law_named (fun _ _ _ _ _ _ us hl => match us, hl with | [_, _], _ => rfl) (fun vs H Q E h => ?_) (fun f cdv A outer s H vs Q E hr hK h => ?_)
  · obtain ⟨b, a, n, ns, Rs, rfl, _⟩ := h
    rfl
  · obtain ⟨b, a, n, ns, Rs, rfl, S, hn, hns, k⟩ := h
    refine ⟨_, (pss_cons (ps_set (i := 2) sc__law_named.nd rfl (Or.inr rfl) pe_str)
      (pss_cons (ps_set (i := 3) sc__law_named.nd rfl (Or.inl rfl) (pe_op op_add pe_int (pe_dn D__law_take (hr.mono (by first | decide | omega)) pass0 (pa_cons (pv 0) (pa_cons pe_int pa_nil)))))
      (pss_cons (ps_set (i := 4) sc__law_named.nd rfl (Or.inl rfl) (pe_joinN pe_str (pe_lc (own := [("_law_at", 6)]) (g := gName 6) (tt := tYes) rfl sc__law_named.nd (pi_range1 rfl T.m_range (pa_cons (pv 3) pa_nil)) (blkOk_by (own := [("_law_at", 6)]) (N := N__law_named) (sc := defScope s__law_named) (by decide +kernel)) (fun _ _ _ _ _ => pg_name (i := 6) sc__law_named.nd rfl (Or.inl rfl)) (fun _ _ _ _ _ => pts_nil) (fun _ _ _ _ _ => (pe_ix ix_str (pv 2) (pe_dn D__law_take (hr.mono (by first | decide | omega)) pass0 (pa_cons (pv 0) (pa_cons pe_int pa_nil))) (fun _ _ => rfl))))))
      (pss_cons (ps_if (PW.pt (pw_or (pt_cmpR op_eq (pe_callB g_len rfl T.m_len boot_len (pa_cons (pv 1) pa_nil)) pe_int (nomark _)) (pw_or1 (pt_cmpR op_eq (pe_dn D__law_take (hr.mono (by first | decide | omega)) pass0 (pa_cons (pv 0) (pa_cons pe_int pa_nil))) pe_int (nomark _))))) (pss_one (ps_ret (pv 4))) pss_nil)
      (pss_cons (ps_set (i := 5) sc__law_named.nd rfl (Or.inl rfl) (pe_ix ix_list (pv 1) pe_int (fun _ _ => rfl)))
      (pss_cons (ps_set (i := 6) sc__law_named.nd rfl (Or.inl rfl) (pe_dn D__law_take (hr.mono (by first | decide | omega)) pass0 (pa_cons (pv 0) (pa_cons (pe_callB g_lenS rfl T.m_len boot_len (pa_cons (pv 5) pa_nil)) pa_nil))))
      (pss_one (ps_ret (pe_op op_addS (pe_op op_addS (pe_slice sl_str (pv 5) po_none (po_some (pv 6))) (pe_ix ix_str (pv 2) (pe_dn D__law_take (hr.mono (by first | decide | omega)) pass0 (pa_cons (pv 0) (pa_cons pe_int pa_nil))) (fun _ _ => rfl))) (pe_slice sl_str (pv 5) (po_some (pe_op op_add (pv 6) pe_int)) po_none)))))))))), ?_⟩
    try rw [hK]
    rw [show L2.start N__law_named [.ref b, .ref a] = [some (.ref b), some (.ref a), none, none, none, none, none] from rfl]
    walk_at "sx"
    refine take_S (by decide) (by decide) (by omega) fun r H1 h0 h1 pk1 S1 => ?_
    clear S
    walk_at "sx"
    refine x_iRQ (by omega) (by omega) ?_
    refine x_lcQ walk_r0 (fun D i H' => PK H1 H' ∧ ∃ ys : List Str, ys.length = i ∧ (∀ y ∈ ys, Sg y) ∧ Sat H' (cell D (.lst (ys.map V.str)) :: boxR b (n + 1 + i) :: cell a (.lst (ns.map V.str)) :: Rs)) (fun D hD => ⟨PK.of_ex (Ex.new hD), [], rfl, fun y h => by simp at h, S1.new hD⟩) (fun _ _ _ _ _ => trivial) (fun D i x H2 H3 hi h y => ?_) (fun D H2 h => ?_)
    · obtain ⟨pk2, ys, hl, hg, S2⟩ := h
      obtain ⟨rfl, rfl⟩ := y
      clear S1
      walk_at "sx"
      refine take_S (by decide) (by decide) (by omega) fun r2 H4 g0 g1 pk4 S4 => ?_
      clear S2
      walk_at "sx"
      obtain ⟨c, hc, c1, c2⟩ := letter_at g0 g1
      refine ⟨letters, r2, c, rfl, rfl, letters_len, hc, ?_⟩
      refine x_eltS (by rw [List.length_map, hl, sizeLine_eq]; omega) fun H5 pk5 S5 => ⟨pk2.trans (pk4.trans pk5), ys ++ [⟨#[c]⟩], by rw [List.length_append, hl]; rfl, fun y hy => ?_, ?_⟩
      · rcases List.mem_append.mp hy with hy | hy
        · exact hg y hy
        · rw [List.mem_singleton.mp hy]
          exact ⟨c, rfl, c1, c2⟩
      · rw [List.map_append]
        exact S5
    · obtain ⟨pk2, ys, hl, hg, S2⟩ := h
      clear S1
      walk_at "sx"
      have hl8 : 1 ≤ ys.length ∧ ys.length ≤ 8 := by omega
      refine x_joinL (ys := ys) (SqL.of sat_at) (by rw [sum_sg hg]; show ys.length + ys.length * 0 ≤ _; omega) ?_
      have hw := join_nm hg hl8.1 hl8.2
      walk_at "sx"
      rw [List.length_map]
      refine x_orD (fun c => ?_) (fun c => ?_)
      · walk_at "sx"
        exact k _ _ (n + 1 + (1 + r).toNat) hw (by walk_at "pk") (by omega) pick
      · walk_at "sx"
        refine take_S (by decide) (by decide) (by omega) fun r2 H4 g0 g1 pk4 S4 => ?_
        clear S2
        walk_at "sx"
        refine x_ifD (fun _ => ?_) (fun _ => ?_)
        · walk_at "sx"
          exact k _ _ (n + 1 + (1 + r).toNat + 1) hw (by walk_at "pk") (by omega) pick
        · obtain ⟨z0, rest, rfl⟩ : ∃ z0 rest, ns = z0 :: rest := by
            cases ns with
            | nil => exact absurd rfl c
            | cons z r => exact ⟨z, r, rfl⟩
          have hz0 := hns z0 List.mem_cons_self
          have p0 := hz0.pos
          have p1 := hz0.len
          have hzz : z0.length ≤ sizeLine := by rw [sizeLine_eq]; omega
          walk_at "sx"
          refine x_lenS hzz ?_
          walk_at "sx"
          refine take_S (by omega) (by omega) (by omega) fun r3 H5 q0 q1 pk5 S5 => ?_
          clear S4
          obtain ⟨k2, rfl⟩ : ∃ k2 : Nat, r3 = (k2 : Int) := ⟨r3.toNat, by omega⟩
          walk_at "sx"
          refine ⟨z0, rfl, hzz, ?_⟩
          walk_at "sx"
          refine take_S (by decide) (by decide) (by omega) fun r4 H6 u0 u1 pk6 S6 => ?_
          clear S5
          walk_at "sx"
          obtain ⟨c4, hc4, d1, d2⟩ := letter_at u0 u1
          refine ⟨letters, r4, c4, rfl, rfl, letters_len, hc4, ?_⟩
          have hN := swap_nm hz0 (k := k2) (by omega) d1 d2
          have ll : ∀ z : Str, z.length = z.cps.toList.length := fun z => by simp [PySem.Str.length]
          have l1 : (cutS z0 none (some (k2 : Int))).length ≤ 8 := by
            rw [ll, cutS_to, List.length_take, ← ll]; omega
          have l2 : (cutS z0 (some ((k2 + 1 : Nat) : Int)) none).length ≤ 8 := by
            rw [ll, cutS_from, List.length_drop, ← ll]; omega
          have l3 : (cutS z0 none (some (k2 : Int)) ++ (⟨#[c4]⟩ : Str)).length ≤ 9 := by
            rw [ll, cps_app, List.length_append, ← ll, List.length_singleton]; omega
          walk_at "sx"
          refine x_addS (by show (cutS z0 none (some (k2 : Int))).length + 1 ≤ _; rw [sizeLine_eq]; omega) ?_
          walk_at "sx"
          refine ⟨z0, rfl, hzz, ?_⟩
          walk_at "sx"
          refine x_addS (by rw [sizeLine_eq]; exact Nat.le_trans (Nat.add_le_add l3 l2) (by omega)) ?_
          exact k _ _ (n + 1 + (1 + r).toNat + 3) hN (by walk_at "pk") (by omega) pick
end

/-! ### many names; one more of each kind -/
abbrev s__law_many_names : Stmt := top 73
abbrev N__law_many_names : List Str := ["_law_box_here", "_law_many", "_law_letters", "_law_at"]
theorem sc__law_many_names : FnScope N__law_many_names ["_law_box_here", "_law_many"] (defScope s__law_many_names) := ⟨rfl, rfl, rfl, by decide +kernel, rfl, by decide +kernel, by decide +kernel⟩

/-- the i-th of many names -/
structure MN (i : Nat) (z : Str) : Prop where
  ex : ∃ tl : List Nat, z.cps.toList = (97 + i % 26) :: (97 + i / 26) :: tl ∧ 1 ≤ tl.length ∧ tl.length ≤ 6 ∧ ∀ c ∈ tl, 97 ≤ c ∧ c ≤ 122
theorem inL_of {c : Nat} (h1 : 97 ≤ c) (h2 : c ≤ 122) : inL c = true := by
  have h : ∀ k : Fin 26, inL (97 + k.val) = true := by decide +kernel
  have := h ⟨c - 97, by omega⟩
  rwa [show 97 + (c - 97) = c by omega] at this
theorem str_len (z : Str) : z.length = z.cps.toList.length := by simp [PySem.Str.length]
theorem MN.isN {i : Nat} {z : Str} (h : MN i z) (hi : i < 600) : isN z = true := by
  obtain ⟨tl, e, t1, t2, t3⟩ := h.ex
  unfold Law.isN
  rw [str_len, e, List.length_cons, List.length_cons, decide_eq_true (by omega), decide_eq_true (by omega), Bool.true_and, Bool.true_and]
  refine List.all_eq_true.mpr fun c hc => ?_
  rcases List.mem_cons.mp hc with rfl | hc
  · exact inL_of (by omega) (by omega)
  · rcases List.mem_cons.mp hc with rfl | hc
    · exact inL_of (by omega) (by omega)
    · exact inL_of (t3 c hc).1 (t3 c hc).2
theorem MN.len {i : Nat} {z : Str} (h : MN i z) : z.length ≤ 8 := by
  obtain ⟨tl, e, t1, t2, t3⟩ := h.ex
  rw [str_len, e, List.length_cons, List.length_cons]
  omega
theorem MN.inj {i j : Nat} {z : Str} (h : MN i z) (g : MN j z) : i = j := by
  obtain ⟨tl, e, _⟩ := h.ex
  obtain ⟨tl2, e2, _⟩ := g.ex
  rw [e] at e2
  injection e2 with a b
  injection b with c d
  have := Nat.div_add_mod i 26
  have := Nat.div_add_mod j 26
  omega
def spMany : Sp := fun vs H Q _ => ∃ (b : Addr) (n k : Nat) (Rs : List Res), vs = [.ref b, .int (k : Int)] ∧ Sat H (boxR b n :: Rs) ∧ n ≤ 2 ^ 40 ∧ k ≤ 100 ∧
  ∀ (p : Addr) (ws : List Str) (H' : Hp) (m : Nat), ws.length = k → (∀ i z, ws[i]? = some z → MN i z) → PK H H' → m ≤ n + 12 * k → Sat H' (cell p (.lst (ws.map V.str)) :: boxR b m :: Rs) → Q (.ref p) H'
theorem letter_n {i : Nat} (h : i < 26) : atI letters.cps.toList (i : Int) = some (97 + i) := by
  have h1 : ∀ k : Fin 26, letters.cps.toList[k.val]? = some (97 + k.val) := by decide +kernel
  have hl : letters.cps.toList.length = 26 := by decide +kernel
  unfold atI ixN
  rw [hl, if_pos (by omega), if_pos (by omega)]
  exact h1 ⟨i, h⟩
theorem mn_of {i : Nat} {z : Str} (h : Nm z) : MN i ((⟨#[97 + i % 26]⟩ : Str) ++ (⟨#[97 + i / 26]⟩ : Str) ++ cutS z none (some 6)) := by
  obtain ⟨l1, l2, l3⟩ := h.list
  refine ⟨z.cps.toList.take 6, ?_, ?_, ?_, fun c hc => l3 c (List.mem_of_mem_take hc)⟩
  · rw [cps_app, cps_app, show (cutS z none (some 6)).cps.toList = z.cps.toList.take 6 from cutS_to (k := 6)]
    rfl
  · rw [List.length_take]; omega
  · rw [List.length_take]; omega
section
variable {P : Program} {w : World} {K : PySem.W.Frag} {mg : Str → Option Value} {base : Heap}
theorem D_many (T : Txt K mg) (D__law_named : Dn P w K mg base CX0 3 "_law_named" ["_law_box_here", "_law_alike_here"] spNamed) (F : Df K mg "_law_many_names" s__law_many_names) : Dn P w K mg base CX0 4 "_law_many_names" ["_law_box_here", "_law_many"] spMany := by
  refine F.dn sc__law_many_names (fun _ _ _ _ _ _ us hl => match us, hl with | [_, _], _ => rfl) (fun vs H Q E h => ?_) (fun f cdv A outer s H vs Q E hr hK h => ?_)
  · obtain ⟨b, n, k0, Rs, rfl, _⟩ := h
    rfl
  · obtain ⟨b, n, k0, Rs, rfl, S, hn, hk, k⟩ := h
    refine ⟨_, (pss_cons (ps_set (i := 2) sc__law_many_names.nd rfl (Or.inr rfl) pe_str)
      (pss_one (ps_ret (pe_lc (own := [("_law_at", 3)]) (g := gName 3) (tt := tYes) rfl sc__law_many_names.nd (pi_range1 rfl T.m_range (pa_cons (pv 1) pa_nil)) (blkOk_by (own := [("_law_at", 3)]) (N := N__law_many_names) (sc := defScope s__law_many_names) (by decide +kernel)) (fun _ _ _ _ _ => pg_name (i := 3) sc__law_many_names.nd rfl (Or.inl rfl)) (fun _ _ _ _ _ => pts_nil) (fun _ _ _ _ _ => (pe_op op_addS (pe_op op_addS (pe_ix ix_str (pv 2) (pe_op op_mod (pv 3) pe_int) (fun _ _ => rfl)) (pe_ix ix_str (pv 2) (pe_op op_fdivW (pv 3) pe_int) (fun _ _ => rfl))) (pe_slice sl_str (pe_dn D__law_named (hr.mono (by first | decide | omega)) pass0 (pa_cons (pv 0) (pa_cons (pe_lst pa_nil) pa_nil))) po_none (po_some pe_int)))))))), ?_⟩
    try rw [hK]
    rw [show L2.start N__law_many_names [.ref b, .int (k0 : Int)] = [some (.ref b), some (.int (k0 : Int)), none, none] from rfl]
    walk_at "sx"
    refine x_iRQ (by omega) (by omega) ?_
    rw [Int.toNat_natCast]
    refine x_lcQ walk_r0 (fun D i H' => PK H H' ∧ ∃ (ws : List Str) (m : Nat), ws.length = i ∧ (∀ i z, ws[i]? = some z → MN i z) ∧ m ≤ n + 12 * i ∧ Sat H' (cell D (.lst (ws.map V.str)) :: boxR b m :: Rs)) (fun D hD => ⟨PK.of_ex (Ex.new hD), [], n, rfl, fun i z h => by simp at h, by omega, S.new hD⟩) (fun _ _ _ _ _ => trivial) (fun D i x H2 H3 hi h y => ?_) (fun D H2 h => ?_)
    · obtain ⟨pk2, ws, m, hl, hw, hm, S2⟩ := h
      obtain ⟨rfl, rfl⟩ := y
      clear S
      walk_at "sx"
      refine ⟨letters, (i : Int) % 26, 97 + i % 26, rfl, rfl, letters_len, by rw [show (i : Int) % 26 = ((i % 26 : Nat) : Int) by omega]; exact letter_n (by omega), ?_⟩
      walk_at "sx"
      refine ⟨letters, (i : Int) / 26, 97 + i / 26, rfl, rfl, letters_len, by rw [show (i : Int) / 26 = ((i / 26 : Nat) : Int) by omega]; exact letter_n (by omega), ?_⟩
      walk_at "sx"
      refine x_addS (by show 1 + 1 ≤ _; rw [sizeLine_eq]; decide) ?_
      walk_at "sx"
      rename_i p4 H4 pk4 S4
      clear S2
      have S5 : Sat H4 (boxR b m :: cell p4 (.lst (([] : List Str).map V.str)) :: cell D (.lst (ws.map V.str)) :: Rs) := (show Sat H4 (boxR b m :: cell p4 (.lst []) :: cell D (.lst (ws.map V.str)) :: Rs) from S4.pick)
      clear S4
      refine ⟨b, p4, m, [], _, rfl, S5, by omega, fun z hz => by simp at hz, fun z H6 m2 hz pk6 hm6 S6 => ?_⟩
      clear S5
      have z8 := hz.len
      walk_at "sx"
      refine ⟨z, rfl, by rw [sizeLine_eq]; omega, ?_⟩
      walk_at "sx"
      have l2 : (cutS z none (some 6)).length ≤ 8 := by
        rw [str_len, show (cutS z none (some 6)).cps.toList = z.cps.toList.take 6 from cutS_to (k := 6), List.length_take]
        omega
      refine x_addS (by show 2 + (cutS z none (some 6)).length ≤ _; rw [sizeLine_eq]; omega) ?_
      refine x_eltS (by rw [List.length_map, sizeLine_eq]; omega) fun H7 pk7 S7 => ?_
      refine ⟨pk2.trans (pk4.trans (pk6.trans pk7)), ws ++ [(⟨#[97 + i % 26]⟩ : Str) ++ (⟨#[97 + i / 26]⟩ : Str) ++ cutS z none (some 6)], m2, by rw [List.length_append, hl]; rfl, fun j y hy => ?_, by omega, ?_⟩
      rotate_left
      · rw [List.map_append]
        show Sat H7 (cell D (.lst (ws.map V.str ++ [.str ((⟨#[97 + i % 26]⟩ : Str) ++ (⟨#[97 + i / 26]⟩ : Str) ++ cutS z none (some 6))])) :: boxR b m2 :: Rs)
        exact S7.pick
      · by_cases c : j < ws.length
        · rw [List.getElem?_append_left c] at hy
          exact hw j y hy
        · rw [List.getElem?_append_right (by omega)] at hy
          have h1 : j - ws.length < 1 := (List.getElem?_eq_some_iff.mp hy).1
          have h2 : j = i := by omega
          subst h2
          rw [show j - ws.length = 0 by omega] at hy
          cases hy
          exact mn_of hz
    · obtain ⟨pk2, ws, m, hl, hw, hm, S2⟩ := h
      exact k D ws _ m hl hw pk2 hm S2
end
/-- the names drawn -/
structure MNs (ws : List Str) (k : Nat) : Prop where
  len : ws.length = k
  mn : ∀ i z, ws[i]? = some z → MN i z
theorem MNs.nodup {ws : List Str} {k : Nat} (h : MNs ws k) : ws.Nodup := by
  refine List.pairwise_iff_getElem.mpr fun i j hi hj hij e => ?_
  have a := h.mn i _ (List.getElem?_eq_getElem hi)
  have b := h.mn j _ (List.getElem?_eq_getElem hj)
  rw [e] at a
  have := a.inj b
  omega
theorem MNs.isN {ws : List Str} {k : Nat} (h : MNs ws k) (hk : k ≤ 100) {z : Str} (hz : z ∈ ws) : isN z = true := by
  obtain ⟨i, hi⟩ := List.getElem?_of_mem hz
  have := (List.getElem?_eq_some_iff.mp hi).1
  rw [h.len] at this
  exact (h.mn i z hi).isN (by omega)
theorem MNs.ne {ws : List Str} {k : Nat} (h : MNs ws k) {z : Str} (hz : z ∈ ws) : z ≠ "" := by
  obtain ⟨i, hi⟩ := List.getElem?_of_mem hz
  obtain ⟨tl, e, _⟩ := (h.mn i z hi).ex
  rintro rfl
  cases e

/-! ### plain parts -/
theorem findM_other {ms : Crew} {n k : Str} {m' : MSt} (h : k ≠ n) : findM (setM ms n m') k = findM ms k := by
  induction ms with
  | nil => rfl
  | cons a r ih =>
    obtain ⟨j, m⟩ := a
    unfold setM
    by_cases c : j = n
    · rw [if_pos c]
      have ne : ¬ j = k := fun e => h (e.symm.trans c)
      show (if j = k then some m' else findM r k) = (if j = k then some m else findM r k)
      rw [if_neg ne, if_neg ne]
    · rw [if_neg c]
      unfold findM
      rw [ih]
theorem runD_app (l r : Told) (ms : Crew) : runD (l ++ r) ms = (runD l ms).bind (runD r) := by
  induction l generalizing ms with
  | nil => rfl
  | cons t l ih =>
    show (fallC t.2.1 t.2.2 ms).bind (runD (l ++ r)) = ((fallC t.2.1 t.2.2 ms).bind (runD l)).bind (runD r)
    cases fallC t.2.1 t.2.2 ms with
    | none => rfl
    | some ms1 => exact ih ms1
theorem find_crew0 : ∀ (F : FolkL) (n : Str) (m : MSt), findM (crew0 F) n = some m → ∃ f ∈ F, f.1 = n ∧ m = man0 f.2.1 f.2.2
  | [], _, _, e => by cases e
  | f :: r, n, m, e => by
    have e : (if f.1 = n then some (man0 f.2.1 f.2.2) else findM (crew0 r) n) = some m := e
    by_cases c : f.1 = n
    · rw [if_pos c] at e
      cases e
      exact ⟨f, List.mem_cons_self, c, rfl⟩
    · rw [if_neg c] at e
      obtain ⟨g, h1, h2⟩ := find_crew0 r n m e
      exact ⟨g, List.mem_cons_of_mem _ h1, h2⟩
theorem find_some : ∀ {F : FolkL} {n : Str}, n ∈ F.map (fun f => f.1) → (findM (crew0 F) n).isSome = true
  | [], _, h => by simp at h
  | f :: r, n, h => by
    show (if f.1 = n then some (man0 f.2.1 f.2.2) else findM (crew0 r) n).isSome = true
    by_cases c : f.1 = n
    · rw [if_pos c]; rfl
    · rw [if_neg c]
      rw [List.map_cons] at h
      rcases List.mem_cons.mp h with h | h
      · exact absurd h.symm c
      · exact find_some h
def sidesK (ns : List Str) : KDs := ns.map fun z => (Sum.inr z, .bool true)
theorem sidesK_has {zs : List Str} {n : Str} : hasD (sidesK zs) (.inr n) = true ↔ n ∈ zs := by
  unfold hasD sidesK
  rw [List.any_map, List.any_eq_true]
  constructor
  · rintro ⟨z, hz, e⟩
    have e : (Sum.inr z : Key) = Sum.inr n := of_decide_eq_true e
    rw [← Sum.inr.inj e]
    exact hz
  · exact fun h => ⟨n, h, decide_eq_true rfl⟩
theorem folkD_has {F : FolkL} {n : Str} : hasD (folkD F) (.inr n) = true ↔ n ∈ F.map fun f => f.1 := by
  unfold hasD folkD
  rw [List.any_map, List.any_eq_true, List.mem_map]
  constructor
  · rintro ⟨f, hf, e⟩
    have e : (Sum.inr f.1 : Key) = Sum.inr n := of_decide_eq_true e
    exact ⟨f, hf, Sum.inr.inj e⟩
  · rintro ⟨f, hf, rfl⟩
    exact ⟨f, hf, decide_eq_true rfl⟩
theorem putD_new {kds : KDs} {k : Key} {d : PyData} (h : hasD kds k = false) : putD kds k d = kds ++ [(k, d)] := by
  unfold putD
  rw [h, if_neg Bool.false_ne_true]

/-! ### the law's rows, plainly -/
theorem lt_of_le_ne {a b : List Nat} (h : a ≤ b) (n : a ≠ b) : a < b := by
  rcases List.le_iff_lt_or_eq.mp h with h | h
  · exact h
  · exact absurd h n
/-- names, each behind the one ahead -/
structure Rise (zs : List Str) : Prop where
  up : zs.Pairwise fun a b => a.cps.toList < b.cps.toList
  nm : ∀ z ∈ zs, isN z = true
theorem Rise.of {zs ys : List Str} (p : zs.Perm ys) (s : sortedS zs = true) (nd : ys.Nodup) (h : ∀ z ∈ ys, isN z = true) : Rise zs := by
  refine ⟨?_, fun z hz => h z (p.mem_iff.mp hz)⟩
  have pw : zs.Pairwise fun a b => a.cps.toList ≤ b.cps.toList := by
    cases zs with
    | nil => exact .nil
    | cons x r => exact rising_pw x r s
  have nz : zs.Nodup := p.nodup_iff.mpr nd
  exact (pw.and nz).imp fun h => lt_of_le_ne h.1 fun e => h.2 (cps_inj e)
theorem isN_len {z : Str} (h : isN z = true) : 1 ≤ z.length ∧ z.length ≤ 8 := by
  unfold isN at h
  rw [Bool.and_eq_true, Bool.and_eq_true] at h
  exact ⟨of_decide_eq_true h.2.1, of_decide_eq_true h.1⟩
theorem isN_ch {z : Str} (h : isN z = true) : ∀ c ∈ z.cps.toList, 97 ≤ c ∧ c ≤ 122 := by
  unfold isN at h
  rw [Bool.and_eq_true, Bool.and_eq_true] at h
  intro c hc
  have := of_decide_eq_true (List.all_eq_true.mp h.2.2 c hc)
  have k : ∀ c ∈ letters.cps.toList, 97 ≤ c ∧ c ≤ 122 := by decide +kernel
  exact k c this
theorem isN_nob {z : Str} (h : isN z = true) : nob z := fun q => by
  have := isN_ch h _ q
  omega
theorem isN_strOk {z : Str} (h : isN z = true) : PyData.strOk z = true := by
  show z.cps.all (fun c => decide (c < 0x110000)) = true
  rw [← Array.all_toList]
  refine List.all_eq_true.mpr fun c hc => decide_eq_true ?_
  have := isN_ch h c hc
  omega
theorem isN_word {z : Str} (h : isN z = true) : wordOk z := ⟨(isN_len h).1, by have := (isN_len h).2; omega, isN_nob h⟩
inductive Go : Rd → List Item → Rd → Prop
  | nil {S : Rd} : Go S [] S
  | cons {S S' : Rd} {it : Item} {r : List Item} (h : RowIn S it) (g : rowGo S it = "") (t : Go (S.step it) r S') : Go S (it :: r) S'
theorem Go.rds {S S' : Rd} {A : List Item} (g : Go S A S') : ∀ {i : Nat} {B : List Item} {o : Nat ⊕ Rd}, Rds (i + A.length) S' B o → Rds i S (A ++ B) o := by
  induction g with
  | nil => intro i B o h; exact h
  | @cons S S' it r h g t ih =>
    intro i B o hB
    refine .ok h g (ih ?_)
    rw [List.length_cons] at hB
    rwa [show i + 1 + r.length = i + (r.length + 1) by omega]
theorem Go.app {S S1 S2 : Rd} {A B : List Item} (a : Go S A S1) (b : Go S1 B S2) : Go S (A ++ B) S2 := by
  induction a with
  | nil => exact b
  | cons h g t ih => exact .cons h g (ih b)
def lastP (A : List Str) : Pl := match A.getLast? with
  | none => .non
  | some z => .one z
theorem lastP_snoc (A : List Str) (z : Str) : lastP (A ++ [z]) = .one z := by
  unfold lastP
  rw [List.getLast?_append]
  rfl
theorem lastP_lt {A B : List Str} {z : Str} (h : Rise (A ++ z :: B)) : Pl.lt (lastP A) (.one z) ∧ (lastP A).ok := by
  unfold lastP
  cases e : A.getLast? with
  | none => exact ⟨trivial, trivial⟩
  | some u =>
    have hu : u ∈ A := List.mem_of_getLast? e
    exact ⟨(List.pairwise_append.mp h.up).2.2 u hu z List.mem_cons_self, isN_strOk (h.nm u (List.mem_append_left _ hu))⟩
theorem rise_new {A B : List Str} {z : Str} (h : Rise (A ++ z :: B)) : z ∉ A := fun hm => by
  have := (List.pairwise_append.mp h.up).2.2 z hm z List.mem_cons_self
  exact absurd this (List.lt_irrefl _)
theorem jn_small {ws : List Str} (hl : ws.length ≤ 10) (h : ∀ z ∈ ws, z.length ≤ 100) : (jn ws).length ≤ 10000 := by
  have h1 := jn_len ws
  have h2 : ∀ l : List Str, (∀ z ∈ l, z.length ≤ 100) → (l.map (·.length)).sum ≤ 100 * l.length := by
    intro l
    induction l with
    | nil => intro _; exact Nat.le_refl _
    | cons a r ih =>
      intro h
      have := h a List.mem_cons_self
      have := ih fun z hz => h z (List.mem_cons_of_mem _ hz)
      rw [List.map_cons, List.sum_cons, List.length_cons]
      omega
  have := h2 ws h
  omega
/-! sides -/
def Sd (A : List Str) (past : List BSt) : Rd := ⟨sidesK A, [], [], [], 1, past, 0, lastP A, 0⟩
theorem side_in {A B : List Str} {z : Str} {past : List BSt} (h : Rise (A ++ z :: B)) (hA : A.length ≤ 6) (hp : past.length ≤ 500) : RowIn (Sd A past) (.side z) := by
  have hz := h.nm z (List.mem_append_right _ List.mem_cons_self)
  have hl := isN_len hz
  refine ⟨Int.le_refl _, (by decide : (0 : Int) ≠ 4), by show past.length < 1000; omega, ?_, ?_, jn_small (by show (2 : Nat) ≤ 10; decide) ?_⟩
  · refine ⟨by omega, ?_, (lastP_lt h).2, fun _ => (lastP_lt h).1⟩
    show (sidesK A).length < 1000
    unfold sidesK
    rw [List.length_map]
    omega
  · exact List.forall_mem_cons.mpr ⟨by unfold nob; decide +kernel, List.forall_mem_cons.mpr ⟨isN_nob hz, fun _ h => nomatch h⟩⟩
  · exact List.forall_mem_cons.mpr ⟨Nat.le_of_ble_eq_true rfl, List.forall_mem_cons.mpr ⟨by omega, fun _ h => nomatch h⟩⟩
theorem side_out {A B : List Str} {z : Str} {past : List BSt} (h : Rise (A ++ z :: B)) : rowGo (Sd A past) (.side z) = (if 6 ≤ A.length then ("Full" : Str) else ("" : Str)) := by
  show sideOut (Sd A past).st z = _
  unfold sideOut
  have hh : hasD (Sd A past).st.sides (.inr z) = false := by
    cases e : hasD (Sd A past).st.sides (.inr z) with
    | false => rfl
    | true => exact absurd (sidesK_has.mp e) (rise_new h)
  rw [if_pos (h.nm z (List.mem_append_right _ List.mem_cons_self)), hh, if_neg Bool.false_ne_true]
  show (if 6 ≤ (sidesK A).length then _ else _) = _
  unfold sidesK
  rw [List.length_map]
theorem side_step {A B : List Str} {z : Str} {past : List BSt} (h : Rise (A ++ z :: B)) : ∃ q, (Sd A past).step (.side z) = Sd (A ++ [z]) (past ++ [q]) := by
  refine ⟨(Sd A past).st, ?_⟩
  have hh : hasD (sidesK A) (.inr z) = false := by
    cases e : hasD (sidesK A) (.inr z) with
    | false => rfl
    | true => exact absurd (sidesK_has.mp e) (rise_new h)
  show (⟨putD (sidesK A) (.inr z) (.bool true), [], [], [], 1, past ++ [(Sd A past).st], 0, .one z, 0⟩ : Rd) = ⟨sidesK (A ++ [z]), [], [], [], 1, past ++ [(Sd A past).st], 0, lastP (A ++ [z]), 0⟩
  rw [putD_new hh, lastP_snoc]
  unfold sidesK
  rw [List.map_append]
  rfl
theorem sides_go : ∀ (B A : List Str) (past : List BSt), Rise (A ++ B) → (A ++ B).length ≤ 6 → past.length + B.length ≤ 300 → ∃ past', past'.length = past.length + B.length ∧ Go (Sd A past) (B.map .side) (Sd (A ++ B) past')
  | [], A, past, _, _, _ => ⟨past, rfl, by rw [List.append_nil]; exact .nil⟩
  | z :: B, A, past, h, hl, hp => by
    have h6 : A.length < 6 := by rw [List.length_append, List.length_cons] at hl; omega
    obtain ⟨q, e⟩ := side_step (past := past) h
    have e2 : A ++ z :: B = A ++ [z] ++ B := by simp
    rw [List.length_cons] at hp
    obtain ⟨past', h1, h2⟩ := sides_go B (A ++ [z]) (past ++ [q]) (by rw [← e2]; exact h) (by rw [← e2]; exact hl) (by rw [List.length_append, List.length_singleton]; omega)
    refine ⟨past', by rw [h1, List.length_append, List.length_singleton, List.length_cons]; omega, ?_⟩
    rw [e2]
    refine .cons (side_in h (by omega) (by omega)) (by rw [side_out h, if_neg (by omega)]) ?_
    rw [e]
    exact h2
/-! men -/
def manF (s0 : Str) (A : List Str) : FolkL := A.map fun m => (m, s0, 3)
theorem manF_names (s0 : Str) (A : List Str) : (manF s0 A).map (fun f => f.1) = A := by
  unfold manF
  rw [List.map_map]
  exact List.map_id' A
def Md (ss : List Str) (s0 : Str) (A : List Str) (past : List BSt) (kd : Int) (l : Pl) : Rd := ⟨sidesK ss, manF s0 A, [], [], 1, past, kd, l, 0⟩
def manI (s0 : Str) (m : Str) : Item := .man m s0 3
/-- a reader at the men -/
structure AtM (S : Rd) (ss : List Str) (s0 : Str) (A : List Str) (past : List BSt) : Prop where
  k : S.kind ≤ 1
  e : S.at_ 1 = Md ss s0 A past 1 (lastP A)
  p : S.past = past
theorem Sd.atM {ss : List Str} {s0 : Str} {past : List BSt} : AtM (Sd ss past) ss s0 [] past := ⟨by show (0 : Int) ≤ 1; decide, rfl, rfl⟩
theorem man_in {S : Rd} {ss A B : List Str} {s0 z : Str} {past : List BSt} (a : AtM S ss s0 A past) (h : Rise (A ++ z :: B)) (hs : isN s0 = true) (hA : A.length ≤ 40) (hp : past.length ≤ 500) : RowIn S (manI s0 z) := by
  have hz := h.nm z (List.mem_append_right _ List.mem_cons_self)
  have hl := isN_len hz
  have hl0 := isN_len hs
  refine ⟨a.k, fun c => by have := a.k; omega, by rw [a.p]; omega, ?_, ?_, jn_small (by show (4 : Nat) ≤ 10; decide) ?_⟩
  · show NamedIn (S.at_ 1) (.man z s0 3)
    rw [a.e]
    refine ⟨by omega, ?_, (lastP_lt h).2, by decide, by decide, fun _ => (lastP_lt h).1⟩
    show (manF s0 A).length < 1000
    unfold manF
    rw [List.length_map]
    omega
  · exact List.forall_mem_cons.mpr ⟨by unfold nob; decide +kernel, List.forall_mem_cons.mpr ⟨isN_nob hz, List.forall_mem_cons.mpr ⟨isN_nob hs, List.forall_mem_cons.mpr ⟨nt_nob 3, fun _ h => nomatch h⟩⟩⟩⟩
  · exact List.forall_mem_cons.mpr ⟨Nat.le_of_ble_eq_true rfl, List.forall_mem_cons.mpr ⟨by omega, List.forall_mem_cons.mpr ⟨by omega, List.forall_mem_cons.mpr ⟨Nat.le_trans (nt_len (i := 3) (by decide) (by decide)) (by decide), fun _ h => nomatch h⟩⟩⟩⟩
theorem man_out {S : Rd} {ss A B : List Str} {s0 z : Str} {past : List BSt} (a : AtM S ss s0 A past) (h : Rise (A ++ z :: B)) (hs : s0 ∈ ss) : rowGo S (manI s0 z) = (if 40 ≤ A.length then ("Full" : Str) else ("" : Str)) := by
  show manOut (S.at_ 1).st z s0 3 = _
  rw [a.e]
  have hh : hasD (folkD (manF s0 A)) (.inr z) = false := by
    cases e : hasD (folkD (manF s0 A)) (.inr z) with
    | false => rfl
    | true =>
      have := folkD_has.mp e
      rw [manF_names] at this
      exact absurd this (rise_new h)
  unfold manOut
  show (if isN z = true then (if hasD (folkD (manF s0 A)) (.inr z) = true then _ else if hasD (sidesK ss) (.inr s0) = true then (if (0 : Int) ≤ 3 ∧ (3 : Int) < 6 then (if 40 ≤ (folkD (manF s0 A)).length then _ else _) else _) else _) else _) = _
  rw [if_pos (h.nm z (List.mem_append_right _ List.mem_cons_self)), hh, if_neg Bool.false_ne_true, if_pos (sidesK_has.mpr hs), if_pos (by decide)]
  unfold folkD manF
  rw [List.length_map, List.length_map]
theorem man_step {S : Rd} {ss A B : List Str} {s0 z : Str} {past : List BSt} (a : AtM S ss s0 A past) : ∃ q, AtM (S.step (manI s0 z)) ss s0 (A ++ [z]) (past ++ [q]) := by
  have e : S.step (manI s0 z) = Md ss s0 (A ++ [z]) (past ++ [(Md ss s0 A past 1 (lastP A)).st]) 1 (.one z) := by
    show (S.at_ 1).named (.man z s0 3) = _
    rw [a.e]
    show (⟨sidesK ss, manF s0 A ++ [(z, s0, 3)], [], [], 1, past ++ [(Md ss s0 A past 1 (lastP A)).st], 1, .one z, 0⟩ : Rd) = _
    unfold Md manF
    rw [List.map_append]
    rfl
  refine ⟨(Md ss s0 A past 1 (lastP A)).st, ?_⟩
  rw [e]
  refine ⟨Int.le_refl _, ?_, rfl⟩
  rw [lastP_snoc]
  rfl
theorem men_go {ss : List Str} {s0 : Str} (hs : s0 ∈ ss) (hn : isN s0 = true) : ∀ (B A : List Str) (S : Rd) (past : List BSt), AtM S ss s0 A past → Rise (A ++ B) → (A ++ B).length ≤ 40 → past.length + B.length ≤ 300 → ∃ S' past', AtM S' ss s0 (A ++ B) past' ∧ past'.length = past.length + B.length ∧ Go S (B.map (manI s0)) S'
  | [], A, S, past, a, _, _, _ => ⟨S, past, by rw [List.append_nil]; exact a, rfl, .nil⟩
  | z :: B, A, S, past, a, h, hl, hp => by
    have h6 : A.length < 40 := by rw [List.length_append, List.length_cons] at hl; omega
    obtain ⟨q, a2⟩ := man_step (B := B) (z := z) a
    have e2 : A ++ z :: B = A ++ [z] ++ B := by simp
    rw [List.length_cons] at hp
    obtain ⟨S', past', h0, h1, h2⟩ := men_go hs hn B (A ++ [z]) (S.step (manI s0 z)) (past ++ [q]) a2 (by rw [← e2]; exact h) (by rw [← e2]; exact hl) (by rw [List.length_append, List.length_singleton]; omega)
    refine ⟨S', past', by rw [e2]; exact h0, by rw [h1, List.length_append, List.length_singleton, List.length_cons]; omega, ?_⟩
    exact .cons (man_in a h hn (by omega) (by omega)) (by rw [man_out a h hs, if_neg (by omega)]) h2
/-! deeds -/
def nthS (l : List Str) (i : Nat) : Str := l.getD i ""
def dl (ss ms : List Str) (base high : Int) (i : Nat) : Int × Int × Deed := ((i : Int) + 1 + high, base + (i : Int), if i / 3 % 2 = 1 then .free (nthS ms (i % 3)) else .take (nthS ms (i % 3)) (nthS ss 1))
def tl (ss ms : List Str) (base high : Int) (k : Nat) : Told := (List.range k).map (dl ss ms base high)
theorem tl_succ (ss ms : List Str) (base high : Int) (k : Nat) : tl ss ms base high (k + 1) = tl ss ms base high k ++ [dl ss ms base high k] := by
  unfold tl
  rw [List.range_succ, List.map_append]
  rfl
theorem tl_nums (ss ms : List Str) (base high : Int) (k : Nat) : ((tl ss ms base high k).map fun t => t.1).Nodup := by
  unfold tl
  rw [List.map_map]
  refine List.Pairwise.map _ (R := fun a b : Nat => a < b) (fun a b h => ?_) (List.pairwise_lt_range ..)
  show ¬ ((a : Int) + 1 + high = (b : Int) + 1 + high)
  omega
theorem tl_ord (ss ms : List Str) (base high : Int) (k : Nat) : (tl ss ms base high k).Pairwise fun a b => a.2.1 < b.2.1 := by
  unfold tl
  refine List.Pairwise.map _ (R := fun a b : Nat => a < b) (fun a b h => ?_) (List.pairwise_lt_range ..)
  show base + (a : Int) < base + (b : Int)
  omega
/-- told in rising days: there is one order alone -/
theorem ord_uniq {T T' : Told} (p : T'.Perm T) (o : inOrd T') (h : T.Pairwise fun a b => a.2.1 < b.2.1) : T' = T := by
  have hle : T.Pairwise fun a b => a.2.1 ≤ b.2.1 := h.imp fun q => by omega
  have ole : T'.Pairwise fun a b => a.2.1 ≤ b.2.1 := o.imp fun {s t} q => by
    unfold SrtO.lexB at q
    split at q
    · next c => exact Int.le_of_eq c.symm
    · have := of_decide_eq_false q
      have this : ¬ t.2.1 < s.2.1 := this
      omega
  refine List.Perm.eq_of_pairwise (fun a b ha hb h1 h2 => ?_) ole hle p
  have hb2 : b ∈ T := hb
  have ha2 : a ∈ T := p.mem_iff.mp ha
  obtain ⟨i, hi⟩ := List.getElem?_of_mem ha2
  obtain ⟨j, hj⟩ := List.getElem?_of_mem hb2
  obtain ⟨li, ei⟩ := List.getElem?_eq_some_iff.mp hi
  obtain ⟨lj, ej⟩ := List.getElem?_eq_some_iff.mp hj
  have hp := List.pairwise_iff_getElem.mp h
  rcases Nat.lt_trichotomy i j with c | c | c
  · have := hp i j li lj c
    rw [ei, ej] at this
    omega
  · subst c
    rw [hi] at hj
    exact Option.some.inj hj
  · have := hp j i lj li c
    rw [ei, ej] at this
    omega
/-- the crew behind k deeds -/
def CInv (s0 s1 : Str) (ms : List Str) (k : Nat) (c : Crew) : Prop := ∀ j, j < 3 → ∃ m, findM c (nthS ms j) = some m ∧ m.home = s0 ∧ m.dead = false ∧ m.keeper = if (k + 2 - j) / 3 % 2 = 1 then s1 else ""
theorem nth_inj {ms : List Str} (h : Rise ms) (hl : 3 ≤ ms.length) {i j : Nat} (hi : i < 3) (hj : j < 3) (e : nthS ms i = nthS ms j) : i = j := by
  unfold nthS at e
  rw [List.getD_eq_getElem?_getD, List.getD_eq_getElem?_getD, List.getElem?_eq_getElem (by omega : i < ms.length), List.getElem?_eq_getElem (by omega : j < ms.length)] at e
  have e : ms[i] = ms[j] := e
  have hp := List.pairwise_iff_getElem.mp h.up
  rcases Nat.lt_trichotomy i j with c | c | c
  · have := hp i j (by omega) (by omega) c
    rw [e] at this
    exact absurd this (List.lt_irrefl _)
  · exact c
  · have := hp j i (by omega) (by omega) c
    rw [e] at this
    exact absurd this (List.lt_irrefl _)
theorem nth_mem {ms : List Str} {i : Nat} (h : i < ms.length) : nthS ms i ∈ ms := by
  unfold nthS
  rw [List.getD_eq_getElem?_getD, List.getElem?_eq_getElem h]
  exact List.getElem_mem h
theorem run_tl {ss ms : List Str} {base high : Int} {s0 : Str} (hm : Rise ms) (hl : 3 ≤ ms.length) (h01 : s0 ≠ nthS ss 1) (h1 : nthS ss 1 ≠ "") : ∀ k : Nat, ∃ c, runD (tl ss ms base high k) (crew0 (manF s0 ms)) = some c ∧ CInv s0 (nthS ss 1) ms k c
  | 0 => by
    refine ⟨_, rfl, fun j hj => ?_⟩
    have hmem : nthS ms j ∈ (manF s0 ms).map fun f => f.1 := by rw [manF_names]; exact nth_mem (by omega)
    obtain ⟨m, hf⟩ := Option.isSome_iff_exists.mp (find_some hmem)
    obtain ⟨f, hf2, _, rfl⟩ := find_crew0 _ _ _ hf
    unfold manF at hf2
    obtain ⟨z, _, rfl⟩ := List.mem_map.mp hf2
    refine ⟨_, hf, rfl, rfl, ?_⟩
    show ("" : Str) = _
    rw [if_neg (by omega)]
  | k + 1 => by
    obtain ⟨c, h2, h3⟩ := run_tl (base := base) (high := high) hm hl h01 h1 k
    obtain ⟨m, hf, m1, m2, m3⟩ := h3 (k % 3) (Nat.mod_lt _ (by decide))
    have eq : (k + 2 - k % 3) / 3 = k / 3 := by omega
    rw [eq] at m3
    have nxt : ∀ m', fallM (base + (k : Int)) (dl ss ms base high k).2.2 m = some m' → m'.home = s0 → m'.dead = false → m'.keeper = (if k / 3 % 2 = 1 then ("" : Str) else nthS ss 1) → (dl ss ms base high k).2.2.man = nthS ms (k % 3) → ∃ c', runD (tl ss ms base high (k + 1)) (crew0 (manF s0 ms)) = some c' ∧ CInv s0 (nthS ss 1) ms (k + 1) c' := fun m' e a1 a2 a3 en => by
      refine ⟨setM c (nthS ms (k % 3)) m', ?_, fun j hj => ?_⟩
      · rw [tl_succ, runD_app, h2]
        show (fallC (base + (k : Int)) (dl ss ms base high k).2.2 c).bind (runD []) = _
        unfold fallC
        rw [en, hf]
        show ((fallM _ _ m).map _).bind _ = _
        rw [e]
        rfl
      · by_cases cj : j = k % 3
        · subst cj
          refine ⟨m', findM_set _ _ _ (by rw [hf]; rfl), a1, a2, ?_⟩
          rw [a3]
          by_cases cp : k / 3 % 2 = 1
          · rw [if_pos cp, if_neg (by omega)]
          · rw [if_neg cp, if_pos (by omega)]
        · obtain ⟨u, u1, u2, u3, u4⟩ := h3 j hj
          refine ⟨u, ?_, u2, u3, ?_⟩
          · rw [findM_other fun e => cj (nth_inj hm hl hj (Nat.mod_lt _ (by decide)) e)]
            exact u1
          · rw [u4, show (k + 1 + 2 - j) / 3 = (k + 2 - j) / 3 by omega]
    by_cases cp : k / 3 % 2 = 1
    · have ed : (dl ss ms base high k).2.2 = .free (nthS ms (k % 3)) := if_pos cp
      rw [if_pos cp] at m3
      refine nxt { m with keeper := "" } ?_ m1 m2 (by rw [if_pos cp]) (by rw [ed]; rfl)
      rw [ed]
      exact if_pos ⟨m2, by rw [m3]; exact h1⟩
    · have ed : (dl ss ms base high k).2.2 = .take (nthS ms (k % 3)) (nthS ss 1) := if_neg cp
      rw [if_neg cp] at m3
      refine nxt { m with keeper := nthS ss 1, caught := base + (k : Int), bonds := dropD m.bonds (.inr (nthS ss 1)) } ?_ m1 m2 (by rw [if_neg cp]) (by rw [ed]; rfl)
      rw [ed]
      exact if_pos ⟨by rw [m1]; exact h01, m2, m3⟩
theorem look_tl {ss ms : List Str} {base high : Int} {s0 : Str} (hm : Rise ms) (hl : 3 ≤ ms.length) (hl2 : ms.length ≤ 100) (h01 : s0 ≠ nthS ss 1) (h1 : nthS ss 1 ≠ "") {k : Nat} (hk : k ≤ 200) : lookOk (manF s0 ms) (tl ss ms base high k) := by
  refine ⟨?_, ?_, tl_nums .., ?_, fun T' p o => ?_⟩
  · rw [manF_names]
    exact hm.up.imp fun h e => by rw [e] at h; exact absurd h (List.lt_irrefl _)
  · unfold manF
    rw [List.length_map]
    omega
  · unfold tl
    rw [List.length_map, List.length_range]
    omega
  · rw [ord_uniq p o (tl_ord ..)]
    obtain ⟨c, h, _⟩ := run_tl (base := base) (high := high) hm hl h01 h1 k
    exact ⟨c, h⟩

/-! ### all rows, plainly -/
structure Par (ss ms : List Str) (base high : Int) : Prop where
  rs : Rise ss
  rm : Rise ms
  l1 : 2 ≤ ss.length
  l2 : 3 ≤ ms.length
  l3 : ms.length ≤ 100
  b0 : 0 ≤ base
  b1 : base < 900000
  h0 : 0 ≤ high
  h1 : high ≤ 9 * 10 ^ 9 + 900000
theorem Par.s0 {ss ms : List Str} {base high : Int} (p : Par ss ms base high) : nthS ss 0 ∈ ss ∧ isN (nthS ss 0) = true := ⟨nth_mem (by have := p.l1; omega), p.rs.nm _ (nth_mem (by have := p.l1; omega))⟩
theorem Par.s1 {ss ms : List Str} {base high : Int} (p : Par ss ms base high) : nthS ss 1 ∈ ss ∧ isN (nthS ss 1) = true ∧ nthS ss 1 ≠ "" := by
  have h := nth_mem (ms := ss) (i := 1) (by have := p.l1; omega)
  refine ⟨h, p.rs.nm _ h, fun e => ?_⟩
  have := (isN_len (p.rs.nm _ h)).1
  rw [e] at this
  exact absurd this (by decide)
theorem Par.s01 {ss ms : List Str} {base high : Int} (p : Par ss ms base high) : nthS ss 0 ≠ nthS ss 1 := fun e => by
  have l := p.l1
  have hp := List.pairwise_iff_getElem.mp p.rs.up 0 1 (by omega) (by omega) (by decide)
  unfold nthS at e
  rw [List.getD_eq_getElem?_getD, List.getD_eq_getElem?_getD, List.getElem?_eq_getElem (by omega : 0 < ss.length), List.getElem?_eq_getElem (by omega : 1 < ss.length)] at e
  have e : ss[0] = ss[1] := e
  rw [e] at hp
  exact absurd hp (List.lt_irrefl _)
/-- a reader at the deeds -/
structure AtD (S : Rd) (ss ms : List Str) (base high : Int) (k : Nat) (past : List BSt) : Prop where
  kd : S.kind ≤ 3
  e : ∃ la l mo, S.at_ 3 = ⟨sidesK ss, manF (nthS ss 0) ms, [], tl ss ms base high k, la, past, 3, l, mo⟩ ∧ l.ok ∧ Pl.lt l (.two (base + (k : Int)) ((k : Int) + 1 + high)) ∧ mo ≤ (k : Int) + high
  p : S.past = past
theorem AtM.atD {S : Rd} {ss ms : List Str} {base high : Int} {past : List BSt} (a : AtM S ss (nthS ss 0) ms past) (h0 : 0 ≤ high) : AtD S ss ms base high 0 past := by
  refine ⟨by have := a.k; omega, ⟨1, .non, 0, ?_, trivial, trivial, by omega⟩, a.p⟩
  have e1 : S.at_ 3 = { S with kind := 3, last := .non } := if_pos (by have := a.k; omega)
  have e2 : ({ S with kind := 3, last := .non } : Rd) = { S.at_ 1 with kind := 3, last := .non } := by unfold Rd.at_; split <;> rfl
  rw [e1, e2, a.e]
  rfl
def deedI (ss ms : List Str) (base high : Int) (i : Nat) : Item := .deed (dl ss ms base high i)
theorem dl_ok {ss ms : List Str} {base high : Int} (p : Par ss ms base high) (k : Nat) : (dl ss ms base high k).2.2.ok := by
  have hm : wordOk (nthS ms (k % 3)) := isN_word (p.rm.nm _ (nth_mem (by have := p.l2; omega)))
  show (if k / 3 % 2 = 1 then Deed.free (nthS ms (k % 3)) else .take (nthS ms (k % 3)) (nthS ss 1)).ok
  split
  · exact hm
  · exact ⟨hm, isN_word p.s1.2.1⟩
theorem deed_out {S : Rd} {ss ms : List Str} {base high : Int} {k : Nat} {past : List BSt} (a : AtD S ss ms base high k past) (p : Par ss ms base high) (hk : k ≤ 120) : rowGo S (deedI ss ms base high k) = (if 120 ≤ k then ("Full" : Str) else ("" : Str)) := by
  obtain ⟨la, l, mo, e, _⟩ := a.e
  show deedGo (S.at_ 3) (dl ss ms base high k) = _
  rw [e]
  have b0 := p.b0
  have b1 := p.b1
  have hd : (0 : Int) ≤ base + (k : Int) ∧ base + (k : Int) ≤ 1000000 := ⟨by omega, by omega⟩
  have hm : hasD (folkD (manF (nthS ss 0) ms)) (.inr (nthS ms (k % 3))) = true := folkD_has.mpr (by rw [manF_names]; exact nth_mem (by have := p.l2; omega))
  have hs : hasD (sidesK ss) (.inr (nthS ss 1)) = true := sidesK_has.mpr p.s1.1
  have hl : (toldD (tl ss ms base high k)).length = k := by rw [told_len]; unfold tl; rw [List.length_map, List.length_range]
  show deedOut ⟨sidesK ss, folkD (manF (nthS ss 0) ms), [], toldD (tl ss ms base high k), (k : Int) + 1 + high⟩ (base + (k : Int)) (if k / 3 % 2 = 1 then Deed.free (nthS ms (k % 3)) else .take (nthS ms (k % 3)) (nthS ss 1)) = _
  split
  · show oneOut _ _ _ = _
    unfold oneOut
    rw [if_pos hd]
    show (if hasD (folkD (manF (nthS ss 0) ms)) (.inr (nthS ms (k % 3))) = true then (if 120 ≤ (toldD (tl ss ms base high k)).length then _ else _) else _) = _
    rw [if_pos hm, hl]
  · show takeOut _ _ _ _ = _
    unfold takeOut
    rw [if_pos hd]
    show (if hasD (folkD (manF (nthS ss 0) ms)) (.inr (nthS ms (k % 3))) = true then (if hasD (sidesK ss) (.inr (nthS ss 1)) = true then (if 120 ≤ (toldD (tl ss ms base high k)).length then _ else _) else _) else _) = _
    rw [if_pos hm, if_pos hs, hl]
theorem nt_nob' {i : Int} (h : 0 ≤ i) : nob (nt i) := by
  obtain ⟨m, rfl⟩ := Int.eq_ofNat_of_zero_le h
  exact nt_nob m
theorem part_nob {x : Deed} (h : x.ok) : ∀ z ∈ x.wd, nob z := by
  have w : ∀ z : Str, z ∈ (["take", "word", "free", "flee", "die", "rank"] : List Str) → nob z := by
    intro z hz
    have k : ∀ z ∈ (["take", "word", "free", "flee", "die", "rank"] : List Str), (32 : Nat) ∉ z.cps.toList := by decide +kernel
    exact k z hz
  cases x with
  | take n s => exact List.forall_mem_cons.mpr ⟨w _ (List.mem_of_getElem? (i := 0) rfl), List.forall_mem_cons.mpr ⟨h.1.2.2, List.forall_mem_cons.mpr ⟨h.2.2.2, fun _ h => nomatch h⟩⟩⟩
  | word n => exact List.forall_mem_cons.mpr ⟨w _ (List.mem_of_getElem? (i := 1) rfl), List.forall_mem_cons.mpr ⟨h.2.2, fun _ h => nomatch h⟩⟩
  | free n => exact List.forall_mem_cons.mpr ⟨w _ (List.mem_of_getElem? (i := 2) rfl), List.forall_mem_cons.mpr ⟨h.2.2, fun _ h => nomatch h⟩⟩
  | flee n => exact List.forall_mem_cons.mpr ⟨w _ (List.mem_of_getElem? (i := 3) rfl), List.forall_mem_cons.mpr ⟨h.2.2, fun _ h => nomatch h⟩⟩
  | die n => exact List.forall_mem_cons.mpr ⟨w _ (List.mem_of_getElem? (i := 4) rfl), List.forall_mem_cons.mpr ⟨h.2.2, fun _ h => nomatch h⟩⟩
  | rank n r => exact List.forall_mem_cons.mpr ⟨w _ (List.mem_of_getElem? (i := 5) rfl), List.forall_mem_cons.mpr ⟨h.1.2.2, List.forall_mem_cons.mpr ⟨nt_nob' h.2.1, fun _ h => nomatch h⟩⟩⟩
theorem part_len {x : Deed} (h : x.ok) : ∀ z ∈ x.wd, z.length ≤ 100 := by
  intro z hz
  obtain ⟨p, hp, rfl⟩ := List.mem_map.mp hz
  exact Part.len (Deed.ps_ok h p hp)
theorem wd_len (x : Deed) : x.wd.length ≤ 3 := by cases x <;> exact Nat.le_of_ble_eq_true rfl
theorem deed_in {S : Rd} {ss ms : List Str} {base high : Int} {k : Nat} {past : List BSt} (a : AtD S ss ms base high k past) (p : Par ss ms base high) (hk : k ≤ 120) (hp : past.length ≤ 500) : RowIn S (deedI ss ms base high k) := by
  obtain ⟨la, l, mo, e, e1, e2, e3⟩ := a.e
  have b0 := p.b0
  have b1 := p.b1
  have h0 := p.h0
  have h1 := p.h1
  have dk := dl_ok p k
  refine ⟨a.kd, fun c => by have := a.kd; omega, by rw [a.p]; omega, ?_, ?_, jn_small ?_ ?_⟩
  · show DeedIn (S.at_ 3) (dl ss ms base high k)
    rw [e]
    refine ⟨by show past.length < 1000; omega, ?_, ?_, ?_, ?_, dk, fun u hu => ?_, e1, e2, fun _ => ?_⟩
    · show (1 : Int) ≤ (k : Int) + 1 + high; omega
    · show (k : Int) + 1 + high < 10 ^ 10; omega
    · show (0 : Int) ≤ base + (k : Int); omega
    · show base + (k : Int) < 10 ^ 10; omega
    · have hu : u ∈ tl ss ms base high k := hu
      unfold tl at hu
      obtain ⟨i, hi, rfl⟩ := List.mem_map.mp hu
      have := List.mem_range.mp hi
      show (i : Int) + 1 + high ≠ (k : Int) + 1 + high
      omega
    · show lookOk (manF (nthS ss 0) ms) (tl ss ms base high k ++ [dl ss ms base high k])
      rw [← tl_succ]
      exact look_tl p.rm p.l2 p.l3 p.s01 p.s1.2.2 (by omega)
  · refine List.forall_mem_cons.mpr ⟨by unfold nob; decide +kernel, List.forall_mem_cons.mpr ⟨nt_nob' (by show (0 : Int) ≤ (k : Int) + 1 + high; omega), List.forall_mem_cons.mpr ⟨nt_nob' (by show (0 : Int) ≤ base + (k : Int); omega), part_nob dk⟩⟩⟩
  · show (("deed" : Str) :: nt _ :: nt _ :: (dl ss ms base high k).2.2.wd).length ≤ 10
    have := wd_len (dl ss ms base high k).2.2
    rw [List.length_cons, List.length_cons, List.length_cons]
    omega
  · refine List.forall_mem_cons.mpr ⟨Nat.le_of_ble_eq_true rfl, List.forall_mem_cons.mpr ⟨?_, List.forall_mem_cons.mpr ⟨?_, part_len dk⟩⟩⟩
    · exact Nat.le_trans (nt_len (i := (k : Int) + 1 + high) (by omega) (by omega)) (by decide)
    · exact Nat.le_trans (nt_len (i := base + (k : Int)) (by omega) (by omega)) (by decide)
theorem deed_step {S : Rd} {ss ms : List Str} {base high : Int} {k : Nat} {past : List BSt} (a : AtD S ss ms base high k past) : ∃ q, AtD (S.step (deedI ss ms base high k)) ss ms base high (k + 1) (past ++ [q]) := by
  obtain ⟨la, l, mo, e, e1, e2, e3⟩ := a.e
  have es : ∃ q, S.step (deedI ss ms base high k) = ⟨sidesK ss, manF (nthS ss 0) ms, [], tl ss ms base high k ++ [dl ss ms base high k], (k : Int) + 1 + high + 1, past ++ [q], 3, .two (base + (k : Int)) ((k : Int) + 1 + high), if (k : Int) + 1 + high > mo then (k : Int) + 1 + high else mo⟩ := by
    refine ⟨{ (S.at_ 3).st with later := (k : Int) + 1 + high }, ?_⟩
    show (S.at_ 3).told (dl ss ms base high k) = _
    rw [e]
    rfl
  obtain ⟨q, es⟩ := es
  refine ⟨q, ?_⟩
  rw [es]
  refine ⟨Int.le_refl _, ⟨(k : Int) + 1 + high + 1, .two (base + (k : Int)) ((k : Int) + 1 + high), (if (k : Int) + 1 + high > mo then (k : Int) + 1 + high else mo), ?_, trivial, ?_, ?_⟩, rfl⟩
  · rw [tl_succ]
    exact if_neg (fun c : (3 : Int) < 3 => absurd c (by decide))
  · show base + (k : Int) < base + ((k + 1 : Nat) : Int) ∨ _
    exact .inl (by omega)
  · split <;> omega
theorem deeds_go {ss ms : List Str} {base high : Int} (p : Par ss ms base high) : ∀ (n k : Nat) (S : Rd) (past : List BSt), AtD S ss ms base high k past → k + n ≤ 120 → past.length + n ≤ 300 → ∃ S' past', AtD S' ss ms base high (k + n) past' ∧ past'.length = past.length + n ∧ Go S ((List.range' k n).map (deedI ss ms base high)) S'
  | 0, k, S, past, a, _, _ => ⟨S, past, a, rfl, .nil⟩
  | n + 1, k, S, past, a, hk, hp => by
    obtain ⟨q, a2⟩ := deed_step a
    obtain ⟨S', past', h0, h1, h2⟩ := deeds_go p n (k + 1) (S.step (deedI ss ms base high k)) (past ++ [q]) a2 (by omega) (by rw [List.length_append, List.length_singleton]; omega)
    refine ⟨S', past', by rw [show k + (n + 1) = k + 1 + n by omega]; exact h0, by rw [h1, List.length_append, List.length_singleton]; omega, ?_⟩
    rw [List.range'_succ, List.map_cons]
    exact .cons (deed_in a p (by omega) (by omega)) (by rw [deed_out a p (by omega), if_neg (by omega)]) h2
def itemsL (ss ms : List Str) (nd : Nat) (base high : Int) : List Item := ss.map .side ++ (ms.map (manI (nthS ss 0)) ++ ((List.range nd).map (deedI ss ms base high) ++ [.next ((nd : Int) + 1 + high)]))
theorem R0_Sd : R0 = Sd [] [] := rfl
theorem next_in {S : Rd} {k : Int} (h1 : S.kind < 4) (h2 : S.past.length < 1000) (h3 : S.most < k) (h4 : 0 ≤ k) (h5 : k < 10 ^ 10) : RowIn S (.next k) ∧ rowGo S (.next k) = "" ∧ (S.step (.next k)).kind = 4 ∧ (S.step (.next k)).st = { S.st with later := k } := by
  have e : S.at_ 4 = { S with kind := 4, last := .non } := if_pos h1
  refine ⟨⟨by show S.kind ≤ 4; omega, by omega, h2, ?_, ?_, jn_small (by show (2 : Nat) ≤ 10; decide) ?_⟩, rfl, ?_, ?_⟩
  · show NamedIn (S.at_ 4) (.next k)
    rw [e]
    exact ⟨h4, h5, h3⟩
  · exact List.forall_mem_cons.mpr ⟨by unfold nob; decide +kernel, List.forall_mem_cons.mpr ⟨nt_nob' h4, fun _ h => nomatch h⟩⟩
  · exact List.forall_mem_cons.mpr ⟨Nat.le_of_ble_eq_true rfl, List.forall_mem_cons.mpr ⟨Nat.le_trans (nt_len h4 h5) (by decide), fun _ h => nomatch h⟩⟩
  · show ((S.at_ 4).named (.next k)).kind = 4
    rw [e]
    rfl
  · show ((S.at_ 4).named (.next k)).st = _
    rw [e]
    rfl
theorem at_flds (S : Rd) (k : Int) : (S.at_ k).ss = S.ss ∧ (S.at_ k).F = S.F ∧ (S.at_ k).pa = S.pa ∧ (S.at_ k).Td = S.Td ∧ (S.at_ k).most = S.most := by
  unfold Rd.at_
  split <;> exact ⟨rfl, rfl, rfl, rfl, rfl⟩
theorem full_ok {ss ms : List Str} {base high : Int} (p : Par ss ms base high) (l1 : ss.length = 6) (l2 : ms.length = 40) : ∃ S, Rds 0 R0 (itemsL ss ms 120 base high) (.inr S) ∧ S.kind = 4 ∧ S.st = ⟨sidesK ss, folkD (manF (nthS ss 0) ms), [], toldD (tl ss ms base high 120), 121 + high⟩ := by
  obtain ⟨pa, q1, g1⟩ := sides_go ss [] [] p.rs (by rw [List.nil_append]; omega) (by rw [l1]; decide)
  obtain ⟨S2, pb, a2, q2, g2⟩ := men_go p.s0.1 p.s0.2 ms [] (Sd ss pa) pa Sd.atM p.rm (by rw [List.nil_append]; omega) (by rw [q1, l1, l2]; decide)
  have a2 : AtM S2 ss (nthS ss 0) ms pb := a2
  obtain ⟨S3, pc, a3, q3, g3⟩ := deeds_go p 120 0 S2 pb (a2.atD p.h0) (by decide) (by rw [q2, q1, l1, l2]; decide)
  obtain ⟨la, l, mo, e, e1, e2, e3⟩ := a3.e
  obtain ⟨f1, f2, f3, f4, f5⟩ := at_flds S3 3
  rw [e] at f1 f2 f3 f4 f5
  have b0 := p.h0
  have b1 := p.h1
  obtain ⟨n1, n2, n3, n4⟩ := next_in (S := S3) (k := (120 : Int) + 1 + high) (by have := a3.kd; omega) (by rw [a3.p, q3, q2, q1, l1, l2]; decide) (by have f5 : mo = S3.most := f5; have e3 : mo ≤ (120 : Int) + high := e3; omega) (by omega) (by omega)
  refine ⟨S3.step (.next ((120 : Int) + 1 + high)), ?_, n3, ?_⟩
  · have G1 := g1.app (g2.app g3)
    have E : itemsL ss ms 120 base high = (ss.map .side ++ (ms.map (manI (nthS ss 0)) ++ (List.range' 0 120).map (deedI ss ms base high))) ++ [.next ((120 : Int) + 1 + high)] := by
      unfold itemsL
      rw [List.range_eq_range', List.append_assoc, List.append_assoc]
      rfl
    rw [E]
    exact G1.rds (.ok n1 n2 .nil)
  · rw [n4]
    show (⟨S3.ss, folkD S3.F, S3.pa, toldD S3.Td, (120 : Int) + 1 + high⟩ : BSt) = _
    rw [← f1, ← f2, ← f3, ← f4]
    rfl
theorem bad_sides {ss ms : List Str} {nd : Nat} {base high : Int} (rs : Rise ss) (l1 : ss.length = 7) : Rds 0 R0 (itemsL ss ms nd base high) (.inl 6) := by
  obtain ⟨A, z, rfl⟩ := SrtO.snoc_of (l := ss) (by omega)
  have lA : A.length = 6 := by rw [List.length_append, List.length_singleton] at l1; omega
  have rA : Rise A := ⟨(List.pairwise_append.mp rs.up).1, fun z hz => rs.nm z (List.mem_append_left _ hz)⟩
  obtain ⟨pa, q1, g1⟩ := sides_go A [] [] rA (by rw [List.nil_append]; omega) (by rw [lA]; decide)
  unfold itemsL
  rw [List.map_append, List.append_assoc]
  refine g1.rds ?_
  rw [List.length_map, lA]
  exact .bad (side_in (B := []) rs (by rw [List.nil_append]; omega) (by rw [q1, lA]; decide)) (by have := side_out (past := pa) (B := []) rs; rw [if_pos (by omega)] at this; exact this)
theorem bad_men {ss ms : List Str} {nd : Nat} {base high : Int} (p : Par ss ms base high) (l1 : ss.length = 6) (l2 : ms.length = 41) : Rds 0 R0 (itemsL ss ms nd base high) (.inl 46) := by
  obtain ⟨A, z, e⟩ := SrtO.snoc_of (l := ms) (by omega)
  have lA : A.length = 40 := by rw [e, List.length_append, List.length_singleton] at l2; omega
  have rm := p.rm
  rw [e] at rm
  have rA : Rise A := ⟨(List.pairwise_append.mp rm.up).1, fun z hz => rm.nm z (List.mem_append_left _ hz)⟩
  obtain ⟨pa, q1, g1⟩ := sides_go ss [] [] p.rs (by rw [List.nil_append]; omega) (by rw [l1]; decide)
  obtain ⟨S2, pb, a2, q2, g2⟩ := men_go p.s0.1 p.s0.2 A [] (Sd ss pa) pa Sd.atM rA (by rw [List.nil_append]; omega) (by rw [q1, l1, lA]; decide)
  have a2 : AtM S2 ss (nthS ss 0) A pb := a2
  have G1 := g1.app g2
  have E : itemsL ss ms nd base high = (ss.map .side ++ A.map (manI (nthS ss 0))) ++ (manI (nthS ss 0) z :: ((List.range nd).map (deedI ss ms base high) ++ [.next ((nd : Int) + 1 + high)])) := by
    unfold itemsL
    rw [show ms.map (manI (nthS ss 0)) = A.map (manI (nthS ss 0)) ++ [manI (nthS ss 0) z] by rw [e, List.map_append]; rfl]
    simp only [List.append_assoc, List.cons_append, List.nil_append]
  rw [E]
  refine G1.rds ?_
  rw [List.length_append, List.length_map, List.length_map, l1, lA]
  exact .bad (man_in a2 (B := []) rm p.s0.2 (by omega) (by rw [q2, q1, l1, lA]; decide)) (by rw [man_out a2 (B := []) rm p.s0.1, if_pos (by omega)])
theorem bad_deeds {ss ms : List Str} {base high : Int} (p : Par ss ms base high) (l1 : ss.length = 6) (l2 : ms.length = 40) : Rds 0 R0 (itemsL ss ms 121 base high) (.inl 166) := by
  obtain ⟨pa, q1, g1⟩ := sides_go ss [] [] p.rs (by rw [List.nil_append]; omega) (by rw [l1]; decide)
  obtain ⟨S2, pb, a2, q2, g2⟩ := men_go p.s0.1 p.s0.2 ms [] (Sd ss pa) pa Sd.atM p.rm (by rw [List.nil_append]; omega) (by rw [q1, l1, l2]; decide)
  have a2 : AtM S2 ss (nthS ss 0) ms pb := a2
  obtain ⟨S3, pc, a3, q3, g3⟩ := deeds_go p 120 0 S2 pb (a2.atD p.h0) (by decide) (by rw [q2, q1, l1, l2]; decide)
  have a3 : AtD S3 ss ms base high 120 pc := a3
  have G1 := g1.app (g2.app g3)
  have E : itemsL ss ms 121 base high = (ss.map .side ++ (ms.map (manI (nthS ss 0)) ++ (List.range' 0 120).map (deedI ss ms base high))) ++ (deedI ss ms base high 120 :: [.next ((121 : Int) + 1 + high)]) := by
    unfold itemsL
    rw [List.range_succ, List.map_append, List.range_eq_range']
    simp only [List.append_assoc, List.cons_append, List.nil_append, List.map_cons, List.map_nil]
    rfl
  rw [E]
  refine G1.rds ?_
  rw [List.length_append, List.length_append, List.length_map, List.length_map, List.length_map, List.length_range', l1, l2]
  exact .bad (deed_in a3 p (by decide) (by rw [q3, q2, q1, l1, l2]; decide)) (by rw [deed_out a3 p (by decide), if_pos (by decide)])
theorem small_ok {ss : List Str} {k : Int} (rs : Rise ss) (l1 : ss.length ≤ 6) (h0 : 0 < k) (h1 : k < 10 ^ 10) : ∃ S, Rds 0 R0 (ss.map .side ++ [.next k]) (.inr S) ∧ S.kind = 4 ∧ S.st = ⟨sidesK ss, [], [], [], k⟩ := by
  obtain ⟨pa, q1, g1⟩ := sides_go ss [] [] rs (by rw [List.nil_append]; omega) (by rw [List.length_nil]; omega)
  obtain ⟨n1, n2, n3, n4⟩ := next_in (S := Sd ss pa) (k := k) (by show (0 : Int) < 4; decide) (by show pa.length < 1000; rw [q1, List.length_nil]; omega) h0 (by omega) h1
  refine ⟨(Sd ss pa).step (.next k), g1.rds (.ok n1 n2 .nil), n3, ?_⟩
  rw [n4]
  rfl

/-! ### _law_whole -/
abbrev s__law_whole : Stmt := top 70
abbrev N__law_whole : List Str := ["_law_found"]
theorem sc__law_whole : FnScope N__law_whole ["_law_found"] (defScope s__law_whole) := ⟨rfl, rfl, rfl, by decide +kernel, rfl, by decide +kernel, by decide +kernel⟩

def isIntD : PyData → Bool
  | .int _ => true
  | _ => false
def spWhole (K : PySem.W.Frag) : Sp := fun vs H Q _ => ∃ (x : V) (d : PyData), vs = [x] ∧ Dp K H x d ∧ Q (.bl (isIntD d)) H
theorem kit_n {K : PySem.W.Frag} {a T : String} {b : Bool} (h : kitB a T = some b) : PySem.W.kitOne K (.type a) (.type T) = some b := kit_ty h
section
variable {P : Program} {w : World} {K : PySem.W.Frag} {mg : Str → Option Value} {base : Heap}
theorem D_whole (T : Txt K mg) (F : Df K mg "_law_whole" s__law_whole) : Dn P w K mg base CX0 1 "_law_whole" ["_law_found"] (spWhole K) := by
  refine F.dn sc__law_whole (fun _ _ _ _ _ _ us hl => match us, hl with | [_], _ => rfl) (fun vs H Q E h => ?_) (fun f cdv A outer s H vs Q E hr hK h => ?_)
  · obtain ⟨x, d, rfl, _⟩ := h
    rfl
  · obtain ⟨x, d, rfl, hx, k⟩ := h
    refine ⟨_, (pss_one (ps_ret (pe_and (pe_callB call_isi rfl T.m_isinstance boot_isinstance (pa_cons (pv 0) (pa_cons (pe_bltn rfl T.m_int (v := .ty "int") boot_int rfl) pa_nil))) (pe_one (pe_not (pe_callB call_isi rfl T.m_isinstance boot_isinstance (pa_cons (pv 0) (pa_cons (pe_bltn rfl T.m_bool (v := .ty "bool") boot_bool rfl) pa_nil)))))))), ?_⟩
    try rw [hK]
    rw [show L2.start N__law_whole [x] = [some (x)] from rfl]
    have ty := ty_dp hx
    have two : ∀ b1 b2 : Bool, kitB (kindD d) "int" = some b1 → kitB (kindD d) "bool" = some b2 → Q (.bl (if b1 = true then !b2 else false)) H → tRet (tAndV (tCB (rIsi K) (tCons (tVar 0) (tCons (tC (V.ty "int")) tNil))) (tNotV (tCB (rIsi K) (tCons (tVar 0) (tCons (tC (V.ty "bool")) tNil))))) { nx := fun _ H' => Q .non H', rt := Q } [some x] H := fun b1 b2 h1 h2 q => by
      walk_at "sx"
      refine x_isi ty (kit_n h1) ?_
      refine x_andVQ (fun c => ?_) (fun c => ?_)
      · subst c
        walk_at "sx"
        refine x_isi ty (kit_n h2) ?_
        walk_at "sx"
        exact q
      · subst c
        exact q
    cases d with
    | none => exact two false false (show kitB "NoneType" "int" = some false by decide +kernel) (show kitB "NoneType" "bool" = some false by decide +kernel) k
    | bool b => exact two true true (show kitB "bool" "int" = some true by decide +kernel) (show kitB "bool" "bool" = some true by decide +kernel) k
    | int i => exact two true false (show kitB "int" "int" = some true by decide +kernel) (show kitB "int" "bool" = some false by decide +kernel) k
    | str z => exact two false false (show kitB "str" "int" = some false by decide +kernel) (show kitB "str" "bool" = some false by decide +kernel) k
    | list ds => exact two false false (show kitB "list" "int" = some false by decide +kernel) (show kitB "list" "bool" = some false by decide +kernel) k
    | tuple ds => exact two false false (show kitB "tuple" "int" = some false by decide +kernel) (show kitB "tuple" "bool" = some false by decide +kernel) k
    | dict ds => cases hx
end

/-! ### _law_alike -/
abbrev s__law_alike : Stmt := top 71
abbrev N__law_alike : List Str := ["_law_found", "_law_due", "_law_one", "_law_other"]
theorem sc__law_alike : FnScope N__law_alike ["_law_found", "_law_due"] (defScope s__law_alike) := ⟨rfl, rfl, rfl, by decide +kernel, rfl, by decide +kernel, by decide +kernel⟩

/-- both are the same data, of a depth below n: True -/
def spAlike (K : PySem.W.Frag) (n : Nat) : Sp := fun vs H Q _ => ∃ (x y : V) (d : PyData), vs = [x, y] ∧ Dp K H x d ∧ Dp K H y d ∧ OkD n d ∧ n ≤ 60 ∧ ∀ H', Ex H H' → Q (.bl true) H'
section
variable {P : Program} {w : World} {K : PySem.W.Frag} {mg : Str → Option Value} {base : Heap}
theorem D_alike (T : Txt K mg) (D__law_whole : Dn P w K mg base CX0 1 "_law_whole" ["_law_found"] (spWhole K)) (F : Df K mg "_law_alike" s__law_alike) :
    ∀ n : Nat, Dn P w K mg base CX0 (n + 2) "_law_alike" ["_law_found", "_law_due"] (spAlike K n)
  | 0 => F.none (fun _ _ _ _ _ _ us hl => match us, hl with | [_, _], _ => rfl) fun vs H Q E h => by
    obtain ⟨x, y, d, _, _, _, h, _⟩ := h
    cases h
  | n + 1 => by
    have D__law_alike := D_alike T D__law_whole F n
    refine F.dn sc__law_alike (fun _ _ _ _ _ _ us hl => match us, hl with | [_, _], _ => rfl) (fun vs H Q E h => ?_) (fun f cdv A outer s H vs Q E hr hK h => ?_)
    · obtain ⟨x, y, d, rfl, _⟩ := h
      rfl
    · obtain ⟨x, y, d, rfl, hx, hy, ho, hn, k⟩ := h
      have hs := ho.shaped (by omega)
      have k0 : Q (.bl true) H := k H (Ex.refl H)
      refine ⟨_, (pss_cons (ps_if (pt_cmpR g_isN (pv 1) pe_non (nomark _)) (pss_one (ps_ret (pe_cmpR g_isN (pv 0) pe_non (nomark _)))) pss_nil)
      (pss_cons (ps_if (pt_val (pe_callB call_isi rfl T.m_isinstance boot_isinstance (pa_cons (pv 1) (pa_cons (pe_bltn rfl T.m_bool (v := .ty "bool") boot_bool rfl) pa_nil)))) (pss_one (ps_ret (pe_and (pe_callB call_isi rfl T.m_isinstance boot_isinstance (pa_cons (pv 0) (pa_cons (pe_bltn rfl T.m_bool (v := .ty "bool") boot_bool rfl) pa_nil))) (pe_one (pe_cmpR (op_eqD hr.units) (pv 0) (pv 1) (nomark _)))))) pss_nil)
      (pss_cons (ps_if (pt_val (pe_callB call_isi rfl T.m_isinstance boot_isinstance (pa_cons (pv 1) (pa_cons (pe_bltn rfl T.m_int (v := .ty "int") boot_int rfl) pa_nil)))) (pss_one (ps_ret (pe_and (pe_dn D__law_whole (hr.mono (by first | decide | omega)) pass0 (pa_cons (pv 0) pa_nil)) (pe_one (pe_cmpR (op_eqD hr.units) (pv 0) (pv 1) (nomark _)))))) pss_nil)
      (pss_cons (ps_if (pt_val (pe_callB call_isi rfl T.m_isinstance boot_isinstance (pa_cons (pv 1) (pa_cons (pe_bltn rfl T.m_str (v := .ty "str") boot_str rfl) pa_nil)))) (pss_one (ps_ret (pe_and (pe_callB call_isi rfl T.m_isinstance boot_isinstance (pa_cons (pv 0) (pa_cons (pe_bltn rfl T.m_str (v := .ty "str") boot_str rfl) pa_nil))) (pe_one (pe_cmpR (op_eqD hr.units) (pv 0) (pv 1) (nomark _)))))) pss_nil)
      (pss_cons (ps_if (PW.pt (pw_or (pt_cmpR op_ne (pe_callB call_isi rfl T.m_isinstance boot_isinstance (pa_cons (pv 1) (pa_cons (pe_bltn rfl T.m_list (v := .ty "list") boot_list rfl) pa_nil))) (pe_callB call_isi rfl T.m_isinstance boot_isinstance (pa_cons (pv 0) (pa_cons (pe_bltn rfl T.m_list (v := .ty "list") boot_list rfl) pa_nil))) (nomark _)) (pw_or1 (pt_cmpR op_ne (pe_callB call_isi rfl T.m_isinstance boot_isinstance (pa_cons (pv 1) (pa_cons (pe_bltn rfl T.m_tuple (v := .ty "tuple") boot_tuple rfl) pa_nil))) (pe_callB call_isi rfl T.m_isinstance boot_isinstance (pa_cons (pv 0) (pa_cons (pe_bltn rfl T.m_tuple (v := .ty "tuple") boot_tuple rfl) pa_nil))) (nomark _))))) (pss_one (ps_ret pe_bl)) pss_nil)
      (pss_one (ps_ret (pe_and (pe_cmpR op_eq (pe_callB g_len rfl T.m_len boot_len (pa_cons (pv 0) pa_nil)) (pe_callB g_len rfl T.m_len boot_len (pa_cons (pv 1) pa_nil)) (nomark _)) (pe_one (pe_callB (cr_all rfl) rfl T.m_all boot_all (pa_cons (pe_lc (own := [("_law_one", 2), ("_law_other", 3)]) (g := gTup K 2 (gCons (gName 2) (gCons (gName 3) (gNil)))) (tt := tYes) rfl sc__law_alike.nd (pi_zipA rfl T.m_zip (pa_cons (pv 0) (pa_cons (pv 1) pa_nil))) (blkOk_by (own := [("_law_one", 2), ("_law_other", 3)]) (N := N__law_alike) (sc := defScope s__law_alike) (by decide +kernel)) (fun _ _ _ _ _ => pg_tup rfl (pgs_cons (pg_name (i := 2) sc__law_alike.nd rfl (Or.inl rfl)) (pgs_cons (pg_name (i := 3) sc__law_alike.nd rfl (Or.inl rfl)) pgs_nil))) (fun _ _ _ _ _ => pts_nil) (fun _ _ _ _ _ => (pe_dn D__law_alike (hr.mono (by first | decide | omega)) pass0 (pa_cons (pv 2) (pa_cons (pv 3) pa_nil))))) pa_nil))))))))))), ?_⟩
      try rw [hK]
      rw [show L2.start N__law_alike [x, y] = [some (x), some (y), none, none] from rfl]
      have tx := ty_dp hx
      have ty := ty_dp hy
      walk_at "sx"
      cases d with
      | none =>
        cases hx; cases hy
        walk_at "sx"
        exact k0
      | bool b =>
        cases hx; cases hy
        have tx : TyX K H _ (.type "bool") := tx
        have ty : TyX K H _ (.type "bool") := ty
        walk_at "sx"
        refine x_isi ty (b := true) (kit_n (by decide +kernel)) ?_
        walk_at "sx"
        refine x_isi tx (b := true) (kit_n (by decide +kernel)) ?_
        walk_at "sx"
        exact x_eqSame (.bl b) (.bl b) hs k0
      | int i =>
        cases hx; cases hy
        have tx : TyX K H _ (.type "int") := tx
        have ty : TyX K H _ (.type "int") := ty
        walk_at "sx"
        refine x_isi ty (b := false) (kit_n (by decide +kernel)) ?_
        walk_at "sx"
        refine x_isi ty (b := true) (kit_n (by decide +kernel)) ?_
        walk_at "sx"
        refine ⟨_, .int i, rfl, .int i, ?_⟩
        refine x_andVT ?_
        walk_at "sx"
        exact x_eqSame (.int i) (.int i) hs k0
      | str z =>
        cases hx; cases hy
        have tx : TyX K H _ (.type "str") := tx
        have ty : TyX K H _ (.type "str") := ty
        walk_at "sx"
        refine x_isi ty (b := false) (kit_n (by decide +kernel)) ?_
        walk_at "sx"
        refine x_isi ty (b := false) (kit_n (by decide +kernel)) ?_
        walk_at "sx"
        refine x_isi ty (b := true) (kit_n (by decide +kernel)) ?_
        walk_at "sx"
        refine x_isi tx (b := true) (kit_n (by decide +kernel)) ?_
        walk_at "sx"
        exact x_eqSame (.str z) (.str z) hs k0
      | list ds =>
        have tx : TyX K H _ (.type "list") := tx
        have ty : TyX K H _ (.type "list") := ty
        cases hx with
        | lst sx ax =>
        cases hy with
        | lst sy ay =>
        have lx := dpAll_len ax
        have ly := dpAll_len ay
        obtain ⟨hlen, sh⟩ : ds.length ≤ 100000 ∧ ∀ d ∈ ds, OkD n d := by
          cases ho with
          | list h1 h2 => exact ⟨h1, h2⟩
        walk_at "sx"
        refine x_isi ty (b := false) (kit_n (by decide +kernel)) ?_
        walk_at "sx"
        refine x_isi ty (b := false) (kit_n (by decide +kernel)) ?_
        walk_at "sx"
        refine x_isi ty (b := false) (kit_n (by decide +kernel)) ?_
        walk_at "sx"
        refine x_isi ty (b := true) (kit_n (by decide +kernel)) ?_
        walk_at "sx"
        refine x_isi tx (b := true) (kit_n (by decide +kernel)) ?_
        walk_at "sx"
        refine x_isi ty (b := false) (kit_n (by decide +kernel)) ?_
        walk_at "sx"
        refine x_isi tx (b := false) (kit_n (by decide +kernel)) ?_
        walk_at "sx"
        refine x_andVD (fun _ => ?_) (fun c => absurd (by rw [lx, ly]) c)
        walk_at "sx"
        refine x_iZAL sx sy ?_
        refine x_lcMap (walk_zip rfl) (fun _ => V.bl true) ?hz (fun H' e => ⟨ex_l e sx, ex_l e sy⟩) ?turn ?grow ?done
        case hz => exact sz_of (by omega)
        case turn =>
          rintro D i x H1 H2 Nx hi e1 ⟨p, a, b, rfl, hp, rfl, ha, hb⟩ kk
          walk_at "sx"
          obtain ⟨da, ea, pa⟩ := dpAll_get ax ha
          obtain ⟨db, eb, pb⟩ := dpAll_get ay hb
          rw [ea] at eb
          cases eb
          have e2 : Ex H (upd H1 p (.tup [a, b])) := e1.trans (Ex.new hp)
          refine ⟨a, b, da, rfl, dp_ex e2 pa, dp_ex e2 pb, sh _ (List.mem_of_getElem? ea), by omega, fun H3 e3 => ?_⟩
          exact kk H3 e3
        case grow =>
          rintro i x H1 H2 hi e1 ⟨p, a, b, rfl, hp, rfl, ha, hb⟩
          exact Ex.new hp
        case done =>
          intro D H' hD e hl
          walk_at "sx"
          refine x_allMap (g := fun _ => true) hl ?_
          have e0 : ∀ m : Nat, (List.range m).all (fun _ => true) = true := fun m => by simp
          rw [e0]
          exact k H' e
      | tuple ds =>
        have tx : TyX K H _ (.type "tuple") := tx
        have ty : TyX K H _ (.type "tuple") := ty
        cases hx with
        | tup sx ax =>
        cases hy with
        | tup sy ay =>
        have lx := dpAll_len ax
        have ly := dpAll_len ay
        obtain ⟨hlen, sh⟩ : ds.length ≤ 100000 ∧ ∀ d ∈ ds, OkD n d := by
          cases ho with
          | tuple h1 h2 => exact ⟨h1, h2⟩
        walk_at "sx"
        refine x_isi ty (b := false) (kit_n (by decide +kernel)) ?_
        walk_at "sx"
        refine x_isi ty (b := false) (kit_n (by decide +kernel)) ?_
        walk_at "sx"
        refine x_isi ty (b := false) (kit_n (by decide +kernel)) ?_
        walk_at "sx"
        refine x_isi ty (b := false) (kit_n (by decide +kernel)) ?_
        walk_at "sx"
        refine x_isi tx (b := false) (kit_n (by decide +kernel)) ?_
        walk_at "sx"
        refine x_isi ty (b := true) (kit_n (by decide +kernel)) ?_
        walk_at "sx"
        refine x_isi tx (b := true) (kit_n (by decide +kernel)) ?_
        walk_at "sx"
        refine x_andVD (fun _ => ?_) (fun c => absurd (by rw [lx, ly]) c)
        walk_at "sx"
        refine x_iZAT sx sy ?_
        refine x_lcMap (walk_zipT rfl) (fun _ => V.bl true) ?hz (fun H' e => ⟨ex_t e sx, ex_t e sy⟩) ?turn ?grow ?done
        case hz => exact sz_of (by omega)
        case turn =>
          rintro D i x H1 H2 Nx hi e1 ⟨p, a, b, rfl, hp, rfl, ha, hb⟩ kk
          walk_at "sx"
          obtain ⟨da, ea, pa⟩ := dpAll_get ax ha
          obtain ⟨db, eb, pb⟩ := dpAll_get ay hb
          rw [ea] at eb
          cases eb
          have e2 : Ex H (upd H1 p (.tup [a, b])) := e1.trans (Ex.new hp)
          refine ⟨a, b, da, rfl, dp_ex e2 pa, dp_ex e2 pb, sh _ (List.mem_of_getElem? ea), by omega, fun H3 e3 => ?_⟩
          exact kk H3 e3
        case grow =>
          rintro i x H1 H2 hi e1 ⟨p, a, b, rfl, hp, rfl, ha, hb⟩
          exact Ex.new hp
        case done =>
          intro D H' hD e hl
          walk_at "sx"
          refine x_allMap (g := fun _ => true) hl ?_
          have e0 : ∀ m : Nat, (List.range m).all (fun _ => true) = true := fun m => by simp
          rw [e0]
          exact k H' e
      | dict ds => cases hx
end

/-! ### the law's rows, and the first wrong one -/
abbrev s__law_full_rows : Stmt := top 75
abbrev N__law_full_rows : List Str := ["_law_names", "_law_counts", "_law_base", "_law_high", "_law_sides", "_law_men", "_law_rows", "_law_at", "_law_text", "_law_name"]
theorem sc__law_full_rows : FnScope N__law_full_rows ["_law_names", "_law_counts", "_law_base", "_law_high"] (defScope s__law_full_rows) := ⟨rfl, rfl, rfl, by decide +kernel, rfl, by decide +kernel, by decide +kernel⟩

def spWrongAt (K : PySem.W.Frag) : Sp := fun vs H Q _ => ∃ (p : Addr) (its : List Item) (i : Nat) (Rs : List Res), vs = [.ref p] ∧ Sat H (cell p (.lst (rowsV its)) :: Rs) ∧ Rds 0 R0 its (.inl i) ∧ ∀ H', PK H H' → Sat H' (cell p (.lst (rowsV its)) :: Rs) → Q (.int (i : Int)) H'
def spFullRows (K : PySem.W.Frag) : Sp := fun vs H Q _ => ∃ (p q : Addr) (ws : List Str) (c0 c1 c2 : Nat) (base high : Int) (Rs : List Res), vs = [.ref p, .ref q, .int base, .int high] ∧
  Sat H (cell p (.lst (ws.map V.str)) :: cell q (.lst [.int (c0 : Int), .int (c1 : Int), .int (c2 : Int)]) :: Rs) ∧ (∀ z ∈ ws, isN z = true) ∧ ws.length = 48 ∧ 2 ≤ c0 ∧ c0 ≤ 7 ∧ 3 ≤ c1 ∧ c1 ≤ 41 ∧ c2 ≤ 200 ∧ 0 ≤ base ∧ base < 900000 ∧ 0 ≤ high ∧ high < 9 * 10 ^ 9 + 900000 ∧
  ∀ l ss ms H', ss.Perm (ws.take c0) → sortedS ss = true → ms.Perm ((ws.drop 7).take c1) → sortedS ms = true → PK H H' → Sat H' (cell l (.lst (rowsV (itemsL ss ms c2 base high))) :: cell p (.lst (ws.map V.str)) :: cell q (.lst [.int (c0 : Int), .int (c1 : Int), .int (c2 : Int)]) :: Rs) → Q (.ref l) H'
theorem txt_side (n : Str) : ("side " : Str) ++ n = jn ["side", n] := jn_two "side" n
theorem txt_man (n s : Str) : Str.empty ++ ("man " : Str) ++ n ++ " " ++ s ++ " 3" = jn (manI s n).ws := by
  show _ = jn ["man", n, s, nt 3]
  rw [jn_cons, jn_cons, jn_cons, jn_one, str_nil, show ("man " : Str) = ("man" : Str) ++ " " from rfl, show (" 3" : Str) = (" " : Str) ++ nt 3 by decide +kernel]
  simp only [str_assoc]
theorem txt_deed (a d : Str) (ws : List Str) (h : ws ≠ []) : Str.empty ++ ("deed " : Str) ++ a ++ " " ++ d ++ " " ++ jn ws = jn ("deed" :: a :: d :: ws) := by
  match ws, h with
  | w :: r, _ =>
    rw [jn_cons, jn_cons, jn_cons, str_nil, show ("deed " : Str) = ("deed" : Str) ++ " " from rfl]
    simp only [str_assoc]
theorem txt_take (m s : Str) : ("take " : Str) ++ m ++ " " ++ s = jn (Deed.take m s).wd := by
  show _ = jn ["take", m, s]
  rw [jn_cons, jn_cons, jn_one, show ("take " : Str) = ("take" : Str) ++ " " from rfl]
  simp only [str_assoc]
theorem txt_free (m : Str) : ("free " : Str) ++ m = jn (Deed.free m).wd := jn_two "free" m
theorem txt_next (k : Str) : Str.empty ++ ("next " : Str) ++ k = jn ["next", k] := by
  rw [str_nil]
  exact jn_two "next" k
theorem nth_val {ms : List Str} {i : Nat} {k : Int} (e : k.toNat = i) (h : i < ms.length) : (ms.map V.str)[k.toNat]? = some (.str (nthS ms i)) := by
  rw [e, List.getElem?_map, List.getElem?_eq_getElem h]
  unfold nthS
  rw [List.getD_eq_getElem?_getD, List.getElem?_eq_getElem h]
  rfl
section
variable {P : Program} {w : World} {K : PySem.W.Frag} {mg : Str → Option Value} {base : Heap}
theorem D_full_rows (T : Txt K mg) (F : Df K mg "_law_full_rows" s__law_full_rows) : Dn P w K mg base CX0 1 "_law_full_rows" ["_law_names", "_law_counts", "_law_base", "_law_high"] (spFullRows K) := by
  refine F.dn sc__law_full_rows (fun _ _ _ _ _ _ us hl => match us, hl with | [_, _, _, _], _ => rfl) (fun vs H Q E h => ?_) (fun f cdv A outer s H vs Q E hr hK h => ?_)
  · obtain ⟨p, q, ws, c0, c1, c2, bs, hi, Rs, rfl, _⟩ := h
    rfl
  · obtain ⟨p, q, ws, c0, c1, c2, bs, hg, Rs, rfl, S, nm, wl, a1, a2, a3, a4, a5, b0, b1, g0, g1, k⟩ := h
    refine ⟨_, (pss_cons (ps_set (i := 4) sc__law_full_rows.nd rfl (Or.inr rfl) (pe_callB cr_sortedS rfl T.m_sorted boot_sorted (pa_cons (pe_slice sl_list (pv 0) po_none (po_some (pe_ix ix_list (pv 1) pe_int (fun _ _ => rfl)))) pa_nil)))
      (pss_cons (ps_set (i := 5) sc__law_full_rows.nd rfl (Or.inl rfl) (pe_callB cr_sortedS rfl T.m_sorted boot_sorted (pa_cons (pe_slice sl_list (pv 0) (po_some pe_int) (po_some (pe_op op_add pe_int (pe_ix ix_list (pv 1) pe_int (fun _ _ => rfl))))) pa_nil)))
      (pss_cons (ps_set (i := 6) sc__law_full_rows.nd rfl (Or.inl rfl) (pe_op op_cat (pe_lc (own := [("_law_name", 9)]) (g := gName 9) (tt := tYes) rfl sc__law_full_rows.nd (pi_list (pv 4)) (blkOk_by (own := [("_law_name", 9)]) (N := N__law_full_rows) (sc := defScope s__law_full_rows) (by decide +kernel)) (fun _ _ _ _ _ => pg_name (i := 9) sc__law_full_rows.nd rfl (Or.inl rfl)) (fun _ _ _ _ _ => pts_nil) (fun _ _ _ _ _ => (pe_op op_addS pe_str (pv 9)))) (pe_lc (own := [("_law_name", 9)]) (g := gName 9) (tt := tYes) rfl sc__law_full_rows.nd (pi_list (pv 5)) (blkOk_by (own := [("_law_name", 9)]) (N := N__law_full_rows) (sc := defScope s__law_full_rows) (by decide +kernel)) (fun _ _ _ _ _ => pg_name (i := 9) sc__law_full_rows.nd rfl (Or.inl rfl)) (fun _ _ _ _ _ => pts_nil) (fun _ _ _ _ _ => (pe_fstr (.cons pe_str (.cons (pe_fmt (pv 9)) (.cons pe_str (.cons (pe_fmt (pe_ix (r := rIxL K) ix_list (pv 4) pe_int (fun _ _ => rfl))) (.cons pe_str .nil))))))))))
      (pss_cons (ps_for PassesOwn.never rfl (pi_range1 rfl T.m_range (pa_cons (pe_ix ix_list (pv 1) pe_int (fun _ _ => rfl)) pa_nil)) (pg_name (i := 7) sc__law_full_rows.nd rfl (Or.inl rfl)) (pss_cons (ps_set (i := 8) sc__law_full_rows.nd rfl (Or.inl rfl) (pe_op op_addS (pe_op op_addS (pe_op op_addS pe_str (pe_ix ix_list (pv 5) (pe_op op_mod (pv 7) pe_int) (fun _ _ => rfl))) pe_str) (pe_ix ix_list (pv 4) pe_int (fun _ _ => rfl))))
      (pss_cons (ps_if (pt_cmpR op_eq (pe_op op_mod (pe_op op_fdivW (pv 7) pe_int) pe_int) pe_int (nomark _)) (pss_one (ps_set (i := 8) sc__law_full_rows.nd rfl (Or.inl rfl) (pe_op op_addS pe_str (pe_ix ix_list (pv 5) (pe_op op_mod (pv 7) pe_int) (fun _ _ => rfl))))) pss_nil)
      (pss_one (ps_expr (pe_bm PySem.F.plainAttrs_list PySem.F.slot_list_append PySem.F.type_list_append mt_append (pv 6) (pa_cons (pe_op op_addS (pe_fstr (.cons pe_str (.cons (pe_fmt (pe_op op_add (pe_op op_add (pv 7) pe_int) (pv 3))) (.cons pe_str (.cons (pe_fmt (pe_op op_add (pv 2) (pv 7))) (.cons pe_str .nil)))))) (pv 8)) pa_nil)))))))
      (pss_one (ps_ret (pe_op op_cat (pv 6) (pe_lst (pa_cons (pe_fstr (.cons pe_str (.cons (pe_fmt (pe_op op_add (pe_op op_add (pe_ix ix_list (pv 1) pe_int (fun _ _ => rfl)) pe_int) (pv 3))) .nil))) pa_nil))))))))), ?_⟩
    try rw [hK]
    rw [show L2.start N__law_full_rows [.ref p, .ref q, .int bs, .int hg] = [some (.ref p), some (.ref q), some (.int bs), some (.int hg), none, none, none, none, none, none] from rfl]
    walk_at "sx"
    refine x_slS fun l1 H1 pk1 S1 => ?_
    have e1 : cutV (ws.map V.str) none (some (c0 : Int)) = (ws.take c0).map V.str := by rw [cut_to, List.map_take]
    rw [e1] at S1
    clear S
    walk_at "sx"
    refine ⟨l1, ws.take c0, rfl, SqL.of sat_at, by rw [List.length_take]; omega, fun ss p2 hp1 hs1 hp2 => ?_⟩
    have S2 := S1.new hp2 (o := .lst (ss.map V.str))
    have pk2 : PK H1 (upd H1 p2 (.lst (ss.map V.str))) := PK.of_ex (Ex.new hp2)
    generalize upd H1 p2 (.lst (ss.map V.str)) = H2 at S2 pk2 ⊢
    clear S1
    walk_at "sx"
    refine x_slS fun l3 H3 pk3 S3 => ?_
    have e3 : cutV (ws.map V.str) (some 7) (some (7 + (c1 : Int))) = ((ws.drop 7).take c1).map V.str := by
      have := cut_mid (xs := ws.map V.str) (i := 7) (j := 7 + c1) (by omega) (by rw [List.length_map]; omega)
      rw [show (7 + c1 - 7) = c1 by omega, ← List.map_drop, ← List.map_take] at this
      exact this
    rw [e3] at S3
    clear S2
    walk_at "sx"
    refine ⟨l3, (ws.drop 7).take c1, rfl, SqL.of sat_at, by rw [List.length_take]; omega, fun ms p4 hp3 hs3 hp4 => ?_⟩
    have S4 := S3.new hp4 (o := .lst (ms.map V.str))
    have pk4 : PK H3 (upd H3 p4 (.lst (ms.map V.str))) := PK.of_ex (Ex.new hp4)
    generalize upd H3 p4 (.lst (ms.map V.str)) = H4 at S4 pk4 ⊢
    clear S3
    have sl : ss.length = c0 := by rw [hp1.length_eq, List.length_take]; omega
    have ml : ms.length = c1 := by rw [hp3.length_eq, List.length_take, List.length_drop]; omega
    have sn : ∀ z ∈ ss, isN z = true := fun z hz => nm z (List.mem_of_mem_take (hp1.mem_iff.mp hz))
    have mn : ∀ z ∈ ms, isN z = true := fun z hz => nm z (List.mem_of_mem_drop (List.mem_of_mem_take (hp3.mem_iff.mp hz)))
    have n0 := isN_len (sn _ (nth_mem (ms := ss) (i := 0) (by omega)))
    have n1 := isN_len (sn _ (nth_mem (ms := ss) (i := 1) (by omega)))
    have S5 : Sat H4 (cell p2 (.lst (ss.map V.str)) :: cell p4 (.lst (ms.map V.str)) :: cell p (.lst (ws.map V.str)) :: cell q (.lst [.int (c0 : Int), .int (c1 : Int), .int (c2 : Int)]) :: Rs) := S4.pick
    clear S4
    have pk04 : PK H H4 := pk1.trans (pk2.trans (pk3.trans pk4))
    clear pk1 pk2 pk3 pk4
    walk_at "sx"
    refine x_lcQ (walk_list (xs := ss.map V.str)) (fun D i H' => PK H4 H' ∧ Sat H' (cell D (.lst (rowsV ((ss.take i).map .side))) :: cell p2 (.lst (ss.map V.str)) :: cell p4 (.lst (ms.map V.str)) :: cell p (.lst (ws.map V.str)) :: cell q (.lst [.int (c0 : Int), .int (c1 : Int), .int (c2 : Int)]) :: Rs)) (fun D hD => ⟨PK.of_ex (Ex.new hD), S5.new hD⟩) (fun D i H' _ h => ?_) (fun D i y H6 H7 hi h yy => ?_) (fun r1 H6 h => ?_)
    · have S6 := h.2
      exact SqL.of sat_at
    · obtain ⟨pk6, S6⟩ := h
      obtain ⟨rfl, hy⟩ := yy
      clear S5
      rw [List.getElem?_map] at hy
      cases hp : ss[i]? with
      | none => rw [hp] at hy; cases hy
      | some n =>
        rw [hp] at hy
        cases hy
        have hn := isN_len (sn n (List.mem_of_getElem? hp))
        walk_at "sx"
        have l5 : ("side " : Str).length = 5 := rfl
        refine x_addS (by rw [l5, sizeLine_eq]; omega) ?_
        refine x_eltS (by rw [List.length_map, List.length_map, List.length_map, List.length_take, sizeLine_eq]; omega) fun H8 pk8 S8 => ⟨pk6.trans pk8, ?_⟩
        rw [List.take_succ, hp, List.map_append]
        unfold rowsV
        rw [List.map_append, List.map_append]
        rw [txt_side] at S8
        exact S8
    obtain ⟨pk6, S6⟩ := h
    clear S5
    rw [List.length_map, List.take_length] at S6
    walk_at "sx"
    refine x_lcQ (walk_list (xs := ms.map V.str)) (fun D i H' => PK H6 H' ∧ Sat H' (cell D (.lst (rowsV ((ms.take i).map (manI (nthS ss 0))))) :: cell r1 (.lst (rowsV (ss.map .side))) :: cell p2 (.lst (ss.map V.str)) :: cell p4 (.lst (ms.map V.str)) :: cell p (.lst (ws.map V.str)) :: cell q (.lst [.int (c0 : Int), .int (c1 : Int), .int (c2 : Int)]) :: Rs)) (fun D hD => ⟨PK.of_ex (Ex.new hD), S6.new hD⟩) (fun D i H' _ h => ?_) (fun D i y H7 H8 hi h yy => ?_) (fun r2 H7 h => ?_)
    · have S7 := h.2
      exact SqL.of sat_at
    · obtain ⟨pk7, S7⟩ := h
      obtain ⟨rfl, hy⟩ := yy
      clear S6
      rw [List.getElem?_map] at hy
      cases hp : ms[i]? with
      | none => rw [hp] at hy; cases hy
      | some n =>
        rw [hp] at hy
        cases hy
        have hn := isN_len (mn n (List.mem_of_getElem? hp))
        have l4 : ("man " : Str).length = 4 := rfl
        have l1 : (" " : Str).length = 1 := rfl
        have l2 : (" 3" : Str).length = 2 := rfl
        have le : Str.empty.length = 0 := rfl
        walk_at "sx"
        refine x_fj (by rw [Str.length_append, l4, le, sizeLine_eq]; omega) ?_
        walk_at "sx"
        refine x_fmtS (by rw [sizeLine_eq]; omega) ?_
        refine x_fj (by rw [Str.length_append, Str.length_append, l4, le, sizeLine_eq]; omega) ?_
        walk_at "sx"
        refine x_fj (by rw [Str.length_append, Str.length_append, Str.length_append, l4, le, l1, sizeLine_eq]; omega) ?_
        walk_at "sx"
        refine x_ixLn (SqL.of sat_at) (by decide) (nth_val (ms := ss) (i := 0) rfl (by omega)) ?_
        refine x_fmtS (by rw [sizeLine_eq]; omega) ?_
        refine x_fj (by rw [Str.length_append, Str.length_append, Str.length_append, Str.length_append, l4, le, l1, sizeLine_eq]; omega) ?_
        walk_at "sx"
        refine x_fj (by rw [Str.length_append, Str.length_append, Str.length_append, Str.length_append, Str.length_append, l4, le, l1, l2, sizeLine_eq]; omega) ?_
        walk_at "sx"
        rw [txt_man]
        refine x_eltS (by rw [List.length_map, List.length_map, List.length_map, List.length_take, sizeLine_eq]; omega) fun H9 pk9 S9 => ⟨pk7.trans pk9, ?_⟩
        rw [List.take_succ, hp, List.map_append]
        unfold rowsV
        rw [List.map_append, List.map_append]
        exact S9
    obtain ⟨pk7, S7⟩ := h
    clear S6
    rw [List.length_map, List.take_length] at S7
    walk_at "sx"
    refine x_catS (by rw [List.length_map, List.length_map, List.length_map, List.length_map, List.length_map, List.length_map, sizeLine_eq]; omega) fun r3 H8 pk8 S8 => ?_
    clear S7
    have S9 : Sat H8 (cell r3 (.lst (rowsV (ss.map .side ++ ms.map (manI (nthS ss 0)) ++ ([] : List Item)))) :: cell p2 (.lst (ss.map V.str)) :: cell p4 (.lst (ms.map V.str)) :: cell p (.lst (ws.map V.str)) :: cell q (.lst [.int (c0 : Int), .int (c1 : Int), .int (c2 : Int)]) :: Rs) := by
      rw [List.append_nil]
      unfold rowsV
      rw [List.map_append, List.map_append]
      exact S8.pick
    clear S8
    walk_at "sx"
    refine x_iRQ (by omega) (by omega) ?_
    rw [Int.toNat_natCast]
    refine x_forQ walk_r0 (fun i σ H' => PK H8 H' ∧ (∃ v1 v2 : Option V, σ = [some (.ref p), some (.ref q), some (.int bs), some (.int hg), some (.ref p2), some (.ref p4), some (.ref r3), v1, v2, none]) ∧ Sat H' (cell r3 (.lst (rowsV (ss.map .side ++ ms.map (manI (nthS ss 0)) ++ (List.range i).map (deedI ss ms bs hg)))) :: cell p2 (.lst (ss.map V.str)) :: cell p4 (.lst (ms.map V.str)) :: cell p (.lst (ws.map V.str)) :: cell q (.lst [.int (c0 : Int), .int (c1 : Int), .int (c2 : Int)]) :: Rs)) ⟨PK.refl, ⟨_, _, rfl⟩, S9⟩ (fun _ _ _ _ _ => trivial) (fun i x σ H10 H11 hi h y => ?_) (fun σ H10 h => ?_)
    · obtain ⟨pk10, ⟨v1, v2, rfl⟩, S10⟩ := h
      obtain ⟨rfl, rfl⟩ := y
      clear S9
      have ln := isN_len (mn _ (nth_mem (ms := ms) (i := i % 3) (by omega)))
      have l5 : ("take " : Str).length = 5 := rfl
      have l5f : ("free " : Str).length = 5 := rfl
      have l1 : (" " : Str).length = 1 := rfl
      have ld : ("deed " : Str).length = 5 := rfl
      have le : Str.empty.length = 0 := rfl
      have f1 : (nt ((i : Int) + 1 + hg)).length ≤ 10 := nt_len (by omega) (by omega)
      have f2 : (nt (bs + (i : Int))).length ≤ 10 := nt_len (by omega) (by omega)
      walk_at "sx"
      refine x_ixLn (SqL.of sat_at) (by omega) (nth_val (ms := ms) (i := i % 3) (by omega) (by omega)) ?_
      walk_at "sx"
      refine x_addS (by rw [l5, sizeLine_eq]; omega) ?_
      walk_at "sx"
      refine x_addS (by rw [Str.length_append, l5, l1, sizeLine_eq]; omega) ?_
      walk_at "sx"
      refine x_ixLn (SqL.of sat_at) (by decide) (nth_val (ms := ss) (i := 1) rfl (by omega)) ?_
      walk_at "sx"
      refine x_addS (by rw [Str.length_append, Str.length_append, l5, l1, sizeLine_eq]; omega) ?_
      rw [txt_take]
      walk_at "sx"
      have lr : (rowsV (ss.map .side ++ ms.map (manI (nthS ss 0)) ++ (List.range i).map (deedI ss ms bs hg))).length = c0 + c1 + i := by
        unfold rowsV
        rw [List.length_map, List.length_map, List.length_append, List.length_append, List.length_map, List.length_map, List.length_map, List.length_range]
        omega
      refine x_ifD (fun c => ?_) (fun c => ?_)
      · walk_at "sx"
        refine x_ixLn (SqL.of sat_at) (by omega) (nth_val (ms := ms) (i := i % 3) (by omega) (by omega)) ?_
        refine x_addS (by rw [l5f, sizeLine_eq]; omega) ?_
        have lj : (jn (Deed.free (nthS ms (i % 3))).wd).length ≤ 13 := by rw [← txt_free, Str.length_append, l5f]; omega
        rw [txt_free]
        walk_at "sx"
        refine x_fj (by rw [Str.length_append, ld, le, sizeLine_eq]; omega) ?_
        walk_at "sx"
        refine x_fmtI (by omega) ?_
        refine x_fj (by rw [Str.length_append, Str.length_append, ld, le, sizeLine_eq]; omega) ?_
        walk_at "sx"
        refine x_fj (by rw [Str.length_append, Str.length_append, Str.length_append, ld, le, l1, sizeLine_eq]; omega) ?_
        walk_at "sx"
        refine x_fmtI (by omega) ?_
        refine x_fj (by rw [Str.length_append, Str.length_append, Str.length_append, Str.length_append, ld, le, l1, sizeLine_eq]; omega) ?_
        walk_at "sx"
        refine x_fj (by rw [Str.length_append, Str.length_append, Str.length_append, Str.length_append, Str.length_append, ld, le, l1, sizeLine_eq]; omega) ?_
        walk_at "sx"
        refine x_addS (by rw [Str.length_append, Str.length_append, Str.length_append, Str.length_append, Str.length_append, ld, le, l1, sizeLine_eq]; omega) ?_
        rw [txt_deed _ _ (Deed.free (nthS ms (i % 3))).wd (List.cons_ne_nil _ _)]
        have dz : dl ss ms bs hg i = ((i : Int) + 1 + hg, bs + (i : Int), .free (nthS ms (i % 3))) := by
          unfold dl
          rw [if_pos (by omega)]
        refine x_appendS (by rw [lr, sizeLine_eq]; omega) fun H11 pk11 S11 => ?_
        refine ⟨pk10.trans pk11, ⟨_, _, rfl⟩, ?_⟩
        have er : rowsV (ss.map .side ++ ms.map (manI (nthS ss 0)) ++ (List.range (i + 1)).map (deedI ss ms bs hg)) = rowsV (ss.map .side ++ ms.map (manI (nthS ss 0)) ++ (List.range i).map (deedI ss ms bs hg)) ++ [.str (jn ("deed" :: nt ((i : Int) + 1 + hg) :: nt (bs + (i : Int)) :: (.free (nthS ms (i % 3)) : Deed).wd))] := by
          unfold rowsV
          simp only [List.range_succ, List.map_append, List.append_assoc]
          have dI : deedI ss ms bs hg i = .deed (dl ss ms bs hg i) := rfl
          rw [dz] at dI
          show _ ++ (_ ++ (_ ++ [V.str (jn (deedI ss ms bs hg i).ws)])) = _
          rw [dI]
          rfl
        rw [er]
        exact S11
      · have lj : (jn (Deed.take (nthS ms (i % 3)) (nthS ss 1)).wd).length ≤ 22 := by rw [← txt_take, Str.length_append, Str.length_append, Str.length_append, l5, l1]; omega
        walk_at "sx"
        refine x_fj (by rw [Str.length_append, ld, le, sizeLine_eq]; omega) ?_
        walk_at "sx"
        refine x_fmtI (by omega) ?_
        refine x_fj (by rw [Str.length_append, Str.length_append, ld, le, sizeLine_eq]; omega) ?_
        walk_at "sx"
        refine x_fj (by rw [Str.length_append, Str.length_append, Str.length_append, ld, le, l1, sizeLine_eq]; omega) ?_
        walk_at "sx"
        refine x_fmtI (by omega) ?_
        refine x_fj (by rw [Str.length_append, Str.length_append, Str.length_append, Str.length_append, ld, le, l1, sizeLine_eq]; omega) ?_
        walk_at "sx"
        refine x_fj (by rw [Str.length_append, Str.length_append, Str.length_append, Str.length_append, Str.length_append, ld, le, l1, sizeLine_eq]; omega) ?_
        walk_at "sx"
        refine x_addS (by rw [Str.length_append, Str.length_append, Str.length_append, Str.length_append, Str.length_append, ld, le, l1, sizeLine_eq]; omega) ?_
        rw [txt_deed _ _ (Deed.take (nthS ms (i % 3)) (nthS ss 1)).wd (List.cons_ne_nil _ _)]
        have dz : dl ss ms bs hg i = ((i : Int) + 1 + hg, bs + (i : Int), .take (nthS ms (i % 3)) (nthS ss 1)) := by
          unfold dl
          rw [if_neg (by omega)]
        refine x_appendS (by rw [lr, sizeLine_eq]; omega) fun H11 pk11 S11 => ?_
        refine ⟨pk10.trans pk11, ⟨_, _, rfl⟩, ?_⟩
        have er : rowsV (ss.map .side ++ ms.map (manI (nthS ss 0)) ++ (List.range (i + 1)).map (deedI ss ms bs hg)) = rowsV (ss.map .side ++ ms.map (manI (nthS ss 0)) ++ (List.range i).map (deedI ss ms bs hg)) ++ [.str (jn ("deed" :: nt ((i : Int) + 1 + hg) :: nt (bs + (i : Int)) :: (.take (nthS ms (i % 3)) (nthS ss 1) : Deed).wd))] := by
          unfold rowsV
          simp only [List.range_succ, List.map_append, List.append_assoc]
          have dI : deedI ss ms bs hg i = .deed (dl ss ms bs hg i) := rfl
          rw [dz] at dI
          show _ ++ (_ ++ (_ ++ [V.str (jn (deedI ss ms bs hg i).ws)])) = _
          rw [dI]
          rfl
        rw [er]
        exact S11
    · obtain ⟨pk10, ⟨v1, v2, rfl⟩, S10⟩ := h
      clear S9
      have f1 : (nt ((c2 : Int) + 1 + hg)).length ≤ 10 := nt_len (by omega) (by omega)
      have ld : ("next " : Str).length = 5 := rfl
      have le : Str.empty.length = 0 := rfl
      walk_at "sx"
      refine x_fj (by rw [Str.length_append, ld, le, sizeLine_eq]; omega) ?_
      walk_at "sx"
      refine x_fmtI (by omega) ?_
      refine x_fj (by rw [Str.length_append, Str.length_append, ld, le, sizeLine_eq]; omega) ?_
      rw [txt_next]
      walk_at "sx"
      have lr : (rowsV (ss.map .side ++ ms.map (manI (nthS ss 0)) ++ (List.range c2).map (deedI ss ms bs hg))).length = c0 + c1 + c2 := by
        unfold rowsV
        rw [List.length_map, List.length_map, List.length_append, List.length_append, List.length_map, List.length_map, List.length_map, List.length_range]
        omega
      refine x_catS (by rw [lr, sizeLine_eq]; show _ + 1 ≤ _; omega) fun r4 H12 pk12 S12 => ?_
      refine k r4 ss ms H12 hp1 hs1 hp3 hs3 (pk04.trans (pk6.trans (pk7.trans (pk8.trans (pk10.trans (PK.trans (by assumption) pk12)))))) ?_
      have er : rowsV (itemsL ss ms c2 bs hg) = rowsV (ss.map .side ++ ms.map (manI (nthS ss 0)) ++ (List.range c2).map (deedI ss ms bs hg)) ++ [.str (jn ["next", nt ((c2 : Int) + 1 + hg)])] := by
        unfold itemsL rowsV
        simp only [List.map_append, List.append_assoc]
        rfl
      rw [er]
      exact S12.pick
end

/-! ### the first wrong row -/
abbrev s__law_wrong_at : Stmt := top 74
abbrev N__law_wrong_at : List Str := ["_law_rows", "_law_told", "_law_kinds", "e"]
theorem sc__law_wrong_at : FnScope N__law_wrong_at ["_law_rows"] (defScope s__law_wrong_at) := ⟨rfl, rfl, rfl, by decide +kernel, rfl, by decide +kernel, by decide +kernel⟩

def xfQ (a : Addr) (cls : Value) (d : Option Addr) (C : Addr) (f : Str) (Q : VK) : VK := fun x H1 => x = .ref a ∧ cls = .ref C ∧ ∃ (dd : Addr) (fs : List (Str × V)) (v : V), d = some dd ∧ H1 dd = some (.xd fs) ∧ fs.lookup f = some v ∧ Q v H1
instance r_xf {a : Addr} {cls : Value} {d : Option Addr} {C : Addr} {f : Str} {te : TE} {σ : L2.St} {H : Hp} {Q : VK} {R : Prop} [n : Run (te σ H (xfQ a cls d C f Q)) R] : Run (tXf a cls d C f te σ H Q) R := ⟨fun h => n.go h⟩
theorem x_xf {a C dd : Addr} {f : Str} {v : V} {H : Hp} {Q : VK} (h : H dd = some (.xd [(f, v)])) (q : Q v H) : xfQ a (.ref C) (some dd) C f Q (.ref a) H :=
  ⟨rfl, rfl, dd, _, v, rfl, h, by rw [List.lookup_cons, beq_self_eq_true], q⟩
theorem kitAny_cons {K : PySem.W.Frag} {t c : Value} {r : List Value} (h : PySem.W.kitOne K t c = some false) : PySem.W.kitAny K t (c :: r) = PySem.W.kitAny K t r := by
  show (match PySem.W.kitOne K t c with | some true => some true | some false => PySem.W.kitAny K t r | none => none) = _
  rw [h]
section
variable {P : Program} {w : World} {K : PySem.W.Frag} {mg : Str → Option Value} {base : Heap}
theorem D_wrong_at (T : Txt K mg) (D_read_book : Dn P w K mg base (L2.CX P w) 12 "read_book" ["rows"] (spReadBook K)) (F : Df K mg "_law_wrong_at" s__law_wrong_at) : Dn P w K mg base CX0 13 "_law_wrong_at" ["_law_rows"] (spWrongAt K) := by
  refine F.dn sc__law_wrong_at (fun _ _ _ _ _ _ us hl => match us, hl with | [_], _ => rfl) (fun vs H Q E h => ?_) (fun f cdv A outer s H vs Q E hr hK h => ?_)
  · obtain ⟨p, its, i, Rs, rfl, _⟩ := h
    rfl
  · obtain ⟨p, its, i, Rs, rfl, S, R, k⟩ := h
    refine ⟨_, (pss_cons (ps_set (i := 1) sc__law_wrong_at.nd rfl (Or.inl rfl) pe_non)
      (pss_cons (ps_set (i := 2) sc__law_wrong_at.nd rfl (Or.inl rfl) (pe_lst pa_nil))
      (pss_cons (ps_try_as (i := 3) rfl rfl sc__law_wrong_at.nd rfl rfl ⟨rfl, by decide, .inl T.g_BadRow⟩ takes0 (fun W pn xe tk tp => (pss_one (ps_expr (pe_dnS D_read_book (hr.mono (by first | decide | omega)) (fun σ => passAt tk σ) (pa_cons (pv 0) pa_nil))))) (fun a oe cls d pn hz hf => (pss_cons (ps_set (i := 1) sc__law_wrong_at.nd rfl (Or.inl rfl) (pe_xf T.xf_BadRow T.no_BadRow_at hz hf (pv 3)))
      (pss_one (ps_set (i := 2) sc__law_wrong_at.nd rfl (Or.inl rfl) (pe_lst (pa_cons (pe_callB (call_isXd hz hf) rfl T.m_isinstance boot_isinstance (pa_cons (pv 3) (pa_cons (pe_glob (v := .ref (He.ga K "CartelError")) rfl T.x_CartelError.g rfl) pa_nil))) (pa_cons (pe_callB (call_isXd hz hf) rfl T.m_isinstance boot_isinstance (pa_cons (pv 3) (pa_cons (pe_bltn rfl T.m_ValueError (v := .ty "ValueError") (by decide +kernel) rfl) pa_nil))) (pa_cons (pe_callB (call_isXdT hz hf) rfl T.m_isinstance boot_isinstance (pa_cons (pv 3) (pa_cons (pe_tup (pa_cons (pe_glob (v := .ref (He.ga K "BadName")) rfl T.x_BadName.g rfl) (pa_cons (pe_glob (v := .ref (He.ga K "NoMan")) rfl T.x_NoMan.g rfl) (pa_cons (pe_glob (v := .ref (He.ga K "Breaks")) rfl T.g_Breaks rfl) (pa_cons (pe_glob (v := .ref (He.ga K "Full")) rfl T.x_Full.g rfl) pa_nil))))) pa_nil))) pa_nil)))))))))
      (pss_cons (ps_if (pt_cmpR (op_neD hr.units) (pv 2) (pe_lst (pa_cons pe_bl (pa_cons pe_bl (pa_cons pe_bl pa_nil)))) (nomark _)) (pss_one (ps_ret pe_non)) pss_nil)
      (pss_one (ps_ret (pv 1))))))), ?_⟩
    try rw [hK]
    rw [show L2.start N__law_wrong_at [.ref p] = [some (.ref p), none, none, none] from rfl]
    walk_at "sx"
    rename_i kp H1 pk1 S1
    clear S
    refine ⟨p, its, .inl i, cell kp (.lst []) :: Rs, rfl, S1.swap, R, (fun S h => nomatch h), fun i' e d H2 pk2 S2 hd => ?_⟩
    cases e
    clear S1
    refine ⟨true, T.em_BadRow_BadRow, fun _ a ha => ?_, fun h => nomatch h⟩
    show tSeq _ _ _ _ _
    walk_at "sx"
    refine x_xf hd ?_
    walk_at "sx"
    refine x_isXd hd T.ec_BadRow T.ki_BadRow_CartelError ?_
    walk_at "sx"
    refine x_isXdt hd T.ec_BadRow T.ki_BadRow_ValueError ?_
    have S3 : SatP H2 (cell p (.lst (rowsV its)) :: cell kp (.lst []) :: Rs) := ⟨S2⟩
    clear S2
    walk_at "sx"
    intro t ht
    have e4 : Ex H2 (upd H2 t (.tup [V.ref (He.ga K "BadName"), .ref (He.ga K "NoMan"), .ref (He.ga K "Breaks"), .ref (He.ga K "Full")])) := Ex.new ht
    have h4 : upd H2 t (.tup [V.ref (He.ga K "BadName"), .ref (He.ga K "NoMan"), .ref (He.ga K "Breaks"), .ref (He.ga K "Full")]) t = some (.tup [V.ref (He.ga K "BadName"), .ref (He.ga K "NoMan"), .ref (He.ga K "Breaks"), .ref (He.ga K "Full")]) := upd_same
    generalize upd H2 t (.tup [V.ref (He.ga K "BadName"), .ref (He.ga K "NoMan"), .ref (He.ga K "Breaks"), .ref (He.ga K "Full")]) = H4 at e4 h4 ⊢
    obtain ⟨S3⟩ := S3
    have S4 : Sat H4 (cell p (.lst (rowsV its)) :: cell kp (.lst []) :: Rs) := S3.mono e4
    clear S3
    walk_at "sx"
    refine ⟨He.ga K "BadRow", d, t, _, [He.ga K "BadName", He.ga K "NoMan", He.ga K "Breaks", He.ga K "Full"], false, rfl, rfl, e4 _ _ hd, T.ec_BadRow, rfl, h4, ?_, ?_⟩
    · show PySem.W.kitAny K _ [.ref (He.ga K "BadName"), .ref (He.ga K "NoMan"), .ref (He.ga K "Breaks"), .ref (He.ga K "Full")] = _
      rw [kitAny_cons T.ki_BadRow_BadName, kitAny_cons T.ki_BadRow_NoMan, kitAny_cons T.ki_BadRow_Breaks, kitAny_cons T.ki_BadRow_Full]
      rfl
    walk_at "sx"
    rename_i q1 H5 pk5 S5 q2 H6 pk6 S6
    have dv : DpAll K H6 [.bl true, .bl true, .bl false] [.bool true, .bool true, .bool false] := .cons (.bl _) (.cons (.bl _) (.cons (.bl _) .nil))
    refine ⟨.list [.bool true, .bool true, .bool false], .list [.bool true, .bool true, .bool false], .lst (SqL.of sat_at) dv, .lst (SqL.of sat_at) dv, rfl, rfl, ?_⟩
    rw [show PyData.eqv (.list [.bool true, .bool true, .bool false]) (.list [.bool true, .bool true, .bool false]) = true by decide +kernel]
    show bQ _ (.bl false) H6
    walk_at "sx"
    exact k H6 (pk1.trans (pk2.trans ((PK.of_ex e4).trans (pk5.trans pk6)))) S6.pick
end

/-! ### the small rows -/
abbrev s__law_small_rows : Stmt := top 76
abbrev N__law_small_rows : List Str := ["_law_names", "_law_base", "_law_rows", "_law_some", "_law_found", "_law_due", "_law_name", "_law_book"]
theorem sc__law_small_rows : FnScope N__law_small_rows ["_law_names", "_law_base"] (defScope s__law_small_rows) := ⟨rfl, rfl, rfl, by decide +kernel, rfl, by decide +kernel, by decide +kernel⟩

theorem cut_last {xs : List V} : cutV xs (some (-1)) none = xs.drop (xs.length - 1) := by
  unfold cutV
  rw [HT.sIx_none]
  have e : HT.sIx xs.length 0 (some (-1)) = xs.length - 1 := by
    show (if (-1 : Int) < 0 then ((-1 : Int) + (xs.length : Int)).toNat else min (-1 : Int).toNat xs.length) = _
    rw [if_pos (by decide)]
    omega
  rw [e, List.take_of_length_le (by rw [List.length_drop]; omega)]
theorem rowsV_app (a b : List Item) : rowsV (a ++ b) = rowsV a ++ rowsV b := by
  unfold rowsV
  rw [List.map_append, List.map_append]
theorem rowsV_last (a : List Item) (x : Item) : cutV (rowsV (a ++ [x])) (some (-1)) none = rowsV [x] := by
  rw [cut_last, rowsV_app]
  have h : (rowsV a ++ rowsV [x]).length - 1 = (rowsV a).length := by rw [List.length_append]; show _ + 1 - 1 = _; omega
  rw [h, List.drop_left]
theorem strOk_app {a b : Str} (ha : PyData.strOk a = true) (hb : PyData.strOk b = true) : PyData.strOk (a ++ b) = true := by
  have e : ∀ z : Str, PyData.strOk z = z.cps.toList.all fun c => decide (c < 0x110000) := fun z => by
    show z.cps.all _ = _
    rw [← Array.all_toList]
  rw [e] at ha hb ⊢
  rw [show (a ++ b).cps.toList = a.cps.toList ++ b.cps.toList from Array.toList_append, List.all_append, ha, hb]
  rfl
theorem strOk_jn : ∀ {ws : List Str}, (∀ x ∈ ws, PyData.strOk x = true) → PyData.strOk (jn ws) = true
  | [], _ => by decide +kernel
  | [a], h => by rw [jn_one]; exact h a List.mem_cons_self
  | a :: b :: r, h => by
    rw [jn_cons]
    exact strOk_app (h a List.mem_cons_self) (strOk_app (by decide +kernel) (strOk_jn fun x hx => h x (List.mem_cons_of_mem _ hx)))
theorem strOk_nt {i : Int} (h : 0 ≤ i) : PyData.strOk (nt i) = true := by
  obtain ⟨m, rfl⟩ := Int.eq_ofNat_of_zero_le h
  show (nt (m : Int)).cps.all (fun c => decide (c < 0x110000)) = true
  rw [← Array.all_toList]
  refine List.all_eq_true.mpr fun c hc => decide_eq_true ?_
  have := nt_digit hc
  omega
def rowsD (its : List Item) : List PyData := (its.map fun it => jn it.ws).map PyData.str
theorem rowsD_dp {K : PySem.W.Frag} {H : Hp} (its : List Item) : DpAll K H (rowsV its) (rowsD its) := dpAll_strs _
theorem rowsD_ok {its : List Item} (h : ∀ it ∈ its, ∀ x ∈ it.ws, PyData.strOk x = true) {n : Nat} : ∀ d ∈ rowsD its, OkD (n + 1) d := fun d hd => by
  obtain ⟨z, hz, rfl⟩ := List.mem_map.mp hd
  obtain ⟨it, hit, rfl⟩ := List.mem_map.mp hz
  exact .str (strOk_jn (h it hit))
theorem rowsD_len (its : List Item) : (rowsD its).length = its.length := by
  unfold rowsD
  rw [List.length_map, List.length_map]
theorem rowsOk0 {ns : List Str} {k : Int} (h : ns.length < 64) (hn : ∀ n ∈ ns, isN n = true) (h0 : 0 ≤ k) (h1 : k < 10 ^ 10) : RowsOk ns [] [] k :=
  ⟨h, fun n hm => by have := (isN_len (hn n hm)).2; omega, by decide, (fun _ h => nomatch h), .nil, by decide, (fun _ h => nomatch h), h0, h1⟩
theorem rowsT0 (ns : List Str) (k : Int) : (rowsT ns [] [] [] k).map V.str = rowsV (ns.map .side ++ [.next k]) := by
  unfold rowsT rowsV
  simp only [List.map_append, List.map_map, List.map_nil, List.append_nil]
  rfl
theorem sidesK_keys {ss : List Str} : (sidesK ss).map (fun kv => kV kv.1) = ss.map V.str := by
  unfold sidesK
  rw [List.map_map]
  rfl
def oneD (ns : List Str) (k : Int) : PyData := .list [.list (ns.map PyData.str), .list [], .list [], .int k, .list (rowsD (ns.map Item.side ++ [Item.next k]))]
theorem oneD_ok {ns : List Str} {k : Int} (h : ∀ n ∈ ns, isN n = true) (l : ns.length ≤ 6) (h0 : 0 ≤ k) : OkD 3 (oneD ns k) := by
  refine .list (Nat.le_of_ble_eq_true rfl) (List.forall_mem_cons.mpr ⟨.list (by rw [List.length_map]; omega) fun d hd => ?_, List.forall_mem_cons.mpr ⟨.list (by decide) (fun _ h => nomatch h), List.forall_mem_cons.mpr ⟨.list (by decide) (fun _ h => nomatch h), List.forall_mem_cons.mpr ⟨.int _, List.forall_mem_cons.mpr ⟨.list (by rw [rowsD_len, List.length_append, List.length_map]; show _ + 1 ≤ _; omega) (rowsD_ok fun it hit x hx => ?_), fun _ h => nomatch h⟩⟩⟩⟩⟩)
  · obtain ⟨z, hz, rfl⟩ := List.mem_map.mp hd
    exact .str (isN_strOk (h z hz))
  · rcases List.mem_append.mp hit with hit | hit
    · obtain ⟨z, hz, rfl⟩ := List.mem_map.mp hit
      rcases List.mem_cons.mp hx with rfl | hx
      · decide +kernel
      · rw [List.mem_singleton.mp hx]
        exact isN_strOk (h z hz)
    · rw [List.mem_singleton.mp hit] at hx
      rcases List.mem_cons.mp hx with rfl | hx
      · decide +kernel
      · rw [List.mem_singleton.mp hx]
        exact strOk_nt h0
def spSmall : Sp := fun vs H Q _ => ∃ (p : Addr) (ws : List Str) (bs : Int) (Rs : List Res), vs = [.ref p, .int bs] ∧ Sat H (cell p (.lst (ws.map V.str)) :: Rs) ∧ (∀ z ∈ ws, isN z = true) ∧ ws.Nodup ∧ ws.length = 48 ∧ 0 ≤ bs ∧ bs < 900000 ∧ ∀ H', PK H H' → Sat H' (cell p (.lst (ws.map V.str)) :: Rs) → Q (.bl true) H'
section
variable {P : Program} {w : World} {K : PySem.W.Frag} {mg : Str → Option Value} {base : Heap}
theorem D_small_rows (T : Txt K mg) (D_read_book : Dn P w K mg base (L2.CX P w) 12 "read_book" ["rows"] (spReadBook K)) (D_Book_sides : DnM P w K mg base CX0 1 (He.ma K (He.ga K "Book") "sides") ["self"] (spSides K)) (D_Book_men : DnM P w K mg base CX0 1 (He.ma K (He.ga K "Book") "men") ["self"] (spMen K)) (D_Book_deeds : DnM P w K mg base CX0 2 (He.ma K (He.ga K "Book") "deeds") ["self"] (spDeeds K)) (D_Book_upcoming : DnM P w K mg base CX0 1 (He.ma K (He.ga K "Book") "upcoming") ["self"] (spUpcoming K)) (D_book_rows : Dn P w K mg base CX0 3 "book_rows" ["book"] (spBookRows K)) (D__law_alike : Dn P w K mg base CX0 6 "_law_alike" ["_law_found", "_law_due"] (spAlike K 4))
    (F : Df K mg "_law_small_rows" s__law_small_rows) : Dn P w K mg base CX0 13 "_law_small_rows" ["_law_names", "_law_base"] spSmall := by
  refine F.dn sc__law_small_rows (fun _ _ _ _ _ _ us hl => match us, hl with | [_, _], _ => rfl) (fun vs H Q E h => ?_) (fun f cdv A outer s H vs Q E hr hK h => ?_)
  · obtain ⟨p, ws, bs, Rs, rfl, _⟩ := h
    rfl
  · obtain ⟨p, ws, bs, Rs, rfl, S, nm, nd, wl, b0, b1, k⟩ := h
    refine ⟨_, (pss_cons (ps_set (i := 2) sc__law_small_rows.nd rfl (Or.inl rfl) (pe_op op_cat (pe_lc (own := [("_law_name", 6)]) (g := gName 6) (tt := tYes) rfl sc__law_small_rows.nd (pi_list (pe_callB cr_sortedS rfl T.m_sorted boot_sorted (pa_cons (pe_slice sl_list (pv 0) po_none (po_some pe_int)) pa_nil))) (blkOk_by (own := [("_law_name", 6)]) (N := N__law_small_rows) (sc := defScope s__law_small_rows) (by decide +kernel)) (fun _ _ _ _ _ => pg_name (i := 6) sc__law_small_rows.nd rfl (Or.inl rfl)) (fun _ _ _ _ _ => pts_nil) (fun _ _ _ _ _ => (pe_op op_addS pe_str (pv 6)))) (pe_lst (pa_cons (pe_fstr (.cons pe_str (.cons (pe_fmt (pe_op op_add pe_int (pv 1))) .nil))) pa_nil))))
      (pss_cons (ps_set (i := 3) sc__law_small_rows.nd rfl (Or.inl rfl) (pe_lst (pa_cons (pe_dn D_read_book (hr.mono (by first | decide | omega)) passL (pa_cons (pv 2) pa_nil)) (pa_cons (pe_dn D_read_book (hr.mono (by first | decide | omega)) passL (pa_cons (pe_slice sl_list (pv 2) (po_some (pe_un un_neg pe_int)) po_none) pa_nil)) pa_nil))))
      (pss_cons (ps_setLc (i := 4) (own := [("_law_book", 7)]) (g := gName 7) (tt := tYes) rfl sc__law_small_rows.nd rfl rfl (sw_true rfl rfl rfl (by decide +kernel)) (pi_list (pv 3)) (blkOk_by (own := [("_law_book", 7)]) (N := N__law_small_rows) (sc := defScope s__law_small_rows) (by decide +kernel)) (fun _ _ _ _ _ => pg_name (i := 7) sc__law_small_rows.nd rfl (Or.inl rfl)) (fun _ _ _ _ _ => pts_nil) (fun _ _ _ _ _ => (pe_lst (pa_cons (pe_mt0 (pv 7) T.cl_Book T.me_Book_sides D_Book_sides (hr.mono (by first | decide | omega)) pass0) (pa_cons (pe_mt0 (pv 7) T.cl_Book T.me_Book_men D_Book_men (hr.mono (by first | decide | omega)) pass0) (pa_cons (pe_mt0 (pv 7) T.cl_Book T.me_Book_deeds D_Book_deeds (hr.mono (by first | decide | omega)) pass0) (pa_cons (pe_mt0 (pv 7) T.cl_Book T.me_Book_upcoming D_Book_upcoming (hr.mono (by first | decide | omega)) pass0) (pa_cons (pe_dn D_book_rows (hr.mono (by first | decide | omega)) pass0 (pa_cons (pv 7) pa_nil)) pa_nil))))))))
      (pss_cons (ps_set (i := 5) sc__law_small_rows.nd rfl (Or.inl rfl) (pe_lst (pa_cons (pe_lst (pa_cons (pe_callB cr_sortedS rfl T.m_sorted boot_sorted (pa_cons (pe_slice sl_list (pv 0) po_none (po_some pe_int)) pa_nil)) (pa_cons (pe_lst pa_nil) (pa_cons (pe_lst pa_nil) (pa_cons (pe_op op_add pe_int (pv 1)) (pa_cons (pv 2) pa_nil)))))) (pa_cons (pe_lst (pa_cons (pe_lst pa_nil) (pa_cons (pe_lst pa_nil) (pa_cons (pe_lst pa_nil) (pa_cons (pe_op op_add pe_int (pv 1)) (pa_cons (pe_slice sl_list (pv 2) (po_some (pe_un un_neg pe_int)) po_none) pa_nil)))))) pa_nil))))
      (pss_one (ps_ret (pe_dn D__law_alike (hr.mono (by first | decide | omega)) pass0 (pa_cons (pv 4) (pa_cons (pv 5) pa_nil))))))))), ?_⟩
    try rw [hK]
    rw [show L2.start N__law_small_rows [.ref p, .int bs] = [some (.ref p), some (.int bs), none, none, none, none, none, none] from rfl]
    walk_at "sx"
    refine x_slS fun l1 H1 pk1 S1 => ?_
    have e1 : cutV (ws.map V.str) none (some (6 : Int)) = (ws.take 6).map V.str := by rw [show (6 : Int) = ((6 : Nat) : Int) from rfl, cut_to, List.map_take]
    rw [e1] at S1
    clear S
    walk_at "sx"
    refine ⟨l1, ws.take 6, rfl, SqL.of sat_at, by rw [List.length_take]; omega, fun ss p2 hp1 hs1 hp2 => ?_⟩
    have S2 := S1.new hp2 (o := .lst (ss.map V.str))
    have pk2 : PK H1 (upd H1 p2 (.lst (ss.map V.str))) := PK.of_ex (Ex.new hp2)
    generalize upd H1 p2 (.lst (ss.map V.str)) = H2 at S2 pk2 ⊢
    clear S1
    have sl : ss.length = 6 := by rw [hp1.length_eq, List.length_take]; omega
    have sn : ∀ z ∈ ss, isN z = true := fun z hz => nm z (List.mem_of_mem_take (hp1.mem_iff.mp hz))
    have rs : Rise ss := Rise.of hp1 hs1 (nd.sublist (List.take_sublist _ _)) fun z hz => nm z (List.mem_of_mem_take hz)
    have S5 : Sat H2 (cell p2 (.lst (ss.map V.str)) :: cell p (.lst (ws.map V.str)) :: Rs) := S2.pick
    clear S2
    have pk02 : PK H H2 := pk1.trans pk2
    clear pk1 pk2
    walk_at "sx"
    refine x_lcQ (walk_list (xs := ss.map V.str)) (fun D i H' => PK H2 H' ∧ Sat H' (cell D (.lst (rowsV ((ss.take i).map .side))) :: cell p2 (.lst (ss.map V.str)) :: cell p (.lst (ws.map V.str)) :: Rs)) (fun D hD => ⟨PK.of_ex (Ex.new hD), S5.new hD⟩) (fun D i H' _ h => ?_) (fun D i y H6 H7 hi h yy => ?_) (fun r1 H6 h => ?_)
    · have S6 := h.2
      exact SqL.of sat_at
    · obtain ⟨pk6, S6⟩ := h
      obtain ⟨rfl, hy⟩ := yy
      clear S5
      rw [List.getElem?_map] at hy
      cases hp : ss[i]? with
      | none => rw [hp] at hy; cases hy
      | some n =>
        rw [hp] at hy
        cases hy
        have hn := isN_len (sn n (List.mem_of_getElem? hp))
        walk_at "sx"
        have l5 : ("side " : Str).length = 5 := rfl
        refine x_addS (by rw [l5, sizeLine_eq]; omega) ?_
        refine x_eltS (by rw [List.length_map, List.length_map, List.length_map, List.length_take, sizeLine_eq]; omega) fun H8 pk8 S8 => ⟨pk6.trans pk8, ?_⟩
        rw [List.take_succ, hp, List.map_append]
        unfold rowsV
        rw [List.map_append, List.map_append]
        rw [txt_side] at S8
        exact S8
    obtain ⟨pk6, S6⟩ := h
    clear S5
    rw [List.length_map, List.take_length] at S6
    have f1 : (nt (1 + bs)).length ≤ 10 := nt_len (by omega) (by omega)
    have ld : ("next " : Str).length = 5 := rfl
    have le : Str.empty.length = 0 := rfl
    walk_at "sx"
    refine x_fj (by rw [Str.length_append, ld, le, sizeLine_eq]; omega) ?_
    walk_at "sx"
    refine x_fmtI (by omega) ?_
    refine x_fj (by rw [Str.length_append, Str.length_append, ld, le, sizeLine_eq]; omega) ?_
    rw [txt_next]
    walk_at "sx"
    refine x_catS (by rw [show (rowsV (ss.map .side)).length = 6 by unfold rowsV; rw [List.length_map, List.length_map, List.length_map, sl], sizeLine_eq]; show _ + 1 ≤ _; omega) fun r4 H12 pk12 S12 => ?_
    have S13 : Sat H12 (cell r4 (.lst (rowsV (ss.map .side ++ [.next (1 + bs)]))) :: cell p (.lst (ws.map V.str)) :: Rs) := by
      rw [rowsV_app]
      have S12' : Sat H12 (cell r4 (.lst (rowsV (ss.map .side) ++ [.str (jn ["next", nt (1 + bs)])])) :: cell p (.lst (ws.map V.str)) :: Rs) := S12.pick
      exact S12'
    have pk13 : PK H H12 := pk02.trans (pk6.trans (PK.trans (by assumption) pk12))
    clear S12 S6
    clear pk6 pk12
    walk_at "sx"
    obtain ⟨sA, rA, kA, tA⟩ := small_ok (ss := ss) (k := 1 + bs) rs (by omega) (by omega) (by omega)
    obtain ⟨sB, rB, kB, tB⟩ := small_ok (ss := []) (k := 1 + bs) ⟨.nil, fun _ h => nomatch h⟩ (by decide) (by omega) (by omega)
    have rB : Rds 0 R0 [.next (1 + bs)] (.inr sB) := rB
    have tB : sB.st = ⟨[], [], [], [], 1 + bs⟩ := tB
    refine ⟨r4, _, .inr sA, _, rfl, S13, rA, fun S' e => ?_, fun _ h => nomatch h⟩
    cases e
    refine ⟨kA, fun bA H14 pk14 S14 => ?_⟩
    rw [tA] at S14
    clear S13
    walk_at "sx"
    refine x_slS fun r5 H15 pk15 S15 => ?_
    rw [show ((1 : Int)) = 1 from rfl, rowsV_last] at S15
    clear S14
    walk_at "sx"
    refine ⟨r5, _, .inr sB, book (CB K) bA ⟨⟨sidesK ss, [], [], [], 1 + bs⟩, [], []⟩ :: cell r4 (.lst (rowsV (ss.map .side ++ [.next (1 + bs)]))) :: cell p (.lst (ws.map V.str)) :: Rs, rfl, S15, rB, fun S' e => ?_, fun _ h => nomatch h⟩
    cases e
    refine ⟨kB, fun bB H16 pk16 S16 => ?_⟩
    rw [tB] at S16
    clear S15
    walk_at "sx"
    rename_i som H17 pk17 S17
    have pkA : PK H H17 := pk13.trans (pk14.trans (pk15.trans (pk16.trans pk17)))
    clear S16 pk13 pk14 pk15 pk16 pk17
    refine x_lcQ (walk_list (xs := [.ref bA, .ref bB])) (fun D i H' => PK H17 H' ∧ ((i = 0 ∧ Sat H' (cell D (.lst []) :: cell som (.lst [.ref bA, .ref bB]) :: book (CB K) bA ⟨⟨sidesK ss, [], [], [], 1 + bs⟩, [], []⟩ :: book (CB K) bB ⟨⟨[], [], [], [], 1 + bs⟩, [], []⟩ :: cell r4 (.lst (rowsV (ss.map Item.side ++ [Item.next (1 + bs)]))) :: cell r5 (.lst (rowsV [Item.next (1 + bs)])) :: cell p (.lst (ws.map V.str)) :: Rs)) ∨ (i = 1 ∧ ∃ a0 s0 m0 d0 q0 : Addr, Sat H' (cell D (.lst [.ref a0]) :: cell a0 (.lst [.ref s0, .ref m0, .ref d0, .int (1 + bs), .ref q0]) :: cell s0 (.lst (ss.map V.str)) :: cell m0 (.lst []) :: cell d0 (.lst []) :: cell q0 (.lst (rowsV (ss.map Item.side ++ [Item.next (1 + bs)]))) :: cell som (.lst [.ref bA, .ref bB]) :: book (CB K) bA ⟨⟨sidesK ss, [], [], [], 1 + bs⟩, [], []⟩ :: book (CB K) bB ⟨⟨[], [], [], [], 1 + bs⟩, [], []⟩ :: cell r4 (.lst (rowsV (ss.map Item.side ++ [Item.next (1 + bs)]))) :: cell r5 (.lst (rowsV [Item.next (1 + bs)])) :: cell p (.lst (ws.map V.str)) :: Rs)) ∨ (i = 2 ∧ ∃ a0 s0 m0 d0 q0 a1 s1 m1 d1 q1 : Addr, Sat H' (cell D (.lst [.ref a0, .ref a1]) :: cell a0 (.lst [.ref s0, .ref m0, .ref d0, .int (1 + bs), .ref q0]) :: cell s0 (.lst (ss.map V.str)) :: cell m0 (.lst []) :: cell d0 (.lst []) :: cell q0 (.lst (rowsV (ss.map Item.side ++ [Item.next (1 + bs)]))) :: cell a1 (.lst [.ref s1, .ref m1, .ref d1, .int (1 + bs), .ref q1]) :: cell s1 (.lst []) :: cell m1 (.lst []) :: cell d1 (.lst []) :: cell q1 (.lst (rowsV [Item.next (1 + bs)])) :: cell som (.lst [.ref bA, .ref bB]) :: book (CB K) bA ⟨⟨sidesK ss, [], [], [], 1 + bs⟩, [], []⟩ :: book (CB K) bB ⟨⟨[], [], [], [], 1 + bs⟩, [], []⟩ :: cell r4 (.lst (rowsV (ss.map Item.side ++ [Item.next (1 + bs)]))) :: cell r5 (.lst (rowsV [Item.next (1 + bs)])) :: cell p (.lst (ws.map V.str)) :: Rs)))) (fun D hD => ⟨PK.of_ex (Ex.new hD), .inl ⟨rfl, (S17.new hD).pick⟩⟩) (fun D i H' _ h => ?_) (fun D i y H18 H19 hi h yy => ?_) (fun lf H18 h => ?_)
    · rcases h.2 with ⟨_, S18⟩ | ⟨_, a0, s0, m0, d0, q0, S18⟩ | ⟨_, a0, s0, m0, d0, q0, a1, s1, m1, d1, q1, S18⟩
      · exact SqL.of sat_at
      · exact SqL.of sat_at
      · exact SqL.of sat_at
    · obtain ⟨pk18, h⟩ := h
      obtain ⟨rfl, hy⟩ := yy
      clear S17
      rcases h with ⟨rfl, S18⟩ | ⟨rfl, a0, s0, m0, d0, q0, S18⟩ | ⟨rfl, a0, s0, m0, d0, q0, a1, s1, m1, d1, q1, S18⟩
      · cases hy
        walk_at "sx"
        refine ⟨bA, ⟨⟨sidesK ss, [], [], [], 1 + bs⟩, [], []⟩, ss, cell D (.lst []) :: cell som (.lst [.ref bA, .ref bB]) :: book (CB K) bB ⟨⟨[], [], [], [], 1 + bs⟩, [], []⟩ :: cell r4 (.lst (rowsV (ss.map Item.side ++ [Item.next (1 + bs)]))) :: cell r5 (.lst (rowsV [Item.next (1 + bs)])) :: cell p (.lst (ws.map V.str)) :: Rs, rfl, S18.pick, sidesK_keys, by omega, fun s0 ys1 H20 hp1 hq1 pk20 S20 => ?_⟩
        rw [sorted_uniq (hp1 : ys1.Perm ss) hq1 hs1] at S20
        have S20 : Sat H20 (cell s0 (.lst (ss.map V.str)) :: _) := S20
        clear S18
        walk_at "sx"
        refine ⟨bA, ⟨⟨sidesK ss, [], [], [], 1 + bs⟩, [], []⟩, [], cell s0 (.lst (ss.map V.str)) :: cell D (.lst []) :: cell som (.lst [.ref bA, .ref bB]) :: book (CB K) bB ⟨⟨[], [], [], [], 1 + bs⟩, [], []⟩ :: cell r4 (.lst (rowsV (ss.map Item.side ++ [Item.next (1 + bs)]))) :: cell r5 (.lst (rowsV [Item.next (1 + bs)])) :: cell p (.lst (ws.map V.str)) :: Rs, rfl, S20.pick, rfl, by decide, fun m0 ys2 zs2 H21 hp2 _ pk21 S21 tp2 => ?_⟩
        rw [List.perm_nil.mp (hp2 : ys2.Perm [])] at tp2
        cases tp2
        clear S20
        walk_at "sx"
        refine ⟨bA, ⟨⟨sidesK ss, [], [], [], 1 + bs⟩, [], []⟩, [], cell m0 (.lst []) :: cell s0 (.lst (ss.map V.str)) :: cell D (.lst []) :: cell som (.lst [.ref bA, .ref bB]) :: book (CB K) bB ⟨⟨[], [], [], [], 1 + bs⟩, [], []⟩ :: cell r4 (.lst (rowsV (ss.map Item.side ++ [Item.next (1 + bs)]))) :: cell r5 (.lst (rowsV [Item.next (1 + bs)])) :: cell p (.lst (ws.map V.str)) :: Rs, rfl, S21.pick, rfl, .nil, by decide, fun d0 zs3 T3 H22 hp3 _ pk22 S22 tp3 => ?_⟩
        rw [List.perm_nil.mp (hp3 : T3.Perm [])] at tp3
        cases tp3
        clear S21
        walk_at "sx"
        refine ⟨bA, ⟨⟨sidesK ss, [], [], [], 1 + bs⟩, [], []⟩, cell d0 (.lst []) :: cell m0 (.lst []) :: cell s0 (.lst (ss.map V.str)) :: cell D (.lst []) :: cell som (.lst [.ref bA, .ref bB]) :: book (CB K) bB ⟨⟨[], [], [], [], 1 + bs⟩, [], []⟩ :: cell r4 (.lst (rowsV (ss.map Item.side ++ [Item.next (1 + bs)]))) :: cell r5 (.lst (rowsV [Item.next (1 + bs)])) :: cell p (.lst (ws.map V.str)) :: Rs, rfl, S22.pick, ?_⟩
        walk_at "sx"
        refine ⟨bA, ⟨⟨sidesK ss, [], [], [], 1 + bs⟩, [], []⟩, ss, [], [], cell d0 (.lst []) :: cell m0 (.lst []) :: cell s0 (.lst (ss.map V.str)) :: cell D (.lst []) :: cell som (.lst [.ref bA, .ref bB]) :: book (CB K) bB ⟨⟨[], [], [], [], 1 + bs⟩, [], []⟩ :: cell r4 (.lst (rowsV (ss.map Item.side ++ [Item.next (1 + bs)]))) :: cell r5 (.lst (rowsV [Item.next (1 + bs)])) :: cell p (.lst (ws.map V.str)) :: Rs, rfl, S22.pick, sidesK_keys, rfl, rfl, rfl, rowsOk0 (by rw [sl]; decide) (sn) (show 0 ≤ 1 + bs by omega) (show 1 + bs < 10 ^ 10 by omega), fun q0 ys4 zs4 T4 H23 hp4 hq4 hp5 _ hp6 _ pk23 S23 => ?_⟩
        rw [sorted_uniq (hp4 : ys4.Perm ss) hq4 hs1, List.perm_nil.mp (hp5 : zs4.Perm []), List.perm_nil.mp (hp6 : T4.Perm []), show ((rowsT ss [] [] [] (1 + bs)).map V.str) = rowsV (ss.map Item.side ++ [Item.next (1 + bs)]) from by first | exact rowsT0 _ _ | exact rowsT0 [] _] at S23
        clear S22
        walk_at "sx"
        rename_i a0 H24 pk24 S24
        have S24 : Sat H24 (cell a0 (.lst [.ref s0, .ref m0, .ref d0, .int (1 + bs), .ref q0]) :: _) := S24
        clear S23
        refine x_eltS (Nat.le_of_ble_eq_true rfl) fun H25 pk25 S25 => ⟨pk18.trans (pk20.trans (pk21.trans (pk22.trans (pk23.trans (pk24.trans pk25))))), ?_⟩
        have S25 : Sat H25 (_ :: _ :: _ :: _ :: _ :: _ :: cell D (.lst [.ref a0]) :: _) := S25
        exact .inr (.inl ⟨rfl, a0, s0, m0, d0, q0, S25.pick⟩)
      · cases hy
        walk_at "sx"
        refine ⟨bB, ⟨⟨[], [], [], [], 1 + bs⟩, [], []⟩, ([] : List Str), cell D (.lst [.ref a0]) :: cell a0 (.lst [.ref s0, .ref m0, .ref d0, .int (1 + bs), .ref q0]) :: cell s0 (.lst (ss.map V.str)) :: cell m0 (.lst []) :: cell d0 (.lst []) :: cell q0 (.lst (rowsV (ss.map Item.side ++ [Item.next (1 + bs)]))) :: cell som (.lst [.ref bA, .ref bB]) :: book (CB K) bA ⟨⟨sidesK ss, [], [], [], 1 + bs⟩, [], []⟩ :: cell r4 (.lst (rowsV (ss.map Item.side ++ [Item.next (1 + bs)]))) :: cell r5 (.lst (rowsV [Item.next (1 + bs)])) :: cell p (.lst (ws.map V.str)) :: Rs, rfl, S18.pick, rfl, by decide, fun s1 ys1 H20 hp1 hq1 pk20 S20 => ?_⟩
        rw [sorted_uniq (hp1 : ys1.Perm ([] : List Str)) hq1 rfl] at S20
        have S20 : Sat H20 (cell s1 (.lst []) :: _) := S20
        clear S18
        walk_at "sx"
        refine ⟨bB, ⟨⟨[], [], [], [], 1 + bs⟩, [], []⟩, [], cell s1 (.lst []) :: cell D (.lst [.ref a0]) :: cell a0 (.lst [.ref s0, .ref m0, .ref d0, .int (1 + bs), .ref q0]) :: cell s0 (.lst (ss.map V.str)) :: cell m0 (.lst []) :: cell d0 (.lst []) :: cell q0 (.lst (rowsV (ss.map Item.side ++ [Item.next (1 + bs)]))) :: cell som (.lst [.ref bA, .ref bB]) :: book (CB K) bA ⟨⟨sidesK ss, [], [], [], 1 + bs⟩, [], []⟩ :: cell r4 (.lst (rowsV (ss.map Item.side ++ [Item.next (1 + bs)]))) :: cell r5 (.lst (rowsV [Item.next (1 + bs)])) :: cell p (.lst (ws.map V.str)) :: Rs, rfl, S20.pick, rfl, by decide, fun m1 ys2 zs2 H21 hp2 _ pk21 S21 tp2 => ?_⟩
        rw [List.perm_nil.mp (hp2 : ys2.Perm [])] at tp2
        cases tp2
        clear S20
        walk_at "sx"
        refine ⟨bB, ⟨⟨[], [], [], [], 1 + bs⟩, [], []⟩, [], cell m1 (.lst []) :: cell s1 (.lst []) :: cell D (.lst [.ref a0]) :: cell a0 (.lst [.ref s0, .ref m0, .ref d0, .int (1 + bs), .ref q0]) :: cell s0 (.lst (ss.map V.str)) :: cell m0 (.lst []) :: cell d0 (.lst []) :: cell q0 (.lst (rowsV (ss.map Item.side ++ [Item.next (1 + bs)]))) :: cell som (.lst [.ref bA, .ref bB]) :: book (CB K) bA ⟨⟨sidesK ss, [], [], [], 1 + bs⟩, [], []⟩ :: cell r4 (.lst (rowsV (ss.map Item.side ++ [Item.next (1 + bs)]))) :: cell r5 (.lst (rowsV [Item.next (1 + bs)])) :: cell p (.lst (ws.map V.str)) :: Rs, rfl, S21.pick, rfl, .nil, by decide, fun d1 zs3 T3 H22 hp3 _ pk22 S22 tp3 => ?_⟩
        rw [List.perm_nil.mp (hp3 : T3.Perm [])] at tp3
        cases tp3
        clear S21
        walk_at "sx"
        refine ⟨bB, ⟨⟨[], [], [], [], 1 + bs⟩, [], []⟩, cell d1 (.lst []) :: cell m1 (.lst []) :: cell s1 (.lst []) :: cell D (.lst [.ref a0]) :: cell a0 (.lst [.ref s0, .ref m0, .ref d0, .int (1 + bs), .ref q0]) :: cell s0 (.lst (ss.map V.str)) :: cell m0 (.lst []) :: cell d0 (.lst []) :: cell q0 (.lst (rowsV (ss.map Item.side ++ [Item.next (1 + bs)]))) :: cell som (.lst [.ref bA, .ref bB]) :: book (CB K) bA ⟨⟨sidesK ss, [], [], [], 1 + bs⟩, [], []⟩ :: cell r4 (.lst (rowsV (ss.map Item.side ++ [Item.next (1 + bs)]))) :: cell r5 (.lst (rowsV [Item.next (1 + bs)])) :: cell p (.lst (ws.map V.str)) :: Rs, rfl, S22.pick, ?_⟩
        walk_at "sx"
        refine ⟨bB, ⟨⟨[], [], [], [], 1 + bs⟩, [], []⟩, ([] : List Str), [], [], cell d1 (.lst []) :: cell m1 (.lst []) :: cell s1 (.lst []) :: cell D (.lst [.ref a0]) :: cell a0 (.lst [.ref s0, .ref m0, .ref d0, .int (1 + bs), .ref q0]) :: cell s0 (.lst (ss.map V.str)) :: cell m0 (.lst []) :: cell d0 (.lst []) :: cell q0 (.lst (rowsV (ss.map Item.side ++ [Item.next (1 + bs)]))) :: cell som (.lst [.ref bA, .ref bB]) :: book (CB K) bA ⟨⟨sidesK ss, [], [], [], 1 + bs⟩, [], []⟩ :: cell r4 (.lst (rowsV (ss.map Item.side ++ [Item.next (1 + bs)]))) :: cell r5 (.lst (rowsV [Item.next (1 + bs)])) :: cell p (.lst (ws.map V.str)) :: Rs, rfl, S22.pick, rfl, rfl, rfl, rfl, rowsOk0 (by decide) (fun _ h => nomatch h) (show 0 ≤ 1 + bs by omega) (show 1 + bs < 10 ^ 10 by omega), fun q1 ys4 zs4 T4 H23 hp4 hq4 hp5 _ hp6 _ pk23 S23 => ?_⟩
        rw [sorted_uniq (hp4 : ys4.Perm ([] : List Str)) hq4 rfl, List.perm_nil.mp (hp5 : zs4.Perm []), List.perm_nil.mp (hp6 : T4.Perm []), show ((rowsT ([] : List Str) [] [] [] (1 + bs)).map V.str) = rowsV [Item.next (1 + bs)] from by first | exact rowsT0 _ _ | exact rowsT0 [] _] at S23
        clear S22
        walk_at "sx"
        rename_i a1 H24 pk24 S24
        have S24 : Sat H24 (cell a1 (.lst [.ref s1, .ref m1, .ref d1, .int (1 + bs), .ref q1]) :: _) := S24
        clear S23
        refine x_eltS (Nat.le_of_ble_eq_true rfl) fun H25 pk25 S25 => ⟨pk18.trans (pk20.trans (pk21.trans (pk22.trans (pk23.trans (pk24.trans pk25))))), ?_⟩
        have S25 : Sat H25 (_ :: _ :: _ :: _ :: _ :: _ :: cell D (.lst [.ref a0, .ref a1]) :: _) := S25
        exact .inr (.inr ⟨rfl, a0, s0, m0, d0, q0, a1, s1, m1, d1, q1, S25.pick⟩)
      · cases hy
    obtain ⟨pk18, h⟩ := h
    rcases h with ⟨e, _⟩ | ⟨e, _⟩ | ⟨_, a0, s0, m0, d0, q0, a1, s1, m1, d1, q1, S18⟩
    · cases e
    · cases e
    clear S17
    walk_at "sx"
    refine x_slS fun l6 H30 pk30 S30 => ?_
    rw [e1] at S30
    clear S18
    walk_at "sx"
    refine ⟨l6, ws.take 6, rfl, SqL.of sat_at, by rw [List.length_take]; omega, fun ys p7 hp7 hs7 hn7 => ?_⟩
    rw [sorted_uniq (hp7.trans hp1.symm) hs7 hs1]
    have S31 := S30.new hn7 (o := .lst (ss.map V.str))
    have pk31 : PK H30 (upd H30 p7 (.lst (ss.map V.str))) := PK.of_ex (Ex.new hn7)
    generalize upd H30 p7 (.lst (ss.map V.str)) = H31 at S31 pk31 ⊢
    clear S30
    walk_at "sx"
    rename_i t1 G1 g1 U1 t2 G2 g2 U2 t3 G3 g3 U3 t4 G4 g4 U4 t5 G5 g5 U5 t6 G6 g6 U6
    clear U1 U2 U3 U4 U5
    refine x_slS fun t7 G7 g7 U7 => ?_
    rw [rowsV_last] at U7
    clear U6
    walk_at "sx"
    rename_i t8 G8 g8 U8 t9 G9 g9 U9
    clear U8 U7
    have dA : Dp K G9 (.ref lf) (.list [oneD ss (1 + bs), oneD [] (1 + bs)]) := .lst (SqL.of sat_at) (.cons (.lst (SqL.of sat_at) (.cons (.lst (SqL.of sat_at) (dpAll_strs ss)) (.cons (.lst (SqL.of sat_at) .nil) (.cons (.lst (SqL.of sat_at) .nil) (.cons (.int _) (.cons (.lst (SqL.of sat_at) (rowsD_dp _)) .nil)))))) (.cons (.lst (SqL.of sat_at) (.cons (.lst (SqL.of sat_at) .nil) (.cons (.lst (SqL.of sat_at) .nil) (.cons (.lst (SqL.of sat_at) .nil) (.cons (.int _) (.cons (.lst (SqL.of sat_at) (rowsD_dp _)) .nil)))))) .nil))
    have dB : Dp K G9 (.ref t9) (.list [oneD ss (1 + bs), oneD [] (1 + bs)]) := .lst (SqL.of sat_at) (.cons (.lst (SqL.of sat_at) (.cons (.lst (SqL.of sat_at) (dpAll_strs ss)) (.cons (.lst (SqL.of sat_at) .nil) (.cons (.lst (SqL.of sat_at) .nil) (.cons (.int _) (.cons (.lst (SqL.of sat_at) (rowsD_dp _)) .nil)))))) (.cons (.lst (SqL.of sat_at) (.cons (.lst (SqL.of sat_at) .nil) (.cons (.lst (SqL.of sat_at) .nil) (.cons (.lst (SqL.of sat_at) .nil) (.cons (.int _) (.cons (.lst (SqL.of sat_at) (rowsD_dp _)) .nil)))))) .nil))
    refine ⟨_, _, _, rfl, dA, dB, .list (Nat.le_of_ble_eq_true rfl) (List.forall_mem_cons.mpr ⟨oneD_ok sn (by omega) (by omega), List.forall_mem_cons.mpr ⟨oneD_ok (fun _ h => nomatch h) (by decide) (by omega), fun _ h => nomatch h⟩⟩), by decide, fun H' e => ?_⟩
    have S' := U9.mono e
    refine k H' ?_ S'.pick
    exact pkA.trans (pk18.trans (pk30.trans (pk31.trans (g1.trans (g2.trans (g3.trans (g4.trans (g5.trans (g6.trans (g7.trans (g8.trans (g9.trans (PK.of_ex e)))))))))))))
end

/-! ### the full rows, plainly -/
theorem tl_len (ss ms : List Str) (b h : Int) (k : Nat) : (tl ss ms b h k).length = k := by unfold tl; rw [List.length_map, List.length_range]
theorem manW_at {s0 n : Str} {A : List Str} (hn : n ∈ A) : manW (manF s0 A) n = [("man" : Str), n, s0, nt 3] := by
  unfold manW manF
  cases h : (A.map fun m => (m, s0, (3 : Int))).find? (fun f => decide (f.1 = n)) with
  | none =>
    have := List.find?_eq_none.mp h (n, s0, 3) (List.mem_map.mpr ⟨n, hn, rfl⟩)
    exact absurd (decide_eq_true rfl) this
  | some f =>
    have e : decide (f.1 = n) = true := List.find?_some (p := fun f : Str × Str × Int => decide (f.1 = n)) h
    have e := of_decide_eq_true e
    obtain ⟨m, hm, rfl⟩ := List.mem_map.mp (List.mem_of_find?_eq_some h)
    have e : m = n := e
    rw [← e]
theorem rows_full (ss ms : List Str) (b h : Int) (nd : Nat) : (rowsT ss ms (manF (nthS ss 0) ms) (tl ss ms b h nd) ((nd : Int) + 1 + h)).map V.str = rowsV (itemsL ss ms nd b h) := by
  have e : (ms.map fun n => jn (manW (manF (nthS ss 0) ms) n)) = ms.map fun n => jn (manI (nthS ss 0) n).ws := List.map_congr_left fun n hn => by rw [manW_at hn]; rfl
  unfold rowsT rowsV itemsL
  rw [e]
  unfold tl
  simp only [List.map_append, List.map_map, List.append_assoc]
  rfl
theorem dl_okc {ss ms : List Str} {b h : Int} (p : Par ss ms b h) (i : Nat) : (dl ss ms b h i).2.2.ok ∧ ∀ x ∈ (dl ss ms b h i).2.2.wd, PyData.strOk x = true := by
  have hm := p.rm.nm _ (nth_mem (ms := ms) (i := i % 3) (by have := p.l2; omega))
  have hs := p.s1.2.1
  unfold dl
  show Deed.ok (if i / 3 % 2 = 1 then _ else _) ∧ ∀ x ∈ Deed.wd (if i / 3 % 2 = 1 then _ else _), _
  by_cases c : i / 3 % 2 = 1
  · rw [if_pos c]
    refine ⟨isN_word hm, List.forall_mem_cons.mpr ⟨by decide +kernel, List.forall_mem_cons.mpr ⟨isN_strOk hm, fun _ h => nomatch h⟩⟩⟩
  · rw [if_neg c]
    refine ⟨⟨isN_word hm, isN_word hs⟩, List.forall_mem_cons.mpr ⟨by decide +kernel, List.forall_mem_cons.mpr ⟨isN_strOk hm, List.forall_mem_cons.mpr ⟨isN_strOk hs, fun _ h => nomatch h⟩⟩⟩⟩
theorem rowsOk_full {ss ms : List Str} {b h : Int} (p : Par ss ms b h) (l1 : ss.length = 6) (l2 : ms.length = 40) : RowsOk ss (manF (nthS ss 0) ms) (tl ss ms b h 120) (121 + h) := by
  have b0 := p.b0
  have b1 := p.b1
  have h0 := p.h0
  have h1 := p.h1
  refine ⟨by omega, fun n hn => by have := (isN_len (p.rs.nm n hn)).2; omega, by unfold manF; rw [List.length_map]; omega, fun f hf => ?_, tl_nums _ _ _ _ _, by rw [tl_len]; decide, fun t ht => ?_, by omega, by omega⟩
  · unfold manF at hf
    obtain ⟨m, hm, rfl⟩ := List.mem_map.mp hf
    exact ⟨by have := (isN_len (p.rm.nm m hm)).2; show m.length ≤ 100; omega, by have := (isN_len p.s0.2).2; show (nthS ss 0).length ≤ 100; omega, by show (0 : Int) ≤ 3; decide, by show (3 : Int) < 10 ^ 10; decide⟩
  · unfold tl at ht
    obtain ⟨i, hi, rfl⟩ := List.mem_map.mp ht
    have hi := List.mem_range.mp hi
    exact ⟨by show 0 ≤ (i : Int) + 1 + h; omega, by show (i : Int) + 1 + h < 10 ^ 10; omega, by show 0 ≤ b + (i : Int); omega, by show b + (i : Int) < 10 ^ 10; omega, (dl_okc p i).1⟩
theorem items_strOk {ss ms : List Str} {b h : Int} {nd : Nat} (p : Par ss ms b h) : ∀ it ∈ itemsL ss ms nd b h, ∀ x ∈ it.ws, PyData.strOk x = true := by
  have b0 := p.b0
  have h0 := p.h0
  intro it hit
  unfold itemsL at hit
  rcases List.mem_append.mp hit with hit | hit
  · obtain ⟨z, hz, rfl⟩ := List.mem_map.mp hit
    exact List.forall_mem_cons.mpr ⟨by decide +kernel, List.forall_mem_cons.mpr ⟨isN_strOk (p.rs.nm z hz), fun _ h => nomatch h⟩⟩
  rcases List.mem_append.mp hit with hit | hit
  · obtain ⟨z, hz, rfl⟩ := List.mem_map.mp hit
    exact List.forall_mem_cons.mpr ⟨by decide +kernel, List.forall_mem_cons.mpr ⟨isN_strOk (p.rm.nm z hz), List.forall_mem_cons.mpr ⟨isN_strOk p.s0.2, List.forall_mem_cons.mpr ⟨strOk_nt (by decide), fun _ h => nomatch h⟩⟩⟩⟩
  rcases List.mem_append.mp hit with hit | hit
  · obtain ⟨i, hi, rfl⟩ := List.mem_map.mp hit
    exact List.forall_mem_cons.mpr ⟨by decide +kernel, List.forall_mem_cons.mpr ⟨strOk_nt (by show 0 ≤ (i : Int) + 1 + h; omega), List.forall_mem_cons.mpr ⟨strOk_nt (by show 0 ≤ b + (i : Int); omega), (dl_okc p i).2⟩⟩⟩
  · rw [List.mem_singleton.mp hit]
    exact List.forall_mem_cons.mpr ⟨by decide +kernel, List.forall_mem_cons.mpr ⟨strOk_nt (by omega), fun _ h => nomatch h⟩⟩
theorem itemsL_len (ss ms : List Str) (b h : Int) (nd : Nat) : (itemsL ss ms nd b h).length = ss.length + (ms.length + (nd + 1)) := by
  unfold itemsL
  rw [List.length_append, List.length_append, List.length_append, List.length_map, List.length_map, List.length_map, List.length_range]
  rfl
/-- the last deed, as told -/
theorem last_told {H : Hp} {zs : List V} {ss ms : List Str} {b h : Int} (t : TpAll H zs ((tl ss ms b h 120).map deedD)) : ∃ (a : Addr) (x : V), atI zs (-1) = some (.ref a) ∧ H a = some (.tup [.int (120 + h), .int (b + 119), x]) := by
  have l : zs.length = 120 := by rw [t.len, List.length_map, tl_len]
  have hz : zs[119]? = some (zs[119]'(by omega)) := List.getElem?_eq_getElem _
  obtain ⟨d, hd, tp⟩ := t.get hz
  have e : ((tl ss ms b h 120).map deedD)[119]? = some (deedD (dl ss ms b h 119)) := by
    unfold tl
    rw [List.getElem?_map, List.getElem?_map, List.getElem?_range (by decide)]
    rfl
  rw [e] at hd
  cases hd
  generalize zs[119]'(by omega) = v at hz tp
  unfold deedD at tp
  cases tp with
  | tup ha ts =>
    rename_i a xs
    cases ts with
    | cons t1 ts =>
      cases ts with
      | cons t2 ts =>
        cases ts with
        | cons t3 ts =>
          cases ts
          rename_i x1 x2 x3
          cases t1
          cases t2
          refine ⟨a, x3, ?_, ?_⟩
          · unfold atI ixN
            rw [if_neg (by decide), l]
            exact hz
          · rw [ha]
            show some (HO.tup [.int (((119 : Nat) : Int) + 1 + h), .int (b + ((119 : Nat) : Int)), x3]) = _
            rw [show ((119 : Nat) : Int) + 1 + h = 120 + h by omega]
            rfl

/-! ### the law -/
abbrev s_law : Stmt := top 77
abbrev N_law : List Str := ["_law_script", "_law_box_here", "_law_names", "_law_base", "_law_more", "_law_high", "_law_counts", "_law_rows", "_law_at", "_law_book", "_law_last", "_law_found"]
theorem sc_law : FnScope N_law ["_law_script"] (defScope s_law) := ⟨rfl, rfl, rfl, by decide +kernel, rfl, by decide +kernel, by decide +kernel⟩

theorem more_cases {m : Nat} (h : m < 3) : ∃ (v : Int) (c0 c1 c2 at_ : Nat), [V.int 6, V.int 40, V.int 120][m]? = some (.int v) ∧ [V.int 6, V.int 40, V.int 120].set m (.int (v + 1)) = [.int (c0 : Int), .int (c1 : Int), .int (c2 : Int)] ∧ 2 ≤ c0 ∧ c0 ≤ 7 ∧ 3 ≤ c1 ∧ c1 ≤ 41 ∧ c2 ≤ 200 ∧ [V.int 6, V.int ((c0 : Int) + 40), V.int ((c0 : Int) + (c1 : Int) + 120)][m]? = some (.int (at_ : Int)) ∧
    ∀ {ss ms : List Str} {base high : Int}, Par ss ms base high → ss.length = c0 → ms.length = c1 → Rds 0 R0 (itemsL ss ms c2 base high) (.inl at_) := by
  match m, h with
  | 0, _ => exact ⟨6, 7, 40, 120, 6, rfl, rfl, by decide, by decide, by decide, by decide, by decide, rfl, fun p l1 _ => bad_sides p.rs l1⟩
  | 1, _ => exact ⟨40, 6, 41, 120, 46, rfl, rfl, by decide, by decide, by decide, by decide, by decide, rfl, fun p l1 l2 => bad_men p l1 l2⟩
  | 2, _ => exact ⟨120, 6, 40, 121, 166, rfl, rfl, by decide, by decide, by decide, by decide, by decide, rfl, fun p l1 l2 => bad_deeds p l1 l2⟩
theorem high_cases {m : Nat} (h : m < 3) {bs : Int} (b0 : 0 ≤ bs) (b1 : bs < 900000) : ∃ hg : Int, [V.int 0, V.int bs, V.int (9000000000 + bs)][m]? = some (.int hg) ∧ 0 ≤ hg ∧ hg < 9 * 10 ^ 9 + 900000 := by
  match m, h with
  | 0, _ => exact ⟨0, rfl, by decide, by decide⟩
  | 1, _ => exact ⟨bs, rfl, b0, by omega⟩
  | 2, _ => exact ⟨9000000000 + bs, rfl, by omega, by omega⟩
section
variable {P : Program} {w : World} {K : PySem.W.Frag} {mg : Str → Option Value} {base : Heap}
theorem D_law (T : Txt K mg) (D__law_box : Dn P w K mg base CX0 1 "_law_box" ["_law_script"] (spBox K)) (D__law_take : Dn P w K mg base CX0 2 "_law_take" ["_law_box_here", "_law_size"] spTake) (D__law_many_names : Dn P w K mg base CX0 4 "_law_many_names" ["_law_box_here", "_law_many"] spMany)
    (D__law_full_rows : Dn P w K mg base CX0 1 "_law_full_rows" ["_law_names", "_law_counts", "_law_base", "_law_high"] (spFullRows K)) (D__law_small_rows : Dn P w K mg base CX0 13 "_law_small_rows" ["_law_names", "_law_base"] spSmall) (D__law_wrong_at : Dn P w K mg base CX0 13 "_law_wrong_at" ["_law_rows"] (spWrongAt K)) (D__law_alike : Dn P w K mg base CX0 6 "_law_alike" ["_law_found", "_law_due"] (spAlike K 4))
    (D_read_book : Dn P w K mg base (L2.CX P w) 12 "read_book" ["rows"] (spReadBook K)) (D_Book_sides : DnM P w K mg base CX0 1 (He.ma K (He.ga K "Book") "sides") ["self"] (spSides K)) (D_Book_men : DnM P w K mg base CX0 1 (He.ma K (He.ga K "Book") "men") ["self"] (spMen K)) (D_Book_deeds : DnM P w K mg base CX0 2 (He.ma K (He.ga K "Book") "deeds") ["self"] (spDeeds K)) (D_Book_upcoming : DnM P w K mg base CX0 1 (He.ma K (He.ga K "Book") "upcoming") ["self"] (spUpcoming K)) (D_book_rows : Dn P w K mg base CX0 3 "book_rows" ["book"] (spBookRows K))
    {f : Addr} {fd : FuncData} (F : Fun K "law" "law" s_law f fd) : FnOk P w K mg base CX0 14 f fd ["_law_script"] (spLaw K) := by
  refine F.ok sc_law (fun vs H Q E h => ?_) (fun cdv A outer s H vs Q E hr h => ?_)
  · obtain ⟨a, ns, rfl, _⟩ := h
    rfl
  · obtain ⟨sc, ns, rfl, hS, hlen, hbits, k⟩ := h
    have hK : (cxOf CX0 P w K mg base N_law "law" (defScope s_law) f cdv A outer s H E).nox.K = K := rfl
    refine ⟨_, (pss_cons (ps_set (i := 1) sc_law.nd rfl (Or.inl rfl) (pe_dn D__law_box (hr.mono (by first | decide | omega)) pass0 (pa_cons (pv 0) pa_nil)))
      (pss_cons (ps_set (i := 2) sc_law.nd rfl (Or.inl rfl) (pe_dn D__law_many_names (hr.mono (by first | decide | omega)) pass0 (pa_cons (pv 1) (pa_cons pe_int pa_nil))))
      (pss_cons (ps_set (i := 3) sc_law.nd rfl (Or.inl rfl) (pe_dn D__law_take (hr.mono (by first | decide | omega)) pass0 (pa_cons (pv 1) (pa_cons pe_int pa_nil))))
      (pss_cons (ps_set (i := 4) sc_law.nd rfl (Or.inl rfl) (pe_dn D__law_take (hr.mono (by first | decide | omega)) pass0 (pa_cons (pv 1) (pa_cons pe_int pa_nil))))
      (pss_cons (ps_set (i := 5) sc_law.nd rfl (Or.inl rfl) (pe_ix ix_list (pe_lst (pa_cons pe_int (pa_cons (pv 3) (pa_cons (pe_op op_add (pe_op op_mulB pe_int (pe_op op_pow pe_int pe_int)) (pv 3)) pa_nil)))) (pe_dn D__law_take (hr.mono (by first | decide | omega)) pass0 (pa_cons (pv 1) (pa_cons pe_int pa_nil))) (fun _ _ => rfl)))
      (pss_cons (ps_set (i := 6) sc_law.nd rfl (Or.inl rfl) (pe_lst (pa_cons pe_int (pa_cons pe_int (pa_cons pe_int pa_nil)))))
      (pss_cons (ps_if (pt_cmpR op_lt (pv 4) pe_int (nomark _)) (pss_one (ps_asg (pe_op op_add (pe_ix ix_list (pv 6) (pv 4) (fun _ _ => rfl)) pe_int) (pg_sub (pv 6) (pv 4) set_list))) pss_nil)
      (pss_cons (ps_set (i := 7) sc_law.nd rfl (Or.inl rfl) (pe_dn D__law_full_rows (hr.mono (by first | decide | omega)) pass0 (pa_cons (pv 2) (pa_cons (pv 6) (pa_cons (pv 3) (pa_cons (pv 5) pa_nil))))))
      (pss_cons (ps_if (pt_not (pt_val (pe_dn D__law_small_rows (hr.mono (by first | decide | omega)) pass0 (pa_cons (pv 2) (pa_cons (pv 3) pa_nil))))) (pss_one (ps_ret pe_bl)) pss_nil)
      (pss_cons (ps_if (pt_cmpR op_lt (pv 4) pe_int (nomark _)) (pss_cons (ps_set (i := 8) sc_law.nd rfl (Or.inl rfl) (pe_ix ix_list (pe_lst (pa_cons pe_int (pa_cons (pe_op op_add (pe_ix ix_list (pv 6) pe_int (fun _ _ => rfl)) pe_int) (pa_cons (pe_op op_add (pe_op op_add (pe_ix ix_list (pv 6) pe_int (fun _ _ => rfl)) (pe_ix ix_list (pv 6) pe_int (fun _ _ => rfl))) pe_int) pa_nil)))) (pv 4) (fun _ _ => rfl)))
      (pss_one (ps_ret (pe_dn D__law_alike (hr.mono (by first | decide | omega)) pass0 (pa_cons (pe_dn D__law_wrong_at (hr.mono (by first | decide | omega)) pass0 (pa_cons (pv 7) pa_nil)) (pa_cons (pv 8) pa_nil)))))) pss_nil)
      (pss_cons (ps_set (i := 9) sc_law.nd rfl (Or.inl rfl) (pe_dn D_read_book (hr.mono (by first | decide | omega)) passL (pa_cons (pv 7) pa_nil)))
      (pss_cons (ps_set (i := 10) sc_law.nd rfl (Or.inl rfl) (pe_ix ix_list (pe_mt0 (pv 9) T.cl_Book T.me_Book_deeds D_Book_deeds (hr.mono (by first | decide | omega)) pass0) (pe_un un_neg pe_int) (fun _ _ => rfl)))
      (pss_cons (ps_set (i := 11) sc_law.nd rfl (Or.inl rfl) (pe_lst (pa_cons (pe_callB g_len rfl T.m_len boot_len (pa_cons (pe_mt0 (pv 9) T.cl_Book T.me_Book_sides D_Book_sides (hr.mono (by first | decide | omega)) pass0) pa_nil)) (pa_cons (pe_callB g_len rfl T.m_len boot_len (pa_cons (pe_mt0 (pv 9) T.cl_Book T.me_Book_men D_Book_men (hr.mono (by first | decide | omega)) pass0) pa_nil)) (pa_cons (pe_callB g_len rfl T.m_len boot_len (pa_cons (pe_mt0 (pv 9) T.cl_Book T.me_Book_deeds D_Book_deeds (hr.mono (by first | decide | omega)) pass0) pa_nil)) (pa_cons (pe_slice sl_tup (pv 10) po_none (po_some pe_int)) pa_nil))))))
      (pss_cons (ps_if (pt_not (pt_val (pe_dn D__law_alike (hr.mono (by first | decide | omega)) pass0 (pa_cons (pv 11) (pa_cons (pe_op op_cat (pv 6) (pe_lst (pa_cons (pe_tup (pa_cons (pe_op op_add pe_int (pv 5)) (pa_cons (pe_op op_add (pv 3) pe_int) pa_nil))) pa_nil))) pa_nil))))) (pss_one (ps_ret pe_bl)) pss_nil)
      (pss_one (ps_ret (pe_dn D__law_alike (hr.mono (by first | decide | omega)) pass0 (pa_cons (pe_lst (pa_cons (pe_mt0 (pv 9) T.cl_Book T.me_Book_upcoming D_Book_upcoming (hr.mono (by first | decide | omega)) pass0) (pa_cons (pe_dn D_book_rows (hr.mono (by first | decide | omega)) pass0 (pa_cons (pv 9) pa_nil)) pa_nil))) (pa_cons (pe_lst (pa_cons (pe_op op_add pe_int (pv 5)) (pa_cons (pv 7) pa_nil))) pa_nil))))))))))))))))))), ?_⟩
    try rw [hK]
    rw [show L2.start N_law [.ref sc] = [some (.ref sc), none, none, none, none, none, none, none, none, none, none, none] from rfl]
    walk_at "sx"
    refine ⟨sc, ns, rfl, hS, hbits, fun b l H1 hb hl e1 B1 => ?_⟩
    have S1 : Sat H1 [boxR b 0] := ⟨[H1], ⟨l, B1⟩, Ex.refl _, nofun, trivial⟩
    walk_at "sx"
    refine ⟨b, 0, 48, _, rfl, S1, by decide, by decide, fun p1 ws H2 m1 lw mns pk2 hm1 S2 => ?_⟩
    have hn : MNs ws 48 := ⟨lw, mns⟩
    have nm : ∀ z ∈ ws, isN z = true := fun z hz => hn.isN (by decide) hz
    clear S1
    walk_at "sx"
    have S2' : Sat H2 (boxR b m1 :: cell p1 (.lst (ws.map V.str)) :: []) := S2.swap
    clear S2
    refine take_S (by decide) (by decide) (by omega) fun bs H3 b0 b1 pk3 S3 => ?_
    clear S2'
    walk_at "sx"
    refine take_S (by decide) (by decide) (by omega) fun r1 H4 c0 c1 pk4 S4 => ?_
    clear S3
    walk_at "sx"
    refine x_mulB (by unfold CMulX; decide +kernel) ?_
    rw [show (9 : Int) * 10 ^ Int.toNat 9 = 9000000000 by decide +kernel]
    walk_at "sx"
    rename_i q0 H5 pk5 S5
    clear S4
    have S5' : Sat H5 (boxR b (m1 + 2) :: cell q0 (.lst [.int 0, .int bs, .int (9000000000 + bs)]) :: cell p1 (.lst (ws.map V.str)) :: []) := S5.pick
    clear S5
    refine take_S (by decide) (by decide) (by omega) fun r2 H6 d0 d1 pk6 S6 => ?_
    clear S5'
    obtain ⟨hg, eh, g0, g1⟩ := high_cases (m := r2.toNat) (by omega) b0 b1
    refine x_ixLn (SqL.of sat_at) d0 eh ?_
    walk_at "sx"
    rename_i q H7 pk7 S7
    clear S6
    have S8 : Sat H7 (cell p1 (.lst (ws.map V.str)) :: cell q (.lst [.int 6, .int 40, .int 120]) :: []) := S7.pick
    clear S7
    walk_at "sx"
    refine x_ifD (fun c => ?_) (fun c => ?_)
    · obtain ⟨v, k0, k1, k2, at_, ev, es, a1, a2, a3, a4, a5, ea, bad⟩ := more_cases (m := r1.toNat) (by omega)
      walk_at "sx"
      refine x_ixLn (SqL.of sat_at) c0 ev ?_
      walk_at "sx"
      refine x_setS c0 (by rw [List.getElem?_eq_getElem (by show r1.toNat < 3; omega)]; rfl) fun H8 pk8 S9 => ?_
      have S9 : Sat H8 (cell p1 (.lst (ws.map V.str)) :: cell q (.lst ([V.int 6, V.int 40, V.int 120].set r1.toNat (.int (v + 1)))) :: []) := S9.pick
      rw [es] at S9
      clear S8
      walk_at "sx"
      refine ⟨p1, q, ws, k0, k1, k2, bs, hg, [], rfl, S9, nm, lw, a1, a2, a3, a4, a5, b0, b1, g0, g1, fun rw_ ss ms H10 hp1 hq1 hp2 hq2 pk10 S10 => ?_⟩
      have S10' : Sat H10 (cell p1 (.lst (ws.map V.str)) :: cell rw_ (.lst (rowsV (itemsL ss ms k2 bs hg))) :: cell q (.lst [.int (k0 : Int), .int (k1 : Int), .int (k2 : Int)]) :: []) := S10.pick
      clear S9 S10
      walk_at "sx"
      refine ⟨p1, ws, bs, _, rfl, S10', nm, hn.nodup, lw, b0, b1, fun H11 pk11 S11 => ?_⟩
      clear S10'
      walk_at "sx"
      refine x_ifD (fun c => ?_) (fun c' => absurd c c')
      have P1 : Par ss ms bs hg := ⟨Rise.of hp1 hq1 (hn.nodup.sublist (List.take_sublist _ _)) fun z hz => nm z (List.mem_of_mem_take hz), Rise.of hp2 hq2 (hn.nodup.sublist ((List.take_sublist _ _).trans (List.drop_sublist _ _))) fun z hz => nm z (List.mem_of_mem_drop (List.mem_of_mem_take hz)), by rw [hp1.length_eq, List.length_take]; omega, by rw [hp2.length_eq, List.length_take, List.length_drop]; omega, by rw [hp2.length_eq, List.length_take, List.length_drop]; omega, b0, b1, g0, by omega⟩
      have bad := bad P1 (by rw [hp1.length_eq, List.length_take]; omega) (by rw [hp2.length_eq, List.length_take, List.length_drop]; omega)
      walk_at "sx"
      rename_i q1 H12 pk12 S12
      clear S11
      refine x_ixLn (SqL.of sat_at) c0 ea ?_
      walk_at "sx"
      have S13 : Sat H12 (cell rw_ (.lst (rowsV (itemsL ss ms k2 bs hg))) :: []) := S12.pick
      refine ⟨rw_, _, at_, [], rfl, S13, bad, fun H14 pk14 S14 => ?_⟩
      clear S13
      walk_at "sx"
      exact ⟨_, _, .int (at_ : Int), rfl, .int _, .int _, .int _, by decide, fun H' _ => k H'⟩
    · walk_at "sx"
      have e3 : r1 = 3 := by omega
      have S9 : Sat H7 (cell p1 (.lst (ws.map V.str)) :: cell q (.lst [.int ((6 : Nat) : Int), .int ((40 : Nat) : Int), .int ((120 : Nat) : Int)]) :: []) := S8
      clear S8
      refine ⟨p1, q, ws, 6, 40, 120, bs, hg, [], rfl, S9, nm, lw, by decide, by decide, by decide, by decide, by decide, b0, b1, g0, g1, fun rw_ ss ms H10 hp1 hq1 hp2 hq2 pk10 S10 => ?_⟩
      have S10' : Sat H10 (cell p1 (.lst (ws.map V.str)) :: cell rw_ (.lst (rowsV (itemsL ss ms 120 bs hg))) :: cell q (.lst [.int 6, .int 40, .int 120]) :: []) := S10.pick
      clear S9 S10
      have l1 : ss.length = 6 := by rw [hp1.length_eq, List.length_take]; omega
      have l2 : ms.length = 40 := by rw [hp2.length_eq, List.length_take, List.length_drop]; omega
      have P1 : Par ss ms bs hg := ⟨Rise.of hp1 hq1 (hn.nodup.sublist (List.take_sublist _ _)) fun z hz => nm z (List.mem_of_mem_take hz), Rise.of hp2 hq2 (hn.nodup.sublist ((List.take_sublist _ _).trans (List.drop_sublist _ _))) fun z hz => nm z (List.mem_of_mem_drop (List.mem_of_mem_take hz)), by omega, by omega, by omega, b0, b1, g0, by omega⟩
      obtain ⟨S0, rd, kd, st⟩ := full_ok P1 l1 l2
      walk_at "sx"
      refine ⟨p1, ws, bs, _, rfl, S10', nm, hn.nodup, lw, b0, b1, fun H11 pk11 S11 => ?_⟩
      clear S10'
      walk_at "sx"
      refine x_ifD (fun c' => absurd c' c) (fun c => ?_)
      walk_at "sx"
      have S12 : Sat H11 (cell rw_ (.lst (rowsV (itemsL ss ms 120 bs hg))) :: cell p1 (.lst (ws.map V.str)) :: cell q (.lst [.int 6, .int 40, .int 120]) :: []) := S11.pick
      clear S11
      refine ⟨rw_, _, .inr S0, _, rfl, S12, rd, fun S' e => ?_, fun _ h => nomatch h⟩
      cases e
      refine ⟨kd, fun bk H13 pk13 S13 => ?_⟩
      rw [st] at S13
      clear S12
      walk_at "sx"
      refine ⟨bk, ⟨⟨sidesK ss, folkD (manF (nthS ss 0) ms), [], toldD (tl ss ms bs hg 120), 121 + hg⟩, [], []⟩, tl ss ms bs hg 120, cell rw_ (.lst (rowsV (itemsL ss ms 120 bs hg))) :: cell p1 (.lst (ws.map V.str)) :: cell q (.lst [.int 6, .int 40, .int 120]) :: [], rfl, S13, rfl, tl_nums _ _ _ _ _, by rw [tl_len]; decide, fun dq zs T' H14 pT oT pk14 S14 tp => ?_⟩
      rw [ord_uniq pT oT (tl_ord _ _ _ _ _)] at tp
      clear S13
      obtain ⟨la, lx, eI, hla⟩ := last_told tp
      walk_at "sx"
      refine x_ixL (SqL.of sat_at) eI ?_
      walk_at "sx"
      have S14 : Sat H14 (book (CB K) bk ⟨⟨sidesK ss, folkD (manF (nthS ss 0) ms), [], toldD (tl ss ms bs hg 120), 121 + hg⟩, [], []⟩ :: cell rw_ (.lst (rowsV (itemsL ss ms 120 bs hg))) :: cell q (.lst [.int 6, .int 40, .int 120]) :: []) := S14.pick
      refine ⟨bk, ⟨⟨sidesK ss, folkD (manF (nthS ss 0) ms), [], toldD (tl ss ms bs hg 120), 121 + hg⟩, [], []⟩, ss, cell rw_ (.lst (rowsV (itemsL ss ms 120 bs hg))) :: cell q (.lst [.int 6, .int 40, .int 120]) :: [], rfl, S14, sidesK_keys, by omega, fun s1 ys1 H15 hy1 hv1 pk15 S15 => ?_⟩
      have ly1 : ys1.length = 6 := by rw [hy1.length_eq, l1]
      clear S14
      walk_at "sx"
      have S15 : Sat H15 (book (CB K) bk ⟨⟨sidesK ss, folkD (manF (nthS ss 0) ms), [], toldD (tl ss ms bs hg 120), 121 + hg⟩, [], []⟩ :: cell rw_ (.lst (rowsV (itemsL ss ms 120 bs hg))) :: cell q (.lst [.int 6, .int 40, .int 120]) :: []) := S15.pick
      refine ⟨bk, ⟨⟨sidesK ss, folkD (manF (nthS ss 0) ms), [], toldD (tl ss ms bs hg 120), 121 + hg⟩, [], []⟩, manF (nthS ss 0) ms, cell rw_ (.lst (rowsV (itemsL ss ms 120 bs hg))) :: cell q (.lst [.int 6, .int 40, .int 120]) :: [], rfl, S15, rfl, by unfold manF; rw [List.length_map]; omega, fun m1 ys2 zs2 H16 hy2 hv2 pk16 S16 tp2 => ?_⟩
      have ly2 : zs2.length = 40 := by rw [tp2.len, List.length_map, hy2.length_eq, List.length_map]; unfold manF; rw [List.length_map, l2]
      clear S15
      walk_at "sx"
      have S16 : Sat H16 (book (CB K) bk ⟨⟨sidesK ss, folkD (manF (nthS ss 0) ms), [], toldD (tl ss ms bs hg 120), 121 + hg⟩, [], []⟩ :: cell rw_ (.lst (rowsV (itemsL ss ms 120 bs hg))) :: cell q (.lst [.int 6, .int 40, .int 120]) :: []) := S16.pick
      refine ⟨bk, ⟨⟨sidesK ss, folkD (manF (nthS ss 0) ms), [], toldD (tl ss ms bs hg 120), 121 + hg⟩, [], []⟩, tl ss ms bs hg 120, cell rw_ (.lst (rowsV (itemsL ss ms 120 bs hg))) :: cell q (.lst [.int 6, .int 40, .int 120]) :: [], rfl, S16, rfl, tl_nums _ _ _ _ _, by rw [tl_len]; decide, fun d1 zs3 T3 H17 pT3 oT3 pk17 S17 tp3 => ?_⟩
      have ly3 : zs3.length = 120 := by rw [tp3.len, List.length_map, pT3.length_eq, tl_len]
      clear S16
      walk_at "sx"
      have hl17 : H17 la = some (.tup [.int (120 + hg), .int (bs + 119), lx]) := PK.tup (pk15.trans (pk16.trans pk17)) hla
      refine ⟨la, _, rfl, SqT.of hl17, (fun h => absurd (show HT.sIx 3 3 (some 2) = 3 from h.2) (by decide)), fun t1 ht1 => ?_⟩
      rw [show cutV [.int (120 + hg), .int (bs + 119), lx] none (some 2) = [V.int (120 + hg), .int (bs + 119)] from cut_to (k := 2)]
      have ht : upd H17 t1 (.tup [.int (120 + hg), .int (bs + 119)]) t1 = some (.tup [.int (120 + hg), .int (bs + 119)]) := upd_same
      have S18 := S17.mono (Ex.new (o := .tup [.int (120 + hg), .int (bs + 119)]) ht1)
      generalize upd H17 t1 (.tup [.int (120 + hg), .int (bs + 119)]) = H18 at ht S18 ⊢
      clear S17
      walk_at "sx"
      rename_i fo G1 g1 U1 t2 G2 g2 U2 ht2 cl G3 g3 U3
      clear U1 U2 S18
      rw [List.length_map, ly1, ly2, ly3] at U3
      refine x_catS (Nat.le_of_ble_eq_true rfl) fun c1 G4 g4 U4 => ?_
      have U4 : Sat G4 (cell c1 (.lst [.int 6, .int 40, .int 120, .ref t2]) :: _ :: cell fo (.lst [.int 6, .int 40, .int 120, .ref t1]) :: _) := U4
      have U4 : Sat G4 (cell c1 (.lst [.int 6, .int 40, .int 120, .ref t2]) :: cell fo (.lst [.int 6, .int 40, .int 120, .ref t1]) :: book (CB K) bk ⟨⟨sidesK ss, folkD (manF (nthS ss 0) ms), [], toldD (tl ss ms bs hg 120), 121 + hg⟩, [], []⟩ :: cell rw_ (.lst (rowsV (itemsL ss ms 120 bs hg))) :: []) := U4.pick
      clear U3
      have h1 : G4 t1 = some (.tup [.int (120 + hg), .int (bs + 119)]) := PK.tup (g1.trans (g2.trans (g3.trans g4))) ht
      have h2 : G4 t2 = some (.tup [.int (120 + hg), .int (bs + 119)]) := PK.tup (g3.trans g4) ht2
      have dT : ∀ t, G4 t = some (.tup [.int (120 + hg), .int (bs + 119)]) → Dp K G4 (.ref t) (.tuple [.int (120 + hg), .int (bs + 119)]) := fun t h => .tup (SqT.of h) (.cons (.int _) (.cons (.int _) .nil))
      have dA : Dp K G4 (.ref fo) (.list [.int 6, .int 40, .int 120, .tuple [.int (120 + hg), .int (bs + 119)]]) := .lst (SqL.of sat_at) (.cons (.int _) (.cons (.int _) (.cons (.int _) (.cons (dT _ h1) .nil))))
      have dB : Dp K G4 (.ref c1) (.list [.int 6, .int 40, .int 120, .tuple [.int (120 + hg), .int (bs + 119)]]) := .lst (SqL.of sat_at) (.cons (.int _) (.cons (.int _) (.cons (.int _) (.cons (dT _ h2) .nil))))
      walk_at "sx"
      refine ⟨_, _, _, rfl, dA, dB, .list (Nat.le_of_ble_eq_true rfl) (List.forall_mem_cons.mpr ⟨.int _, List.forall_mem_cons.mpr ⟨.int _, List.forall_mem_cons.mpr ⟨.int _, List.forall_mem_cons.mpr ⟨.tuple (Nat.le_of_ble_eq_true rfl) (List.forall_mem_cons.mpr ⟨.int _, List.forall_mem_cons.mpr ⟨.int _, fun _ h => nomatch h⟩⟩), fun _ h => nomatch h⟩⟩⟩⟩), by decide, fun G5 e5 => ?_⟩
      have U5 : Sat G5 (book (CB K) bk ⟨⟨sidesK ss, folkD (manF (nthS ss 0) ms), [], toldD (tl ss ms bs hg 120), 121 + hg⟩, [], []⟩ :: cell rw_ (.lst (rowsV (itemsL ss ms 120 bs hg))) :: []) := (U4.mono e5).pick
      clear U4
      walk_at "sx"
      refine ⟨bk, ⟨⟨sidesK ss, folkD (manF (nthS ss 0) ms), [], toldD (tl ss ms bs hg 120), 121 + hg⟩, [], []⟩, cell rw_ (.lst (rowsV (itemsL ss ms 120 bs hg))) :: [], rfl, U5, ?_⟩
      walk_at "sx"
      refine ⟨bk, ⟨⟨sidesK ss, folkD (manF (nthS ss 0) ms), [], toldD (tl ss ms bs hg 120), 121 + hg⟩, [], []⟩, ss, manF (nthS ss 0) ms, tl ss ms bs hg 120, cell rw_ (.lst (rowsV (itemsL ss ms 120 bs hg))) :: [], rfl, U5, sidesK_keys, rfl, rfl, rfl, rowsOk_full P1 l1 l2, fun nr ys zs5 T5 G6 y1 y2 y3 y4 y5 y6 g6 U6 => ?_⟩
      have y3 : zs5.Perm ms := by
        have e : (manF (nthS ss 0) ms).map (fun f => f.1) = ms := by
          unfold manF
          rw [List.map_map]
          exact List.map_id _
        rwa [e] at y3
      rw [sorted_uniq y1 y2 hq1, sorted_uniq y3 y4 hq2, ord_uniq y5 y6 (tl_ord _ _ _ _ _)] at U6
      have U6 : Sat G6 (cell nr (.lst ((rowsT ss ms (manF (nthS ss 0) ms) (tl ss ms bs hg 120) (121 + hg)).map V.str)) :: cell rw_ (.lst (rowsV (itemsL ss ms 120 bs hg))) :: []) := U6.pick
      rw [show (121 : Int) + hg = ((120 : Nat) : Int) + 1 + hg by omega, rows_full] at U6
      clear U5
      walk_at "sx"
      rename_i la2 G7 g7 U7 lb2 G8 g8 U8
      clear U6 U7
      have dC : Dp K G8 (.ref la2) (.list [.int (121 + hg), .list (rowsD (itemsL ss ms 120 bs hg))]) := .lst (SqL.of sat_at) (.cons (.int _) (.cons (.lst (SqL.of sat_at) (rowsD_dp _)) .nil))
      have dD : Dp K G8 (.ref lb2) (.list [.int (121 + hg), .list (rowsD (itemsL ss ms 120 bs hg))]) := .lst (SqL.of sat_at) (.cons (.int _) (.cons (.lst (SqL.of sat_at) (rowsD_dp _)) .nil))
      exact ⟨_, _, _, rfl, dC, dD, .list (Nat.le_of_ble_eq_true rfl) (List.forall_mem_cons.mpr ⟨.int _, List.forall_mem_cons.mpr ⟨.list (by rw [rowsD_len, itemsL_len]; omega) (rowsD_ok (items_strOk P1)), fun _ h => nomatch h⟩⟩), by decide, fun H' _ => k H'⟩
end

theorem D_Scene_swapped {P : Program} {w : World} {K : PySem.W.Frag} {mg : Str → Option Value} {base : Heap} (F : Mf K "Scene" "swapped" "Scene.swapped" s_Scene_swapped) : DnM P w K mg base CX0 1 (He.ma K (He.ga K "Scene") "swapped") ["self", "one", "other", "ones", "others"] spNever :=
  F.none (fun _ _ _ _ _ _ us hl => match us, hl with | [_, _, _, _, _], _ => rfl) (fun _ _ _ _ h => h)
structure All (K : PySem.W.Frag) (mg : Str → Option Value) : Prop where
  T : Txt K mg
  F_in_order : Df K mg "in_order" s_in_order
  F_look_through : Df K mg "look_through" s_look_through
  F_all_in : Df K mg "all_in" s_all_in
  F_is_name : Df K mg "is_name" s_is_name
  F_number_of : Df K mg "number_of" s_number_of
  F_numbers_of : Df K mg "numbers_of" s_numbers_of
  F_joined : Df K mg "joined" s_joined
  F_words_of : Df K mg "words_of" s_words_of
  F_deed_of : Df K mg "deed_of" s_deed_of
  F_tell : Df K mg "tell" s_tell
  F_book_rows : Df K mg "book_rows" s_book_rows
  F_read_book : Df K mg "read_book" s_read_book
  F__law_box : Df K mg "_law_box" s__law_box
  F__law_mixed : Df K mg "_law_mixed" s__law_mixed
  F__law_take : Df K mg "_law_take" s__law_take
  F__law_whole : Df K mg "_law_whole" s__law_whole
  F__law_alike : Df K mg "_law_alike" s__law_alike
  F__law_named : Df K mg "_law_named" s__law_named
  F__law_many_names : Df K mg "_law_many_names" s__law_many_names
  F__law_wrong_at : Df K mg "_law_wrong_at" s__law_wrong_at
  F__law_full_rows : Df K mg "_law_full_rows" s__law_full_rows
  F__law_small_rows : Df K mg "_law_small_rows" s__law_small_rows
  M_BadRow___init__ : Mf K "BadRow" "__init__" "BadRow.__init__" s_BadRow___init__
  M_Man___init__ : Mf K "Man" "__init__" "Man.__init__" s_Man___init__
  M_Scene___init__ : Mf K "Scene" "__init__" "Scene.__init__" s_Scene___init__
  M_Scene_living : Mf K "Scene" "living" "Scene.living" s_Scene_living
  M_Scene_kept : Mf K "Scene" "kept" "Scene.kept" s_Scene_kept
  M_Scene_taken : Mf K "Scene" "taken" "Scene.taken" s_Scene_taken
  M_Scene_sent : Mf K "Scene" "sent" "Scene.sent" s_Scene_sent
  M_Scene_let_go : Mf K "Scene" "let_go" "Scene.let_go" s_Scene_let_go
  M_Scene_graded : Mf K "Scene" "graded" "Scene.graded" s_Scene_graded
  M_Scene_dies : Mf K "Scene" "dies" "Scene.dies" s_Scene_dies
  M_Scene_swapped : Mf K "Scene" "swapped" "Scene.swapped" s_Scene_swapped
  M_Scene_befalls : Mf K "Scene" "befalls" "Scene.befalls" s_Scene_befalls
  M_Book___init__ : Mf K "Book" "__init__" "Book.__init__" s_Book___init__
  M_Book_state : Mf K "Book" "state" "Book.state" s_Book_state
  M_Book_keep : Mf K "Book" "keep" "Book.keep" s_Book_keep
  M_Book_forget : Mf K "Book" "forget" "Book.forget" s_Book_forget
  M_Book_need_side : Mf K "Book" "need_side" "Book.need_side" s_Book_need_side
  M_Book_need_man : Mf K "Book" "need_man" "Book.need_man" s_Book_need_man
  M_Book_side : Mf K "Book" "side" "Book.side" s_Book_side
  M_Book_man : Mf K "Book" "man" "Book.man" s_Book_man
  M_Book_cartel : Mf K "Book" "cartel" "Book.cartel" s_Book_cartel
  M_Book_need_day : Mf K "Book" "need_day" "Book.need_day" s_Book_need_day
  M_Book_enter : Mf K "Book" "enter" "Book.enter" s_Book_enter
  M_Book_of_man : Mf K "Book" "of_man" "Book.of_man" s_Book_of_man
  M_Book_take : Mf K "Book" "take" "Book.take" s_Book_take
  M_Book_word : Mf K "Book" "word" "Book.word" s_Book_word
  M_Book_free : Mf K "Book" "free" "Book.free" s_Book_free
  M_Book_flee : Mf K "Book" "flee" "Book.flee" s_Book_flee
  M_Book_die : Mf K "Book" "die" "Book.die" s_Book_die
  M_Book_rank : Mf K "Book" "rank" "Book.rank" s_Book_rank
  M_Book_swap : Mf K "Book" "swap" "Book.swap" s_Book_swap
  M_Book_sides : Mf K "Book" "sides" "Book.sides" s_Book_sides
  M_Book_men : Mf K "Book" "men" "Book.men" s_Book_men
  M_Book_cartels : Mf K "Book" "cartels" "Book.cartels" s_Book_cartels
  M_Book_deeds : Mf K "Book" "deeds" "Book.deeds" s_Book_deeds
  M_Book_upcoming : Mf K "Book" "upcoming" "Book.upcoming" s_Book_upcoming
  M_Reader___init__ : Mf K "Reader" "__init__" "Reader.__init__" s_Reader___init__
  M_Reader_behind : Mf K "Reader" "behind" "Reader.behind" s_Reader_behind
  M_Reader_take_deed : Mf K "Reader" "take_deed" "Reader.take_deed" s_Reader_take_deed
  M_Reader_take_named : Mf K "Reader" "take_named" "Reader.take_named" s_Reader_take_named
  M_Reader_take_row : Mf K "Reader" "take_row" "Reader.take_row" s_Reader_take_row

theorem chain {P : Program} {w : World} {K : PySem.W.Frag} {mg : Str → Option Value} {base : Heap} (A : All K mg) (TB : Tabs w K mg) {f : Addr} {fd : FuncData} (F : Fun K "law" "law" s_law f fd) : FnOk P w K mg base CX0 14 f fd ["_law_script"] (spLaw K) := by
  have T := A.T
  have D1 : Dn P w K mg base CX0 1 "_law_mixed" _ _ := D_mixed A.F__law_mixed
  have Dtake := D_take T D1 A.F__law_take
  have Dall := D_all_in (P := P) (w := w) (base := base) T A.F_all_in
  have Disn := D_is_name T Dall A.F_is_name
  have Dnum := D_number_of T Dall A.F_number_of
  have Dnums := D_numbers_of T Dnum A.F_numbers_of
  have Dstate := D_Book_state (P := P) (w := w) (base := base) T A.M_Book_state
  have Dkeep := D_Book_keep T Dstate A.M_Book_keep
  have Dnside := D_Book_need_side (P := P) (w := w) (base := base) T A.M_Book_need_side
  have Dnman := D_Book_need_man (P := P) (w := w) (base := base) T A.M_Book_need_man
  have Dnday := D_Book_need_day (P := P) (w := w) (base := base) T A.M_Book_need_day
  have Dinit := D_Book_init (P := P) (w := w) (base := base) T A.M_Book___init__
  have Dside := D_Book_side T Disn Dkeep A.M_Book_side
  have Dman := D_Book_man T Disn Dkeep Dnside A.M_Book_man
  have Dmi := D_Man_init (P := P) (w := w) (base := base) T A.M_Man___init__
  have Dliv := D_Scene_living (P := P) (w := w) (base := base) T A.M_Scene_living
  have Dkept := D_Scene_kept T Dliv A.M_Scene_kept
  have Dtaken := D_Scene_taken T Dliv A.M_Scene_taken
  have Dsent := D_Scene_sent T Dkept A.M_Scene_sent
  have Dgo := D_Scene_let_go T Dkept A.M_Scene_let_go
  have Dgr := D_Scene_graded T Dliv A.M_Scene_graded
  have Ddies := D_Scene_dies T Dliv A.M_Scene_dies
  have Dsw := D_Scene_swapped (P := P) (w := w) (mg := mg) (base := base) A.M_Scene_swapped
  have Dbef := D_Scene_befalls T Dtaken Dsent Dgo Dgr Ddies Dsw A.M_Scene_befalls
  have Dord := D_in_order (P := P) (w := w) (base := base) T A.F_in_order
  have Dsi := D_Scene_init T Dmi A.M_Scene___init__
  have Dlook := D_look_through T Dsi Dbef Dord A.F_look_through
  have Denter := D_Book_enter T Dlook Dkeep A.M_Book_enter
  have Dofm := D_Book_of_man T Dnday Dnman Denter A.M_Book_of_man
  have Dtk := D_Book_take T Dnday Dnman Dnside Denter A.M_Book_take
  have Drank := D_Book_rank T Dnday Dnman Denter A.M_Book_rank
  have Dword := D_Book_word T Dofm A.M_Book_word
  have Dfree := D_Book_free T Dofm A.M_Book_free
  have Ddie := D_Book_die T Dofm A.M_Book_die
  have Dflee := D_Book_flee T Dofm A.M_Book_flee
  have Dsides := D_Book_sides (P := P) (w := w) (base := base) T A.M_Book_sides
  have Dmen := D_Book_men (P := P) (w := w) (base := base) T A.M_Book_men
  have Ddeeds := D_Book_deeds T Dord A.M_Book_deeds
  have Djoin := D_joined (P := P) (w := w) (base := base) T A.F_joined
  have Dwo := D_words_of (P := P) (w := w) (base := base) T A.F_words_of
  have Dup := D_Book_upcoming (P := P) (w := w) (base := base) T A.M_Book_upcoming
  have Dfor := D_Book_forget (P := P) (w := w) (base := base) T A.M_Book_forget
  have Dcar := D_Book_cartels (P := P) (w := w) (base := base) T A.M_Book_cartels
  have Ddo := D_deed_of T TB Dnum A.F_deed_of
  have Dswap := D_Book_swap (P := P) (w := w) (mg := mg) (base := base) A.M_Book_swap
  have Dcartel := D_Book_cartel (P := P) (w := w) (mg := mg) (base := base) A.M_Book_cartel
  have Dtell := D_tell T Dtk Dword Dfree Dflee Ddie Drank Dswap A.F_tell
  have Drows := D_book_rows T Djoin Dwo Dsides Dmen Dcar Ddeeds Dup A.F_book_rows
  have Dbr := D_BadRow_init (P := P) (w := w) (base := base) T A.M_BadRow___init__
  have Dri := D_Reader_init T Dinit A.M_Reader___init__
  have Dbeh := D_Reader_behind (P := P) (w := w) (base := base) T A.M_Reader_behind
  have Dtd := D_take_deed T Dnums Ddo Dtell Dbeh A.M_Reader_take_deed
  have Dtn := D_take_named T TB Dnum Dnums Dside Dman Dcartel Dbeh A.M_Reader_take_named
  have Dtr := D_take_row T TB Dtd Dtn A.M_Reader_take_row
  have Drb := D_read_book T TB Dri Dtr Dbr Dfor A.F_read_book
  have Dnamed := D_named T Dtake A.F__law_named
  have Dmany := D_many T Dnamed A.F__law_many_names
  have Dwh := D_whole (P := P) (w := w) (base := base) T A.F__law_whole
  have Dal := D_alike T Dwh A.F__law_alike 4
  have Dfull := D_full_rows (P := P) (w := w) (base := base) T A.F__law_full_rows
  have Dsmall := D_small_rows T Drb Dsides Dmen Ddeeds Dup Drows Dal A.F__law_small_rows
  have Dwr := D_wrong_at T Drb A.F__law_wrong_at
  exact D_law T (D_box T A.F__law_box) Dtake Dmany Dfull Dsmall Dwr Dal Drb Dsides Dmen Ddeeds Dup Drows F
theorem all_ok {w : World} {K : PySem.W.Frag} {h : Heap} {mg : Str → Option Value} (X : K.In h) (GN : h.Ns mainGlobals mg) (c : SaysK fas fns xfs K) : All K mg :=
  ⟨{ m_ValueError := He.free_ok X GN (c.fact 0 23 (f := .free "ValueError") rfl),
     m_all := He.free_ok X GN (c.fact 0 24 (f := .free "all") rfl),
     m_bool := He.free_ok X GN (c.fact 1 0 (f := .free "bool") rfl),
     m_dict := He.free_ok X GN (c.fact 1 1 (f := .free "dict") rfl),
     m_enumerate := He.free_ok X GN (c.fact 1 2 (f := .free "enumerate") rfl),
     m_int := He.free_ok X GN (c.fact 1 3 (f := .free "int") rfl),
     m_isinstance := He.free_ok X GN (c.fact 1 4 (f := .free "isinstance") rfl),
     m_len := He.free_ok X GN (c.fact 1 5 (f := .free "len") rfl),
     m_list := He.free_ok X GN (c.fact 1 6 (f := .free "list") rfl),
     m_max := He.free_ok X GN (c.fact 1 7 (f := .free "max") rfl),
     m_range := He.free_ok X GN (c.fact 1 8 (f := .free "range") rfl),
     m_sorted := He.free_ok X GN (c.fact 1 9 (f := .free "sorted") rfl),
     m_str := He.free_ok X GN (c.fact 1 10 (f := .free "str") rfl),
     m_tuple := He.free_ok X GN (c.fact 1 11 (f := .free "tuple") rfl),
     m_zip := He.free_ok X GN (c.fact 1 12 (f := .free "zip") rfl),
     c_LAST_DAY := He.int_ok X GN (c.fact 1 13 (f := .int "LAST_DAY" 1000000) rfl),
     c_MOST_DEEDS := He.int_ok X GN (c.fact 1 14 (f := .int "MOST_DEEDS" 120) rfl),
     c_MOST_FIGURES := He.int_ok X GN (c.fact 1 15 (f := .int "MOST_FIGURES" 10) rfl),
     c_MOST_LETTERS := He.int_ok X GN (c.fact 1 16 (f := .int "MOST_LETTERS" 8) rfl),
     c_MOST_MEN := He.int_ok X GN (c.fact 1 17 (f := .int "MOST_MEN" 40) rfl),
     c_MOST_RANKS := He.int_ok X GN (c.fact 1 18 (f := .int "MOST_RANKS" 6) rfl),
     c_MOST_SIDES := He.int_ok X GN (c.fact 1 19 (f := .int "MOST_SIDES" 6) rfl),
     x_BadDay := Xc.of (x := "BadDay") X GN c 1 20 1 21 rfl rfl rfl rfl,
     x_BadName := Xc.of (x := "BadName") X GN c 1 22 1 23 rfl rfl rfl rfl,
     x_BadRank := Xc.of (x := "BadRank") X GN c 1 24 2 0 rfl rfl rfl rfl,
     x_CartelError := Xc.of (x := "CartelError") X GN c 2 1 2 2 rfl rfl rfl rfl,
     x_Full := Xc.of (x := "Full") X GN c 2 3 2 4 rfl rfl rfl rfl,
     x_NoMan := Xc.of (x := "NoMan") X GN c 2 5 2 6 rfl rfl rfl rfl,
     x_NoSide := Xc.of (x := "NoSide") X GN c 2 7 2 8 rfl rfl rfl rfl,
     x_Taken := Xc.of (x := "Taken") X GN c 2 9 2 10 rfl rfl rfl rfl,
     cl_Book := He.cls_ok (c.fact 2 13 (f := .cls "Book") rfl),
     cl_Man := He.cls_ok (c.fact 2 14 (f := .cls "Man") rfl),
     cl_Reader := He.cls_ok (c.fact 2 15 (f := .cls "Reader") rfl),
     cl_Scene := He.cls_ok (c.fact 2 16 (f := .cls "Scene") rfl),
     mk_Book := He.mkr_ok (c.fact 2 17 (f := .mkr "Book") rfl),
     g_Book := He.glo_ok X GN (c.fact 2 18 (f := .glo "Book") rfl),
     mk_Man := He.mkr_ok (c.fact 2 19 (f := .mkr "Man") rfl),
     g_Man := He.glo_ok X GN (c.fact 2 20 (f := .glo "Man") rfl),
     mk_Reader := He.mkr_ok (c.fact 2 21 (f := .mkr "Reader") rfl),
     g_Reader := He.glo_ok X GN (c.fact 2 22 (f := .glo "Reader") rfl),
     mk_Scene := He.mkr_ok (c.fact 2 23 (f := .mkr "Scene") rfl),
     g_Scene := He.glo_ok X GN (c.fact 2 24 (f := .glo "Scene") rfl),
     n_Book_banners := He.noat_ok (c.fact 3 0 (f := .noat "Book" "banners") rfl),
     n_Book_folk := He.noat_ok (c.fact 3 1 (f := .noat "Book" "folk") rfl),
     n_Book_future := He.noat_ok (c.fact 3 2 (f := .noat "Book" "future") rfl),
     n_Book_later := He.noat_ok (c.fact 3 3 (f := .noat "Book" "later") rfl),
     n_Book_pacts := He.noat_ok (c.fact 3 4 (f := .noat "Book" "pacts") rfl),
     n_Book_past := He.noat_ok (c.fact 3 5 (f := .noat "Book" "past") rfl),
     n_Book_told := He.noat_ok (c.fact 3 6 (f := .noat "Book" "told") rfl),
     n_Man_bonds := He.noat_ok (c.fact 3 7 (f := .noat "Man" "bonds") rfl),
     n_Man_caught := He.noat_ok (c.fact 3 8 (f := .noat "Man" "caught") rfl),
     n_Man_dead := He.noat_ok (c.fact 3 9 (f := .noat "Man" "dead") rfl),
     n_Man_grade := He.noat_ok (c.fact 3 10 (f := .noat "Man" "grade") rfl),
     n_Man_home := He.noat_ok (c.fact 3 11 (f := .noat "Man" "home") rfl),
     n_Man_keeper := He.noat_ok (c.fact 3 12 (f := .noat "Man" "keeper") rfl),
     n_Reader_kind := He.noat_ok (c.fact 3 13 (f := .noat "Reader" "kind") rfl),
     n_Reader_last := He.noat_ok (c.fact 3 14 (f := .noat "Reader" "last") rfl),
     n_Reader_made := He.noat_ok (c.fact 3 15 (f := .noat "Reader" "made") rfl),
     n_Reader_most := He.noat_ok (c.fact 3 16 (f := .noat "Reader" "most") rfl),
     n_Scene_crew := He.noat_ok (c.fact 3 17 (f := .noat "Scene" "crew") rfl),
     n_Scene_dues := He.noat_ok (c.fact 3 18 (f := .noat "Scene" "dues") rfl),
     n_Scene_pacts := He.noat_ok (c.fact 3 19 (f := .noat "Scene" "pacts") rfl),
     me_Book_cartel := He.meth_ok (c.fact 3 20 (f := .meth "Book" "cartel") rfl),
     me_Book_cartels := He.meth_ok (c.fact 3 21 (f := .meth "Book" "cartels") rfl),
     me_Book_deeds := He.meth_ok (c.fact 3 22 (f := .meth "Book" "deeds") rfl),
     me_Book_die := He.meth_ok (c.fact 3 23 (f := .meth "Book" "die") rfl),
     me_Book_enter := He.meth_ok (c.fact 3 24 (f := .meth "Book" "enter") rfl),
     me_Book_flee := He.meth_ok (c.fact 4 0 (f := .meth "Book" "flee") rfl),
     me_Book_forget := He.meth_ok (c.fact 4 1 (f := .meth "Book" "forget") rfl),
     me_Book_free := He.meth_ok (c.fact 4 2 (f := .meth "Book" "free") rfl),
     me_Book_keep := He.meth_ok (c.fact 4 3 (f := .meth "Book" "keep") rfl),
     me_Book_man := He.meth_ok (c.fact 4 4 (f := .meth "Book" "man") rfl),
     me_Book_men := He.meth_ok (c.fact 4 5 (f := .meth "Book" "men") rfl),
     me_Book_need_day := He.meth_ok (c.fact 4 6 (f := .meth "Book" "need_day") rfl),
     me_Book_need_man := He.meth_ok (c.fact 4 7 (f := .meth "Book" "need_man") rfl),
     me_Book_need_side := He.meth_ok (c.fact 4 8 (f := .meth "Book" "need_side") rfl),
     me_Book_of_man := He.meth_ok (c.fact 4 9 (f := .meth "Book" "of_man") rfl),
     me_Book_rank := He.meth_ok (c.fact 4 10 (f := .meth "Book" "rank") rfl),
     me_Book_side := He.meth_ok (c.fact 4 11 (f := .meth "Book" "side") rfl),
     me_Book_sides := He.meth_ok (c.fact 4 12 (f := .meth "Book" "sides") rfl),
     me_Book_state := He.meth_ok (c.fact 4 13 (f := .meth "Book" "state") rfl),
     me_Book_swap := He.meth_ok (c.fact 4 14 (f := .meth "Book" "swap") rfl),
     me_Book_take := He.meth_ok (c.fact 4 15 (f := .meth "Book" "take") rfl),
     me_Book_upcoming := He.meth_ok (c.fact 4 16 (f := .meth "Book" "upcoming") rfl),
     me_Book_word := He.meth_ok (c.fact 4 17 (f := .meth "Book" "word") rfl),
     me_Reader_behind := He.meth_ok (c.fact 4 18 (f := .meth "Reader" "behind") rfl),
     me_Reader_take_deed := He.meth_ok (c.fact 4 19 (f := .meth "Reader" "take_deed") rfl),
     me_Reader_take_named := He.meth_ok (c.fact 4 20 (f := .meth "Reader" "take_named") rfl),
     me_Reader_take_row := He.meth_ok (c.fact 4 21 (f := .meth "Reader" "take_row") rfl),
     me_Scene_befalls := He.meth_ok (c.fact 4 22 (f := .meth "Scene" "befalls") rfl),
     me_Scene_dies := He.meth_ok (c.fact 4 23 (f := .meth "Scene" "dies") rfl),
     me_Scene_graded := He.meth_ok (c.fact 4 24 (f := .meth "Scene" "graded") rfl),
     me_Scene_kept := He.meth_ok (c.fact 5 0 (f := .meth "Scene" "kept") rfl),
     me_Scene_let_go := He.meth_ok (c.fact 5 1 (f := .meth "Scene" "let_go") rfl),
     me_Scene_living := He.meth_ok (c.fact 5 2 (f := .meth "Scene" "living") rfl),
     me_Scene_sent := He.meth_ok (c.fact 5 3 (f := .meth "Scene" "sent") rfl),
     me_Scene_swapped := He.meth_ok (c.fact 5 4 (f := .meth "Scene" "swapped") rfl),
     me_Scene_taken := He.meth_ok (c.fact 5 5 (f := .meth "Scene" "taken") rfl),
     s_FIGURES := He.str_ok X GN (c.fact 5 6 (f := .str "FIGURES" "0123456789") rfl),
     s_LETTERS := He.str_ok X GN (c.fact 5 7 (f := .str "LETTERS" "abcdefghijklmnopqrstuvwxyz") rfl),
     g_BadRow := He.glo_ok X GN (c.fact 2 11 (f := .glo "BadRow") rfl),
     ox_BadRow := oexB_ok (c.xf 9 (b := oexB "BadRow") rfl),
     g_Breaks := He.glo_ok X GN (c.fact 2 12 (f := .glo "Breaks") rfl),
     ox_Breaks := oexB_ok (c.xf 10 (b := oexB "Breaks") rfl),
     em_Full_CartelError := of_decide_eq_true (c.xf 0 (b := fun K => decide (PySem.W.exmOne K (.ref (He.ga K "Full")) (.ref (He.ga K "CartelError")) = some true)) rfl),
     em_BadRow_BadRow := of_decide_eq_true (c.xf 1 (b := fun K => decide (PySem.W.exmOne K (.ref (He.ga K "BadRow")) (.ref (He.ga K "BadRow")) = some true)) rfl),
     ec_BadRow := excCB_ok (c.xf 2 (b := excCB "BadRow") rfl),
     ki_BadRow_CartelError := of_decide_eq_true (c.xf 3 (b := fun K => decide (PySem.W.kitOne K (.ref (He.ga K "BadRow")) (.ref (He.ga K "CartelError")) = some true)) rfl),
     ki_BadRow_ValueError := of_decide_eq_true (c.xf 4 (b := fun K => decide (PySem.W.kitOne K (.ref (He.ga K "BadRow")) (.type "ValueError") = some true)) rfl),
     ki_BadRow_BadName := of_decide_eq_true (c.xf 5 (b := fun K => decide (PySem.W.kitOne K (.ref (He.ga K "BadRow")) (.ref (He.ga K "BadName")) = some false)) rfl),
     ki_BadRow_NoMan := of_decide_eq_true (c.xf 6 (b := fun K => decide (PySem.W.kitOne K (.ref (He.ga K "BadRow")) (.ref (He.ga K "NoMan")) = some false)) rfl),
     ki_BadRow_Breaks := of_decide_eq_true (c.xf 7 (b := fun K => decide (PySem.W.kitOne K (.ref (He.ga K "BadRow")) (.ref (He.ga K "Breaks")) = some false)) rfl),
     ki_BadRow_Full := of_decide_eq_true (c.xf 8 (b := fun K => decide (PySem.W.kitOne K (.ref (He.ga K "BadRow")) (.ref (He.ga K "Full")) = some false)) rfl),
     xf_BadRow := xfB_ok (c.xf 11 (b := fun K => xfB K (He.ga K "BadRow")) rfl),
     no_BadRow_at := He.eqO_ok (c.xf 12 (b := fun K => He.eqO (PySem.W.findIn K (.ref (He.ga K "BadRow")) "at") (some none)) rfl) },
    SaysK.df (x := "in_order") (st := s_in_order) X GN c 0 0 0 0 rfl rfl rfl rfl,
    SaysK.df (x := "look_through") (st := s_look_through) X GN c 0 1 0 1 rfl rfl rfl rfl,
    SaysK.df (x := "all_in") (st := s_all_in) X GN c 0 2 0 2 rfl rfl rfl rfl,
    SaysK.df (x := "is_name") (st := s_is_name) X GN c 0 3 0 3 rfl rfl rfl rfl,
    SaysK.df (x := "number_of") (st := s_number_of) X GN c 0 4 0 4 rfl rfl rfl rfl,
    SaysK.df (x := "numbers_of") (st := s_numbers_of) X GN c 0 5 0 5 rfl rfl rfl rfl,
    SaysK.df (x := "joined") (st := s_joined) X GN c 0 6 0 6 rfl rfl rfl rfl,
    SaysK.df (x := "words_of") (st := s_words_of) X GN c 0 7 0 7 rfl rfl rfl rfl,
    SaysK.df (x := "deed_of") (st := s_deed_of) X GN c 0 8 0 8 rfl rfl rfl rfl,
    SaysK.df (x := "tell") (st := s_tell) X GN c 0 9 0 9 rfl rfl rfl rfl,
    SaysK.df (x := "book_rows") (st := s_book_rows) X GN c 0 10 0 10 rfl rfl rfl rfl,
    SaysK.df (x := "read_book") (st := s_read_book) X GN c 0 11 0 11 rfl rfl rfl rfl,
    SaysK.df (x := "_law_box") (st := s__law_box) X GN c 0 12 0 12 rfl rfl rfl rfl,
    SaysK.df (x := "_law_mixed") (st := s__law_mixed) X GN c 0 13 0 13 rfl rfl rfl rfl,
    SaysK.df (x := "_law_take") (st := s__law_take) X GN c 0 14 0 14 rfl rfl rfl rfl,
    SaysK.df (x := "_law_whole") (st := s__law_whole) X GN c 0 15 0 15 rfl rfl rfl rfl,
    SaysK.df (x := "_law_alike") (st := s__law_alike) X GN c 0 16 0 16 rfl rfl rfl rfl,
    SaysK.df (x := "_law_named") (st := s__law_named) X GN c 0 17 0 17 rfl rfl rfl rfl,
    SaysK.df (x := "_law_many_names") (st := s__law_many_names) X GN c 0 18 0 18 rfl rfl rfl rfl,
    SaysK.df (x := "_law_wrong_at") (st := s__law_wrong_at) X GN c 0 19 0 19 rfl rfl rfl rfl,
    SaysK.df (x := "_law_full_rows") (st := s__law_full_rows) X GN c 0 20 0 20 rfl rfl rfl rfl,
    SaysK.df (x := "_law_small_rows") (st := s__law_small_rows) X GN c 0 21 0 21 rfl rfl rfl rfl,
    SaysK.mf (C := "BadRow") (m := "__init__") (qual := "BadRow.__init__") (st := s_BadRow___init__) c 0 23 rfl rfl,
    SaysK.mf (C := "Man") (m := "__init__") (qual := "Man.__init__") (st := s_Man___init__) c 0 24 rfl rfl,
    SaysK.mf (C := "Scene") (m := "__init__") (qual := "Scene.__init__") (st := s_Scene___init__) c 1 0 rfl rfl,
    SaysK.mf (C := "Scene") (m := "living") (qual := "Scene.living") (st := s_Scene_living) c 1 1 rfl rfl,
    SaysK.mf (C := "Scene") (m := "kept") (qual := "Scene.kept") (st := s_Scene_kept) c 1 2 rfl rfl,
    SaysK.mf (C := "Scene") (m := "taken") (qual := "Scene.taken") (st := s_Scene_taken) c 1 3 rfl rfl,
    SaysK.mf (C := "Scene") (m := "sent") (qual := "Scene.sent") (st := s_Scene_sent) c 1 4 rfl rfl,
    SaysK.mf (C := "Scene") (m := "let_go") (qual := "Scene.let_go") (st := s_Scene_let_go) c 1 5 rfl rfl,
    SaysK.mf (C := "Scene") (m := "graded") (qual := "Scene.graded") (st := s_Scene_graded) c 1 6 rfl rfl,
    SaysK.mf (C := "Scene") (m := "dies") (qual := "Scene.dies") (st := s_Scene_dies) c 1 7 rfl rfl,
    SaysK.mf (C := "Scene") (m := "swapped") (qual := "Scene.swapped") (st := s_Scene_swapped) c 1 8 rfl rfl,
    SaysK.mf (C := "Scene") (m := "befalls") (qual := "Scene.befalls") (st := s_Scene_befalls) c 1 9 rfl rfl,
    SaysK.mf (C := "Book") (m := "__init__") (qual := "Book.__init__") (st := s_Book___init__) c 1 10 rfl rfl,
    SaysK.mf (C := "Book") (m := "state") (qual := "Book.state") (st := s_Book_state) c 1 11 rfl rfl,
    SaysK.mf (C := "Book") (m := "keep") (qual := "Book.keep") (st := s_Book_keep) c 1 12 rfl rfl,
    SaysK.mf (C := "Book") (m := "forget") (qual := "Book.forget") (st := s_Book_forget) c 1 13 rfl rfl,
    SaysK.mf (C := "Book") (m := "need_side") (qual := "Book.need_side") (st := s_Book_need_side) c 1 14 rfl rfl,
    SaysK.mf (C := "Book") (m := "need_man") (qual := "Book.need_man") (st := s_Book_need_man) c 1 15 rfl rfl,
    SaysK.mf (C := "Book") (m := "side") (qual := "Book.side") (st := s_Book_side) c 1 16 rfl rfl,
    SaysK.mf (C := "Book") (m := "man") (qual := "Book.man") (st := s_Book_man) c 1 17 rfl rfl,
    SaysK.mf (C := "Book") (m := "cartel") (qual := "Book.cartel") (st := s_Book_cartel) c 1 18 rfl rfl,
    SaysK.mf (C := "Book") (m := "need_day") (qual := "Book.need_day") (st := s_Book_need_day) c 1 19 rfl rfl,
    SaysK.mf (C := "Book") (m := "enter") (qual := "Book.enter") (st := s_Book_enter) c 1 20 rfl rfl,
    SaysK.mf (C := "Book") (m := "of_man") (qual := "Book.of_man") (st := s_Book_of_man) c 1 21 rfl rfl,
    SaysK.mf (C := "Book") (m := "take") (qual := "Book.take") (st := s_Book_take) c 1 22 rfl rfl,
    SaysK.mf (C := "Book") (m := "word") (qual := "Book.word") (st := s_Book_word) c 1 23 rfl rfl,
    SaysK.mf (C := "Book") (m := "free") (qual := "Book.free") (st := s_Book_free) c 1 24 rfl rfl,
    SaysK.mf (C := "Book") (m := "flee") (qual := "Book.flee") (st := s_Book_flee) c 2 0 rfl rfl,
    SaysK.mf (C := "Book") (m := "die") (qual := "Book.die") (st := s_Book_die) c 2 1 rfl rfl,
    SaysK.mf (C := "Book") (m := "rank") (qual := "Book.rank") (st := s_Book_rank) c 2 2 rfl rfl,
    SaysK.mf (C := "Book") (m := "swap") (qual := "Book.swap") (st := s_Book_swap) c 2 3 rfl rfl,
    SaysK.mf (C := "Book") (m := "sides") (qual := "Book.sides") (st := s_Book_sides) c 2 4 rfl rfl,
    SaysK.mf (C := "Book") (m := "men") (qual := "Book.men") (st := s_Book_men) c 2 5 rfl rfl,
    SaysK.mf (C := "Book") (m := "cartels") (qual := "Book.cartels") (st := s_Book_cartels) c 2 6 rfl rfl,
    SaysK.mf (C := "Book") (m := "deeds") (qual := "Book.deeds") (st := s_Book_deeds) c 2 7 rfl rfl,
    SaysK.mf (C := "Book") (m := "upcoming") (qual := "Book.upcoming") (st := s_Book_upcoming) c 2 8 rfl rfl,
    SaysK.mf (C := "Reader") (m := "__init__") (qual := "Reader.__init__") (st := s_Reader___init__) c 2 9 rfl rfl,
    SaysK.mf (C := "Reader") (m := "behind") (qual := "Reader.behind") (st := s_Reader_behind) c 2 10 rfl rfl,
    SaysK.mf (C := "Reader") (m := "take_deed") (qual := "Reader.take_deed") (st := s_Reader_take_deed) c 2 11 rfl rfl,
    SaysK.mf (C := "Reader") (m := "take_named") (qual := "Reader.take_named") (st := s_Reader_take_named) c 2 12 rfl rfl,
    SaysK.mf (C := "Reader") (m := "take_row") (qual := "Reader.take_row") (st := s_Reader_take_row) c 2 13 rfl rfl⟩
theorem tabs_ok {w : World} {K : PySem.W.Frag} {h : Heap} {mg : Str → Option Value} (X : K.In h) (GN : h.Ns mainGlobals mg) (cT : SaysT fas fns xfs tbs w K) : Tabs w K mg :=
  let c := cT.k
  { g_COUNTS := He.glo_ok X GN (c.fact 5 8 (f := .glo "COUNTS") rfl), d_COUNTS := cT.tab 0 rfl, b_COUNTS := c.xf 13 (b := tabB "COUNTS" [("take", 3), ("word", 2), ("free", 2), ("flee", 2), ("rank", 3), ("die", 2)] []) rfl,
    g_RANKS := He.glo_ok X GN (c.fact 5 9 (f := .glo "RANKS") rfl), d_RANKS := cT.tab 1 rfl, b_RANKS := c.xf 14 (b := tabB "RANKS" [("side", 0), ("man", 1), ("cartel", 2), ("deed", 3), ("next", 4)] []) rfl,
    g_SIZES := He.glo_ok X GN (c.fact 5 10 (f := .glo "SIZES") rfl), d_SIZES := cT.tab 2 rfl, b_SIZES := c.xf 15 (b := tabB "SIZES" [("side", 2), ("man", 4), ("cartel", 10), ("next", 2)] []) rfl }
end Law
open PySem PySem.W PySem.Calls PyProof.Rows
theorem PySem.Challenge.cw_cartelship_k59_rows_without_room_holds : PySem.Challenge.rw_cartelship_k59_rows_without_room.Holds := by
  w_on; o_law
  refine HandSHeadRun.head_any (r := OpenLaw.row PySem.Challenge.rw_cartelship_k59_rows_without_room) (q := view (OpenLaw.row PySem.Challenge.rw_cartelship_k59_rows_without_room).prog [77]) (H := G.hookT Law.fas Law.fns Law.xfs Law.tbs) (ob := G.obTT Law.fas Law.fns Law.xfs Law.tbs) (M := 12000) (loose := Law.names) (d := HandSHeadRun.topDef (OpenLaw.row PySem.Challenge.rw_cartelship_k59_rows_without_room).prog 77) (kwd := []) (G.obTT_eq Law.fas Law.fns Law.xfs Law.tbs)
    (by kernel_rfl) (fun s => by kernel_rfl) Law.hdrun (by kernel_rfl) (by kernel_rfl) (by kernel_rfl) (by rfl) (by first | assumption | decide +kernel) (by decide +kernel) ⟨rfl, rfl, rfl, rfl, rfl, by decide +kernel⟩ ?hw ?hc
  case hw => w_witness2
  case hc =>
    refine G.walk_ofEB (l := PySem.Challenge.rw_cartelship_k59_rows_without_room) (n := 63) (k := 14) (x := "_law_script") (CX := L2.CX0) rfl (by decide) (by kernel_rfl) ⟨rfl, by decide, by decide⟩ ?F (fun _ _ _ _ z => z)
    intro w mg fa h Y GN hmg0
    obtain ⟨K, KX, cT⟩ := Y
    have c := cT.k
    have hmg : mg ("law" : PySem.Str) = some (.ref fa) := by
      have e : (HandSHeadRun.topDef (OpenLaw.row PySem.Challenge.rw_cartelship_k59_rows_without_room).prog 77).name = ("law" : PySem.Str) := by kernel_rfl
      rw [← e]
      exact hmg0
    obtain ⟨kp, oc, od, osl, kV, doc, pm, an, cdv, ct, lk, cd⟩ := G.SaysK.def_ c 0 22 (d := ⟨("law", none), "law", "law", L2.defArgs Law.s_law, L2.defBody Law.s_law, L2.defScope Law.s_law⟩) rfl rfl
    have e := hmg.symm.trans (He.glo_ok KX GN (G.SaysK.fact c 0 22 (f := .glo "law") rfl rfl))
    cases e
    exact ⟨K, _, G.spLaw K, KX, fun s v => .of_eq rfl, fun H a ns hl hb _ hS => ⟨a, ns, rfl, hS, hl, hb, fun _ => rfl⟩, fun base _ _ => Law.chain (Law.all_ok (w := w) KX GN c) (Law.tabs_ok (w := w) KX GN cT) (L2.fun_mk (st := Law.s_law) lk cd kp)⟩
#print axioms PySem.Challenge.cw_cartelship_k59_rows_without_room_holds


