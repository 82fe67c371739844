import PyProof.Rows.All
import PySem.Challenge.RW_lastfords_k32_whole_floods_that_can_be
import Wide.All
import OpenK.AllK
import Wide.FinOn
import KE.KStateDown
import KE.KExcInit
import HandS.HeadNt
import HandS.Head0
import HandS.Head1
import HandS.Head2
import HandS.HeadEnd
import PyProof.EqAt
import PyProof.EqKinds
import PyProof.TupleCall
import HandS.Base
import HandS.Call
import HandS.List
import HandS.Comp
import HandS.Ends
import HandS.Dict
import HandS.Iter
import HandS.Text
import HandS.Words
import HandS.WordsList
import HandS.WordsDict
import HandS.Slots
import KE.KeyNested
import KE.KDictKeyed
import HandS.TupAny
import HandS.Star
import HandS.Wide
import KE.Datum
import KE.DatumOrd
import KE.DatumMore
import KE.DatumMoreOrd
import HandS.Zip
import HandS.IsInst
import HandS.NoneIn
import HandS.Walk
import HandS.DictComp
import HandS.Defaults
import PyProof.Draws
import PyProof.EnumMake
import KE.GoesMore
import KE.GoesEnum
import PyProof.TupleOfSeq
import KE.SortData
import KE.SortLaws
import HandS.Set
import HandS.ExcValue
import PyProof.Transfer
import HandS.Strs
import PyProof.SumAny
import PyProof.ListOps
import HandS.SlotsOwn
import HandS.WordsExc
import HandS.More
import HandS.WideBits
import HandS.Conv
import HandS.Flow
import HandS.TupSets
import HandS.SetFor
import HandS.ClsMeth
import HandS.MakeKwOnly
import HandS.Exc
import KE.GoesRaise
set_option Elab.async false
set_option linter.all false
set_option maxRecDepth 100000
set_option maxHeartbeats 0
/-! The head: the top's run, what it leaves. -/
namespace Fz
section
open PySem L2 PyProof.Rows
open He (ga ma eqO eqO_ok ba)
abbrev pr : Program := PySem.Challenge.pw_lastfords_k32_whole_floods_that_can_be
def top (i : Nat) : Stmt := pr.main.body.getD i (.Pass ⟨0, 0, 0, 0⟩)
def bmL : List Value := [.type "LookupError", .type "Exception", .type "BaseException", .type "object"]
def cT (K : PySem.W.Frag) : Addr := ga K "Talk"
def cN (K : PySem.W.Frag) : Addr := ga K "NoFlood"
def eT (i : Nat) : PySem.W.Frag → Addr := He.dflAt ("Talk", some "__init__") i
def emptyB (K : PySem.W.Frag) (a : Addr) : Bool := match K.lookup a with
  | some ⟨.type c, _, .seq its _, _⟩ => decide (c = "tuple") && its.toList.isEmpty
  | _ => false
def slotB (K : PySem.W.Frag) (f : Str) (i : Nat) : Bool := eqO (PySem.W.findIn K (.ref (cT K)) f) (some (some (.ref (ma K (cT K) f)))) && (eqO (PySem.W.specialIn K (.ref (ma K (cT K) f)) "__get__") (some (some (.builtin "member_descriptor.__get__"))) &&
  (decide (PySem.W.takesIn K (.ref (ma K (cT K) f)) = some true) && (decide (PySem.W.typeIn K (.ref (ma K (cT K) f)) = some (.type "member_descriptor")) && decide (PySem.W.slotIn K (ma K (cT K) f) (cT K) = some i))))
def prpB (K : PySem.W.Frag) (f : Str) : Bool := eqO (PySem.W.findIn K (.ref (cT K)) f) (some (some (.ref (ma K (cT K) f)))) && (eqO (PySem.W.specialIn K (.ref (ma K (cT K) f)) "__get__") (some (some (.builtin "property.__get__"))) &&
  (decide (PySem.W.takesIn K (.ref (ma K (cT K) f)) = some true) && (match PySem.W.recIn K (ma K (cT K) f) "property" with
    | some (.ref _ :: _) => true
    | _ => false)))
def fnL : List He5.DefA := [
  ⟨fun K => ga K "set_of", "set_of", "set_of", defArgs (top 10), defBody (top 10), defScope (top 10), [], []⟩,
  ⟨fun K => ga K "tupled", "tupled", "tupled", defArgs (top 11), defBody (top 11), defScope (top 11), [], []⟩,
  ⟨fun K => ga K "is_name", "is_name", "is_name", defArgs (top 8), defBody (top 8), defScope (top 8), [], []⟩,
  ⟨fun K => ga K "is_rising", "is_rising", "is_rising", defArgs (top 9), defBody (top 9), defScope (top 9), [], []⟩,
  ⟨fun K => ga K "put_together", "put_together", "put_together", defArgs (top 13), defBody (top 13), defScope (top 13), [], []⟩,
  ⟨fun K => ga K "is_joined", "is_joined", "is_joined", defArgs (top 14), defBody (top 14), defScope (top 14), [], []⟩,
  ⟨fun K => ga K "labels", "labels", "labels", defArgs (top 15), defBody (top 15), defScope (top 15), [], []⟩,
  ⟨fun K => ga K "joined_in", "joined_in", "joined_in", defArgs (top 16), defBody (top 16), defScope (top 16), [], []⟩,
  ⟨fun K => ga K "lowest_of", "lowest_of", "lowest_of", defArgs (top 17), defBody (top 17), defScope (top 17), [], []⟩,
  ⟨fun K => ga K "peeled", "peeled", "peeled", defArgs (top 18), defBody (top 18), defScope (top 18), [], []⟩,
  ⟨fun K => ga K "fit_all", "fit_all", "fit_all", defArgs (top 19), defBody (top 19), defScope (top 19), [], []⟩,
  ⟨fun K => ga K "names_of", "names_of", "names_of", defArgs (top 20), defBody (top 20), defScope (top 20), [], []⟩,
  ⟨fun K => ga K "can_be", "can_be", "can_be", defArgs (top 21), defBody (top 21), defScope (top 21), [], []⟩,
  ⟨fun K => ga K "stuck_lot", "stuck_lot", "stuck_lot", defArgs (top 22), defBody (top 22), defScope (top 22), [], []⟩,
  ⟨fun K => ga K "flood_of", "flood_of", "flood_of", defArgs (top 23), defBody (top 23), defScope (top 23), [], []⟩,
  ⟨fun K => ga K "is_stuck", "is_stuck", "is_stuck", defArgs (top 24), defBody (top 24), defScope (top 24), [], []⟩,
  ⟨fun K => ga K "is_pair", "is_pair", "is_pair", defArgs (top 35), defBody (top 35), defScope (top 35), [], []⟩,
  ⟨fun K => ga K "is_pairs", "is_pairs", "is_pairs", defArgs (top 36), defBody (top 36), defScope (top 36), [], []⟩,
  ⟨fun K => ga K "is_rule", "is_rule", "is_rule", defArgs (top 37), defBody (top 37), defScope (top 37), [], []⟩,
  ⟨fun K => ga K "is_flood", "is_flood", "is_flood", defArgs (top 38), defBody (top 38), defScope (top 38), [], []⟩,
  ⟨fun K => ga K "names_in", "names_in", "names_in", defArgs (top 39), defBody (top 39), defScope (top 39), [], []⟩,
  ⟨fun K => ga K "check_islands", "check_islands", "check_islands", defArgs (top 41), defBody (top 41), defScope (top 41), [], []⟩,
  ⟨fun K => ga K "check_once", "check_once", "check_once", defArgs (top 42), defBody (top 42), defScope (top 42), [], []⟩,
  ⟨fun K => ga K "pair_text", "pair_text", "pair_text", defArgs (top 44), defBody (top 44), defScope (top 44), [], []⟩,
  ⟨fun K => ga K "pairs_text", "pairs_text", "pairs_text", defArgs (top 45), defBody (top 45), defScope (top 45), [], []⟩,
  ⟨fun K => ga K "rule_text", "rule_text", "rule_text", defArgs (top 46), defBody (top 46), defScope (top 46), [], []⟩,
  ⟨fun K => ga K "flood_text", "flood_text", "flood_text", defArgs (top 47), defBody (top 47), defScope (top 47), [], []⟩,
  ⟨fun K => ga K "pairs_in", "pairs_in", "pairs_in", defArgs (top 48), defBody (top 48), defScope (top 48), [], []⟩,
  ⟨fun K => ga K "rule_in", "rule_in", "rule_in", defArgs (top 49), defBody (top 49), defScope (top 49), [], []⟩,
  ⟨fun K => ga K "flood_in", "flood_in", "flood_in", defArgs (top 50), defBody (top 50), defScope (top 50), [], []⟩,
  ⟨fun K => ga K "fits_islands", "fits_islands", "fits_islands", defArgs (top 51), defBody (top 51), defScope (top 51), [], []⟩,
  ⟨fun K => ga K "with_flood", "with_flood", "with_flood", defArgs (top 52), defBody (top 52), defScope (top 52), [], []⟩,
  ⟨fun K => ga K "without_flood", "without_flood", "without_flood", defArgs (top 53), defBody (top 53), defScope (top 53), [], []⟩,
  ⟨fun K => ga K "_law_box", "_law_box", "_law_box", defArgs (top 55), defBody (top 55), defScope (top 55), [], []⟩,
  ⟨fun K => ga K "_law_cells", "_law_cells", "_law_cells", defArgs (top 56), defBody (top 56), defScope (top 56), [], []⟩,
  ⟨fun K => ga K "_law_of", "_law_of", "_law_of", defArgs (top 57), defBody (top 57), defScope (top 57), [], []⟩,
  ⟨fun K => ga K "_law_mixed", "_law_mixed", "_law_mixed", defArgs (top 58), defBody (top 58), defScope (top 58), [], []⟩,
  ⟨fun K => ga K "_law_take", "_law_take", "_law_take", defArgs (top 59), defBody (top 59), defScope (top 59), [], []⟩,
  ⟨fun K => ga K "_law_same", "_law_same", "_law_same", defArgs (top 60), defBody (top 60), defScope (top 60), [], []⟩,
  ⟨fun K => ga K "_law_lists", "_law_lists", "_law_lists", defArgs (top 61), defBody (top 61), defScope (top 61), [], []⟩,
  ⟨fun K => ga K "_law_pick", "_law_pick", "_law_pick", defArgs (top 62), defBody (top 62), defScope (top 62), [], []⟩,
  ⟨fun K => ga K "_law_isles", "_law_isles", "_law_isles", defArgs (top 63), defBody (top 63), defScope (top 63), [], []⟩,
  ⟨fun K => ga K "_law_twos", "_law_twos", "_law_twos", defArgs (top 64), defBody (top 64), defScope (top 64), [], []⟩,
  ⟨fun K => ga K "_law_orders", "_law_orders", "_law_orders", defArgs (top 65), defBody (top 65), defScope (top 65), [], []⟩,
  ⟨fun K => ga K "_law_times", "_law_times", "_law_times", defArgs (top 66), defBody (top 66), defScope (top 66), [], []⟩,
  ⟨fun K => ga K "_law_grids", "_law_grids", "_law_grids", defArgs (top 67), defBody (top 67), defScope (top 67), [], []⟩,
  ⟨fun K => ga K "_law_one", "_law_one", "_law_one", defArgs (top 68), defBody (top 68), defScope (top 68), [], []⟩,
  ⟨fun K => ga K "_law_whole_so", "_law_whole_so", "_law_whole_so", defArgs (top 69), defBody (top 69), defScope (top 69), [], []⟩,
  ⟨fun K => ga K "_law_still", "_law_still", "_law_still", defArgs (top 70), defBody (top 70), defScope (top 70), [], []⟩,
  ⟨fun K => ga K "_law_under", "_law_under", "_law_under", defArgs (top 71), defBody (top 71), defScope (top 71), [], []⟩,
  ⟨fun K => ga K "_law_fits", "_law_fits", "_law_fits", defArgs (top 72), defBody (top 72), defScope (top 72), [], []⟩,
  ⟨fun K => ga K "_law_sights", "_law_sights", "_law_sights", defArgs (top 73), defBody (top 73), defScope (top 73), [], []⟩,
  ⟨fun K => ga K "_law_named", "_law_named", "_law_named", defArgs (top 74), defBody (top 74), defScope (top 74), [], []⟩,
  ⟨fun K => ga K "_law_close", "_law_close", "_law_close", defArgs (top 75), defBody (top 75), defScope (top 75), [], []⟩,
  ⟨fun K => ga K "_law_draw", "_law_draw", "_law_draw", defArgs (top 76), defBody (top 76), defScope (top 76), [], []⟩,
  ⟨fun K => ga K "_law_wet", "_law_wet", "_law_wet", defArgs (top 77), defBody (top 77), defScope (top 77), [], []⟩,
  ⟨fun K => ga K "_law_low", "_law_low", "_law_low", defArgs (top 78), defBody (top 78), defScope (top 78), [], []⟩,
  ⟨fun K => ga K "_law_rest", "_law_rest", "_law_rest", defArgs (top 79), defBody (top 79), defScope (top 79), [], []⟩,
  ⟨fun K => ga K "_law_book", "_law_book", "_law_book", defArgs (top 80), defBody (top 80), defScope (top 80), [], []⟩,
  ⟨fun K => ga K "_law_heard", "_law_heard", "_law_heard", defArgs (top 81), defBody (top 81), defScope (top 81), [], []⟩,
  ⟨fun K => ga K "_law_by_hand_right", "_law_by_hand_right", "_law_by_hand_right", defArgs (top 82), defBody (top 82), defScope (top 82), [], []⟩,
  ⟨fun K => ga K "_law_more_right", "_law_more_right", "_law_more_right", defArgs (top 83), defBody (top 83), defScope (top 83), [], []⟩,
  ⟨fun K => ga K "_law_right", "_law_right", "_law_right", defArgs (top 84), defBody (top 84), defScope (top 84), [], []⟩,
  ⟨fun K => ga K "law", "law", "law", defArgs (top 85), defBody (top 85), defScope (top 85), [], []⟩,
  ⟨fun K => He5.wf K (cT K) "property" "islands", "islands", "Talk.islands", defArgs (inClass (top 43) 3), defBody (inClass (top 43) 3), defScope (inClass (top 43) 3), [], []⟩,
  ⟨fun K => He5.wf K (cT K) "property" "rules", "rules", "Talk.rules", defArgs (inClass (top 43) 4), defBody (inClass (top 43) 4), defScope (inClass (top 43) 4), [], []⟩,
  ⟨fun K => He5.wf K (cT K) "property" "floods", "floods", "Talk.floods", defArgs (inClass (top 43) 5), defBody (inClass (top 43) 5), defScope (inClass (top 43) 5), [], []⟩,
  ⟨fun K => He5.wf K (cT K) "property" "text", "text", "Talk.text", defArgs (inClass (top 43) 8), defBody (inClass (top 43) 8), defScope (inClass (top 43) 8), [], []⟩,
  ⟨fun K => ma K (cT K) "__init__", "__init__", "Talk.__init__", defArgs (inClass (top 43) 1), defBody (inClass (top 43) 1), defScope (inClass (top 43) 1), [.adr (eT 0), .adr (eT 1), .adr (eT 2)], []⟩,
  ⟨fun K => He5.wf K (cT K) "staticmethod" "of", "of", "Talk.of", defArgs (inClass (top 43) 2), defBody (inClass (top 43) 2), defScope (inClass (top 43) 2), [], []⟩,
  ⟨fun K => ma K (cT K) "__getitem__", "__getitem__", "Talk.__getitem__", defArgs (inClass (top 43) 10), defBody (inClass (top 43) 10), defScope (inClass (top 43) 10), [], []⟩,
  ⟨fun K => ma K (cN K) "__init__", "__init__", "NoFlood.__init__", defArgs (inClass (top 2) 0), defBody (inClass (top 2) 0), defScope (inClass (top 2) 0), [], []⟩]
def faL : List He.Fa := [.glo "set_of", .glo "tupled", .glo "is_name", .glo "is_rising", .glo "put_together", .glo "is_joined", .glo "labels", .glo "joined_in", .glo "lowest_of", .glo "peeled", .glo "fit_all", .glo "names_of", .glo "can_be", .glo "stuck_lot", .glo "flood_of", .glo "is_stuck", .glo "is_pair", .glo "is_pairs", .glo "is_rule", .glo "is_flood", .glo "names_in", .glo "check_islands", .glo "check_once", .glo "pair_text", .glo "pairs_text", .glo "rule_text", .glo "flood_text", .glo "pairs_in", .glo "rule_in", .glo "flood_in", .glo "fits_islands", .glo "with_flood", .glo "without_flood", .glo "_law_box", .glo "_law_cells", .glo "_law_of", .glo "_law_mixed", .glo "_law_take", .glo "_law_same", .glo "_law_lists", .glo "_law_pick", .glo "_law_isles", .glo "_law_twos", .glo "_law_orders", .glo "_law_times", .glo "_law_grids", .glo "_law_one", .glo "_law_whole_so", .glo "_law_still", .glo "_law_under", .glo "_law_fits", .glo "_law_sights", .glo "_law_named", .glo "_law_close", .glo "_law_draw", .glo "_law_wet", .glo "_law_low", .glo "_law_rest", .glo "_law_book", .glo "_law_heard", .glo "_law_by_hand_right", .glo "_law_more_right", .glo "_law_right", .glo "law", .glo "Talk", .glo "NoFlood", .mkr "Talk", .free "len", .free "all", .free "any", .free "list", .free "tuple", .free "sorted", .free "set", .free "range", .free "enumerate", .free "zip", .free "isinstance", .free "str", .free "int", .free "bool", .free "max", .free "abs", .free "sum", .str "LETTERS" "abcdefghijklmnopqrstuvwxyz", .int "LONGEST" 8, .str "BLANK" " ", .str "BETWEEN" "; ", .str "NOTHING" "-", .str "BRIDGE" "-", .str "GIVES" ">", .str "COLON" ": ", .str "OVER" " / ", .int "PAIR" 2, .int "THREE" 3]
def exL : List (PySem.W.Frag → Bool) := [
  fun K => PySem.W.plainGet K (cT K) Str.empty && (PySem.W.isClsIn K (cT K) && (PySem.W.plainOver K (cT K) && eqO (PySem.W.findIn K (.ref (cT K)) "__setattr__") (some (some (.builtin "object.__setattr__"))))),
  fun K => slotB K "own_floods" 0,
  fun K => slotB K "own_islands" 1,
  fun K => slotB K "own_rules" 2,
  fun K => prpB K "islands",
  fun K => prpB K "rules",
  fun K => prpB K "floods",
  fun K => prpB K "text",
  fun K => emptyB K (eT 0 K) && (emptyB K (eT 1 K) && emptyB K (eT 2 K)),
  fun K => PySem.W.readsIn K (cT K) (.type "type") && (eqO (PySem.W.specialIn K (.ref (cT K)) "__getattribute__") (some (some (.builtin "type.__getattribute__"))) && He5.wrapB K (cT K) "staticmethod" "staticmethod.__get__" "of"),
  fun K => eqO (PySem.W.findIn K (.ref (cT K)) "__getitem__") (some (some (.ref (ma K (cT K) "__getitem__")))) && (PySem.W.fnIn K (ma K (cT K) "__getitem__") && PySem.W.isFn K (.ref (ma K (cT K) "__getitem__"))),
  fun K => PySem.W.excInitIn K (cN K) bmL "LookupError.__new__" && (PySem.W.excOver K (cN K) bmL && (eqO (PySem.W.findIn K (.ref (cN K)) "__setattr__") (some (some (.builtin "object.__setattr__"))) && eqO (PySem.W.findIn K (.ref (cN K)) "__getattribute__") (some (some (.builtin "BaseException.__getattribute__"))))),
  fun K => eqO (PySem.W.findIn K (.ref (cN K)) "__getattr__") (some none) && (eqO (PySem.W.findIn K (.ref (cN K)) "name") (some none) && (PySem.W.keepIn K (.ref (cN K)) && decide (PySem.W.subIn K (.ref (cN K)) (.type "BaseException") = some true))),
  fun K => decide (PySem.W.typeIn K (.ref (cN K)) = some (.type "type")) && (PySem.W.hasDictIn K (cN K) && decide (PySem.W.exmOne K (.ref (cN K)) (.ref (cN K)) = some true)),
  fun K => eqO (PySem.W.findIn K (.ref (cN K)) "__init__") (some (some (.ref (ma K (cN K) "__init__")))) && decide (PySem.W.typeIn K (.ref (ma K (cN K) "__init__")) = some (.type "function"))]
/-! ### the Hook -/
/-- what of an object is looked at further -/
def refsR (o : Obj) : List Addr := match o.data with
  | .func fd => He.refV fd.code ++ He.refV fd.defaults
  | .dict es _ => es.toList.flatMap fun e => He.refV e.val
  | .cls cd => cd.ns :: (cd.mro.drop 1).flatMap He.refV
  | .seq its _ => its.toList.flatMap He.refV
  | .fields vs => (match o.cls with
    | .type n => (match decide (n = "property") || decide (n = "staticmethod") with
      | true => vs.toList.flatMap He.refV
      | false => [])
    | _ => [])
  | _ => []
def stepR (g : Addr → Option Obj) (as : List Addr) : List Addr := as.flatMap fun a => match g a with
  | some o => refsR o
  | none => []
/-- behind the module's names, level by level -/
def allR (g : Addr → Option Obj) : Nat → List Addr → List Addr
  | 0, as => as
  | n + 1, as => as ++ allR g n (stepR g as)
def asR (g : Addr → Option Obj) (n : Nat) : List Addr := PySem.cStatics :: allR g n [mainGlobals]
abbrev AlW : Type := He.AlD × Bool
def obsW (n : Nat) (g : Addr → Option Obj) : AlW := (He5.obsA faL fnL (He.frG g (asR g n)), exL.all fun t => t (He.frG g (asR g n)))
def SaysW (K : PySem.W.Frag) : Prop := He5.SaysA faL fnL K ∧ (exL.all fun t => t K) = true
def hookW (n : Nat) : PySem.W.Hook where
  α := AlW
  obs := fun s => obsW n s.heap.get?
  val := fun _ => (He5.valA fnL, true)
  says := fun _ h => ∃ K : PySem.W.Frag, K.In h ∧ SaysW K
  of := fun _ _ e => ⟨_, He.frG_in, congrArg (fun z : AlW => z.1) e, congrArg (fun z : AlW => z.2) e⟩
  keeps := fun _ _ _ ⟨K, hK, c⟩ k => ⟨K, PySem.W.Frag.In.keeps hK k, c⟩
theorem obsW_eq {n : Nat} {g : Addr → Option Obj} {s : Shared} (h : ∀ a, g a = s.heap.get? a) : obsW n g = (hookW n).obs s := by
  rw [show g = s.heap.get? from funext h] <;> rfl
end
section
open PySem PySem.W PySem.Calls PyProof.Rows
abbrev Rw : OpenRow := OpenLaw.row PySem.Challenge.rw_lastfords_k32_whole_floods_that_can_be
abbrev qv : Program := view Rw.prog [85]
def loN : List PySem.Str := Rw.prog.boundNames.filter fun n => !(n == ("law" : PySem.Str))
def obR (s : SharedT) : AlW := obsW 5 (HandSHeadRun.getT s)
theorem obR_eq (s : SharedT) : obR s = (hookW 5).obs s.abs := obsW_eq (HandSHeadRun.getT_eq s)
theorem runR (w : World) : HandSHeadRun.RunEq Rw qv (hookW 5) obR 6000 loN w := by
  intro os
  kernel_rfl
end
end Fz
set_option maxHeartbeats 2000000
/-! A data layer over HandS: values as trees, canonical readings. -/
namespace Fz
open PySem L2

/-! ### a dict of whether, by pairs of tuples of ints -/
abbrev BK := List Int × List Int
def nkey (k : BK) : NestedKey := .tup [.tup (k.1.map .num), .tup (k.2.map .num)]
def KeyAt (K : PySem.W.Frag) (H : Hp) (k : BK) (a : Addr) : Prop := ∃ a1 a2, SqT K H a [.ref a1, .ref a2] ∧ SqT K H a1 (k.1.map V.int) ∧ SqT K H a2 (k.2.map V.int)
/-- the dict at p answers f at each key of S -/
def BookAt (K : PySem.W.Frag) (B H : Hp) (p : Addr) (w : World) (f : BK → Bool) (S : List BK) : Prop :=
  ∃ (o : Obj) (es : Array DictEntry) (ep : Nat) (xs : List (NestedKey × Addr × Value)), H p = some (.ext fun h => h.get? p = some o) ∧ o.ExactDict ∧ o.data = .dict es ep ∧ es.toList = xs.map (fun x => ⟨x.1.hash w, .ref x.2.1, x.2.2⟩) ∧ (xs.map (·.1)).Nodup ∧
    (∀ x ∈ xs, ∃ k, x.1 = nkey k ∧ x.2.2 = .bool (f k) ∧ KeyAt K B k x.2.1) ∧ (∀ k ∈ S, ∃ x ∈ xs, x.1 = nkey k) ∧ xs.length ≤ S.length

/-! ### data -/
inductive D where
  | non | bl (b : Bool) | int (i : Int) | str (x : Str)
  | tup (l : List D) | tupk (l : List D) | lst (l : List D) | lstk (l : List D)
  | dic (l : List (Str × Str))
  | obj (i r f : D)
  | book (w : World) (f : BK → Bool) (S : List BK)

section
variable (K : PySem.W.Frag) (C : Addr)
mutual
/-- v stands for the tree d, in H; C: the class of the objects -/
def Rp (H : Hp) : D → V → Prop
  | .non, v => v = .non
  | .bl b, v => v = .bl b
  | .int i, v => v = .int i
  | .str x, v => v = .str x
  | .tup l, v => ∃ a xs, v = .ref a ∧ SqT K H a xs ∧ RpL H l xs
  | .tupk l, v => ∃ a o xs, v = .ref a ∧ H a = some (.frz o (.tup xs)) ∧ o.dict = none ∧ RpL H l xs
  | .lst l, v => ∃ a xs, v = .ref a ∧ H a = some (.lst xs) ∧ RpL H l xs
  | .lstk l, v => ∃ a xs, v = .ref a ∧ SqL K H a xs ∧ RpL H l xs
  | .dic l, v => ∃ a, v = .ref a ∧ H a = some (.dK (l.map fun p => (Sum.inr p.1, V.str p.2)))
  | .obj i r f, v => ∃ a dx vi vr vf, v = .ref a ∧ SlX.Slt H a C dx [some vf, some vi, some vr] ∧ Rp H i vi ∧ Rp H r vr ∧ Rp H f vf
  | .book w f S, v => ∃ a, v = .ref a ∧ BookAt K H H a w f S
def RpL (H : Hp) : List D → List V → Prop
  | [], xs => xs = []
  | d :: ds, xs => ∃ x r, xs = x :: r ∧ Rp H d x ∧ RpL H ds r
end
end

section
variable {K : PySem.W.Frag} {C : Addr} {H H' : Hp}
theorem slt_same {a dx : Addr} {vs : List (Option V)} (e : Same H H') (h : SlX.Slt H a C dx vs) : SlX.Slt H' a C dx vs := by
  rcases h with ⟨h1, h2⟩ | ⟨h1, h2⟩
  · exact .inl ⟨e _ _ h1, h2⟩
  · exact .inr ⟨e _ _ h1, e _ _ h2⟩
theorem sqT_same {a : Addr} {xs : List V} (e : Same H H') (h : SqT K H a xs) : SqT K H' a xs := by
  rcases h with (h | ⟨o, h⟩) | h
  · exact .inl (.inl (e _ _ h))
  · exact .inl (.inr ⟨o, e _ _ h⟩)
  · exact .inr h
theorem sqL_same {a : Addr} {xs : List V} (e : Same H H') (h : SqL K H a xs) : SqL K H' a xs := by
  rcases h with (h | ⟨o, h⟩) | h
  · exact .inl (.inl (e _ _ h))
  · exact .inl (.inr ⟨o, e _ _ h⟩)
  · exact .inr h
theorem KeyAt.mono {k : BK} {a : Addr} (e : Same H H') (h : KeyAt K H k a) : KeyAt K H' k a := let ⟨a1, a2, h1, h2, h3⟩ := h; ⟨a1, a2, sqT_same e h1, sqT_same e h2, sqT_same e h3⟩
theorem BookAt.mono {B B' : Hp} {p : Addr} {w : World} {f : BK → Bool} {S : List BK} (e : Same B B') (q : H' p = H p) (h : BookAt K B H p w f S) : BookAt K B' H' p w f S := by
  obtain ⟨o, es, ep, xs, h1, h2, h3, h4, h5, h6, h7, h8⟩ := h
  exact ⟨o, es, ep, xs, q.trans h1, h2, h3, h4, h5, fun x hx => let ⟨k, z1, z2, z3⟩ := h6 x hx; ⟨k, z1, z2, z3.mono e⟩, h7, h8⟩
theorem BookAt.live {B : Hp} {p : Addr} {w : World} {f : BK → Bool} {S : List BK} (h : BookAt K B H p w f S) : ∃ o, H p = some o := by
  obtain ⟨o, es, ep, xs, h1, _⟩ := h
  exact ⟨_, h1⟩
mutual
theorem Rp.mono (e : Same H H') : ∀ (d : D) (v : V), Rp K C H d v → Rp K C H' d v
  | .non, _, h => h
  | .bl _, _, h => h
  | .int _, _, h => h
  | .str _, _, h => h
  | .tup l, _, ⟨a, xs, e1, e2, e3⟩ => ⟨a, xs, e1, sqT_same e e2, RpL.mono e l xs e3⟩
  | .tupk l, _, ⟨a, o, xs, e1, e2, e3, e4⟩ => ⟨a, o, xs, e1, e _ _ e2, e3, RpL.mono e l xs e4⟩
  | .lst l, _, ⟨a, xs, e1, e2, e3⟩ => ⟨a, xs, e1, e _ _ e2, RpL.mono e l xs e3⟩
  | .lstk l, _, ⟨a, xs, e1, e2, e3⟩ => ⟨a, xs, e1, sqL_same e e2, RpL.mono e l xs e3⟩
  | .dic _, _, ⟨a, e1, e2⟩ => ⟨a, e1, e _ _ e2⟩
  | .obj i r f, _, ⟨a, dx, vi, vr, vf, e1, e2, e3, e4, e5⟩ => ⟨a, dx, vi, vr, vf, e1, slt_same e e2, Rp.mono e i vi e3, Rp.mono e r vr e4, Rp.mono e f vf e5⟩
  | .book _ _ _, _, ⟨a, e1, e2⟩ => ⟨a, e1, e2.mono e (by obtain ⟨o, z⟩ := e2.live; rw [z]; exact e _ _ z)⟩
theorem RpL.mono (e : Same H H') : ∀ (l : List D) (xs : List V), RpL K C H l xs → RpL K C H' l xs
  | [], _, h => h
  | d :: ds, _, ⟨x, r, e1, e2, e3⟩ => ⟨x, r, e1, Rp.mono e d x e2, RpL.mono e ds r e3⟩
end
theorem RpL.length : ∀ {l : List D} {xs : List V}, RpL K C H l xs → xs.length = l.length
  | [], _, h => by
    have h : _ = [] := h
    rw [h]
    rfl
  | d :: ds, _, ⟨x, r, e1, _, e3⟩ => by
    rw [e1]
    exact congrArg Nat.succ (RpL.length e3)
theorem RpL.get : ∀ {l : List D} {xs : List V} {i : Nat} {d : D}, RpL K C H l xs → l[i]? = some d → ∃ x, xs[i]? = some x ∧ Rp K C H d x
  | [], _, i, d, _, e => by simp at e
  | d :: ds, _, 0, d', ⟨x, r, e1, e2, _⟩, e => by
    simp at e
    subst e e1
    exact ⟨x, rfl, e2⟩
  | d :: ds, _, i + 1, d', ⟨x, r, e1, _, e3⟩, e => by
    subst e1
    obtain ⟨y, h1, h2⟩ := RpL.get (i := i) (d := d') e3 (by simpa using e)
    exact ⟨y, by simpa using h1, h2⟩
theorem RpL.getV : ∀ {l : List D} {xs : List V} {i : Nat} {x : V}, RpL K C H l xs → xs[i]? = some x → ∃ d, l[i]? = some d ∧ Rp K C H d x
  | [], _, i, x, h, e => by
    have h : _ = [] := h
    rw [h] at e
    simp at e
  | d :: ds, _, 0, x', ⟨x, r, e1, e2, _⟩, e => by
    subst e1
    simp at e
    subst e
    exact ⟨d, rfl, e2⟩
  | d :: ds, _, i + 1, x', ⟨x, r, e1, _, e3⟩, e => by
    subst e1
    obtain ⟨y, h1, h2⟩ := RpL.getV (i := i) (x := x') e3 (by simpa using e)
    exact ⟨y, by simpa using h1, h2⟩
theorem RpL.append : ∀ {l m : List D} {xs ys : List V}, RpL K C H l xs → RpL K C H m ys → RpL K C H (l ++ m) (xs ++ ys)
  | [], _, _, _, h, k => by
    have h : _ = [] := h
    rw [h]
    exact k
  | d :: ds, _, _, _, ⟨x, r, e1, e2, e3⟩, k => by
    rw [e1]
    exact ⟨x, _, rfl, e2, RpL.append e3 k⟩
theorem RpL.drop : ∀ {l : List D} {xs : List V} (n : Nat), RpL K C H l xs → RpL K C H (l.drop n) (xs.drop n)
  | _, _, 0, h => h
  | [], _, n + 1, h => by
    have h : _ = [] := h
    rw [h]
    rfl
  | d :: ds, _, n + 1, ⟨x, r, e1, _, e3⟩ => by
    rw [e1]
    exact RpL.drop n e3
theorem RpL.take : ∀ {l : List D} {xs : List V} (n : Nat), RpL K C H l xs → RpL K C H (l.take n) (xs.take n)
  | _, _, 0, h => rfl
  | [], _, n + 1, h => by
    have h : _ = [] := h
    rw [h]
    rfl
  | d :: ds, _, n + 1, ⟨x, r, e1, e2, e3⟩ => by
    rw [e1]
    exact ⟨x, r.take n, rfl, e2, RpL.take n e3⟩
theorem RpL.one {d : D} {x : V} (h : Rp K C H d x) : RpL K C H [d] [x] := ⟨x, [], rfl, h, rfl⟩
theorem RpL.strs : ∀ {l : List Str} {xs : List V}, RpL K C H (l.map D.str) xs → xs = l.map V.str
  | [], _, h => h
  | s :: r, _, ⟨x, t, e1, e2, e3⟩ => by
    have e2 : x = V.str s := e2
    rw [e1, e2, RpL.strs e3]
    rfl
theorem RpL.ofStrs : ∀ (l : List Str), RpL K C H (l.map D.str) (l.map V.str)
  | [] => rfl
  | s :: r => ⟨_, _, rfl, rfl, RpL.ofStrs r⟩
theorem RpL.ints : ∀ {l : List Int} {xs : List V}, RpL K C H (l.map D.int) xs → xs = l.map V.int
  | [], _, h => h
  | s :: r, _, ⟨x, t, e1, e2, e3⟩ => by
    have e2 : x = V.int s := e2
    rw [e1, e2, RpL.ints e3]
    rfl
theorem RpL.ofInts : ∀ (l : List Int), RpL K C H (l.map D.int) (l.map V.int)
  | [] => rfl
  | s :: r => ⟨_, _, rfl, rfl, RpL.ofInts r⟩
theorem RpL.bls : ∀ {l : List Bool} {xs : List V}, RpL K C H (l.map D.bl) xs → xs = l.map V.bl
  | [], _, h => h
  | s :: r, _, ⟨x, t, e1, e2, e3⟩ => by
    have e2 : x = V.bl s := e2
    rw [e1, e2, RpL.bls e3]
    rfl
end

/-! ### what is one's own -/
open Classical in
/-- the heap without what may change -/
noncomputable def mask (P : Addr → Prop) (H : Hp) : Hp := fun a => if P a then none else H a
section
variable {P : Addr → Prop} {H H' : Hp} {a : Addr} {o : HO}
theorem mask_no (h : P a) : mask P H a = none := if_pos h
theorem mask_at (h : ¬ P a) : mask P H a = H a := if_neg h
theorem mask_some (e : mask P H a = some o) : H a = some o ∧ ¬ P a := by
  by_cases h : P a
  · rw [mask_no h] at e
    cases e
  · rw [mask_at h] at e
    exact ⟨e, h⟩
theorem mask_le : Same (mask P H) H := fun _ _ e => (mask_some e).1
theorem mask_same (e : Same H H') : Same (mask P H) (mask P H') := fun b u q => by
  obtain ⟨h1, h2⟩ := mask_some q
  rw [mask_at h2]
  exact e b u h1
theorem mask_less {P' : Addr → Prop} (h : ∀ a, P' a → P a) : Same (mask P H) (mask P' H) := fun b u q => by
  obtain ⟨h1, h2⟩ := mask_some q
  rw [mask_at fun z => h2 (h b z)]
  exact h1
theorem mask_upd (h : P a) : mask P (upd H a o) = mask P H := by
  funext b
  by_cases hb : P b
  · rw [mask_no hb, mask_no hb]
  · rw [mask_at hb, mask_at hb, upd_ne fun e => hb (by rw [e]; exact h)]
theorem mask_new (h : ¬ P a) : mask P (upd H a o) = upd (mask P H) a o := by
  funext b
  by_cases e : b = a
  · subst e
    rw [mask_at h, upd_same, upd_same]
  · rw [upd_ne e]
    by_cases hb : P b
    · rw [mask_no hb, mask_no hb]
    · rw [mask_at hb, mask_at hb, upd_ne e]
end
/-- tracked -/
def Trk (P : Addr → Prop) (H : Hp) : Prop := ∀ a, P a → ∃ o, H a = some o
theorem Trk.same {P : Addr → Prop} {H H' : Hp} (t : Trk P H) (e : Same H H') : Trk P H' := fun a h => let ⟨o, q⟩ := t a h; ⟨o, e a o q⟩
theorem Trk.new {P : Addr → Prop} {H : Hp} (t : Trk P H) {p : Addr} (h : H p = none) : ¬ P p := fun z => by
  obtain ⟨o, q⟩ := t p z
  rw [h] at q
  cases q
theorem same_upd {H : Hp} {p : Addr} {o : HO} (h : H p = none) : Same H (upd H p o) := fun b u e => by
  rw [upd_ne (ne_of_none e h)]
  exact e

/-! ### the frame of a body -/
structure Frm where
  P0 : Addr → Prop
  H0 : Hp
  U : Addr → Prop

/-- a kind of thing at an address: masked heap, heap, address -/
structure Ph where
  at_ : PySem.W.Frag → Addr → Hp → Hp → Addr → Prop
  mono : ∀ {K C B B' H H' p}, Same B B' → H' p = H p → at_ K C B H p → at_ K C B' H' p
  live : ∀ {K C B H p}, at_ K C B H p → ∃ o, H p = some o
/-- what a slot holds: nothing that is known; data; a thing of one's own; a thing lent, which may change -/
inductive Sl where
  | no | dat (d : D) | ow (φ : Ph) | ur (φ : Ph)

/-- a source of draws that has drawn at most k times -/
def UrnAt (H : Hp) (p : Addr) (k : Nat) : Prop := ∃ a b c : Int, H p = some (.lst [.int a, .int b, .int c]) ∧ 0 ≤ a ∧ 0 ≤ b ∧ b < 2 ^ 62 ∧ 0 ≤ c ∧ c ≤ (k : Int)
/-- a list -/
def phL (l : List D) : Ph where
  at_ := fun K C B H p => ∃ xs, H p = some (.lst xs) ∧ RpL K C B l xs
  mono := fun e h ⟨xs, h1, h2⟩ => ⟨xs, h.trans h1, RpL.mono e l xs h2⟩
  live := fun ⟨xs, h1, _⟩ => ⟨_, h1⟩
def phU (k : Nat) : Ph where
  at_ := fun K C B H p => UrnAt H p k
  mono := fun e h ⟨a, b, c, h1, h2⟩ => ⟨a, b, c, h.trans h1, h2⟩
  live := fun ⟨a, b, c, h1, _⟩ => ⟨_, h1⟩
def phB (w : World) (f : BK → Bool) (S : List BK) : Ph where
  at_ := fun K C B H p => BookAt K B H p w f S
  mono := fun e h q => q.mono e h
  live := fun q => q.live
abbrev Sl.own (l : List D) : Sl := .ow (phL l)
abbrev Sl.urn (k : Nat) : Sl := .ur (phU k)

def IsOwn (ρ : List Sl) (i : Nat) : Prop := (∃ φ, ρ[i]? = some (.ow φ)) ∨ ∃ φ, ρ[i]? = some (.ur φ)

structure Rep (K : PySem.W.Frag) (C : Addr) (F : Frm) (P : Addr → Prop) (H : Hp) (σ : St) (ρ : List Sl) : Prop where
  wfU : ∀ a, F.U a → F.P0 a
  wfP : Trk F.P0 F.H0
  le : ∀ a, F.P0 a → P a
  fr : ∀ a, P a → F.P0 a ∨ F.H0 a = none
  ex : ∀ a o, F.H0 a = some o → ¬ F.U a → H a = some o
  trk : Trk P H
  dat : ∀ (i : Nat) d, ρ[i]? = some (.dat d) → ∃ v, σ[i]? = some (some v) ∧ Rp K C (mask P H) d v
  own : ∀ (i : Nat) φ, ρ[i]? = some (.ow φ) → ∃ p, σ[i]? = some (some (.ref p)) ∧ P p ∧ F.H0 p = none ∧ φ.at_ K C (mask P H) H p
  urn : ∀ (i : Nat) φ, ρ[i]? = some (.ur φ) → ∃ p, σ[i]? = some (some (.ref p)) ∧ F.U p ∧ φ.at_ K C (mask P H) H p
  inj : ∀ (i j : Nat) p, IsOwn ρ i → IsOwn ρ j → σ[i]? = some (some (.ref p)) → σ[j]? = some (some (.ref p)) → i = j
  len : ρ.length = σ.length

section
variable {K : PySem.W.Frag} {C : Addr} {F : Frm} {P : Addr → Prop} {H H' : Hp} {σ : St} {ρ : List Sl}
theorem UrnAt.same {p : Addr} {k : Nat} (e : Same H H') (h : UrnAt H p k) : UrnAt H' p k := let ⟨a, b, c, h1, h2⟩ := h; ⟨a, b, c, e _ _ h1, h2⟩
theorem same_at {p : Addr} (e : Same H H') (h : ∃ o, H p = some o) : H' p = H p := by
  obtain ⟨o, h⟩ := h
  rw [h]
  exact e p o h
theorem Ph.same {φ : Ph} {p : Addr} (e : Same H H') (h : φ.at_ K C (mask P H) H p) : φ.at_ K C (mask P H') H' p := φ.mono (mask_same e) (same_at e (φ.live h)) h
theorem Rep.same (r : Rep K C F P H σ ρ) (e : Same H H') : Rep K C F P H' σ ρ where
  wfU := r.wfU
  wfP := r.wfP
  le := r.le
  fr := r.fr
  ex := fun a o h n => e a o (r.ex a o h n)
  trk := r.trk.same e
  dat := fun i d h => let ⟨v, h1, h2⟩ := r.dat i d h; ⟨v, h1, Rp.mono (mask_same e) d v h2⟩
  own := fun i φ h => let ⟨p, h1, h2, h3, h4⟩ := r.own i φ h; ⟨p, h1, h2, h3, Ph.same e h4⟩
  urn := fun i φ h => let ⟨p, h1, h2, h3⟩ := r.urn i φ h; ⟨p, h1, h2, Ph.same e h3⟩
  inj := r.inj
  len := r.len
end

/-! ### the canonical readings -/
section
variable (K : PySem.W.Frag) (C : Addr)
def tD (ρ : List Sl) (d : D) : TE := fun σ H Q => ∃ F P, Rep K C F P H σ ρ ∧ ∀ v H2, Same H H2 → Rp K C (mask P H2) d v → Q v H2
def tT (ρ : List Sl) (b : Bool) : TT := fun σ H Q => ∃ F P, Rep K C F P H σ ρ ∧ ∀ H2, Same H H2 → Q b H2
def tA (ρ : List Sl) (ds : List D) : TA := fun σ H Q => ∃ F P, Rep K C F P H σ ρ ∧ ∀ vs H2, Same H H2 → RpL K C (mask P H2) ds vs → Q vs H2
/-- a new list -/
def tF (ρ : List Sl) (l : List D) : TE := fun σ H Q => ∃ F P, Rep K C F P H σ ρ ∧ ∀ p xs H2, H p = none → Same H H2 → H2 p = some (.lst xs) → RpL K C (mask (fun a => P a ∨ a = p) H2) l xs → Q (.ref p) H2
/-- a body's step: the slots turn from ρ to ρ' -/
def tN (F : Frm) (ρ ρ' : List Sl) : TS := fun D σ H => ∃ P, Rep K C F P H σ ρ ∧ ∀ P' σ' H', Rep K C F P' H' σ' ρ' → Same (mask P H) (mask P' H') → D.nx σ' H'
/-- a body's end: what it hands back is told by G -/
def tRG (F : Frm) (ρ : List Sl) (G : VK) : TS := fun D σ H => ∃ P, Rep K C F P H σ ρ ∧ ∀ v H', G v H' → D.rt v H'
/-- it hands back d -/
def GR (F : Frm) (d : D) : VK := fun v H' => (∀ a o, F.H0 a = some o → ¬ F.U a → H' a = some o) ∧ Rp K C (mask F.P0 H') d v
abbrev tR (F : Frm) (ρ : List Sl) (d : D) : TS := tRG K C F ρ (GR K C F d)
/-- by values -/
def rD (a b c : D) : R2 := fun x y H Q => ∃ P, Trk P H ∧ Rp K C (mask P H) a x ∧ Rp K C (mask P H) b y ∧ ∀ v H2, Same H H2 → Rp K C (mask P H2) c v → Q v H2
def rC (ds : List D) (d : D) : List V → Hp → VK → Prop := fun vs H Q => ∃ P, Trk P H ∧ RpL K C (mask P H) ds vs ∧ ∀ v H2, Same H H2 → Rp K C (mask P H2) d v → Q v H2
/-- a def's promise over data -/
def spD (g : List D → D → Prop) : Sp := fun vs H Q _ => ∃ P ds d, Trk P H ∧ RpL K C (mask P H) ds vs ∧ g ds d ∧ ∀ v H', Same H H' → Rp K C (mask P H') d v → Q v H'
end

/-! ### weakening -/
section
variable {X : Cx} {e : Expr} {es : List Expr} {st : Stmt} {sts : List Stmt}
theorem pe_w {t t' : TE} (h : PE X e t) (w : ∀ σ H Q, t' σ H Q → t σ H Q) : PE X e t' := ⟨fun pins s σ H Q I q => h.run pins s σ H Q I (w σ H Q q)⟩
theorem pt_w {t t' : TT} (h : PT X e t) (w : ∀ σ H Q, t' σ H Q → t σ H Q) : PT X e t' := ⟨fun pins s σ H Q I q => h.run pins s σ H Q I (w σ H Q q)⟩
theorem pa_w {t t' : TA} (h : PA X es t) (w : ∀ σ H Q, t' σ H Q → t σ H Q) : PA X es t' := ⟨fun pos pins s σ H Q I q => h.run pos pins s σ H Q I (w σ H Q q)⟩
theorem ps_w {t t' : TS} (h : PS X st t) (w : ∀ D σ H, t' D σ H → t D σ H) : PS X st t' := ⟨fun pins s σ H D I q => h.run pins s σ H D I (w D σ H q)⟩
theorem pss_w {t t' : TS} (h : PSs X sts t) (w : ∀ D σ H, t' D σ H → t D σ H) : PSs X sts t' := ⟨fun pins s σ H D I q => h.run pins s σ H D I (w D σ H q)⟩
/-- a family of readings is one -/
theorem pe_fam {ι : Type} {t : ι → TE} (h : ∀ i, PE X e (t i)) : PE X e (fun σ H Q => ∃ i, t i σ H Q) := ⟨fun pins s σ H Q I ⟨i, q⟩ => (h i).run pins s σ H Q I q⟩
theorem pt_fam {ι : Type} {t : ι → TT} (h : ∀ i, PT X e (t i)) : PT X e (fun σ H Q => ∃ i, t i σ H Q) := ⟨fun pins s σ H Q I ⟨i, q⟩ => (h i).run pins s σ H Q I q⟩
theorem pss_fam {ι : Type} {t : ι → TS} (h : ∀ i, PSs X sts (t i)) : PSs X sts (fun D σ H => ∃ i, t i D σ H) := ⟨fun pins s σ H D I ⟨i, q⟩ => (h i).run pins s σ H D I q⟩
end

/-! ### names, constants, displays -/
section
variable {X : Cx} {K : PySem.W.Frag} {C : Addr} {ρ : List Sl} {pos : Pos}
theorem d_var {i : Nat} {x : Str} {d : D} (hr : ρ[i]? = some (.dat d)) (hN : X.N[i]? = some x := by rfl) (hv : Vis X.env.scope x := by first | exact Or.inl rfl | exact Or.inr (Or.inl rfl) | exact Or.inr (Or.inr rfl))
    (hd : (x == ("__debug__" : Str)) = false := by decide) (hcd : (x == ("__classdict__" : Str)) = false := by decide) : PE X (.Name x pos) (tD K C ρ d) :=
  pe_w (pe_var hN hv hd hcd) fun σ H Q ⟨F, P, r, k⟩ => by
    obtain ⟨v, h1, h2⟩ := r.dat i d hr
    exact ⟨v, h1, k v H (Same.refl H) h2⟩
theorem d_int {n : Int} {j : Nat} : PE X (.Constant (.int n) j pos) (tD K C ρ (.int n)) := pe_w pe_int fun _ H _ ⟨_, _, _, k⟩ => k _ H (Same.refl H) rfl
theorem d_bl {b : Bool} {j : Nat} : PE X (.Constant (.bool b) j pos) (tD K C ρ (.bl b)) := pe_w pe_bl fun _ H _ ⟨_, _, _, k⟩ => k _ H (Same.refl H) rfl
theorem d_non {j : Nat} : PE X (.Constant .none j pos) (tD K C ρ .non) := pe_w pe_non fun _ H _ ⟨_, _, _, k⟩ => k _ H (Same.refl H) rfl
theorem d_str {x : Str} {j : Nat} : PE X (.Constant (.str x) j pos) (tD K C ρ (.str x)) := pe_w pe_str fun _ H _ ⟨_, _, _, k⟩ => k _ H (Same.refl H) rfl
theorem d_gstr {x z : Str} (hg : Gl X x) (hm : ∃ t, X.mg x = some (.str z t)) (hd : (x == ("__debug__" : Str)) = false := by decide) : PE X (.Name x pos) (tD K C ρ (.str z)) := by
  obtain ⟨t, hm⟩ := hm
  exact pe_w (pe_glob (v := .str z) hg hm ⟨t, rfl⟩ hd) fun _ H _ ⟨_, _, _, k⟩ => k _ H (Same.refl H) rfl
theorem d_gint {x : Str} {z : Int} (hg : Gl X x) (hm : ∃ t, X.mg x = some (.int z t)) (hd : (x == ("__debug__" : Str)) = false := by decide) : PE X (.Name x pos) (tD K C ρ (.int z)) := by
  obtain ⟨t, hm⟩ := hm
  exact pe_w (pe_glob (v := .int z) hg hm ⟨t, rfl⟩ hd) fun _ H _ ⟨_, _, _, k⟩ => k _ H (Same.refl H) rfl
theorem a_nil : PA X [] (tA K C ρ []) := pa_w pa_nil fun _ H _ ⟨_, _, _, k⟩ => k [] H (Same.refl H) rfl
theorem a_cons {e : Expr} {es : List Expr} {d : D} {ds : List D} (he : PE X e (tD K C ρ d)) (hes : PA X es (tA K C ρ ds)) (hs : starEach (e :: es) X.env = (false, eval e X.env) :: starEach es X.env := by rfl) : PA X (e :: es) (tA K C ρ (d :: ds)) :=
  pa_w (pa_cons he hes hs) fun σ H Q ⟨F, P, r, k⟩ => ⟨F, P, r, fun v H2 e2 hv => ⟨F, P, r.same e2, fun vs H3 e3 hvs => k _ _ (e2.trans e3) ⟨v, vs, rfl, Rp.mono (mask_same e3) _ _ hv, hvs⟩⟩⟩
theorem d_tup {es : List Expr} {x1 : Nat} {ds : List D} (h : PA X es (tA K C ρ ds)) (hl : ds.length ≤ sizeLine := by exact Nat.le_of_ble_eq_true rfl) : PE X (.Tuple es x1 pos) (tD K C ρ (.tup ds)) :=
  pe_w (pe_tup h) fun σ H Q ⟨F, P, r, k⟩ => ⟨F, P, r, fun vs H2 e2 hv => ⟨by rw [hv.length]; exact hl, fun p hp => by
    have np : ¬ P p := (r.trk.same e2).new hp
    refine k _ _ (e2.trans (same_upd hp)) ⟨p, vs, rfl, SqT.of ?_, RpL.mono ?_ _ _ hv⟩
    · rw [mask_at np, upd_same]
    · exact mask_same (same_upd hp)⟩⟩
theorem f_lst {es : List Expr} {ds : List D} (h : PA X es (tA K C ρ ds)) (hl : ds.length ≤ sizeLine := by exact Nat.le_of_ble_eq_true rfl) : PE X (.List es pos) (tF K C ρ ds) :=
  pe_w (pe_lst h) fun σ H Q ⟨F, P, r, k⟩ => ⟨F, P, r, fun vs H2 e2 hv => ⟨by rw [hv.length]; exact hl, fun p hp => by
    have hp0 : H p = none := e2.free hp
    refine k p vs _ hp0 (e2.trans (same_upd hp)) upd_same (RpL.mono (fun b u q => ?_) _ _ hv)
    obtain ⟨q1, q2⟩ := mask_some q
    have nb : b ≠ p := ne_of_none q1 hp
    rw [mask_at (fun z => z.elim q2 nb), upd_ne nb]
    exact q1⟩⟩
theorem d_of_f {e : Expr} {l : List D} (h : PE X e (tF K C ρ l)) : PE X e (tD K C ρ (.lst l)) :=
  pe_w h fun σ H Q ⟨F, P, r, k⟩ => ⟨F, P, r, fun p xs H2 hp e2 h2 hl => by
    have np : ¬ P p := r.trk.new hp
    refine k _ _ e2 ⟨p, xs, rfl, ?_, RpL.mono (mask_less fun a z => .inl z) _ _ hl⟩
    rw [mask_at np]
    exact h2⟩
theorem d_lst {es : List Expr} {ds : List D} (h : PA X es (tA K C ρ ds)) (hl : ds.length ≤ sizeLine := by exact Nat.le_of_ble_eq_true rfl) : PE X (.List es pos) (tD K C ρ (.lst ds)) := d_of_f (f_lst h hl)
end
end Fz
/-! The data layer, operators. -/
namespace Fz
open PySem L2
open PySem.W (Datum DatumOrd Tup T3)

/-! ### typed data -/
mutual
def D.py : D → PyData
  | .non => .none
  | .bl b => .bool b
  | .int i => .int i
  | .str x => .str x
  | .tup l => .tuple (D.pys l)
  | .tupk _ => .none
  | .lst l => .list (D.pys l)
  | .lstk _ => .none
  | .dic _ => .none
  | .obj _ _ _ => .none
  | .book _ _ _ => .none
def D.pys : List D → List PyData
  | [] => []
  | d :: ds => d.py :: D.pys ds
end
mutual
/-- no object, no dict within -/
def D.flat : D → Bool
  | .tup l => D.flats l
  | .lst l => D.flats l
  | .tupk _ => false
  | .lstk _ => false
  | .dic _ => false
  | .obj _ _ _ => false
  | .book _ _ _ => false
  | _ => true
def D.flats : List D → Bool
  | [] => true
  | d :: ds => d.flat && D.flats ds
end
theorem pys_map (l : List D) : D.pys l = l.map D.py := by
  induction l with
  | nil => rfl
  | cons d ds ih => rw [D.pys, ih]; rfl
theorem flats_all (l : List D) : D.flats l = l.all D.flat := by
  induction l with
  | nil => rfl
  | cons d ds ih => rw [D.flats, ih]; rfl
class Enc (α : Type) [DecidableEq α] extends Datum α where
  enc : α → D
  py_enc : ∀ a, (enc a).py = toD a
  flat_enc : ∀ a, (enc a).flat = true
open Enc (enc)
instance : Enc Int := { enc := .int, py_enc := fun _ => rfl, flat_enc := fun _ => rfl }
instance : Enc Bool := { enc := .bl, py_enc := fun _ => rfl, flat_enc := fun _ => rfl }
instance : Enc Str := { enc := .str, py_enc := fun _ => rfl, flat_enc := fun _ => rfl }
section
variable {α β γ : Type} [DecidableEq α] [Enc α] [DecidableEq β] [Enc β] [DecidableEq γ] [Enc γ]
theorem pys_enc (l : List α) : D.pys (l.map enc) = l.map Datum.toD := by
  rw [pys_map, List.map_map]
  exact List.map_congr_left fun a _ => Enc.py_enc a
theorem flats_enc (l : List α) : D.flats (l.map enc) = true := by
  rw [flats_all, List.all_map]
  exact List.all_eq_true.mpr fun a _ => Enc.flat_enc a
instance : Enc (List α) := { enc := fun l => .lst (l.map enc), py_enc := fun l => congrArg PyData.list (pys_enc l), flat_enc := fun l => flats_enc l }
instance : Enc (Tup α) := { enc := fun l => .tup (l.items.map enc), py_enc := fun l => congrArg PyData.tuple (pys_enc l.items), flat_enc := fun l => flats_enc l.items }
instance : Enc (α × β) := { enc := fun p => .tup [enc p.1, enc p.2], py_enc := fun p => (by show PyData.tuple [(enc p.1).py, (enc p.2).py] = PyData.tuple [Datum.toD p.1, Datum.toD p.2]; rw [Enc.py_enc, Enc.py_enc]), flat_enc := fun p => (by show ((enc p.1).flat && ((enc p.2).flat && true)) = true; rw [Enc.flat_enc, Enc.flat_enc]; rfl) }
instance : Enc (T3 α β γ) := { enc := fun p => .tup [enc p.a, enc p.b, enc p.c], py_enc := fun p => (by show PyData.tuple [(enc p.a).py, (enc p.b).py, (enc p.c).py] = PyData.tuple [Datum.toD p.a, Datum.toD p.b, Datum.toD p.c]; rw [Enc.py_enc, Enc.py_enc, Enc.py_enc]), flat_enc := fun p => by show ((enc p.a).flat && ((enc p.b).flat && ((enc p.c).flat && true))) = true; rw [Enc.flat_enc, Enc.flat_enc, Enc.flat_enc]; rfl }
end

section
variable {K : PySem.W.Frag} {C : Addr} {H : Hp}
mutual
theorem Rp.dp : ∀ (d : D) (v : V), d.flat = true → Rp K C H d v → Dp K H v d.py
  | .non, _, _, h => by
    have h : _ = V.non := h
    rw [h]
    exact .non
  | .bl b, _, _, h => by
    have h : _ = V.bl b := h
    rw [h]
    exact .bl b
  | .int i, _, _, h => by
    have h : _ = V.int i := h
    rw [h]
    exact .int i
  | .str x, _, _, h => by
    have h : _ = V.str x := h
    rw [h]
    exact .str x
  | .tup l, _, f, ⟨a, xs, e, h1, h2⟩ => by
    rw [e]
    exact .tup h1 (Rp.dps l xs f h2)
  | .lst l, _, f, ⟨a, xs, e, h1, h2⟩ => by
    rw [e]
    exact .lst (SqL.of h1) (Rp.dps l xs f h2)
  | .tupk _, _, f, _ => by cases f
  | .lstk _, _, f, _ => by cases f
  | .dic _, _, f, _ => by cases f
  | .obj _ _ _, _, f, _ => by cases f
  | .book _ _ _, _, f, _ => by cases f
theorem Rp.dps : ∀ (l : List D) (xs : List V), D.flats l = true → RpL K C H l xs → DpAll K H xs (D.pys l)
  | [], _, _, h => by
    have h : _ = [] := h
    rw [h]
    exact .nil
  | d :: ds, _, f, ⟨x, r, e, h1, h2⟩ => by
    rw [e]
    have f2 : (d.flat && D.flats ds) = true := f
    rw [Bool.and_eq_true] at f2
    exact .cons (Rp.dp d x f2.1 h1) (Rp.dps ds r f2.2 h2)
end
end

section
variable {X : Cx} {C : Addr} {α : Type} [DecidableEq α] [Enc α]
theorem holds_of {pins : List (Addr × Obj)} {σ : St} {H H1 : Hp} {s : Shared} {v : V} {u : Value} {a : α} (I : Inv X pins σ H s) (e : Same H1 H) (h : Rp X.K C H1 (enc a) v) (r : RelV v u) : PySem.W.Holds s.heap u a := by
  obtain ⟨as, q⟩ := Dp.reads I (enc a).py v u (Rp.dp _ _ (Enc.flat_enc a) (Rp.mono e _ _ h)) r
  rw [Enc.py_enc] at q
  exact ⟨as, q⟩
theorem holdAll_of {pins : List (Addr × Obj)} {σ : St} {H H1 : Hp} {s : Shared} {vs : List V} {us : List Value} {l : List α} (I : Inv X pins σ H s) (e : Same H1 H) (h : RpL X.K C H1 (l.map enc) vs) (r : Vals vs us) : PySem.W.HoldAll s.heap us l := by
  obtain ⟨as, q⟩ := Dp.readsAll I (D.pys (l.map enc)) vs us (Rp.dps _ _ (flats_enc l) (RpL.mono e _ _ h)) r
  rw [pys_enc] at q
  exact ⟨as, q⟩
end

/-! ### operators by data -/
theorem op_w {X : Cx} {f : Value → Value → Sem Value} {r r' : R2} (h : OpR X f r) (w : ∀ x y H Q, r' x y H Q → r x y H Q) : OpR X f r' :=
  fun pins s σ H x y v u Q I rx ry q => h pins s σ H x y v u Q I rx ry (w x y H Q q)
theorem cl_w {X : Cx} {f : Value} {r r' : List V → Hp → VK → Prop} (h : CallR X f r) (w : ∀ xs H Q, r' xs H Q → r xs H Q) : CallR X f r' :=
  fun pins s σ H xs us Q I rx q => h pins s σ H xs us Q I rx (w xs H Q q)
section
variable {X : Cx} {C : Addr} {ρ : List Sl} {pos : Pos} {a b c : D} {e1 e2 e3 : Expr}
theorem d_bin {op : Operator} (ho : OpR X (binaryOp op) (rD X.K C a b c)) (h1 : PE X e1 (tD X.K C ρ a)) (h2 : PE X e2 (tD X.K C ρ b)) : PE X (.BinOp e1 op e2 pos) (tD X.K C ρ c) :=
  pe_w (pe_op ho h1 h2) fun σ H Q ⟨F, P, r, k⟩ => ⟨F, P, r, fun v H2 e2 hv => ⟨F, P, r.same e2, fun w H3 e3 hw => ⟨P, (r.trk.same e2).same e3, Rp.mono (mask_same e3) _ _ hv, hw, fun z H4 e4 hz => k z H4 ((e2.trans e3).trans e4) hz⟩⟩⟩
theorem d_cmp {op : CmpOp} (ho : OpR X (compareOp op) (rD X.K C a b c)) (h1 : PE X e1 (tD X.K C ρ a)) (h2 : PE X e2 (tD X.K C ρ b)) (hm : behindInMarks op e2 = false := by first | exact nobehind _ (by decide) (by decide) | rfl) : PE X (.Compare e1 [op] [e2] pos) (tD X.K C ρ c) :=
  pe_w (pe_cmpR ho h1 h2 hm) fun σ H Q ⟨F, P, r, k⟩ => ⟨F, P, r, fun v H2 e2 hv => ⟨F, P, r.same e2, fun w H3 e3 hw => ⟨P, (r.trk.same e2).same e3, Rp.mono (mask_same e3) _ _ hv, hw, fun z H4 e4 hz => k z H4 ((e2.trans e3).trans e4) hz⟩⟩⟩
theorem t_cmp {op : CmpOp} {z : Bool} (ho : OpR X (compareOp op) (rD X.K C a b (.bl z))) (h1 : PE X e1 (tD X.K C ρ a)) (h2 : PE X e2 (tD X.K C ρ b)) (hm : behindInMarks op e2 = false := by first | exact nobehind _ (by decide) (by decide) | rfl) : PT X (.Compare e1 [op] [e2] pos) (tT X.K C ρ z) :=
  pt_w (pt_cmpR ho h1 h2 hm) fun σ H Q ⟨F, P, r, k⟩ => ⟨F, P, r, fun v H2 e2 hv => ⟨F, P, r.same e2, fun w H3 e3 hw => ⟨P, (r.trk.same e2).same e3, Rp.mono (mask_same e3) _ _ hv, hw, fun x H4 e4 hx => by
    have hx : x = V.bl z := hx
    exact ⟨z, hx, k H4 ((e2.trans e3).trans e4)⟩⟩⟩⟩
theorem t_val {e : Expr} {z : Bool} (h : PE X e (tD X.K C ρ (.bl z))) (he : ∀ whole, isTrue e X.env whole = (do let v ← whole; standAt e.pos; holding [v] (truthy v)) := by intro _; rfl) : PT X e (tT X.K C ρ z) :=
  pt_w (pt_val h he) fun σ H Q ⟨F, P, r, k⟩ => ⟨F, P, r, fun v H2 e2 hv => by
    have hv : v = V.bl z := hv
    exact ⟨z, hv, k H2 e2⟩⟩
theorem t_not {e : Expr} {z : Bool} (h : PT X e (tT X.K C ρ z)) : PT X (.UnaryOp .Not e pos) (tT X.K C ρ (!z)) :=
  pt_w (pt_not h) fun σ H Q ⟨F, P, r, k⟩ => ⟨F, P, r, fun H2 e2 => k H2 e2⟩
theorem t_if {e f g : Expr} {z : Bool} {d : D} (h : PT X e (tT X.K C ρ z)) (h1 : z = true → PE X f (tD X.K C ρ d)) (h2 : z = false → PE X g (tD X.K C ρ d)) : PE X (.IfExp e f g pos) (tD X.K C ρ d) := by
  cases z with
  | true => exact pe_w (pe_ifExp (tb := fun _ _ _ => False) h (h1 rfl) ⟨fun _ _ _ _ _ _ q => q.elim⟩) fun σ H Q ⟨F, P, r, k⟩ => ⟨F, P, r, fun H2 e2 => iteT ⟨F, P, r.same e2, fun v H3 e3 hv => k v H3 (e2.trans e3) hv⟩⟩
  | false => exact pe_w (pe_ifExp (ta := fun _ _ _ => False) h ⟨fun _ _ _ _ _ _ q => q.elim⟩ (h2 rfl)) fun σ H Q ⟨F, P, r, k⟩ => ⟨F, P, r, fun H2 e2 => iteF ⟨F, P, r.same e2, fun v H3 e3 hv => k v H3 (e2.trans e3) hv⟩⟩
/-- a piece that is not come to -/
theorem pt_off {e : Expr} : PT X e (fun _ _ _ => False) := ⟨fun _ _ _ _ _ _ q => q.elim⟩
theorem pe_off {e : Expr} : PE X e (fun _ _ _ => False) := ⟨fun _ _ _ _ _ _ q => q.elim⟩
theorem pw_off {e : Expr} : PW X e (fun _ _ _ => False) := ⟨fun _ _ _ _ _ _ _ q => q.elim⟩
/-- tests joined, from the left -/
def tW (K : PySem.W.Frag) (C : Addr) (ρ : List Sl) (b : Bool) : TT := tT K C ρ b
theorem w_one {z : Bool} {e : Expr} (h : PT X e (tT X.K C ρ z)) : PW X (.BoolOp .And [e] pos) (tT X.K C ρ z) := pw_and1 h
theorem w_oneO {z : Bool} {e : Expr} (h : PT X e (tT X.K C ρ z)) : PW X (.BoolOp .Or [e] pos) (tT X.K C ρ z) := pw_or1 h
theorem pw_w {e : Expr} {t t' : TT} (h : PW X e t) (w : ∀ σ H Q, t' σ H Q → t σ H Q) : PW X e t' := ⟨fun wh pins s σ H Q I q => h.run wh pins s σ H Q I (w σ H Q q)⟩
theorem w_and {e f : Expr} {rest : List Expr} {y z : Bool} (h1 : PT X e (tT X.K C ρ y)) (h2 : y = true → PW X (.BoolOp .And (f :: rest) pos) (tT X.K C ρ z)) : PW X (.BoolOp .And (e :: f :: rest) pos) (tT X.K C ρ (y && z)) := by
  cases y with
  | true => exact pw_w (pw_and h1 (h2 rfl)) fun σ H Q ⟨F, P, r, k⟩ => ⟨F, P, r, fun H2 e2 => iteT ⟨F, P, r.same e2, fun H3 e3 => k H3 (e2.trans e3)⟩⟩
  | false => exact pw_w (pw_and h1 pw_off) fun σ H Q ⟨F, P, r, k⟩ => ⟨F, P, r, fun H2 e2 => iteF (k H2 e2)⟩
theorem w_or {e f : Expr} {rest : List Expr} {y z : Bool} (h1 : PT X e (tT X.K C ρ y)) (h2 : y = false → PW X (.BoolOp .Or (f :: rest) pos) (tT X.K C ρ z)) : PW X (.BoolOp .Or (e :: f :: rest) pos) (tT X.K C ρ (y || z)) := by
  cases y with
  | false => exact pw_w (pw_or h1 (h2 rfl)) fun σ H Q ⟨F, P, r, k⟩ => ⟨F, P, r, fun H2 e2 => iteF ⟨F, P, r.same e2, fun H3 e3 => k H3 (e2.trans e3)⟩⟩
  | true => exact pw_w (pw_or h1 pw_off) fun σ H Q ⟨F, P, r, k⟩ => ⟨F, P, r, fun H2 e2 => iteT (k H2 e2)⟩
theorem t_w {e : Expr} {z : Bool} (h : PW X e (tT X.K C ρ z)) : PT X e (tT X.K C ρ z) := h.pt
/-- and, or as values -/
theorem v_one {op : BoolOp} {e : Expr} {d : D} (h : PE X e (tD X.K C ρ d)) : PE X (.BoolOp op [e] pos) (tD X.K C ρ d) := pe_one h
theorem v_and {e f : Expr} {rest : List Expr} {y z : Bool} (h1 : PE X e (tD X.K C ρ (.bl y))) (h2 : y = true → PE X (.BoolOp .And (f :: rest) pos) (tD X.K C ρ (.bl z))) : PE X (.BoolOp .And (e :: f :: rest) pos) (tD X.K C ρ (.bl (y && z))) := by
  cases y with
  | true => exact pe_w (pe_and h1 (h2 rfl)) fun σ H Q ⟨F, P, r, k⟩ => ⟨F, P, r, fun v H2 e2 hv => ⟨true, hv, iteT ⟨F, P, r.same e2, fun w H3 e3 hw => k w H3 (e2.trans e3) hw⟩⟩⟩
  | false => exact pe_w (pe_and h1 pe_off) fun σ H Q ⟨F, P, r, k⟩ => ⟨F, P, r, fun v H2 e2 hv => ⟨false, hv, iteF (k _ H2 e2 rfl)⟩⟩
theorem v_not {e : Expr} {z : Bool} (h : PE X e (tD X.K C ρ (.bl z))) : PE X (.UnaryOp .Not e pos) (tD X.K C ρ (.bl (!z))) :=
  pe_w (pe_not h) fun σ H Q ⟨F, P, r, k⟩ => ⟨F, P, r, fun v H2 e2 hv => ⟨z, hv, k _ H2 e2 rfl⟩⟩
end

section
variable {X : Cx} {C : Addr}
theorem o_add {i j : Int} : OpR X (binaryOp .Add) (rD X.K C (.int i) (.int j) (.int (i + j))) := op_w op_add fun _ _ H Q ⟨_, _, h1, h2, k⟩ => ⟨i, j, h1, h2, k _ H (Same.refl H) rfl⟩
theorem o_sub {i j : Int} : OpR X (binaryOp .Sub) (rD X.K C (.int i) (.int j) (.int (i - j))) := op_w op_sub fun _ _ H Q ⟨_, _, h1, h2, k⟩ => ⟨i, j, h1, h2, k _ H (Same.refl H) rfl⟩
theorem o_addS {x y : Str} (hl : x.length + y.length ≤ sizeLine) : OpR X (binaryOp .Add) (rD X.K C (.str x) (.str y) (.str (x ++ y))) := op_w op_add_str fun _ _ H Q ⟨_, _, h1, h2, k⟩ => ⟨x, y, h1, h2, hl, k _ H (Same.refl H) rfl⟩
theorem o_addT {l m : List D} (hl : l.length + m.length ≤ sizeLine) : OpR X (binaryOp .Add) (rD X.K C (.tup l) (.tup m) (.tup (l ++ m))) := op_w op_catA fun _ _ H Q ⟨P, t, ⟨a, xs, e1, h1, g1⟩, ⟨b, ys, e2, h2, g2⟩, k⟩ => by
  have l1 := g1.length
  have l2 := g2.length
  refine ⟨a, b, xs, ys, e1, e2, sqT_same mask_le h1, sqT_same mask_le h2, by omega, fun z => ?_, fun _ z => ?_, fun _ _ p hp => ?_⟩
  · subst z
    have e : l = [] := List.length_eq_zero_iff.mp l1.symm
    subst e
    exact k _ H (Same.refl H) ⟨b, ys, rfl, h2, g2⟩
  · subst z
    have e : m = [] := List.length_eq_zero_iff.mp l2.symm
    subst e
    refine k _ H (Same.refl H) ⟨a, xs, rfl, h1, ?_⟩
    rw [List.append_nil]
    exact g1
  · have np := t.new hp
    refine k _ _ (same_upd hp) ⟨p, xs ++ ys, rfl, SqT.of ?_, (RpL.mono (mask_same (same_upd hp)) _ _ g1).append (RpL.mono (mask_same (same_upd hp)) _ _ g2)⟩
    rw [mask_at np, upd_same]
theorem o_addL {l m : List D} (hl : l.length + m.length ≤ sizeLine) : OpR X (binaryOp .Add) (rD X.K C (.lst l) (.lst m) (.lst (l ++ m))) := op_w op_cat fun _ _ H Q ⟨P, t, ⟨a, xs, e1, h1, g1⟩, ⟨b, ys, e2, h2, g2⟩, k⟩ => by
  have l1 := g1.length
  have l2 := g2.length
  refine ⟨a, b, xs, ys, e1, e2, mask_le _ _ h1, mask_le _ _ h2, by omega, fun p hp => ?_⟩
  have np := t.new hp
  refine k _ _ (same_upd hp) ⟨p, xs ++ ys, rfl, ?_, (RpL.mono (mask_same (same_upd hp)) _ _ g1).append (RpL.mono (mask_same (same_upd hp)) _ _ g2)⟩
  rw [mask_at np, upd_same]
theorem RpL.flat2 {K : PySem.W.Frag} {H : Hp} {d : D} {xs : List V} (h : RpL K C H [d] xs) : RpL K C H [d, d] (List.replicate 2 xs).flatten := by
  obtain ⟨x, r, e, h1, h2⟩ := h
  have h2 : r = [] := h2
  subst e h2
  exact ⟨x, [x], rfl, h1, x, [], rfl, h1, rfl⟩
theorem o_mul2 {d : D} : OpR X (binaryOp .Mult) (rD X.K C (.lst [d]) (.int 2) (.lst [d, d])) := op_w op_rep fun _ _ H Q ⟨P, t, ⟨a, xs, e1, h1, g1⟩, h2, k⟩ => by
  have l1 : xs.length = 1 := g1.length
  refine ⟨a, 2, xs, e1, h2, mask_le _ _ h1, by decide, by decide, by rw [l1]; decide, fun p hp => ?_⟩
  have np := t.new hp
  refine k _ _ (same_upd hp) ⟨p, _, rfl, ?_, (RpL.mono (mask_same (same_upd hp)) _ _ g1).flat2⟩
  rw [mask_at np, upd_same]
  rfl
theorem o_eqS {x y : Str} : OpR X (compareOp .Eq) (rD X.K C (.str x) (.str y) (.bl (decide (x = y)))) := op_w op_eq fun v w H Q ⟨_, _, h1, h2, k⟩ => by
  have h1 : v = V.str x := h1
  have h2 : w = V.str y := h2
  subst h1 h2
  refine ⟨rfl, k _ H (Same.refl H) ?_⟩
  show V.bl _ = V.bl _
  exact congrArg V.bl (decide_eq_decide.mpr ⟨fun e => V.str.inj e, fun e => congrArg V.str e⟩)
theorem o_neS {x y : Str} : OpR X (compareOp .NotEq) (rD X.K C (.str x) (.str y) (.bl (!decide (x = y)))) := op_w op_ne fun v w H Q ⟨_, _, h1, h2, k⟩ => by
  have h1 : v = V.str x := h1
  have h2 : w = V.str y := h2
  subst h1 h2
  refine ⟨rfl, k _ H (Same.refl H) ?_⟩
  show V.bl _ = V.bl _
  exact congrArg (fun z => V.bl (!z)) (decide_eq_decide.mpr ⟨fun e => V.str.inj e, fun e => congrArg V.str e⟩)
theorem o_eqI {x y : Int} : OpR X (compareOp .Eq) (rD X.K C (.int x) (.int y) (.bl (decide (x = y)))) := op_w op_eq fun v w H Q ⟨_, _, h1, h2, k⟩ => by
  have h1 : v = V.int x := h1
  have h2 : w = V.int y := h2
  subst h1 h2
  refine ⟨rfl, k _ H (Same.refl H) ?_⟩
  show V.bl _ = V.bl _
  exact congrArg V.bl (decide_eq_decide.mpr ⟨fun e => V.int.inj e, fun e => congrArg V.int e⟩)
theorem o_neI {x y : Int} : OpR X (compareOp .NotEq) (rD X.K C (.int x) (.int y) (.bl (!decide (x = y)))) := op_w op_ne fun v w H Q ⟨_, _, h1, h2, k⟩ => by
  have h1 : v = V.int x := h1
  have h2 : w = V.int y := h2
  subst h1 h2
  refine ⟨rfl, k _ H (Same.refl H) ?_⟩
  show V.bl _ = V.bl _
  exact congrArg (fun z => V.bl (!z)) (decide_eq_decide.mpr ⟨fun e => V.int.inj e, fun e => congrArg V.int e⟩)
theorem o_eqB {x y : Bool} : OpR X (compareOp .Eq) (rD X.K C (.bl x) (.bl y) (.bl (x == y))) := op_w op_eq fun v w H Q ⟨_, _, h1, h2, k⟩ => by
  have h1 : v = V.bl x := h1
  have h2 : w = V.bl y := h2
  subst h1 h2
  refine ⟨rfl, k _ H (Same.refl H) ?_⟩
  show V.bl _ = V.bl _
  cases x <;> cases y <;> rfl
theorem o_neB {x y : Bool} : OpR X (compareOp .NotEq) (rD X.K C (.bl x) (.bl y) (.bl (x != y))) := op_w op_ne fun v w H Q ⟨_, _, h1, h2, k⟩ => by
  have h1 : v = V.bl x := h1
  have h2 : w = V.bl y := h2
  subst h1 h2
  refine ⟨rfl, k _ H (Same.refl H) ?_⟩
  show V.bl _ = V.bl _
  cases x <;> cases y <;> rfl
theorem o_gtI {i j : Int} : OpR X (compareOp .Gt) (rD X.K C (.int i) (.int j) (.bl (decide (j < i)))) := op_w op_gt fun _ _ H Q ⟨_, _, h1, h2, k⟩ => ⟨i, j, h1, h2, k _ H (Same.refl H) rfl⟩
theorem o_leI {i j : Int} : OpR X (compareOp .LtE) (rD X.K C (.int i) (.int j) (.bl (decide (i ≤ j)))) := op_w op_le fun _ _ H Q ⟨_, _, h1, h2, k⟩ => ⟨i, j, h1, h2, k _ H (Same.refl H) rfl⟩
theorem o_ltS {i j : Str} : OpR X (compareOp .Lt) (rD X.K C (.str i) (.str j) (.bl (decide (i.cps.toList < j.cps.toList)))) := op_w op_lt_str fun _ _ H Q ⟨_, _, h1, h2, k⟩ => ⟨i, j, h1, h2, k _ H (Same.refl H) rfl⟩
theorem o_inS {i j : Str} : OpR X (compareOp .In) (rD X.K C (.str i) (.str j) (.bl (!(Builtin.Str.occurrences j i 0 j.length 1).isEmpty))) := op_w op_in_str fun _ _ H Q ⟨_, _, h1, h2, k⟩ => ⟨i, j, h1, h2, k _ H (Same.refl H) rfl⟩
theorem o_ninS {i j : Str} : OpR X (compareOp .NotIn) (rD X.K C (.str i) (.str j) (.bl (!(!(Builtin.Str.occurrences j i 0 j.length 1).isEmpty)))) := op_w op_notin_str fun _ _ H Q ⟨_, _, h1, h2, k⟩ => ⟨i, j, h1, h2, k _ H (Same.refl H) rfl⟩
theorem o_isN {d : D} (hd : d ≠ .non) : OpR X (compareOp .Is) (rD X.K C d .non (.bl false)) := op_w op_isN fun v w H Q ⟨_, _, h1, h2, k⟩ => by
  refine ⟨h2, k _ H (Same.refl H) ?_⟩
  show V.bl _ = V.bl _
  refine congrArg V.bl (decide_eq_false fun e => ?_)
  subst e
  cases d with
  | non => exact hd rfl
  | bl b => exact (nomatch (show V.non = V.bl b from h1))
  | int i => exact (nomatch (show V.non = V.int i from h1))
  | str x => exact (nomatch (show V.non = V.str x from h1))
  | tup l => obtain ⟨_, _, e, _⟩ := h1; cases e
  | tupk l => obtain ⟨_, _, _, e, _⟩ := h1; cases e
  | lst l => obtain ⟨_, _, e, _⟩ := h1; cases e
  | lstk l => obtain ⟨_, _, e, _⟩ := h1; cases e
  | dic l => obtain ⟨_, e, _⟩ := h1; cases e
  | obj i r f => obtain ⟨_, _, _, _, _, e, _⟩ := h1; cases e
  | book w f S => obtain ⟨_, e, _⟩ := h1; cases e
variable {α : Type} [DecidableEq α] [Enc α]
theorem o_eq {a b : α} (hu : X.A.units + Datum.depth α < cLine) : OpR X (compareOp .Eq) (rD X.K C (enc a) (enc b) (.bl (decide (a = b)))) :=
  fun pins s σ H x y v u Q I rx ry ⟨P, _, h1, h2, k⟩ => PySem.W.eq_datum (holds_of I mask_le h1 rx) (holds_of I mask_le h2 ry) hu ⟨.bl _, H, I, rfl, k _ H (Same.refl H) rfl⟩
theorem o_ne {a b : α} (hu : X.A.units + Datum.depth α < cLine) : OpR X (compareOp .NotEq) (rD X.K C (enc a) (enc b) (.bl (decide (a ≠ b)))) :=
  fun pins s σ H x y v u Q I rx ry ⟨P, _, h1, h2, k⟩ => PySem.W.ne_datum (holds_of I mask_le h1 rx) (holds_of I mask_le h2 ry) hu ⟨.bl _, H, I, rfl, k _ H (Same.refl H) rfl⟩
theorem lst_at {pins : List (Addr × Obj)} {σ : St} {H : Hp} {P : Addr → Prop} {s : Shared} {l : List α} {v : V} {u : Value} (I : Inv X pins σ H s) (h : Rp X.K C (mask P H) (.lst (l.map enc)) v) (r : RelV v u) : ∃ (p : Addr) (its : List Value), u = .ref p ∧ s.heap.IsList p its.toArray ∧ PySem.W.HoldAll s.heap its l := by
  obtain ⟨a, xs, e, h1, h2⟩ := h
  subst e
  obtain ⟨its, rv, pl, _⟩ := I.list (SqL.of (mask_le _ _ h1))
  exact ⟨a, its, r, pl.isList, holdAll_of I mask_le h2 rv⟩
theorem tup_at {pins : List (Addr × Obj)} {σ : St} {H : Hp} {P : Addr → Prop} {s : Shared} {l : List α} {v : V} {u : Value} (I : Inv X pins σ H s) (h : Rp X.K C (mask P H) (.tup (l.map enc)) v) (r : RelV v u) : ∃ (p : Addr) (its : List Value), u = .ref p ∧ s.heap.IsTuple p its.toArray ∧ PySem.W.HoldAll s.heap its l := by
  obtain ⟨a, xs, e, h1, h2⟩ := h
  subst e
  obtain ⟨its, rv, pl, _⟩ := I.tuple (sqT_same mask_le h1)
  exact ⟨a, its, r, pl, holdAll_of I mask_le h2 rv⟩
theorem o_inL {a : α} {l : List α} (hu : X.A.units + 1 + Datum.depth α < cLine) : OpR X (compareOp .In) (rD X.K C (enc a) (.lst (l.map enc)) (.bl (decide (a ∈ l)))) :=
  fun pins s σ H x y v u Q I rx ry ⟨P, _, h1, h2, k⟩ => by
    obtain ⟨p, its, rfl, hl, ha⟩ := lst_at I h2 ry
    exact PySem.W.in_list_datum hl (by simpa using ha) (holds_of I mask_le h1 rx) hu ⟨.bl _, H, I, rfl, k _ H (Same.refl H) rfl⟩
theorem o_ninL {a : α} {l : List α} (hu : X.A.units + 1 + Datum.depth α < cLine) : OpR X (compareOp .NotIn) (rD X.K C (enc a) (.lst (l.map enc)) (.bl (decide (a ∉ l)))) :=
  fun pins s σ H x y v u Q I rx ry ⟨P, _, h1, h2, k⟩ => by
    obtain ⟨p, its, rfl, hl, ha⟩ := lst_at I h2 ry
    exact PySem.W.notIn_list_datum hl (by simpa using ha) (holds_of I mask_le h1 rx) hu ⟨.bl _, H, I, rfl, k _ H (Same.refl H) rfl⟩
theorem o_inT {a : α} {l : List α} (hu : X.A.units + 1 + Datum.depth α < cLine) : OpR X (compareOp .In) (rD X.K C (enc a) (.tup (l.map enc)) (.bl (decide (a ∈ l)))) :=
  fun pins s σ H x y v u Q I rx ry ⟨P, _, h1, h2, k⟩ => by
    obtain ⟨p, its, rfl, hl, ha⟩ := tup_at I h2 ry
    exact PySem.W.in_tuple_datum hl (by simpa using ha) (holds_of I mask_le h1 rx) hu ⟨.bl _, H, I, rfl, k _ H (Same.refl H) rfl⟩
theorem o_ninT {a : α} {l : List α} (hu : X.A.units + 1 + Datum.depth α < cLine) : OpR X (compareOp .NotIn) (rD X.K C (enc a) (.tup (l.map enc)) (.bl (decide (a ∉ l)))) :=
  fun pins s σ H x y v u Q I rx ry ⟨P, _, h1, h2, k⟩ => by
    obtain ⟨p, its, rfl, hl, ha⟩ := tup_at I h2 ry
    exact PySem.W.notIn_tuple_datum hl (by simpa using ha) (holds_of I mask_le h1 rx) hu ⟨.bl _, H, I, rfl, k _ H (Same.refl H) rfl⟩
end
section
variable {X : Cx} {C : Addr} {α : Type} [DecidableEq α] [DatumOrd α]
/-- a < b, alike data; the encoding told -/
theorem o_lt {a b : α} {da db : D} (ea : da.py = Datum.toD a) (eb : db.py = Datum.toD b) (fa : da.flat = true) (fb : db.flat = true) (hu : X.A.units + Datum.depth α < cLine) : OpR X (compareOp .Lt) (rD X.K C da db (.bl (DatumOrd.lt a b))) :=
  fun pins s σ H x y v u Q I rx ry ⟨P, _, h1, h2, k⟩ => by
    obtain ⟨as, q1⟩ := Dp.reads I da.py x v (Rp.dp _ _ fa (Rp.mono mask_le _ _ h1)) rx
    obtain ⟨bs, q2⟩ := Dp.reads I db.py y u (Rp.dp _ _ fb (Rp.mono mask_le _ _ h2)) ry
    rw [ea] at q1
    rw [eb] at q2
    exact PySem.W.lt_datum (x := a) (y := b) ⟨as, q1⟩ ⟨bs, q2⟩ hu ⟨.bl _, H, I, rfl, k _ H (Same.refl H) rfl⟩
end
end Fz
/-! The data layer: subscripts, slices, calls of built-ins, calls of defs. -/
namespace Fz
open PySem L2
open PySem.W (Datum DatumOrd Tup T3)
open Enc (enc)

/-! ### subscripts -/
theorem atI_len {α β : Type} {l : List α} {m : List β} (h : m.length = l.length) {i : Int} {d : α} (e : atI l i = some d) : ∃ j : Nat, l[j]? = some d ∧ ∀ x, m[j]? = some x → atI m i = some x := by
  unfold atI at e ⊢
  rw [h]
  cases q : ixN l.length i with
  | none => rw [q] at e; cases e
  | some j => rw [q] at e; exact ⟨j, e, fun x hx => hx⟩
section
variable {X : Cx} {C : Addr} {ρ : List Sl} {pos p2 : Pos} {e f : Expr} {l : List D} {d : D}
theorem d_ixT {i : Int} (h1 : PE X e (tD X.K C ρ (.tup l))) (h2 : PE X f (tD X.K C ρ (.int i))) (ha : atI l i = some d) (hs : PlainIx f := by exact fun _ _ => rfl) : PE X (.Subscript e f pos) (tD X.K C ρ d) :=
  pe_w (pe_ix ix_tup h1 h2 hs) fun σ H Q ⟨F, P, r, k⟩ => ⟨F, P, r, fun v H2 e2 hv => ⟨F, P, r.same e2, fun w H3 e3 hw => by
    obtain ⟨a, xs, e1, g1, g2⟩ := Rp.mono (mask_same e3) _ _ hv
    obtain ⟨j, q1, q2⟩ := atI_len g2.length ha
    obtain ⟨x, q3, q4⟩ := g2.get q1
    exact ⟨a, xs, i, x, e1, hw, sqT_same mask_le g1, q2 x q3, k x H3 (e2.trans e3) q4⟩⟩⟩
theorem d_ixL {i : Int} (h1 : PE X e (tD X.K C ρ (.lst l))) (h2 : PE X f (tD X.K C ρ (.int i))) (ha : atI l i = some d) (hs : PlainIx f := by exact fun _ _ => rfl) : PE X (.Subscript e f pos) (tD X.K C ρ d) :=
  pe_w (pe_ix ix_list h1 h2 hs) fun σ H Q ⟨F, P, r, k⟩ => ⟨F, P, r, fun v H2 e2 hv => ⟨F, P, r.same e2, fun w H3 e3 hw => by
    obtain ⟨a, xs, e1, g1, g2⟩ := Rp.mono (mask_same e3) _ _ hv
    obtain ⟨j, q1, q2⟩ := atI_len g2.length ha
    obtain ⟨x, q3, q4⟩ := g2.get q1
    exact ⟨a, xs, i, x, e1, hw, SqL.of (mask_le _ _ g1), q2 x q3, k x H3 (e2.trans e3) q4⟩⟩⟩
/-- a dict of texts -/
theorem valV_strs : ∀ (l : List (Str × Str)) (x : Str), valV (l.map fun p => ((Sum.inr p.1 : Key), V.str p.2)) (Sum.inr x) = (l.lookup x).map V.str
  | [], x => rfl
  | (n, m) :: r, x => by
    have ih := valV_strs r x
    unfold valV at ih ⊢
    rw [List.map_cons, List.find?_cons, List.lookup_cons]
    by_cases h : n = x
    · subst h
      rw [decide_eq_true rfl]
      simp
    · have h1 : decide ((Sum.inr n : Key) = Sum.inr x) = false := decide_eq_false fun q => h (Sum.inr.inj q)
      have h2 : (x == n) = false := by simpa using fun q : x = n => h q.symm
      rw [h1, h2]
      exact ih
theorem d_dget {l : List (Str × Str)} {x y : Str} (hu : X.A.units + 1 < cLine) (h1 : PE X e (tD X.K C ρ (.dic l))) (h2 : PE X f (tD X.K C ρ (.str x))) (hl : l.lookup x = some y) (hs : NoSl f := by exact fun _ _ => rfl) : PE X (.Subscript e f pos) (tD X.K C ρ (.str y)) :=
  pe_w (pe_dget hu h1 h2 hs) fun σ H Q ⟨F, P, r, k⟩ => ⟨F, P, r, fun v H2 e2 hv => ⟨F, P, r.same e2, fun w H3 e3 hw => by
    obtain ⟨a, e1, g1⟩ := Rp.mono (mask_same e3) _ _ hv
    have hw : w = V.str x := hw
    refine ⟨a, V.str y, e1, ?_, k _ H3 (e2.trans e3) rfl⟩
    rw [hw]
    refine DGet.k (k := Sum.inr x) (mask_le _ _ g1) |> fun z => ?_
    rw [valV_strs, hl] at z
    exact z⟩⟩
/-! ### slices -/
def cutD (l : List D) (lo hi : Option Int) : List D := (l.drop (HT.sIx l.length 0 lo)).take (HT.sIx l.length l.length hi - HT.sIx l.length 0 lo)
theorem cut_rep {K : PySem.W.Frag} {H : Hp} {xs : List V} (h : RpL K C H l xs) (lo hi : Option Int) : RpL K C H (cutD l lo hi) (cutV xs lo hi) := by
  unfold cutD cutV
  rw [h.length]
  exact (h.drop _).take _
/-- a part of a slice by data -/
def tO (K : PySem.W.Frag) (C : Addr) (ρ : List Sl) (o : Option Int) : TO := fun σ H Q => ∃ F P, Rep K C F P H σ ρ ∧ ∀ H2, Same H H2 → Q o H2
theorem op_none : PO X none (tO X.K C ρ none) := ⟨fun pins s σ H Q I ⟨_, _, _, k⟩ => po_none.run pins s σ H Q I (k H (Same.refl H))⟩
theorem op_some {i : Int} (h : PE X e (tD X.K C ρ (.int i))) : PO X (some e) (tO X.K C ρ (some i)) :=
  ⟨fun pins s σ H Q I ⟨F, P, r, k⟩ => (po_some h).run pins s σ H Q I ⟨F, P, r, fun v H2 e2 hv => ⟨i, hv, k H2 e2⟩⟩⟩
theorem f_slL {lo hi : Option Expr} {a b : Option Int} (h1 : PE X e (tD X.K C ρ (.lst l))) (h2 : PO X lo (tO X.K C ρ a)) (h3 : PO X hi (tO X.K C ρ b)) : PE X (.Subscript e (.Slice lo hi none p2) pos) (tF X.K C ρ (cutD l a b)) :=
  pe_w (pe_slice sl_list h1 h2 h3) fun σ H Q ⟨F, P, r, k⟩ => ⟨F, P, r, fun v H2 e2 hv => ⟨F, P, r.same e2, fun H3 e3 => ⟨F, P, (r.same e2).same e3, fun H4 e4 => by
    obtain ⟨q, xs, e1, g1, g2⟩ := Rp.mono (mask_same (e3.trans e4)) _ _ hv
    refine ⟨q, xs, e1, SqL.of (mask_le _ _ g1), fun p hp => ?_⟩
    have hp0 : H p = none := (e2.trans (e3.trans e4)).free hp
    refine k p _ _ hp0 ((e2.trans (e3.trans e4)).trans (same_upd hp)) upd_same (RpL.mono (fun b u q => ?_) _ _ (cut_rep g2 a b))
    obtain ⟨q1, q2⟩ := mask_some q
    have nb : b ≠ p := ne_of_none q1 hp
    rw [mask_at (fun z => z.elim q2 nb), upd_ne nb]
    exact q1⟩⟩⟩
theorem f_slK {lo hi : Option Expr} {a b : Option Int} (h1 : PE X e (tD X.K C ρ (.lstk l))) (h2 : PO X lo (tO X.K C ρ a)) (h3 : PO X hi (tO X.K C ρ b)) : PE X (.Subscript e (.Slice lo hi none p2) pos) (tF X.K C ρ (cutD l a b)) :=
  pe_w (pe_slice sl_list h1 h2 h3) fun σ H Q ⟨F, P, r, k⟩ => ⟨F, P, r, fun v H2 e2 hv => ⟨F, P, r.same e2, fun H3 e3 => ⟨F, P, (r.same e2).same e3, fun H4 e4 => by
    obtain ⟨q, xs, e1, g1, g2⟩ := Rp.mono (mask_same (e3.trans e4)) _ _ hv
    refine ⟨q, xs, e1, sqL_same mask_le g1, fun p hp => ?_⟩
    have hp0 : H p = none := (e2.trans (e3.trans e4)).free hp
    refine k p _ _ hp0 ((e2.trans (e3.trans e4)).trans (same_upd hp)) upd_same (RpL.mono (fun b u q => ?_) _ _ (cut_rep g2 a b))
    obtain ⟨q1, q2⟩ := mask_some q
    have nb : b ≠ p := ne_of_none q1 hp
    rw [mask_at (fun z => z.elim q2 nb), upd_ne nb]
    exact q1⟩⟩⟩
theorem d_slT {lo hi : Option Expr} {a b : Option Int} (h1 : PE X e (tD X.K C ρ (.tup l))) (h2 : PO X lo (tO X.K C ρ a)) (h3 : PO X hi (tO X.K C ρ b)) : PE X (.Subscript e (.Slice lo hi none p2) pos) (tD X.K C ρ (.tup (cutD l a b))) :=
  pe_w (pe_slice sl_tupA h1 h2 h3) fun σ H Q ⟨F, P, r, k⟩ => ⟨F, P, r, fun v H2 e2 hv => ⟨F, P, r.same e2, fun H3 e3 => ⟨F, P, (r.same e2).same e3, fun H4 e4 => by
    obtain ⟨q, xs, e1, g1, g2⟩ := Rp.mono (mask_same (e3.trans e4)) _ _ hv
    have hl := g2.length
    refine ⟨q, xs, e1, sqT_same mask_le g1, fun z => ?_, fun z p hp => ?_⟩
    · refine k _ H4 (e2.trans (e3.trans e4)) ⟨q, xs, rfl, g1, ?_⟩
      have ec : cutD l a b = l := by
        unfold cutD
        rw [hl] at z
        rw [z.1, z.2]
        simp
      rw [ec]
      exact g2
    · have np := (r.trk.same (e2.trans (e3.trans e4))).new hp
      refine k _ _ ((e2.trans (e3.trans e4)).trans (same_upd hp)) ⟨p, _, rfl, SqT.of ?_, RpL.mono (mask_same (same_upd hp)) _ _ (cut_rep g2 a b)⟩
      rw [mask_at np, upd_same]⟩⟩⟩
theorem cutD_from (l : List D) (n : Nat) : cutD l (some (n : Int)) none = l.drop n := by
  unfold cutD
  rw [HT.sIx_nat, HT.sIx_none]
  by_cases h : n ≤ l.length
  · rw [Nat.min_eq_left h, List.take_of_length_le]
    rw [List.length_drop]
    exact Nat.le_refl _
  · rw [Nat.min_eq_right (by omega), List.drop_eq_nil_of_le (Nat.le_refl _), List.drop_eq_nil_of_le (by omega)]
    simp
theorem cutD_to (l : List D) (n : Nat) : cutD l none (some (n : Int)) = l.take n := by
  unfold cutD
  rw [HT.sIx_nat, HT.sIx_none]
  show (l.drop 0).take (min n l.length - 0) = l.take n
  rw [List.drop_zero, Nat.sub_zero]
  by_cases h : n ≤ l.length
  · rw [Nat.min_eq_left h]
  · rw [Nat.min_eq_right (by omega), List.take_of_length_le (Nat.le_refl _), List.take_of_length_le (by omega)]
end

/-! ### built-ins by name -/
section
variable {X : Cx} {C : Addr} {ρ : List Sl} {pos p : Pos} {es : List Expr} {e : Expr} {ds : List D} {d : D}
theorem d_cb {x : Str} {id : String} (hc : CallR X (.builtin id) (rC X.K C ds d)) (hg : Gl X x) (hm : X.mg x = none) (hv : bootBuiltins x = some (.builtin id)) (ha : PA X (e :: es) (tA X.K C ρ ds)) (hn : x ≠ "__name__" := by decide) (hdb : (x == ("__debug__" : Str)) = false := by decide)
    (he : starEach (e :: es) X.env = (false, eval e X.env) :: starEach es X.env := by rfl) (hpl : (backTo pos (starEach es X.env)).any (·.1) = false := by rfl) : PE X (.Call (.Name x p) (e :: es) [] pos) (tD X.K C ρ d) :=
  pe_w (pe_callB hc hg hm hv ha hn hdb he hpl) fun σ H Q ⟨F, P, r, k⟩ => ⟨F, P, r, fun vs H2 e2 hv => ⟨P, r.trk.same e2, hv, fun v H3 e3 h3 => k v H3 (e2.trans e3) h3⟩⟩
theorem d_ct {x : Str} {T : String} (hc : CallR X (.type T) (rC X.K C ds d)) (hg : Gl X x) (hm : X.mg x = none) (hv : bootBuiltins x = some (.type T)) (ha : PA X (e :: es) (tA X.K C ρ ds)) (hn : x ≠ "__name__" := by decide) (hdb : (x == ("__debug__" : Str)) = false := by decide)
    (he : starEach (e :: es) X.env = (false, eval e X.env) :: starEach es X.env := by rfl) (hpl : (backTo pos (starEach es X.env)).any (·.1) = false := by rfl) : PE X (.Call (.Name x p) (e :: es) [] pos) (tD X.K C ρ d) :=
  pe_w (pe_callTy hc hg hm hv ha hn hdb he hpl) fun σ H Q ⟨F, P, r, k⟩ => ⟨F, P, r, fun vs H2 e2 hv => ⟨P, r.trk.same e2, hv, fun v H3 e3 h3 => k v H3 (e2.trans e3) h3⟩⟩
/-- a new list comes back -/
def rF (K : PySem.W.Frag) (C : Addr) (ds : List D) (l : List D) : List V → Hp → VK → Prop := fun vs H Q => ∃ P, Trk P H ∧ RpL K C (mask P H) ds vs ∧ ∀ p xs H2, H p = none → Same H H2 → H2 p = some (.lst xs) → RpL K C (mask (fun a => P a ∨ a = p) H2) l xs → Q (.ref p) H2
theorem f_ct {x : Str} {T : String} {l : List D} (hc : CallR X (.type T) (rF X.K C ds l)) (hg : Gl X x) (hm : X.mg x = none) (hv : bootBuiltins x = some (.type T)) (ha : PA X (e :: es) (tA X.K C ρ ds)) (hn : x ≠ "__name__" := by decide) (hdb : (x == ("__debug__" : Str)) = false := by decide)
    (he : starEach (e :: es) X.env = (false, eval e X.env) :: starEach es X.env := by rfl) (hpl : (backTo pos (starEach es X.env)).any (·.1) = false := by rfl) : PE X (.Call (.Name x p) (e :: es) [] pos) (tF X.K C ρ l) :=
  pe_w (pe_callTy hc hg hm hv ha hn hdb he hpl) fun σ H Q ⟨F, P, r, k⟩ => ⟨F, P, r, fun vs H2 e2 hv => ⟨P, r.trk.same e2, hv, fun p xs H3 h0 e3 h3 hx => k p xs H3 (e2.free h0) (e2.trans e3) h3 hx⟩⟩
end
section
variable {X : Cx} {C : Addr}
theorem rp1 {K : PySem.W.Frag} {H : Hp} {d : D} {vs : List V} (h : RpL K C H [d] vs) : ∃ v, vs = [v] ∧ Rp K C H d v := by
  obtain ⟨x, r, e, h1, h2⟩ := h
  have h2 : r = [] := h2
  subst h2
  exact ⟨x, e, h1⟩
theorem rp2 {K : PySem.W.Frag} {H : Hp} {d d' : D} {vs : List V} (h : RpL K C H [d, d'] vs) : ∃ v w, vs = [v, w] ∧ Rp K C H d v ∧ Rp K C H d' w := by
  obtain ⟨x, r, e, h1, h2⟩ := h
  obtain ⟨w, e2, h3⟩ := rp1 h2
  subst e2
  exact ⟨x, w, e, h1, h3⟩
theorem c_lenL {l : List D} : CallR X (.builtin "len") (rC X.K C [.lst l] (.int (l.length : Int))) := cl_w call_len_seq fun xs H Q ⟨P, t, h, k⟩ => by
  obtain ⟨v, e, a, ys, e1, g1, g2⟩ := rp1 h
  subst e e1
  refine ⟨a, ys, rfl, .inl (SqL.of (mask_le _ _ g1)), k _ H (Same.refl H) ?_⟩
  rw [g2.length]
  rfl
theorem c_lenT {l : List D} : CallR X (.builtin "len") (rC X.K C [.tup l] (.int (l.length : Int))) := cl_w call_len_seq fun xs H Q ⟨P, t, h, k⟩ => by
  obtain ⟨v, e, a, ys, e1, g1, g2⟩ := rp1 h
  subst e e1
  refine ⟨a, ys, rfl, .inr (sqT_same mask_le g1), k _ H (Same.refl H) ?_⟩
  rw [g2.length]
  rfl
theorem c_lenS {z : Str} (hz : z.length ≤ sizeLine) : CallR X (.builtin "len") (rC X.K C [.str z] (.int (z.length : Int))) := cl_w call_len_str fun xs H Q ⟨P, t, h, k⟩ => by
  obtain ⟨v, e, e1⟩ := rp1 h
  have e1 : v = V.str z := e1
  subst e e1
  exact ⟨z, rfl, hz, k _ H (Same.refl H) rfl⟩
theorem c_all {bs : List Bool} (hc : X.calm = true) : CallR X (.builtin "all") (rC X.K C [.lst (bs.map D.bl)] (.bl (bs.all id))) := cl_w (cr_all hc) fun xs H Q ⟨P, t, h, k⟩ => by
  obtain ⟨v, e, a, ys, e1, g1, g2⟩ := rp1 h
  subst e e1
  refine ⟨a, bs, rfl, ?_, k _ H (Same.refl H) rfl⟩
  rw [← g2.bls]
  exact SqL.of (mask_le _ _ g1)
theorem c_any {bs : List Bool} (hc : X.calm = true) : CallR X (.builtin "any") (rC X.K C [.lst (bs.map D.bl)] (.bl (bs.any id))) := cl_w (cr_any hc) fun xs H Q ⟨P, t, h, k⟩ => by
  obtain ⟨v, e, a, ys, e1, g1, g2⟩ := rp1 h
  subst e e1
  refine ⟨a, bs, rfl, ?_, k _ H (Same.refl H) rfl⟩
  rw [← g2.bls]
  exact SqL.of (mask_le _ _ g1)
theorem c_tupL {l : List D} : CallR X (.type "tuple") (rC X.K C [.lst l] (.tup l)) := cl_w call_tuple_of fun xs H Q ⟨P, t, h, k⟩ => by
  obtain ⟨v, e, a, ys, e1, g1, g2⟩ := rp1 h
  subst e e1
  refine ⟨a, ys, rfl, .inl ⟨SqL.of (mask_le _ _ g1), fun p hp => ?_⟩⟩
  refine k _ _ (same_upd hp) ⟨p, ys, rfl, SqT.of ?_, RpL.mono (mask_same (same_upd hp)) _ _ g2⟩
  rw [mask_at (t.new hp), upd_same]
theorem rf_new {K : PySem.W.Frag} {H : Hp} {P : Addr → Prop} {l : List D} {xs : List V} {p : Addr} (h : RpL K C (mask P H) l xs) (hp : H p = none) : RpL K C (mask (fun a => P a ∨ a = p) (upd H p (.lst xs))) l xs :=
  RpL.mono (fun b u q => by
    obtain ⟨q1, q2⟩ := mask_some q
    have nb : b ≠ p := ne_of_none q1 hp
    rw [mask_at (fun z => z.elim q2 nb), upd_ne nb]
    exact q1) _ _ h
theorem c_lstL {l : List D} : CallR X (.type "list") (rF X.K C [.lst l] l) := cl_w call_list_of fun xs H Q ⟨P, t, h, k⟩ => by
  obtain ⟨v, e, a, ys, e1, g1, g2⟩ := rp1 h
  subst e e1
  exact ⟨a, ys, rfl, .inl (SqL.of (mask_le _ _ g1)), fun p hp => k p ys _ hp (same_upd hp) upd_same (rf_new g2 hp)⟩
theorem c_lstT {l : List D} : CallR X (.type "list") (rF X.K C [.tup l] l) := cl_w call_list_of fun xs H Q ⟨P, t, h, k⟩ => by
  obtain ⟨v, e, a, ys, e1, g1, g2⟩ := rp1 h
  subst e e1
  exact ⟨a, ys, rfl, .inr (sqT_same mask_le g1), fun p hp => k p ys _ hp (same_upd hp) upd_same (rf_new g2 hp)⟩
end

/-! ### calls of defs -/
section
variable {X : Cx} {C : Addr} {ρ : List Sl} {pos p : Pos} {es : List Expr} {e : Expr} {ds : List D} {d : D}
theorem d_call {x : Str} {k : Nat} {f : Addr} {fd : FuncData} {ps : List Str} {g : List D → D → Prop} (G : FnOk X.prog X.w X.K X.mg X.base CX0 k f fd ps (spD X.K C g)) (hr : Room k X.A) (hm : X.mg x = some (.ref f)) (hk : PySem.W.keepIn X.K (.ref f) = true) (hb : Binds X.K fd ps [])
    (hg : Gl X x) (ha : PA X (e :: es) (tA X.K C ρ ds)) (h : g ds d) (hdb : (x == ("__debug__" : Str)) = false := by decide)
    (he : starEach (e :: es) X.env = (false, eval e X.env) :: starEach es X.env := by rfl) (hpl : (backTo pos (starEach es X.env)).any (·.1) = false := by rfl) : PE X (.Call (.Name x p) (e :: es) [] pos) (tD X.K C ρ d) :=
  pe_w (pe_call (E := E0) (dvs := []) G hr hg hm hk hb .nil pass0 ha hdb he hpl) fun σ H Q ⟨F, P, r, k⟩ => ⟨F, P, r, fun vs H2 e2 hv => by
    show spD X.K C g (vs ++ []) H2 Q E0
    rw [List.append_nil]
    exact ⟨P, ds, d, r.trk.same e2, hv, h, fun v H3 e3 h3 => k v H3 (e2.trans e3) h3⟩⟩
end
end Fz
/-! The data layer: slots stored, targets, sources of loops, comprehensions, statements. -/
namespace Fz
open PySem L2
open PySem.W (Datum DatumOrd Tup T3)
open Enc (enc)

/-! ### slots -/
def Wk (ρ ρ' : List Sl) : Prop := ρ'.length = ρ.length ∧ ∀ (i : Nat) s, ρ'[i]? = some s → s = .no ∨ ρ[i]? = some s
theorem Wk.refl (ρ : List Sl) : Wk ρ ρ := ⟨rfl, fun _ _ h => .inr h⟩
theorem Wk.nil : Wk [] [] := Wk.refl _
theorem Wk.cons {s s' : Sl} {ρ ρ' : List Sl} (h : s' = .no ∨ s' = s) (w : Wk ρ ρ') : Wk (s :: ρ) (s' :: ρ') := by
  refine ⟨congrArg Nat.succ w.1, fun i t e => ?_⟩
  cases i with
  | zero =>
    have e : s' = t := by simpa using e
    subst e
    rcases h with h | h
    · exact .inl h
    · exact .inr (by simp [h])
  | succ i => simpa using w.2 i t (by simpa using e)
theorem own_wk {ρ ρ' : List Sl} (w : Wk ρ ρ') {i : Nat} (h : IsOwn ρ' i) : IsOwn ρ i := by
  rcases h with ⟨l, h⟩ | ⟨k, h⟩
  · rcases w.2 _ _ h with z | z
    · cases z
    · exact .inl ⟨l, z⟩
  · rcases w.2 _ _ h with z | z
    · cases z
    · exact .inr ⟨k, z⟩
section
variable {K : PySem.W.Frag} {C : Addr} {F : Frm} {P P' : Addr → Prop} {H H' : Hp} {σ : L2.St} {ρ ρ' : List Sl}
theorem Rep.wk (r : Rep K C F P H σ ρ) (w : Wk ρ ρ') : Rep K C F P H σ ρ' where
  wfU := r.wfU
  wfP := r.wfP
  le := r.le
  fr := r.fr
  ex := r.ex
  trk := r.trk
  dat := fun i d h => (w.2 i _ h).elim (fun z => nomatch z) (r.dat i d)
  own := fun i l h => (w.2 i _ h).elim (fun z => nomatch z) (r.own i l)
  urn := fun i k h => (w.2 i _ h).elim (fun z => nomatch z) (r.urn i k)
  inj := fun i j p hi hj => r.inj i j p (own_wk w hi) (own_wk w hj)
  len := w.1.trans r.len
/-- what a value stands for, in a slot of this kind -/
def Hold (K : PySem.W.Frag) (C : Addr) (F : Frm) (P : Addr → Prop) (H : Hp) (v : V) : Sl → Prop
  | .no => True
  | .dat d => Rp K C (mask P H) d v
  | .ow φ => ∃ p, v = .ref p ∧ P p ∧ F.H0 p = none ∧ φ.at_ K C (mask P H) H p
  | .ur φ => ∃ p, v = .ref p ∧ F.U p ∧ φ.at_ K C (mask P H) H p
/-- an own thing stands apart from the others -/
def Apart (σ : L2.St) (ρ : List Sl) (v : V) (k : Sl) : Prop := match k with
  | .no => True
  | .dat _ => True
  | _ => ∀ (i : Nat) p, v = .ref p → IsOwn ρ i → σ[i]? = some (some (.ref p)) → False
theorem set_getS {α : Type} {l : List α} {i j : Nat} {a b : α} (h : (l.set i a)[j]? = some b) : (i = j ∧ b = a) ∨ (i ≠ j ∧ l[j]? = some b) := by
  by_cases e : i = j
  · subst e
    by_cases hl : i < l.length
    · rw [List.getElem?_set_self hl] at h
      exact .inl ⟨rfl, (Option.some.inj h).symm⟩
    · rw [List.getElem?_eq_none (by simpa using hl)] at h
      cases h
  · rw [List.getElem?_set_ne e] at h
    exact .inr ⟨e, h⟩
theorem set_lt {α : Type} {l : List α} {i : Nat} {a b : α} (h : (l.set i a)[i]? = some b) : i < l.length := by
  by_cases hl : i < l.length
  · exact hl
  · rw [List.getElem?_eq_none (by simpa using hl)] at h
    cases h
theorem own_set {ρ : List Sl} {i j : Nat} {k : Sl} (h : IsOwn (ρ.set i k) j) : (i = j ∧ i < ρ.length ∧ ((∃ l, k = .ow l) ∨ ∃ n, k = .ur n)) ∨ (i ≠ j ∧ IsOwn ρ j) := by
  rcases h with ⟨l, h⟩ | ⟨n, h⟩
  · rcases set_getS h with ⟨e, z⟩ | ⟨e, z⟩
    · subst e
      exact .inl ⟨rfl, set_lt h, .inl ⟨l, z.symm⟩⟩
    · exact .inr ⟨e, .inl ⟨l, z⟩⟩
  · rcases set_getS h with ⟨e, z⟩ | ⟨e, z⟩
    · subst e
      exact .inl ⟨rfl, set_lt h, .inr ⟨n, z.symm⟩⟩
    · exact .inr ⟨e, .inr ⟨n, z⟩⟩
theorem Rep.set {i : Nat} {v : V} {k : Sl} (r : Rep K C F P H σ ρ) (h : Hold K C F P H v k) (a : Apart σ ρ v k) : Rep K C F P H (σ.set i (some v)) (ρ.set i k) := by
  have at_ : ∀ {j : Nat} {s}, (ρ.set i k)[j]? = some s → i = j → (σ.set i (some v))[j]? = some (some v) := fun {j s} e z => by
    subst z
    have hl := set_lt e
    rw [r.len] at hl
    exact List.getElem?_set_self hl
  have ne_ : ∀ {j : Nat} {x : Option V}, i ≠ j → σ[j]? = some x → (σ.set i (some v))[j]? = some x := fun {j x} z e => by
    rw [List.getElem?_set_ne z]
    exact e
  refine ⟨r.wfU, r.wfP, r.le, r.fr, r.ex, r.trk, fun j d e => ?_, fun j l e => ?_, fun j n e => ?_, fun j m p hj hm e1 e2 => ?_, ?_⟩
  · rcases set_getS e with ⟨z, q⟩ | ⟨z, q⟩
    · subst q
      exact ⟨v, at_ e z, h⟩
    · obtain ⟨w, h1, h2⟩ := r.dat j d q
      exact ⟨w, ne_ z h1, h2⟩
  · rcases set_getS e with ⟨z, q⟩ | ⟨z, q⟩
    · subst q
      obtain ⟨p, rfl, h2, h3, h4⟩ := h
      exact ⟨p, at_ e z, h2, h3, h4⟩
    · obtain ⟨p, h1, h2⟩ := r.own j l q
      exact ⟨p, ne_ z h1, h2⟩
  · rcases set_getS e with ⟨z, q⟩ | ⟨z, q⟩
    · subst q
      obtain ⟨p, rfl, h2, h3⟩ := h
      exact ⟨p, at_ e z, h2, h3⟩
    · obtain ⟨p, h1, h2⟩ := r.urn j n q
      exact ⟨p, ne_ z h1, h2⟩
  · have key : ∀ {m : Nat} {p : Addr}, i ≠ m → IsOwn ρ m → ((∃ l, k = .ow l) ∨ ∃ n, k = .ur n) → v = .ref p → σ[m]? = some (some (.ref p)) → False := fun {m p} hm hk kk ev es => by
      rcases kk with ⟨l, rfl⟩ | ⟨n, rfl⟩
      · exact a m p ev hk es
      · exact a m p ev hk es
    have val : ∀ {m : Nat} {s}, i = m → i < ρ.length → (σ.set i (some v))[m]? = some s → s = some v := fun {m s} z hl e => by
      subst z
      rw [r.len] at hl
      rw [List.getElem?_set_self hl] at e
      exact (Option.some.inj e).symm
    rcases own_set hj with ⟨z, hl, kk⟩ | ⟨z, q⟩
    · have ev := val z hl e1
      rcases own_set hm with ⟨z2, _, _⟩ | ⟨z2, q2⟩
      · exact z.symm.trans z2
      · rw [List.getElem?_set_ne z2] at e2
        exact (key z2 q2 kk (Option.some.inj ev).symm e2).elim
    · rw [List.getElem?_set_ne z] at e1
      rcases own_set hm with ⟨z2, hl, kk⟩ | ⟨z2, q2⟩
      · have ev := val z2 hl e2
        exact (key z q kk (Option.some.inj ev).symm e1).elim
      · rw [List.getElem?_set_ne z2] at e2
        exact r.inj j m p q q2 e1 e2
  · rw [List.length_set, List.length_set]
    exact r.len
theorem Rep.set_no {i : Nat} {v : Option V} (r : Rep K C F P H σ ρ) : Rep K C F P H (σ.set i v) (ρ.set i .no) := by
  have ne_ : ∀ {j : Nat} {x : Option V}, i ≠ j → σ[j]? = some x → (σ.set i v)[j]? = some x := fun {j x} z e => by
    rw [List.getElem?_set_ne z]
    exact e
  refine ⟨r.wfU, r.wfP, r.le, r.fr, r.ex, r.trk, fun j d e => ?_, fun j l e => ?_, fun j n e => ?_, fun j m p hj hm e1 e2 => ?_, ?_⟩
  · rcases set_getS e with ⟨z, q⟩ | ⟨z, q⟩
    · cases q
    · obtain ⟨w, h1, h2⟩ := r.dat j d q
      exact ⟨w, ne_ z h1, h2⟩
  · rcases set_getS e with ⟨z, q⟩ | ⟨z, q⟩
    · cases q
    · obtain ⟨p, h1, h2⟩ := r.own j l q
      exact ⟨p, ne_ z h1, h2⟩
  · rcases set_getS e with ⟨z, q⟩ | ⟨z, q⟩
    · cases q
    · obtain ⟨p, h1, h2⟩ := r.urn j n q
      exact ⟨p, ne_ z h1, h2⟩
  · rcases own_set hj with ⟨_, _, ⟨l, q⟩ | ⟨n, q⟩⟩ | ⟨z, q⟩
    · cases q
    · cases q
    · rcases own_set hm with ⟨_, _, ⟨l, q⟩ | ⟨n, q⟩⟩ | ⟨z2, q2⟩
      · cases q
      · cases q
      · rw [List.getElem?_set_ne z] at e1
        rw [List.getElem?_set_ne z2] at e2
        exact r.inj j m p q q2 e1 e2
  · rw [List.length_set, List.length_set]
    exact r.len
def wipeR (ρ : List Sl) : List Nat → List Sl
  | [] => ρ
  | v :: vs => (wipeR ρ vs).set v .no
theorem Rep.wipe (r : Rep K C F P H σ ρ) : ∀ vs : List Nat, Rep K C F P H (wipe σ vs) (wipeR ρ vs)
  | [] => r
  | v :: vs => (Rep.wipe r vs).set_no
/-- a new thing becomes one's own -/
theorem Rep.new {p : Addr} (r : Rep K C F P H σ ρ) (e : Same H H') (h : H p = none) (h' : ∃ o, H' p = some o) : Rep K C F (fun a => P a ∨ a = p) H' σ ρ ∧ F.H0 p = none ∧ Same (mask P H) (mask (fun a => P a ∨ a = p) H') := by
  have ms : Same (mask P H) (mask (fun a => P a ∨ a = p) H') := fun b o q => by
    obtain ⟨q1, q2⟩ := mask_some q
    rw [mask_at (fun z => z.elim q2 (ne_of_none q1 h))]
    exact e b o q1
  have h0 : F.H0 p = none := by
    cases q : F.H0 p with
    | none => rfl
    | some o =>
      by_cases hu : F.U p
      · obtain ⟨u, z⟩ := r.trk p (r.le p (r.wfU p hu))
        rw [h] at z
        cases z
      · have z := r.ex p o q hu
        rw [h] at z
        cases z
  refine ⟨⟨r.wfU, r.wfP, fun a q => .inl (r.le a q), fun a q => q.elim (r.fr a) fun z => .inr (by rw [z]; exact h0), fun a o q n => e a o (r.ex a o q n), fun a q => q.elim (r.trk.same e a) fun z => by rw [z]; exact h', fun i d q => ?_, fun i l q => ?_, fun i n q => ?_, r.inj, r.len⟩, h0, ms⟩
  · obtain ⟨v, h1, h2⟩ := r.dat i d q
    exact ⟨v, h1, Rp.mono ms d v h2⟩
  · obtain ⟨b, h1, h2, h3, h4⟩ := r.own i l q
    exact ⟨b, h1, .inl h2, h3, l.mono ms (same_at e (l.live h4)) h4⟩
  · obtain ⟨b, h1, h2, h3⟩ := r.urn i n q
    exact ⟨b, h1, h2, n.mono ms (same_at e (n.live h3)) h3⟩
theorem own_at {i : Nat} (r : Rep K C F P H σ ρ) (h : IsOwn ρ i) : ∃ p, σ[i]? = some (some (.ref p)) ∧ P p := by
  rcases h with ⟨l, h⟩ | ⟨k, h⟩
  · obtain ⟨p, h1, h2, _⟩ := r.own i l h
    exact ⟨p, h1, h2⟩
  · obtain ⟨p, h1, h2, _⟩ := r.urn i k h
    exact ⟨p, h1, r.le p (r.wfU p h2)⟩
/-- what is new is apart from all own ones -/
theorem apart_new {p : Addr} {k : Sl} (r : Rep K C F P H σ ρ) (h : H p = none) : Apart σ ρ (.ref p) k := by
  have q : ∀ (i : Nat) b, V.ref p = .ref b → IsOwn ρ i → σ[i]? = some (some (.ref b)) → False := fun i b e hi hs => by
    have e := V.ref.inj e
    subst e
    obtain ⟨b, h1, h2⟩ := own_at r hi
    rw [hs] at h1
    have e := V.ref.inj (Option.some.inj (Option.some.inj h1))
    subst e
    obtain ⟨o, z⟩ := r.trk _ h2
    rw [h] at z
    cases z
  cases k with
  | no => trivial
  | dat d => trivial
  | ow l => exact q
  | ur n => exact q
/-- an own thing that no slot holds is rewritten -/
theorem Rep.upd {p : Addr} {o : HO} (r : Rep K C F P H σ ρ) (hp : P p) (h0 : F.H0 p = none) (ha : Apart σ ρ (.ref p) (.own [])) : Rep K C F P (L2.upd H p o) σ ρ := by
  have me : mask P (L2.upd H p o) = mask P H := mask_upd hp
  have n : ∀ {i : Nat} {b : Addr}, IsOwn ρ i → σ[i]? = some (some (.ref b)) → b ≠ p := fun {i b} hi hs e => by
    subst e
    exact ha i b rfl hi hs
  refine ⟨r.wfU, r.wfP, r.le, r.fr, fun a u q z => ?_, fun a q => ?_, fun i d q => ?_, fun i l q => ?_, fun i k q => ?_, r.inj, r.len⟩
  · have e : a ≠ p := ne_of_none q h0
    rw [upd_ne e]
    exact r.ex a u q z
  · by_cases e : a = p
    · rw [e, upd_same]
      exact ⟨_, rfl⟩
    · rw [upd_ne e]
      exact r.trk a q
  · rw [me]
    exact r.dat i d q
  · obtain ⟨b, h1, h2, h3, h4⟩ := r.own i l q
    rw [me]
    exact ⟨b, h1, h2, h3, l.mono (Same.refl _) (upd_ne (n (.inl ⟨l, q⟩) h1)) h4⟩
  · obtain ⟨b, h1, h2, h3⟩ := r.urn i k q
    rw [me]
    exact ⟨b, h1, h2, k.mono (Same.refl _) (upd_ne (n (.inr ⟨k, q⟩) h1)) h3⟩
/-- an own thing of a slot is rewritten -/
theorem Rep.rewrite {i : Nat} {φ φ' : Ph} {p : Addr} {o : HO} (r : Rep K C F P H σ ρ) (h : ρ[i]? = some (.ow φ)) (hs : σ[i]? = some (some (.ref p))) (hx : φ'.at_ K C (mask P H) (L2.upd H p o) p) :
    Rep K C F P (L2.upd H p o) σ (ρ.set i (.ow φ')) ∧ Same (mask P H) (mask P (L2.upd H p o)) := by
  obtain ⟨b, h1, h2, h3, h4⟩ := r.own i φ h
  rw [hs] at h1
  have e := V.ref.inj (Option.some.inj (Option.some.inj h1))
  subst e
  have r1 : Rep K C F P H σ (ρ.set i .no) := r.wk ⟨List.length_set, fun j s e => by
    rcases set_getS e with ⟨_, z⟩ | ⟨_, z⟩
    · exact .inl z
    · exact .inr z⟩
  have ap : ∀ k, Apart σ (ρ.set i .no) (.ref p) (.ow k) := fun k j b e hj hsj => by
    have e := V.ref.inj e
    subst e
    rcases own_set hj with ⟨_, _, ⟨_, z⟩ | ⟨_, z⟩⟩ | ⟨z, q⟩
    · cases z
    · cases z
    · exact z (r.inj i j p (.inl ⟨φ, h⟩) q hs hsj)
  have r2 := r1.upd (o := o) h2 h3 (ap _)
  have me : mask P (L2.upd H p o) = mask P H := mask_upd h2
  have r3 := r2.set (i := i) (v := .ref p) (k := .ow φ') ⟨p, rfl, h2, h3, by rw [me]; exact hx⟩ (ap _)
  rw [List.set_set] at r3
  have es : σ.set i (some (.ref p)) = σ := by
    apply List.ext_getElem?
    intro j
    by_cases ej : i = j
    · subst ej
      obtain ⟨hl, _⟩ := List.getElem?_eq_some_iff.mp hs
      rw [List.getElem?_set_self hl, hs]
    · rw [List.getElem?_set_ne ej]
  rw [es] at r3
  exact ⟨r3, by rw [me]; exact Same.refl _⟩
/-- an own list of a slot is rewritten -/
theorem Rep.reown {i : Nat} {l l' : List D} {p : Addr} {xs : List V} (r : Rep K C F P H σ ρ) (h : ρ[i]? = some (.own l)) (hs : σ[i]? = some (some (.ref p))) (hx : RpL K C (mask P H) l' xs) :
    Rep K C F P (L2.upd H p (.lst xs)) σ (ρ.set i (.own l')) ∧ Same (mask P H) (mask P (L2.upd H p (.lst xs))) :=
  r.rewrite (φ' := phL l') h hs ⟨xs, upd_same, hx⟩
/-- an own thing is given up: it is data from now on -/
theorem Rep.give {i : Nat} {φ : Ph} {d : D} (r : Rep K C F P H σ ρ) (h : ρ[i]? = some (.ow φ)) (hd : ∀ (B : Hp) (p : Addr), φ.at_ K C B H p → ∀ B' : Hp, Same B B' → B' p = H p → Rp K C B' d (.ref p)) : ∃ P', Rep K C F P' H σ (ρ.set i (.dat d)) ∧ Same (mask P H) (mask P' H) := by
  obtain ⟨p, h1, h2, h3, h4⟩ := r.own i φ h
  have ms : Same (mask P H) (mask (fun a => P a ∧ a ≠ p) H) := mask_less fun a z => z.1
  have hil := (List.getElem?_eq_some_iff.mp h).1
  refine ⟨fun a => P a ∧ a ≠ p, ⟨r.wfU, r.wfP, fun a q => ⟨r.le a q, fun z => ?_⟩, fun a q => r.fr a q.1, r.ex, fun a q => r.trk a q.1, fun j e q => ?_, fun j m q => ?_, fun j k q => ?_, fun j m b hj hm e1 e2 => ?_, ?_⟩, ms⟩
  · subst z
    obtain ⟨o, z⟩ := r.wfP _ q
    rw [h3] at z
    cases z
  · rcases set_getS q with ⟨z, q⟩ | ⟨z, q⟩
    · cases q
      subst z
      exact ⟨_, h1, hd _ p h4 _ ms (mask_at fun z => z.2 rfl)⟩
    · obtain ⟨v, g1, g2⟩ := r.dat j e q
      exact ⟨v, g1, Rp.mono ms e v g2⟩
  · rcases set_getS q with ⟨z, q⟩ | ⟨z, q⟩
    · cases q
    · obtain ⟨b, g1, g2, g3, g4⟩ := r.own j m q
      refine ⟨b, g1, ⟨g2, fun z2 => ?_⟩, g3, m.mono ms rfl g4⟩
      subst z2
      exact z (r.inj i j b (.inl ⟨φ, h⟩) (.inl ⟨m, q⟩) h1 g1)
  · rcases set_getS q with ⟨z, q⟩ | ⟨z, q⟩
    · cases q
    · obtain ⟨b, g1, g2, g3⟩ := r.urn j k q
      exact ⟨b, g1, g2, k.mono ms rfl g3⟩
  · rcases own_set hj with ⟨_, _, ⟨_, z⟩ | ⟨_, z⟩⟩ | ⟨_, q1⟩
    · cases z
    · cases z
    · rcases own_set hm with ⟨_, _, ⟨_, z⟩ | ⟨_, z⟩⟩ | ⟨_, q2⟩
      · cases z
      · cases z
      · exact r.inj j m b q1 q2 e1 e2
  · rw [List.length_set]
    exact r.len
theorem Rep.freeze {i : Nat} {l : List D} (r : Rep K C F P H σ ρ) (h : ρ[i]? = some (.own l)) : ∃ P', Rep K C F P' H σ (ρ.set i (.dat (.lst l))) ∧ Same (mask P H) (mask P' H) :=
  r.give h fun B p ⟨xs, h1, h2⟩ B' e h3 => ⟨p, xs, rfl, h3.trans h1, RpL.mono e l xs h2⟩
end

/-! ### expressions by kind -/
structure Ext (P : Addr → Prop) (H : Hp) (P' : Addr → Prop) (H' : Hp) : Prop where
  le : ∀ a, P a → P' a
  sm : Same H H'
  ms : Same (mask P H) (mask P' H')
theorem Ext.refl (P : Addr → Prop) (H : Hp) : Ext P H P H := ⟨fun _ h => h, Same.refl _, Same.refl _⟩
theorem Ext.same {P : Addr → Prop} {H H' : Hp} (e : Same H H') : Ext P H P H' := ⟨fun _ h => h, e, mask_same e⟩
theorem Ext.trans {P P1 P2 : Addr → Prop} {H H1 H2 : Hp} (a : Ext P H P1 H1) (b : Ext P1 H1 P2 H2) : Ext P H P2 H2 := ⟨fun x h => b.le x (a.le x h), a.sm.trans b.sm, a.ms.trans b.ms⟩
def NewIn (H : Hp) (v : V) (k : Sl) : Prop := match k with
  | .no => True
  | .dat _ => True
  | _ => ∀ p, v = .ref p → H p = none
def tK (K : PySem.W.Frag) (C : Addr) (ρ : List Sl) (k : Sl) : TE := fun σ H Q => ∃ F P, Rep K C F P H σ ρ ∧ ∀ v P' H', Rep K C F P' H' σ ρ → Ext P H P' H' → NewIn H v k → Hold K C F P' H' v k → Q v H'
section
variable {X : Cx} {C : Addr} {ρ : List Sl} {e : Expr}
theorem k_d {d : D} (h : PE X e (tD X.K C ρ d)) : PE X e (tK X.K C ρ (.dat d)) :=
  pe_w h fun σ H Q ⟨F, P, r, k⟩ => ⟨F, P, r, fun v H2 e2 hv => k v P H2 (r.same e2) (Ext.same e2) trivial hv⟩
theorem k_f {l : List D} (h : PE X e (tF X.K C ρ l)) : PE X e (tK X.K C ρ (.own l)) :=
  pe_w h fun σ H Q ⟨F, P, r, k⟩ => ⟨F, P, r, fun p xs H2 hp e2 h2 hl => by
    obtain ⟨r2, h0, ms⟩ := r.new e2 hp ⟨_, h2⟩
    exact k _ _ _ r2 ⟨fun a q => .inl q, e2, ms⟩ (fun b z => by cases z; exact hp) ⟨p, rfl, .inr rfl, h0, xs, h2, hl⟩⟩
theorem Hold.ext {K : PySem.W.Frag} {F : Frm} {P P' : Addr → Prop} {H H' : Hp} {v : V} : ∀ {k : Sl}, Hold K C F P H v k → Ext P H P' H' → Hold K C F P' H' v k
  | .no, _, _ => trivial
  | .dat d, h, x => Rp.mono x.ms d v h
  | .ow φ, ⟨p, h1, h2, h3, h4⟩, x => ⟨p, h1, x.le p h2, h3, φ.mono x.ms (same_at x.sm (φ.live h4)) h4⟩
  | .ur φ, ⟨p, h1, h2, h3⟩, x => ⟨p, h1, h2, φ.mono x.ms (same_at x.sm (φ.live h3)) h3⟩
theorem apart_of {K : PySem.W.Frag} {F : Frm} {P : Addr → Prop} {H : Hp} {σ : L2.St} {v : V} {k : Sl} (r : Rep K C F P H σ ρ) (h : NewIn H v k) : Apart σ ρ v k := by
  cases k with
  | no => trivial
  | dat d => trivial
  | ow l => exact fun i p e hi hs => apart_new (k := .ow l) r (h p e) i p rfl hi hs
  | ur n => exact fun i p e hi hs => apart_new (k := .ur n) r (h p e) i p rfl hi hs
end
end Fz
/-! The data layer: targets, sources of loops, comprehensions. -/
namespace Fz
open PySem L2
open PySem.W (Datum DatumOrd Tup T3)
open Enc (enc)

/-! ### targets -/
theorem wipe_set {σ : L2.St} {i : Nat} {v : Option V} : ∀ {vs : List Nat}, i ∈ vs → wipe (σ.set i v) vs = wipe σ vs
  | [], h => by cases h
  | j :: vs, h => by
    show (wipe (σ.set i v) vs).set j none = (wipe σ vs).set j none
    by_cases hm : i ∈ vs
    · rw [wipe_set hm]
    · have e : i = j := by
        rcases List.mem_cons.mp h with e | e
        · exact e
        · exact absurd e hm
      subst e
      have q : wipe (σ.set i v) vs = (wipe σ vs).set i v := by
        clear h
        induction vs with
        | nil => rfl
        | cons k vs ih =>
          show (wipe (σ.set i v) vs).set k none = ((wipe σ vs).set k none).set i v
          rw [ih fun z => hm (List.mem_cons_of_mem _ z)]
          exact List.set_comm _ _ fun z => hm (by rw [z]; exact List.mem_cons_self)
      rw [q, List.set_set]
theorem wipe_wipe {σ : L2.St} (vs : List Nat) : wipe (wipe σ vs) vs = wipe σ vs := by
  have key : ∀ ws : List Nat, (∀ i ∈ ws, i ∈ vs) → wipe (wipe σ ws) vs = wipe σ vs := by
    intro ws
    induction ws with
    | nil => intro _; rfl
    | cons j ws ih =>
      intro h
      show wipe ((wipe σ ws).set j none) vs = _
      rw [wipe_set (h j List.mem_cons_self)]
      exact ih fun i hi => h i (List.mem_cons_of_mem _ hi)
  exact key vs fun _ h => h
def tG (K : PySem.W.Frag) (C : Addr) (vs : List Nat) (ρ : List Sl) (d : D) (ρ' : List Sl) : TG := fun v σ H Q => ∃ F P, Rep K C F P H σ ρ ∧ Rp K C (mask P H) d v ∧ ∀ σ', Rep K C F P H σ' ρ' → wipe σ' vs = wipe σ vs → Q σ' H
def tGs (K : PySem.W.Frag) (C : Addr) (vs : List Nat) (ρ : List Sl) (ds : List D) (ρ' : List Sl) : TGs := fun xs σ H Q => ∃ F P, Rep K C F P H σ ρ ∧ RpL K C (mask P H) ds xs ∧ ∀ σ', Rep K C F P H σ' ρ' → wipe σ' vs = wipe σ vs → Q σ' H
section
variable {X : Cx} {tg : Expr} {es : List Expr}
theorem pg_w {t t' : TG} (h : PG X tg t) (w : ∀ v σ H Q, t' v σ H Q → t v σ H Q) : PG X tg t' := ⟨fun pins s σ H v u Q I r q => h.run pins s σ H v u Q I r (w v σ H Q q)⟩
theorem pgs_w {t t' : TGs} (h : PGs X es t) (w : ∀ v σ H Q, t' v σ H Q → t v σ H Q) : PGs X es t' := ⟨fun pins s σ H v u Q I r q => h.run pins s σ H v u Q I r (w v σ H Q q)⟩
variable {C : Addr} {vs : List Nat} {ρ ρ1 ρ2 : List Sl} {d : D} {ds : List D} {pos : Pos}
theorem g_name {i : Nat} {x : Str} (hN : X.N.Nodup) (hi : X.N[i]? = some x := by rfl) (hv : i ∈ vs := by decide) (hx : Loc X.env.scope x := by first | exact Or.inl rfl | exact Or.inr rfl) (hf : X.fn x = true ∨ X.env.scope.names.lookup x = some .local := by first | exact .inl rfl | exact .inr rfl) :
    PG X (.Name x pos) (tG X.K C vs ρ d (ρ.set i (.dat d))) :=
  pg_w (pg_name hN hi hx hf) fun v σ H Q ⟨F, P, r, hd, k⟩ => k _ (r.set hd trivial) (wipe_set hv)
theorem gs_nil : PGs X [] (tGs X.K C vs ρ [] ρ) := pgs_w pgs_nil fun v σ H Q ⟨F, P, r, hd, k⟩ => ⟨hd, k σ r rfl⟩
theorem gs_cons (h1 : PG X tg (tG X.K C vs ρ d ρ1)) (h2 : PGs X es (tGs X.K C vs ρ1 ds ρ2)) (hs : (assignEach (tg :: es) X.env).map (·.2) = assign tg X.env :: (assignEach es X.env).map (·.2) := by rfl) : PGs X (tg :: es) (tGs X.K C vs ρ (d :: ds) ρ2) :=
  pgs_w (pgs_cons h1 h2 hs) fun v σ H Q ⟨F, P, r, ⟨x, t, e, h1, h2⟩, k⟩ => ⟨x, t, e, F, P, r, h1, fun σ' r' e' => ⟨F, P, r', h2, fun σ'' r'' e'' => k σ'' r'' (e''.trans e')⟩⟩
theorem g_tup {x1 : Nat} (hc : X.calm = true) (h : PGs X es (tGs X.K C vs ρ ds ρ1)) (hn : (assignEach es X.env).length = ds.length := by rfl) (hst : (assignEach es X.env).findIdx? (·.1) = none := by rfl) : PG X (.Tuple es x1 pos) (tG X.K C vs ρ (.tup ds) ρ1) :=
  pg_w (pg_tup hc h hn hst) fun v σ H Q ⟨F, P, r, ⟨a, xs, e, h1, h2⟩, k⟩ => ⟨a, xs, e, sqT_same mask_le h1, h2.length, F, P, r, h2, k⟩
theorem g_lst {x1 : Nat} (hc : X.calm = true) (h : PGs X es (tGs X.K C vs ρ ds ρ1)) (hn : (assignEach es X.env).length = ds.length := by rfl) (hst : (assignEach es X.env).findIdx? (·.1) = none := by rfl) : PG X (.Tuple es x1 pos) (tG X.K C vs ρ (.lst ds) ρ1) :=
  pg_w (pg_unl hc h hn hst) fun v σ H Q ⟨F, P, r, ⟨a, xs, e, h1, h2⟩, k⟩ => ⟨a, xs, e, SqL.of (mask_le _ _ h1), h2.length, F, P, r, h2, k⟩
end

/-! ### what is walked -/
structure WkD (K : PySem.W.Frag) (C : Addr) (J : It) (B : Hp) (ds : List D) : Prop where
  size : ds.length ≤ sizeLine
  goes : ∀ i H, i < ds.length → Same B H → J.go i H
  stops : ∀ H, Same B H → J.stop ds.length H
  yields : ∀ i H x H', i < ds.length → Same B H → J.yld i H x H' → Same H H' ∧ ∃ d, ds[i]? = some d ∧ ∀ P, Trk P H → Same B (mask P H) → Rp K C (mask P H') d x
def tI (K : PySem.W.Frag) (C : Addr) (ρ : List Sl) (ds : List D) : TI := fun σ H R => ∃ F P, Rep K C F P H σ ρ ∧ ∀ J H2, Same H H2 → WkD K C J (mask P H2) ds → R J H2
section
variable {X : Cx} {tg e : Expr}
theorem pi_w {t t' : TI} (h : PI X tg e t) (w : ∀ σ H R, t' σ H R → t σ H R) : PI X tg e t' := ⟨fun pins s σ H R I q => h.run pins s σ H R I (w σ H R q)⟩
/-- with what the invariant knows -/
theorem pi_wI {t t' : TI} (h : PI X tg e t) (w : ∀ σ H R, t' σ H R → t σ H fun J H' => (∀ pins s, Inv X pins σ H' s → R J H')) : PI X tg e t' := ⟨fun pins s σ H R I q => by
  refine thn (h.run pins s σ H _ I (w σ H R q)) fun v s1 h1 => thn h1 fun itv s2 h2 => ?_
  obtain ⟨it, fp, tn, J, H', e1, I2, T, st, f, q⟩ := h2
  exact ⟨it, fp, tn, J, H', e1, I2, T, st, f, q pins s2 I2⟩⟩
variable {C : Addr} {ρ : List Sl} {ds : List D}
theorem i_list (h : PE X e (tD X.K C ρ (.lst ds))) : PI X tg e (tI X.K C ρ ds) :=
  pi_wI (pi_list h) fun σ H R ⟨F, P, r, k⟩ => ⟨F, P, r, fun v H2 e2 hv => by
    obtain ⟨a, xs, e1, g1, g2⟩ := hv
    refine ⟨a, e1, ⟨xs, SqL.of (mask_le _ _ g1)⟩, fun pins s I => k _ H2 e2 ?_⟩
    have hl := g2.length
    have hz : xs.length ≤ sizeLine := (I.hok a _ (mask_le _ _ g1)).1
    rw [hl] at hz
    refine ⟨hz, fun i H' hi sm => ?_, fun H' sm => ⟨xs, SqL.of (sm _ _ g1), by omega⟩, fun i H' x H'' hi sm y => ?_⟩
    · rw [← hl] at hi
      exact ⟨xs, xs[i], SqL.of (sm _ _ g1), by simp [hi]⟩
    · obtain ⟨rfl, y⟩ := y
      obtain ⟨d, q1, q2⟩ := g2.getV (y xs (SqL.of (sm _ _ g1)))
      exact ⟨Same.refl _, d, q1, fun P' t' s' => Rp.mono s' d x q2⟩⟩
theorem i_tup (h : PE X e (tD X.K C ρ (.tup ds))) : PI X tg e (tI X.K C ρ ds) :=
  pi_wI (pi_tup h) fun σ H R ⟨F, P, r, k⟩ => ⟨F, P, r, fun v H2 e2 hv => by
    obtain ⟨a, xs, e1, g1, g2⟩ := hv
    refine ⟨a, e1, ⟨xs, sqT_same mask_le g1⟩, fun pins s I => k _ H2 e2 ?_⟩
    have hl := g2.length
    have hz : xs.length ≤ sizeLine := by
      obtain ⟨its, rv, _, z⟩ := I.tuple (sqT_same mask_le g1)
      exact z
    rw [hl] at hz
    refine ⟨hz, fun i H' hi sm => ?_, fun H' sm => ⟨xs, sqT_same sm g1, by omega⟩, fun i H' x H'' hi sm y => ?_⟩
    · rw [← hl] at hi
      exact ⟨xs, xs[i], sqT_same sm g1, by simp [hi]⟩
    · obtain ⟨rfl, y⟩ := y
      obtain ⟨d, q1, q2⟩ := g2.getV (y xs (sqT_same sm g1))
      exact ⟨Same.refl _, d, q1, fun P' t' s' => Rp.mono s' d x q2⟩⟩
theorem i_str {x : Str} (hz : x.length ≤ sizeLine) (h : PE X e (tD X.K C ρ (.str x))) : PI X tg e (tI X.K C ρ (x.cps.toList.map fun c => .str ⟨#[c]⟩)) :=
  pi_w (pi_str h) fun σ H R ⟨F, P, r, k⟩ => ⟨F, P, r, fun v H2 e2 hv => by
    have hv : v = V.str x := hv
    refine ⟨x, hv, k _ H2 e2 ?_⟩
    have hl : (x.cps.toList.map fun c => D.str ⟨#[c]⟩).length = x.cps.size := by simp
    refine ⟨by rw [hl]; exact hz, fun i H' hi sm => ?_, fun H' sm => ?_, fun i H' y H'' hi sm q => ?_⟩
    · rw [hl] at hi
      exact hi
    · rw [hl]
      exact Nat.le_refl _
    · obtain ⟨rfl, c, h1, rfl⟩ := q
      refine ⟨Same.refl _, .str ⟨#[c]⟩, ?_, fun P' t' s' => rfl⟩
      rw [List.getElem?_map, Array.getElem?_toList, h1]
      rfl⟩
theorem i_range1 {a : Expr} {n : Nat} {p pos : Pos} (hg : Gl X "range") (hm : X.mg "range" = none) (hn : n ≤ 1000000) (h : PE X a (tD X.K C ρ (.int n))) (hs : starEach [a] X.env = [(false, eval a X.env)] := by rfl) :
    PI X tg (.Call (.Name "range" p) [a] [] pos) (tI X.K C ρ ((List.range n).map fun i : Nat => D.int i)) :=
  pi_w (pi_range1 hg hm (a_cons h a_nil (hs.trans rfl)) hs) fun σ H R ⟨F, P, r, k⟩ => ⟨F, P, r, fun vs H2 e2 hv => by
    obtain ⟨v, rfl, hv1⟩ := rp1 hv
    have hv1 : v = V.int n := hv1
    subst hv1
    refine ⟨n, rfl, by omega, by omega, ?_⟩
    have hl : ((List.range n).map fun i : Nat => D.int i).length = n := by simp
    refine k _ H2 e2 ⟨by rw [hl, sizeLine_eq]; omega, fun i H' hi sm => ?_, fun H' sm => ?_, fun i H' y H'' hi sm q => ?_⟩
    · show i < (n : Int).toNat
      rw [hl] at hi
      simpa using hi
    · show (n : Int).toNat ≤ _
      rw [hl]
      simp
    · obtain ⟨rfl, rfl⟩ := q
      rw [hl] at hi
      exact ⟨Same.refl _, .int i, by simp [hi], fun P' t' s' => (by show V.int _ = V.int _; simp)⟩⟩
end

/-! ### list comprehensions -/
section
variable {X : Cx} {C : Addr} {ρ : List Sl}
theorem pg_fam {ι : Type} {tg : Expr} {t : ι → TG} {p : ι → Prop} (h : ∀ i, p i → PG X tg (t i)) : PG X tg (fun v σ H Q => ∃ i, p i ∧ t i v σ H Q) := ⟨fun pins s σ H v u Q I r ⟨i, hi, q⟩ => (h i hi).run pins s σ H v u Q I r q⟩
theorem pts_fam {ι : Type} {es : List Expr} {t : ι → TT} {p : ι → Prop} (h : ∀ i, p i → PTs X es (t i)) : PTs X es (fun σ H Q => ∃ i, p i ∧ t i σ H Q) := ⟨fun pins s σ H Q I ⟨i, hi, q⟩ => (h i hi).run pins s σ H Q I q⟩
theorem pe_famP {ι : Type} {e : Expr} {t : ι → TE} {p : ι → Prop} (h : ∀ i, p i → PE X e (t i)) : PE X e (fun σ H Q => ∃ i, p i ∧ t i σ H Q) := ⟨fun pins s σ H Q I ⟨i, hi, q⟩ => (h i hi).run pins s σ H Q I q⟩
theorem pts_w {es : List Expr} {t t' : TT} (h : PTs X es t) (w : ∀ σ H Q, t' σ H Q → t σ H Q) : PTs X es t' := ⟨fun pins s σ H Q I q => h.run pins s σ H Q I (w σ H Q q)⟩
theorem ts_nil : PTs X [] (tT X.K C ρ true) := pts_w pts_nil fun σ H Q ⟨F, P, r, k⟩ => k H (Same.refl H)
theorem ts_one {c : Expr} {b : Bool} (h : PT X c (tT X.K C ρ b)) : PTs X [c] (tT X.K C ρ b) := pts_one h
/-- the core: what the reading of a comprehension wants -/
theorem lc_data {K : PySem.W.Frag} {ι : Type} {l : List ι} {en ev : ι → D} {t : ι → Bool} {ρ1 : ι → List Sl} {vs : List Nat} {σ : L2.St} {H : Hp} {Q : VK} (h : tF K C ρ ((l.filter t).map ev) σ H Q) :
    tLc (tI K C ρ (l.map en)) (fun v σ H Q => ∃ a, a ∈ l ∧ tG K C vs (wipeR ρ vs) (en a) (ρ1 a) v σ H Q) (fun σ H Q => ∃ a, a ∈ l ∧ tT K C (ρ1 a) (t a) σ H Q) (fun σ H Q => ∃ a, (a ∈ l ∧ t a = true) ∧ tD K C (ρ1 a) (ev a) σ H Q) vs σ H Q := by
  obtain ⟨F, P, r, k⟩ := h
  refine ⟨F, P, r, fun J H1 e1 w D hD => ?_⟩
  have hD0 : H D = none := e1.free hD
  have r1 := r.same e1
  obtain ⟨r2, h0, ms⟩ := r1.new (H' := upd H1 D (.lst [])) (same_upd hD) hD ⟨_, upd_same⟩
  have ap := apart_new (k := .own []) r1 hD
  have rw0 := r2.wipe vs
  have ap0 : Apart (wipe σ vs) (wipeR ρ vs) (.ref D) (.own []) := apart_new (k := .own []) (r1.wipe vs) hD
  have wk : Walk J l.length (Same (mask P H1)) (fun i H x H' => Same H H' ∧ ∃ a, l[i]? = some a ∧ ∀ P', Trk P' H → Same (mask P H1) (mask P' H) → Rp K C (mask P' H') (en a) x) := by
    have hl : (l.map en).length = l.length := List.length_map ..
    refine ⟨fun i H' hi sm => w.goes i H' (by rw [hl]; exact hi) sm, fun H' sm => by rw [← hl]; exact w.stops H' sm, fun i H' x H'' hi sm y => ?_⟩
    obtain ⟨s1, d, hd, hr⟩ := w.yields i H' x H'' (by rw [hl]; exact hi) sm y
    rw [List.getElem?_map] at hd
    cases q : l[i]? with
    | none => rw [q] at hd; cases hd
    | some a =>
      rw [q] at hd
      have hd := Option.some.inj hd
      subst hd
      exact ⟨s1, a, rfl, hr⟩
  have hz : l.length ≤ sizeLine := by
    have z := w.size
    rw [List.length_map] at z
    exact z
  let PD : Addr → Prop := fun a => P a ∨ a = D
  refine lc_it wk (g := fun v σ H Q => ∃ a, a ∈ l ∧ tG K C vs (wipeR ρ vs) (en a) (ρ1 a) v σ H Q) (tt := fun σ H Q => ∃ a, a ∈ l ∧ tT K C (ρ1 a) (t a) σ H Q) (te := fun σ H Q => ∃ a, (a ∈ l ∧ t a = true) ∧ tD K C (ρ1 a) (ev a) σ H Q) (vs := vs) (σ := σ) (Qd := fun H => Q (.ref D) H) (fun i H' => Rep K C F PD H' (wipe σ vs) (wipeR ρ vs) ∧ Same (mask P H1) (mask PD H') ∧ Same H1 H' ∧ ∃ acc, H' D = some (.lst acc) ∧ RpL K C (mask PD H') (((l.take i).filter t).map ev) acc)
    ⟨rw0, ms, same_upd hD, [], upd_same, rfl⟩ (fun i H' _ p => p.2.1.trans mask_le) ?_ ?_
  · rintro i x H' H'' hi ⟨rp, sp, s1, acc, hacc, hx⟩ ⟨sy, a, ha, hr⟩
    have ha' := List.mem_of_getElem? ha
    have rp2 := rp.same sy
    refine ⟨a, ha', F, PD, rp2, hr PD rp.trk sp, fun σ2 r3 ew => ⟨ew.trans (wipe_wipe vs), a, ha', F, PD, r3, fun H3 e3 => ?_⟩⟩
    have tk : (l.take (i + 1)).filter t = (l.take i).filter t ++ if t a = true then [a] else [] := by
      rw [List.take_add_one, ha, List.filter_append]
      refine congrArg _ ?_
      cases q : t a with
      | true => simp [q]
      | false => simp [q]
    cases ht : t a with
    | false =>
      refine iteF ⟨rp2.same e3, sp.trans (mask_same (sy.trans e3)), (s1.trans sy).trans e3, acc, e3 _ _ (sy _ _ hacc), ?_⟩
      rw [tk, ht, if_neg Bool.false_ne_true, List.append_nil]
      exact RpL.mono (mask_same (sy.trans e3)) _ _ hx
    | true =>
      refine iteT ⟨a, ⟨ha', ht⟩, F, PD, r3.same e3, fun y H4 e4 hy => ⟨acc, e4 _ _ (e3 _ _ (sy _ _ hacc)), ?_, ?_⟩⟩
      · have z := hx.length
        have z2 := List.length_filter_le t (l.take i)
        rw [List.length_map] at z
        rw [List.length_take] at z2
        omega
      · have s14 := (sy.trans e3).trans e4
        have me : mask PD (upd H4 D (.lst (acc ++ [y]))) = mask PD H4 := mask_upd (.inr rfl)
        refine ⟨((rp.same s14)).upd (.inr rfl) h0 ap0, by rw [me]; exact sp.trans (mask_same s14), fun b o q => ?_, acc ++ [y], upd_same, ?_⟩
        · rw [upd_ne (ne_of_none q hD)]
          exact s14 b o (s1 b o q)
        · rw [tk, ht, if_pos rfl, List.map_append, me]
          exact (RpL.mono (mask_same s14) _ _ hx).append (RpL.one hy)
  · rintro H' ⟨rp, sp, s1, acc, hacc, hx⟩
    rw [List.take_of_length_le (Nat.le_refl _)] at hx
    exact k D acc H' hD0 (e1.trans s1) hacc hx
theorem f_lc {ι : Type} {elt tg iter : Expr} {ifs : List Expr} {scope : Scope} {own : List (Str × Nat)} {pos : Pos} (l : List ι) (en ev : ι → D) (t : ι → Bool) (ρ1 : ι → List Sl) (hc : X.calm = true) (hN : X.N.Nodup) (ok : BlkOk X.N X.env.scope scope own)
    (hi : PI X tg iter (tI X.K C ρ (l.map en)))
    (hg : ∀ (s : Shared) (H : Hp) (B : Addr) (cl : List (Str × Addr)) (fp : List Addr) (a : ι), a ∈ l → PG (X.blk s H scope (compEnvC scope cl B X.env) fp) tg (tG X.K C (own.map (·.2)) (wipeR ρ (own.map (·.2))) (en a) (ρ1 a)))
    (ht : ∀ (s : Shared) (H : Hp) (B : Addr) (cl : List (Str × Addr)) (fp : List Addr) (a : ι), a ∈ l → PTs (X.blk s H scope (compEnvC scope cl B X.env) fp) ifs (tT X.K C (ρ1 a) (t a)))
    (he : ∀ (s : Shared) (H : Hp) (B : Addr) (cl : List (Str × Addr)) (fp : List Addr) (a : ι), (a ∈ l ∧ t a = true) → PE (X.blk s H scope (compEnvC scope cl B X.env) fp) elt (tD X.K C (ρ1 a) (ev a)))
    (hs : ∀ x, foldedSetIterable iter X.env x = pure x := by intro _; rfl) :
    PE X (.ListComp elt [⟨tg, iter, ifs, 0⟩] scope pos) (tF X.K C ρ ((l.filter t).map ev)) :=
  pe_w (pe_lc hc hN hi ok (fun s H B cl fp => pg_fam (hg s H B cl fp)) (fun s H B cl fp => pts_fam (ht s H B cl fp)) (fun s H B cl fp => pe_famP (he s H B cl fp)) hs) fun σ H Q h => lc_data h
/-- all of them -/
theorem f_map {ι : Type} {elt tg iter : Expr} {scope : Scope} {own : List (Str × Nat)} {pos : Pos} (l : List ι) (en ev : ι → D) (ρ1 : ι → List Sl) (hc : X.calm = true) (hN : X.N.Nodup) (ok : BlkOk X.N X.env.scope scope own)
    (hi : PI X tg iter (tI X.K C ρ (l.map en)))
    (hg : ∀ (s : Shared) (H : Hp) (B : Addr) (cl : List (Str × Addr)) (fp : List Addr) (a : ι), a ∈ l → PG (X.blk s H scope (compEnvC scope cl B X.env) fp) tg (tG X.K C (own.map (·.2)) (wipeR ρ (own.map (·.2))) (en a) (ρ1 a)))
    (he : ∀ (s : Shared) (H : Hp) (B : Addr) (cl : List (Str × Addr)) (fp : List Addr) (a : ι), a ∈ l → PE (X.blk s H scope (compEnvC scope cl B X.env) fp) elt (tD X.K C (ρ1 a) (ev a)))
    (hs : ∀ x, foldedSetIterable iter X.env x = pure x := by intro _; rfl) :
    PE X (.ListComp elt [⟨tg, iter, [], 0⟩] scope pos) (tF X.K C ρ (l.map ev)) := by
  have q := f_lc (ifs := []) l en ev (fun _ => true) ρ1 hc hN ok hi hg (fun s H B cl fp a ha => ts_nil) (fun s H B cl fp a ha => he s H B cl fp a ha.1) hs (pos := pos)
  rwa [List.filter_eq_self.mpr fun _ _ => rfl] at q
end
end Fz
/-! The data layer: statements, loops, bodies. -/
namespace Fz
open PySem L2 PyProof.Rows
open PySem.W (Datum DatumOrd Tup T3)
open Enc (enc)

section
variable {X : Cx} {C : Addr} {F : Frm} {ρ ρ1 ρ2 : List Sl} {d : D} {G : VK} {st : Stmt} {rest sts : List Stmt} {e : Expr} {pos : Pos}
/-! ### blocks -/
theorem s_ret (h : PE X e (tD X.K C ρ d)) : PS X (.Return (some e) pos) (tR X.K C F ρ d) :=
  ps_w (ps_ret h) fun D σ H ⟨P, r, k⟩ => ⟨F, P, r, fun v H2 e2 hv => k v H2 ⟨fun a o q n => e2 a o (r.ex a o q n), Rp.mono (mask_less r.le) d v hv⟩⟩
theorem b_stop (h : PS X st (tRG X.K C F ρ G)) : PSs X (st :: rest) (tRG X.K C F ρ G) :=
  pss_w (pss_cons h (pss_never (sts := rest))) fun D σ H ⟨P, r, k⟩ => ⟨P, r, k⟩
theorem b_step (h : PS X st (tN X.K C F ρ ρ1)) (h2 : PSs X rest (tRG X.K C F ρ1 G)) : PSs X (st :: rest) (tRG X.K C F ρ G) :=
  pss_w (pss_cons h h2) fun D σ H ⟨P, r, k⟩ => ⟨P, r, fun P' σ' H' r' _ => ⟨P', r', k⟩⟩
theorem n_step (h : PS X st (tN X.K C F ρ ρ1)) (h2 : PSs X rest (tN X.K C F ρ1 ρ2)) : PSs X (st :: rest) (tN X.K C F ρ ρ2) :=
  pss_w (pss_cons h h2) fun D σ H ⟨P, r, k⟩ => ⟨P, r, fun P' σ' H' r' s' => ⟨P', r', fun P'' σ'' H'' r'' s'' => k P'' σ'' H'' r'' (s'.trans s'')⟩⟩
theorem n_nil : PSs X [] (tN X.K C F ρ ρ) := pss_w pss_nil fun D σ H ⟨P, r, k⟩ => k P σ H r (Same.refl _)
theorem n_one (h : PS X st (tN X.K C F ρ ρ1)) : PSs X [st] (tN X.K C F ρ ρ1) := n_step h n_nil
theorem n_wk (h : PSs X sts (tN X.K C F ρ ρ1)) (w : Wk ρ1 ρ2) : PSs X sts (tN X.K C F ρ ρ2) :=
  pss_w h fun D σ H ⟨P, r, k⟩ => ⟨P, r, fun P' σ' H' r' s' => k P' σ' H' (r'.wk w) s'⟩
theorem n_pre (w : Wk ρ ρ1) (h : PSs X sts (tN X.K C F ρ1 ρ2)) : PSs X sts (tN X.K C F ρ ρ2) :=
  pss_w h fun D σ H ⟨P, r, k⟩ => ⟨P, r.wk w, k⟩
theorem b_pre (w : Wk ρ ρ1) (h : PSs X sts (tRG X.K C F ρ1 G)) : PSs X sts (tRG X.K C F ρ G) :=
  pss_w h fun D σ H ⟨P, r, k⟩ => ⟨P, r.wk w, k⟩
theorem n_fz {l : List D} (i : Nat) (h : PSs X sts (tN X.K C F ρ ρ1)) (hi : ρ1[i]? = some (.own l)) : PSs X sts (tN X.K C F ρ (ρ1.set i (.dat (.lst l)))) :=
  pss_w h fun D σ H ⟨P, r, k⟩ => ⟨P, r, fun P' σ' H' r' s' => by
    obtain ⟨P2, r2, s2⟩ := r'.freeze hi
    exact k P2 σ' H' r2 (s'.trans s2)⟩
theorem b_fz {l : List D} (i : Nat) (hi : ρ[i]? = some (.own l)) (h : PSs X sts (tRG X.K C F (ρ.set i (.dat (.lst l))) G)) : PSs X sts (tRG X.K C F ρ G) :=
  pss_w h fun D σ H ⟨P, r, k⟩ => by
    obtain ⟨P2, r2, s2⟩ := r.freeze hi
    exact ⟨P2, r2, k⟩
theorem n_fzp {l : List D} (i : Nat) (hi : ρ[i]? = some (.own l)) (h : PSs X sts (tN X.K C F (ρ.set i (.dat (.lst l))) ρ1)) : PSs X sts (tN X.K C F ρ ρ1) :=
  pss_w h fun D σ H ⟨P, r, k⟩ => by
    obtain ⟨P2, r2, s2⟩ := r.freeze hi
    exact ⟨P2, r2, fun P' σ' H' r' s' => k P' σ' H' r' (s2.trans s')⟩
/-! ### if -/
variable {c : Expr} {a b : List Stmt}
theorem s_ifT_R (hc : PT X c (tT X.K C ρ true)) (h : PSs X a (tRG X.K C F ρ G)) : PS X (.If c a b pos) (tRG X.K C F ρ G) :=
  ps_w (ps_if hc h (pss_never (sts := b))) fun D σ H ⟨P, r, k⟩ => ⟨F, P, r, fun H2 e2 => iteT ⟨P, r.same e2, k⟩⟩
theorem s_ifF_R (hc : PT X c (tT X.K C ρ false)) (h : PSs X b (tRG X.K C F ρ G)) : PS X (.If c a b pos) (tRG X.K C F ρ G) :=
  ps_w (ps_if hc (pss_never (sts := a)) h) fun D σ H ⟨P, r, k⟩ => ⟨F, P, r, fun H2 e2 => iteF ⟨P, r.same e2, k⟩⟩
theorem s_ifT (hc : PT X c (tT X.K C ρ true)) (h : PSs X a (tN X.K C F ρ ρ1)) : PS X (.If c a b pos) (tN X.K C F ρ ρ1) :=
  ps_w (ps_if hc h (pss_never (sts := b))) fun D σ H ⟨P, r, k⟩ => ⟨F, P, r, fun H2 e2 => iteT ⟨P, r.same e2, fun P' σ' H' r' s' => k P' σ' H' r' ((mask_same e2).trans s')⟩⟩
theorem s_ifF (hc : PT X c (tT X.K C ρ false)) (h : PSs X b (tN X.K C F ρ ρ1)) : PS X (.If c a b pos) (tN X.K C F ρ ρ1) :=
  ps_w (ps_if hc (pss_never (sts := a)) h) fun D σ H ⟨P, r, k⟩ => ⟨F, P, r, fun H2 e2 => iteF ⟨P, r.same e2, fun P' σ' H' r' s' => k P' σ' H' r' ((mask_same e2).trans s')⟩⟩
/-! ### stores -/
theorem s_set {i : Nat} {x : Str} {k : Sl} {p : Pos} (hN : X.N.Nodup) (he : PE X e (tK X.K C ρ k)) (hi : X.N[i]? = some x := by rfl) (hx : Loc X.env.scope x := by first | exact Or.inl rfl | exact Or.inr rfl) (hs : swapsWith e (some (.Name x p)) pos.line X.env = pure false := by rfl)
    (hf : X.fn x = true ∨ X.env.scope.names.lookup x = some .local := by first | exact .inl rfl | exact .inr rfl) : PS X (.Assign [.Name x p] e pos) (tN X.K C F ρ (ρ.set i k)) :=
  ps_w (ps_set hN hi hx he hs hf) fun D σ H ⟨P, r, k⟩ => ⟨F, P, r, fun v P' H' r' x' n h => k P' _ H' (r'.set h (by
    have ap := apart_of r n
    revert ap
    cases ‹Sl› with
    | no => exact fun z => z
    | dat d => exact fun z => z
    | ow l => exact fun z => z
    | ur n => exact fun z => z)) x'.ms⟩
theorem s_drop (he : PE X e (tD X.K C ρ d)) (hs : swapsWith e none pos.line X.env = pure false := by rfl) : PS X (.Expr e pos) (tN X.K C F ρ ρ) :=
  ps_w (ps_expr he hs) fun D σ H ⟨P, r, k⟩ => ⟨F, P, r, fun v H2 e2 hv => k P σ H2 (r.same e2) (mask_same e2)⟩
/-- name = [ .. for .. ] on one line -/
theorem s_lc {ι : Type} {i : Nat} {y : Str} {py spos : Pos} {elt tg iter : Expr} {ifs : List Expr} {scope : Scope} {own : List (Str × Nat)} (l : List ι) (en ev : ι → D) (t : ι → Bool) (ρ1 : ι → List Sl) (hc : X.calm = true) (hN : X.N.Nodup) (ok : BlkOk X.N X.env.scope scope own)
    (hi : PI X tg iter (tI X.K C ρ (l.map en)))
    (hg : ∀ (s : Shared) (H : Hp) (B : Addr) (cl : List (Str × Addr)) (fp : List Addr) (a : ι), a ∈ l → PG (X.blk s H scope (compEnvC scope cl B X.env) fp) tg (tG X.K C (own.map (·.2)) (wipeR ρ (own.map (·.2))) (en a) (ρ1 a)))
    (ht : ∀ (s : Shared) (H : Hp) (B : Addr) (cl : List (Str × Addr)) (fp : List Addr) (a : ι), a ∈ l → PTs (X.blk s H scope (compEnvC scope cl B X.env) fp) ifs (tT X.K C (ρ1 a) (t a)))
    (he : ∀ (s : Shared) (H : Hp) (B : Addr) (cl : List (Str × Addr)) (fp : List Addr) (a : ι), (a ∈ l ∧ t a = true) → PE (X.blk s H scope (compEnvC scope cl B X.env) fp) elt (tD X.K C (ρ1 a) (ev a)))
    (hy : X.N[i]? = some y := by rfl) (hyl : X.env.scope.names.lookup y = some .local := by rfl) (hsw : swapsWith (.ListComp elt [⟨tg, iter, ifs, 0⟩] scope pos) (some (.Name y py)) spos.line X.env = pure true := by exact sw_true rfl rfl rfl rfl)
    (hs : ∀ x, foldedSetIterable iter X.env x = pure x := by intro _; rfl) :
    PS X (.Assign [.Name y py] (.ListComp elt [⟨tg, iter, ifs, 0⟩] scope pos) spos) (tN X.K C F ρ (ρ.set i (.own ((l.filter t).map ev)))) :=
  ps_w (ps_setLc hc hN hy hyl hsw hi ok (fun s H B cl fp => pg_fam (hg s H B cl fp)) (fun s H B cl fp => pts_fam (ht s H B cl fp)) (fun s H B cl fp => pe_famP (he s H B cl fp)) hs) fun D σ H ⟨P, r, k⟩ =>
    lc_data (Q := fun x H1 => gName i x σ H1 D.nx) ⟨F, P, r, fun p xs H2 hp e2 h2 hx => by
      obtain ⟨r2, h0, ms⟩ := r.new e2 hp ⟨_, h2⟩
      exact k _ _ H2 (r2.set (k := .own ((l.filter t).map ev)) ⟨p, rfl, .inr rfl, h0, xs, h2, hx⟩ (apart_new (k := .own []) r hp)) ms⟩
/-- two stores -/
theorem tK2 {K : PySem.W.Frag} {k1 k2 : Sl} {σ : L2.St} {H : Hp} {Q : V → V → Hp → Prop} {P : Addr → Prop} (r : Rep K C F P H σ ρ) (k : ∀ v w P' H', Rep K C F P' H' σ ρ → Ext P H P' H' → NewIn H v k1 → Hold K C F P' H' v k1 → NewIn H w k2 → Hold K C F P' H' w k2 → (∀ p, v = .ref p → w = .ref p → (∃ l, k2 = .ow l) ∨ (∃ n, k2 = .ur n) → (∃ l, k1 = .ow l) ∨ (∃ n, k1 = .ur n) → False) → Q v w H') :
    tK K C ρ k1 σ H fun v H1 => tK K C ρ k2 σ H1 fun w H2 => Q v w H2 :=
  ⟨F, P, r, fun v P1 H1 r1 x1 n1 h1 => ⟨F, P1, r1, fun w P2 H2 r2 x2 n2 h2 => k v w P2 H2 r2 (x1.trans x2) n1 (h1.ext x2) (by
    cases k2 with
    | no => trivial
    | dat d => trivial
    | ow l => exact fun p e => x1.sm.free (n2 p e)
    | ur m => exact fun p e => x1.sm.free (n2 p e)) h2 fun p ev ew hk2 hk1 => by
      have hn : H1 p = none := by
        rcases hk2 with ⟨l, rfl⟩ | ⟨m, rfl⟩
        · exact n2 p ew
        · exact n2 p ew
      rcases hk1 with ⟨l, rfl⟩ | ⟨m, rfl⟩
      · obtain ⟨q, e1, _, _, e2⟩ := h1
        rw [ev] at e1
        cases e1
        obtain ⟨o, e2⟩ := l.live e2
        rw [hn] at e2
        cases e2
      · obtain ⟨q, e1, _, e2⟩ := h1
        rw [ev] at e1
        cases e1
        obtain ⟨o, e2⟩ := m.live e2
        rw [hn] at e2
        cases e2⟩⟩
theorem apart_set {K : PySem.W.Frag} {P : Addr → Prop} {H : Hp} {σ : L2.St} {i : Nat} {v w : V} {k1 k2 : Sl} (h : Apart σ ρ w k2) (n : ∀ p, v = .ref p → w = .ref p → (∃ l, k2 = .ow l) ∨ (∃ n, k2 = .ur n) → (∃ l, k1 = .ow l) ∨ (∃ n, k1 = .ur n) → False) (hl : ρ.length = σ.length) : Apart (σ.set i (some v)) (ρ.set i k1) w k2 := by
  have key : ((∃ l, k2 = .ow l) ∨ ∃ n, k2 = .ur n) → (∀ (j : Nat) p, w = .ref p → IsOwn ρ j → σ[j]? = some (some (.ref p)) → False) → ∀ (j : Nat) p, w = .ref p → IsOwn (ρ.set i k1) j → (σ.set i (some v))[j]? = some (some (.ref p)) → False := fun hk g j p e hj hs => by
    rcases own_set hj with ⟨z, hl2, kk⟩ | ⟨z, q⟩
    · subst z
      rw [List.getElem?_set_self (by rw [← hl]; exact hl2)] at hs
      exact n p (Option.some.inj (Option.some.inj hs)) e hk kk
    · rw [List.getElem?_set_ne z] at hs
      exact g j p e q hs
  cases k2 with
  | no => trivial
  | dat d => trivial
  | ow l => exact key (.inl ⟨l, rfl⟩) h
  | ur m => exact key (.inr ⟨m, rfl⟩) h
theorem s_par {i j : Nat} {x y : Str} {e1 e2 : Expr} {k1 k2 : Sl} {px py pt : Pos} {kt kt2 : Nat} {pt2 : Pos} (hc : X.calm = true) (hN : X.N.Nodup) (h1 : PE X e1 (tK X.K C ρ k1)) (h2 : PE X e2 (tK X.K C ρ k2)) (hij : i ≠ j := by decide)
    (hi : X.N[i]? = some x := by rfl) (hj : X.N[j]? = some y := by rfl) (hx : X.env.scope.names.lookup x = some .local := by rfl) (hy : X.env.scope.names.lookup y = some .local := by rfl)
    (hw : swappedStores [.Tuple [.Name x px, .Name y py] kt pt] (.Tuple [e1, e2] kt2 pt2) X.env = pure (some [x, y]) := by rfl)
    (hs : swapsWithSole [.Tuple [.Name x px, .Name y py] kt pt] (.Tuple [e1, e2] kt2 pt2) pos.line X.env = pure false := by rfl)
    (ha1 : starEach [e1, e2] X.env = (false, eval e1 X.env) :: starEach [e2] X.env := by rfl) (ha2 : starEach [e2] X.env = (false, eval e2 X.env) :: starEach [] X.env := by rfl) :
    PS X (.Assign [.Tuple [.Name x px, .Name y py] kt pt] (.Tuple [e1, e2] kt2 pt2) pos) (tN X.K C F ρ ((ρ.set i k1).set j k2)) :=
  ps_w (ps_par hc hN hi hj hij hx hy (pa_cons h1 (pa_cons h2 pa_nil ha2) ha1) hw hs) fun D σ H ⟨P, r, k⟩ => by
    refine tK2 (Q := fun v w H' => ∃ v1 w1, [v, w] = [v1, w1] ∧ D.nx ((σ.set i (some v1)).set j (some w1)) H') r fun v w P' H' r' x' n1 h1 n2 h2 nn => ⟨v, w, rfl, ?_⟩
    have r1 := r'.set (i := i) h1 (apart_of r n1)
    exact k P' _ H' (r1.set (i := j) h2 (apart_set (K := X.K) (P := P) (H := H) (apart_of r n2) nn r'.len)) x'.ms
theorem s_tup {es1 : List Expr} {tg : Expr} {ρ1 : List Sl} {vs : List Nat} (he : PE X e (tD X.K C ρ d)) (hg : PG X tg (tG X.K C vs ρ d ρ1)) (hs : swapsWithSole [tg] e pos.line X.env = pure false := by rfl) (hw : swappedStores [tg] e X.env = pure none := by rfl)
    (h1 : (assignEach [tg] X.env).map (·.2) = [assign tg X.env] := by rfl) : PS X (.Assign [tg] e pos) (tN X.K C F ρ ρ1) :=
  ps_w (ps_asg he hg hs hw h1) fun D σ H ⟨P, r, k⟩ => ⟨F, P, r, fun v H2 e2 hv => ⟨F, P, r.same e2, hv, fun σ' r' _ => k P σ' H2 r' (mask_same e2)⟩⟩
/-- x.append(e) -/
theorem s_app {i : Nat} {x : Str} {l : List D} {p ap cp : Pos} (hl : ρ[i]? = some (.own l)) (hz : l.length < sizeLine) (he : PE X e (tD X.K C ρ d)) (hN : X.N[i]? = some x := by rfl) (hv : Vis X.env.scope x := by first | exact Or.inl rfl | exact Or.inr (Or.inl rfl) | exact Or.inr (Or.inr rfl))
    (hd : (x == ("__debug__" : Str)) = false := by decide) (hcd : (x == ("__classdict__" : Str)) = false := by decide)
    (hbase : attributeBase (.Name x p) "append" X.env (eval (.Name x p) X.env) = eval (.Name x p) X.env := by rfl)
    (hfew : ((backTo cp (starEach [e] X.env)).all (fun x => !x.1) && (backToKw cp (keywordEach [] X.env)).all (fun x => x.1.isSome) && decide ([e].length + ([] : List Keyword).length + (if ([] : List Keyword).isEmpty then 0 else 1) < 30)) = true := by rfl)
    (hline : (ap.endLine == cp.line) = true := by rfl) (hs : starEach [e] X.env = (false, eval e X.env) :: starEach [] X.env := by rfl) (hplain : (backTo cp (starEach [] X.env)).any (·.1) = false := by rfl)
    (hsw : swapsWith (.Call (.Attribute (.Name x p) "append" ap) [e] [] cp) none pos.line X.env = pure false := by rfl) :
    PS X (.Expr (.Call (.Attribute (.Name x p) "append" ap) [e] [] cp) pos) (tN X.K C F ρ (ρ.set i (.own (l ++ [d])))) :=
  ps_w (ps_expr (pe_bm PySem.F.plainAttrs_list PySem.F.slot_list_append PySem.F.type_list_append mt_append (pe_var hN hv hd hcd) (pa_cons he pa_nil hs) hbase hfew hline hs hplain) hsw) fun D σ H ⟨P, r, k⟩ => by
    obtain ⟨q, h1, h2, h3, xs, h4, h5⟩ := r.own i (phL l) hl
    refine ⟨.ref q, h1, .inl ⟨rfl, xs, SqL.of h4⟩, F, P, r, fun y H2 e2 hy => ?_⟩
    have hx2 := (RpL.mono (mask_same e2) _ _ h5).append (RpL.one hy)
    obtain ⟨r3, s3⟩ := (r.same e2).reown (i := i) (l' := l ++ [d]) hl h1 hx2
    refine ⟨q, xs, y, rfl, rfl, e2 _ _ h4, by rw [h5.length]; exact hz, k P σ _ r3 ((mask_same e2).trans s3)⟩
end

/-! ### loops -/
section
variable {X : Cx} {C : Addr} {F : Frm} {pos : Pos} {ι S : Type}
theorem pss_famP {κ : Type} {sts : List Stmt} {t : κ → TS} {p : κ → Prop} (h : ∀ i, p i → PSs X sts (t i)) : PSs X sts (fun D σ H => ∃ i, p i ∧ t i D σ H) := ⟨fun pins s σ H D I ⟨i, hi, q⟩ => (h i hi).run pins s σ H D I q⟩
theorem foldl_take {l : List ι} {step : S → ι → S} {s0 : S} {i : Nat} {a : ι} (h : l[i]? = some a) : (l.take (i + 1)).foldl step s0 = step ((l.take i).foldl step s0) a := by
  rw [List.take_add_one, h, List.foldl_append]
  rfl
theorem s_for {tg iter : Expr} {body : List Stmt} {vs : List Nat} (l : List ι) (en : ι → D) (step : S → ι → S) (Good : Nat → S → Prop) (ρf : S → List Sl) (ρm : S → ι → List Sl) (s0 : S) (hp : PassesOwn (model X.prog X.w) X.A X.env X.xe) (hc : X.calm = true) (h0 : Good 0 s0) (hG : ∀ i s a, l[i]? = some a → Good i s → Good (i + 1) (step s a))
    (hi : PI X tg iter (tI X.K C (ρf s0) (l.map en)))
    (hg : ∀ i s a, l[i]? = some a → Good i s → PG X tg (tG X.K C vs (ρf s) (en a) (ρm s a)))
    (hb : ∀ i s a, l[i]? = some a → Good i s → PSs X body (tN X.K C F (ρm s a) (ρf (step s a))))
    (hs : ∀ x, foldedSetIterable iter X.env x = pure x := by intro _; rfl) : PS X (.For tg iter body [] pos) (tN X.K C F (ρf s0) (ρf (l.foldl step s0))) := by
  have good : ∀ i, i ≤ l.length → Good i ((l.take i).foldl step s0) := by
    intro i
    induction i with
    | zero => intro _; exact h0
    | succ i ih =>
      intro hi
      have hlt : i < l.length := hi
      have e : l[i]? = some l[i] := by simp [hlt]
      rw [foldl_take e]
      exact hG i _ _ e (ih (Nat.le_of_lt hlt))
  refine ps_w (ps_for hp hc hi (g := fun v σ H Q => ∃ q : Nat × S × ι, (l[q.1]? = some q.2.2 ∧ Good q.1 q.2.1) ∧ tG X.K C vs (ρf q.2.1) (en q.2.2) (ρm q.2.1 q.2.2) v σ H Q) (tb := fun D σ H => ∃ q : Nat × S × ι, (l[q.1]? = some q.2.2 ∧ Good q.1 q.2.1) ∧ tN X.K C F (ρm q.2.1 q.2.2) (ρf (step q.2.1 q.2.2)) D σ H) (pg_fam fun q h => hg q.1 q.2.1 q.2.2 h.1 h.2) (pss_famP fun q h => hb q.1 q.2.1 q.2.2 h.1 h.2) hs) fun D σ H ⟨P, r, k⟩ => ?_
  refine ⟨F, P, r, fun J H1 e1 w => ?_⟩
  have hl : (l.map en).length = l.length := List.length_map ..
  have wk : Walk J l.length (Same (mask P H1)) (fun i H x H' => Same H H' ∧ ∃ a, l[i]? = some a ∧ ∀ P', Trk P' H → Same (mask P H1) (mask P' H) → Rp X.K C (mask P' H') (en a) x) := by
    refine ⟨fun i H' hi sm => w.goes i H' (by rw [hl]; exact hi) sm, fun H' sm => by rw [← hl]; exact w.stops H' sm, fun i H' x H'' hi sm y => ?_⟩
    obtain ⟨s1, d, hd, hr⟩ := w.yields i H' x H'' (by rw [hl]; exact hi) sm y
    rw [List.getElem?_map] at hd
    cases q : l[i]? with
    | none => rw [q] at hd; cases hd
    | some a =>
      rw [q] at hd
      have hd := Option.some.inj hd
      subst hd
      exact ⟨s1, a, rfl, hr⟩
  refine for_it wk (g := fun v σ H Q => ∃ q : Nat × S × ι, (l[q.1]? = some q.2.2 ∧ Good q.1 q.2.1) ∧ tG X.K C vs (ρf q.2.1) (en q.2.2) (ρm q.2.1 q.2.2) v σ H Q) (tb := fun D σ H => ∃ q : Nat × S × ι, (l[q.1]? = some q.2.2 ∧ Good q.1 q.2.1) ∧ tN X.K C F (ρm q.2.1 q.2.2) (ρf (step q.2.1 q.2.2)) D σ H) (fun i σ H => ∃ P', Rep X.K C F P' H σ (ρf ((l.take i).foldl step s0)) ∧ Same (mask P H1) (mask P' H)) ⟨P, r.same e1, Same.refl _⟩ (fun i σ H _ p => let ⟨_, _, s⟩ := p; s.trans mask_le) ?_ ?_
  · rintro i x σ' H' H'' hi ⟨P', r', s'⟩ ⟨sy, a, ha, hr⟩
    have g := good i (Nat.le_of_lt hi)
    refine ⟨⟨i, _, a⟩, ⟨ha, g⟩, F, P', r'.same sy, hr P' r'.trk s', fun σ2 r2 _ => ⟨⟨i, _, a⟩, ⟨ha, g⟩, P', r2, fun P3 σ3 H3 r3 s3 => ⟨P3, ?_, (s'.trans (mask_same sy)).trans s3⟩⟩⟩
    rw [foldl_take ha]
    exact r3
  · rintro σ' H' ⟨P', r', s'⟩
    rw [List.take_of_length_le (Nat.le_refl _)] at r'
    exact k P' σ' H' r' ((mask_same e1).trans s')
/-- so many turns of a while -/
inductive Lps (c : S → Bool) (step : S → S) : Nat → S → S → Prop
  | stop {s : S} : c s = false → Lps c step 0 s s
  | go {n : Nat} {s s' : S} : c s = true → Lps c step n (step s) s' → Lps c step (n + 1) s s'
theorem s_while {ce : Expr} {body : List Stmt} (c : S → Bool) (step : S → S) (Good : S → Prop) (ρf : S → List Sl) {n : Nat} {s0 s1 : S} (hp : PassesOwn (model X.prog X.w) X.A X.env X.xe) (h0 : Good s0) (hG : ∀ s, Good s → c s = true → Good (step s))
    (hc : ∀ s, Good s → PT X ce (tT X.K C (ρf s) (c s))) (hb : ∀ s, Good s → c s = true → PSs X body (tN X.K C F (ρf s) (ρf (step s)))) (hl : Lps c step n s0 s1) : PS X (.While ce body [] pos) (tN X.K C F (ρf s0) (ρf s1)) := by
  refine ps_w (ps_while hp (tc := fun σ H Q => ∃ s, tT X.K C (ρf s.1) (c s.1) σ H Q) (tb := fun D σ H => ∃ s, (Good s ∧ c s = true) ∧ tN X.K C F (ρf s) (ρf (step s)) D σ H) (pt_fam fun s : { s : S // Good s } => hc s.1 s.2) (pss_famP fun s h => hb s h.1 h.2)) fun D σ H ⟨P, r, k⟩ => ?_
  refine ⟨fun m σ' H' => ∃ s P', Lps c step m s s1 ∧ Good s ∧ Rep X.K C F P' H' σ' (ρf s) ∧ Same (mask P H) (mask P' H'), ⟨n, s0, P, hl, h0, r, Same.refl _⟩, ?_⟩
  rintro m σ' H' ⟨s, P', hl', g, r', s'⟩
  refine ⟨⟨s, g⟩, F, P', r', fun H2 e2 => ?_⟩
  cases hl' with
  | stop hcs =>
    rw [hcs]
    exact iteF (k P' σ' H2 (r'.same e2) (s'.trans (mask_same e2)))
  | go hcs hl2 =>
    rename_i n'
    rw [hcs]
    exact iteT ⟨fun σ3 H3 => ∃ P3, Rep X.K C F P3 H3 σ3 (ρf (step s)) ∧ Same (mask P H) (mask P3 H3), fun σ3 H3 ⟨P3, r3, s3⟩ => ⟨n', Nat.lt_succ_self _, step s, P3, hl2, hG s g hcs, r3, s3⟩, s, ⟨g, hcs⟩, P', r'.same e2, fun P3 σ3 H3 r3 s3 => ⟨P3, r3, (s'.trans (mask_same e2)).trans s3⟩⟩
end

/-! ### bodies -/
theorem rep_start {K : PySem.W.Frag} {C : Addr} {P : Addr → Prop} {H : Hp} {N : List Str} {vs : List V} {ds : List D} (t : Trk P H) (h : RpL K C (mask P H) ds vs) (hl : vs.length ≤ N.length) :
    Rep K C ⟨P, H, fun _ => False⟩ P H (L2.start N vs) (ds.map Sl.dat ++ List.replicate (N.length - ds.length) Sl.no) := by
  have e := h.length
  have no : ∀ {i : Nat} {s}, (ds.map Sl.dat ++ List.replicate (N.length - ds.length) Sl.no)[i]? = some s → s = .no ∨ ∃ d, ds[i]? = some d ∧ s = .dat d := fun {i s} q => by
    by_cases hi : i < ds.length
    · rw [List.getElem?_append_left (by simpa using hi), List.getElem?_map] at q
      cases z : ds[i]? with
      | none => rw [z] at q; cases q
      | some d =>
        rw [z] at q
        exact .inr ⟨d, rfl, (Option.some.inj q).symm⟩
    · rw [List.getElem?_append_right (by simpa using hi), List.getElem?_replicate] at q
      split at q
      · exact .inl (Option.some.inj q).symm
      · cases q
  have nown : ∀ {i : Nat}, ¬ IsOwn (ds.map Sl.dat ++ List.replicate (N.length - ds.length) Sl.no) i := fun {i} q => by
    rcases q with ⟨l, q⟩ | ⟨k, q⟩
    · rcases no q with z | ⟨d, _, z⟩
      · cases z
      · cases z
    · rcases no q with z | ⟨d, _, z⟩
      · cases z
      · cases z
  refine ⟨fun a z => z.elim, t, fun a z => z, fun a z => .inl z, fun a o q _ => q, t, fun i d q => ?_, fun i l q => (nown (.inl ⟨l, q⟩)).elim, fun i k q => (nown (.inr ⟨k, q⟩)).elim, fun i j p hi => (nown hi).elim, ?_⟩
  · rcases no q with z | ⟨d', h1, h2⟩
    · cases z
    · cases h2
      obtain ⟨x, h3, h4⟩ := h.get h1
      refine ⟨x, ?_, h4⟩
      unfold L2.start
      have hi := (List.getElem?_eq_some_iff.mp h3).1
      rw [List.getElem?_append_left (by simpa using hi), List.getElem?_map, h3]
      rfl
  · unfold L2.start
    simp
    omega
section
variable {P : Program} {w : World} {K : PySem.W.Frag} {mg : Str → Option Value} {base : Heap} {x qual : Str} {params : Arguments} {body : List Stmt} {scope : Scope} {dvs : List V} {kws : List (Str × V)} {f : Addr} {fd : FuncData} {C : Addr}
theorem ps_le {N ps : List Str} {sc : Scope} (S : FnScope N ps sc) : ps.length ≤ N.length := by
  have := congrArg List.length S.pre
  rw [List.length_take] at this
  omega
/-- THE RULE for a def that hands data back -/
theorem fn_data {N ps : List Str} {k : Nat} {g : List D → D → Prop} (Fd : FunD K x qual params body scope dvs kws f fd) (S : FnScope N ps scope) (len : ∀ ds d, g ds d → ds.length = ps.length)
    (hb : ∀ (cdv : Value) (A : Around) (outer : List Env) (s : Shared) (H : Hp) (E : XK), Room k (A.deeper (envOfC qual scope s.heap.objs.size f cdv)) → ∀ ds d, g ds d → ∀ Fr, PSs (cxOf CX0 P w K mg base N qual scope f cdv A outer s H E).nox body (tR K C Fr (ds.map Sl.dat ++ List.replicate (N.length - ps.length) Sl.no) d)) :
    FnOk P w K mg base CX0 (k + 1) f fd ps (spD K C g) := by
  refine Fd.ok S (fun vs H Q E ⟨Pm, ds, d, t, h, hg, q⟩ => by rw [h.length]; exact len ds d hg) fun cdv A outer s H vs Q E hr ⟨Pm, ds, d, t, h, hg, q⟩ => ⟨_, PSs.nox (hb cdv A outer s H E hr ds d hg ⟨Pm, H, fun _ => False⟩), Pm, ?_, fun v H' ⟨hx, hv⟩ => q v H' (fun a o e => hx a o e fun z => z) hv⟩
  have hl := len ds d hg
  rw [← hl]
  exact rep_start t h (by rw [h.length, hl]; exact ps_le S)
/-- .. that ends without a return -/
theorem fn_none {N ps : List Str} {k : Nat} {g : List D → D → Prop} (Fd : FunD K x qual params body scope dvs kws f fd) (S : FnScope N ps scope) (len : ∀ ds d, g ds d → ds.length = ps.length ∧ d = .non)
    (hb : ∀ (cdv : Value) (A : Around) (outer : List Env) (s : Shared) (H : Hp) (E : XK), Room k (A.deeper (envOfC qual scope s.heap.objs.size f cdv)) → ∀ ds d, g ds d → ∀ Fr, ∃ ρ', PSs (cxOf CX0 P w K mg base N qual scope f cdv A outer s H E).nox body (tN K C Fr (ds.map Sl.dat ++ List.replicate (N.length - ps.length) Sl.no) ρ')) :
    FnOk P w K mg base CX0 (k + 1) f fd ps (spD K C g) := by
  refine Fd.ok S (fun vs H Q E ⟨Pm, ds, d, t, h, hg, q⟩ => by rw [h.length]; exact (len ds d hg).1) fun cdv A outer s H vs Q E hr ⟨Pm, ds, d, t, h, hg, q⟩ => ?_
  obtain ⟨ρ', hp⟩ := hb cdv A outer s H E hr ds d hg ⟨Pm, H, fun _ => False⟩
  obtain ⟨hl, hd⟩ := len ds d hg
  subst hd
  refine ⟨_, PSs.nox hp, Pm, ?_, fun P' σ' H' r' s' => q .non H' (fun a o e => r'.ex a o e fun z => z) rfl⟩
  rw [← hl]
  exact rep_start t h (by rw [h.length, hl]; exact ps_le S)
end
end Fz
/-! The data layer: enumerate, zip, two clauses. -/
namespace Fz
open PySem L2 PyProof PyProof.Rows PySem.Spec
open PySem.W (Datum DatumOrd Tup T3)
open Enc (enc)

section
variable {K : PySem.W.Frag} {C : Addr}
theorem rp_newT {P : Addr → Prop} {H : Hp} {T : Addr} {ds : List D} {xs : List V} (t : Trk P H) (hn : H T = none) (h : RpL K C (mask P H) ds xs) : Rp K C (mask P (upd H T (.tup xs))) (.tup ds) (.ref T) := by
  refine ⟨T, xs, rfl, SqT.of ?_, RpL.mono (mask_same (same_upd hn)) _ _ h⟩
  rw [mask_at (t.new hn), upd_same]
theorem rp_pair {H : Hp} {d d' : D} {x y : V} (h1 : Rp K C H d x) (h2 : Rp K C H d' y) : RpL K C H [d, d'] [x, y] := ⟨x, [y], rfl, h1, y, [], rfl, h2, rfl⟩
end

/-! ### enumerate(tuple) -/
set_option maxHeartbeats 1000000 in
theorem meets_enumerate_newT (a : Addr) (items : Array Value) :
    Meets (Builtin.«enumerate.__new__» ⟨[.type "enumerate", .ref a], []⟩) (fun _ R s => s.heap.IsTuple a items ∧
      R (.ok (.ret (.ref (s.heap.push { cls := .type "tuple_iterator", data := .fields #[.ref a, .int 0 0] }).objs.size)))
        { s with heap := (s.heap.push { cls := .type "tuple_iterator", data := .fields #[.ref a, .int 0 0] }).push { cls := .type "enumerate", data := .fields #[.none, .bool false, .ref s.heap.objs.size, rawInt 0, .none, .none] } }) :=
  .of_wp fun prog w A R s h => by
    obtain ⟨hp, g, d, tk, os⟩ := s
    obtain ⟨h1, h⟩ := h
    have hsub := sub_enumerate
    have q1 : ∀ {A' : Around} {E : Value → Shared → Prop} {Q : Value → Shared → Prop}, Q (.ref hp.objs.size) ⟨hp.push { cls := .type "tuple_iterator", data := .fields #[.ref a, .int 0 0] }, g, d, tk, os⟩ → wpAny (model prog w) A' (pyIter (.ref a)) Q E ⟨hp, g, d, tk, os⟩ :=
      fun q => (begins_tuple a items).iter prog w _ _ ⟨hp, g, d, tk, os⟩ _ h1 q
    wp_walk using q1
    refine wpAny_stack_any fun st => wpAny_pure ?_
    split
    · rename_i c _ _ _ _ _
      cases (c == Value.type "enumerate")
      · wp_walk using q1
        exact ⟨_, rfl, h⟩
      · wp_walk using q1
        exact ⟨_, rfl, h⟩
    · wp_walk using q1
      exact ⟨_, rfl, h⟩
theorem call_enumerate_tup {prog : Program} {w : World} {A : Around} {E : Value → Shared → Prop} {s : Shared} {l : Addr} {items : Array Value} {Q : Value → Shared → Prop} (hL : s.heap.IsTuple l items)
    (h : ∀ h', IsEnum h' (s.heap.objs.size + 1) s.heap.objs.size 0 .none → h'.IsTupleIter s.heap.objs.size l 0 → h'.objs.size = s.heap.objs.size + 2 →
      (∀ b o, s.heap.get? b = some o → h'.get? b = some o) → Q (.ref (s.heap.objs.size + 1)) { s with heap := h' }) :
    wpAny (model prog w) A (call (.type "enumerate") [.ref l]) Q E s := by
  refine callType_new F.called_enumerate (by decide) (F.typeCall_enumerate_1 _) (F.newCall_enumerate_1 _) (fun obj => F.args_object_init_2 obj _) F.entry_enumerate_new
    (meets_enumerate_newT l items) ⟨hL, ?_⟩
  have hz : (s.heap.push { cls := .type "tuple_iterator", data := .fields #[.ref l, .int 0 0] }).objs.size = s.heap.objs.size + 1 := Heap.size_push ..
  show _ ∧ _
  rw [hz]
  have he : IsEnum ((s.heap.push { cls := .type "tuple_iterator", data := .fields #[.ref l, .int 0 0] }).push { cls := .type "enumerate", data := .fields #[.none, .bool false, .ref s.heap.objs.size, rawInt 0, .none, .none] }) (s.heap.objs.size + 1) s.heap.objs.size 0 .none := by
    have := Heap.get?_push_size (s.heap.push { cls := .type "tuple_iterator", data := .fields #[.ref l, .int 0 0] }) (o := { cls := .type "enumerate", data := .fields #[.none, .bool false, .ref s.heap.objs.size, rawInt 0, .none, .none] }) rfl
    rw [hz] at this; exact this
  refine ⟨⟨_, he, rfl⟩, h _ he ⟨_, Heap.get?_push_of_some _ (Heap.get?_push_size _ rfl), rfl, rfl⟩ (by rw [Heap.size_push, hz]) fun b o x => Heap.get?_push_of_some _ (Heap.get?_push_of_some _ x)⟩
def IteT (K : PySem.W.Frag) (a : Addr) : It :=
  ⟨fun i H => ∃ (xs : List V) (x : V), SqT K H a xs ∧ xs[i]? = some x, fun i H v H' => ∃ T x, v = .ref T ∧ H T = none ∧ H' = upd H T (.tup [.int (i : Nat), x]) ∧ ∀ xs, SqT K H a xs → xs[i]? = some x, fun i H => ∃ xs : List V, SqT K H a xs ∧ xs.length ≤ i⟩
theorem turn_enumT {P : Program} {w : World} {K : PySem.W.Frag} {elts : List Expr} {kk : Nat} {tpos : Pos} (a e it : Addr) :
    Turn P w K (.Tuple elts kk tpos) (IteT K a) [e, it] e (fun i h => (∃ old, IsEnum h e it ((i : Nat) : Int) old) ∧ h.IsTupleIter it a i ∧ e ≠ it) where
  mem := by simp
  obj := fun i h st b hb => by
    obtain ⟨⟨old, he⟩, ⟨o, ho, hc, hd⟩, _⟩ := st
    have e' : b = e ∨ b = it := by simpa using hb
    rcases e' with z | z
    · rw [z]; exact ⟨_, he, fun v q => nomatch q⟩
    · rw [z]; exact ⟨o, ho, fun v q => by rw [hd] at q; cases q⟩
  keep := fun i h h' st k => let ⟨⟨old, he⟩, hi, hne⟩ := st; ⟨⟨old, k e (by simp) _ he⟩, hi.at fun o q => k it (by simp) o q, hne⟩
  item := by
    intro X hP hw hK hc i pins s σ H E I hf st hg
    subst hP hw hK
    obtain ⟨⟨old, he⟩, hit, hne⟩ := st
    obtain ⟨xs, x, hq, hx⟩ := hg
    obtain ⟨its, rv, p, hz⟩ := I.tuple hq
    obtain ⟨u, hu, ru⟩ := rv.get hx
    have hel : e < s.heap.objs.size := Heap.lt_size he
    have hil : it < s.heap.objs.size := by obtain ⟨_, q, _⟩ := hit; exact Heap.lt_size q
    have ha1 : a ≠ it := fun z => by
      obtain ⟨o, e1, c1, _⟩ := hit
      obtain ⟨o2, e2, c2, _⟩ := p
      rw [z, e1] at e2
      cases e2
      rw [c1] at c2
      exact absurd c2 (by simp)
    have ha2 : a ≠ e := fun z => by
      obtain ⟨o2, e2, c2, _⟩ := p
      have he' : s.heap.get? e = some _ := he
      rw [z, he'] at e2
      cases e2
      exact absurd c2 (by simp)
    have hp : s.heap.IsTuple a its.toArray := p
    have hlt : i < its.toArray.size := by
      have z := (List.getElem?_eq_some_iff.mp hu).1
      simpa using z
    refine wpAny_pyNext_enum_itemD (Draws.tuple (prog := X.prog) (w := X.w) (A := X.A.in1) (show X.A.in1.handled = none from I.ok.hd hc) it a ha1 its.toArray) he ⟨hit, hp⟩ hlt hne (by simp [hne, Ne.symm ha2]) fun y h' tk hy ho st' hT hsz hk => ?_
    have ey : y = u := by
      have hy : its.toArray[i]? = some y := hy
      have hu' : its.toArray[i]? = some u := by simpa using hu
      rw [hu'] at hy
      exact (Option.some.inj hy).symm
    subst ey
    refine ⟨_, rfl, wpAny_letOwnedTupleGo_enum (s := { s with heap := h', toks := tk + 1 }) ho fun h'' he' sb => ?_⟩
    have hT2 : h''.get? s.heap.objs.size = some { cls := .type "tuple", data := .seq #[.int i tk, y] } := (sb.2 _ (Nat.ne_of_gt hel)).trans hT
    have new : ObjOk X.prog X.w (upd H s.heap.objs.size (.tup [.int (i : Nat), x])) h'' s.heap.objs.size (.tup [.int (i : Nat), x]) :=
      ⟨by show 2 ≤ sizeLine; decide, [.int i tk, y], .cons ⟨_, rfl⟩ (.cons ru .nil), ⟨_, hT2, rfl, _, rfl⟩⟩
    have I1 : Inv X pins σ (upd H s.heap.objs.size (.tup [.int (i : Nat), x])) { s with heap := h'', toks := tk + 1 } :=
      I.turnedNew (ch := [e, it]) (fun b ob hb q => (sb.2 b (fun z => hb (by simp [z]))).trans (hk b ob (fun z => hb (by simp [z])) (fun z => hb (by simp [z])) q)) hf (Nat.le_refl _) new
    refine ⟨.ref s.heap.objs.size, _, I1, rfl, ⟨_, x, rfl, I.hok.fresh (Nat.le_refl _), rfl, fun ys hy => by rw [I.tuple_inj hy hq]; exact hx⟩, ⟨⟨y, ?_⟩, st'.1.at fun o q => (sb.2 it (Ne.symm hne)).trans q, hne⟩, fun b hb => ?_⟩
    · have e1 : ((i + 1 : Nat) : Int) = (i : Int) + 1 := by omega
      rw [e1]; exact he'
    · have hb' : b < s.heap.objs.size := by
        have e' : b = e ∨ b = it := by simpa using hb
        rcases e' with z | z
        · rw [z]; exact hel
        · rw [z]; exact hil
      rw [upd_ne (Nat.ne_of_lt hb')]
      exact (hf b hb).1
  done := by
    intro X hP hw hK hc i pins s σ H E I hf st hg
    subst hP hw hK
    obtain ⟨⟨old, he⟩, hit, hne⟩ := st
    obtain ⟨xs, hq, hx⟩ := hg
    obtain ⟨its, rv, p, hz⟩ := I.tuple hq
    obtain ⟨f0, f1, f2, f3, f4, f5⟩ := hf it (by simp)
    have hl := rv.length
    have ha1 : a ≠ it := fun z => by
      obtain ⟨o, e1, c1, _⟩ := hit
      obtain ⟨o2, e2, c2, _⟩ := p
      rw [z, e1] at e2
      cases e2
      rw [c1] at c2
      exact absurd c2 (by simp)
    have hp : s.heap.IsTuple a its.toArray := p
    have hT : s.TypeIs (.ref e) "enumerate" := ⟨_, he, rfl⟩
    unfold pyNext
    refine wpAny_bind (wpAny_attempt (wpAny_callSpecial?_slot (name := Str.ofString "__next__") hT F.slot_enumerate_next
      (wpAny_call_entry F.slot_enumerate_next hT F.entry_enumerate_next ?_ (F.args_enumerate_next_1 _))))
    show wpAny _ _ (field (.ref e) 2 >>= _) _ _ _
    refine wpAny_bind (wpAny_field he rfl (x := .ref it) rfl ?_)
    refine wpAny_bind (wpAny_nextOf_tuple_end (I.ok.hd hc) hit hp (by simp; omega) fun h' x he' hx' => ?_)
    obtain ⟨o, ho, hco⟩ := hx'
    refine wpAny_bind (wpAny_isInstance (T := "StopIteration") (b := true) ⟨o, ho, hco⟩ isSubtype_stop ?_)
    exact wpAny_pure ⟨rfl, I.turned (t' := s.toks) (fun b o hb q => he' b o hb q) f0 f1 f3 f4 f5⟩
  self := fun A i s Q E st h => let ⟨⟨_, he⟩, _⟩ := st; wpAny_pyIter_enum he h
def iEnumT (K : PySem.W.Frag) (ta : TA) : TI := fun σ H R => ta σ H fun vs H1 => ∃ a xs, vs = [.ref a] ∧ SqT K H1 a xs ∧ R (IteT K a) H1
theorem pi_enumT {X : Cx} {e : Expr} {ta : TA} {p pos tpos : Pos} {elts : List Expr} {kk : Nat} (hg : Gl X "enumerate") (hm : X.mg "enumerate" = none) (ha : PA X [e] ta) (hs : starEach [e] X.env = [(false, eval e X.env)] := by rfl) :
    PI X (.Tuple elts kk tpos) (.Call (.Name "enumerate" p) [e] [] pos) (iEnumT X.K ta) := by
  refine ⟨fun pins s σ H R I h => ?_⟩
  refine Call_ (ld_blt I hg hm boot_enumerate (PyProof.Rows.callWith_type1 (thn (ha.run pos pins s σ H _ I h) fun us s1 ⟨vs, H1, I1, r1, q1⟩ => ?_) hs rfl))
  obtain ⟨a, xs, ex, hq, q⟩ := q1
  subst ex
  cases r1 with
  | cons r rr =>
    cases rr
    cases r
    obtain ⟨its, rv, p', hz⟩ := I1.tuple hq
    refine call_enumerate_tup (show s1.heap.IsTuple a its.toArray from p') fun h' he hit hsz hk => wpAny_pyIter_enum he ?_
    have I2 : Inv X pins σ H1 { s1 with heap := h' } := I1.kept (t' := s1.toks) hk
    refine ⟨s1.heap.objs.size + 1, [s1.heap.objs.size + 1, s1.heap.objs.size], _, _, H1, rfl, I2, turn_enumT a (s1.heap.objs.size + 1) s1.heap.objs.size, ⟨⟨.none, he⟩, hit, Nat.succ_ne_self _⟩, fun b hb => ?_, q⟩
    have e' : b = s1.heap.objs.size + 1 ∨ b = s1.heap.objs.size := by simpa using hb
    have hle : s1.heap.objs.size ≤ b := by
      rcases e' with z | z
      · rw [z]; exact Nat.le_add_right _ _
      · rw [z]; exact Nat.le_refl _
    exact I1.fpOk hle (I1.hok.fresh hle)

/-! ### by data -/
section
variable {X : Cx} {C : Addr} {ρ : List Sl} {e e2 : Expr} {p pos tpos : Pos} {elts : List Expr} {kk : Nat}
def numb (l : List D) : List D := l.zipIdx.map fun q => .tup [.int (q.2 : Nat), q.1]
theorem numb_get {l : List D} {i : Nat} {d : D} (h : l[i]? = some d) : (numb l)[i]? = some (.tup [.int (i : Nat), d]) := by
  unfold numb
  rw [List.getElem?_map, List.getElem?_zipIdx, h]
  simp
theorem numb_length (l : List D) : (numb l).length = l.length := by unfold numb; simp
theorem i_enumL {ds : List D} (hg : Gl X "enumerate") (hm : X.mg "enumerate" = none) (h : PE X e (tD X.K C ρ (.lst ds))) (hs : starEach [e] X.env = [(false, eval e X.env)] := by rfl) : PI X (.Tuple elts kk tpos) (.Call (.Name "enumerate" p) [e] [] pos) (tI X.K C ρ (numb ds)) :=
  pi_wI (pi_enum hg hm (a_cons h a_nil (hs.trans rfl)) hs) fun σ H R ⟨F, P, r, k⟩ => ⟨F, P, r, fun vs H2 e2 hv => by
    obtain ⟨v, rfl, a, xs, rfl, g1, g2⟩ := rp1 hv
    refine ⟨a, xs, rfl, SqL.of (mask_le _ _ g1), fun pins s I => k _ H2 e2 ?_⟩
    have hl := g2.length
    have hz : xs.length ≤ sizeLine := (I.hok a _ (mask_le _ _ g1)).1
    have hn := numb_length ds
    refine ⟨by omega, fun i H' hi sm => ⟨xs, xs[i]'(by omega), SqL.of (sm _ _ g1), by simp [show i < xs.length by omega]⟩, fun H' sm => ⟨xs, SqL.of (sm _ _ g1), by omega⟩, fun i H' x H'' hi sm ⟨T, y, q1, q2, q3, q4⟩ => ?_⟩
    subst q1 q3
    obtain ⟨d, z1, z2⟩ := g2.getV (q4 xs (SqL.of (sm _ _ g1)))
    exact ⟨same_upd q2, _, numb_get z1, fun P' t' s' => rp_newT t' q2 (rp_pair rfl (Rp.mono s' d y z2))⟩⟩
theorem i_enumT {ds : List D} (hg : Gl X "enumerate") (hm : X.mg "enumerate" = none) (h : PE X e (tD X.K C ρ (.tup ds))) (hs : starEach [e] X.env = [(false, eval e X.env)] := by rfl) : PI X (.Tuple elts kk tpos) (.Call (.Name "enumerate" p) [e] [] pos) (tI X.K C ρ (numb ds)) :=
  pi_wI (pi_enumT hg hm (a_cons h a_nil (hs.trans rfl)) hs) fun σ H R ⟨F, P, r, k⟩ => ⟨F, P, r, fun vs H2 e2 hv => by
    obtain ⟨v, rfl, a, xs, rfl, g1, g2⟩ := rp1 hv
    refine ⟨a, xs, rfl, sqT_same mask_le g1, fun pins s I => k _ H2 e2 ?_⟩
    have hl := g2.length
    have hz : xs.length ≤ sizeLine := by
      obtain ⟨its, rv, _, z⟩ := I.tuple (sqT_same mask_le g1)
      exact z
    have hn := numb_length ds
    refine ⟨by omega, fun i H' hi sm => ⟨xs, xs[i]'(by omega), sqT_same sm g1, by simp [show i < xs.length by omega]⟩, fun H' sm => ⟨xs, sqT_same sm g1, by omega⟩, fun i H' x H'' hi sm ⟨T, y, q1, q2, q3, q4⟩ => ?_⟩
    subst q1 q3
    obtain ⟨d, z1, z2⟩ := g2.getV (q4 xs (sqT_same sm g1))
    exact ⟨same_upd q2, _, numb_get z1, fun P' t' s' => rp_newT t' q2 (rp_pair rfl (Rp.mono s' d y z2))⟩⟩
def zipD (l m : List D) : List D := (l.zip m).map fun q => .tup [q.1, q.2]
theorem zipD_get {l m : List D} {i : Nat} {d d' : D} (h : l[i]? = some d) (h' : m[i]? = some d') : (zipD l m)[i]? = some (.tup [d, d']) := by
  unfold zipD
  rw [List.getElem?_map, List.getElem?_zip_eq_some (z := (d, d')) |>.mpr ⟨h, h'⟩]
  rfl
theorem zipD_length (l m : List D) : (zipD l m).length = min l.length m.length := by unfold zipD; simp
theorem i_zipL {l m : List D} (hg : Gl X "zip") (hm : X.mg "zip" = none) (h : PE X e (tD X.K C ρ (.lst l))) (h2 : PE X e2 (tD X.K C ρ (.lst m)))
    (hs : starEach [e, e2] X.env = (false, eval e X.env) :: starEach [e2] X.env := by rfl) (hs2 : starEach [e2] X.env = (false, eval e2 X.env) :: starEach [] X.env := by rfl) (hpl : (backTo pos (starEach [e2] X.env)).any (·.1) = false := by rfl) :
    PI X (.Tuple elts kk tpos) (.Call (.Name "zip" p) [e, e2] [] pos) (tI X.K C ρ (zipD l m)) :=
  pi_wI (pi_zip hg hm (a_cons h (a_cons h2 a_nil hs2) hs) hs hpl) fun σ H R ⟨F, P, r, k⟩ => ⟨F, P, r, fun vs H2 e2 hv => by
    obtain ⟨v, u, rfl, ⟨a, xs, rfl, g1, g2⟩, ⟨b, ys, rfl, g3, g4⟩⟩ := rp2 hv
    refine ⟨a, b, xs, ys, rfl, SqL.of (mask_le _ _ g1), SqL.of (mask_le _ _ g3), fun pins s I => k _ H2 e2 ?_⟩
    have hl := g2.length
    have hl2 := g4.length
    have hz : xs.length ≤ sizeLine := (I.hok a _ (mask_le _ _ g1)).1
    have hn := zipD_length l m
    refine ⟨by omega, fun i H' hi sm => ⟨xs, ys, xs[i]'(by omega), ys[i]'(by omega), SqL.of (sm _ _ g1), SqL.of (sm _ _ g3), by simp [show i < xs.length by omega], by simp [show i < ys.length by omega]⟩, fun H' sm => ⟨xs, ys, SqL.of (sm _ _ g1), SqL.of (sm _ _ g3), by omega⟩, fun i H' x H'' hi sm ⟨T, y, z, q1, q2, q3, q4, q5⟩ => ?_⟩
    subst q1 q3
    obtain ⟨d, z1, z2⟩ := g2.getV (q4 xs (SqL.of (sm _ _ g1)))
    obtain ⟨d', z3, z4⟩ := g4.getV (q5 ys (SqL.of (sm _ _ g3)))
    exact ⟨same_upd q2, _, zipD_get z1 z3, fun P' t' s' => rp_newT t' q2 (rp_pair (Rp.mono s' d y z2) (Rp.mono s' d' z z4))⟩⟩
theorem i_zipT {l m : List D} (hg : Gl X "zip") (hm : X.mg "zip" = none) (h : PE X e (tD X.K C ρ (.tup l))) (h2 : PE X e2 (tD X.K C ρ (.tup m)))
    (hs : starEach [e, e2] X.env = (false, eval e X.env) :: starEach [e2] X.env := by rfl) (hs2 : starEach [e2] X.env = (false, eval e2 X.env) :: starEach [] X.env := by rfl) (hpl : (backTo pos (starEach [e2] X.env)).any (·.1) = false := by rfl) :
    PI X (.Tuple elts kk tpos) (.Call (.Name "zip" p) [e, e2] [] pos) (tI X.K C ρ (zipD l m)) :=
  pi_wI (RZ.pi_zipA hg hm (a_cons h (a_cons h2 a_nil hs2) hs) hs hpl) fun σ H R ⟨F, P, r, k⟩ => ⟨F, P, r, fun vs H2 e2 hv => by
    obtain ⟨v, u, rfl, ⟨a, xs, rfl, g1, g2⟩, ⟨b, ys, rfl, g3, g4⟩⟩ := rp2 hv
    refine ⟨a, b, xs, ys, rfl, .inr ⟨sqT_same mask_le g1, sqT_same mask_le g3, fun pins s I => k _ H2 e2 ?_⟩⟩
    have hl := g2.length
    have hl2 := g4.length
    have hz : xs.length ≤ sizeLine := by
      obtain ⟨its, rv, _, z⟩ := I.tuple (sqT_same mask_le g1)
      exact z
    have hn := zipD_length l m
    refine ⟨by omega, fun i H' hi sm => ⟨xs, ys, xs[i]'(by omega), ys[i]'(by omega), sqT_same sm g1, sqT_same sm g3, by simp [show i < xs.length by omega], by simp [show i < ys.length by omega]⟩, fun H' sm => ⟨xs, ys, sqT_same sm g1, sqT_same sm g3, by omega⟩, fun i H' x H'' hi sm ⟨T, y, z, q1, q2, q3, q4, q5⟩ => ?_⟩
    subst q1 q3
    obtain ⟨d, z1, z2⟩ := g2.getV (q4 xs (sqT_same sm g1))
    obtain ⟨d', z3, z4⟩ := g4.getV (q5 ys (sqT_same sm g3))
    exact ⟨same_upd q2, _, zipD_get z1 z3, fun P' t' s' => rp_newT t' q2 (rp_pair (Rp.mono s' d y z2) (Rp.mono s' d' z z4))⟩⟩
end
end Fz
/-! The data layer: comprehensions of two clauses, of dicts. -/
namespace Fz
open PySem L2 PyProof.Rows
open PySem.W (Datum DatumOrd Tup T3)
open Enc (enc)

/-! ### the walk of known things -/
def YD (K : PySem.W.Frag) (C : Addr) {ι : Type} (B : Hp) (l : List ι) (en : ι → D) : Nat → Hp → V → Hp → Prop := fun i H x H' => Same H H' ∧ ∃ a, l[i]? = some a ∧ ∀ P', Trk P' H → Same B (mask P' H) → Rp K C (mask P' H') (en a) x
theorem WkD.walk {K : PySem.W.Frag} {C : Addr} {ι : Type} {J : It} {B : Hp} {l : List ι} {en : ι → D} (w : WkD K C J B (l.map en)) : Walk J l.length (Same B) (YD K C B l en) ∧ l.length ≤ sizeLine := by
  have hl : (l.map en).length = l.length := List.length_map ..
  refine ⟨⟨fun i H' hi sm => w.goes i H' (by rw [hl]; exact hi) sm, fun H' sm => by rw [← hl]; exact w.stops H' sm, fun i H' x H'' hi sm y => ?_⟩, by rw [← hl]; exact w.size⟩
  obtain ⟨s1, d, hd, hr⟩ := w.yields i H' x H'' (by rw [hl]; exact hi) sm y
  rw [List.getElem?_map] at hd
  cases q : l[i]? with
  | none => rw [q] at hd; cases hd
  | some a =>
    rw [q] at hd
    have hd := Option.some.inj hd
    subst hd
    exact ⟨s1, a, q, hr⟩

/-! ### dicts -/
theorem dc_it {J : It} {n : Nat} {G : Hp → Prop} {Y : Nat → Hp → V → Hp → Prop} (w : Walk J n G Y) {g : TG} {tt : TT} {tk tv : TE} {vs : List Nat} {σ : L2.St} {H1 : Hp} {D : Addr} {Qd : Hp → Prop} (Pv : Nat → Hp → Prop) (h0 : Pv 0 (upd H1 D (.dK []))) (hG : ∀ i H, i ≤ n → Pv i H → G H)
    (hs : ∀ i x H H', i < n → Pv i H → Y i H x H' → g x (wipe σ vs) H' fun σ2 H2 => wipe σ2 vs = wipe σ vs ∧ tt σ2 H2 fun b H3 =>
      if b = true then tk σ2 H3 fun y H4 => tv σ2 H4 fun z H5 => ∃ kvs k, y = kV k ∧ H5 D = some (.dK kvs) ∧ kvs.length < sizeLine ∧ Pv (i + 1) (upd H5 D (.dK (putK kvs k z))) else Pv (i + 1) H3) (hd : ∀ H, Pv n H → Qd H) :
    ∃ W : Nat → Nat → Hp → Prop, (∃ m, W 0 m (upd H1 D (.dK []))) ∧ ∀ i m H, W i m H →
      (J.stop i H ∧ Qd H) ∨ (J.go i H ∧ ∃ Nx : Hp → Prop, (∀ H', Nx H' → ∃ m', m' < m ∧ W (i + 1) m' H') ∧ ∀ x H', J.yld i H x H' → g x (wipe σ vs) H' fun σ2 H2 => wipe σ2 vs = wipe σ vs ∧ tt σ2 H2 fun b H3 =>
        if b = true then tk σ2 H3 fun y H4 => tv σ2 H4 fun z H5 => ∃ kvs k, y = kV k ∧ H5 D = some (.dK kvs) ∧ kvs.length < sizeLine ∧ Nx (upd H5 D (.dK (putK kvs k z))) else Nx H3) := by
  refine ⟨fun i m H => m = n - i ∧ i ≤ n ∧ Pv i H, ⟨n, by simp, Nat.zero_le _, h0⟩, ?_⟩
  rintro i m H ⟨rfl, hi, p⟩
  have q := hG i H hi p
  by_cases hlt : i < n
  · exact .inr ⟨w.goes i H hlt q, Pv (i + 1), fun H' p' => ⟨n - (i + 1), by omega, rfl, hlt, p'⟩, fun x H' y => hs i x H H' hlt p (w.yields i H x H' hlt q y)⟩
  · have e : i = n := by omega
    subst e
    exact .inl ⟨w.stops H q, hd H p⟩
theorem lookup_none {l : List (Str × Str)} {x : Str} (h : x ∉ l.map (·.1)) : l.lookup x = none := by
  induction l with
  | nil => rfl
  | cons p l ih =>
    obtain ⟨k, v⟩ := p
    rw [List.map_cons, List.mem_cons, not_or] at h
    rw [List.lookup_cons]
    have e : (x == k) = false := by simpa using h.1
    rw [e]
    exact ih h.2
def strKV (l : List (Str × Str)) : List (Key × V) := l.map fun p => (Sum.inr p.1, V.str p.2)
theorem put_strs {l : List (Str × Str)} {x y : Str} (h : x ∉ l.map (·.1)) : putK (strKV l) (Sum.inr x) (V.str y) = strKV (l ++ [(x, y)]) := by
  rw [putK_new]
  · unfold strKV
    rw [List.map_append]
    rfl
  · unfold strKV
    rw [valV_strs, lookup_none h]
    rfl
section
variable {K : PySem.W.Frag} {C : Addr} {ι : Type}
theorem dc_data {l : List ι} {en : ι → D} {kf vf : ι → Str} {ρ : List Sl} {ρ1 : ι → List Sl} {vs : List Nat} {σ : L2.St} {H1 : Hp} {Q : VK} {J : It} {F : Frm} {P : Addr → Prop} (r1 : Rep K C F P H1 σ ρ) (w : WkD K C J (mask P H1) (l.map en)) (nd : (l.map kf).Nodup)
    (k : ∀ D H2, H1 D = none → Same H1 H2 → H2 D = some (.dK (strKV (l.map fun a => (kf a, vf a)))) → Q (.ref D) H2) : ∀ D, H1 D = none → ∃ W : Nat → Nat → Hp → Prop, (∃ m, W 0 m (upd H1 D (.dK []))) ∧ ∀ i m H, W i m H →
      (J.stop i H ∧ Q (.ref D) H) ∨ (J.go i H ∧ ∃ Nx : Hp → Prop, (∀ H', Nx H' → ∃ m', m' < m ∧ W (i + 1) m' H') ∧ ∀ x H', J.yld i H x H' → (fun v σ H Q => ∃ a, a ∈ l ∧ tG K C vs (wipeR ρ vs) (en a) (ρ1 a) v σ H Q) x (wipe σ vs) H' fun σ2 H2 => wipe σ2 vs = wipe σ vs ∧ (fun σ H Q => Q true H : TT) σ2 H2 fun b H3 =>
        if b = true then (fun σ H Q => ∃ a, a ∈ l ∧ tD K C (ρ1 a) (.str (kf a)) σ H Q) σ2 H3 fun y H4 => (fun σ H Q => ∃ a, a ∈ l ∧ tD K C (ρ1 a) (.str (vf a)) σ H Q) σ2 H4 fun z H5 => ∃ kvs k, y = kV k ∧ H5 D = some (.dK kvs) ∧ kvs.length < sizeLine ∧ Nx (upd H5 D (.dK (putK kvs k z))) else Nx H3) := by
  intro D hD
  obtain ⟨r2, h0, ms⟩ := r1.new (H' := upd H1 D (.dK [])) (same_upd hD) hD ⟨_, upd_same⟩
  have rw0 := r2.wipe vs
  have ap0 : Apart (wipe σ vs) (wipeR ρ vs) (.ref D) (.own []) := apart_new (k := .own []) (r1.wipe vs) hD
  obtain ⟨wk, hz⟩ := w.walk
  let PD : Addr → Prop := fun a => P a ∨ a = D
  refine dc_it wk (g := fun v σ H Q => ∃ a, a ∈ l ∧ tG K C vs (wipeR ρ vs) (en a) (ρ1 a) v σ H Q) (tt := fun σ H Q => Q true H) (tk := fun σ H Q => ∃ a, a ∈ l ∧ tD K C (ρ1 a) (.str (kf a)) σ H Q) (tv := fun σ H Q => ∃ a, a ∈ l ∧ tD K C (ρ1 a) (.str (vf a)) σ H Q) (vs := vs) (σ := σ) (Qd := fun H => Q (.ref D) H) (fun i H' =>
      Rep K C F PD H' (wipe σ vs) (wipeR ρ vs) ∧ Same (mask P H1) (mask PD H') ∧ Same H1 H' ∧ H' D = some (.dK (strKV ((l.take i).map fun a => (kf a, vf a)))))
    ⟨rw0, ms, same_upd hD, upd_same⟩ (fun i H' _ p => p.2.1.trans mask_le) ?_ ?_
  · rintro i x H' H'' hi ⟨rp, sp, s1, hacc⟩ ⟨sy, a, ha, hr⟩
    have ha' := List.mem_of_getElem? ha
    have rp2 := rp.same sy
    refine ⟨a, ha', F, PD, rp2, hr PD rp.trk sp, fun σ2 r3 ew => ⟨ew.trans (wipe_wipe vs), iteT ⟨a, ha', F, PD, r3, fun y H4 e4 hy => ⟨a, ha', F, PD, r3.same e4, fun z H5 e5 hz5 => ?_⟩⟩⟩⟩
    have hy : y = V.str (kf a) := hy
    have hz5 : z = V.str (vf a) := hz5
    subst hy hz5
    have s15 := (sy.trans e4).trans e5
    have fresh : kf a ∉ ((l.take i).map fun a => (kf a, vf a)).map (·.1) := fun hm => by
      rw [List.map_map] at hm
      have hm : kf a ∈ (l.take i).map kf := hm
      obtain ⟨b, hb, eb⟩ := List.mem_map.mp hm
      obtain ⟨j, hj⟩ := List.getElem?_of_mem hb
      have hji : j < i := by
        have z := (List.getElem?_eq_some_iff.mp hj).1
        rw [List.length_take] at z
        omega
      rw [List.getElem?_take_of_lt hji] at hj
      have h1 : (l.map kf)[j]? = some (kf a) := by rw [List.getElem?_map, hj, ← eb]; rfl
      have h2 : (l.map kf)[i]? = some (kf a) := by rw [List.getElem?_map, ha]; rfl
      have z := nd_ix nd h1 h2
      omega
    refine ⟨_, Sum.inr (kf a), rfl, s15 _ _ hacc, ?_, ?_⟩
    · unfold strKV
      rw [List.length_map, List.length_map, List.length_take]
      omega
    · have me : ∀ o, mask PD (upd H5 D o) = mask PD H5 := fun o => mask_upd (.inr rfl)
      refine ⟨(rp.same s15).upd (.inr rfl) h0 ap0, by rw [me]; exact sp.trans (mask_same s15), fun b o q => ?_, ?_⟩
      · rw [upd_ne (ne_of_none q hD)]
        exact s15 b o (s1 b o q)
      · rw [upd_same, put_strs fresh, List.take_add_one, ha, List.map_append]
        rfl
  · rintro H' ⟨rp, sp, s1, hacc⟩
    rw [List.take_of_length_le (Nat.le_refl _)] at hacc
    exact k D H' hD s1 hacc
end
section
variable {X : Cx} {C : Addr} {ρ : List Sl} {ι : Type}
/-- {k: v for tg in iter} -/
theorem d_dc {kx vx tg iter : Expr} {scope : Scope} {own : List (Str × Nat)} {pos : Pos} (l : List ι) (en : ι → D) (kf vf : ι → Str) (ρ1 : ι → List Sl) (hc : X.calm = true) (hN : X.N.Nodup) (ok : BlkOk X.N X.env.scope scope own) (nd : (l.map kf).Nodup)
    (hi : PI X tg iter (tI X.K C ρ (l.map en)))
    (hg : ∀ (s : Shared) (H : Hp) (B : Addr) (cl : List (Str × Addr)) (fp : List Addr) (a : ι), a ∈ l → PG (X.blk s H scope (compEnvC scope cl B X.env) fp) tg (tG X.K C (own.map (·.2)) (wipeR ρ (own.map (·.2))) (en a) (ρ1 a)))
    (hk : ∀ (s : Shared) (H : Hp) (B : Addr) (cl : List (Str × Addr)) (fp : List Addr) (a : ι), a ∈ l → PE (X.blk s H scope (compEnvC scope cl B X.env) fp) kx (tD X.K C (ρ1 a) (.str (kf a))))
    (hv : ∀ (s : Shared) (H : Hp) (B : Addr) (cl : List (Str × Addr)) (fp : List Addr) (a : ι), a ∈ l → PE (X.blk s H scope (compEnvC scope cl B X.env) fp) vx (tD X.K C (ρ1 a) (.str (vf a))))
    (hs : ∀ x, foldedSetIterable iter X.env x = pure x := by intro _; rfl) :
    PE X (.DictComp kx vx [⟨tg, iter, [], 0⟩] scope pos) (tD X.K C ρ (.dic (l.map fun a => (kf a, vf a)))) :=
  pe_w (pe_dc hc hN hi ok (fun s H B cl fp => pg_fam (hg s H B cl fp)) (fun s H B cl fp => pts_nil) (fun s H B cl fp => pe_famP (hk s H B cl fp)) (fun s H B cl fp => pe_famP (hv s H B cl fp)) hs) fun σ H Q ⟨F, P, r, k⟩ =>
    ⟨F, P, r, fun J H1 e1 w => dc_data (r.same e1) w nd fun D H2 hD s2 h2 => k _ H2 (e1.trans s2) ⟨D, rfl, by rw [mask_at ((r.trk.same e1).new hD)]; exact h2⟩⟩
/-- the pairs of a dict that is locked -/
def tIt (K : PySem.W.Frag) (C : Addr) (ρ : List Sl) (j : Nat) (l : List (Str × Str)) : TI := fun σ H R => ∃ F P d o, Rep K C F P H σ ρ ∧ σ[j]? = some (some (.ref d)) ∧ ¬ P d ∧ H d = some (.frz o (.dK (strKV l))) ∧ ∀ J, WkD K C J (mask P H) (l.map fun p => D.tup [.str p.1, .str p.2]) → R J H
theorem i_items {elts : List Expr} {kk : Nat} {tpos p apos cpos : Pos} {l : List (Str × Str)} {j : Nat} {x : Str} (hN : X.N[j]? = some x := by rfl) (hv : Vis X.env.scope x := by first | exact Or.inl rfl | exact Or.inr (Or.inl rfl) | exact Or.inr (Or.inr rfl))
    (hd : (x == ("__debug__" : Str)) = false := by decide) (hcd : (x == ("__classdict__" : Str)) = false := by decide)
    (hbase : attributeBase (.Name x p) "items" X.env (eval (.Name x p) X.env) = eval (.Name x p) X.env := by rfl) (hline : (apos.endLine == cpos.line) = true := by rfl) :
    PI X (.Tuple elts kk tpos) (.Call (.Attribute (.Name x p) "items" apos) [] [] cpos) (tIt X.K C ρ j l) :=
  pi_wI (pi_items (pe_var hN hv hd hcd) hbase hline) fun σ H R ⟨F, P, d, o, r, h1, h2, h3, k⟩ => ⟨.ref d, h1, d, o, strKV l, rfl, h3, fun pins s I => k _ (by
    have hl : (l.map fun p => D.tup [.str p.1, .str p.2]).length = (strKV l).length := by unfold strKV; rw [List.length_map, List.length_map]
    have hz : (strKV l).length ≤ sizeLine := (I.hok d _ h3).2.1
    have h4 : mask P H d = some (.frz o (.dK (strKV l))) := by rw [mask_at h2]; exact h3
    refine ⟨by rw [hl]; exact hz, fun i H' hi sm => ⟨sm _ _ h4, by rw [← hl]; exact hi⟩, fun H' sm => ⟨sm _ _ h4, by rw [hl]; exact Nat.le_refl _⟩, fun i H' y H'' hi sm ⟨T, kk, v, q1, q2, q3, q4⟩ => ?_⟩
    subst q2 q4
    unfold strKV at q1
    rw [List.getElem?_map] at q1
    cases z : l[i]? with
    | none => rw [z] at q1; cases q1
    | some a =>
      rw [z] at q1
      have q1 := Option.some.inj q1
      obtain ⟨rfl, rfl⟩ := Prod.mk.inj q1
      exact ⟨same_upd q3, D.tup [.str a.1, .str a.2], by rw [List.getElem?_map, z]; rfl, fun P' t' s' => rp_newT t' q3 (rp_pair rfl rfl)⟩)⟩
/-- {k: v for a, b in d.items()} -/
theorem d_dcI {kx vx : Expr} {elts : List Expr} {kk : Nat} {tpos p apos cpos : Pos} {scope : Scope} {own : List (Str × Nat)} {pos : Pos} {j : Nat} {x : Str} (l : List (Str × Str)) (kf vf : Str × Str → Str) (ρL : List Sl) (ρ1 : Str × Str → List Sl) (hc : X.calm = true) (hN : X.N.Nodup) (ok : BlkOk X.N X.env.scope scope own) (nd : (l.map kf).Nodup)
    (hj : ρ[j]? = some (.dat (.dic l))) (hL : ρL.length = ρ.length ∧ ∀ (i : Nat) s, ρL[i]? = some s → s = .no ∨ ∃ z, s = .dat (.str z) ∧ ρ[i]? = some s)
    (hi : PI X (.Tuple elts kk tpos) (.Call (.Attribute (.Name x p) "items" apos) [] [] cpos) (tIt X.K C ρL j l))
    (hg : ∀ (s : Shared) (H : Hp) (B : Addr) (cl : List (Str × Addr)) (fp : List Addr) (a : Str × Str), a ∈ l → PG (X.blk s H scope (compEnvC scope cl B X.env) fp) (.Tuple elts kk tpos) (tG X.K C (own.map (·.2)) (wipeR ρL (own.map (·.2))) (.tup [.str a.1, .str a.2]) (ρ1 a)))
    (hk : ∀ (s : Shared) (H : Hp) (B : Addr) (cl : List (Str × Addr)) (fp : List Addr) (a : Str × Str), a ∈ l → PE (X.blk s H scope (compEnvC scope cl B X.env) fp) kx (tD X.K C (ρ1 a) (.str (kf a))))
    (hv : ∀ (s : Shared) (H : Hp) (B : Addr) (cl : List (Str × Addr)) (fp : List Addr) (a : Str × Str), a ∈ l → PE (X.blk s H scope (compEnvC scope cl B X.env) fp) vx (tD X.K C (ρ1 a) (.str (vf a))))
    (hs : ∀ y, foldedSetIterable (.Call (.Attribute (.Name x p) "items" apos) [] [] cpos) X.env y = pure y := by intro _; rfl) :
    PE X (.DictComp kx vx [⟨.Tuple elts kk tpos, .Call (.Attribute (.Name x p) "items" apos) [] [] cpos, [], 0⟩] scope pos) (tD X.K C ρ (.dic (l.map fun a => (kf a, vf a)))) :=
  pe_w (pe_lock (pe_dc hc hN hi ok (fun s H B cl fp => pg_fam (hg s H B cl fp)) (fun s H B cl fp => pts_nil) (fun s H B cl fp => pe_famP (hk s H B cl fp)) (fun s H B cl fp => pe_famP (hv s H B cl fp)) hs)) fun σ H Q ⟨F, P, r, k⟩ => by
    obtain ⟨v, h1, d, rfl, h2⟩ := r.dat j _ hj
    obtain ⟨h3, h4⟩ := mask_some h2
    refine ⟨d, .dK (strKV l), h3, trivial, fun od => ?_⟩
    have tl : Trk P (upd H d (.frz od (.dK (strKV l)))) := fun a q => by
      rw [upd_ne fun e => h4 (by rw [← e]; exact q)]
      exact r.trk a q
    have noown : ∀ {i : Nat}, ¬ IsOwn ρL i := fun {i} q => by
      rcases q with ⟨m, q⟩ | ⟨m, q⟩
      · rcases hL.2 _ _ q with z | ⟨z, e, _⟩
        · cases z
        · cases e
      · rcases hL.2 _ _ q with z | ⟨z, e, _⟩
        · cases z
        · cases e
    have rL : Rep X.K C ⟨P, upd H d (.frz od (.dK (strKV l))), fun _ => False⟩ P (upd H d (.frz od (.dK (strKV l)))) σ ρL := by
      refine ⟨fun a z => z.elim, tl, fun a z => z, fun a z => .inl z, fun a o q _ => q, tl, fun i e q => ?_, fun i m q => (noown (.inl ⟨m, q⟩)).elim, fun i m q => (noown (.inr ⟨m, q⟩)).elim, fun i j p q => (noown q).elim, hL.1.trans r.len⟩
      rcases hL.2 i _ q with z | ⟨z, e1, e2⟩
      · cases z
      · cases e1
        obtain ⟨v, g1, g2⟩ := r.dat i _ e2
        exact ⟨v, g1, g2⟩
    refine ⟨_, P, d, od, rL, h1, h4, upd_same, fun J w => dc_data (vf := vf) (ρ1 := ρ1) (vs := own.map (·.2)) (Q := fun v H' => H' d = some (HO.frz od (HO.dK (strKV l))) ∧ Q v (upd H' d (HO.dK (strKV l)))) rL w nd fun D H2 hD s2 g2 => ⟨s2 _ _ upd_same, k _ _ (fun b o q => ?_) ⟨D, rfl, ?_⟩⟩⟩
    · by_cases e : b = d
      · subst e
        rw [upd_same]
        exact h3.symm.trans q
      · rw [upd_ne e]
        exact s2 b o (by rw [upd_ne e]; exact q)
    · have nd : D ≠ d := fun e => by
        rw [e, upd_same] at hD
        cases hD
      have np : ¬ P D := tl.new hD
      rw [mask_at np, upd_ne nd]
      exact g2
end
end Fz
/-! The data layer: comprehensions of two clauses. -/
namespace Fz
open PySem L2 PyProof.Rows

section
variable {K : PySem.W.Frag} {C : Addr} {ι κ : Type}
theorem flat_take {l : List ι} {f : ι → List D} {i : Nat} {a : ι} (h : l[i]? = some a) : (l.take (i + 1)).flatMap f = (l.take i).flatMap f ++ f a := by
  rw [List.take_add_one, h, List.flatMap_append]
  simp
theorem take_map_succ {l : List κ} {f : κ → D} {i : Nat} {a : κ} (h : l[i]? = some a) : (l.take (i + 1)).map f = (l.take i).map f ++ [f a] := by
  rw [List.take_add_one, h, List.map_append]
  rfl
theorem flat_le {l : List ι} {m : ι → List κ} {i j : Nat} {a : ι} (h : l[i]? = some a) (hj : j < (m a).length) : ((l.take i).flatMap m).length + j < (l.flatMap m).length := by
  have e : l = l.take i ++ a :: l.drop (i + 1) := by
    obtain ⟨hl, e⟩ := List.getElem?_eq_some_iff.mp h
    rw [← e, ← List.drop_eq_getElem_cons hl, List.take_append_drop]
  have q : (l.flatMap m).length = ((l.take i).flatMap m).length + ((m a).length + ((l.drop (i + 1)).flatMap m).length) := by
    conv => lhs; rw [e]
    rw [List.flatMap_append, List.length_append, List.flatMap_cons, List.length_append]
  omega
theorem flat_map_len {l : List ι} {m : ι → List κ} {ev : ι → κ → D} : (l.flatMap fun a => (m a).map (ev a)).length = (l.flatMap m).length := by
  induction l with
  | nil => rfl
  | cons a l ih => rw [List.flatMap_cons, List.flatMap_cons, List.length_append, List.length_append, ih, List.length_map]
theorem lc_it' {J : It} {n : Nat} {G : Hp → Prop} {Y : Nat → Hp → V → Hp → Prop} (w : Walk J n G Y) {H1 : Hp} {Qd : Hp → Prop} {R : Nat → V → Hp → (Hp → Prop) → Prop} (Pv : Nat → Hp → Prop) (h0 : Pv 0 H1) (hG : ∀ i H, i ≤ n → Pv i H → G H)
    (hs : ∀ i x H H', i < n → Pv i H → Y i H x H' → R i x H' (Pv (i + 1))) (hd : ∀ H, Pv n H → Qd H) :
    ∃ W : Nat → Nat → Hp → Prop, (∃ m, W 0 m H1) ∧ ∀ i m H, W i m H →
      (J.stop i H ∧ Qd H) ∨ (J.go i H ∧ ∃ Nx : Hp → Prop, (∀ H', Nx H' → ∃ m', m' < m ∧ W (i + 1) m' H') ∧ ∀ x H', J.yld i H x H' → R i x H' Nx) := by
  refine ⟨fun i m H => m = n - i ∧ i ≤ n ∧ Pv i H, ⟨n, by simp, Nat.zero_le _, h0⟩, ?_⟩
  rintro i m H ⟨rfl, hi, p⟩
  have q := hG i H hi p
  by_cases hlt : i < n
  · exact .inr ⟨w.goes i H hlt q, Pv (i + 1), fun H' p' => ⟨n - (i + 1), by omega, rfl, hlt, p'⟩, fun x H' y => hs i x H H' hlt p (w.yields i H x H' hlt q y)⟩
  · have e : i = n := by omega
    subst e
    exact .inl ⟨w.stops H q, hd H p⟩
theorem lc2_data {l : List ι} {en : ι → D} {ρ : List Sl} {ρ1 : ι → List Sl} {m : ι → List κ} {en1 : κ → D} {ρ2 : ι × κ → List Sl} {ev : ι → κ → D} {vs vs1 : List Nat} {σ : L2.St} {H : Hp} {Q : VK} (hz : (l.flatMap m).length ≤ sizeLine) (hno : ∀ a ∈ l, ∀ j, ¬ IsOwn (ρ1 a) j)
    (h : tF K C ρ (l.flatMap fun a => (m a).map (ev a)) σ H Q) :
    tLc2 (tI K C ρ (l.map en)) (fun v σ H Q => ∃ a, a ∈ l ∧ tG K C vs (wipeR ρ vs) (en a) (ρ1 a) v σ H Q) tYes (fun σ H R => ∃ a, a ∈ l ∧ tI K C (ρ1 a) ((m a).map en1) σ H R)
      (fun v σ H Q => ∃ q : ι × κ, (q.1 ∈ l ∧ q.2 ∈ m q.1) ∧ tG K C vs1 (wipeR (ρ1 q.1) vs1) (en1 q.2) (ρ2 q) v σ H Q) tYes (fun σ H Q => ∃ q : ι × κ, (q.1 ∈ l ∧ q.2 ∈ m q.1) ∧ tD K C (ρ2 q) (ev q.1 q.2) σ H Q) vs vs1 σ H Q := by
  obtain ⟨F, P, r, k⟩ := h
  refine ⟨F, P, r, fun J H1 e1 w D hD => ?_⟩
  have hD0 : H D = none := e1.free hD
  have r1 := r.same e1
  obtain ⟨r2, h0, ms⟩ := r1.new (H' := upd H1 D (.lst [])) (same_upd hD) hD ⟨_, upd_same⟩
  have rw0 := r2.wipe vs
  have ap0 : Apart (wipe σ vs) (wipeR ρ vs) (.ref D) (.own []) := apart_new (k := .own []) (r1.wipe vs) hD
  obtain ⟨wk, hsz⟩ := w.walk
  let PD : Addr → Prop := fun a => P a ∨ a = D
  let Pv : Nat → Hp → Prop := fun i H' => Rep K C F PD H' (wipe σ vs) (wipeR ρ vs) ∧ Same (mask P H1) (mask PD H') ∧ Same H1 H' ∧ ∃ acc, H' D = some (.lst acc) ∧ RpL K C (mask PD H') ((l.take i).flatMap fun a => (m a).map (ev a)) acc
  refine ⟨fun i mm H' => mm = l.length - i ∧ i ≤ l.length ∧ Pv i H', ⟨l.length, by simp, Nat.zero_le _, rw0, ms, same_upd hD, [], upd_same, rfl⟩, ?_⟩
  rintro i mm H' ⟨rfl, hi, rp, sp, s1, acc, hacc, hx⟩
  by_cases hlt : i < l.length
  · refine .inr ⟨wk.goes i H' hlt (sp.trans mask_le), Pv (i + 1), fun H'' p => ⟨l.length - (i + 1), by omega, rfl, hlt, p⟩, fun x H'' y => ?_⟩
    obtain ⟨sy, a, ha, hr⟩ := wk.yields i H' x H'' hlt (sp.trans mask_le) y
    have ha' := List.mem_of_getElem? ha
    have rp2 := rp.same sy
    refine ⟨a, ha', F, PD, rp2, hr PD rp.trk sp, fun σ2 r3 ew => ⟨ew.trans (wipe_wipe vs), iteT (B := Pv (i + 1) H'') ⟨a, ha', F, PD, r3, fun J1 H4 e4 w1 => ?_⟩⟩⟩
    have s14 := sy.trans e4
    have rp4 := rp.same s14
    have r34 := r3.same e4
    have hacc4 := s14 _ _ hacc
    have hx4 := RpL.mono (mask_same (P := PD) s14) _ _ hx
    obtain ⟨wk1, hsz1⟩ := w1.walk
    have ap1 : Apart (wipe σ2 vs1) (wipeR (ρ1 a) vs1) (.ref D) (.own []) := fun j p e hj hs => by
      have key : ∀ ws : List Nat, IsOwn (wipeR (ρ1 a) ws) j → IsOwn (ρ1 a) j := by
        intro ws
        induction ws with
        | nil => exact fun z => z
        | cons b ws ih =>
          intro z
          rcases own_set z with ⟨_, _, ⟨_, q⟩ | ⟨_, q⟩⟩ | ⟨_, q⟩
          · cases q
          · cases q
          · exact ih q
      exact hno a ha' j (key vs1 hj)
    let Pv1 : Nat → Hp → Prop := fun j H5 => Rep K C F PD H5 (wipe σ vs) (wipeR ρ vs) ∧ Rep K C F PD H5 (wipe σ2 vs1) (wipeR (ρ1 a) vs1) ∧ Same (mask PD H4) (mask PD H5) ∧ Same H1 H5 ∧ ∃ acc, H5 D = some (.lst acc) ∧ RpL K C (mask PD H5) (((l.take i).flatMap fun a => (m a).map (ev a)) ++ ((m a).take j).map (ev a)) acc
    refine lc_it' wk1 Pv1
      ⟨rp4, r34.wipe vs1, Same.refl _, s1.trans s14, acc, hacc4, by simpa using hx4⟩ (fun j H5 _ p => p.2.2.1.trans mask_le) ?_ ?_
    · rintro j x1 H5 H6 hj ⟨q1, q2, q3, q4, ac, q5, q6⟩ ⟨sy1, b, hb, hr1⟩
      have hb' := List.mem_of_getElem? hb
      refine ⟨⟨a, b⟩, ⟨ha', hb'⟩, F, PD, q2.same sy1, hr1 PD q2.trk q3, fun σ3 r5 ew1 => ⟨ew1.trans (wipe_wipe vs1), iteT (B := Pv1 (j + 1) H6) ⟨⟨a, b⟩, ⟨ha', hb'⟩, F, PD, r5, fun y1 H7 e7 hy1 => ?_⟩⟩⟩
      have s57 := sy1.trans e7
      have hl7 := q6.length
      refine ⟨ac, s57 _ _ q5, ?_, ?_⟩
      · have z := flat_le (m := m) ha hj
        rw [List.length_append, flat_map_len, List.length_map, List.length_take] at hl7
        omega
      · have me : ∀ o, mask PD (upd H7 D o) = mask PD H7 := fun o => mask_upd (.inr rfl)
        refine ⟨(q1.same s57).upd (.inr rfl) h0 ap0, (q2.same s57).upd (.inr rfl) h0 ap1, by rw [me]; exact q3.trans (mask_same s57), fun c o q => ?_, _, upd_same, ?_⟩
        · rw [upd_ne (ne_of_none q hD)]
          exact s57 c o (q4 c o q)
        · rw [me, take_map_succ hb, ← List.append_assoc]
          exact (RpL.mono (mask_same s57) _ _ q6).append (RpL.one hy1)
    · rintro H5 ⟨q1, q2, q3, q4, ac, q5, q6⟩
      rw [List.take_of_length_le (Nat.le_refl _)] at q6
      exact ⟨q1, (sp.trans (mask_same s14)).trans q3, q4, ac, q5, by rw [flat_take ha]; exact q6⟩
  · have e : i = l.length := by omega
    subst e
    rw [List.take_of_length_le (Nat.le_refl _)] at hx
    exact .inl ⟨wk.stops H' (sp.trans mask_le), k D acc H' hD0 (e1.trans s1) hacc hx⟩
end
section
variable {X : Cx} {C : Addr} {ρ : List Sl} {ι κ : Type}
theorem pi_fam {ι : Type} {tg e : Expr} {t : ι → TI} {p : ι → Prop} (h : ∀ i, p i → PI X tg e (t i)) : PI X tg e (fun σ H R => ∃ i, p i ∧ t i σ H R) := ⟨fun pins s σ H R I ⟨i, hi, q⟩ => (h i hi).run pins s σ H R I q⟩
/-- [e for tg in iter for tg1 in iter1] -/
theorem f_lc2 {elt tg iter tg1 iter1 : Expr} {scope : Scope} {own : List (Str × Nat)} {pos : Pos} (vs1 : List Nat) (l : List ι) (en : ι → D) (ρ1 : ι → List Sl) (m : ι → List κ) (en1 : κ → D) (ρ2 : ι × κ → List Sl) (ev : ι → κ → D) (hc : X.calm = true) (hN : X.N.Nodup) (ok : BlkOk X.N X.env.scope scope own) (hv : ∀ i ∈ vs1, i ∈ own.map (·.2))
    (hz : (l.flatMap m).length ≤ sizeLine) (hno : ∀ a ∈ l, ∀ j, ¬ IsOwn (ρ1 a) j)
    (hi : PI X tg iter (tI X.K C ρ (l.map en)))
    (hg : ∀ (s : Shared) (H : Hp) (B : Addr) (cl : List (Str × Addr)) (fp : List Addr) (a : ι), a ∈ l → PG (X.blk s H scope (compEnvC scope cl B X.env) fp) tg (tG X.K C (own.map (·.2)) (wipeR ρ (own.map (·.2))) (en a) (ρ1 a)))
    (hi1 : ∀ (s : Shared) (H : Hp) (B : Addr) (cl : List (Str × Addr)) (fp : List Addr) (a : ι), a ∈ l → PI (X.blk s H scope (compEnvC scope cl B X.env) fp) tg1 iter1 (tI X.K C (ρ1 a) ((m a).map en1)))
    (hg1 : ∀ (s : Shared) (H : Hp) (B : Addr) (cl : List (Str × Addr)) (fp : List Addr) (q : ι × κ), (q.1 ∈ l ∧ q.2 ∈ m q.1) → PG (X.blk s H scope (compEnvC scope cl B X.env) fp) tg1 (tG X.K C vs1 (wipeR (ρ1 q.1) vs1) (en1 q.2) (ρ2 q)))
    (he : ∀ (s : Shared) (H : Hp) (B : Addr) (cl : List (Str × Addr)) (fp : List Addr) (q : ι × κ), (q.1 ∈ l ∧ q.2 ∈ m q.1) → PE (X.blk s H scope (compEnvC scope cl B X.env) fp) elt (tD X.K C (ρ2 q) (ev q.1 q.2)))
    (hs : ∀ x, foldedSetIterable iter X.env x = pure x := by intro _; rfl) (hs1 : ∀ env x, foldedSetIterable iter1 env x = pure x := by intro _ _; rfl) :
    PE X (.ListComp elt [⟨tg, iter, [], 0⟩, ⟨tg1, iter1, [], 0⟩] scope pos) (tF X.K C ρ (l.flatMap fun a => (m a).map (ev a))) :=
  pe_w (pe_lc2 hc hN hi ok hv (fun s H B cl fp => pg_fam (hg s H B cl fp)) (fun s H B cl fp => pts_nil) (fun s H B cl fp => pi_fam (hi1 s H B cl fp)) (fun s H B cl fp => pg_fam (hg1 s H B cl fp)) (fun s H B cl fp => pts_nil) (fun s H B cl fp => pe_famP (he s H B cl fp)) hs hs1) fun σ H Q h => lc2_data hz hno h
theorem s_lc2 {F : Frm} {i : Nat} {y : Str} {py spos : Pos} {elt tg iter tg1 iter1 : Expr} {scope : Scope} {own : List (Str × Nat)} {pos : Pos} (vs1 : List Nat) (l : List ι) (en : ι → D) (ρ1 : ι → List Sl) (m : ι → List κ) (en1 : κ → D) (ρ2 : ι × κ → List Sl) (ev : ι → κ → D) (hc : X.calm = true) (hN : X.N.Nodup) (ok : BlkOk X.N X.env.scope scope own) (hv : ∀ i ∈ vs1, i ∈ own.map (·.2))
    (hz : (l.flatMap m).length ≤ sizeLine) (hno : ∀ a ∈ l, ∀ j, ¬ IsOwn (ρ1 a) j)
    (hi : PI X tg iter (tI X.K C ρ (l.map en)))
    (hg : ∀ (s : Shared) (H : Hp) (B : Addr) (cl : List (Str × Addr)) (fp : List Addr) (a : ι), a ∈ l → PG (X.blk s H scope (compEnvC scope cl B X.env) fp) tg (tG X.K C (own.map (·.2)) (wipeR ρ (own.map (·.2))) (en a) (ρ1 a)))
    (hi1 : ∀ (s : Shared) (H : Hp) (B : Addr) (cl : List (Str × Addr)) (fp : List Addr) (a : ι), a ∈ l → PI (X.blk s H scope (compEnvC scope cl B X.env) fp) tg1 iter1 (tI X.K C (ρ1 a) ((m a).map en1)))
    (hg1 : ∀ (s : Shared) (H : Hp) (B : Addr) (cl : List (Str × Addr)) (fp : List Addr) (q : ι × κ), (q.1 ∈ l ∧ q.2 ∈ m q.1) → PG (X.blk s H scope (compEnvC scope cl B X.env) fp) tg1 (tG X.K C vs1 (wipeR (ρ1 q.1) vs1) (en1 q.2) (ρ2 q)))
    (he : ∀ (s : Shared) (H : Hp) (B : Addr) (cl : List (Str × Addr)) (fp : List Addr) (q : ι × κ), (q.1 ∈ l ∧ q.2 ∈ m q.1) → PE (X.blk s H scope (compEnvC scope cl B X.env) fp) elt (tD X.K C (ρ2 q) (ev q.1 q.2)))
    (hy : X.N[i]? = some y := by rfl) (hyl : X.env.scope.names.lookup y = some .local := by rfl) (hsw : swapsWith (.ListComp elt [⟨tg, iter, [], 0⟩, ⟨tg1, iter1, [], 0⟩] scope pos) (some (.Name y py)) spos.line X.env = pure true := by exact sw_true rfl rfl rfl rfl)
    (hs : ∀ x, foldedSetIterable iter X.env x = pure x := by intro _; rfl) (hs1 : ∀ env x, foldedSetIterable iter1 env x = pure x := by intro _ _; rfl) :
    PS X (.Assign [.Name y py] (.ListComp elt [⟨tg, iter, [], 0⟩, ⟨tg1, iter1, [], 0⟩] scope pos) spos) (tN X.K C F ρ (ρ.set i (.own (l.flatMap fun a => (m a).map (ev a))))) :=
  ps_w (ps_setLc2 hc hN hy hyl hsw hi ok hv (fun s H B cl fp => pg_fam (hg s H B cl fp)) (fun s H B cl fp => pts_nil) (fun s H B cl fp => pi_fam (hi1 s H B cl fp)) (fun s H B cl fp => pg_fam (hg1 s H B cl fp)) (fun s H B cl fp => pts_nil) (fun s H B cl fp => pe_famP (he s H B cl fp)) hs hs1) fun D σ H ⟨P, r, k⟩ =>
    lc2_data (Q := fun x H1 => gName i x σ H1 D.nx) hz hno ⟨F, P, r, fun p xs H2 hp e2 h2 hx => by
      obtain ⟨r2, h0, ms⟩ := r.new e2 hp ⟨_, h2⟩
      exact k _ _ H2 (r2.set (k := .own (l.flatMap fun a => (m a).map (ev a))) ⟨p, rfl, .inr rfl, h0, xs, h2, hx⟩ (apart_new (k := .own []) r hp)) ms⟩
end
end Fz
/-! The data layer: sorted. -/
namespace Fz
open PySem L2 PyProof.Rows PyProof PySem.W
open Enc (enc)

/-- data that can be sorted -/
class Lik (α : Type) [DecidableEq α] extends Enc α where
  like : ∀ a b : α, alike (Datum.toD a) (Datum.toD b) = true
class Srt (α : Type) [DecidableEq α] extends Lik α where
  kind : (∀ a : α, ∃ x r, Datum.toD a = .tuple (x :: r)) ∨ ∀ a : α, Datum.toD a ≠ .none ∧ ∀ xs, Datum.toD a ≠ .tuple xs
instance : Lik Str := { like := fun _ _ => rfl }
instance : Srt Str := { kind := .inr fun a => ⟨fun z => (nomatch z), fun _ z => (nomatch z)⟩ }
section
variable {α β γ : Type} [DecidableEq α] [Lik α] [DecidableEq β] [Lik β] [DecidableEq γ] [Lik γ]
theorem alike_map : ∀ l m : List α, alikeAll (l.map Datum.toD) (m.map Datum.toD) = true
  | [], [] => rfl
  | [], _ :: _ => rfl
  | _ :: _, [] => rfl
  | a :: l, b :: m => by
    show (alike (Datum.toD a) (Datum.toD b) && alikeAll (l.map Datum.toD) (m.map Datum.toD)) = true
    rw [Lik.like, alike_map l m]
    rfl
instance : Lik (Tup α) := { like := fun a b => alike_map a.items b.items }
instance : Lik (α × β) := { like := fun a b => Bool.and_eq_true_iff.mpr ⟨Lik.like a.1 b.1, Bool.and_eq_true_iff.mpr ⟨Lik.like a.2 b.2, rfl⟩⟩ }
instance : Lik (T3 α β γ) := { like := fun a b => Bool.and_eq_true_iff.mpr ⟨Lik.like a.a b.a, Bool.and_eq_true_iff.mpr ⟨Lik.like a.b b.b, Bool.and_eq_true_iff.mpr ⟨Lik.like a.c b.c, rfl⟩⟩⟩ }
instance : Srt (α × β) := { kind := .inl fun a => ⟨_, _, rfl⟩ }
instance : Srt (T3 α β γ) := { kind := .inl fun a => ⟨_, _, rfl⟩ }
end
def srtL {α : Type} [DecidableEq α] [Srt α] (l : List α) : List α := l.mergeSort (dataLe false (Datum.toD (α := α)))
section
variable {X : Cx} {C : Addr} {α : Type} [DecidableEq α] [Srt α]
/-- the values as they stand, one by one -/
theorem each_of {K : PySem.W.Frag} {H : Hp} : ∀ {bs : List α} {xs : List V} {vs : List Value}, RpL K C H (bs.map enc) xs → Vals xs vs → EachIs (fun v b => ∃ x, L2.RelV x v ∧ Rp K C H (enc b) x) vs bs
  | [], _, _, h, r => by
    have h : _ = [] := h
    subst h
    cases r
    exact .nil
  | b :: bs, _, _, ⟨x, t, e, h1, h2⟩, r => by
    subst e
    cases r with
    | cons r1 r2 => exact .cons ⟨x, r1, h1⟩ (each_of h2 r2)
theorem of_each {K : PySem.W.Frag} {H : Hp} : ∀ {bs : List α} {vs : List Value}, EachIs (fun v b => ∃ x, L2.RelV x v ∧ Rp K C H (enc b) x) vs bs → ∃ xs, Vals xs vs ∧ RpL K C H (bs.map enc) xs
  | [], _, h => by
    cases h
    exact ⟨[], .nil, rfl⟩
  | b :: bs, _, h => by
    cases h with
    | cons h1 h2 =>
      obtain ⟨x, r, q⟩ := h1
      obtain ⟨xs, rs, qs⟩ := of_each h2
      exact ⟨x :: xs, .cons r rs, x, xs, rfl, q, qs⟩
theorem alike_all (bs : List α) : AllAlike (bs.map Datum.toD) := fun d hd d' hd' => by
  obtain ⟨a, _, rfl⟩ := List.mem_map.mp hd
  obtain ⟨b, _, rfl⟩ := List.mem_map.mp hd'
  exact Lik.like a b
theorem sortable_all (bs : List α) : Sortable (bs.map Datum.toD) := by
  rcases Srt.kind (α := α) with h | h
  · exact .inl fun d hd => by
      obtain ⟨a, _, rfl⟩ := List.mem_map.mp hd
      exact h a
  · exact .inr fun d hd => by
      obtain ⟨a, _, rfl⟩ := List.mem_map.mp hd
      exact h a
/-- sorted of what is collected -/
theorem sorted_core {pins : List (Addr × Obj)} {σ : L2.St} {H : Hp} {s : Shared} {P : Addr → Prop} {v : Value} {Q : VK} {G : List α → Prop} (I : Inv X pins σ H s) (t : Trk P H) (hu : X.A.units + 2 + Datum.depth α < cLine)
    (col : ∀ Q' : List Value → Shared → Prop, (∀ s1 vs bs xs, (∀ b o, s.heap.get? b = some o → s1.heap.get? b = some o) → s1.gens = s.gens → s1.os = s.os → G bs → bs.length ≤ sizeLine → Vals xs vs → RpL X.K C (mask P H) (bs.map enc) xs → Q' vs s1) → wpAny (model X.prog X.w) X.A.in1 (collect v) Q' X.xe s)
    (q : ∀ bs p xs, G bs → H p = none → RpL X.K C (mask P H) ((srtL bs).map enc) xs → Q (.ref p) (upd H p (.lst xs))) :
    wpAny (model X.prog X.w) X.A (call (.builtin "sorted") [v]) (EP X pins σ Q) X.xe s := by
  refine Calls.call_function_entry kind_sorted plain_sorted entry_sorted (args_sorted1 _) ?_
  unfold Builtin.«sorted»
  refine wpAny_bind (m := checkCount "sorted" 1 1 _) (wpAny_pure ?_)
  refine wpAny_bind (col _ fun s1 vs bs xs k1 g1 o1 hG hlen rv hr => ?_)
  have hvl : vs.length = bs.length := by
    rw [← rv.length, hr.length, List.length_map]
  refine wpAny_bind (wpAny_newList ?_ (by rw [hvl]; exact hlen))
  have hoL : (s1.heap.push (seqObj "list" vs.toArray 0)).get? s1.heap.objs.size = some (seqObj "list" vs.toArray 0) := Heap.get?_push_size _ rfl
  have hH : HOk X.prog X.w H s1.heap := I.hok.kept k1
  have reads : EachIs (fun v b => ∃ as, PySem.Reads (s1.heap.push (seqObj "list" vs.toArray 0)) v (Datum.toD b) as ∧ s1.heap.objs.size ∉ as) vs bs := by
    have key : ∀ {bs : List α} {xs : List V} {vs' : List Value}, RpL X.K C (mask P H) (bs.map enc) xs → Vals xs vs' → EachIs (fun v b => ∃ as, PySem.Reads (s1.heap.push (seqObj "list" vs.toArray 0)) v (Datum.toD b) as ∧ s1.heap.objs.size ∉ as) vs' bs := by
      intro bs
      induction bs with
      | nil =>
        intro xs vs' h r
        have h : _ = [] := h
        subst h
        cases r
        exact .nil
      | cons b bs ih =>
        intro xs vs' ⟨x, tl, e, h1, h2⟩ r
        subst e
        cases r with
        | cons r1 r2 =>
          obtain ⟨as, q1⟩ := Dp.reads I (enc b).py x _ (Rp.dp _ _ (Enc.flat_enc b) (Rp.mono mask_le _ _ h1)) r1
          rw [Enc.py_enc] at q1
          have q2 := PyProof.Rows.Reads.keeps k1 q1
          refine .cons ⟨as, PyProof.Rows.Reads.keeps (fun b o z => Heap.get?_push_of_some _ z) q2, fun hm => ?_⟩ (ih h2 r2)
          obtain ⟨o, ho⟩ := PyProof.On.reads_mem_get q2 _ hm
          exact absurd (Heap.lt_size ho) (Nat.lt_irrefl _)
    exact key hr rv
  refine wpAny_bind (wpAny_holding (list_sort_data (R := fun v b => ∃ x, L2.RelV x v ∧ Rp X.K C (mask P H) (enc b) x) (s := { s1 with heap := s1.heap.push (seqObj "list" vs.toArray 0) }) hoL (each_of hr rv) reads (alike_all bs) (sortable_all bs) hlen (fun b _ => ?_) fun out hol hout => ?_))
  · have z := Datum.depth_le b
    show X.A.units + 1 + 1 + _ < cLine
    omega
  · obtain ⟨xs', rv', hr'⟩ := of_each hout
    obtain ⟨c, hc⟩ := sortedHeap_at (vs := vs) (out := List.toArray out) hoL
    have hn : H s1.heap.objs.size = none := hH.fresh (Nat.le_refl _)
    have hn0 : s.heap.get? s1.heap.objs.size = none := by
      cases e : s.heap.get? s1.heap.objs.size with
      | none => rfl
      | some o => exact absurd (Heap.lt_size (k1 _ _ e)) (Nat.lt_irrefl _)
    have kk : ∀ b o, s.heap.get? b = some o → (sortedHeap (s1.heap.push (seqObj "list" vs.toArray 0)) s1.heap.objs.size vs (List.toArray out)).get? b = some o := fun b o e => by
      have q1 := k1 b o e
      have hlt := Heap.lt_size q1
      rw [sortedHeap_old (Nat.ne_of_lt hlt) (by rw [size_push']; exact Nat.lt_succ_of_lt hlt)]
      exact Heap.get?_push_of_some _ q1
    have hlx : xs'.length ≤ sizeLine := by
      rw [rv'.length, hol]
      exact hlen
    have J : L2.Inv X pins σ (upd H s1.heap.objs.size (.lst xs')) { s with heap := sortedHeap (s1.heap.push (seqObj "list" vs.toArray 0)) s1.heap.objs.size vs (List.toArray out), gens := s1.gens, drawn := s1.drawn, toks := s1.toks } :=
      I.call (ch := []) (Un.laidN kk hn0 hn) (HOk.laidN I.hok kk hn ⟨hlx, out, c, rv', hc⟩) (by rw [g1]; exact I.bare) (fun _ z => nomatch z)
    refine wpAny_pure ⟨_, rfl, ?_⟩
    have e : ({ s1 with heap := sortedHeap (s1.heap.push (seqObj "list" vs.toArray 0)) s1.heap.objs.size vs (List.toArray out) } : Shared) = { s with heap := sortedHeap (s1.heap.push (seqObj "list" vs.toArray 0)) s1.heap.objs.size vs (List.toArray out), gens := s1.gens, drawn := s1.drawn, toks := s1.toks } := by
      cases s1
      cases s
      cases o1
      rfl
    show EP X pins σ Q _ { s1 with heap := sortedHeap (s1.heap.push (seqObj "list" vs.toArray 0)) s1.heap.objs.size vs (List.toArray out) }
    rw [e]
    exact ⟨.ref _, _, J, rfl, q bs _ xs' hG hn hr'⟩
/-- sorted(list), sorted(tuple): a new list -/
theorem c_sortL {l : List α} (hu : X.A.units + 2 + Datum.depth α < cLine) : CallR X (.builtin "sorted") (rF X.K C [.lst (l.map enc)] ((srtL l).map enc)) := by
  intro pins s σ H vs us Q I r ⟨P, t, h, k⟩
  obtain ⟨v, rfl, a, xs, rfl, h1, h2⟩ := rp1 h
  obtain ⟨u, rfl, ru⟩ := r.one
  cases (show u = Value.ref a from ru)
  obtain ⟨its, rv, ⟨o, n, ho, hc, hd⟩, hz⟩ := I.list (SqL.of (mask_le _ _ h1))
  have hlen : l.length ≤ sizeLine := by
    have z := h2.length
    rw [List.length_map] at z
    omega
  refine sorted_core (C := C) (G := fun bs => bs = l) I t hu (fun Q' hQ => ?_) fun bs p xs' hG hp hx => ?_
  · exact wpAny_collect_seq a (.inl rfl) ho hc hd.2 (fun h' k' => hQ { s with heap := h' } _ l xs k' rfl rfl rfl hlen (by simpa using rv) h2) (by have := rv.length; simp; omega)
  · subst hG
    exact k p xs' _ hp (same_upd hp) upd_same (rf_new hx hp)
theorem c_sortT {l : List α} (hu : X.A.units + 2 + Datum.depth α < cLine) : CallR X (.builtin "sorted") (rF X.K C [.tup (l.map enc)] ((srtL l).map enc)) := by
  intro pins s σ H vs us Q I r ⟨P, t, h, k⟩
  obtain ⟨v, rfl, a, xs, rfl, h1, h2⟩ := rp1 h
  obtain ⟨u, rfl, ru⟩ := r.one
  cases (show u = Value.ref a from ru)
  obtain ⟨its, rv, ⟨o, ho, hc, n, hd⟩, hz⟩ := I.tuple (sqT_same mask_le h1)
  have hlen : l.length ≤ sizeLine := by
    have z := h2.length
    rw [List.length_map] at z
    omega
  refine sorted_core (C := C) (G := fun bs => bs = l) I t hu (fun Q' hQ => ?_) fun bs p xs' hG hp hx => ?_
  · exact wpAny_collect_seq a (.inr rfl) ho hc hd (fun h' k' => hQ { s with heap := h' } _ l xs k' rfl rfl rfl hlen (by simpa using rv) h2) (by have := rv.length; simp; omega)
  · subst hG
    exact k p xs' _ hp (same_upd hp) upd_same (rf_new hx hp)
end
end Fz
/-! The data layer: tuples known as objects (x.index asks that no dict stands at them). -/
namespace Fz
open PySem L2 PyProof.Rows
open PySem.W (Datum DatumOrd Tup T3)
open Enc (enc)
section
variable {X : Cx} {C : Addr} {ρ : List Sl} {e e2 : Expr} {l : List D} {apos cpos : Pos}
theorem rp_kt {K : PySem.W.Frag} {H : Hp} {v : V} (h : Rp K C H (.tupk l) v) : Rp K C H (.tup l) v := by
  obtain ⟨a, o, xs, e1, e2, _, e4⟩ := h
  exact ⟨a, xs, e1, .inl (.inr ⟨o, e2⟩), e4⟩
theorem d_kt (h : PE X e (tD X.K C ρ (.tupk l))) : PE X e (tD X.K C ρ (.tup l)) :=
  pe_w h fun σ H Q ⟨F, P, r, k⟩ => ⟨F, P, r, fun v H2 e2 hv => k v H2 e2 (rp_kt hv)⟩
theorem c_tupLk : CallR X (.type "tuple") (rC X.K C [.lst l] (.tupk l)) := by
  intro pins s σ H vs us Q I r ⟨P, t, h, k⟩
  obtain ⟨v, rfl, a, ys, rfl, g1, g2⟩ := rp1 h
  obtain ⟨u, rfl, ru⟩ := vals1 r
  cases (show u = Value.ref a from ru)
  obtain ⟨its, rv, pl, hz⟩ := I.list (SqL.of (mask_le _ _ g1))
  refine PySem.call_tuple_list pl.isList (fun h' kp => ?_) (by have := rv.length; simp only [List.size_toArray]; omega)
  have J : L2.Inv X pins σ H { s with heap := h' } := I.kept (t' := s.toks) kp
  have hn := J.hok.fresh (a := h'.objs.size) (Nat.le_refl _)
  have J2 : L2.Inv X pins σ (upd H h'.objs.size (.frz { cls := .type "tuple", data := .seq its.toArray } (.tup ys))) { s with heap := h'.push { cls := .type "tuple", data := .seq its.toArray } } :=
    J.laid (t' := s.toks) (fun b o q => Heap.get?_push_of_some _ q) (Nat.le_refl _) ⟨Heap.get?_push_size _ rfl, hz, its, rv, ⟨_, Heap.get?_push_size _ rfl, rfl, _, rfl⟩⟩
  refine ⟨.ref h'.objs.size, _, J2, rfl, k _ _ (same_upd hn) ⟨_, { cls := .type "tuple", data := .seq its.toArray }, ys, rfl, ?_, rfl, RpL.mono (mask_same (same_upd hn)) _ _ g2⟩⟩
  rw [mask_at (t.new hn), upd_same]
/-- x.index(y), x a known tuple of texts -/
theorem d_index {ys : List Str} {z : Str} {j : Nat} (h1 : PE X e (tD X.K C ρ (.tupk (ys.map enc)))) (h2 : PE X e2 (tD X.K C ρ (.str z))) (hj : ys[j]? = some z) (hm : ∀ m, m < j → ys[m]? ≠ some z)
    (hbase : attributeBase e "index" X.env (eval e X.env) = eval e X.env := by rfl)
    (hfew : ((backTo cpos (starEach [e2] X.env)).all (fun x => !x.1) && (backToKw cpos (keywordEach [] X.env)).all (fun x => x.1.isSome) && decide ([e2].length + ([] : List Keyword).length + (if ([] : List Keyword).isEmpty then 0 else 1) < 30)) = true := by rfl)
    (hline : (apos.endLine == cpos.line) = true := by rfl) (hs : starEach [e2] X.env = (false, eval e2 X.env) :: starEach [] X.env := by rfl) (hplain : (backTo cpos (starEach [] X.env)).any (·.1) = false := by rfl) :
    PE X (.Call (.Attribute e "index" apos) [e2] [] cpos) (tD X.K C ρ (.int (j : Nat))) := by
  constructor
  intro pins s σ H Q I ⟨F, P, r, k⟩
  refine wpAny_Call_method_late hbase hfew hline rfl (thn (h1.run pins s σ H (fun v H2 => Same H H2 ∧ Rp X.K C (mask P H2) (.tupk (ys.map enc)) v) I ⟨F, P, r, fun v H2 e2 hv => ⟨e2, hv⟩⟩) fun v s1 ⟨x, H1, I1, rx, e1, hv⟩ => ?_)
  have hv0 := hv
  obtain ⟨a, o, xs, ex, ho, hd, hx⟩ := hv
  subst ex
  cases (show v = Value.ref a from rx)
  have hk := I1.hok a _ (mask_le _ _ ho)
  obtain ⟨hget, _, its, rv, o2, ho2, hc2, _⟩ := hk
  rw [hget] at ho2
  cases ho2
  refine ⟨"tuple", "tuple.index", PySem.F.plainAttrs_tuple, PySem.F.slot_tuple_index, PySem.F.type_tuple_index, ⟨o, hget, hc2⟩, fun b eb => by cases eb; exact ⟨o, hget, hd⟩, ?_⟩
  have hA := (a_cons h2 a_nil hs).run cpos pins s1 σ H1 (fun us H2 => Same H1 H2 ∧ us = [V.str z]) I1 ⟨F, P, r.same e1, fun us H2 e2 hu => by
    obtain ⟨y, rfl, hy⟩ := rp1 hu
    have hy : y = V.str z := hy
    exact ⟨e2, by rw [hy]⟩⟩
  rw [hs] at hA ⊢
  refine Calls.callWith_builtin (by show (false || (backTo cpos (starEach [] X.env)).any (·.1)) = false; rw [hplain] <;> rfl) (Calls.evalArgs_plain (thn hA fun us s2 ⟨vs, H2, I2, r2, e2, eu⟩ => ?_))
  subst eu
  have ez : xs = ys.map V.str := RpL.strs (l := ys) (show RpL X.K C (mask P H1) (ys.map D.str) xs from hx)
  exact mt_tup_index pins s2 σ H2 (.ref a) [.str z] _ us Q I2 rfl r2 ⟨a, ys, z, j, rfl, rfl, by rw [← ez]; exact .inl (.inr ⟨o, e2 _ _ (mask_le _ _ ho)⟩), hj, hm, k _ H2 (e1.trans e2) rfl⟩
end
end Fz
/-! sum of lists with a list to begin with; max of a tuple of ints. -/
namespace Fz
open PySem L2 PyProof.Rows PyProof
section
variable {prog : Program} {w : World} {A : Around} {R : Result → Shared → Prop}
theorem sub_list_s : isSubtype (.type "list") (.type "str") = pure false := by rw [isSubtype_type]; kernel_rfl
theorem sub_list_b : isSubtype (.type "list") (.type "bytes") = pure false := by rw [isSubtype_type]; kernel_rfl
theorem sub_list_ba : isSubtype (.type "list") (.type "bytearray") = pure false := by rw [isSubtype_type]; kernel_rfl
theorem args_sum_2 (a b : Value) : argsOk "sum" ⟨[a, b], []⟩ := by unfold argsOk; kernel_rfl
abbrev lsO (its : Array Value) (n : Nat) : Obj := { cls := .type "list", data := .seq its n }
theorem sum_loopL {it S L : Addr} (hh : A.handled = none) (h0 : Heap) (ts : List (Addr × List Value)) (hL : ∃ n, h0.get? L = some (lsO (ts.map fun t => Value.ref t.1).toArray n)) (ht : ∀ t ∈ ts, ∃ n, h0.get? t.1 = some (lsO t.2.toArray n))
    (hit0 : h0.get? it = none) (hS0 : h0.get? S = none) (hne : it ≠ S) :
    ∀ (k i : Nat) (s : Shared) (T : Addr) (acc : List Value) (m c : Nat), h0.objs.size ≤ s.heap.objs.size → ts.length - i = k → i ≤ ts.length → (∀ b o, h0.get? b = some o → s.heap.get? b = some o) → s.heap.IsListIter it L i → s.heap.get? S = some (lsO #[.ref T] c) →
      s.heap.get? T = some (lsO acc.toArray m) → T ≠ it → T ≠ S → acc.length + ((ts.drop i).flatMap (·.2)).length ≤ sizeLine →
      (∀ h' T' m', (∀ b o, h0.get? b = some o → h'.get? b = some o) → h'.get? T' = some (lsO (acc ++ (ts.drop i).flatMap (·.2)).toArray m') → (i < ts.length → h0.objs.size ≤ T') → (i = ts.length → T' = T) → R (.ok (.ret (.ref T'))) { s with heap := h' }) →
      codeAny (model prog w) A (.builtin "sum.loop" ⟨[.ref it, .ref S, rawInt 2, rawInt 0], []⟩) R s := by
  intro k
  induction k with
  | zero =>
    intro i s T acc m c hsz0 hk hi hkp hit hS hT n1 n2 hz hR
    have hin : i = ts.length := by omega
    obtain ⟨nL, hL'⟩ := hL
    refine codeAny_builtin F.entry_sum_loop ?_
    rw [Around.under_plainId F.plain_sum_loop _]
    show wpAny _ A.in1 (seqItems? (.ref S) >>= _) _ _ s
    refine wpAny_bind (wpAny_seqItems hS rfl ?_)
    show wpAny _ A.in1 (tryCatch (pyNext (.ref it)) _ >>= _) _ _ s
    refine wpAny_bind (wpAny_tryCatch (wpAny_pyNext_list_end (i := i) hh hit ⟨_, hkp _ _ hL', rfl, nL, rfl⟩ (by simp [hin]) fun h' hx => ?_))
    have hkp' : ∀ b o, h0.get? b = some o → h'.get? b = some o := fun b o e => hx b o (fun z => by rw [z, hit0] at e; cases e) (hkp b o e)
    refine wpAny_pure (hR h' T m hkp' ?_ (fun z => by omega) fun _ => rfl)
    have ed : (ts.drop i).flatMap (·.2) = [] := by rw [hin, List.drop_length]; rfl
    rw [ed, List.append_nil]
    exact hx T _ n1 hT
  | succ k ih =>
    intro i s T acc m c hsz0 hk hi hkp hit hS hT n1 n2 hz hR
    have hlt : i < ts.length := by omega
    obtain ⟨nL, hL'⟩ := id hL
    obtain ⟨ni, hti⟩ := ht ts[i] (List.getElem_mem hlt)
    refine codeAny_builtin F.entry_sum_loop ?_
    rw [Around.under_plainId F.plain_sum_loop _]
    show wpAny _ A.in1 (seqItems? (.ref S) >>= _) _ _ s
    refine wpAny_bind (wpAny_seqItems hS rfl ?_)
    show wpAny _ A.in1 (tryCatch (pyNext (.ref it)) _ >>= _) _ _ s
    refine wpAny_bind (wpAny_tryCatch (wpAny_pyNext_list_item (i := i) (x := .ref ts[i].1) hit ⟨_, hkp _ _ hL', rfl, nL, rfl⟩ (by simp [hlt]) fun h1 hit1 sb => ?_))
    have hkp1 : ∀ b o, h0.get? b = some o → h1.get? b = some o := fun b o e => (sb.2 b (fun z => by rw [z, hit0] at e; cases e)).trans (hkp b o e)
    have hS1 : h1.get? S = some (lsO #[.ref T] c) := (sb.2 S (Ne.symm hne)).trans hS
    have hT1 : h1.get? T = some (lsO acc.toArray m) := (sb.2 T n1).trans hT
    have ed : (ts.drop i).flatMap (·.2) = ts[i].2 ++ (ts.drop (i + 1)).flatMap (·.2) := by
      rw [List.drop_eq_getElem_cons hlt, List.flatMap_cons]
    have hz2 := hz
    rw [ed, List.length_append] at hz2
    show wpAny _ A.in1 ((holding [Value.ref ts[i].1] (binaryOp .Add (.ref T) (.ref ts[i].1))).attempt >>= _) _ _ _
    refine wpAny_bind (wpAny_attempt (wpAny_holding (PySem.P.add_list (s := { s with heap := h1 }) hT1 (hkp1 _ _ hti) ?_ (by simp only [List.size_toArray]; omega))))
    have szS : S < h1.objs.size := Heap.lt_size hS1
    have szI : it < h1.objs.size := by obtain ⟨_, q, _⟩ := hit1; exact Heap.lt_size q
    have hS2 : (h1.push (lsO (acc.toArray ++ ts[i].2.toArray) 0)).get? S = some (lsO #[.ref T] c) := Heap.get?_push_of_some _ hS1
    show wpAny _ A.in1 (updateSeq S (fun _ => #[.ref h1.objs.size]) >>= _) _ _ { s with heap := h1.push (lsO (acc.toArray ++ ts[i].2.toArray) 0) }
    refine wpAny_bind (wpAny_updateSeq hS2 rfl ?_)
    refine wpAny_bind (wpAny_letGo ?_)
    have hS3 := Heap.get?_update_self (Obj.mapSeq fun _ => #[Value.ref h1.objs.size]) hS2 rfl
    show wpAny _ A.in1 (updateSeq S (fun _ => #[.ref h1.objs.size]) >>= _) _ _ _
    refine wpAny_bind (wpAny_updateSeq hS3 rfl ?_)
    have oth : ∀ b o, b ≠ S → h1.get? b = some o → (((h1.push (lsO (acc.toArray ++ ts[i].2.toArray) 0)).update S (Obj.mapSeq fun _ => #[Value.ref h1.objs.size])).update S (Obj.mapSeq fun _ => #[Value.ref h1.objs.size])).get? b = some o := fun b o hb e =>
      (Heap.get?_update_other _ _ (Ne.symm hb)).trans ((Heap.get?_update_other _ _ (Ne.symm hb)).trans (Heap.get?_push_of_some _ e))
    have new : (((h1.push (lsO (acc.toArray ++ ts[i].2.toArray) 0)).update S (Obj.mapSeq fun _ => #[Value.ref h1.objs.size])).update S (Obj.mapSeq fun _ => #[Value.ref h1.objs.size])).get? h1.objs.size = some (lsO (acc ++ ts[i].2).toArray 0) := by
      refine (Heap.get?_update_other _ _ (Nat.ne_of_lt szS)).trans ((Heap.get?_update_other _ _ (Nat.ne_of_lt szS)).trans ((Heap.get?_push_size _ rfl).trans ?_))
      simp
    refine wpAny_pure ⟨plainId_quiet F.plain_sum_loop _, ih (i + 1) _ h1.objs.size (acc ++ ts[i].2) 0 _ (by rw [Heap.size_update, Heap.size_update, Heap.size_push, sb.1]; omega) (by omega) hlt (fun b o e => oth b o (fun z => by rw [z, hS0] at e; cases e) (hkp1 b o e)) (hit1.at fun o e => oth it o hne e) (Heap.get?_update_self _ hS3 rfl) new (Nat.ne_of_gt szI) (Nat.ne_of_gt szS) (by rw [List.length_append]; omega) fun h' T' m' k' e' b1 b2 => ?_⟩
    refine hR h' T' m' k' (by rw [ed, ← List.append_assoc]; exact e') (fun _ => ?_) (fun z => absurd z (Nat.ne_of_lt hlt))
    by_cases hl2 : i + 1 < ts.length
    · exact b1 hl2
    · rw [b2 (by omega)]
      rw [sb.1]
      exact hsz0
theorem call_sumL {E : Value → Shared → Prop} {s : Shared} {L T0 : Addr} {Q : Value → Shared → Prop} (hh : A.handled = none) (ts : List (Addr × List Value)) (hL : ∃ n, s.heap.get? L = some (lsO (ts.map fun t => Value.ref t.1).toArray n)) (ht : ∀ t ∈ ts, ∃ n, s.heap.get? t.1 = some (lsO t.2.toArray n))
    (hT : ∃ n, s.heap.get? T0 = some (lsO #[] n)) (hz : (ts.flatMap (·.2)).length ≤ sizeLine)
    (hQ : ∀ h' T' m', (∀ b o, s.heap.get? b = some o → h'.get? b = some o) → h'.get? T' = some (lsO (ts.flatMap (·.2)).toArray m') → (0 < ts.length → s.heap.objs.size ≤ T') → (ts.length = 0 → T' = T0) → Q (.ref T') { s with heap := h' }) :
    wpAny (model prog w) A (call (.builtin "sum") [.ref L, .ref T0]) Q E s := by
  obtain ⟨nL, hL'⟩ := id hL
  obtain ⟨nT, hT'⟩ := hT
  refine call_function_tree F.kind_sum F.plain_sum F.entry_sum (args_sum_2 _ _) ?_
  unfold Builtin.«sum»
  simp only [List.length_cons, List.length_nil]
  rw [if_neg (by decide)]
  refine wpAny_bind (wpAny_of_eq (show Builtin.Builtins.bindParams "sum" ["start"] 0 ⟨[.ref T0], []⟩ = pure [some (.ref T0)] from rfl) ?_)
  refine wpAny_bind (wpAny_pyIter_list (items := (ts.map fun t => Value.ref t.1).toArray) ⟨_, hL', rfl, nL, rfl⟩ ?_)
  refine wpAny_bind (wpAny_pure ?_)
  have tT : ({ s with heap := s.heap.push { cls := .type "list_iterator", data := .fields #[.ref L, .int 0 0] } } : Shared).TypeIs (.ref T0) "list" := ⟨_, Heap.get?_push_of_some _ hT', rfl⟩
  simp only [List.forIn_cons, List.forIn_nil]
  refine wpAny_bind (wpAny_bind (wpAny_bind (wpAny_isInstance (T := "list") (b := false) tT sub_list_s ?_)))
  simp only [Bool.false_eq_true, if_false]
  refine wpAny_pure (wpAny_bind (wpAny_bind (wpAny_isInstance (T := "list") (b := false) tT sub_list_b ?_)))
  simp only [Bool.false_eq_true, if_false]
  refine wpAny_pure (wpAny_bind (wpAny_bind (wpAny_isInstance (T := "list") (b := false) tT sub_list_ba ?_)))
  simp only [Bool.false_eq_true, if_false]
  refine wpAny_pure (wpAny_pure ?_)
  refine wpAny_bind (wpAny_newObj_type ?_)
  have hz1 : (s.heap.push { cls := .type "list_iterator", data := .fields #[.ref L, .int 0 0] }).objs.size = s.heap.objs.size + 1 := Heap.size_push ..
  have e0 : s.heap.get? s.heap.objs.size = none := by
    cases q : s.heap.get? s.heap.objs.size with
    | none => rfl
    | some o => exact absurd (Heap.lt_size q) (Nat.lt_irrefl _)
  have e1 : s.heap.get? (s.heap.objs.size + 1) = none := by
    cases q : s.heap.get? (s.heap.objs.size + 1) with
    | none => rfl
    | some o => exact absurd (Nat.lt_succ_self _) (Nat.not_lt.mpr (Nat.le_of_lt (Heap.lt_size q)))
  have hlt0 : T0 < s.heap.objs.size := Heap.lt_size hT'
  refine wpAny_pure ⟨plainId_quiet F.plain_sum_loop _, ?_⟩
  have key := sum_loopL (prog := prog) (w := w) (A := A) (R := fun r s' => match r with | .ok (.ret v) => Q v s' | .ok _ => False | .error e => E e s') (it := s.heap.objs.size) (S := s.heap.objs.size + 1) (L := L) hh s.heap ts hL ht e0 e1 (Nat.ne_of_lt (Nat.lt_succ_self _)) ts.length 0
    { s with heap := (s.heap.push { cls := .type "list_iterator", data := .fields #[.ref L, .int 0 0] }).push (lsO #[.ref T0] 0) } T0 [] nT 0 (by rw [Heap.size_push, Heap.size_push]; omega) (by omega) (Nat.zero_le _) (fun b o q => Heap.get?_push_of_some _ (Heap.get?_push_of_some _ q)) ⟨_, Heap.get?_push_of_some _ (Heap.get?_push_size _ rfl), rfl, rfl⟩ (by rw [← hz1]; exact Heap.get?_push_size _ rfl)
    (Heap.get?_push_of_some _ (Heap.get?_push_of_some _ hT')) (Nat.ne_of_lt hlt0) (Nat.ne_of_lt (Nat.lt_succ_of_lt hlt0)) (by simpa using hz) (fun h' T' m' k e b1 b2 => hQ h' T' m' k (by simpa using e) b1 fun z => b2 z.symm)
  rw [← hz1] at key
  exact key
end
open Enc (enc)
section
variable {X : Cx} {C : Addr}
theorem lists_at {pins : List (Addr × Obj)} {σ : L2.St} {H : Hp} {P : Addr → Prop} {s : Shared} (I : L2.Inv X pins σ H s) : ∀ {ls : List (List D)} {xs : List V} {us : List Value}, RpL X.K C (mask P H) (ls.map D.lst) xs → Vals xs us →
    ∃ (ts : List (Addr × List Value)) (ys : List V), us = ts.map (fun t => Value.ref t.1) ∧ (∀ t ∈ ts, ∃ n, s.heap.get? t.1 = some (lsO t.2.toArray n)) ∧ Vals ys (ts.flatMap (·.2)) ∧ RpL X.K C (mask P H) ls.flatten ys ∧ ts.length = ls.length
  | [], xs, us, h, r => by
    have h : xs = [] := h
    subst h
    cases r
    exact ⟨[], [], rfl, fun t ht => (by cases ht), .nil, rfl, rfl⟩
  | l :: ls, xs, us, ⟨x, t, e, ⟨a, ys, ex, h1, h2⟩, h3⟩, r => by
    subst e ex
    cases r with
    | cons r1 r2 =>
      obtain ⟨ts, zs, q1, q2, q3, q4, q5⟩ := lists_at I h3 r2
      have r1 := (show _ = Value.ref a from r1)
      subst r1 q1
      obtain ⟨_, its, n, rv, _, hg⟩ := I.lstM (mask_le _ _ h1)
      refine ⟨(a, its) :: ts, ys ++ zs, rfl, fun u hu => ?_, ?_, ?_, congrArg Nat.succ q5⟩
      · rcases List.mem_cons.mp hu with e | hu
        · subst e
          exact ⟨n, hg⟩
        · exact q2 u hu
      · rw [List.flatMap_cons]
        exact rv.append q3
      · rw [List.flatten_cons]
        exact h2.append q4
/-- sum(lists, []) -/
theorem c_sumL {ls : List (List D)} (hc : X.calm = true) (hz : ls.flatten.length ≤ sizeLine) : CallR X (.builtin "sum") (rC X.K C [.lst (ls.map D.lst), .lst []] (.lst ls.flatten)) := by
  intro pins s σ H vs us Q I r ⟨P, t, h, k⟩
  obtain ⟨v, v2, rfl, ⟨a, xs, rfl, h1, h2⟩, ⟨b, zs, rfl, h3, h4⟩⟩ := rp2 h
  have h4 : zs = [] := h4
  subst h4
  obtain ⟨u, u2, rfl, ru, ru2⟩ := vals2 r
  cases (show u = Value.ref a from ru)
  cases (show u2 = Value.ref b from ru2)
  obtain ⟨_, its, n, rv, _, hg⟩ := I.lstM (mask_le _ _ h1)
  obtain ⟨_, its2, n2, rv2, _, hg2⟩ := I.lstM (mask_le _ _ h3)
  cases rv2
  obtain ⟨ts, ys, q1, q2, q3, q4, q5⟩ := lists_at I h2 rv
  have hlen : (ts.flatMap (·.2)).length = ls.flatten.length := by rw [← q3.length, q4.length]
  refine call_sumL (I.ok.hd hc) ts ⟨n, by rw [← q1]; exact hg⟩ q2 ⟨n2, hg2⟩ (by rw [hlen]; exact hz) fun h' T' m' kp hT b1 b2 => ?_
  have hyl : ys.length ≤ sizeLine := by rw [q4.length]; exact hz
  by_cases hn : ts.length = 0
  · have eT := b2 hn
    subst eT
    have el : ls = [] := List.length_eq_zero_iff.mp (q5.symm.trans hn)
    subst el
    exact ⟨.ref T', H, I.kept (t' := s.toks) kp, rfl, k _ H (Same.refl H) ⟨T', [], rfl, h3, rfl⟩⟩
  · have hge := b1 (Nat.pos_of_ne_zero hn)
    have hTn : H T' = none := I.hok.fresh hge
    have J : L2.Inv X pins σ (upd H T' (.lst ys)) { s with heap := h' } := I.laid (t' := s.toks) kp hge ⟨hyl, _, m', q3, hT⟩
    refine ⟨.ref T', _, J, rfl, k _ _ (same_upd hTn) ⟨T', ys, rfl, ?_, RpL.mono (mask_same (same_upd hTn)) _ _ q4⟩⟩
    rw [mask_at (t.new hTn), upd_same]
/-- max of a tuple of ints, one at least -/
theorem c_maxT {x : Int} {xs : List Int} (hc : X.calm = true) (hu : X.A.units + 1 + PySem.W.Datum.depth Int < cLine) : CallR X (.builtin "max") (rC X.K C [.tup ((x :: xs).map enc)] (.int (PySem.W.maxOf x xs))) := by
  intro pins s σ H vs us Q I r ⟨P, t, h, k⟩
  obtain ⟨v, rfl, h1⟩ := rp1 h
  obtain ⟨u, rfl, ru⟩ := vals1 r
  obtain ⟨p, its, rfl, hp, ha⟩ := tup_at I h1 ru
  refine PySem.W.max_tuple_datum (I.ok.hd hc) hp (by simpa using ha) hu fun i v h' tk hv hold kp => ?_
  obtain ⟨as, hr⟩ := hold
  have J : L2.Inv X pins σ H { s with heap := h', toks := tk } := I.kept kp
  have hr : PySem.Reads h' v (.int (PySem.W.maxOf x xs)) as := hr
  cases hr with
  | int _ tt => exact ⟨.int _, H, J, ⟨tt, rfl⟩, k _ H (Same.refl H) rfl⟩
end
end Fz
/-! The data layer: a dict whose keys are pairs of tuples of ints. -/
namespace Fz
open PySem L2 PyProof PyProof.Rows
open PySem.W (Datum DatumOrd Tup T3)
open Enc (enc)
section
theorem num_inj : ∀ {l m : List Int}, l.map NestedKey.num = m.map NestedKey.num → l = m
  | [], [], _ => rfl
  | [], _ :: _, h => by cases h
  | _ :: _, [], h => by cases h
  | a :: l, b :: m, h => by
    rw [List.map_cons, List.map_cons] at h
    injection h with h1 h2
    injection h1 with h1
    rw [h1, num_inj h2]
theorem nkey_inj {k k' : BK} (h : nkey k = nkey k') : k = k' := by
  unfold nkey at h
  injection h with h
  injection h with h1 h2
  injection h2 with h2 _
  injection h1 with h1
  injection h2 with h2
  exact Prod.ext (num_inj h1) (num_inj h2)
theorem nd_nums : ∀ l : List Int, NestedKey.depthAll (l.map .num) = 0
  | [] => rfl
  | a :: l => by
    show max 0 (NestedKey.depthAll (l.map .num)) = 0
    rw [nd_nums l]
    rfl
theorem nkey_depth (k : BK) : (nkey k).depth ≤ 8 := by
  show max (NestedKey.depthAll (k.1.map .num) + 1) (max (NestedKey.depthAll (k.2.map .num) + 1) 0) + 1 ≤ 8
  rw [nd_nums, nd_nums]
  decide
variable {X : Cx} {pins : List (Addr × Obj)} {σ : L2.St} {H : Hp} {s : Shared}
theorem nested_ints (I : L2.Inv X pins σ H s) : ∀ {l : List Int} {us : List Value}, Vals (l.map V.int) us → NestedAll s.heap (l.map .num) us
  | [], _, r => by
    cases r
    exact .nil
  | i :: l, _, r => by
    cases r with
    | cons r1 r2 =>
      obtain ⟨t, rfl⟩ := r1
      exact .cons (.int i t) (nested_ints I r2)
theorem nested_key (I : L2.Inv X pins σ H s) {k : BK} {a : Addr} (h : KeyAt X.K H k a) : NestedIs s.heap (nkey k) (.ref a) := by
  obtain ⟨a1, a2, h1, h2, h3⟩ := h
  obtain ⟨its, rv, ⟨o, ho, hc, n, hd⟩, _⟩ := I.tuple h1
  obtain ⟨its1, rv1, ⟨o1, ho1, hc1, n1, hd1⟩, _⟩ := I.tuple h2
  obtain ⟨its2, rv2, ⟨o2, ho2, hc2, n2, hd2⟩, _⟩ := I.tuple h3
  cases rv with
  | cons r1 rr =>
    cases rr with
    | cons r2 rr =>
      cases rr
      cases (show _ = Value.ref a1 from r1)
      cases (show _ = Value.ref a2 from r2)
      exact .tup ho hc hd (.cons (.tup ho1 hc1 hd1 (by simpa using nested_ints I rv1)) (.cons (.tup ho2 hc2 hd2 (by simpa using nested_ints I rv2)) .nil))
theorem key_of {K : PySem.W.Frag} {C : Addr} {B : Hp} {k : BK} {v : V} (h : Rp K C B (enc ((⟨k.1⟩, ⟨k.2⟩) : Tup Int × Tup Int)) v) : ∃ a, v = .ref a ∧ KeyAt K B k a := by
  obtain ⟨a, xs, e, h1, h2⟩ := h
  obtain ⟨x, t, e2, ⟨a1, ys, e3, g1, g2⟩, h3⟩ := h2
  obtain ⟨y, t2, e4, ⟨a2, zs, e5, g3, g4⟩, h4⟩ := h3
  have h4 : t2 = [] := h4
  subst e2 e4 e3 e5 h4
  refine ⟨a, e, a1, a2, h1, ?_, ?_⟩
  · rw [← RpL.ints (l := k.1) (show RpL K C B (k.1.map D.int) ys from g2)]
    exact g1
  · rw [← RpL.ints (l := k.2) (show RpL K C B (k.2.map D.int) zs from g4)]
    exact g3
theorem book_dict {w : World} {f : BK → Bool} {S : List BK} {p : Addr} {B : Hp} (I : L2.Inv X pins σ H s) (e : Same B H) (h : BookAt X.K B H p w f S) : ∃ xs, s.heap.DictOfH (nestedKind X.prog w) p xs ∧ (∀ x ∈ xs, ∃ k, x.1 = nkey k ∧ x.2.2 = .bool (f k) ∧ KeyAt X.K B k x.2.1) ∧ (∀ k ∈ S, ∃ x ∈ xs, x.1 = nkey k) ∧ xs.length ≤ S.length := by
  obtain ⟨o, es, ep, xs, h1, h2, h3, h4, h5, h6, h7, h8⟩ := h
  obtain ⟨hg, _, _⟩ := I.hok p _ h1
  refine ⟨xs, ⟨o, es, ep, hg, h2, h3, h4, fun x hx => ?_, h5⟩, h6, h7, h8⟩
  obtain ⟨k, e1, _, e2⟩ := h6 x hx
  rw [e1]
  exact ⟨nested_key I (e2.mono e), nkey_depth k⟩
theorem mem_storedH {xs : List (NestedKey × Addr × Value)} {k : NestedKey} {a : Addr} {v : Value} {y : NestedKey × Addr × Value} (h : y ∈ storedH xs k a v) : y ∈ xs ∨ y = (k, a, v) ∨ ∃ b, (∃ u, (k, b, u) ∈ xs) ∧ y = (k, b, v) := by
  unfold storedH at h
  split at h
  · obtain ⟨x, hx, rfl⟩ := List.mem_map.mp h
    unfold putAt
    split
    · rename_i e
      refine .inr (.inr ⟨x.2.1, ⟨x.2.2, ?_⟩, by rw [e]⟩)
      rw [← e]
      exact hx
    · exact .inl hx
  · rcases List.mem_append.mp h with h | h
    · exact .inl h
    · exact .inr (.inl (by simpa using h))
theorem keys_storedH {xs : List (NestedKey × Addr × Value)} {k : NestedKey} {a : Addr} {v : Value} : (∃ y ∈ storedH xs k a v, y.1 = k) ∧ (∀ x ∈ xs, ∃ y ∈ storedH xs k a v, y.1 = x.1) ∧ (storedH xs k a v).length ≤ xs.length + 1 := by
  unfold storedH
  split
  · rename_i h
    have keyp : ∀ x : NestedKey × Addr × Value, (putAt k v x).1 = x.1 := fun x => by unfold putAt; split <;> rfl
    refine ⟨?_, fun x hx => ⟨_, List.mem_map.mpr ⟨x, hx, rfl⟩, keyp x⟩, by rw [List.length_map]; omega⟩
    unfold atKey at h
    rw [Option.isSome_map] at h
    obtain ⟨x, hx⟩ := Option.isSome_iff_exists.mp h
    have h1 := List.find?_some hx
    have h2 := List.mem_of_find?_eq_some hx
    exact ⟨_, List.mem_map.mpr ⟨x, h2, rfl⟩, (keyp x).trans (of_decide_eq_true h1)⟩
  · exact ⟨⟨_, List.mem_append_right _ List.mem_cons_self, rfl⟩, fun x hx => ⟨x, List.mem_append_left _ hx, rfl⟩, by rw [List.length_append]; exact Nat.le_refl _⟩
def tBk (K : PySem.W.Frag) (w : World) : TSet := fun o i v H Q => ∃ (p a : Addr) (B : Hp) (f : BK → Bool) (S : List BK) (k : BK), o = .ref p ∧ i = .ref a ∧ v = .bl (f k) ∧ Same B H ∧ BookAt K B H p w f S ∧ KeyAt K B k a ∧ S.length < sizeLine ∧ ∀ ob, BookAt K B (L2.upd H p ob) p w f (S ++ [k]) → Q (L2.upd H p ob)
theorem set_book (hu : X.A.units + 64 < cLine) : PSet X (tBk X.K X.w) := by
  intro pins s σ H o i v ov iv u Q I ro ri rv h
  obtain ⟨p, a, B, f, S, k, rfl, rfl, rfl, sb, hb, hk, hz, q⟩ := h
  cases (show ov = Value.ref p from ro)
  cases (show iv = Value.ref a from ri)
  cases (show u = Value.bool (f k) from rv)
  obtain ⟨xs, hm, h6, h7, h8⟩ := book_dict I sb hb
  have hin : (nestedKind X.prog X.w).is s.heap (nkey k) a := ⟨nested_key I (hk.mono sb), nkey_depth k⟩
  refine wpAny_setItem_heap (show X.A.in1.units + 8 < cLine by show X.A.units + 1 + 8 < cLine; omega) hin hm (fun h' hm' sbut => ?_) (by omega)
  obtain ⟨o', es', ep', g1, g2, g3, g4, g5, g6⟩ := hm'
  obtain ⟨o0, es0, ep0, xs0, z1, _⟩ := id hb
  have J : L2.Inv X pins σ (L2.upd H p (.ext fun h => h.get? p = some o')) { s with heap := h', toks := s.toks + (nestedKind X.prog X.w).draws (nkey k) } := by
    refine I.write (x := p) (e := p) (by rw [z1]; exact trivial) (.inl rfl) (fun b u hbp e => (sbut.2 b hbp).trans e) ⟨_, g1⟩ ?_
    exact ⟨g1, ⟨_, g1⟩, fun h1 h2 e k' => k' _ e⟩
  refine ⟨_, J, q _ ⟨o', es', ep', storedH xs (nkey k) a (.bool (f k)), upd_same, g2, g3, g4, g6, fun y hy => ?_, fun j hj => ?_, ?_⟩⟩
  · rcases mem_storedH hy with hy | hy | ⟨b, ⟨u, hb2⟩, hy⟩
    · exact h6 y hy
    · rw [hy]
      exact ⟨k, rfl, rfl, hk⟩
    · obtain ⟨k2, e1, e2, e3⟩ := h6 _ hb2
      have ek : k = k2 := nkey_inj e1
      subst ek
      rw [hy]
      exact ⟨k, rfl, rfl, e3⟩
  · have ks := keys_storedH (xs := xs) (k := nkey k) (a := a) (v := .bool (f k))
    rcases List.mem_append.mp hj with hj | hj
    · obtain ⟨x, hx, ex⟩ := h7 j hj
      obtain ⟨y, hy, ey⟩ := ks.2.1 x hx
      exact ⟨y, hy, ey.trans ex⟩
    · have ej : j = k := by simpa using hj
      subst ej
      exact ks.1
  · have ks := (keys_storedH (xs := xs) (k := nkey k) (a := a) (v := .bool (f k))).2.2
    rw [List.length_append]
    exact Nat.le_trans ks (Nat.add_le_add_right h8 1)
end
section
variable {X : Cx} {C : Addr} {ρ : List Sl} {pos p2 : Pos}
/-- {}, to be such a dict -/
theorem k_book {w : World} {f : BK → Bool} : PE X (.Dict [] [] pos) (tK X.K C ρ (.ow (phB w f []))) := by
  constructor
  intro pins s σ H Q I ⟨F, P, r, k⟩
  have hn := I.hok.fresh (a := s.heap.objs.size) (Nat.le_refl _)
  have hg : (s.heap.push { cls := .type "dict", data := .dict #[] }).get? s.heap.objs.size = some { cls := .type "dict", data := .dict #[] } := Heap.get?_push_size _ rfl
  have J : L2.Inv X pins σ (L2.upd H s.heap.objs.size (.ext fun h => h.get? s.heap.objs.size = some { cls := .type "dict", data := .dict #[] })) { s with heap := s.heap.push { cls := .type "dict", data := .dict #[] } } :=
    I.laid (t' := s.toks) (fun b o e => Heap.get?_push_of_some _ e) (Nat.le_refl _) ⟨hg, ⟨_, hg⟩, fun h1 h2 e k' => k' _ e⟩
  obtain ⟨r2, h0, ms⟩ := r.new (same_upd hn) hn ⟨_, upd_same⟩
  refine wpAny_Dict_empty ⟨.ref s.heap.objs.size, _, J, rfl, k _ _ _ r2 ⟨fun a q => .inl q, same_upd hn, ms⟩ (fun b e => by cases e; exact hn) ⟨_, rfl, .inr rfl, h0, { cls := .type "dict", data := .dict #[] }, #[], 0, [], upd_same, ⟨rfl, rfl, rfl⟩, rfl, rfl, List.nodup_nil, fun x hx => (by cases hx), fun x hx => (by cases hx), Nat.le_refl _⟩⟩
/-- d[k] = e -/
theorem s_book {F : Frm} {i : Nat} {x : Str} {px ps2 : Pos} {ie e : Expr} {f : BK → Bool} {S : List BK} {k : BK} (hu : X.A.units + 64 < cLine) (hi : ρ[i]? = some (.ow (phB X.w f S))) (hz : S.length < sizeLine) (he : PE X e (tD X.K C ρ (.bl (f k)))) (hk : PE X ie (tD X.K C ρ (enc ((⟨k.1⟩, ⟨k.2⟩) : Tup Int × Tup Int))))
    (hN : X.N[i]? = some x := by rfl) (hv : Vis X.env.scope x := by first | exact Or.inl rfl | exact Or.inr (Or.inl rfl) | exact Or.inr (Or.inr rfl))
    (hd : (x == ("__debug__" : Str)) = false := by decide) (hcd : (x == ("__classdict__" : Str)) = false := by decide)
    (ha : ∀ v, assign (.Subscript (.Name x px) ie ps2) X.env v = (do
      let ov ← holding [v] (eval (.Name x px) X.env)
      let iv ← holding [v, ov] (eval ie X.env)
      standAt ps2
      holding [v, ov, iv] (setItem ov iv v)
      release [v, ov, iv] []) := by intro _; rfl)
    (hs : swapsWithSole [.Subscript (.Name x px) ie ps2] e pos.line X.env = pure false := by rfl) (hw : swappedStores [.Subscript (.Name x px) ie ps2] e X.env = pure none := by rfl)
    (h1 : (assignEach [.Subscript (.Name x px) ie ps2] X.env).map (·.2) = [assign (.Subscript (.Name x px) ie ps2) X.env] := by rfl) :
    PS X (.Assign [.Subscript (.Name x px) ie ps2] e pos) (tN X.K C F ρ (ρ.set i (.ow (phB X.w f (S ++ [k]))))) :=
  ps_w (ps_asg he (pg_sub (pe_var hN hv hd hcd) hk (set_book hu) ha) hs hw h1) fun D σ H ⟨P, r, kk⟩ => ⟨F, P, r, fun v H2 e2 hv => by
    have r2 := r.same e2
    obtain ⟨p, q1, q2, q3, q4⟩ := r2.own i _ hi
    refine ⟨.ref p, q1, F, P, r2, fun y H3 e3 hy => ?_⟩
    obtain ⟨a, ey, hka⟩ := key_of hy
    subst ey
    have r3 := r2.same e3
    have hv : v = V.bl (f k) := hv
    have q5 : BookAt X.K (mask P H3) H3 p X.w f S := Ph.same (φ := phB X.w f S) e3 q4
    refine ⟨p, a, mask P H3, f, S, k, rfl, rfl, hv, mask_le, q5, hka, hz, fun ob hb => ?_⟩
    obtain ⟨r4, s4⟩ := r3.rewrite (i := i) (φ' := phB X.w f (S ++ [k])) (o := ob) hi q1 hb
    exact kk P σ _ r4 ((mask_same (e2.trans e3)).trans s4)⟩
/-- d[k] -/
theorem d_bget {o ie : Expr} {f : BK → Bool} {S : List BK} {k : BK} (hu : X.A.units + 64 < cLine) (hk : k ∈ S) (h1 : PE X o (tD X.K C ρ (.book X.w f S))) (h2 : PE X ie (tD X.K C ρ (enc ((⟨k.1⟩, ⟨k.2⟩) : Tup Int × Tup Int)))) (hs : NoSl ie := by exact fun _ _ => rfl) :
    PE X (.Subscript o ie pos) (tD X.K C ρ (.bl (f k))) := by
  constructor
  intro pins s σ H Q I ⟨F, P, r, kk⟩
  refine subD_of PySem.F.slot_dict_getitem.lookup hs (thn (h1.run pins s σ H (fun v H2 => Same H H2 ∧ Rp X.K C (mask P H2) (.book X.w f S) v) I ⟨F, P, r, fun v H2 e2 hv => ⟨e2, hv⟩⟩) fun u s1 ⟨x, H1, I1, rx, e1, p, ex, hb⟩ => thn (h2.run pins s1 σ H1 (fun v H2 => Same H1 H2 ∧ Rp X.K C (mask P H2) (enc ((⟨k.1⟩, ⟨k.2⟩) : Tup Int × Tup Int)) v) I1 ⟨F, P, r.same e1, fun v H2 e2 hv => ⟨e2, hv⟩⟩) fun iv s2 ⟨y, H2, I2, ry, e2, hy⟩ => ?_)
  subst ex
  obtain rfl : u = Value.ref p := rx
  obtain ⟨a, ey, hka⟩ := key_of hy
  subst ey
  obtain rfl : iv = Value.ref a := ry
  have hb2 : BookAt X.K (mask P H2) (mask P H2) p X.w f S := hb.mono (mask_same e2) (by obtain ⟨o, z⟩ := hb.live; rw [z]; exact mask_same e2 _ _ z)
  have hb3 : BookAt X.K (mask P H2) H2 p X.w f S := hb2.mono (Same.refl _) (by obtain ⟨o, z⟩ := hb2.live; rw [z]; exact mask_le _ _ z)
  obtain ⟨xs, hm, h6, h7, h8⟩ := book_dict I2 mask_le hb3
  have hin : (nestedKind X.prog X.w).is s2.heap (nkey k) a := ⟨nested_key I2 (hka.mono mask_le), nkey_depth k⟩
  obtain ⟨x, hx, exk⟩ := h7 k hk
  have hat : ∃ q, atKey xs (nkey k) = some q ∧ q.2 = .bool (f k) := by
    unfold atKey
    have hf : (xs.find? fun x => decide (x.1 = nkey k)).isSome = true := by
      rw [List.find?_isSome]
      exact ⟨x, hx, decide_eq_true exk⟩
    obtain ⟨y, hy⟩ := Option.isSome_iff_exists.mp hf
    rw [hy]
    refine ⟨y.2, rfl, ?_⟩
    obtain ⟨k2, e1, e2, _⟩ := h6 y (List.mem_of_find?_eq_some hy)
    have h3 := List.find?_some hy
    have ek : k2 = k := nkey_inj (e1.symm.trans (of_decide_eq_true h3))
    rw [e2, ek]
  obtain ⟨q, hq, hqv⟩ := hat
  refine ⟨hm.typeIs, wpAny_getItem_heap (show X.A.in1.units + 8 < cLine by show X.A.units + 1 + 8 < cLine; omega) hin hm hq ?_⟩
  rw [hqv]
  exact ⟨.bl (f k), H2, I2.tok _, rfl, kk _ H2 (e1.trans e2) rfl⟩
theorem b_gv {F : Frm} {G : VK} {sts : List Stmt} {w : World} {f : BK → Bool} {S : List BK} (i : Nat) (hi : ρ[i]? = some (.ow (phB w f S))) (h : PSs X sts (tRG X.K C F (ρ.set i (.dat (.book w f S))) G)) : PSs X sts (tRG X.K C F ρ G) :=
  pss_w h fun D σ H ⟨P, r, k⟩ => by
    obtain ⟨P2, r2, s2⟩ := r.give (d := .book w f S) hi fun B p q B' e z => ⟨p, rfl, BookAt.mono e z q⟩
    exact ⟨P2, r2, k⟩
end
end Fz
set_option maxHeartbeats 4000000
/-! The program's defs: what stands behind the top; calls of them. -/
namespace Fz
open PySem L2 PyProof.Rows
open PySem.W (Datum DatumOrd Tup T3)
open Enc (enc)

/-- a def of the module, as it stands behind the top -/
def DefAt (K : PySem.W.Frag) (mg : Str → Option Value) (x : Str) (i : Nat) : Prop := ∃ f fd, FunD K x x (defArgs (top i)) (defBody (top i)) (defScope (top i)) [] [] f fd ∧ mg x = some (.ref f)
/-- what one may call -/
def Ok (w : World) (K : PySem.W.Frag) (mg : Str → Option Value) (base : Heap) (C : Addr) (k : Nat) (x : Str) (ps : List Str) (g : List D → D → Prop) : Prop :=
  ∃ f fd, FnOk pr w K mg base CX0 k f fd ps (spD K C g) ∧ mg x = some (.ref f) ∧ PySem.W.keepIn K (.ref f) = true ∧ Binds K fd ps []
theorem Ok.mono {w : World} {K : PySem.W.Frag} {mg : Str → Option Value} {base : Heap} {C : Addr} {j k : Nat} {x : Str} {ps : List Str} {g : List D → D → Prop} (h : Ok w K mg base C j x ps g) (hk : j ≤ k) : Ok w K mg base C k x ps g :=
  let ⟨f, fd, F, m, q, b⟩ := h; ⟨f, fd, F.mono hk, m, q, b⟩
/-- the context of a body -/
structure In (X : Cx) (w : World) (K : PySem.W.Frag) (mg : Str → Option Value) (base : Heap) (k : Nat) : Prop where
  prog : X.prog = pr
  w : X.w = w
  K : X.K = K
  mg : X.mg = mg
  base : X.base = base
  calm : X.calm = true
  room : Room k X.A
section
variable {X : Cx} {w : World} {K : PySem.W.Frag} {mg : Str → Option Value} {base : Heap} {C : Addr} {ρ : List Sl} {pos p : Pos} {es : List Expr} {e : Expr} {ds : List D} {d : D} {x : Str} {ps : List Str} {g : List D → D → Prop} {j k : Nat}
/-- a call of a def of the module -/
theorem d_fn (o : Ok X.w X.K X.mg X.base C j x ps g) (hp : X.prog = pr) (hr : Room j X.A) (ha : PA X (e :: es) (tA X.K C ρ ds)) (h : g ds d) (hg : Gl X x := by rfl) (hdb : (x == ("__debug__" : Str)) = false := by decide)
    (he : starEach (e :: es) X.env = (false, eval e X.env) :: starEach es X.env := by rfl) (hpl : (backTo pos (starEach es X.env)).any (·.1) = false := by rfl) : PE X (.Call (.Name x p) (e :: es) [] pos) (tD X.K C ρ d) := by
  obtain ⟨f, fd, F, m, q, b⟩ := o
  rw [← hp] at F
  exact d_call F hr m q b hg ha h hdb he hpl
/-- a name of the i-th slot -/
theorem dv (i : Nat) {x : Str} (hr : ρ[i]? = some (.dat d) := by rfl) (hN : X.N[i]? = some x := by rfl) (hv : Vis X.env.scope x := by first | exact Or.inl rfl | exact Or.inr (Or.inl rfl) | exact Or.inr (Or.inr rfl))
    (hd : (x == ("__debug__" : Str)) = false := by decide) (hcd : (x == ("__classdict__" : Str)) = false := by decide) : PE X (.Name x pos) (tD X.K C ρ d) := d_var (i := i) hr hN hv hd hcd
/-- built-in functions that hand back a new list -/
theorem f_cb {id : String} {l : List D} (hc : CallR X (.builtin id) (rF X.K C ds l)) (hm : X.mg x = none) (hv : bootBuiltins x = some (.builtin id)) (ha : PA X (e :: es) (tA X.K C ρ ds)) (hg : Gl X x := by rfl) (hn : x ≠ "__name__" := by decide) (hdb : (x == ("__debug__" : Str)) = false := by decide)
    (he : starEach (e :: es) X.env = (false, eval e X.env) :: starEach es X.env := by rfl) (hpl : (backTo pos (starEach es X.env)).any (·.1) = false := by rfl) : PE X (.Call (.Name x p) (e :: es) [] pos) (tF X.K C ρ l) :=
  pe_w (pe_callB hc hg hm hv ha hn hdb he hpl) fun σ H Q ⟨F, P, r, k⟩ => ⟨F, P, r, fun vs H2 e2 hv => ⟨P, r.trk.same e2, hv, fun p xs H3 h0 e3 h3 hx => k p xs H3 (e2.free h0) (e2.trans e3) h3 hx⟩⟩
/-- .. that hand back data -/
theorem d_b {id : String} (hc : CallR X (.builtin id) (rC X.K C ds d)) (hm : X.mg x = none) (hv : bootBuiltins x = some (.builtin id)) (ha : PA X (e :: es) (tA X.K C ρ ds)) (hg : Gl X x := by rfl) (hn : x ≠ "__name__" := by decide) (hdb : (x == ("__debug__" : Str)) = false := by decide)
    (he : starEach (e :: es) X.env = (false, eval e X.env) :: starEach es X.env := by rfl) (hpl : (backTo pos (starEach es X.env)).any (·.1) = false := by rfl) : PE X (.Call (.Name x p) (e :: es) [] pos) (tD X.K C ρ d) := d_cb hc hg hm hv ha hn hdb he hpl
theorem d_t {T : String} (hc : CallR X (.type T) (rC X.K C ds d)) (hm : X.mg x = none) (hv : bootBuiltins x = some (.type T)) (ha : PA X (e :: es) (tA X.K C ρ ds)) (hg : Gl X x := by rfl) (hn : x ≠ "__name__" := by decide) (hdb : (x == ("__debug__" : Str)) = false := by decide)
    (he : starEach (e :: es) X.env = (false, eval e X.env) :: starEach es X.env := by rfl) (hpl : (backTo pos (starEach es X.env)).any (·.1) = false := by rfl) : PE X (.Call (.Name x p) (e :: es) [] pos) (tD X.K C ρ d) := d_ct hc hg hm hv ha hn hdb he hpl
theorem f_t {T : String} {l : List D} (hc : CallR X (.type T) (rF X.K C ds l)) (hm : X.mg x = none) (hv : bootBuiltins x = some (.type T)) (ha : PA X (e :: es) (tA X.K C ρ ds)) (hg : Gl X x := by rfl) (hn : x ≠ "__name__" := by decide) (hdb : (x == ("__debug__" : Str)) = false := by decide)
    (he : starEach (e :: es) X.env = (false, eval e X.env) :: starEach es X.env := by rfl) (hpl : (backTo pos (starEach es X.env)).any (·.1) = false := by rfl) : PE X (.Call (.Name x p) (e :: es) [] pos) (tF X.K C ρ l) := f_ct hc hg hm hv ha hn hdb he hpl
theorem a1 {d : D} (he : PE X e (tD X.K C ρ d)) (hs : starEach [e] X.env = (false, eval e X.env) :: starEach [] X.env := by rfl) : PA X [e] (tA X.K C ρ [d]) := a_cons he a_nil hs
theorem a2 {e2 : Expr} {d d2 : D} (he : PE X e (tD X.K C ρ d)) (he2 : PE X e2 (tD X.K C ρ d2)) (hs : starEach [e, e2] X.env = (false, eval e X.env) :: starEach [e2] X.env := by rfl) (hs2 : starEach [e2] X.env = (false, eval e2 X.env) :: starEach [] X.env := by rfl) : PA X [e, e2] (tA X.K C ρ [d, d2]) := a_cons he (a_cons he2 a_nil hs2) hs
theorem a3 {e2 e3 : Expr} {d d2 d3 : D} (he : PE X e (tD X.K C ρ d)) (he2 : PE X e2 (tD X.K C ρ d2)) (he3 : PE X e3 (tD X.K C ρ d3)) (hs : starEach [e, e2, e3] X.env = (false, eval e X.env) :: starEach [e2, e3] X.env := by rfl)
    (hs2 : starEach [e2, e3] X.env = (false, eval e2 X.env) :: starEach [e3] X.env := by rfl) (hs3 : starEach [e3] X.env = (false, eval e3 X.env) :: starEach [] X.env := by rfl) : PA X [e, e2, e3] (tA X.K C ρ [d, d2, d3]) := a_cons he (a_cons he2 (a_cons he3 a_nil hs3) hs2) hs
end
theorem bk (N : List Str) (sc : Scope) {scope : Scope} {own : List (Str × Nat)} (h : blkC N sc scope own = true) : BlkOk N sc scope own := blkOk_by h
theorem ls_nil : ([] : List Sl).length = ([] : List Sl).length ∧ ∀ (i : Nat) s, ([] : List Sl)[i]? = some s → s = .no ∨ ∃ z, s = .dat (.str z) ∧ ([] : List Sl)[i]? = some s := ⟨rfl, fun i s e => by simp at e⟩
theorem ls_no {ρL ρ : List Sl} {s0 : Sl} (h : ρL.length = ρ.length ∧ ∀ (i : Nat) s, ρL[i]? = some s → s = .no ∨ ∃ z, s = .dat (.str z) ∧ ρ[i]? = some s) :
    (Sl.no :: ρL).length = (s0 :: ρ).length ∧ ∀ (i : Nat) s, (Sl.no :: ρL)[i]? = some s → s = .no ∨ ∃ z, s = .dat (.str z) ∧ (s0 :: ρ)[i]? = some s := by
  refine ⟨congrArg Nat.succ h.1, fun i s e => ?_⟩
  cases i with
  | zero => exact .inl (Option.some.inj e).symm
  | succ i => exact h.2 i s e
theorem ls_str {ρL ρ : List Sl} {x : Str} (h : ρL.length = ρ.length ∧ ∀ (i : Nat) s, ρL[i]? = some s → s = .no ∨ ∃ z, s = .dat (.str z) ∧ ρ[i]? = some s) :
    (Sl.dat (.str x) :: ρL).length = (Sl.dat (.str x) :: ρ).length ∧ ∀ (i : Nat) s, (Sl.dat (.str x) :: ρL)[i]? = some s → s = .no ∨ ∃ z, s = .dat (.str z) ∧ (Sl.dat (.str x) :: ρ)[i]? = some s := by
  refine ⟨congrArg Nat.succ h.1, fun i s e => ?_⟩
  cases i with
  | zero => exact .inr ⟨x, (Option.some.inj e).symm, e⟩
  | succ i => exact h.2 i s e
def calmS : Sl → Bool
  | .ow _ => false
  | .ur _ => false
  | _ => true
theorem no_own {ρ : List Sl} (h : ρ.all calmS = true) (j : Nat) : ¬ IsOwn ρ j := fun q => by
  rcases q with ⟨l, q⟩ | ⟨n, q⟩
  · have z := List.all_eq_true.mp h _ (List.mem_of_getElem? q)
    cases z
  · have z := List.all_eq_true.mp h _ (List.mem_of_getElem? q)
    cases z
theorem wk_set {ρ : List Sl} (j : Nat) : Wk ρ (ρ.set j .no) := ⟨List.length_set, fun i s e => by
  rcases set_getS e with ⟨_, q⟩ | ⟨_, q⟩
  · exact .inl q
  · exact .inr q⟩
theorem Wk.trans {ρ ρ1 ρ2 : List Sl} (a : Wk ρ ρ1) (b : Wk ρ1 ρ2) : Wk ρ ρ2 := ⟨b.1.trans a.1, fun i s e => (b.2 i s e).elim .inl (a.2 i s)⟩
theorem wk_wipe {ρ : List Sl} : ∀ vs : List Nat, Wk ρ (wipeR ρ vs)
  | [] => Wk.refl ρ
  | v :: vs => (wk_wipe vs).trans (wk_set v)
/-- forget some slots behind -/
theorem n_no {X : Cx} {C : Addr} {F : Frm} {ρ ρ1 : List Sl} {sts : List Stmt} (vs : List Nat) (h : PSs X sts (tN X.K C F ρ ρ1)) : PSs X sts (tN X.K C F ρ (wipeR ρ1 vs)) := n_wk h (wk_wipe vs)
theorem pt_eq {X : Cx} {C : Addr} {ρ : List Sl} {c : Expr} {y z : Bool} (e : y = z) (h : PT X c (tT X.K C ρ y)) : PT X c (tT X.K C ρ z) := e ▸ h
theorem u_sort {k : Nat} {A : Around} {α : Type} [DecidableEq α] [Datum α] (r : Room k A) (h : Datum.depth α ≤ 60 := by decide) : A.units + 2 + Datum.depth α < cLine := by have := r.units; omega
theorem u_eq {k : Nat} {A : Around} {α : Type} [DecidableEq α] [Datum α] (r : Room k A) (h : Datum.depth α ≤ 60 := by decide) : A.units + Datum.depth α < cLine := by have := r.units; omega
theorem u_in {k : Nat} {A : Around} {α : Type} [DecidableEq α] [Datum α] (r : Room k A) (h : Datum.depth α ≤ 60 := by decide) : A.units + 1 + Datum.depth α < cLine := by have := r.units; omega
/-! ### two texts put in order -/
theorem srtL_perm {α : Type} [DecidableEq α] [Srt α] (l : List α) : (srtL l).Perm l := List.mergeSort_perm l _
def srt2 (x y : Str) : Str × Str := if PySem.W.dataLe false (Datum.toD (α := Str)) x y = true then (x, y) else (y, x)
theorem srt2_eq (x y : Str) : srtL [x, y] = [(srt2 x y).1, (srt2 x y).2] := by
  unfold srtL srt2
  cases h : PySem.W.dataLe false (Datum.toD (α := Str)) x y with
  | true => simp [List.mergeSort, List.merge, h]
  | false => simp [List.mergeSort, List.merge, h]
theorem c_sort2 {X : Cx} {C : Addr} {x y : Str} (hu : X.A.units + 2 + Datum.depth Str < cLine) : CallR X (.builtin "sorted") (rF X.K C [.lst [.str x, .str y]] [.str (srt2 x y).1, .str (srt2 x y).2]) := by
  have q := c_sortL (X := X) (C := C) (l := [x, y]) hu
  rw [srt2_eq] at q
  exact q
theorem srt2_or (x y : Str) : srt2 x y = (x, y) ∨ srt2 x y = (y, x) := by
  unfold srt2
  split
  · exact .inl rfl
  · exact .inr rfl
end Fz
set_option maxHeartbeats 2000000
/-! The data layer: a source of draws lent to a def (a list of three numbers that it changes). -/
namespace Fz
open PySem L2 PyProof PyProof.Rows
open PySem.W (Datum DatumOrd Tup T3)
open Enc (enc)

structure U3 where
  a : Int
  b : Int
  c : Int
abbrev U3.vs (st : U3) : List V := [.int st.a, .int st.b, .int st.c]
def phS (st : U3) : Ph where
  at_ := fun K C B H p => H p = some (.lst st.vs)
  mono := fun e h q => h.trans q
  live := fun q => ⟨_, q⟩
abbrev Sl.sou (st : U3) : Sl := .ur (phS st)
section
variable (K : PySem.W.Frag) (C : Addr)
/-- an expression that may draw, or change one's own -/
def tU (F : Frm) (ρ : List Sl) (d : D) (ρ' : List Sl) : TE := fun σ H Q => ∃ P, Rep K C F P H σ ρ ∧ ∀ v H2, Rep K C F P H2 σ ρ' → Same (mask P H) (mask P H2) → Rp K C (mask P H2) d v → Q v H2
def tAU (F : Frm) (ρ : List Sl) (ds : List D) (ρ' : List Sl) : TA := fun σ H Q => ∃ P, Rep K C F P H σ ρ ∧ ∀ vs H2, Rep K C F P H2 σ ρ' → Same (mask P H) (mask P H2) → RpL K C (mask P H2) ds vs → Q vs H2
def tTU (F : Frm) (ρ : List Sl) (b : Bool) (ρ' : List Sl) : TT := fun σ H Q => ∃ P, Rep K C F P H σ ρ ∧ ∀ H2, Rep K C F P H2 σ ρ' → Same (mask P H) (mask P H2) → Q b H2
def tIU (F : Frm) (ρ : List Sl) (ds : List D) (ρ' : List Sl) : TI := fun σ H R => ∃ P, Rep K C F P H σ ρ ∧ ∀ J H2, Rep K C F P H2 σ ρ' → Same (mask P H) (mask P H2) → WkD K C J (mask P H2) ds → R J H2
/-- what a body with a source hands back -/
def GU (F : Frm) (d : D) (st : U3) : VK := fun v H' => (∀ a o, F.H0 a = some o → ¬ F.U a → H' a = some o) ∧ Rp K C (mask F.P0 H') d v ∧ ∀ p, F.U p → H' p = some (.lst st.vs)
/-- the promise of a def whose first parameter is the source -/
def spS (g : List D → U3 → D → U3 → Prop) : Sp := fun vs H Q _ => ∃ P p ws ds st d st', Trk P H ∧ P p ∧ vs = .ref p :: ws ∧ RpL K C (mask P H) ds ws ∧ H p = some (.lst st.vs) ∧ g ds st d st' ∧
  ∀ v H', (∀ b o, b ≠ p → H b = some o → H' b = some o) → H' p = some (.lst st'.vs) → Rp K C (mask P H') d v → Q v H'
end
section
variable {X : Cx} {C : Addr} {F : Frm} {ρ ρ1 ρ2 ρ3 : List Sl} {pos p : Pos} {e e1 e2 f : Expr} {es : List Expr} {a b c d : D} {ds : List D}
theorem u_d (h : PE X e (tD X.K C ρ d)) : PE X e (tU X.K C F ρ d ρ) := pe_w h fun σ H Q ⟨P, r, k⟩ => ⟨F, P, r, fun v H2 e2 hv => k v H2 (r.same e2) (mask_same e2) hv⟩
theorem aU_nil : PA X [] (tAU X.K C F ρ [] ρ) := pa_w pa_nil fun σ H Q ⟨P, r, k⟩ => k [] H r (Same.refl _) rfl
theorem aU_cons (he : PE X e (tU X.K C F ρ d ρ1)) (hes : PA X es (tAU X.K C F ρ1 ds ρ2)) (hs : starEach (e :: es) X.env = (false, eval e X.env) :: starEach es X.env := by rfl) : PA X (e :: es) (tAU X.K C F ρ (d :: ds) ρ2) :=
  pa_w (pa_cons he hes hs) fun σ H Q ⟨P, r, k⟩ => ⟨P, r, fun v H2 r2 s2 hv => ⟨P, r2, fun vs H3 r3 s3 hvs => k _ H3 r3 (s2.trans s3) ⟨v, vs, rfl, Rp.mono s3 _ _ hv, hvs⟩⟩⟩
theorem aU1 (he : PE X e (tU X.K C F ρ d ρ1)) (hs : starEach [e] X.env = (false, eval e X.env) :: starEach [] X.env := by rfl) : PA X [e] (tAU X.K C F ρ [d] ρ1) := aU_cons he aU_nil hs
theorem aU2 (he : PE X e (tU X.K C F ρ a ρ1)) (he2 : PE X e2 (tU X.K C F ρ1 b ρ2)) (hs : starEach [e, e2] X.env = (false, eval e X.env) :: starEach [e2] X.env := by rfl) (hs2 : starEach [e2] X.env = (false, eval e2 X.env) :: starEach [] X.env := by rfl) : PA X [e, e2] (tAU X.K C F ρ [a, b] ρ2) := aU_cons he (aU_cons he2 aU_nil hs2) hs
theorem u_bin {op : Operator} (ho : OpR X (binaryOp op) (rD X.K C a b c)) (h1 : PE X e1 (tU X.K C F ρ a ρ1)) (h2 : PE X e2 (tU X.K C F ρ1 b ρ2)) : PE X (.BinOp e1 op e2 pos) (tU X.K C F ρ c ρ2) :=
  pe_w (pe_op ho h1 h2) fun σ H Q ⟨P, r, k⟩ => ⟨P, r, fun v H2 r2 s2 hv => ⟨P, r2, fun w H3 r3 s3 hw => ⟨P, r3.trk, Rp.mono s3 _ _ hv, hw, fun z H4 e4 hz => k z H4 (r3.same e4) ((s2.trans s3).trans (mask_same e4)) hz⟩⟩⟩
theorem tU_cmp {op : CmpOp} {z : Bool} (ho : OpR X (compareOp op) (rD X.K C a b (.bl z))) (h1 : PE X e1 (tU X.K C F ρ a ρ1)) (h2 : PE X e2 (tU X.K C F ρ1 b ρ2)) (hm : behindInMarks op e2 = false := by first | exact nobehind _ (by decide) (by decide) | rfl) : PT X (.Compare e1 [op] [e2] pos) (tTU X.K C F ρ z ρ2) :=
  pt_w (pt_cmpR ho h1 h2 hm) fun σ H Q ⟨P, r, k⟩ => ⟨P, r, fun v H2 r2 s2 hv => ⟨P, r2, fun w H3 r3 s3 hw => ⟨P, r3.trk, Rp.mono s3 _ _ hv, hw, fun x H4 e4 hx => by
    have hx : x = V.bl z := hx
    exact ⟨z, hx, k H4 (r3.same e4) ((s2.trans s3).trans (mask_same e4))⟩⟩⟩⟩
theorem u_ixL {l : List D} {i : Int} (h1 : PE X e (tU X.K C F ρ (.lst l) ρ1)) (h2 : PE X f (tU X.K C F ρ1 (.int i) ρ2)) (ha : atI l i = some d) (hs : PlainIx f := by exact fun _ _ => rfl) : PE X (.Subscript e f pos) (tU X.K C F ρ d ρ2) :=
  pe_w (pe_ix ix_list h1 h2 hs) fun σ H Q ⟨P, r, k⟩ => ⟨P, r, fun v H2 r2 s2 hv => ⟨P, r2, fun w H3 r3 s3 hw => by
    obtain ⟨q, xs, e1, g1, g2⟩ := Rp.mono s3 _ _ hv
    obtain ⟨j, q1, q2⟩ := atI_len g2.length ha
    obtain ⟨x, q3, q4⟩ := g2.get q1
    exact ⟨q, xs, i, x, e1, hw, SqL.of (mask_le _ _ g1), q2 x q3, k x H3 r3 (s2.trans s3) q4⟩⟩⟩
theorem u_tup {x1 : Nat} (h : PA X es (tAU X.K C F ρ ds ρ1)) (hl : ds.length ≤ sizeLine := by exact Nat.le_of_ble_eq_true rfl) : PE X (.Tuple es x1 pos) (tU X.K C F ρ (.tup ds) ρ1) :=
  pe_w (pe_tup h) fun σ H Q ⟨P, r, k⟩ => ⟨P, r, fun vs H2 r2 s2 hv => ⟨by rw [hv.length]; exact hl, fun q hq => by
    have np := r2.trk.new hq
    refine k _ _ (r2.same (same_upd hq)) (s2.trans (mask_same (same_upd hq))) ⟨q, vs, rfl, SqT.of ?_, RpL.mono (mask_same (same_upd hq)) _ _ hv⟩
    rw [mask_at np, upd_same]⟩⟩
theorem rC_of_rF {T : Value} {l : List D} (h : CallR X T (rF X.K C ds l)) : CallR X T (rC X.K C ds (.lst l)) := cl_w h fun xs H Q ⟨P, t, hx, k⟩ => ⟨P, t, hx, fun p ys H2 hp e2 h2 hl => by
  have np : ¬ P p := t.new hp
  refine k _ _ e2 ⟨p, ys, rfl, ?_, RpL.mono (mask_less fun a z => .inl z) _ _ hl⟩
  rw [mask_at np]
  exact h2⟩
theorem u_b {x : Str} {id : String} (hc : CallR X (.builtin id) (rC X.K C ds d)) (hm : X.mg x = none) (hv : bootBuiltins x = some (.builtin id)) (ha : PA X (e :: es) (tAU X.K C F ρ ds ρ1)) (hg : Gl X x := by rfl) (hn : x ≠ "__name__" := by decide) (hdb : (x == ("__debug__" : Str)) = false := by decide)
    (he : starEach (e :: es) X.env = (false, eval e X.env) :: starEach es X.env := by rfl) (hpl : (backTo pos (starEach es X.env)).any (·.1) = false := by rfl) : PE X (.Call (.Name x p) (e :: es) [] pos) (tU X.K C F ρ d ρ1) :=
  pe_w (pe_callB hc hg hm hv ha hn hdb he hpl) fun σ H Q ⟨P, r, k⟩ => ⟨P, r, fun vs H2 r2 s2 hv => ⟨P, r2.trk, hv, fun v H3 e3 h3 => k v H3 (r2.same e3) (s2.trans (mask_same e3)) h3⟩⟩
theorem u_t {x : Str} {T : String} (hc : CallR X (.type T) (rC X.K C ds d)) (hm : X.mg x = none) (hv : bootBuiltins x = some (.type T)) (ha : PA X (e :: es) (tAU X.K C F ρ ds ρ1)) (hg : Gl X x := by rfl) (hn : x ≠ "__name__" := by decide) (hdb : (x == ("__debug__" : Str)) = false := by decide)
    (he : starEach (e :: es) X.env = (false, eval e X.env) :: starEach es X.env := by rfl) (hpl : (backTo pos (starEach es X.env)).any (·.1) = false := by rfl) : PE X (.Call (.Name x p) (e :: es) [] pos) (tU X.K C F ρ d ρ1) :=
  pe_w (pe_callTy hc hg hm hv ha hn hdb he hpl) fun σ H Q ⟨P, r, k⟩ => ⟨P, r, fun vs H2 r2 s2 hv => ⟨P, r2.trk, hv, fun v H3 e3 h3 => k v H3 (r2.same e3) (s2.trans (mask_same e3)) h3⟩⟩
/-- a call of a def that draws nothing, its arguments may -/
theorem u_fn {x : Str} {ps : List Str} {g : List D → D → Prop} {j : Nat} (o : Ok X.w X.K X.mg X.base C j x ps g) (hp : X.prog = pr) (hr : Room j X.A) (ha : PA X (e :: es) (tAU X.K C F ρ ds ρ1)) (h : g ds d) (hg : Gl X x := by rfl) (hdb : (x == ("__debug__" : Str)) = false := by decide)
    (he : starEach (e :: es) X.env = (false, eval e X.env) :: starEach es X.env := by rfl) (hpl : (backTo pos (starEach es X.env)).any (·.1) = false := by rfl) : PE X (.Call (.Name x p) (e :: es) [] pos) (tU X.K C F ρ d ρ1) := by
  obtain ⟨f, fd, G, m, q, b⟩ := o
  rw [← hp] at G
  exact pe_w (pe_call (E := E0) (dvs := []) G hr hg m q b .nil pass0 ha hdb he hpl) fun σ H Q ⟨P, r, k⟩ => ⟨P, r, fun vs H2 r2 s2 hv => by
    show spD X.K C g (vs ++ []) H2 Q E0
    rw [List.append_nil]
    exact ⟨P, ds, d, r2.trk, hv, h, fun v H3 e3 h3 => k v H3 (r2.same e3) (s2.trans (mask_same e3)) h3⟩⟩

/-! ### the source itself -/
theorem Rep.drawn {K : PySem.W.Frag} {P : Addr → Prop} {H H' : Hp} {σ : L2.St} {i : Nat} {st st' : U3} {q : Addr} (r : Rep K C F P H σ ρ) (hi : ρ[i]? = some (.sou st)) (hs : σ[i]? = some (some (.ref q))) (k : ∀ b o, b ≠ q → H b = some o → H' b = some o) (hq : H' q = some (.lst st'.vs)) :
    Rep K C F P H' σ (ρ.set i (.sou st')) ∧ Same (mask P H) (mask P H') := by
  obtain ⟨q2, g1, g2, g3⟩ := r.urn i _ hi
  rw [hs] at g1
  have e := V.ref.inj (Option.some.inj (Option.some.inj g1))
  subst e
  have hP : P q := r.le q (r.wfU q g2)
  have ms : Same (mask P H) (mask P H') := fun b o z => by
    obtain ⟨z1, z2⟩ := mask_some z
    rw [mask_at z2]
    exact k b o (fun y => z2 (by rw [y]; exact hP)) z1
  have hio : IsOwn ρ i := .inr ⟨_, hi⟩
  have kp : ∀ {b : Addr}, b ≠ q → (∃ o, H b = some o) → H' b = H b := fun {b} hb ⟨o, z⟩ => by rw [z]; exact k b o hb z
  refine ⟨⟨r.wfU, r.wfP, r.le, r.fr, fun b o z n => k b o (fun y => n (by rw [y]; exact g2)) (r.ex b o z n), fun b hb => ?_, fun j d z => ?_, fun j φ z => ?_, fun j φ z => ?_, fun j m b hj hm z1 z2 => ?_, ?_⟩, ms⟩
  · by_cases y : b = q
    · rw [y]
      exact ⟨_, hq⟩
    · obtain ⟨o, z⟩ := r.trk b hb
      exact ⟨o, k b o y z⟩
  · rcases set_getS z with ⟨_, y⟩ | ⟨_, y⟩
    · cases y
    · obtain ⟨v, h1, h2⟩ := r.dat j d y
      exact ⟨v, h1, Rp.mono ms d v h2⟩
  · rcases set_getS z with ⟨_, y⟩ | ⟨ne, y⟩
    · cases y
    · obtain ⟨b, h1, h2, h3, h4⟩ := r.own j φ y
      have hb : b ≠ q := fun z2 => by
        subst z2
        exact ne (r.inj i j b hio (.inl ⟨φ, y⟩) hs h1)
      exact ⟨b, h1, h2, h3, φ.mono ms (kp hb (φ.live h4)) h4⟩
  · rcases set_getS z with ⟨ej, y⟩ | ⟨ne, y⟩
    · cases y
      subst ej
      exact ⟨q, hs, g2, hq⟩
    · obtain ⟨b, h1, h2, h3⟩ := r.urn j φ y
      have hb : b ≠ q := fun z2 => by
        subst z2
        exact ne (r.inj i j b hio (.inr ⟨φ, y⟩) hs h1)
      exact ⟨b, h1, h2, φ.mono ms (kp hb (φ.live h3)) h3⟩
  · have back : ∀ {j : Nat}, IsOwn (ρ.set i (.sou st')) j → IsOwn ρ j := fun {j} h => by
      rcases own_set h with ⟨ej, _, _⟩ | ⟨_, y⟩
      · rw [← ej]
        exact hio
      · exact y
    exact r.inj j m b (back hj) (back hm) z1 z2
  · rw [List.length_set]
    exact r.len
/-- u[j] -/
theorem d_uix {i : Nat} {x : Str} {st : U3} {j n : Nat} {z : Int} {px pc : Pos} (hi : ρ[i]? = some (.sou st)) (hj : st.vs[j]? = some (.int z)) (hN : X.N[i]? = some x := by rfl) (hv : Vis X.env.scope x := by first | exact Or.inl rfl | exact Or.inr (Or.inl rfl) | exact Or.inr (Or.inr rfl))
    (hd : (x == ("__debug__" : Str)) = false := by decide) (hcd : (x == ("__classdict__" : Str)) = false := by decide) : PE X (.Subscript (.Name x px) (.Constant (.int (j : Nat)) n pc) pos) (tD X.K C ρ (.int z)) :=
  pe_w (pe_ix ix_list (pe_var hN hv hd hcd) pe_int (fun _ _ => rfl)) fun σ H Q ⟨F, P, r, k⟩ => by
    obtain ⟨q, g1, g2, g3⟩ := r.urn i _ hi
    have g3 : H q = some (.lst st.vs) := g3
    exact ⟨.ref q, g1, q, st.vs, (j : Nat), .int z, rfl, rfl, SqL.of g3, atI_nat hj, k _ H (Same.refl H) rfl⟩
/-- u[j] = e -/
theorem s_uset {i : Nat} {x : Str} {st st' : U3} {j n : Nat} {z : Int} {px pc ps2 : Pos} (hi : ρ[i]? = some (.sou st)) (he : PE X e (tD X.K C ρ (.int z))) (hj : ixN st.vs.length (j : Int) = some j) (hset : st.vs.set j (.int z) = st'.vs) (hN : X.N[i]? = some x := by rfl) (hv : Vis X.env.scope x := by first | exact Or.inl rfl | exact Or.inr (Or.inl rfl) | exact Or.inr (Or.inr rfl))
    (hd : (x == ("__debug__" : Str)) = false := by decide) (hcd : (x == ("__classdict__" : Str)) = false := by decide)
    (ha : ∀ v, assign (.Subscript (.Name x px) (.Constant (.int (j : Nat)) n pc) ps2) X.env v = (do
      let ov ← holding [v] (eval (.Name x px) X.env)
      let iv ← holding [v, ov] (eval (.Constant (.int (j : Nat)) n pc) X.env)
      standAt ps2
      holding [v, ov, iv] (setItem ov iv v)
      release [v, ov, iv] []) := by intro _; rfl)
    (hs : swapsWithSole [.Subscript (.Name x px) (.Constant (.int (j : Nat)) n pc) ps2] e pos.line X.env = pure false := by rfl) (hw : swappedStores [.Subscript (.Name x px) (.Constant (.int (j : Nat)) n pc) ps2] e X.env = pure none := by rfl)
    (h1 : (assignEach [.Subscript (.Name x px) (.Constant (.int (j : Nat)) n pc) ps2] X.env).map (·.2) = [assign (.Subscript (.Name x px) (.Constant (.int (j : Nat)) n pc) ps2) X.env] := by rfl) :
    PS X (.Assign [.Subscript (.Name x px) (.Constant (.int (j : Nat)) n pc) ps2] e pos) (tN X.K C F ρ (ρ.set i (.sou st'))) :=
  ps_w (ps_asg he (pg_sub (pe_var hN hv hd hcd) pe_int set_list ha) hs hw h1) fun D σ H ⟨P, r, k⟩ => ⟨F, P, r, fun v H2 e2 hv => by
    have hv : v = V.int z := hv
    subst hv
    have r2 := r.same e2
    obtain ⟨q, g1, g2, g3⟩ := r2.urn i _ hi
    have g3 : H2 q = some (.lst st.vs) := g3
    refine ⟨.ref q, g1, q, st.vs, (j : Nat), j, rfl, rfl, g3, hj, ?_⟩
    rw [hset]
    obtain ⟨r3, s3⟩ := r2.drawn (H' := L2.upd H2 q (.lst st'.vs)) hi g1 (fun b o hb z => by rw [upd_ne hb]; exact z) upd_same
    exact k P σ _ r3 ((mask_same e2).trans s3)⟩
/-- what one may call with a source -/
def OkS (w : World) (K : PySem.W.Frag) (mg : Str → Option Value) (base : Heap) (C : Addr) (k : Nat) (x : Str) (ps : List Str) (g : List D → U3 → D → U3 → Prop) : Prop :=
  ∃ f fd, FnOk pr w K mg base CX0 k f fd ps (spS K C g) ∧ mg x = some (.ref f) ∧ PySem.W.keepIn K (.ref f) = true ∧ Binds K fd ps []
/-- f(u, ..) -/
theorem u_draw {x ux : Str} {i : Nat} {ps : List Str} {g : List D → U3 → D → U3 → Prop} {j : Nat} {st st' : U3} {px : Pos} (o : OkS X.w X.K X.mg X.base C j x ps g) (hp : X.prog = pr) (hr : Room j X.A) (ha : PA X es (tAU X.K C F ρ ds ρ1)) (hi0 : ρ[i]? = ρ[i]?) (hi : ρ1[i]? = some (.sou st)) (h : g ds st d st') (hi2 : ∃ st0, ρ[i]? = some (.sou st0)) (hg : Gl X x := by rfl) (hdb : (x == ("__debug__" : Str)) = false := by decide)
    (hN : X.N[i]? = some ux := by rfl) (hv : Vis X.env.scope ux := by first | exact Or.inl rfl | exact Or.inr (Or.inl rfl) | exact Or.inr (Or.inr rfl)) (hd : (ux == ("__debug__" : Str)) = false := by decide) (hcd : (ux == ("__classdict__" : Str)) = false := by decide)
    (he : starEach (.Name ux px :: es) X.env = (false, eval (.Name ux px) X.env) :: starEach es X.env := by rfl) (hpl : (backTo pos (starEach es X.env)).any (·.1) = false := by rfl) : PE X (.Call (.Name x p) (.Name ux px :: es) [] pos) (tU X.K C F ρ d (ρ1.set i (.sou st'))) := by
  obtain ⟨f, fd, G, m, q, b⟩ := o
  rw [← hp] at G
  refine pe_w (pe_call (E := E0) (dvs := []) G hr hg m q b .nil pass0 (pa_cons (pe_var hN hv hd hcd) ha he) hdb he hpl) fun σ H Q ⟨P, r, k⟩ => ?_
  obtain ⟨st0, h0⟩ := hi2
  obtain ⟨u, g1, g2, g3⟩ := r.urn i _ h0
  refine ⟨.ref u, g1, P, r, fun vs H2 r2 s2 hvs => ?_⟩
  show spS X.K C g (.ref u :: vs ++ []) H2 Q E0
  rw [List.append_nil]
  obtain ⟨u2, y1, y2, y3⟩ := r2.urn i _ hi
  rw [g1] at y1
  have e := V.ref.inj (Option.some.inj (Option.some.inj y1))
  subst e
  refine ⟨P, u, vs, ds, st, d, st', r2.trk, r2.le u (r2.wfU u g2), rfl, hvs, y3, h, fun v H' k1 k2 k3 => ?_⟩
  obtain ⟨r3, s3⟩ := r2.drawn hi g1 k1 k2
  exact k v H' r3 (s2.trans s3) k3

/-! ### statements -/
variable {st : Stmt} {rest sts : List Stmt} {G : VK}
theorem su_set {i : Nat} {x : Str} {px : Pos} (hN : X.N.Nodup) (he : PE X e (tU X.K C F ρ d ρ1)) (hi : X.N[i]? = some x := by rfl) (hx : Loc X.env.scope x := by first | exact Or.inl rfl | exact Or.inr rfl) (hs : swapsWith e (some (.Name x px)) pos.line X.env = pure false := by rfl)
    (hf : X.fn x = true ∨ X.env.scope.names.lookup x = some .local := by first | exact .inl rfl | exact .inr rfl) : PS X (.Assign [.Name x px] e pos) (tN X.K C F ρ (ρ1.set i (.dat d))) :=
  ps_w (ps_set hN hi hx he hs hf) fun D σ H ⟨P, r, k⟩ => ⟨P, r, fun v H2 r2 s2 hv => k P _ H2 (r2.set (k := .dat d) hv trivial) s2⟩
theorem su_tup {tg : Expr} {vs : List Nat} (he : PE X e (tU X.K C F ρ d ρ1)) (hg : PG X tg (tG X.K C vs ρ1 d ρ2)) (hs : swapsWithSole [tg] e pos.line X.env = pure false := by rfl) (hw : swappedStores [tg] e X.env = pure none := by rfl)
    (h1 : (assignEach [tg] X.env).map (·.2) = [assign tg X.env] := by rfl) : PS X (.Assign [tg] e pos) (tN X.K C F ρ ρ2) :=
  ps_w (ps_asg he hg hs hw h1) fun D σ H ⟨P, r, k⟩ => ⟨P, r, fun v H2 r2 s2 hv => ⟨F, P, r2, hv, fun σ' r' _ => k P σ' H2 r' s2⟩⟩
theorem su_ret {i : Nat} {s : U3} (hU : ∀ a b, F.U a → F.U b → a = b) (hi : ρ1[i]? = some (.sou s)) (h : PE X e (tU X.K C F ρ d ρ1)) : PS X (.Return (some e) pos) (tRG X.K C F ρ (GU X.K C F d s)) :=
  ps_w (ps_ret h) fun D σ H ⟨P, r, k⟩ => ⟨P, r, fun v H2 r2 s2 hv => k v H2 ⟨r2.ex, Rp.mono (mask_less r2.le) d v hv, fun q hq => by
    obtain ⟨q2, g1, g2, g3⟩ := r2.urn i _ hi
    rw [hU q q2 hq g2]
    exact g3⟩⟩
theorem su_ifT {ce : Expr} {a b : List Stmt} (hc : PT X ce (tTU X.K C F ρ true ρ1)) (h : PSs X a (tN X.K C F ρ1 ρ2)) : PS X (.If ce a b pos) (tN X.K C F ρ ρ2) :=
  ps_w (ps_if hc h (pss_never (sts := b))) fun D σ H ⟨P, r, k⟩ => ⟨P, r, fun H2 r2 s2 => iteT ⟨P, r2, fun P' σ' H' r' s' => k P' σ' H' r' (s2.trans s')⟩⟩
theorem su_ifF {ce : Expr} {a b : List Stmt} (hc : PT X ce (tTU X.K C F ρ false ρ1)) (h : PSs X b (tN X.K C F ρ1 ρ2)) : PS X (.If ce a b pos) (tN X.K C F ρ ρ2) :=
  ps_w (ps_if hc (pss_never (sts := a)) h) fun D σ H ⟨P, r, k⟩ => ⟨P, r, fun H2 r2 s2 => iteF ⟨P, r2, fun P' σ' H' r' s' => k P' σ' H' r' (s2.trans s')⟩⟩
theorem tU_eq {ce : Expr} {y z : Bool} (e : y = z) (h : PT X ce (tTU X.K C F ρ y ρ1)) : PT X ce (tTU X.K C F ρ z ρ1) := e ▸ h
/-- x.append(e), e may draw -/
theorem su_app {i : Nat} {x : Str} {l : List D} {px ap cp : Pos} (hl0 : ∃ l0, ρ[i]? = some (.own l0)) (hl : ρ1[i]? = some (.own l)) (hz : l.length < sizeLine) (he : PE X e (tU X.K C F ρ d ρ1)) (hN : X.N[i]? = some x := by rfl) (hv : Vis X.env.scope x := by first | exact Or.inl rfl | exact Or.inr (Or.inl rfl) | exact Or.inr (Or.inr rfl))
    (hd : (x == ("__debug__" : Str)) = false := by decide) (hcd : (x == ("__classdict__" : Str)) = false := by decide)
    (hbase : attributeBase (.Name x px) "append" X.env (eval (.Name x px) X.env) = eval (.Name x px) X.env := by rfl)
    (hfew : ((backTo cp (starEach [e] X.env)).all (fun x => !x.1) && (backToKw cp (keywordEach [] X.env)).all (fun x => x.1.isSome) && decide ([e].length + ([] : List Keyword).length + (if ([] : List Keyword).isEmpty then 0 else 1) < 30)) = true := by rfl)
    (hline : (ap.endLine == cp.line) = true := by rfl) (hs : starEach [e] X.env = (false, eval e X.env) :: starEach [] X.env := by rfl) (hplain : (backTo cp (starEach [] X.env)).any (·.1) = false := by rfl)
    (hsw : swapsWith (.Call (.Attribute (.Name x px) "append" ap) [e] [] cp) none pos.line X.env = pure false := by rfl) :
    PS X (.Expr (.Call (.Attribute (.Name x px) "append" ap) [e] [] cp) pos) (tN X.K C F ρ (ρ1.set i (.own (l ++ [d])))) :=
  ps_w (ps_expr (pe_bm PySem.F.plainAttrs_list PySem.F.slot_list_append PySem.F.type_list_append mt_append (pe_var hN hv hd hcd) (pa_cons he pa_nil hs) hbase hfew hline hs hplain) hsw) fun D σ H ⟨P, r, k⟩ => by
    obtain ⟨l0, hl0⟩ := hl0
    obtain ⟨q, h1, h2, h3, xs, h4, h5⟩ := r.own i (phL l0) hl0
    refine ⟨.ref q, h1, .inl ⟨rfl, xs, SqL.of h4⟩, P, r, fun y H2 r2 s2 hy => ?_⟩
    obtain ⟨q2, g1, g2, g3, ys, g4, g5⟩ := r2.own i (phL l) hl
    rw [h1] at g1
    have e := V.ref.inj (Option.some.inj (Option.some.inj g1))
    subst e
    obtain ⟨r3, s3⟩ := r2.reown (i := i) (l' := l ++ [d]) hl h1 (g5.append (RpL.one hy))
    refine ⟨q, ys, y, rfl, rfl, g4, by rw [g5.length]; exact hz, k P σ _ r3 (s2.trans s3)⟩
/-- x.pop(e) of one's own list, e may draw -/
theorem u_pop {i n : Nat} {x : Str} {l : List D} {px ap cp : Pos} (hl0 : ∃ l0, ρ[i]? = some (.own l0)) (hl : ρ1[i]? = some (.own l)) (hn : l[n]? = some d) (hz : n < 1000000) (he : PE X e (tU X.K C F ρ (.int (n : Nat)) ρ1)) (hN : X.N[i]? = some x := by rfl) (hv : Vis X.env.scope x := by first | exact Or.inl rfl | exact Or.inr (Or.inl rfl) | exact Or.inr (Or.inr rfl))
    (hd : (x == ("__debug__" : Str)) = false := by decide) (hcd : (x == ("__classdict__" : Str)) = false := by decide)
    (hbase : attributeBase (.Name x px) "pop" X.env (eval (.Name x px) X.env) = eval (.Name x px) X.env := by rfl)
    (hfew : ((backTo cp (starEach [e] X.env)).all (fun x => !x.1) && (backToKw cp (keywordEach [] X.env)).all (fun x => x.1.isSome) && decide ([e].length + ([] : List Keyword).length + (if ([] : List Keyword).isEmpty then 0 else 1) < 30)) = true := by rfl)
    (hline : (ap.endLine == cp.line) = true := by rfl) (hs : starEach [e] X.env = (false, eval e X.env) :: starEach [] X.env := by rfl) (hplain : (backTo cp (starEach [] X.env)).any (·.1) = false := by rfl) :
    PE X (.Call (.Attribute (.Name x px) "pop" ap) [e] [] cp) (tU X.K C F ρ d (ρ1.set i (.own (l.eraseIdx n)))) :=
  pe_w (pe_bm PySem.F.plainAttrs_list PySem.F.slot_list_pop PySem.F.type_list_pop mt_popAt (pe_var hN hv hd hcd) (pa_cons he pa_nil hs) hbase hfew hline hs hplain) fun σ H Q ⟨P, r, k⟩ => by
    obtain ⟨l0, hl0⟩ := hl0
    obtain ⟨q, h1, h2, h3, xs, h4, h5⟩ := r.own i (phL l0) hl0
    refine ⟨.ref q, h1, .inl ⟨rfl, xs, SqL.of h4⟩, P, r, fun y H2 r2 s2 hy => ?_⟩
    have hy : y = V.int (n : Nat) := hy
    subst hy
    obtain ⟨q2, g1, g2, g3, ys, g4, g5⟩ := r2.own i (phL l) hl
    rw [h1] at g1
    have e := V.ref.inj (Option.some.inj (Option.some.inj g1))
    subst e
    obtain ⟨v, v1, v2⟩ := g5.get hn
    have er : RpL X.K C (mask P H2) (l.eraseIdx n) (ys.eraseIdx n) := by
      rw [List.eraseIdx_eq_take_drop_succ, List.eraseIdx_eq_take_drop_succ]
      exact (g5.take n).append (g5.drop (n + 1))
    obtain ⟨r3, s3⟩ := r2.reown (i := i) (l' := l.eraseIdx n) hl h1 er
    have hlt := (List.getElem?_eq_some_iff.mp v1).1
    have hsi : seqIndex? ((n : Nat) : Int) ys.length = some n := (ixN_seq (n := ys.length) (i := ((n : Nat) : Int)) (by unfold ixN; rw [if_pos (by omega), if_pos (by omega)]; simp)).1
    exact ⟨q, ys, (n : Nat), n, v, rfl, rfl, g4, by omega, by omega, hsi, v1, k v _ r3 (s2.trans s3) (Rp.mono s3 d v v2)⟩
/-- range(e), e may draw -/
theorem iU_range {tg a : Expr} {n : Nat} (hm : X.mg "range" = none) (hn : n ≤ 1000000) (h : PE X a (tU X.K C F ρ (.int n) ρ1)) (hg : Gl X "range" := by rfl) (hs : starEach [a] X.env = [(false, eval a X.env)] := by rfl) :
    PI X tg (.Call (.Name "range" p) [a] [] pos) (tIU X.K C F ρ ((List.range n).map fun i : Nat => D.int i) ρ1) :=
  pi_w (pi_range1 hg hm (aU1 h (hs.trans rfl)) hs) fun σ H R ⟨P, r, k⟩ => ⟨P, r, fun vs H2 r2 s2 hv => by
    obtain ⟨v, rfl, hv1⟩ := rp1 hv
    have hv1 : v = V.int n := hv1
    subst hv1
    refine ⟨n, rfl, by omega, by omega, ?_⟩
    have hl : ((List.range n).map fun i : Nat => D.int i).length = n := by simp
    refine k _ H2 r2 s2 ⟨by rw [hl, sizeLine_eq]; omega, fun i H' hi sm => ?_, fun H' sm => ?_, fun i H' y H'' hi sm q => ?_⟩
    · show i < (n : Int).toNat
      rw [hl] at hi
      simpa using hi
    · show (n : Int).toNat ≤ _
      rw [hl]
      simp
    · obtain ⟨rfl, rfl⟩ := q
      rw [hl] at hi
      exact ⟨Same.refl _, .int i, by simp [hi], fun P' t' s' => (by show V.int _ = V.int _; simp)⟩⟩
end
/-! ### a for whose source may draw -/
section
variable {X : Cx} {C : Addr} {F : Frm} {pos : Pos} {ι S : Type}
theorem s_forU {tg iter : Expr} {body : List Stmt} {vs : List Nat} {ρ : List Sl} (l : List ι) (en : ι → D) (step : S → ι → S) (Good : Nat → S → Prop) (ρf : S → List Sl) (ρm : S → ι → List Sl) (s0 : S) (hp : PassesOwn (model X.prog X.w) X.A X.env X.xe) (hc : X.calm = true) (h0 : Good 0 s0) (hG : ∀ i s a, l[i]? = some a → Good i s → Good (i + 1) (step s a))
    (hi : PI X tg iter (tIU X.K C F ρ (l.map en) (ρf s0)))
    (hg : ∀ i s a, l[i]? = some a → Good i s → PG X tg (tG X.K C vs (ρf s) (en a) (ρm s a)))
    (hb : ∀ i s a, l[i]? = some a → Good i s → PSs X body (tN X.K C F (ρm s a) (ρf (step s a))))
    (hs : ∀ x, foldedSetIterable iter X.env x = pure x := by intro _; rfl) : PS X (.For tg iter body [] pos) (tN X.K C F ρ (ρf (l.foldl step s0))) := by
  have good : ∀ i, i ≤ l.length → Good i ((l.take i).foldl step s0) := by
    intro i
    induction i with
    | zero => intro _; exact h0
    | succ i ih =>
      intro hi
      have hlt : i < l.length := hi
      have e : l[i]? = some l[i] := by simp [hlt]
      rw [foldl_take e]
      exact hG i _ _ e (ih (Nat.le_of_lt hlt))
  refine ps_w (ps_for hp hc hi (g := fun v σ H Q => ∃ q : Nat × S × ι, (l[q.1]? = some q.2.2 ∧ Good q.1 q.2.1) ∧ tG X.K C vs (ρf q.2.1) (en q.2.2) (ρm q.2.1 q.2.2) v σ H Q) (tb := fun D σ H => ∃ q : Nat × S × ι, (l[q.1]? = some q.2.2 ∧ Good q.1 q.2.1) ∧ tN X.K C F (ρm q.2.1 q.2.2) (ρf (step q.2.1 q.2.2)) D σ H) (pg_fam fun q h => hg q.1 q.2.1 q.2.2 h.1 h.2) (pss_famP fun q h => hb q.1 q.2.1 q.2.2 h.1 h.2) hs) fun D σ H ⟨P, r, k⟩ => ?_
  refine ⟨P, r, fun J H1 r1 s1 w => ?_⟩
  obtain ⟨wk, hsz⟩ := w.walk
  refine for_it wk (g := fun v σ H Q => ∃ q : Nat × S × ι, (l[q.1]? = some q.2.2 ∧ Good q.1 q.2.1) ∧ tG X.K C vs (ρf q.2.1) (en q.2.2) (ρm q.2.1 q.2.2) v σ H Q) (tb := fun D σ H => ∃ q : Nat × S × ι, (l[q.1]? = some q.2.2 ∧ Good q.1 q.2.1) ∧ tN X.K C F (ρm q.2.1 q.2.2) (ρf (step q.2.1 q.2.2)) D σ H) (fun i σ H => ∃ P', Rep X.K C F P' H σ (ρf ((l.take i).foldl step s0)) ∧ Same (mask P H1) (mask P' H)) ⟨P, r1, Same.refl _⟩ (fun i σ H _ p => let ⟨_, _, s⟩ := p; s.trans mask_le) ?_ ?_
  · rintro i x σ' H' H'' hi ⟨P', r', s'⟩ ⟨sy, a, ha, hr⟩
    have g := good i (Nat.le_of_lt hi)
    refine ⟨⟨i, _, a⟩, ⟨ha, g⟩, F, P', r'.same sy, hr P' r'.trk s', fun σ2 r2 _ => ⟨⟨i, _, a⟩, ⟨ha, g⟩, P', r2, fun P3 σ3 H3 r3 s3 => ⟨P3, ?_, (s'.trans (mask_same sy)).trans s3⟩⟩⟩
    rw [foldl_take ha]
    exact r3
  · rintro σ' H' ⟨P', r', s'⟩
    rw [List.take_of_length_le (Nat.le_refl _)] at r'
    exact k P' σ' H' r' (s1.trans s')
end
/-! ### a body with a source -/
section
variable {P : Program} {w : World} {K : PySem.W.Frag} {mg : Str → Option Value} {base : Heap} {x qual : Str} {params : Arguments} {body : List Stmt} {scope : Scope} {dvs : List V} {kws : List (Str × V)} {f : Addr} {fd : FuncData} {C : Addr}
theorem rep_startS {P : Addr → Prop} {H : Hp} {N : List Str} {p : Addr} {ws : List V} {ds : List D} {st : U3} (t : Trk P H) (hp : P p) (h : RpL K C (mask P H) ds ws) (hu : H p = some (.lst st.vs)) (hl : ws.length + 1 ≤ N.length) :
    Rep K C ⟨P, H, fun a => a = p⟩ P H (L2.start N (.ref p :: ws)) (.sou st :: (ds.map Sl.dat ++ List.replicate (N.length - (ds.length + 1)) Sl.no)) := by
  have e := h.length
  have no : ∀ {i : Nat} {s}, (ds.map Sl.dat ++ List.replicate (N.length - (ds.length + 1)) Sl.no)[i]? = some s → s = .no ∨ ∃ d, ds[i]? = some d ∧ s = .dat d := fun {i s} q => by
    by_cases hi : i < ds.length
    · rw [List.getElem?_append_left (by simpa using hi), List.getElem?_map] at q
      cases z : ds[i]? with
      | none => rw [z] at q; cases q
      | some d =>
        rw [z] at q
        exact .inr ⟨d, rfl, (Option.some.inj q).symm⟩
    · rw [List.getElem?_append_right (by simpa using hi), List.getElem?_replicate] at q
      split at q
      · exact .inl (Option.some.inj q).symm
      · cases q
  have own0 : ∀ {i : Nat}, IsOwn (.sou st :: (ds.map Sl.dat ++ List.replicate (N.length - (ds.length + 1)) Sl.no)) i → i = 0 := fun {i} q => by
    cases i with
    | zero => rfl
    | succ i =>
      rcases q with ⟨φ, q⟩ | ⟨φ, q⟩
      · rcases no (i := i) (by simpa using q) with z | ⟨d, _, z⟩ <;> cases z
      · rcases no (i := i) (by simpa using q) with z | ⟨d, _, z⟩ <;> cases z
  have s0 : (L2.start N (.ref p :: ws))[0]? = some (some (.ref p)) := rfl
  refine ⟨fun a z => by rw [z]; exact hp, t, fun a z => z, fun a z => .inl z, fun a o q _ => q, t, fun i d q => ?_, fun i φ q => ?_, fun i φ q => ?_, fun i j b hi hj _ _ => (own0 hi).trans (own0 hj).symm, ?_⟩
  · cases i with
    | zero => cases q
    | succ i =>
      rcases no (i := i) (by simpa using q) with z | ⟨d', h1, h2⟩
      · cases z
      · cases h2
        obtain ⟨y, h3, h4⟩ := h.get h1
        refine ⟨y, ?_, h4⟩
        unfold L2.start
        have hi := (List.getElem?_eq_some_iff.mp h3).1
        rw [List.getElem?_append_left (by simpa using hi), List.getElem?_map, List.getElem?_cons_succ, h3]
        rfl
  · have z := own0 (.inl ⟨φ, q⟩)
    subst z
    cases q
  · have z := own0 (.inr ⟨φ, q⟩)
    subst z
    have q : Sl.sou st = .ur φ := Option.some.inj q
    injection q with q
    subst q
    exact ⟨p, s0, rfl, hu⟩
  · unfold L2.start
    simp
    omega
theorem fn_src {N ps : List Str} {k : Nat} {g : List D → U3 → D → U3 → Prop} (Fd : FunD K x qual params body scope dvs kws f fd) (S : FnScope N ps scope) (len : ∀ ds st d st', g ds st d st' → ds.length + 1 = ps.length)
    (hb : ∀ (cdv : Value) (A : Around) (outer : List Env) (s : Shared) (H : Hp) (E : XK), Room k (A.deeper (envOfC qual scope s.heap.objs.size f cdv)) → ∀ ds st d st', g ds st d st' → ∀ Fr, (∀ a b, Fr.U a → Fr.U b → a = b) → PSs (cxOf CX0 P w K mg base N qual scope f cdv A outer s H E).nox body (tRG K C Fr (.sou st :: (ds.map Sl.dat ++ List.replicate (N.length - ps.length) Sl.no)) (GU K C Fr d st'))) :
    FnOk P w K mg base CX0 (k + 1) f fd ps (spS K C g) := by
  refine Fd.ok S (fun vs H Q E ⟨Pm, p, ws, ds, st, d, st', t, hp, e, h, hu, hg, q⟩ => by rw [e, List.length_cons, h.length]; exact len _ _ _ _ hg) fun cdv A outer s H vs Q E hr ⟨Pm, p, ws, ds, st, d, st', t, hp, e, h, hu, hg, q⟩ => ?_
  subst e
  have hl := len _ _ _ _ hg
  refine ⟨_, PSs.nox (hb cdv A outer s H E hr ds st d st' hg ⟨Pm, H, fun a => a = p⟩ (fun a b z1 z2 => z1.trans z2.symm)), Pm, ?_, fun v H' ⟨hx, hv, hs⟩ => q v H' (fun b o hb z => hx b o z hb) (hs p rfl) hv⟩
  rw [← hl]
  exact rep_startS t hp h hu (by rw [h.length, hl]; exact ps_le S)
end
end Fz
set_option maxHeartbeats 4000000
/-! The program's floods: put_together, is_joined, joined_in, labels. -/
namespace Fz
open PySem L2 PyProof.Rows
open PySem.W (Datum DatumOrd Tup T3)
open Enc (enc)

abbrev Pair := Str × Str
abbrev Rule := Tup Pair × Pair
abbrev Flood := T3 Str (Tup Pair) (Tup Pair)
def lk (h : List Pair) (x : Str) : Str := (h.lookup x).getD x
def putTog (h : List Pair) (p : Pair) : List Pair := h.map fun nm => (nm.1, if nm.2 = (srt2 (lk h p.1) (lk h p.2)).2 then (srt2 (lk h p.1) (lk h p.2)).1 else nm.2)
def jn (h : List Pair) (p : Pair) : Bool := decide (lk h p.1 = lk h p.2)
theorem lookup_lk {h : List Pair} {x : Str} (hx : x ∈ h.map (·.1)) : h.lookup x = some (lk h x) := by
  unfold lk
  induction h with
  | nil => cases hx
  | cons p h ih =>
    obtain ⟨k, v⟩ := p
    rw [List.lookup_cons]
    cases e : x == k with
    | true => rfl
    | false =>
      rw [List.map_cons] at hx
      rcases List.mem_cons.mp hx with q | q
      · have q : x = k := q
        rw [q] at e
        simp at e
      · exact ih q
section
variable {w : World} {K : PySem.W.Frag} {mg : Str → Option Value} {base : Heap} {C : Addr}

/-! ### put_together -/
def gPut (ds : List D) (d : D) : Prop := ∃ (h : List Pair) (p : Pair), ds = [.dic h, enc p] ∧ (h.map (·.1)).Nodup ∧ p.1 ∈ h.map (·.1) ∧ p.2 ∈ h.map (·.1) ∧ d = .dic (putTog h p)
def nPut : List Str := ["here", "pair", "low", "high", "name", "mark"]
theorem sc_put : FnScope nPut ["here", "pair"] (defScope (top 13)) := ⟨rfl, rfl, rfl, by decide +kernel, rfl, by decide +kernel, by decide +kernel⟩
theorem ok_put (h : DefAt K mg "put_together" 13) (ms : mg "sorted" = none) : Ok w K mg base C 1 "put_together" ["here", "pair"] gPut := by
  obtain ⟨f, fd, F, m⟩ := h
  refine ⟨f, fd, fn_data F sc_put (fun ds d ⟨h, p, e, _⟩ => by rw [e]; rfl) (fun cdv A outer s H E hr ds d hg Fr => ?_), m, F.kp, F.bindsN fun _ _ _ _ _ _ us hl => match us, hl with | [_, _], _ => rfl⟩
  obtain ⟨h, p, rfl, nd, h1, h2, rfl⟩ := hg
  refine b_step (s_tup (es1 := []) (vs := [2, 3]) (d_of_f (f_cb (c_sort2 (u_sort hr)) ms (by rfl) (a1 (d_lst (a2 (d_dget (hu_of hr) (dv 0) (d_ixT (dv 1) d_int rfl) (lookup_lk h1)) (d_dget (hu_of hr) (dv 0) (d_ixT (dv 1) d_int rfl) (lookup_lk h2))))))) (g_lst rfl (gs_cons (g_name (i := 2) sc_put.nd) (gs_cons (g_name (i := 3) sc_put.nd) gs_nil)))) (b_stop (s_ret ?_))
  exact d_dcI (j := 0) (own := [("name", 4), ("mark", 5)]) h (fun a => a.1) (fun a => if a.2 = (srt2 (lk h p.1) (lk h p.2)).2 then (srt2 (lk h p.1) (lk h p.2)).1 else a.2) [.no, .no, .dat (.str (srt2 (lk h p.1) (lk h p.2)).1), .dat (.str (srt2 (lk h p.1) (lk h p.2)).2), .no, .no] _ rfl sc_put.nd (bk nPut (defScope (top 13)) (by decide +kernel)) nd rfl (ls_no (ls_no (ls_str (ls_str (ls_no (ls_no ls_nil)))))) (i_items (j := 0))
      (fun s H B cl fp a ha => g_tup rfl (gs_cons (g_name (i := 4) sc_put.nd) (gs_cons (g_name (i := 5) sc_put.nd) gs_nil)))
      (fun s H B cl fp a ha => dv 4) (fun s H B cl fp a ha => t_if (t_cmp o_eqS (dv 5) (dv 3)) (fun z => by rw [if_pos (of_decide_eq_true z)]; exact dv 2) (fun z => by rw [if_neg (of_decide_eq_false z)]; exact dv 5))

/-! ### is_joined -/
def gJn (ds : List D) (d : D) : Prop := ∃ (h : List Pair) (p : Pair), ds = [.dic h, enc p] ∧ p.1 ∈ h.map (·.1) ∧ p.2 ∈ h.map (·.1) ∧ d = .bl (jn h p)
theorem sc_jn : FnScope ["here", "pair"] ["here", "pair"] (defScope (top 14)) := ⟨rfl, rfl, rfl, by decide +kernel, rfl, by decide +kernel, by decide +kernel⟩
theorem ok_jn (h : DefAt K mg "is_joined" 14) : Ok w K mg base C 1 "is_joined" ["here", "pair"] gJn := by
  obtain ⟨f, fd, F, m⟩ := h
  refine ⟨f, fd, fn_data F sc_jn (fun ds d ⟨h, p, e, _⟩ => by rw [e]; rfl) (fun cdv A outer s H E hr ds d hg Fr => ?_), m, F.kp, F.bindsN fun _ _ _ _ _ _ us hl => match us, hl with | [_, _], _ => rfl⟩
  obtain ⟨h, p, rfl, h1, h2, rfl⟩ := hg
  exact b_stop (s_ret (d_cmp o_eqS (d_dget (hu_of hr) (dv 0) (d_ixT (dv 1) d_int rfl) (lookup_lk h1)) (d_dget (hu_of hr) (dv 0) (d_ixT (dv 1) d_int rfl) (lookup_lk h2))))

/-! ### joined_in -/
def gJoin (ds : List D) (d : D) : Prop := ∃ fs : List Flood, ds = [.lst (fs.map enc)] ∧ (fs.flatMap fun f => f.b.items).length ≤ 1000 ∧ d = .lst ((fs.flatMap fun f => f.b.items).map enc)
def nJoin : List Str := ["floods", "name", "joined", "parted", "pair"]
theorem sc_join : FnScope nJoin ["floods"] (defScope (top 16)) := ⟨rfl, rfl, rfl, by decide +kernel, rfl, by decide +kernel, by decide +kernel⟩
theorem ok_join (h : DefAt K mg "joined_in" 16) : Ok w K mg base C 1 "joined_in" ["floods"] gJoin := by
  obtain ⟨f, fd, F, m⟩ := h
  refine ⟨f, fd, fn_data F sc_join (fun ds d ⟨h, e, _⟩ => by rw [e]; rfl) (fun cdv A outer s H E hr ds d hg Fr => ?_), m, F.kp, F.bindsN fun _ _ _ _ _ _ us hl => match us, hl with | [_], _ => rfl⟩
  obtain ⟨fs, rfl, hz, rfl⟩ := hg
  refine b_stop (s_ret (d_of_f ?_))
  rw [List.map_flatMap]
  exact f_lc2 (own := [("name", 1), ("joined", 2), ("parted", 3), ("pair", 4)]) [4] fs enc _ (fun a => a.b.items) enc _ (fun a b => enc b) rfl sc_join.nd (bk nJoin (defScope (top 16)) (by decide +kernel)) (by decide) (Nat.le_trans hz (by decide)) (by intro a ha; exact no_own rfl)
    (i_list (dv 0)) (fun s H B cl fp a ha => g_tup rfl (gs_cons (g_name (i := 1) sc_join.nd) (gs_cons (g_name (i := 2) sc_join.nd) (gs_cons (g_name (i := 3) sc_join.nd) gs_nil))))
    (fun s H B cl fp a ha => i_tup (dv 2)) (fun s H B cl fp q ha => g_name (i := 4) sc_join.nd) (fun s H B cl fp q ha => dv 4)
end
end Fz
/-! The class Talk: what it has; labels. -/
namespace Fz
open PySem L2 PyProof.Rows
open PySem.W (Datum DatumOrd Tup T3)
open Enc (enc)

/-! ### the class -/
structure TalkK (K : PySem.W.Frag) (C : Addr) : Prop where
  cls : SlX.SCls K C
  slF : ∃ p, SlX.Slot1 K C "own_floods" p 0
  slI : ∃ p, SlX.Slot1 K C "own_islands" p 1
  slR : ∃ p, SlX.Slot1 K C "own_rules" p 2
/-- a property of the class, its getter the j-th row of the class's body -/
def PrpAt (K : PySem.W.Frag) (C : Addr) (f q : Str) (j : Nat) : Prop := ∃ p g fd, PySem.W.findIn K (.ref C) f = some (some (.ref p)) ∧ PySem.W.specialIn K (.ref p) "__get__" = some (some (.builtin "property.__get__")) ∧ PySem.W.takesIn K (.ref p) = some true ∧
  (∃ rest, PySem.W.recIn K p "property" = some (.ref g :: rest)) ∧ FunD K f q (defArgs (inClass (top 43) j)) (defBody (inClass (top 43) j)) (defScope (inClass (top 43) j)) [] [] g fd
/-- what a property promises -/
def OkP (w : World) (K : PySem.W.Frag) (mg : Str → Option Value) (base : Heap) (C : Addr) (k : Nat) (f : Str) (g : List D → D → Prop) : Prop :=
  ∃ p q, PySem.W.findIn K (.ref C) f = some (some (.ref p)) ∧ PySem.W.specialIn K (.ref p) "__get__" = some (some (.builtin "property.__get__")) ∧ PySem.W.takesIn K (.ref p) = some true ∧
  (∃ rest, PySem.W.recIn K p "property" = some (.ref q :: rest)) ∧ FnR pr w K mg base CX0 k q (spD K C g)
section
variable {X : Cx} {C : Addr} {ρ : List Sl} {e : Expr} {pos : Pos} {i r f d : D}
theorem d_slF (c : TalkK X.K C) (he : PE X e (tD X.K C ρ (.obj i r f))) (hb : attributeBase e "own_floods" X.env (eval e X.env) = eval e X.env := by rfl) : PE X (.Attribute e "own_floods" pos) (tD X.K C ρ f) :=
  pe_w (SlX.pe_sl he hb) fun σ H Q ⟨F, P, rp, k⟩ => ⟨F, P, rp, fun v H2 e2 ⟨a, dx, vi, vr, vf, e1, h1, h2, h3, h4⟩ => by
    obtain ⟨p, sl⟩ := c.slF
    exact ⟨a, C, dx, p, _, 0, vf, e1, slt_same mask_le h1, c.cls, sl, rfl, k vf H2 e2 h4⟩⟩
theorem d_slI (c : TalkK X.K C) (he : PE X e (tD X.K C ρ (.obj i r f))) (hb : attributeBase e "own_islands" X.env (eval e X.env) = eval e X.env := by rfl) : PE X (.Attribute e "own_islands" pos) (tD X.K C ρ i) :=
  pe_w (SlX.pe_sl he hb) fun σ H Q ⟨F, P, rp, k⟩ => ⟨F, P, rp, fun v H2 e2 ⟨a, dx, vi, vr, vf, e1, h1, h2, h3, h4⟩ => by
    obtain ⟨p, sl⟩ := c.slI
    exact ⟨a, C, dx, p, _, 1, vi, e1, slt_same mask_le h1, c.cls, sl, rfl, k vi H2 e2 h2⟩⟩
theorem d_slR (c : TalkK X.K C) (he : PE X e (tD X.K C ρ (.obj i r f))) (hb : attributeBase e "own_rules" X.env (eval e X.env) = eval e X.env := by rfl) : PE X (.Attribute e "own_rules" pos) (tD X.K C ρ r) :=
  pe_w (SlX.pe_sl he hb) fun σ H Q ⟨F, P, rp, k⟩ => ⟨F, P, rp, fun v H2 e2 ⟨a, dx, vi, vr, vf, e1, h1, h2, h3, h4⟩ => by
    obtain ⟨p, sl⟩ := c.slR
    exact ⟨a, C, dx, p, _, 2, vr, e1, slt_same mask_le h1, c.cls, sl, rfl, k vr H2 e2 h3⟩⟩
theorem d_prop {fn : Str} {k : Nat} {g : List D → D → Prop} (c : TalkK X.K C) (o : OkP X.w X.K X.mg X.base C k fn g) (hp : X.prog = pr) (hr : Room (k + 1) X.A) (he : PE X e (tD X.K C ρ (.obj i r f))) (h : g [.obj i r f] d) (hb : attributeBase e fn X.env (eval e X.env) = eval e X.env := by rfl) :
    PE X (.Attribute e fn pos) (tD X.K C ρ d) := by
  obtain ⟨p, q, h1, h2, h3, h4, h5⟩ := o
  rw [← hp] at h5
  exact pe_w (SlX.pe_propSl (E := E0) he c.cls h1 h2 h3 h4 h5 hr (fun _ _ _ _ z => z.elim) hb) fun σ H Q ⟨F, P, rp, k⟩ => ⟨F, P, rp, fun v H2 e2 hv => by
    have hv0 := hv
    obtain ⟨a, dx, vi, vr, vf, e1, g1, g2, g3, g4⟩ := hv
    subst e1
    exact ⟨a, dx, _, rfl, slt_same mask_le g1, P, [.obj i r f], d, rp.trk.same e2, ⟨_, _, rfl, hv0, rfl⟩, h, fun v H3 e3 h3 => k v H3 (e2.trans e3) h3⟩⟩
end
section
variable {w : World} {K : PySem.W.Frag} {mg : Str → Option Value} {base : Heap} {C : Addr}
theorem ok_prp {f q : Str} {j : Nat} {g : List D → D → Prop} {k : Nat} {N : List Str} (h : PrpAt K C f q j) (S : FnScope N ["self"] (defScope (inClass (top 43) j))) (len : ∀ ds d, g ds d → ds.length = 1)
    (hb : ∀ (p gA : Addr) (cdv : Value) (A : Around) (outer : List Env) (s : Shared) (H : Hp) (E : XK), Room k (A.deeper (envOfC q (defScope (inClass (top 43) j)) s.heap.objs.size gA cdv)) → ∀ ds d, g ds d → ∀ Fr, PSs (cxOf CX0 pr w K mg base N q (defScope (inClass (top 43) j)) gA cdv A outer s H E).nox (defBody (inClass (top 43) j)) (tR K C Fr (ds.map Sl.dat ++ List.replicate (N.length - 1) Sl.no) d))
    (hbind : ∀ (kV doc pm : Value) (an : Option Addr) (cdv ct : Value) (us : List Value), us.length = 1 → bindArgs (PySem.W.fnOf f q (defArgs (inClass (top 43) j)) (defBody (inClass (top 43) j)) (defScope (inClass (top 43) j)) .none kV doc pm an cdv ct) ⟨us, []⟩ = pure ((["self"] : List Str).zip us)) :
    OkP w K mg base C (k + 1) f g := by
  obtain ⟨p, gA, fd, h1, h2, h3, h4, F⟩ := h
  have G : FnOk pr w K mg base CX0 (k + 1) gA fd ["self"] (spD K C g) := fn_data F S len fun cdv A outer s H E hr ds d hg Fr => hb p gA cdv A outer s H E hr ds d hg Fr
  refine ⟨p, gA, h1, h2, h3, h4, FnR.imp (FnOk.raw G (F.bindsN hbind) .nil) fun vs H Q E h => ?_⟩
  rw [List.append_nil]
  exact h
theorem sc_self1 {j : Nat} : True := trivial
def gIsl (ds : List D) (d : D) : Prop := ∃ r f, ds = [.obj d r f]
def gRul (ds : List D) (d : D) : Prop := ∃ i f, ds = [.obj i d f]
def gFlo (ds : List D) (d : D) : Prop := ∃ i r, ds = [.obj i r d]
theorem ok_islands (c : TalkK K C) (h : PrpAt K C "islands" "Talk.islands" 3) : OkP w K mg base C 1 "islands" gIsl :=
  ok_prp (N := ["self"]) h ⟨rfl, rfl, rfl, by decide +kernel, rfl, by decide +kernel, by decide +kernel⟩ (fun ds d ⟨r, f, e⟩ => by rw [e]; rfl) (fun p gA cdv A outer s H E hr ds d ⟨r, f, e⟩ Fr => by
    subst e
    exact b_stop (s_ret (d_slI c (dv 0)))) fun _ _ _ _ _ _ us hl => match us, hl with | [_], _ => rfl
theorem ok_rules (c : TalkK K C) (h : PrpAt K C "rules" "Talk.rules" 4) : OkP w K mg base C 1 "rules" gRul :=
  ok_prp (N := ["self"]) h ⟨rfl, rfl, rfl, by decide +kernel, rfl, by decide +kernel, by decide +kernel⟩ (fun ds d ⟨r, f, e⟩ => by rw [e]; rfl) (fun p gA cdv A outer s H E hr ds d ⟨r, f, e⟩ Fr => by
    subst e
    exact b_stop (s_ret (d_slR c (dv 0)))) fun _ _ _ _ _ _ us hl => match us, hl with | [_], _ => rfl
theorem ok_floods (c : TalkK K C) (h : PrpAt K C "floods" "Talk.floods" 5) : OkP w K mg base C 1 "floods" gFlo :=
  ok_prp (N := ["self"]) h ⟨rfl, rfl, rfl, by decide +kernel, rfl, by decide +kernel, by decide +kernel⟩ (fun ds d ⟨r, f, e⟩ => by rw [e]; rfl) (fun p gA cdv A outer s H E hr ds d ⟨r, f, e⟩ Fr => by
    subst e
    exact b_stop (s_ret (d_slF c (dv 0)))) fun _ _ _ _ _ _ us hl => match us, hl with | [_], _ => rfl
end
end Fz
/-! labels. -/
namespace Fz
open PySem L2 PyProof.Rows
open PySem.W (Datum DatumOrd Tup T3)
open Enc (enc)

structure Tk where
  isl : List Str
  rul : List Rule
  flo : List Flood
def Tk.d (t : Tk) : D := .obj (.tup (t.isl.map enc)) (.tup (t.rul.map enc)) (.tup (t.flo.map enc))
def PIn (I : List Str) (p : Pair) : Prop := p.1 ∈ I ∧ p.2 ∈ I
/-- the rules speak of the islands alone -/
def RIn (I : List Str) (R : List Rule) : Prop := ∀ r ∈ R, (∀ p ∈ r.1.items, PIn I p) ∧ PIn I r.2
def later (h : List Pair) (R : List Rule) : List Pair := (R.filter fun r => !jn h r.2 && r.1.items.all (jn h)).map (·.2)
def labStep (R : List Rule) (s : List Pair × List Pair) : List Pair × List Pair := (s.2.foldl putTog s.1, later (s.2.foldl putTog s.1) R)
def labGo (s : List Pair × List Pair) : Bool := !s.2.isEmpty
/-- h is what labels makes of the pairs -/
def Labs (I : List Str) (R : List Rule) (ps h : List Pair) : Prop := ∃ n, Lps labGo (labStep R) n (I.map fun x => (x, x), ps) (h, [])
theorem put_keys {h : List Pair} {p : Pair} : (putTog h p).map (·.1) = h.map (·.1) := by unfold putTog; rw [List.map_map]; rfl
theorem fold_keys {ps : List Pair} : ∀ {h : List Pair}, (ps.foldl putTog h).map (·.1) = h.map (·.1) := by
  induction ps with
  | nil => intro h; rfl
  | cons p ps ih => intro h; exact ih.trans put_keys
theorem later_in {I : List Str} {R : List Rule} {h : List Pair} (RI : RIn I R) : ∀ p ∈ later h R, PIn I p := fun p hp => by
  obtain ⟨r, hr, rfl⟩ := List.mem_map.mp hp
  exact (RI r (List.mem_filter.mp hr).1).2
theorem foldl_app {α β : Type} (c : α → Bool) (g : α → β) : ∀ (l : List α) (acc : List β), l.foldl (fun acc a => if c a = true then acc ++ [g a] else acc) acc = acc ++ (l.filter c).map g
  | [], acc => by simp
  | a :: l, acc => by
    rw [List.foldl_cons, foldl_app c g l]
    cases h : c a with
    | true => simp [h]
    | false => simp [h]
theorem c_allM {X : Cx} {C : Addr} {ι : Type} {l : List ι} {t : ι → Bool} (hc : X.calm = true) : CallR X (.builtin "all") (rC X.K C [.lst (l.map fun a => .bl (t a))] (.bl (l.all t))) := by
  have q := c_all (X := X) (C := C) (bs := l.map t) hc
  rw [List.map_map] at q
  have e : (l.map t).all id = l.all t := by rw [List.all_map]; rfl
  rw [e] at q
  exact q
theorem c_anyM {X : Cx} {C : Addr} {ι : Type} {l : List ι} {t : ι → Bool} (hc : X.calm = true) : CallR X (.builtin "any") (rC X.K C [.lst (l.map fun a => .bl (t a))] (.bl (l.any t))) := by
  have q := c_any (X := X) (C := C) (bs := l.map t) hc
  rw [List.map_map] at q
  have e : (l.map t).any id = l.any t := by rw [List.any_map]; rfl
  rw [e] at q
  exact q
section
variable {w : World} {K : PySem.W.Frag} {mg : Str → Option Value} {base : Heap} {C : Addr}
def gLab (ds : List D) (d : D) : Prop := ∃ (t : Tk) (ps h : List Pair), ds = [t.d, .lst (ps.map enc)] ∧ t.isl.Nodup ∧ t.isl.length ≤ 1000 ∧ t.rul.length ≤ 1000 ∧ RIn t.isl t.rul ∧ (∀ p ∈ ps, PIn t.isl p) ∧ Labs t.isl t.rul ps h ∧ d = .dic h
def nLab : List Str := ["talk", "pairs", "here", "later", "pair", "wants", "gives", "name"]
theorem sc_lab : FnScope nLab ["talk", "pairs"] (defScope (top 15)) := ⟨rfl, rfl, rfl, by decide +kernel, rfl, by decide +kernel, by decide +kernel⟩
structure MgB (mg : Str → Option Value) : Prop where
  len : mg "len" = none
  all : mg "all" = none
  any : mg "any" = none
  list : mg "list" = none
  tuple : mg "tuple" = none
  sorted : mg "sorted" = none
  set : mg "set" = none
  range : mg "range" = none
  enumerate : mg "enumerate" = none
  zip : mg "zip" = none
  isinstance : mg "isinstance" = none
  str : mg "str" = none
  int : mg "int" = none
  bool : mg "bool" = none
  max : mg "max" = none
  abs : mg "abs" = none
  sum : mg "sum" = none
theorem ok_lab (c : TalkK K C) (b : MgB mg) (h : DefAt K mg "labels" 15) (oI : OkP w K mg base C 1 "islands" gIsl) (oR : OkP w K mg base C 1 "rules" gRul) (oP : Ok w K mg base C 1 "put_together" ["here", "pair"] gPut) (oJ : Ok w K mg base C 1 "is_joined" ["here", "pair"] gJn) :
    Ok w K mg base C 3 "labels" ["talk", "pairs"] gLab := by
  obtain ⟨f, fd, F, m⟩ := h
  refine ⟨f, fd, fn_data F sc_lab (fun ds d ⟨t, p, h, e, _⟩ => by rw [e]; rfl) (fun cdv A outer s H E hr ds d hg Fr => ?_), m, F.kp, F.bindsN fun _ _ _ _ _ _ us hl => match us, hl with | [_, _], _ => rfl⟩
  obtain ⟨t, ps, h, rfl, nd, hI, hR, RI, PI, ⟨n, hl⟩, rfl⟩ := hg
  have hr1 := hr.mono (show 1 ≤ 2 by decide)
  refine b_step (s_tup (es1 := []) (vs := [2, 3]) (d_tup (a2 (d_dc (own := [("name", 7)]) t.isl enc (fun x => x) (fun x => x) _ rfl sc_lab.nd (bk nLab (defScope (top 15)) (by decide +kernel)) (by simpa using nd) (i_tup (d_prop c oI rfl hr (dv 0) ⟨_, _, rfl⟩))
      (fun s H B cl fp a ha => g_name (i := 7) sc_lab.nd) (fun s H B cl fp a ha => dv 7) (fun s H B cl fp a ha => dv 7)) (d_of_f (f_t c_lstL b.list (by rfl) (a1 (dv 1)))))) (g_tup rfl (gs_cons (g_name (i := 2) sc_lab.nd) (gs_cons (g_name (i := 3) sc_lab.nd) gs_nil)))) ?_
  let ρf : List Pair × List Pair → List Sl := fun s => [.dat t.d, .dat (.lst (ps.map enc)), .dat (.dic s.1), .dat (.lst (s.2.map enc)), .no, .no, .no, .no]
  refine b_step (ρ1 := ρf (h, [])) ?_ (b_stop (s_ret (dv 2)))
  refine s_while labGo (labStep t.rul) (fun s => s.1.map (·.1) = t.isl ∧ ∀ p ∈ s.2, PIn t.isl p) ρf (s0 := (t.isl.map fun x => (x, x), ps)) PassesOwn.never ⟨by rw [List.map_map]; exact List.map_id _, PI⟩ ?_ ?_ ?_ hl
  · exact fun s g _ => ⟨fold_keys.trans g.1, later_in RI⟩
  · intro s g
    have e : labGo s = decide ((0 : Int) < ((s.2.map enc).length : Int)) := by
      unfold labGo
      rw [List.length_map]
      cases s.2 with
      | nil => rfl
      | cons p r => exact (decide_eq_true (by rw [List.length_cons]; omega)).symm
    refine pt_eq e.symm ?_
    exact t_cmp o_gtI (d_b c_lenL b.len (by rfl) (a1 (dv 3))) d_int
  · intro s g gs
    refine n_step (ρ1 := [.dat t.d, .dat (.lst (ps.map enc)), .dat (.dic (s.2.foldl putTog s.1)), .dat (.lst (s.2.map enc)), .no, .no, .no, .no]) ?_ ?_
    · exact s_for (vs := [4]) s.2 enc putTog (fun i h => h.map (·.1) = t.isl ∧ i ≤ s.2.length) (fun h => [.dat t.d, .dat (.lst (ps.map enc)), .dat (.dic h), .dat (.lst (s.2.map enc)), .no, .no, .no, .no]) _ s.1 PassesOwn.never rfl ⟨g.1, Nat.zero_le _⟩
        (fun i h p hp q => ⟨put_keys.trans q.1, (List.getElem?_eq_some_iff.mp hp).1⟩) (i_list (dv 3)) (fun i h p hp q => g_name (i := 4) sc_lab.nd)
        (fun i h p hp q => n_no [4] (n_one (s_set (i := 2) sc_lab.nd (k_d (d_fn oP rfl hr1 (a2 (dv 2) (dv 4)) ⟨h, p, rfl, by rw [q.1]; exact nd, by rw [q.1]; exact (g.2 p (List.mem_of_getElem? hp)).1, by rw [q.1]; exact (g.2 p (List.mem_of_getElem? hp)).2, rfl⟩)))))
    · let h1 := s.2.foldl putTog s.1
      have k1 : h1.map (·.1) = t.isl := fold_keys.trans g.1
      have inK : ∀ p : Pair, PIn t.isl p → p.1 ∈ h1.map (·.1) ∧ p.2 ∈ h1.map (·.1) := fun p q => by rw [k1]; exact q
      refine n_step (s_set (i := 3) (k := .own []) sc_lab.nd (k_f (f_lst a_nil))) ?_
      refine n_fz (l := (later h1 t.rul).map enc) (ρ1 := [.dat t.d, .dat (.lst (ps.map enc)), .dat (.dic h1), .own ((later h1 t.rul).map enc), .no, .no, .no, .no]) 3 (n_one ?_) rfl
      have e : later h1 t.rul = t.rul.foldl (fun acc r => if (!jn h1 r.2 && r.1.items.all (jn h1)) = true then acc ++ [r.2] else acc) [] := by
        rw [foldl_app]
        rfl
      rw [e]
      refine s_for (vs := [5, 6]) t.rul enc (fun acc r => if (!jn h1 r.2 && r.1.items.all (jn h1)) = true then acc ++ [r.2] else acc) (fun i acc => acc.length ≤ i ∧ i ≤ t.rul.length) (fun acc => [.dat t.d, .dat (.lst (ps.map enc)), .dat (.dic h1), .own (acc.map enc), .no, .no, .no, .no]) _ [] PassesOwn.never rfl ⟨Nat.le_refl _, Nat.zero_le _⟩
        ?_ (i_tup (d_prop c oR rfl hr (dv 0) ⟨_, _, rfl⟩)) (fun i acc r hr' q => g_tup rfl (gs_cons (g_name (i := 5) sc_lab.nd) (gs_cons (g_name (i := 6) sc_lab.nd) gs_nil))) ?_
      · intro i acc r hr' q
        refine ⟨?_, (List.getElem?_eq_some_iff.mp hr').1⟩
        split
        · rw [List.length_append]
          exact Nat.add_le_add_right q.1 1
        · exact Nat.le_succ_of_le q.1
      · intro i acc r hr' q
        have hrm := List.mem_of_getElem? hr'
        have ri := RI r hrm
        have call1 : ∀ p : Pair, PIn t.isl p → gJn [.dic h1, enc p] (.bl (jn h1 p)) := fun p q => ⟨h1, p, rfl, (inK p q).1, (inK p q).2, rfl⟩
        cases hc : (!jn h1 r.2 && r.1.items.all (jn h1)) with
        | true =>
          rw [if_pos rfl, List.map_append]
          refine n_no [5, 6] (n_one (s_ifT ?_ (n_one (s_app (i := 3) (l := acc.map enc) rfl ?_ (dv 6)))))
          · refine pt_eq hc ?_
            exact t_w (w_and (t_not (t_val (d_fn oJ rfl hr1 (a2 (dv 2) (dv 6)) (call1 r.2 ri.2)))) (fun _ => w_one (t_val (d_b (c_allM rfl) b.all (by rfl) (a1 (d_of_f (f_map (own := [("pair", 4)]) r.1.items enc (fun p => .bl (jn h1 p)) _ rfl sc_lab.nd (bk nLab (defScope (top 15)) (by decide +kernel)) (i_tup (dv 5))
              (fun s H B cl fp a ha => g_name (i := 4) sc_lab.nd) (fun s H B cl fp a ha => d_fn oJ rfl hr1 (a2 (dv 2) (dv 4)) (call1 a (ri.1 a ha))))))))))
          · rw [List.length_map]
            exact Nat.lt_of_le_of_lt (Nat.le_trans q.1 (Nat.le_trans q.2 hR)) (by decide)
        | false =>
          rw [if_neg Bool.false_ne_true]
          refine n_no [5, 6] (n_one (s_ifF ?_ n_nil))
          refine pt_eq hc ?_
          exact t_w (w_and (t_not (t_val (d_fn oJ rfl hr1 (a2 (dv 2) (dv 6)) (call1 r.2 ri.2)))) (fun _ => w_one (t_val (d_b (c_allM rfl) b.all (by rfl) (a1 (d_of_f (f_map (own := [("pair", 4)]) r.1.items enc (fun p => .bl (jn h1 p)) _ rfl sc_lab.nd (bk nLab (defScope (top 15)) (by decide +kernel)) (i_tup (dv 5))
            (fun s H B cl fp a ha => g_name (i := 4) sc_lab.nd) (fun s H B cl fp a ha => d_fn oJ rfl hr1 (a2 (dv 2) (dv 4)) (call1 a (ri.1 a ha))))))))))
end
end Fz
/-! The plain law, part 1: the closure by labels is the closure by all partings. -/
namespace Fd
variable {ι : Type} [DecidableEq ι]

/-! ### program side -/
def lk (h : List (ι × ι)) (x : ι) : ι := (h.lookup x).getD x
def putTog (srt : ι → ι → ι × ι) (h : List (ι × ι)) (p : ι × ι) : List (ι × ι) :=
  h.map fun nm => (nm.1, if nm.2 = (srt (lk h p.1) (lk h p.2)).2 then (srt (lk h p.1) (lk h p.2)).1 else nm.2)
def jn (h : List (ι × ι)) (p : ι × ι) : Bool := decide (lk h p.1 = lk h p.2)
def later (h : List (ι × ι)) (R : List (List (ι × ι) × (ι × ι))) : List (ι × ι) :=
  (R.filter fun r => !jn h r.2 && r.1.all (jn h)).map (·.2)
def labelsGo (srt : ι → ι → ι × ι) (R : List (List (ι × ι) × (ι × ι))) : Nat → List (ι × ι) → List (ι × ι) → List (ι × ι)
  | 0, h, _ => h
  | _ + 1, h, [] => h
  | n + 1, h, p :: ps => labelsGo srt R n ((p :: ps).foldl (putTog srt) h) (later ((p :: ps).foldl (putTog srt) h) R)
def labels (srt : ι → ι → ι × ι) (I : List ι) (R : List (List (ι × ι) × (ι × ι))) (ps : List (ι × ι)) : List (ι × ι) :=
  labelsGo srt R (I.length * I.length + 2) (I.map fun x => (x, x)) ps

/-! ### a dict over I -/
/-- h is a dict with just the keys I, in this order -/
def KeysI (I : List ι) (h : List (ι × ι)) : Prop := h.map (·.1) = I

theorem putTog_keys {srt : ι → ι → ι × ι} {I : List ι} {h : List (ι × ι)} {p : ι × ι} (k : KeysI I h) : KeysI I (putTog srt h p) := by
  unfold KeysI putTog at *
  rw [List.map_map]
  exact k
theorem fold_keys {srt : ι → ι → ι × ι} {I : List ι} : ∀ (ps : List (ι × ι)) {h : List (ι × ι)}, KeysI I h → KeysI I (ps.foldl (putTog srt) h)
  | [], _, k => k
  | _ :: r, _, k => fold_keys r (putTog_keys k)

theorem lookup_map {f : ι → ι} : ∀ {h : List (ι × ι)} {x : ι}, (h.map fun nm => (nm.1, f nm.2)).lookup x = (h.lookup x).map f
  | [], _ => rfl
  | (n, m) :: r, x => by
    rw [List.map_cons, List.lookup_cons, List.lookup_cons]
    cases e : x == n with
    | true => rfl
    | false => exact lookup_map
theorem mem_lookup {x : ι} : ∀ {h : List (ι × ι)}, x ∈ h.map (·.1) → ∃ m, h.lookup x = some m
  | [], hx => by cases hx
  | (n, m) :: r, hx => by
    rw [List.lookup_cons]
    cases e : x == n with
    | true => exact ⟨m, rfl⟩
    | false =>
      rw [List.map_cons] at hx
      rcases List.mem_cons.mp hx with q | q
      · have : x = n := q
        rw [this] at e
        simp at e
      · exact mem_lookup q
theorem putTog_lk {srt : ι → ι → ι × ι} {I : List ι} {h : List (ι × ι)} {p : ι × ι} (k : KeysI I h) {x : ι} (hx : x ∈ I) :
    lk (putTog srt h p) x = if lk h x = (srt (lk h p.1) (lk h p.2)).2 then (srt (lk h p.1) (lk h p.2)).1 else lk h x := by
  have hx' : x ∈ h.map (·.1) := by rw [k]; exact hx
  obtain ⟨m, e⟩ := mem_lookup hx'
  have e2 : (putTog srt h p).lookup x = (h.lookup x).map fun v => if v = (srt (lk h p.1) (lk h p.2)).2 then (srt (lk h p.1) (lk h p.2)).1 else v := lookup_map (f := fun v => if v = (srt (lk h p.1) (lk h p.2)).2 then (srt (lk h p.1) (lk h p.2)).1 else v)
  have e3 : lk h x = m := by
    show (h.lookup x).getD x = m
    rw [e]
    rfl
  show ((putTog srt h p).lookup x).getD x = _
  rw [e2, e, e3]
  rfl

/-- an order of two -/
def Srt (srt : ι → ι → ι × ι) : Prop := ∀ a b, srt a b = (a, b) ∨ srt a b = (b, a)

section
variable {srt : ι → ι → ι × ι} {I : List ι} {h : List (ι × ι)} {p : ι × ι}
/-- a step joins its pair -/
theorem putTog_joins (S : Srt srt) (k : KeysI I h) (h1 : p.1 ∈ I) (h2 : p.2 ∈ I) : jn (putTog srt h p) p = true := by
  unfold jn
  rw [putTog_lk k h1, putTog_lk k h2]
  rcases S (lk h p.1) (lk h p.2) with e | e <;> rw [e] <;> simp
/-- what was joined stays -/
theorem putTog_mono (k : KeysI I h) {q : ι × ι} (h1 : q.1 ∈ I) (h2 : q.2 ∈ I) (hj : jn h q = true) : jn (putTog srt h p) q = true := by
  unfold jn at *
  rw [putTog_lk k h1, putTog_lk k h2]
  have e := of_decide_eq_true hj
  rw [e]
  exact decide_eq_true rfl
theorem fold_mono : ∀ (ps : List (ι × ι)) {h : List (ι × ι)}, KeysI I h → ∀ {q : ι × ι}, q.1 ∈ I → q.2 ∈ I → jn h q = true → jn (ps.foldl (putTog srt) h) q = true
  | [], _, _, _, _, _, hj => hj
  | _ :: r, _, k, _, h1, h2, hj => fold_mono r (putTog_keys k) h1 h2 (putTog_mono k h1 h2 hj)
theorem fold_joins (S : Srt srt) : ∀ (ps : List (ι × ι)) {h : List (ι × ι)}, KeysI I h → (∀ q ∈ ps, q.1 ∈ I ∧ q.2 ∈ I) → ∀ q ∈ ps, jn (ps.foldl (putTog srt) h) q = true
  | [], _, _, _, q, hq => by cases hq
  | p :: r, h, k, hi, q, hq => by
    have hp := hi p List.mem_cons_self
    rcases List.mem_cons.mp hq with e | hq
    · subst e
      exact fold_mono r (putTog_keys k) hp.1 hp.2 (putTog_joins S k hp.1 hp.2)
    · exact fold_joins S r (putTog_keys k) (fun q hq => hi q (List.mem_cons_of_mem _ hq)) q hq

/-- an equivalence on I, told by a label -/
def Sound (I : List ι) (h : List (ι × ι)) (E : ι → ι → Prop) : Prop := ∀ x y, x ∈ I → y ∈ I → lk h x = lk h y → E x y
theorem putTog_sound {E : ι → ι → Prop} (sy : ∀ x y, E x y → E y x) (tr : ∀ x y z, E x y → E y z → E x z) (S : Srt srt) (k : KeysI I h) (h1 : p.1 ∈ I) (h2 : p.2 ∈ I)
    (s : Sound I h E) (hp : E p.1 p.2) : Sound I (putTog srt h p) E := by
  intro x y hx hy e
  rw [putTog_lk k hx, putTog_lk k hy] at e
  have key : ∀ z, z ∈ I → lk h z = lk h p.1 ∨ lk h z = lk h p.2 → E z p.1 := fun z hz e => by
    rcases e with e | e
    · exact s z p.1 hz h1 e
    · exact tr z p.2 p.1 (s z p.2 hz h2 e) (sy _ _ hp)
  rcases S (lk h p.1) (lk h p.2) with q | q
  all_goals
    rw [q] at e
    simp only at e
    split at e
    · rename_i ex
      split at e
      · rename_i ey
        exact s x y hx hy (ex.trans ey.symm)
      · rename_i ey
        exact tr x p.1 y (key x hx (by first | exact .inl ex | exact .inr ex)) (sy _ _ (key y hy (by first | exact .inl e.symm | exact .inr e.symm)))
    · rename_i ex
      split at e
      · rename_i ey
        exact tr x p.1 y (key x hx (by first | exact .inl e | exact .inr e)) (sy _ _ (key y hy (by first | exact .inl ey | exact .inr ey)))
      · exact s x y hx hy e
theorem fold_sound {E : ι → ι → Prop} (sy : ∀ x y, E x y → E y x) (tr : ∀ x y z, E x y → E y z → E x z) (S : Srt srt) : ∀ (ps : List (ι × ι)) {h : List (ι × ι)}, KeysI I h →
    (∀ q ∈ ps, q.1 ∈ I ∧ q.2 ∈ I) → (∀ q ∈ ps, E q.1 q.2) → Sound I h E → Sound I (ps.foldl (putTog srt) h) E
  | [], _, _, _, _, s => s
  | p :: r, h, k, hi, hE, s => by
    have hp := hi p List.mem_cons_self
    exact fold_sound sy tr S r (putTog_keys k) (fun q hq => hi q (List.mem_cons_of_mem _ hq)) (fun q hq => hE q (List.mem_cons_of_mem _ hq)) (putTog_sound sy tr S k hp.1 hp.2 s (hE p List.mem_cons_self))
end

/-! ### how many are apart -/
def sq (I : List ι) : List (ι × ι) := I.flatMap fun x => I.map fun y => (x, y)
theorem mem_sq {I : List ι} {q : ι × ι} : q ∈ sq I ↔ q.1 ∈ I ∧ q.2 ∈ I := by
  unfold sq
  rw [List.mem_flatMap]
  constructor
  · rintro ⟨x, hx, hq⟩
    obtain ⟨y, hy, e⟩ := List.mem_map.mp hq
    subst e
    exact ⟨hx, hy⟩
  · rintro ⟨h1, h2⟩
    exact ⟨q.1, h1, List.mem_map.mpr ⟨q.2, h2, rfl⟩⟩
theorem length_sq (I : List ι) : (sq I).length = I.length * I.length := by
  have key : ∀ J : List ι, (J.flatMap fun x => I.map fun y => (x, y)).length = J.length * I.length := by
    intro J
    induction J with
    | nil => simp
    | cons a r ih =>
      rw [List.flatMap_cons, List.length_append, ih, List.length_map, List.length_cons, Nat.succ_mul, Nat.add_comm]
  exact key I
def apart (I : List ι) (h : List (ι × ι)) : Nat := ((sq I).filter fun q => !jn h q).length
theorem filter_lt {α : Type} {p q : α → Bool} : ∀ {l : List α}, (∀ x ∈ l, q x = true → p x = true) → (∃ x ∈ l, p x = true ∧ q x = false) → (l.filter q).length < (l.filter p).length
  | [], _, ⟨_, h, _⟩ => by cases h
  | a :: r, h, ⟨x, hx, h1, h2⟩ => by
    have le : ∀ {l : List α}, (∀ x ∈ l, q x = true → p x = true) → (l.filter q).length ≤ (l.filter p).length := by
      intro l
      induction l with
      | nil => intro _; simp
      | cons b t ih =>
        intro hh
        have ih' := ih fun x hx => hh x (List.mem_cons_of_mem _ hx)
        rw [List.filter_cons, List.filter_cons]
        cases eq : q b with
        | true =>
          rw [if_pos rfl, if_pos (hh b List.mem_cons_self eq)]
          simp only [List.length_cons]
          omega
        | false =>
          rw [if_neg (by simp)]
          cases ep : p b with
          | true => rw [if_pos rfl]; simp only [List.length_cons]; omega
          | false => rw [if_neg (by simp)]; exact ih'
    rw [List.filter_cons, List.filter_cons]
    rcases List.mem_cons.mp hx with e | hx
    · subst e
      rw [h1, h2, if_pos rfl, if_neg (by simp)]
      have := le (l := r) fun x hx => h x (List.mem_cons_of_mem _ hx)
      simp only [List.length_cons]
      omega
    · have ih := filter_lt (l := r) (fun x hx => h x (List.mem_cons_of_mem _ hx)) ⟨x, hx, h1, h2⟩
      cases eq : q a with
      | true =>
        rw [if_pos rfl, if_pos (h a List.mem_cons_self eq)]
        simp only [List.length_cons]
        omega
      | false =>
        rw [if_neg (by simp)]
        cases ep : p a with
        | true => rw [if_pos rfl]; simp only [List.length_cons]; omega
        | false => rw [if_neg (by simp)]; exact ih

section
variable {srt : ι → ι → ι × ι} {I : List ι} {R : List (List (ι × ι) × (ι × ι))}
theorem mem_later {h : List (ι × ι)} {q : ι × ι} (hq : q ∈ later h R) : jn h q = false ∧ ∃ w, (w, q) ∈ R := by
  obtain ⟨r, hr, e⟩ := List.mem_map.mp hq
  obtain ⟨h1, h2⟩ := List.mem_filter.mp hr
  subst e
  simp only [Bool.and_eq_true, Bool.not_eq_true'] at h2
  exact ⟨h2.1, r.1, h1⟩
theorem later_nil {h : List (ι × ι)} (e : later h R = []) : ∀ r ∈ R, (∀ q ∈ r.1, jn h q = true) → jn h r.2 = true := by
  intro r hr hw
  have e1 : (R.filter fun r => !jn h r.2 && r.1.all (jn h)) = [] := List.map_eq_nil_iff.mp e
  have h2 := List.filter_eq_nil_iff.mp e1 r hr
  cases q : jn h r.2 with
  | true => rfl
  | false =>
    exfalso
    refine h2 ?_
    rw [q]
    simp only [Bool.not_false, Bool.true_and]
    exact List.all_eq_true.mpr hw
/-- the pairs of the rules are of I -/
def RulesI (I : List ι) (R : List (List (ι × ι) × (ι × ι))) : Prop := ∀ r ∈ R, (∀ q ∈ r.1, q.1 ∈ I ∧ q.2 ∈ I) ∧ r.2.1 ∈ I ∧ r.2.2 ∈ I
theorem later_in {h : List (ι × ι)} (RI : RulesI I R) : ∀ q ∈ later h R, q.1 ∈ I ∧ q.2 ∈ I := by
  intro q hq
  obtain ⟨_, w, hw⟩ := mem_later hq
  exact (RI _ hw).2
theorem apart_lt (S : Srt srt) {h : List (ι × ι)} (k : KeysI I h) {p : ι × ι} {ps : List (ι × ι)} (hi : ∀ q ∈ p :: ps, q.1 ∈ I ∧ q.2 ∈ I) (hp : jn h p = false) : apart I ((p :: ps).foldl (putTog srt) h) < apart I h := by
  refine filter_lt (fun q hq e => ?_) ⟨p, mem_sq.mpr (hi p List.mem_cons_self), by rw [hp]; rfl, by rw [fold_joins S _ k hi p List.mem_cons_self]; rfl⟩
  cases z : jn h q with
  | false => rfl
  | true =>
    obtain ⟨h1, h2⟩ := mem_sq.mp hq
    rw [fold_mono (p :: ps) k h1 h2 z] at e
    exact e
/-- what a closed equivalence is -/
def Closed (R : List (List (ι × ι) × (ι × ι))) (E : ι → ι → Prop) : Prop := ∀ r ∈ R, (∀ q ∈ r.1, E q.1 q.2) → E r.2.1 r.2.2
theorem later_E {h : List (ι × ι)} {E : ι → ι → Prop} (RI : RulesI I R) (C : Closed R E) (s : Sound I h E) : ∀ q ∈ later h R, E q.1 q.2 := by
  intro q hq
  obtain ⟨r, hr, e⟩ := List.mem_map.mp hq
  obtain ⟨h1, h2⟩ := List.mem_filter.mp hr
  subst e
  simp only [Bool.and_eq_true, Bool.not_eq_true', List.all_eq_true] at h2
  refine C r h1 fun q hq => ?_
  obtain ⟨a, b⟩ := (RI r h1).1 q hq
  exact s q.1 q.2 a b (of_decide_eq_true (h2.2 q hq))
/-- the loop's end -/
theorem go_end (S : Srt srt) (RI : RulesI I R) : ∀ (n : Nat) {h ps : List (ι × ι)}, KeysI I h → (∀ q ∈ ps, q.1 ∈ I ∧ q.2 ∈ I) → (ps = [] → later h R = []) → (∀ q ∈ ps, jn h q = false) → apart I h < n →
    KeysI I (labelsGo srt R n h ps) ∧ later (labelsGo srt R n h ps) R = [] ∧ (∀ q : ι × ι, q.1 ∈ I → q.2 ∈ I → jn h q = true → jn (labelsGo srt R n h ps) q = true) ∧ (∀ q ∈ ps, jn (labelsGo srt R n h ps) q = true)
  | 0, _, _, _, _, _, _, l => absurd l (Nat.not_lt_zero _)
  | n + 1, h, [], k, _, e, _, _ => ⟨k, e rfl, fun _ _ _ z => z, fun q hq => by cases hq⟩
  | n + 1, h, p :: ps, k, hi, _, ha, l => by
    have k2 : KeysI I ((p :: ps).foldl (putTog srt) h) := fold_keys _ k
    have l2 := apart_lt S k hi (ha p List.mem_cons_self)
    obtain ⟨a, b, c, d⟩ := go_end S RI n k2 (later_in RI) (fun z => z) (fun q hq => (mem_later hq).1) (by omega)
    refine ⟨a, b, fun q h1 h2 z => c q h1 h2 (fold_mono _ k h1 h2 z), fun q hq => c q (hi q hq).1 (hi q hq).2 (fold_joins S _ k hi q hq)⟩
theorem go_sound (S : Srt srt) (RI : RulesI I R) {E : ι → ι → Prop} (sy : ∀ x y, E x y → E y x) (tr : ∀ x y z, E x y → E y z → E x z) (C : Closed R E) : ∀ (n : Nat) {h ps : List (ι × ι)}, KeysI I h → (∀ q ∈ ps, q.1 ∈ I ∧ q.2 ∈ I) →
    (∀ q ∈ ps, E q.1 q.2) → Sound I h E → Sound I (labelsGo srt R n h ps) E
  | 0, _, _, _, _, _, s => s
  | n + 1, h, [], _, _, _, s => s
  | n + 1, h, p :: ps, k, hi, hE, s => by
    have s2 := fold_sound sy tr S (p :: ps) k hi hE s
    exact go_sound S RI sy tr C n (fold_keys _ k) (later_in RI) (later_E RI C s2) s2
theorem start_keys : KeysI I (I.map fun x => (x, x)) := by
  unfold KeysI
  rw [List.map_map]
  exact List.map_id _
theorem start_lk {x : ι} : lk (I.map fun x => (x, x)) x = x := by
  have key : ∀ J : List ι, ((J.map fun x => (x, x)).lookup x).getD x = x := by
    intro J
    induction J with
    | nil => rfl
    | cons a r ih =>
      rw [List.map_cons, List.lookup_cons]
      cases e : x == a with
      | true =>
        show a = x
        exact (beq_iff_eq.mp e).symm
      | false => exact ih
  exact key I
theorem apart_le (h : List (ι × ι)) : apart I h ≤ I.length * I.length := by
  rw [← length_sq I]
  exact List.length_filter_le _ _
/-- THE CLOSURE: the labels' end -/
theorem labels_spec (S : Srt srt) (RI : RulesI I R) (ne : ∀ r ∈ R, ∃ q ∈ r.1, q.1 ≠ q.2) {ps : List (ι × ι)} (hi : ∀ q ∈ ps, q.1 ∈ I ∧ q.2 ∈ I) :
    KeysI I (labels srt I R ps) ∧ (∀ q ∈ ps, jn (labels srt I R ps) q = true) ∧ (∀ r ∈ R, (∀ q ∈ r.1, jn (labels srt I R ps) q = true) → jn (labels srt I R ps) r.2 = true) ∧
    ∀ E : ι → ι → Prop, (∀ x, E x x) → (∀ x y, E x y → E y x) → (∀ x y z, E x y → E y z → E x z) → Closed R E → (∀ q ∈ ps, E q.1 q.2) → Sound I (labels srt I R ps) E := by
  have snd : ∀ E : ι → ι → Prop, (∀ x, E x x) → (∀ x y, E x y → E y x) → (∀ x y z, E x y → E y z → E x z) → Closed R E → (∀ q ∈ ps, E q.1 q.2) → Sound I (labels srt I R ps) E := fun E rf sy tr C hE => by
    refine go_sound S RI sy tr C _ start_keys hi hE fun x y _ _ e => ?_
    rw [start_lk, start_lk] at e
    rw [e]
    exact rf y
  cases ps with
  | nil =>
    refine ⟨start_keys, fun q hq => (by cases hq), fun r hr hw => ?_, snd⟩
    obtain ⟨q, hq, hd⟩ := ne r hr
    have z : jn (I.map fun x => (x, x)) q = true := hw q hq
    have z2 := of_decide_eq_true z
    rw [start_lk, start_lk] at z2
    exact absurd z2 hd
  | cons p r =>
    have k2 : KeysI I ((p :: r).foldl (putTog srt) (I.map fun x => (x, x))) := fold_keys _ start_keys
    obtain ⟨a, b, c, _⟩ := go_end S RI (I.length * I.length + 1) k2 (later_in RI) (fun z => z) (fun q hq => (mem_later hq).1) (Nat.lt_succ_of_le (apart_le _))
    exact ⟨a, fun q hq => c q (hi q hq).1 (hi q hq).2 (fold_joins S _ start_keys hi q hq), later_nil b, snd⟩
end
end Fd
/-! lowest_of, peeled, fit_all, names_of, can_be, stuck_lot, flood_of, is_stuck. -/
namespace Fz
open PySem L2 PyProof.Rows
open PySem.W (Datum DatumOrd Tup T3)
open Enc (enc)

/-! ### labels by so many turns -/
def rl (r : Rule) : List Pair × Pair := (r.1.items, r.2)
def labs (I : List Str) (R : List Rule) (ps : List Pair) : List Pair := Fd.labels srt2 I (R.map rl) ps
theorem later_eq (h : List Pair) (R : List Rule) : later h R = Fd.later h (R.map rl) := by
  unfold later Fd.later
  rw [List.filter_map, List.map_map]
  rfl
theorem srt2_ok : Fd.Srt srt2 := srt2_or
theorem rules_in {I : List Str} {R : List Rule} (RI : RIn I R) : Fd.RulesI I (R.map rl) := fun r hr => by
  obtain ⟨q, hq, rfl⟩ := List.mem_map.mp hr
  exact ⟨(RI q hq).1, (RI q hq).2⟩
theorem lps_of {I : List Str} {R : List Rule} (RI : RIn I R) : ∀ (n : Nat) {h ps : List Pair}, Fd.KeysI I h → (∀ q ∈ ps, PIn I q) → (∀ q ∈ ps, jn h q = false) → Fd.apart I h < n → ∃ m, Lps labGo (labStep R) m (h, ps) (Fd.labelsGo srt2 (R.map rl) n h ps, [])
  | 0, _, _, _, _, _, l => absurd l (Nat.not_lt_zero _)
  | n + 1, h, [], k, _, _, _ => ⟨0, .stop rfl⟩
  | n + 1, h, p :: ps, k, hi, ha, l => by
    have k2 : Fd.KeysI I ((p :: ps).foldl putTog h) := Fd.fold_keys (srt := srt2) _ k
    have l2 := Fd.apart_lt srt2_ok k hi (ha p List.mem_cons_self)
    obtain ⟨m, q⟩ := lps_of RI n (h := (p :: ps).foldl putTog h) (ps := later ((p :: ps).foldl putTog h) R) k2 (later_in RI) (fun q hq => by rw [later_eq] at hq; exact (Fd.mem_later hq).1) (Nat.lt_of_lt_of_le l2 (Nat.le_of_lt_succ l))
    refine ⟨m + 1, .go rfl ?_⟩
    have e : Fd.labelsGo srt2 (R.map rl) (n + 1) h (p :: ps) = Fd.labelsGo srt2 (R.map rl) n ((p :: ps).foldl putTog h) (later ((p :: ps).foldl putTog h) R) := by
      rw [later_eq]
      rfl
    rw [e]
    exact q
theorem labs_ok {I : List Str} {R : List Rule} {ps : List Pair} (RI : RIn I R) (hi : ∀ q ∈ ps, PIn I q) : Labs I R ps (labs I R ps) := by
  cases ps with
  | nil => exact ⟨0, .stop rfl⟩
  | cons p r =>
    have k2 : Fd.KeysI I ((p :: r).foldl putTog (I.map fun x => (x, x))) := Fd.fold_keys (srt := srt2) _ Fd.start_keys
    obtain ⟨m, q⟩ := lps_of RI (I.length * I.length + 1) k2 (later_in (h := (p :: r).foldl putTog (I.map fun x => (x, x))) RI) (fun q hq => by rw [later_eq] at hq; exact (Fd.mem_later hq).1) (Nat.lt_succ_of_le (Fd.apart_le _))
    refine ⟨m + 1, .go rfl ?_⟩
    have e : labs I R (p :: r) = Fd.labelsGo srt2 (R.map rl) (I.length * I.length + 1) ((p :: r).foldl putTog (I.map fun x => (x, x))) (later ((p :: r).foldl putTog (I.map fun x => (x, x))) R) := by
      rw [later_eq]
      rfl
    rw [e]
    exact q
theorem labs_keys {I : List Str} {R : List Rule} {ps : List Pair} : (labs I R ps).map (·.1) = I := by
  have key : ∀ (n : Nat) (h qs : List Pair), h.map (·.1) = I → (Fd.labelsGo srt2 (R.map rl) n h qs).map (·.1) = I := by
    intro n
    induction n with
    | zero => intro h qs k; exact k
    | succ n ih =>
      intro h qs k
      cases qs with
      | nil => exact k
      | cons p r => exact ih _ _ (Fd.fold_keys (srt := srt2) (p :: r) k)
  exact key _ _ _ Fd.start_keys

/-! ### what fits -/
structure TkOk (t : Tk) : Prop where
  nd : t.isl.Nodup
  il : t.isl.length ≤ 1000
  rl : t.rul.length ≤ 1000
  ri : RIn t.isl t.rul
def wet (fs : List Flood) : List Pair := fs.flatMap fun f => f.b.items
structure FOk (I : List Str) (fs : List Flood) : Prop where
  b : ∀ f ∈ fs, ∀ p ∈ f.b.items, PIn I p
  c : ∀ f ∈ fs, ∀ p ∈ f.c.items, PIn I p
  wl : (wet fs).length ≤ 1000
  fl : fs.length ≤ 1000
theorem FOk.filter {I : List Str} {fs : List Flood} (h : FOk I fs) (t : Flood → Bool) : FOk I (fs.filter t) := by
  refine ⟨fun f hf => h.b f (List.mem_filter.mp hf).1, fun f hf => h.c f (List.mem_filter.mp hf).1, Nat.le_trans ?_ h.wl, Nat.le_trans (List.length_filter_le _ _) h.fl⟩
  unfold wet
  clear h
  induction fs with
  | nil => exact Nat.le_refl _
  | cons f fs ih =>
    rw [List.filter_cons]
    split
    · rw [List.flatMap_cons, List.flatMap_cons, List.length_append, List.length_append]
      omega
    · rw [List.flatMap_cons, List.length_append]
      omega
theorem FOk.wet {I : List Str} {fs : List Flood} (h : FOk I fs) : ∀ p ∈ wet fs, PIn I p := fun p hp => by
  obtain ⟨f, hf, hq⟩ := List.mem_flatMap.mp hp
  exact h.b f hf p hq
def lowF (t : Tk) (fs : List Flood) : List Flood := fs.filter fun f => !f.c.items.any (jn (labs t.isl t.rul (wet fs)))
section
variable {w : World} {K : PySem.W.Frag} {mg : Str → Option Value} {base : Heap} {C : Addr}
/-! ### lowest_of -/
def gLow (ds : List D) (d : D) : Prop := ∃ (t : Tk) (fs : List Flood), ds = [t.d, .lst (fs.map enc)] ∧ TkOk t ∧ FOk t.isl fs ∧ d = .lst ((lowF t fs).map enc)
def nLow : List Str := ["talk", "floods", "here", "flood", "pair"]
theorem sc_low : FnScope nLow ["talk", "floods"] (defScope (top 17)) := ⟨rfl, rfl, rfl, by decide +kernel, rfl, by decide +kernel, by decide +kernel⟩
theorem ok_low (b : MgB mg) (h : DefAt K mg "lowest_of" 17) (oL : Ok w K mg base C 3 "labels" ["talk", "pairs"] gLab) (oW : Ok w K mg base C 1 "joined_in" ["floods"] gJoin) (oJ : Ok w K mg base C 1 "is_joined" ["here", "pair"] gJn) :
    Ok w K mg base C 4 "lowest_of" ["talk", "floods"] gLow := by
  obtain ⟨f, fd, F, m⟩ := h
  refine ⟨f, fd, fn_data F sc_low (fun ds d ⟨t, p, e, _⟩ => by rw [e]; rfl) (fun cdv A outer s H E hr ds d hg Fr => ?_), m, F.kp, F.bindsN fun _ _ _ _ _ _ us hl => match us, hl with | [_, _], _ => rfl⟩
  obtain ⟨t, fs, rfl, tk, fo, rfl⟩ := hg
  have hr1 := hr.mono (show 1 ≤ 3 by decide)
  have call1 : ∀ p : Pair, PIn t.isl p → gJn [.dic (labs t.isl t.rul (wet fs)), enc p] (.bl (jn (labs t.isl t.rul (wet fs)) p)) := fun p q => ⟨_, p, rfl, by rw [labs_keys]; exact q.1, by rw [labs_keys]; exact q.2, rfl⟩
  refine b_step (s_set (i := 2) sc_low.nd (k_d (d_fn oL rfl hr (a2 (dv 0) (d_fn oW rfl hr1 (a1 (dv 1)) ⟨fs, rfl, fo.wl, rfl⟩)) ⟨t, wet fs, labs t.isl t.rul (wet fs), rfl, tk.nd, tk.il, tk.rl, tk.ri, fo.wet, labs_ok tk.ri fo.wet, rfl⟩))) (b_stop (s_ret (d_of_f ?_)))
  exact f_lc (own := [("flood", 3)]) fs enc enc (fun f => !f.c.items.any (jn (labs t.isl t.rul (wet fs)))) _ rfl sc_low.nd (blkOk_by (by kernel_rfl)) (i_list (dv 1)) (fun s H B cl fp a ha => g_name (i := 3) sc_low.nd)
    (fun s H B cl fp a ha => ts_one (t_not (t_val (d_b (c_anyM rfl) b.any (by rfl) (a1 (d_of_f (f_map (own := [("pair", 4)]) a.c.items enc (fun p => .bl (jn (labs t.isl t.rul (wet fs)) p)) _ rfl sc_low.nd (blkOk_by (by kernel_rfl)) (i_tup (d_ixT (dv 3) d_int rfl))
      (fun s H B cl fp a ha => g_name (i := 4) sc_low.nd) (fun s H B cl fp p hp => d_fn oJ rfl hr1 (a2 (dv 2) (dv 4)) (call1 p (fo.c a ha p hp)))))))))) (fun s H B cl fp a ha => dv 3)
end
end Fz
/-! peeled, fit_all, names_of, can_be, stuck_lot, flood_of, is_stuck. -/
namespace Fz
open PySem L2 PyProof.Rows
open PySem.W (Datum DatumOrd Tup T3)
open Enc (enc)

abbrev Peel := List (List Flood) × List Flood × List Flood
def peelStep (t : Tk) (s : Peel) : Peel := (s.1 ++ [s.2.2], s.2.1.filter fun f => decide (f ∉ s.2.2), lowF t (s.2.1.filter fun f => decide (f ∉ s.2.2)))
def peelGo (s : Peel) : Bool := !s.2.2.isEmpty
def peelN (t : Tk) : Nat → Peel → Peel
  | 0, s => s
  | n + 1, s => if peelGo s = true then peelN t n (peelStep t s) else s
def peel (t : Tk) (fs : List Flood) : Peel := peelN t (fs.length + 1) ([], fs, lowF t fs)
theorem filter_lt {α : Type} {c : α → Bool} : ∀ {l : List α} {a : α}, a ∈ l → c a = false → (l.filter c).length < l.length
  | b :: l, a, ha, hc => by
    rw [List.filter_cons]
    rcases List.mem_cons.mp ha with e | ha
    · subst e
      rw [hc, if_neg Bool.false_ne_true]
      exact Nat.lt_succ_of_le (List.length_filter_le _ _)
    · have ih := filter_lt (l := l) ha hc
      split
      · exact Nat.succ_lt_succ ih
      · exact Nat.lt_succ_of_lt ih
theorem peel_lps (t : Tk) : ∀ (n : Nat) (s : Peel), s.2.1.length < n → s.2.2 = lowF t s.2.1 → ∃ m b, Lps peelGo (peelStep t) m s (b, (peelN t n s).2.1, []) ∧ b = (peelN t n s).1 ∧ m ≤ n
  | 0, _, h, _ => absurd h (Nat.not_lt_zero _)
  | n + 1, s, h, e => by
    unfold peelN
    cases g : peelGo s with
    | false =>
      rw [if_neg Bool.false_ne_true]
      refine ⟨0, s.1, ?_, rfl, Nat.zero_le _⟩
      have z : s.2.2 = [] := by
        unfold peelGo at g
        cases q : s.2.2 with
        | nil => rfl
        | cons a l => rw [q] at g; cases g
      have es : s = (s.1, s.2.1, []) := by rw [← z]
      rw [← es]
      exact .stop g
    | true =>
      rw [if_pos rfl]
      have lt : (peelStep t s).2.1.length < s.2.1.length := by
        unfold peelGo at g
        cases q : s.2.2 with
        | nil => rw [q] at g; cases g
        | cons a l =>
          have ha : a ∈ s.2.1 := by
            have z : a ∈ lowF t s.2.1 := by rw [← e, q]; exact List.mem_cons_self
            exact (List.mem_filter.mp z).1
          exact filter_lt ha (decide_eq_false fun z => z (by rw [q]; exact List.mem_cons_self))
      obtain ⟨m, b, q, e2, hm⟩ := peel_lps t n (peelStep t s) (by omega) rfl
      exact ⟨m + 1, b, .go g q, e2, Nat.succ_le_succ hm⟩
def peeled (t : Tk) (fs : List Flood) : List (List Flood) × List Flood := ((peel t fs).1, (peel t fs).2.1)
section
variable {w : World} {K : PySem.W.Frag} {mg : Str → Option Value} {base : Heap} {C : Addr}
def gPeel (ds : List D) (d : D) : Prop := ∃ (t : Tk) (fs : List Flood), ds = [t.d, .tup (fs.map enc)] ∧ TkOk t ∧ FOk t.isl fs ∧ d = .tup [.lst ((peeled t fs).1.map enc), .lst ((peeled t fs).2.map enc)]
def nPeel : List Str := ["talk", "floods", "blocks", "rest", "low", "flood"]
theorem sc_peel : FnScope nPeel ["talk", "floods"] (defScope (top 18)) := ⟨rfl, rfl, rfl, by decide +kernel, rfl, by decide +kernel, by decide +kernel⟩
theorem ok_peel (b : MgB mg) (h : DefAt K mg "peeled" 18) (oL : Ok w K mg base C 4 "lowest_of" ["talk", "floods"] gLow) : Ok w K mg base C 5 "peeled" ["talk", "floods"] gPeel := by
  obtain ⟨f, fd, F, m⟩ := h
  refine ⟨f, fd, fn_data F sc_peel (fun ds d ⟨t, p, e, _⟩ => by rw [e]; rfl) (fun cdv A outer s H E hr ds d hg Fr => ?_), m, F.kp, F.bindsN fun _ _ _ _ _ _ us hl => match us, hl with | [_, _], _ => rfl⟩
  obtain ⟨t, fs, rfl, tk, fo, rfl⟩ := hg
  obtain ⟨n, bl, hl, ebl, hn⟩ := peel_lps t (fs.length + 1) ([], fs, lowF t fs) (Nat.lt_succ_self _) rfl
  refine b_step (s_par (k1 := .own []) (k2 := .own (fs.map enc)) (i := 2) (j := 3) rfl sc_peel.nd (k_f (f_lst a_nil)) (k_f (f_t c_lstT b.list (by rfl) (a1 (dv 1))))) (b_fz (l := fs.map enc) 3 rfl ?_)
  refine b_step (s_set (i := 4) sc_peel.nd (k_d (d_fn oL rfl hr (a2 (dv 0) (dv 3)) ⟨t, fs, rfl, tk, fo, rfl⟩))) ?_
  let ρf : Nat × Peel → List Sl := fun s => [.dat t.d, .dat (.tup (fs.map enc)), .own (s.2.1.map enc), .dat (.lst (s.2.2.1.map enc)), .dat (.lst (s.2.2.2.map enc)), .no]
  have hlps : Lps (fun s : Nat × Peel => peelGo s.2) (fun s => (s.1 + 1, peelStep t s.2)) n (0, ([], fs, lowF t fs)) (n, (bl, (peeled t fs).2, [])) := by
    have key : ∀ {n k : Nat} {s s' : Peel}, Lps peelGo (peelStep t) n s s' → Lps (fun s : Nat × Peel => peelGo s.2) (fun s => (s.1 + 1, peelStep t s.2)) n (k, s) (k + n, s') := by
      intro n
      induction n with
      | zero =>
        intro k s s' h
        cases h with
        | stop h => exact .stop h
      | succ n ih =>
        intro k s s' h
        cases h with
        | go h1 h2 =>
          have q := ih (k := k + 1) h2
          rw [show k + (n + 1) = k + 1 + n by omega]
          exact .go h1 q
    have q := key (k := 0) hl
    rw [Nat.zero_add] at q
    exact q
  refine b_step (ρ1 := ρf (n, (bl, (peeled t fs).2, []))) (s_while (fun s : Nat × Peel => peelGo s.2) (fun s => (s.1 + 1, peelStep t s.2)) (fun s => s.2.1.length = s.1 ∧ s.2.1.length + s.2.2.1.length ≤ fs.length ∧ FOk t.isl s.2.2.1 ∧ s.2.2.2 = lowF t s.2.2.1) ρf PassesOwn.never ⟨rfl, by simp, fo, rfl⟩ ?_ ?_ ?_ hlps) (b_fz (l := bl.map enc) 2 rfl (b_stop (s_ret ?_)))
  · intro s g gs
    have lt : (peelStep t s.2).2.1.length < s.2.2.1.length := by
      have gs : (!s.2.2.2.isEmpty) = true := gs
      cases q : s.2.2.2 with
      | nil => rw [q] at gs; cases gs
      | cons a l =>
        have ha : a ∈ s.2.2.1 := by
          have z : a ∈ lowF t s.2.2.1 := by rw [← g.2.2.2, q]; exact List.mem_cons_self
          exact (List.mem_filter.mp z).1
        exact filter_lt ha (decide_eq_false fun z => z (by rw [q]; exact List.mem_cons_self))
    refine ⟨?_, ?_, g.2.2.1.filter _, rfl⟩
    · show (s.2.1 ++ [s.2.2.2]).length = s.1 + 1
      rw [List.length_append, g.1]
      rfl
    · have z := g.2.1
      show (s.2.1 ++ [s.2.2.2]).length + (peelStep t s.2).2.1.length ≤ _
      rw [List.length_append]
      simp only [List.length_cons, List.length_nil]
      omega
  · intro s g
    refine pt_eq ?_ (t_cmp o_gtI (d_b c_lenL b.len (by rfl) (a1 (dv 4))) d_int)
    show decide ((0 : Int) < ((s.2.2.2.map enc).length : Int)) = !s.2.2.2.isEmpty
    rw [List.length_map]
    cases s.2.2.2 with
    | nil => rfl
    | cons p r => exact decide_eq_true (by rw [List.length_cons]; omega)
  · intro s g gs
    have hz : (s.2.1.map (enc (α := List Flood))).length < sizeLine := by
      rw [List.length_map]
      exact Nat.lt_of_le_of_lt (Nat.le_trans (Nat.le_trans (Nat.le_add_right _ _) g.2.1) fo.fl) (by decide)
    refine n_step (s_app (i := 2) (l := s.2.1.map enc) rfl hz (dv 4)) ?_
    refine n_step (s_lc (i := 3) (own := [("flood", 5)]) s.2.2.1 enc enc (fun f => decide (f ∉ s.2.2.2)) _ rfl sc_peel.nd (blkOk_by (by kernel_rfl)) (i_list (dv 3)) (fun s H B cl fp a ha => g_name (i := 5) sc_peel.nd)
      (fun s' H B cl fp a ha => ts_one (t_cmp (o_ninL (u_in hr)) (dv 5) (dv 4))) (fun s H B cl fp a ha => dv 5)) (n_fzp (l := (s.2.2.1.filter fun f => decide (f ∉ s.2.2.2)).map enc) 3 rfl ?_)
    have e : ρf (s.1 + 1, peelStep t s.2) = [.dat t.d, .dat (.tup (fs.map enc)), .own (s.2.1.map enc ++ [enc s.2.2.2]), .dat (.lst ((peelStep t s.2).2.1.map enc)), .dat (.lst ((peelStep t s.2).2.2.map enc)), .no] := by
      show [_, _, Sl.own ((s.2.1 ++ [s.2.2.2]).map enc), _, _, _] = _
      rw [List.map_append]
      rfl
    rw [e]
    exact n_one (s_set (i := 4) sc_peel.nd (k_d (d_fn oL rfl hr (a2 (dv 0) (dv 3)) ⟨t, _, rfl, tk, g.2.2.1.filter _, rfl⟩)))
  · rw [ebl]
    exact d_tup (a2 (dv 2) (dv 3))
end
end Fz
/-! fit_all, names_of, can_be, stuck_lot, flood_of, is_stuck. -/
namespace Fz
open PySem L2 PyProof.Rows
open PySem.W (Datum DatumOrd Tup T3)
open Enc (enc)
structure TAll (t : Tk) : Prop where
  tk : TkOk t
  fo : FOk t.isl t.flo
def canBe (t : Tk) : Bool := (peeled t t.flo).2.isEmpty
def stuckLot (t : Tk) : List Str := srtL ((peeled t t.flo).2.map (·.a))
theorem isEmpty_dec {α : Type} (l : List α) : decide ((l.length : Int) = 0) = l.isEmpty := by
  cases l with
  | nil => rfl
  | cons a l => exact decide_eq_false (by rw [List.length_cons]; omega)
section
variable {w : World} {K : PySem.W.Frag} {mg : Str → Option Value} {base : Heap} {C : Addr}
def gFit (ds : List D) (d : D) : Prop := ∃ (t : Tk) (fs : List Flood), ds = [t.d, .tup (fs.map enc)] ∧ TkOk t ∧ FOk t.isl fs ∧ d = .bl (peeled t fs).2.isEmpty
theorem sc_fit : FnScope ["talk", "floods"] ["talk", "floods"] (defScope (top 19)) := ⟨rfl, rfl, rfl, by decide +kernel, rfl, by decide +kernel, by decide +kernel⟩
theorem ok_fit (b : MgB mg) (h : DefAt K mg "fit_all" 19) (oP : Ok w K mg base C 5 "peeled" ["talk", "floods"] gPeel) : Ok w K mg base C 6 "fit_all" ["talk", "floods"] gFit := by
  obtain ⟨f, fd, F, m⟩ := h
  refine ⟨f, fd, fn_data F sc_fit (fun ds d ⟨t, p, e, _⟩ => by rw [e]; rfl) (fun cdv A outer s H E hr ds d hg Fr => ?_), m, F.kp, F.bindsN fun _ _ _ _ _ _ us hl => match us, hl with | [_, _], _ => rfl⟩
  obtain ⟨t, fs, rfl, tk, fo, rfl⟩ := hg
  rw [← isEmpty_dec, ← List.length_map (f := enc (α := Flood))]
  exact b_stop (s_ret (d_cmp o_eqI (d_b c_lenL b.len (by rfl) (a1 (d_ixT (d_fn oP rfl hr (a2 (dv 0) (dv 1)) ⟨t, fs, rfl, tk, fo, rfl⟩) d_int rfl))) d_int))
def gNames (ds : List D) (d : D) : Prop := ∃ (fs : List Flood), ds = [.lst (fs.map enc)] ∧ d = .tup ((srtL (fs.map (·.a))).map enc)
theorem sc_names : FnScope ["floods", "flood"] ["floods"] (defScope (top 20)) := ⟨rfl, rfl, rfl, by decide +kernel, rfl, by decide +kernel, by decide +kernel⟩
theorem ok_names (b : MgB mg) (h : DefAt K mg "names_of" 20) : Ok w K mg base C 1 "names_of" ["floods"] gNames := by
  obtain ⟨f, fd, F, m⟩ := h
  refine ⟨f, fd, fn_data F sc_names (fun ds d ⟨t, e, _⟩ => by rw [e]; rfl) (fun cdv A outer s H E hr ds d hg Fr => ?_), m, F.kp, F.bindsN fun _ _ _ _ _ _ us hl => match us, hl with | [_], _ => rfl⟩
  obtain ⟨fs, rfl, rfl⟩ := hg
  refine b_stop (s_ret (d_t c_tupL b.tuple (by rfl) (a1 (d_of_f (f_cb (c_sortL (u_sort hr)) b.sorted (by rfl) (a1 (d_of_f ?_)))))))
  rw [List.map_map]
  exact f_map (own := [("flood", 1)]) fs enc (fun f => enc f.a) _ rfl sc_names.nd (blkOk_by (by kernel_rfl)) (i_list (dv 0)) (fun s H B cl fp a ha => g_name (i := 1) sc_names.nd) (fun s H B cl fp a ha => d_ixT (dv 1) d_int rfl)
def gCan (ds : List D) (d : D) : Prop := ∃ t : Tk, ds = [t.d] ∧ TAll t ∧ d = .bl (canBe t)
theorem sc_can : FnScope ["talk"] ["talk"] (defScope (top 21)) := ⟨rfl, rfl, rfl, by decide +kernel, rfl, by decide +kernel, by decide +kernel⟩
theorem ok_can (c : TalkK K C) (b : MgB mg) (h : DefAt K mg "can_be" 21) (oF : OkP w K mg base C 1 "floods" gFlo) (oP : Ok w K mg base C 6 "fit_all" ["talk", "floods"] gFit) : Ok w K mg base C 7 "can_be" ["talk"] gCan := by
  obtain ⟨f, fd, F, m⟩ := h
  refine ⟨f, fd, fn_data F sc_can (fun ds d ⟨t, e, _⟩ => by rw [e]; rfl) (fun cdv A outer s H E hr ds d hg Fr => ?_), m, F.kp, F.bindsN fun _ _ _ _ _ _ us hl => match us, hl with | [_], _ => rfl⟩
  obtain ⟨t, rfl, ta, rfl⟩ := hg
  exact b_stop (s_ret (d_fn oP rfl hr (a2 (dv 0) (d_prop c oF rfl (hr.mono (by decide)) (dv 0) ⟨_, _, rfl⟩)) ⟨t, t.flo, rfl, ta.tk, ta.fo, rfl⟩))
def gLot (ds : List D) (d : D) : Prop := ∃ t : Tk, ds = [t.d] ∧ TAll t ∧ d = .tup ((stuckLot t).map enc)
theorem sc_lot : FnScope ["talk"] ["talk"] (defScope (top 22)) := ⟨rfl, rfl, rfl, by decide +kernel, rfl, by decide +kernel, by decide +kernel⟩
theorem ok_lot (c : TalkK K C) (b : MgB mg) (h : DefAt K mg "stuck_lot" 22) (oF : OkP w K mg base C 1 "floods" gFlo) (oP : Ok w K mg base C 5 "peeled" ["talk", "floods"] gPeel) (oN : Ok w K mg base C 1 "names_of" ["floods"] gNames) : Ok w K mg base C 6 "stuck_lot" ["talk"] gLot := by
  obtain ⟨f, fd, F, m⟩ := h
  refine ⟨f, fd, fn_data F sc_lot (fun ds d ⟨t, e, _⟩ => by rw [e]; rfl) (fun cdv A outer s H E hr ds d hg Fr => ?_), m, F.kp, F.bindsN fun _ _ _ _ _ _ us hl => match us, hl with | [_], _ => rfl⟩
  obtain ⟨t, rfl, ta, rfl⟩ := hg
  exact b_stop (s_ret (d_fn oN rfl (hr.mono (by decide)) (a1 (d_ixT (d_fn oP rfl hr (a2 (dv 0) (d_prop c oF rfl (hr.mono (by decide)) (dv 0) ⟨_, _, rfl⟩)) ⟨t, t.flo, rfl, ta.tk, ta.fo, rfl⟩) d_int rfl)) ⟨_, rfl, rfl⟩))
/-- the flood of a name -/
def Fnd (t : Tk) (x : Str) (f : Flood) : Prop := ∃ r, t.flo.filter (fun f => decide (f.a = x)) = f :: r
def gFof (ds : List D) (d : D) : Prop := ∃ (t : Tk) (x : Str) (f : Flood), ds = [t.d, .str x] ∧ Fnd t x f ∧ d = enc f
def nFof : List Str := ["talk", "name", "found", "flood"]
theorem sc_fof : FnScope nFof ["talk", "name"] (defScope (top 23)) := ⟨rfl, rfl, rfl, by decide +kernel, rfl, by decide +kernel, by decide +kernel⟩
theorem ok_fof (c : TalkK K C) (b : MgB mg) (h : DefAt K mg "flood_of" 23) (oF : OkP w K mg base C 1 "floods" gFlo) : Ok w K mg base C 3 "flood_of" ["talk", "name"] gFof := by
  obtain ⟨f, fd, F, m⟩ := h
  refine ⟨f, fd, fn_data F sc_fof (fun ds d ⟨t, x, f, e, _⟩ => by rw [e]; rfl) (fun cdv A outer s H E hr ds d hg Fr => ?_), m, F.kp, F.bindsN fun _ _ _ _ _ _ us hl => match us, hl with | [_, _], _ => rfl⟩
  obtain ⟨t, x, fl, rfl, ⟨r, hf⟩, rfl⟩ := hg
  refine b_step (s_lc (i := 2) (own := [("flood", 3)]) t.flo enc enc (fun f => decide (f.a = x)) _ rfl sc_fof.nd (blkOk_by (by kernel_rfl)) (i_tup (d_prop c oF rfl hr (dv 0) ⟨_, _, rfl⟩)) (fun s H B cl fp a ha => g_name (i := 3) sc_fof.nd)
      (fun s' H B cl fp a ha => ts_one (t_cmp o_eqS (d_ixT (dv 3) d_int rfl) (dv 1))) (fun s H B cl fp a ha => dv 3)) (b_fz (l := (t.flo.filter fun f => decide (f.a = x)).map enc) 2 rfl ?_)
  rw [hf]
  refine b_step (s_ifF (pt_eq ?_ (t_cmp o_eqI (d_b c_lenL b.len (by rfl) (a1 (dv 2))) d_int)) n_nil) (b_stop (s_ret (d_ixL (dv 2) d_int (atI_nat (xs := (fl :: r).map enc) (j := 0) rfl))))
  exact decide_eq_false (by rw [List.length_map, List.length_cons]; omega)
/-- is_stuck, every name found -/
def isStuck (t : Tk) (fs : List Flood) : Bool := (lowF t fs).isEmpty
def gStk (ds : List D) (d : D) : Prop := ∃ (t : Tk) (q : List (Str × Flood)), (ds = [t.d, .tup (q.map fun p => .str p.1)] ∨ ds = [t.d, .lst (q.map fun p => .str p.1)]) ∧ TkOk t ∧ FOk t.isl (q.map (·.2)) ∧ (∀ p ∈ q, Fnd t p.1 p.2) ∧ d = .bl (isStuck t (q.map (·.2)))
def nStk : List Str := ["talk", "names", "name"]
theorem sc_stk : FnScope nStk ["talk", "names"] (defScope (top 24)) := ⟨rfl, rfl, rfl, by decide +kernel, rfl, by decide +kernel, by decide +kernel⟩
theorem ok_stk (b : MgB mg) (h : DefAt K mg "is_stuck" 24) (oL : Ok w K mg base C 4 "lowest_of" ["talk", "floods"] gLow) (oF : Ok w K mg base C 3 "flood_of" ["talk", "name"] gFof) : Ok w K mg base C 5 "is_stuck" ["talk", "names"] gStk := by
  obtain ⟨f, fd, F, m⟩ := h
  refine ⟨f, fd, fn_data F sc_stk (fun ds d ⟨t, x, e, _⟩ => by rcases e with e | e <;> rw [e] <;> rfl) (fun cdv A outer s H E hr ds d hg Fr => ?_), m, F.kp, F.bindsN fun _ _ _ _ _ _ us hl => match us, hl with | [_, _], _ => rfl⟩
  obtain ⟨t, q, hds, tk, fo, hq, rfl⟩ := hg
  unfold isStuck
  rw [← isEmpty_dec, ← List.length_map (f := enc (α := Flood))]
  have e : (q.map (·.2)).map (enc (α := Flood)) = q.map fun p => enc p.2 := List.map_map
  rcases hds with rfl | rfl
  · refine b_stop (s_ret (d_cmp o_eqI (d_b c_lenL b.len (by rfl) (a1 (d_fn oL rfl hr (a2 (dv 0) (d_of_f ?_)) ⟨t, q.map (·.2), rfl, tk, fo, rfl⟩))) d_int))
    rw [e]
    exact f_map (own := [("name", 2)]) q (fun p => .str p.1) (fun p => enc p.2) _ rfl sc_stk.nd (blkOk_by (by kernel_rfl)) (i_tup (dv 1)) (fun s H B cl fp a ha => g_name (i := 2) sc_stk.nd) (fun s H B cl fp a ha => d_fn oF rfl (hr.mono (by decide)) (a2 (dv 0) (dv 2)) ⟨t, a.1, a.2, rfl, hq a ha, rfl⟩)
  · refine b_stop (s_ret (d_cmp o_eqI (d_b c_lenL b.len (by rfl) (a1 (d_fn oL rfl hr (a2 (dv 0) (d_of_f ?_)) ⟨t, q.map (·.2), rfl, tk, fo, rfl⟩))) d_int))
    rw [e]
    exact f_map (own := [("name", 2)]) q (fun p => .str p.1) (fun p => enc p.2) _ rfl sc_stk.nd (blkOk_by (by kernel_rfl)) (i_list (dv 1)) (fun s H B cl fp a ha => g_name (i := 2) sc_stk.nd) (fun s H B cl fp a ha => d_fn oF rfl (hr.mono (by decide)) (a2 (dv 0) (dv 2)) ⟨t, a.1, a.2, rfl, hq a ha, rfl⟩)
end
end Fz
/-! The law's own functions: twos, one, whole, under, fits. -/
namespace Fz
open PySem L2 PyProof.Rows
open PySem.W (Datum DatumOrd Tup T3)
open Enc (enc)

abbrev Grid := Tup Int
/-! ### mirrors -/
def twoStep (I : List Str) (acc : List Pair) (q : Str × Nat) : List Pair := acc ++ (I.drop (q.2 + 1)).map fun y => (q.1, y)
def twos (I : List Str) : List Pair := I.zipIdx.foldl (twoStep I) []
def one (I : List Str) (g : Grid) (p : Pair) : Bool := decide (g.items.getD (I.idxOf p.1) 0 = g.items.getD (I.idxOf p.2) 0)
def whole (I : List Str) (g : Grid) (ps : List Pair) : Bool := ps.all (one I g)
def under (I : List Str) (g far : Grid) : Bool := (twos I).all fun p => !(one I far p && !one I g p)
def fits (I : List Str) (g : Grid) (f : Flood) : Bool := f.c.items.all (fun p => !one I g p) && whole I g f.b.items
theorem numb_map {α : Type} [DecidableEq α] [Enc α] (l : List α) : numb (l.map enc) = l.zipIdx.map fun q => D.tup [.int (q.2 : Nat), enc q.1] := by
  unfold numb
  rw [List.zipIdx_map, List.map_map]
  rfl
theorem zipIdx_at {α : Type} {l : List α} {i : Nat} {q : α × Nat} (h : l.zipIdx[i]? = some q) : q.2 = i ∧ l[i]? = some q.1 := by
  rw [List.getElem?_zipIdx] at h
  cases e : l[i]? with
  | none => rw [e] at h; cases h
  | some a =>
    rw [e] at h
    have h := Option.some.inj h
    subst h
    exact ⟨Nat.zero_add _, rfl⟩
theorem filter_nil {α : Type} [DecidableEq α] (l : List α) (t : α → Bool) : decide (l.filter t = []) = l.all fun a => !t a := by
  induction l with
  | nil => rfl
  | cons a l ih =>
    rw [List.all_cons, ← ih, List.filter_cons]
    cases h : t a with
    | true => simp
    | false => simp
theorem idx_at {α : Type} [DecidableEq α] : ∀ {l : List α} {x : α}, x ∈ l → l[l.idxOf x]? = some x ∧ ∀ m, m < l.idxOf x → l[m]? ≠ some x
  | a :: l, x, h => by
    by_cases e : a = x
    · subst e
      have z : (a :: l).idxOf a = 0 := by simp
      rw [z]
      exact ⟨rfl, fun m hm => absurd hm (Nat.not_lt_zero _)⟩
    · have z : (a :: l).idxOf x = l.idxOf x + 1 := by
        rw [List.idxOf_cons]
        have q : (a == x) = false := by simpa using e
        rw [q]
        rfl
      obtain ⟨h1, h2⟩ := idx_at (l := l) ((List.mem_cons.mp h).resolve_left fun q => e q.symm)
      rw [z]
      refine ⟨h1, fun m hm => ?_⟩
      cases m with
      | zero => exact fun q => e (Option.some.inj q)
      | succ m => exact h2 m (Nat.lt_of_succ_lt_succ hm)
section
variable {w : World} {K : PySem.W.Frag} {mg : Str → Option Value} {base : Heap} {C : Addr}
/-! ### twos -/
def gTwos (ds : List D) (d : D) : Prop := ∃ I : List Str, ds = [.tup (I.map enc)] ∧ I.length ≤ 8 ∧ d = .lst ((twos I).map enc)
def nTwos : List Str := ["_law_isles_here", "_law_found", "_law_k", "_law_own", "_law_far"]
theorem sc_twos : FnScope nTwos ["_law_isles_here"] (defScope (top 64)) := ⟨rfl, rfl, rfl, by decide +kernel, rfl, by decide +kernel, by decide +kernel⟩
theorem ok_twos (b : MgB mg) (h : DefAt K mg "_law_twos" 64) : Ok w K mg base C 1 "_law_twos" ["_law_isles_here"] gTwos := by
  obtain ⟨f, fd, F, m⟩ := h
  refine ⟨f, fd, fn_data F sc_twos (fun ds d ⟨t, e, _⟩ => by rw [e]; rfl) (fun cdv A outer s H E hr ds d hg Fr => ?_), m, F.kp, F.bindsN fun _ _ _ _ _ _ us hl => match us, hl with | [_], _ => rfl⟩
  obtain ⟨I, rfl, hI, rfl⟩ := hg
  refine b_step (s_set (i := 1) (k := .dat (.lst (([] : List Pair).map enc))) sc_twos.nd (k_d (d_lst a_nil))) ?_
  let ρf : List Pair → List Sl := fun acc => [.dat (.tup (I.map enc)), .dat (.lst (acc.map enc)), .no, .no, .no]
  refine b_step (ρ1 := ρf (twos I)) (s_for (vs := [2, 3]) I.zipIdx (fun q => D.tup [.int (q.2 : Nat), enc q.1]) (twoStep I) (fun i acc => acc.length ≤ 8 * i ∧ i ≤ 8) ρf _ [] PassesOwn.never rfl ⟨Nat.le_refl _, Nat.zero_le _⟩ ?_ (by rw [← numb_map]; exact i_enumT (by rfl) b.enumerate (dv 0))
    (fun i acc q hq g => g_tup rfl (gs_cons (g_name (i := 2) sc_twos.nd) (gs_cons (g_name (i := 3) sc_twos.nd) gs_nil))) ?_) (b_stop (s_ret (dv 1)))
  · intro i acc q hq g
    have hi : i < I.length := (List.getElem?_eq_some_iff.mp (zipIdx_at hq).2).1
    refine ⟨?_, by omega⟩
    unfold twoStep
    rw [List.length_append, List.length_map, List.length_drop]
    omega
  · intro i acc q hq g
    have e : ρf (twoStep I acc q) = [.dat (.tup (I.map enc)), .dat (.lst (acc.map enc ++ (I.drop (q.2 + 1)).map fun y => enc ((q.1, y) : Pair))), .no, .no, .no] := by
      show [_, Sl.dat (.lst ((twoStep I acc q).map enc)), _, _, _] = _
      unfold twoStep
      rw [List.map_append, List.map_map]
      rfl
    rw [e]
    refine n_no [2, 3] (n_one (s_set (i := 1) sc_twos.nd (k_d (d_bin (o_addL ?_) (dv 1) (d_of_f ?_)))))
    · rw [List.length_map, List.length_map, List.length_drop]
      exact Nat.le_trans (show _ ≤ 100 by omega) (by decide)
    · refine f_map (own := [("_law_far", 4)]) (I.drop (q.2 + 1)) enc (fun y => enc ((q.1, y) : Pair)) _ rfl sc_twos.nd (blkOk_by (by kernel_rfl)) (i_tup ?_) (fun s H B cl fp a ha => g_name (i := 4) sc_twos.nd) (fun s H B cl fp a ha => d_tup (a2 (dv 3) (dv 4)))
      have ec : (I.drop (q.2 + 1)).map enc = cutD (I.map enc) (some ((q.2 : Nat) + 1 : Int)) none := by
        have z := cutD_from (I.map enc) (q.2 + 1)
        rw [List.map_drop]
        exact z.symm
      rw [ec]
      exact d_slT (dv 0) (op_some (d_bin o_add (dv 2) d_int)) op_none
/-! ### one -/
def gOne (ds : List D) (d : D) : Prop := ∃ (I : List Str) (g : Grid) (p : Pair), ds = [.tupk (I.map enc), enc g, enc p] ∧ g.items.length = I.length ∧ PIn I p ∧ d = .bl (one I g p)
def nOne : List Str := ["_law_isles_here", "_law_grid", "_law_two"]
theorem sc_one : FnScope nOne nOne (defScope (top 68)) := ⟨rfl, rfl, rfl, by decide +kernel, rfl, by decide +kernel, by decide +kernel⟩
theorem at_getD {g : List Int} {j : Nat} (h : j < g.length) : atI (g.map (enc (α := Int))) (j : Int) = some (.int (g.getD j 0)) := by
  refine atI_nat ?_
  rw [List.getElem?_map, List.getD_eq_getElem?_getD]
  have e : g[j]? = some g[j] := by simp [h]
  rw [e]
  rfl
theorem ok_one (h : DefAt K mg "_law_one" 68) : Ok w K mg base C 1 "_law_one" nOne gOne := by
  obtain ⟨f, fd, F, m⟩ := h
  refine ⟨f, fd, fn_data F sc_one (fun ds d ⟨_, _, _, e, _⟩ => by rw [e]; rfl) (fun cdv A outer s H E hr ds d hg Fr => ?_), m, F.kp, F.bindsN fun _ _ _ _ _ _ us hl => match us, hl with | [_, _, _], _ => rfl⟩
  obtain ⟨I, g, p, rfl, hl, hp, rfl⟩ := hg
  have i1 := idx_at hp.1
  have i2 := idx_at hp.2
  have l1 : I.idxOf p.1 < g.items.length := by rw [hl]; exact (List.getElem?_eq_some_iff.mp i1.1).1
  have l2 : I.idxOf p.2 < g.items.length := by rw [hl]; exact (List.getElem?_eq_some_iff.mp i2.1).1
  exact b_stop (s_ret (d_cmp o_eqI (d_ixT (l := g.items.map enc) (dv 1) (d_index (dv 0) (d_ixT (l := [.str p.1, .str p.2]) (dv 2) d_int rfl) i1.1 i1.2) (at_getD l1)) (d_ixT (l := g.items.map enc) (dv 1) (d_index (dv 0) (d_ixT (l := [.str p.1, .str p.2]) (dv 2) d_int rfl) i2.1 i2.2) (at_getD l2))))
end
end Fz
/-! The law's own functions: whole, under, fits, grids, still. -/
namespace Fz
open PySem L2 PyProof.Rows
open PySem.W (Datum DatumOrd Tup T3 maxOf)
open Enc (enc)

theorem all_nn {α : Type} {l : List α} {t : α → Bool} : (l.all fun a => !!t a) = l.all t := by simp
section
variable {w : World} {K : PySem.W.Frag} {mg : Str → Option Value} {base : Heap} {C : Addr}
/-! ### whole -/
def gWho (ds : List D) (d : D) : Prop := ∃ (I : List Str) (g : Grid) (ps : List Pair), (ds = [.tupk (I.map enc), enc g, .tup (ps.map enc)] ∨ ds = [.tupk (I.map enc), enc g, .lst (ps.map enc)]) ∧ g.items.length = I.length ∧ (∀ p ∈ ps, PIn I p) ∧ d = .bl (whole I g ps)
def nWho : List Str := ["_law_isles_here", "_law_grid", "_law_twos_here", "_law_two"]
def pWho : List Str := ["_law_isles_here", "_law_grid", "_law_twos_here"]
theorem sc_who : FnScope nWho pWho (defScope (top 69)) := ⟨rfl, rfl, rfl, by decide +kernel, rfl, by decide +kernel, by decide +kernel⟩
theorem ok_who (h : DefAt K mg "_law_whole_so" 69) (o1 : Ok w K mg base C 1 "_law_one" nOne gOne) : Ok w K mg base C 2 "_law_whole_so" pWho gWho := by
  obtain ⟨f, fd, F, m⟩ := h
  refine ⟨f, fd, fn_data F sc_who (fun ds d ⟨_, _, _, e, _⟩ => by rcases e with e | e <;> rw [e] <;> rfl) (fun cdv A outer s H E hr ds d hg Fr => ?_), m, F.kp, F.bindsN fun _ _ _ _ _ _ us hl => match us, hl with | [_, _, _], _ => rfl⟩
  obtain ⟨I, g, ps, hds, hl, hp, rfl⟩ := hg
  have e : whole I g ps = decide ((ps.filter fun p => !one I g p) = []) := by
    rw [filter_nil, all_nn]
    rfl
  rw [e]
  rcases hds with rfl | rfl
  · exact b_stop (s_ret (d_cmp (o_eq (a := ps.filter fun p => !one I g p) (b := []) (u_eq hr)) (d_of_f (f_lc (own := [("_law_two", 3)]) ps enc enc (fun p => !one I g p) _ rfl sc_who.nd (blkOk_by (by kernel_rfl)) (i_tup (dv 2)) (fun s H B cl fp a ha => g_name (i := 3) sc_who.nd)
      (fun s' H B cl fp a ha => ts_one (t_not (t_val (d_fn o1 rfl hr (a3 (dv 0) (dv 1) (dv 3)) ⟨I, g, a, rfl, hl, hp a ha, rfl⟩)))) (fun s H B cl fp a ha => dv 3))) (d_lst a_nil)))
  · exact b_stop (s_ret (d_cmp (o_eq (a := ps.filter fun p => !one I g p) (b := []) (u_eq hr)) (d_of_f (f_lc (own := [("_law_two", 3)]) ps enc enc (fun p => !one I g p) _ rfl sc_who.nd (blkOk_by (by kernel_rfl)) (i_list (dv 2)) (fun s H B cl fp a ha => g_name (i := 3) sc_who.nd)
      (fun s' H B cl fp a ha => ts_one (t_not (t_val (d_fn o1 rfl hr (a3 (dv 0) (dv 1) (dv 3)) ⟨I, g, a, rfl, hl, hp a ha, rfl⟩)))) (fun s H B cl fp a ha => dv 3))) (d_lst a_nil)))
theorem mem_two_aux {I : List Str} {p : Pair} : ∀ (l : List (Str × Nat)) (acc : List Pair), p ∈ l.foldl (twoStep I) acc → p ∈ acc ∨ ∃ q ∈ l, p.1 = q.1 ∧ p.2 ∈ I
  | [], acc, h => .inl h
  | q :: l, acc, h => by
    rcases mem_two_aux l (twoStep I acc q) h with h | ⟨r, hr, e⟩
    · unfold twoStep at h
      rcases List.mem_append.mp h with h | h
      · exact .inl h
      · obtain ⟨y, hy, rfl⟩ := List.mem_map.mp h
        exact .inr ⟨q, List.mem_cons_self, rfl, List.mem_of_mem_drop hy⟩
    · exact .inr ⟨r, List.mem_cons_of_mem _ hr, e⟩
theorem twos_in {I : List Str} : ∀ p ∈ twos I, PIn I p := fun p hp => by
  rcases mem_two_aux I.zipIdx [] hp with h | ⟨q, hq, e1, e2⟩
  · cases h
  · refine ⟨?_, e2⟩
    rw [e1]
    obtain ⟨i, hi⟩ := List.getElem?_of_mem hq
    exact List.mem_of_getElem? (zipIdx_at hi).2
/-! ### under -/
def gUnd (ds : List D) (d : D) : Prop := ∃ (I : List Str) (g far : Grid), ds = [.tupk (I.map enc), enc g, enc far] ∧ I.length ≤ 8 ∧ g.items.length = I.length ∧ far.items.length = I.length ∧ d = .bl (under I g far)
def nUnd : List Str := ["_law_isles_here", "_law_grid", "_law_far", "_law_two"]
def pUnd : List Str := ["_law_isles_here", "_law_grid", "_law_far"]
theorem sc_und : FnScope nUnd pUnd (defScope (top 71)) := ⟨rfl, rfl, rfl, by decide +kernel, rfl, by decide +kernel, by decide +kernel⟩
theorem ok_und (h : DefAt K mg "_law_under" 71) (o1 : Ok w K mg base C 1 "_law_one" nOne gOne) (o2 : Ok w K mg base C 1 "_law_twos" ["_law_isles_here"] gTwos) : Ok w K mg base C 2 "_law_under" pUnd gUnd := by
  obtain ⟨f, fd, F, m⟩ := h
  refine ⟨f, fd, fn_data F sc_und (fun ds d ⟨_, _, _, e, _⟩ => by rw [e] <;> rfl) (fun cdv A outer s H E hr ds d hg Fr => ?_), m, F.kp, F.bindsN fun _ _ _ _ _ _ us hl => match us, hl with | [_, _, _], _ => rfl⟩
  obtain ⟨I, g, far, rfl, hI, hl, hl2, rfl⟩ := hg
  have e : under I g far = decide (((twos I).filter fun p => one I far p && !one I g p) = []) := by
    rw [filter_nil]
    rfl
  rw [e]
  exact b_stop (s_ret (d_cmp (o_eq (a := (twos I).filter fun p => one I far p && !one I g p) (b := []) (u_eq hr)) (d_of_f (f_lc (own := [("_law_two", 3)]) (twos I) enc enc (fun p => one I far p && !one I g p) _ rfl sc_und.nd (blkOk_by (by kernel_rfl)) (i_list (d_fn o2 rfl hr (a1 (d_kt (dv 0))) ⟨I, rfl, hI, rfl⟩)) (fun s H B cl fp a ha => g_name (i := 3) sc_und.nd)
    (fun s' H B cl fp a ha => ts_one (t_w (w_and (t_val (d_fn o1 rfl hr (a3 (dv 0) (dv 2) (dv 3)) ⟨I, far, a, rfl, hl2, twos_in a ha, rfl⟩)) (fun _ => w_one (t_not (t_val (d_fn o1 rfl hr (a3 (dv 0) (dv 1) (dv 3)) ⟨I, g, a, rfl, hl, twos_in a ha, rfl⟩)))))))
    (fun s H B cl fp a ha => dv 3))) (d_lst a_nil)))
/-! ### fits -/
def gFts (ds : List D) (d : D) : Prop := ∃ (I : List Str) (g : Grid) (fl : Flood), ds = [.tupk (I.map enc), enc g, enc fl] ∧ g.items.length = I.length ∧ (∀ p ∈ fl.b.items, PIn I p) ∧ (∀ p ∈ fl.c.items, PIn I p) ∧ d = .bl (fits I g fl)
def nFts : List Str := ["_law_isles_here", "_law_grid", "_law_time_so", "_law_dry", "_law_two"]
def pFts : List Str := ["_law_isles_here", "_law_grid", "_law_time_so"]
theorem sc_fts : FnScope nFts pFts (defScope (top 72)) := ⟨rfl, rfl, rfl, by decide +kernel, rfl, by decide +kernel, by decide +kernel⟩
theorem ok_fts (h : DefAt K mg "_law_fits" 72) (o1 : Ok w K mg base C 1 "_law_one" nOne gOne) (o2 : Ok w K mg base C 2 "_law_whole_so" pWho gWho) : Ok w K mg base C 3 "_law_fits" pFts gFts := by
  obtain ⟨f, fd, F, m⟩ := h
  refine ⟨f, fd, fn_data F sc_fts (fun ds d ⟨_, _, _, e, _⟩ => by rw [e] <;> rfl) (fun cdv A outer s H E hr ds d hg Fr => ?_), m, F.kp, F.bindsN fun _ _ _ _ _ _ us hl => match us, hl with | [_, _, _], _ => rfl⟩
  obtain ⟨I, g, fl, rfl, hl, hb, hc, rfl⟩ := hg
  have e : fits I g fl = (decide ((fl.c.items.filter fun p => one I g p) = []) && whole I g fl.b.items) := by
    rw [filter_nil]
    rfl
  rw [e]
  refine b_step (s_lc (i := 3) (own := [("_law_two", 4)]) fl.c.items enc enc (fun p => one I g p) _ rfl sc_fts.nd (blkOk_by (by kernel_rfl)) (i_tup (d_ixT (dv 2) d_int rfl)) (fun s H B cl fp a ha => g_name (i := 4) sc_fts.nd)
      (fun s' H B cl fp a ha => ts_one (t_val (d_fn o1 rfl (hr.mono (by decide)) (a3 (dv 0) (dv 1) (dv 4)) ⟨I, g, a, rfl, hl, hc a ha, rfl⟩))) (fun s H B cl fp a ha => dv 4)) (b_fz (l := (fl.c.items.filter fun p => one I g p).map enc) 3 rfl ?_)
  exact b_stop (s_ret (v_and (d_cmp (o_eq (a := fl.c.items.filter fun p => one I g p) (b := []) (u_eq hr)) (dv 3) (d_lst a_nil)) (fun _ => v_one (d_fn o2 rfl hr (a3 (dv 0) (dv 1) (d_ixT (dv 2) d_int rfl)) ⟨I, g, fl.b.items, .inl rfl, hl, hb, rfl⟩))))
end
end Fz
/-! The law's own functions: grids, still. -/
namespace Fz
open PySem L2 PyProof.Rows
open PySem.W (Datum DatumOrd Tup T3 maxOf)
open Enc (enc)

/-! ### the greatest of some numbers -/
def mx (g : List Int) : Int := maxOf (-1) g
theorem mxo_fold (x : Int) (g : List Int) : maxOf x g = g.foldl (fun a y => if a < y then y else a) x := by
  unfold maxOf
  congr 1
  funext a y
  show (if decide (a < y) = true then y else a) = _
  by_cases h : a < y
  · rw [decide_eq_true h, if_pos rfl, if_pos h]
  · rw [decide_eq_false h, if_neg Bool.false_ne_true, if_neg h]
theorem mxo_ge : ∀ (g : List Int) (x : Int), x ≤ maxOf x g ∧ (∀ y ∈ g, y ≤ maxOf x g) ∧ (maxOf x g = x ∨ maxOf x g ∈ g)
  | [], x => ⟨Int.le_refl _, fun y hy => (by cases hy), .inl rfl⟩
  | z :: g, x => by
    have e : maxOf x (z :: g) = maxOf (if x < z then z else x) g := by
      rw [mxo_fold, mxo_fold]
      rfl
    obtain ⟨h1, h2, h3⟩ := mxo_ge g (if x < z then z else x)
    rw [← e] at h1 h2 h3
    have hx : x ≤ (if x < z then z else x) ∧ z ≤ (if x < z then z else x) := by
      split <;> constructor <;> omega
    refine ⟨Int.le_trans hx.1 h1, fun y hy => ?_, ?_⟩
    · rcases List.mem_cons.mp hy with e | hy
      · rw [e]
        exact Int.le_trans hx.2 h1
      · exact h2 y hy
    · rcases h3 with h3 | h3
      · by_cases q : x < z
        · rw [if_pos q] at h3
          exact .inr (by rw [h3]; exact List.mem_cons_self)
        · rw [if_neg q] at h3
          exact .inl h3
      · exact .inr (List.mem_cons_of_mem _ h3)
theorem mx_ge (g : List Int) : -1 ≤ mx g := (mxo_ge g (-1)).1
theorem mx_of (g : List Int) : ∀ y ∈ g, y ≤ mx g := (mxo_ge g (-1)).2.1
theorem mx_or (g : List Int) : mx g = -1 ∨ mx g ∈ g := (mxo_ge g (-1)).2.2
theorem mx_le {g : List Int} {b : Int} (hb : -1 ≤ b) (h : ∀ y ∈ g, y ≤ b) : mx g ≤ b := by
  rcases mx_or g with e | e
  · rw [e]
    exact hb
  · exact h _ e
def nextG (g : Grid) : List Grid := (List.range (mx g.items + 2).toNat).map fun k : Nat => ⟨g.items ++ [(k : Int)]⟩
def gridStep (found : List Grid) (_ : Str) : List Grid := found.flatMap nextG
def grids (I : List Str) : List Grid := I.foldl gridStep [⟨[]⟩]
/-- the partings of i islands -/
structure GOk (i : Nat) (found : List Grid) : Prop where
  len : ∀ g ∈ found, g.items.length = i
  le : ∀ g ∈ found, ∀ x ∈ g.items, 0 ≤ x ∧ x ≤ (i : Int) - 1
theorem nextG_len {i : Nat} {g : Grid} (h : ∀ x ∈ g.items, 0 ≤ x ∧ x ≤ (i : Int) - 1) : (nextG g).length ≤ i + 1 := by
  unfold nextG
  rw [List.length_map, List.length_range]
  have z := mx_le (g := g.items) (b := (i : Int) - 1) (by omega) fun y hy => (h y hy).2
  omega
theorem gok_step {i : Nat} {found : List Grid} {x : Str} (h : GOk i found) : GOk (i + 1) (gridStep found x) := by
  constructor
  · intro g hg
    obtain ⟨g0, h0, hg⟩ := List.mem_flatMap.mp hg
    obtain ⟨k, hk, rfl⟩ := List.mem_map.mp hg
    show (g0.items ++ [_]).length = _
    rw [List.length_append, h.len g0 h0]
    rfl
  · intro g hg y hy
    obtain ⟨g0, h0, hg⟩ := List.mem_flatMap.mp hg
    obtain ⟨k, hk, rfl⟩ := List.mem_map.mp hg
    rcases List.mem_append.mp hy with hy | hy
    · have := h.le g0 h0 y hy
      omega
    · have e : y = k := by simpa using hy
      have hk := List.mem_range.mp hk
      have z := mx_le (g := g0.items) (b := (i : Int) - 1) (by omega) fun y hy => (h.le g0 h0 y hy).2
      omega
theorem gok_start : GOk 0 [⟨[]⟩] := by
  constructor
  · intro g hg
    have e : g = ⟨[]⟩ := by simpa using hg
    rw [e]
    rfl
  · intro g hg y hy
    have e : g = ⟨[]⟩ := by simpa using hg
    rw [e] at hy
    cases hy
theorem flat_bound {α β : Type} {f : α → List β} {c : Nat} : ∀ {l : List α}, (∀ a ∈ l, (f a).length ≤ c) → (l.flatMap f).length ≤ c * l.length
  | [], _ => Nat.zero_le _
  | a :: l, h => by
    rw [List.flatMap_cons, List.length_append, List.length_cons, Nat.mul_succ]
    have h1 := h a List.mem_cons_self
    have h2 := flat_bound (l := l) fun b hb => h b (List.mem_cons_of_mem _ hb)
    omega
theorem grids_ok {I : List Str} : GOk I.length (grids I) := by
  have key : ∀ (J : List Str) (i : Nat) (found : List Grid), GOk i found → GOk (i + J.length) (J.foldl gridStep found) := by
    intro J
    induction J with
    | nil => intro i found h; exact h
    | cons x J ih =>
      intro i found h
      have q := ih (i + 1) (gridStep found x) (gok_step h)
      rw [List.length_cons, show i + (J.length + 1) = i + 1 + J.length by omega]
      exact q
  have q := key I 0 _ gok_start
  rw [Nat.zero_add] at q
  exact q
/-- how many at the most, by the turn -/
def gMax : Nat → Nat
  | 0 => 1
  | i + 1 => (i + 1) * gMax i
theorem gMax_le {i : Nat} (h : i ≤ 4) : gMax i ≤ 24 := by
  have : i = 0 ∨ i = 1 ∨ i = 2 ∨ i = 3 ∨ i = 4 := by omega
  rcases this with rfl | rfl | rfl | rfl | rfl <;> decide
theorem step_len {i : Nat} {found : List Grid} {x : Str} (h : GOk i found) (hl : found.length ≤ gMax i) : (gridStep found x).length ≤ gMax (i + 1) := by
  have z := flat_bound (f := nextG) (c := i + 1) (l := found) fun g hg => nextG_len (h.le g hg)
  exact Nat.le_trans z (Nat.mul_le_mul_left _ hl)
theorem grids_len {I : List Str} (hI : I.length ≤ 4) : (grids I).length ≤ 24 := by
  have key : ∀ (J : List Str) (i : Nat) (found : List Grid), GOk i found → found.length ≤ gMax i → (J.foldl gridStep found).length ≤ gMax (i + J.length) := by
    intro J
    induction J with
    | nil => intro i found h hl; exact hl
    | cons x J ih =>
      intro i found h hl
      have q := ih (i + 1) (gridStep found x) (gok_step h) (step_len h hl)
      rw [List.length_cons, show i + (J.length + 1) = i + 1 + J.length by omega]
      exact q
  have q := key I 0 _ gok_start (Nat.le_refl _)
  rw [Nat.zero_add] at q
  exact Nat.le_trans q (gMax_le hI)
def badRow (I : List Str) (g : Grid) (r : Rule) : Bool := whole I g r.1.items && !one I g r.2
def still (I : List Str) (R : List Rule) : List Grid := (grids I).filter fun g => R.all fun r => !badRow I g r
section
variable {X : Cx} {C : Addr} {ρ : List Sl} {e : Expr} {pos : Pos}
theorem d_neg {i : Int} (h : PE X e (tD X.K C ρ (.int i))) : PE X (.UnaryOp .USub e pos) (tD X.K C ρ (.int (-i))) :=
  pe_w (pe_un un_neg h) fun σ H Q ⟨F, P, r, k⟩ => ⟨F, P, r, fun v H2 e2 hv => ⟨i, hv, k _ H2 e2 rfl⟩⟩
end
section
variable {w : World} {K : PySem.W.Frag} {mg : Str → Option Value} {base : Heap} {C : Addr}
def gGri (ds : List D) (d : D) : Prop := ∃ I : List Str, ds = [.tupk (I.map enc)] ∧ I.length ≤ 4 ∧ d = .lst ((grids I).map enc)
def nGri : List Str := ["_law_isles_here", "_law_found", "_law_isle", "_law_later", "_law_own", "_law_k"]
theorem sc_gri : FnScope nGri ["_law_isles_here"] (defScope (top 67)) := ⟨rfl, rfl, rfl, by decide +kernel, rfl, by decide +kernel, by decide +kernel⟩
theorem ok_gri (b : MgB mg) (h : DefAt K mg "_law_grids" 67) : Ok w K mg base C 1 "_law_grids" ["_law_isles_here"] gGri := by
  obtain ⟨f, fd, F, m⟩ := h
  refine ⟨f, fd, fn_data F sc_gri (fun ds d ⟨_, e, _⟩ => by rw [e] <;> rfl) (fun cdv A outer s H E hr ds d hg Fr => ?_), m, F.kp, F.bindsN fun _ _ _ _ _ _ us hl => match us, hl with | [_], _ => rfl⟩
  obtain ⟨I, rfl, hI, rfl⟩ := hg
  refine b_step (s_set (i := 1) (k := .dat (.lst (([⟨[]⟩] : List Grid).map enc))) sc_gri.nd (k_d (d_lst (a1 (d_tup a_nil))))) ?_
  let ρf : List Grid → List Sl := fun found => [.dat (.tupk (I.map enc)), .dat (.lst (found.map enc)), .no, .no, .no, .no]
  refine b_step (ρ1 := ρf (grids I)) (s_for (vs := [2]) I enc gridStep (fun i found => GOk i found ∧ found.length ≤ gMax i ∧ i ≤ 4) ρf _ [⟨[]⟩] PassesOwn.never rfl ⟨gok_start, Nat.le_refl _, Nat.zero_le _⟩ ?_ (i_tup (d_kt (dv 0))) (fun i found x hx g => g_name (i := 2) sc_gri.nd) ?_) (b_stop (s_ret (dv 1)))
  · intro i found x hx g
    have hi := (List.getElem?_eq_some_iff.mp hx).1
    exact ⟨gok_step g.1, step_len g.1 g.2.1, by omega⟩
  · intro i found x hx g
    have hi := (List.getElem?_eq_some_iff.mp hx).1
    have hfl : found.length ≤ 24 := Nat.le_trans g.2.1 (gMax_le g.2.2)
    refine n_step (s_set (i := 3) (k := .dat (.lst (([] : List Grid).map enc))) sc_gri.nd (k_d (d_lst a_nil))) ?_
    let ρg : List Grid → List Sl := fun later => [.dat (.tupk (I.map enc)), .dat (.lst (found.map enc)), .dat (enc x), .dat (.lst (later.map enc)), .no, .no]
    have efl : found.foldl (fun acc g => acc ++ nextG g) [] = gridStep found x := by
      have key : ∀ (l : List Grid) (acc : List Grid), l.foldl (fun acc g => acc ++ nextG g) acc = acc ++ l.flatMap nextG := by
        intro l
        induction l with
        | nil => intro acc; simp
        | cons a l ih =>
          intro acc
          rw [List.foldl_cons, ih, List.flatMap_cons, List.append_assoc]
      exact (key found []).trans (List.nil_append _)
    refine n_step (ρ1 := ρg (gridStep found x)) ?_ (n_no [2, 3] (n_one (s_set (i := 1) sc_gri.nd (k_d (dv 3)))))
    rw [← efl]
    refine s_for (vs := [4]) found enc (fun acc g => acc ++ nextG g) (fun j acc => acc.length ≤ 5 * j ∧ j ≤ 24) ρg _ [] PassesOwn.never rfl ⟨Nat.le_refl _, Nat.zero_le _⟩ ?_ (i_list (dv 1)) (fun j acc y hy q => g_name (i := 4) sc_gri.nd) ?_
    · intro j acc y hy q
      have hj := (List.getElem?_eq_some_iff.mp hy).1
      have z := nextG_len (g.1.le y (List.mem_of_getElem? hy))
      refine ⟨?_, by omega⟩
      rw [List.length_append]
      omega
    · intro j acc y hy q
      have z := nextG_len (g.1.le y (List.mem_of_getElem? hy))
      have zm := mx_le (g := y.items) (b := (i : Int) - 1) (by omega) fun u hu => (g.1.le y (List.mem_of_getElem? hy) u hu).2
      have zg := mx_ge y.items
      have e : ρg (acc ++ nextG y) = [.dat (.tupk (I.map enc)), .dat (.lst (found.map enc)), .dat (enc x), .dat (.lst (acc.map enc ++ (List.range (mx y.items + 2).toNat).map fun k : Nat => enc (⟨y.items ++ [(k : Int)]⟩ : Grid))), .no, .no] := by
        show [_, _, _, Sl.dat (.lst ((acc ++ nextG y).map enc)), _, _] = _
        unfold nextG
        rw [List.map_append, List.map_map]
        rfl
      rw [e]
      refine n_no [4] (n_one (s_set (i := 3) sc_gri.nd (k_d (d_bin (o_addL ?_) (dv 3) (d_of_f ?_)))))
      · rw [List.length_map, List.length_map, List.length_range]
        exact Nat.le_trans (show _ ≤ 1000 by omega) (by decide)
      · have em : ((((mx y.items + 2).toNat : Nat)) : Int) = maxOf (-1) y.items + 2 := by
          show _ = mx y.items + 2
          omega
        refine f_map (own := [("_law_k", 5)]) (List.range (mx y.items + 2).toNat) (fun k : Nat => .int k) (fun k : Nat => enc (⟨y.items ++ [(k : Int)]⟩ : Grid)) _ rfl sc_gri.nd (blkOk_by (by kernel_rfl)) (i_range1 (by rfl) b.range (by omega) ?_) (fun s H B cl fp a ha => g_name (i := 5) sc_gri.nd) (fun s H B cl fp a ha => ?_)
        · rw [em]
          refine d_bin o_add (d_b (c_maxT (x := -1) (xs := y.items) rfl (u_in hr)) b.max (by rfl) (a1 (d_bin (o_addT (l := [.int (-1)]) (m := y.items.map enc) ?_) (d_tup (a1 (d_neg d_int))) (dv 4)))) d_int
          have hl := g.1.len y (List.mem_of_getElem? hy)
          rw [List.length_map, hl]
          exact Nat.le_trans (show _ ≤ 100 by simp; omega) (by decide)
        · have ee : enc (⟨y.items ++ [(a : Int)]⟩ : Grid) = D.tup (y.items.map enc ++ [.int (a : Int)]) := by
            show D.tup ((y.items ++ [(a : Int)]).map enc) = _
            rw [List.map_append]
            rfl
          rw [ee]
          refine d_bin (o_addT (l := y.items.map enc) (m := [.int (a : Int)]) ?_) (dv 4) (d_tup (a1 (dv 5)))
          have hl := g.1.len y (List.mem_of_getElem? hy)
          rw [List.length_map, hl]
          exact Nat.le_trans (show _ ≤ 100 by simp; omega) (by decide)
end
end Fz
/-! The law's own functions: still, named, close, wet, low, rest. -/
namespace Fz
open PySem L2 PyProof.Rows
open PySem.W (Datum DatumOrd Tup T3 maxOf)
open Enc (enc)

def memb {α : Type} [DecidableEq α] (a : α) (l : List α) : Bool := decide (a ∈ l)
theorem memb_iff {α : Type} [DecidableEq α] {a : α} {l : List α} : memb a l = true ↔ a ∈ l := decide_eq_true_iff
theorem c_lenTm {X : Cx} {C : Addr} {ι : Type} {l : List ι} {f : ι → D} : CallR X (.builtin "len") (rC X.K C [.tup (l.map f)] (.int ((l.length : Nat) : Int))) := by
  have q := c_lenT (X := X) (C := C) (l := l.map f)
  rw [List.length_map] at q
  exact q
theorem c_lenLm {X : Cx} {C : Addr} {ι : Type} {l : List ι} {f : ι → D} : CallR X (.builtin "len") (rC X.K C [.lst (l.map f)] (.int ((l.length : Nat) : Int))) := by
  have q := c_lenL (X := X) (C := C) (l := l.map f)
  rw [List.length_map] at q
  exact q
def close (I : List Str) (R : List Rule) (ps : List Pair) : List Pair := (still I R).foldl (fun here g => if whole I g ps = true then here.filter (one I g) else here) (twos I)
def low (I : List Str) (R : List Rule) (fs : List Flood) : List Flood := fs.filter fun f => f.c.items.all fun p => !memb p (close I R (wet fs))
def restStep (I : List Str) (R : List Rule) (fs : List Flood) (_ : Nat) : List Flood := fs.filter fun f => decide (f ∉ low I R fs)
def rest (I : List Str) (R : List Rule) (fs : List Flood) : List Flood := (List.range fs.length).foldl (restStep I R) fs
section
variable {w : World} {K : PySem.W.Frag} {mg : Str → Option Value} {base : Heap} {C : Addr}
/-! ### still -/
def gSti (ds : List D) (d : D) : Prop := ∃ (I : List Str) (R : List Rule), ds = [.tupk (I.map enc), .tup (R.map enc)] ∧ I.length ≤ 4 ∧ RIn I R ∧ d = .lst ((still I R).map enc)
def nSti : List Str := ["_law_isles_here", "_law_rows_so", "_law_found", "_law_grid", "_law_bad", "_law_own"]
def pSti : List Str := ["_law_isles_here", "_law_rows_so"]
theorem sc_sti : FnScope nSti pSti (defScope (top 70)) := ⟨rfl, rfl, rfl, by decide +kernel, rfl, by decide +kernel, by decide +kernel⟩
theorem ok_sti (h : DefAt K mg "_law_still" 70) (oG : Ok w K mg base C 1 "_law_grids" ["_law_isles_here"] gGri) (o1 : Ok w K mg base C 1 "_law_one" nOne gOne) (o2 : Ok w K mg base C 2 "_law_whole_so" pWho gWho) : Ok w K mg base C 3 "_law_still" pSti gSti := by
  obtain ⟨f, fd, F, m⟩ := h
  refine ⟨f, fd, fn_data F sc_sti (fun ds d ⟨_, _, e, _⟩ => by rw [e] <;> rfl) (fun cdv A outer s H E hr ds d hg Fr => ?_), m, F.kp, F.bindsN fun _ _ _ _ _ _ us hl => match us, hl with | [_, _], _ => rfl⟩
  obtain ⟨I, R, rfl, hI, RI, rfl⟩ := hg
  have hr1 := hr.mono (show 1 ≤ 2 by decide)
  refine b_step (s_set (i := 2) (k := .own []) sc_sti.nd (k_f (f_lst a_nil))) ?_
  let ρf : List Grid → List Sl := fun acc => [.dat (.tupk (I.map enc)), .dat (.tup (R.map enc)), .own (acc.map enc), .no, .no, .no]
  have e : still I R = (grids I).foldl (fun acc g => if (R.all fun r => !badRow I g r) = true then acc ++ [g] else acc) [] := by
    have q := foldl_app (fun g => R.all fun r => !badRow I g r) (fun g : Grid => g) (grids I) []
    rw [List.nil_append, List.map_id'] at q
    exact q.symm
  refine b_step (ρ1 := ρf (still I R)) ?_ (b_fz (l := (still I R).map enc) 2 rfl (b_stop (s_ret (dv 2))))
  rw [e]
  refine s_for (vs := [3]) (grids I) enc (fun acc g => if (R.all fun r => !badRow I g r) = true then acc ++ [g] else acc) (fun i acc => acc.length ≤ i ∧ i ≤ 24) ρf _ [] PassesOwn.never rfl ⟨Nat.le_refl _, Nat.zero_le _⟩ ?_ (i_list (d_fn oG rfl hr1 (a1 (dv 0)) ⟨I, rfl, hI, rfl⟩)) (fun i acc g hg q => g_name (i := 3) sc_sti.nd) ?_
  · intro i acc g hg q
    have hi := (List.getElem?_eq_some_iff.mp hg).1
    have hl := grids_len hI
    refine ⟨?_, by omega⟩
    split
    · rw [List.length_append]
      exact Nat.add_le_add_right q.1 1
    · exact Nat.le_succ_of_le q.1
  · intro i acc g hg q
    have hlen := grids_ok.len g (List.mem_of_getElem? hg)
    have eb : (R.all fun r => !badRow I g r) = decide ((R.filter fun r => badRow I g r) = []) := (filter_nil R _).symm
    refine n_step (s_lc (i := 4) (own := [("_law_own", 5)]) R enc enc (fun r => badRow I g r) _ rfl sc_sti.nd (blkOk_by (by kernel_rfl)) (i_tup (dv 1)) (fun s H B cl fp a ha => g_name (i := 5) sc_sti.nd)
      (fun s' H B cl fp a ha => ts_one (t_w (w_and (t_val (d_fn o2 rfl hr (a3 (dv 0) (dv 3) (d_ixT (dv 5) d_int rfl)) ⟨I, g, a.1.items, .inl rfl, hlen, (RI a ha).1, rfl⟩)) (fun _ => w_one (t_not (t_val (d_fn o1 rfl hr1 (a3 (dv 0) (dv 3) (d_ixT (dv 5) d_int rfl)) ⟨I, g, a.2, rfl, hlen, (RI a ha).2, rfl⟩)))))))
      (fun s H B cl fp a ha => dv 5)) (n_fzp (l := (R.filter fun r => badRow I g r).map enc) 4 rfl ?_)
    cases hc : (R.all fun r => !badRow I g r) with
    | true =>
      rw [if_pos rfl]
      have ea : ρf (acc ++ [g]) = [.dat (.tupk (I.map enc)), .dat (.tup (R.map enc)), .own (acc.map enc ++ [enc g]), .no, .no, .no] := by
        show [_, _, Sl.own ((acc ++ [g]).map enc), _, _, _] = _
        rw [List.map_append]
        rfl
      rw [ea]
      refine n_no [3, 4] (n_one (s_ifT (pt_eq (eb.symm.trans hc) (t_cmp (o_eq (a := R.filter fun r => badRow I g r) (b := []) (u_eq hr)) (dv 4) (d_lst a_nil))) (n_one (s_app (i := 2) (l := acc.map enc) rfl ?_ (dv 3)))))
      rw [List.length_map]
      exact Nat.lt_of_le_of_lt (Nat.le_trans q.1 q.2) (by decide)
    | false =>
      rw [if_neg Bool.false_ne_true]
      exact n_no [3, 4] (n_one (s_ifF (pt_eq (eb.symm.trans hc) (t_cmp (o_eq (a := R.filter fun r => badRow I g r) (b := []) (u_eq hr)) (dv 4) (d_lst a_nil))) n_nil))
/-! ### named -/
def gNam (ds : List D) (d : D) : Prop := ∃ fs : List Flood, ds = [.lst (fs.map enc)] ∧ d = .lst ((fs.map (·.a)).map enc)
theorem sc_nam : FnScope ["_law_times_so", "_law_own"] ["_law_times_so"] (defScope (top 74)) := ⟨rfl, rfl, rfl, by decide +kernel, rfl, by decide +kernel, by decide +kernel⟩
theorem ok_nam (h : DefAt K mg "_law_named" 74) : Ok w K mg base C 1 "_law_named" ["_law_times_so"] gNam := by
  obtain ⟨f, fd, F, m⟩ := h
  refine ⟨f, fd, fn_data F sc_nam (fun ds d ⟨_, e, _⟩ => by rw [e] <;> rfl) (fun cdv A outer s H E hr ds d hg Fr => ?_), m, F.kp, F.bindsN fun _ _ _ _ _ _ us hl => match us, hl with | [_], _ => rfl⟩
  obtain ⟨fs, rfl, rfl⟩ := hg
  rw [List.map_map]
  exact b_stop (s_ret (d_of_f (f_map (own := [("_law_own", 1)]) fs enc (fun f => enc f.a) _ rfl sc_nam.nd (blkOk_by (by kernel_rfl)) (i_list (dv 0)) (fun s H B cl fp a ha => g_name (i := 1) sc_nam.nd) (fun s H B cl fp a ha => d_ixT (dv 1) d_int rfl))))
/-! ### wet -/
def gWet (ds : List D) (d : D) : Prop := ∃ fs : List Flood, ds = [.lst (fs.map enc)] ∧ (wet fs).length ≤ 1000 ∧ d = .lst ((wet fs).map enc)
theorem sc_wet : FnScope ["_law_times_so", "_law_own"] ["_law_times_so"] (defScope (top 77)) := ⟨rfl, rfl, rfl, by decide +kernel, rfl, by decide +kernel, by decide +kernel⟩
theorem ok_wet (b : MgB mg) (h : DefAt K mg "_law_wet" 77) : Ok w K mg base C 1 "_law_wet" ["_law_times_so"] gWet := by
  obtain ⟨f, fd, F, m⟩ := h
  refine ⟨f, fd, fn_data F sc_wet (fun ds d ⟨_, e, _⟩ => by rw [e] <;> rfl) (fun cdv A outer s H E hr ds d hg Fr => ?_), m, F.kp, F.bindsN fun _ _ _ _ _ _ us hl => match us, hl with | [_], _ => rfl⟩
  obtain ⟨fs, rfl, hz, rfl⟩ := hg
  have e : (wet fs).map (enc (α := Pair)) = (fs.map fun f => f.b.items.map (enc (α := Pair))).flatten := by
    unfold wet
    rw [List.map_flatMap, List.flatMap_def]
  have e2 : (fs.map fun f => f.b.items.map (enc (α := Pair))).map D.lst = fs.map fun f => D.lst (f.b.items.map enc) := List.map_map
  rw [e]
  refine b_stop (s_ret (d_b (c_sumL rfl ?_) b.sum (by rfl) (a2 (d_of_f ?_) (d_lst a_nil))))
  · rw [← e, List.length_map]
    exact Nat.le_trans hz (by decide)
  · rw [e2]
    exact f_map (own := [("_law_own", 1)]) fs enc (fun f => D.lst (f.b.items.map enc)) _ rfl sc_wet.nd (blkOk_by (by kernel_rfl)) (i_list (dv 0)) (fun s H B cl fp a ha => g_name (i := 1) sc_wet.nd) (fun s H B cl fp a ha => d_of_f (f_t c_lstT b.list (by rfl) (a1 (d_ixT (dv 1) d_int rfl))))
/-! ### close -/
def gClo (ds : List D) (d : D) : Prop := ∃ (I : List Str) (R : List Rule) (ps : List Pair), ds = [.tupk (I.map enc), .tup (R.map enc), .lst (ps.map enc)] ∧ I.length ≤ 4 ∧ RIn I R ∧ (∀ p ∈ ps, PIn I p) ∧ d = .lst ((close I R ps).map enc)
def nClo : List Str := ["_law_isles_here", "_law_rows_so", "_law_twos_here", "_law_here", "_law_grid", "_law_two"]
def pClo : List Str := ["_law_isles_here", "_law_rows_so", "_law_twos_here"]
theorem sc_clo : FnScope nClo pClo (defScope (top 75)) := ⟨rfl, rfl, rfl, by decide +kernel, rfl, by decide +kernel, by decide +kernel⟩
theorem ok_clo (h : DefAt K mg "_law_close" 75) (oT : Ok w K mg base C 1 "_law_twos" ["_law_isles_here"] gTwos) (oS : Ok w K mg base C 3 "_law_still" pSti gSti) (o1 : Ok w K mg base C 1 "_law_one" nOne gOne) (o2 : Ok w K mg base C 2 "_law_whole_so" pWho gWho) : Ok w K mg base C 4 "_law_close" pClo gClo := by
  obtain ⟨f, fd, F, m⟩ := h
  refine ⟨f, fd, fn_data F sc_clo (fun ds d ⟨_, _, _, e, _⟩ => by rw [e] <;> rfl) (fun cdv A outer s H E hr ds d hg Fr => ?_), m, F.kp, F.bindsN fun _ _ _ _ _ _ us hl => match us, hl with | [_, _, _], _ => rfl⟩
  obtain ⟨I, R, ps, rfl, hI, RI, hp, rfl⟩ := hg
  have hr1 := hr.mono (show 1 ≤ 3 by decide)
  have hr2 := hr.mono (show 2 ≤ 3 by decide)
  refine b_step (s_set (i := 3) sc_clo.nd (k_d (d_fn oT rfl hr1 (a1 (d_kt (dv 0))) ⟨I, rfl, Nat.le_trans hI (by decide), rfl⟩))) ?_
  let ρf : List Pair → List Sl := fun here => [.dat (.tupk (I.map enc)), .dat (.tup (R.map enc)), .dat (.lst (ps.map enc)), .dat (.lst (here.map enc)), .no, .no]
  refine b_step (ρ1 := ρf (close I R ps)) (s_for (vs := [4]) (still I R) enc (fun here g => if whole I g ps = true then here.filter (one I g) else here) (fun i here => ∀ p ∈ here, PIn I p) ρf _ (twos I) PassesOwn.never rfl twos_in ?_ (i_list (d_fn oS rfl hr (a2 (dv 0) (dv 1)) ⟨I, R, rfl, hI, RI, rfl⟩)) (fun i here g hg q => g_name (i := 4) sc_clo.nd) ?_) (b_stop (s_ret (dv 3)))
  · intro i here g hg q p hp
    split at hp
    · exact q p (List.mem_filter.mp hp).1
    · exact q p hp
  · intro i here g hg q
    have hgm : g ∈ grids I := (List.mem_filter.mp (List.mem_of_getElem? hg)).1
    have hlen := grids_ok.len g hgm
    cases hc : whole I g ps with
    | true =>
      rw [if_pos rfl]
      refine n_no [4] (n_one (s_ifT (pt_eq hc (t_val (d_fn o2 rfl hr2 (a3 (dv 0) (dv 4) (dv 2)) ⟨I, g, ps, .inr rfl, hlen, hp, rfl⟩))) (n_fz (l := (here.filter (one I g)).map enc) (ρ1 := [.dat (.tupk (I.map enc)), .dat (.tup (R.map enc)), .dat (.lst (ps.map enc)), .own ((here.filter (one I g)).map enc), .dat (enc g), .no]) 3 (n_one ?_) rfl)))
      exact s_lc (i := 3) (own := [("_law_two", 5)]) here enc enc (one I g) _ rfl sc_clo.nd (blkOk_by (by kernel_rfl)) (i_list (dv 3)) (fun s H B cl fp a ha => g_name (i := 5) sc_clo.nd)
        (fun s' H B cl fp a ha => ts_one (t_val (d_fn o1 rfl hr1 (a3 (dv 0) (dv 4) (dv 5)) ⟨I, g, a, rfl, hlen, q a ha, rfl⟩))) (fun s H B cl fp a ha => dv 5)
    | false =>
      rw [if_neg Bool.false_ne_true]
      exact n_no [4] (n_one (s_ifF (pt_eq hc (t_val (d_fn o2 rfl hr2 (a3 (dv 0) (dv 4) (dv 2)) ⟨I, g, ps, .inr rfl, hlen, hp, rfl⟩))) n_nil))
/-! ### low -/
def gLo (ds : List D) (d : D) : Prop := ∃ (I : List Str) (R : List Rule) (fs : List Flood), ds = [.tupk (I.map enc), .tup (R.map enc), .lst (fs.map enc)] ∧ I.length ≤ 4 ∧ RIn I R ∧ FOk I fs ∧ d = .lst ((low I R fs).map enc)
def nLo : List Str := ["_law_isles_here", "_law_rows_so", "_law_times_so", "_law_here", "_law_own", "_law_two"]
def pLo : List Str := ["_law_isles_here", "_law_rows_so", "_law_times_so"]
theorem sc_lo : FnScope nLo pLo (defScope (top 78)) := ⟨rfl, rfl, rfl, by decide +kernel, rfl, by decide +kernel, by decide +kernel⟩
theorem ok_lo (h : DefAt K mg "_law_low" 78) (oC : Ok w K mg base C 4 "_law_close" pClo gClo) (oW : Ok w K mg base C 1 "_law_wet" ["_law_times_so"] gWet) : Ok w K mg base C 5 "_law_low" pLo gLo := by
  obtain ⟨f, fd, F, m⟩ := h
  refine ⟨f, fd, fn_data F sc_lo (fun ds d ⟨_, _, _, e, _⟩ => by rw [e] <;> rfl) (fun cdv A outer s H E hr ds d hg Fr => ?_), m, F.kp, F.bindsN fun _ _ _ _ _ _ us hl => match us, hl with | [_, _, _], _ => rfl⟩
  obtain ⟨I, R, fs, rfl, hI, RI, fo, rfl⟩ := hg
  refine b_step (s_set (i := 3) sc_lo.nd (k_d (d_fn oC rfl hr (a3 (dv 0) (dv 1) (d_fn oW rfl (hr.mono (by decide)) (a1 (dv 2)) ⟨fs, rfl, fo.wl, rfl⟩)) ⟨I, R, wet fs, rfl, hI, RI, fo.wet, rfl⟩))) (b_stop (s_ret (d_of_f ?_)))
  have e : low I R fs = fs.filter fun f => decide ((f.c.items.filter fun p => memb p (close I R (wet fs))) = []) := by
    unfold low
    congr 1
    funext f
    rw [filter_nil]
  rw [e]
  exact f_lc (own := [("_law_own", 4)]) fs enc enc (fun f => decide ((f.c.items.filter fun p => memb p (close I R (wet fs))) = [])) _ rfl sc_lo.nd (blkOk_by (by kernel_rfl)) (i_list (dv 2)) (fun s H B cl fp a ha => g_name (i := 4) sc_lo.nd)
    (fun s' H B cl fp a ha => ts_one (t_cmp (o_eq (a := a.c.items.filter fun p => memb p (close I R (wet fs))) (b := []) (u_eq hr)) (d_of_f (f_lc (own := [("_law_two", 5)]) a.c.items enc enc (fun p => memb p (close I R (wet fs))) _ rfl sc_lo.nd (blkOk_by (by kernel_rfl)) (i_tup (d_ixT (dv 4) d_int rfl)) (fun s H B cl fp a ha => g_name (i := 5) sc_lo.nd)
      (fun s H B cl fp p hp => ts_one (t_cmp (o_inL (α := Pair) (a := p) (l := close I R (wet fs)) (u_in hr)) (dv 5) (dv 3))) (fun s H B cl fp p hp => dv 5))) (d_lst a_nil))) (fun s H B cl fp a ha => dv 4)
/-! ### rest -/
def gRes (ds : List D) (d : D) : Prop := ∃ (I : List Str) (R : List Rule) (fs : List Flood), ds = [.tupk (I.map enc), .tup (R.map enc), .tup (fs.map enc)] ∧ I.length ≤ 4 ∧ RIn I R ∧ FOk I fs ∧ d = .lst ((rest I R fs).map enc)
def nRes : List Str := ["_law_isles_here", "_law_rows_so", "_law_times_so", "_law_rest_here", "_law_turn", "_law_gone", "_law_own"]
theorem sc_res : FnScope nRes pLo (defScope (top 79)) := ⟨rfl, rfl, rfl, by decide +kernel, rfl, by decide +kernel, by decide +kernel⟩
theorem ok_res (b : MgB mg) (h : DefAt K mg "_law_rest" 79) (oL : Ok w K mg base C 5 "_law_low" pLo gLo) : Ok w K mg base C 6 "_law_rest" pLo gRes := by
  obtain ⟨f, fd, F, m⟩ := h
  refine ⟨f, fd, fn_data F sc_res (fun ds d ⟨_, _, _, e, _⟩ => by rw [e] <;> rfl) (fun cdv A outer s H E hr ds d hg Fr => ?_), m, F.kp, F.bindsN fun _ _ _ _ _ _ us hl => match us, hl with | [_, _, _], _ => rfl⟩
  obtain ⟨I, R, fs, rfl, hI, RI, fo, rfl⟩ := hg
  refine b_step (s_set (i := 3) sc_res.nd (k_d (d_of_f (f_t c_lstT b.list (by rfl) (a1 (dv 2)))))) ?_
  let ρf : List Flood → List Sl := fun here => [.dat (.tupk (I.map enc)), .dat (.tup (R.map enc)), .dat (.tup (fs.map enc)), .dat (.lst (here.map enc)), .no, .no, .no]
  refine b_step (ρ1 := ρf (rest I R fs)) (s_for (vs := [4]) (List.range fs.length) (fun i : Nat => .int i) (restStep I R) (fun i here => FOk I here) ρf _ fs PassesOwn.never rfl fo ?_ (i_range1 (by rfl) b.range (Nat.le_trans fo.fl (by decide)) (d_b c_lenTm b.len (by rfl) (a1 (dv 2)))) (fun i here x hx q => g_name (i := 4) sc_res.nd) ?_) (b_stop (s_ret (dv 3)))
  · intro i here x hx q
    exact q.filter _
  · intro i here x hx q
    refine n_step (s_set (i := 5) sc_res.nd (k_d (d_fn oL rfl hr (a3 (dv 0) (dv 1) (dv 3)) ⟨I, R, here, rfl, hI, RI, q, rfl⟩))) ?_
    refine n_no [4, 5] (n_fz (l := (restStep I R here x).map enc) (ρ1 := [.dat (.tupk (I.map enc)), .dat (.tup (R.map enc)), .dat (.tup (fs.map enc)), .own ((restStep I R here x).map enc), .dat (.int (x : Nat)), .dat (.lst ((low I R here).map enc)), .no]) 3 (n_one ?_) rfl)
    exact s_lc (i := 3) (own := [("_law_own", 6)]) here enc enc (fun f => decide (f ∉ low I R here)) _ rfl sc_res.nd (blkOk_by (by kernel_rfl)) (i_list (dv 3)) (fun s H B cl fp a ha => g_name (i := 6) sc_res.nd)
      (fun s' H B cl fp a ha => ts_one (t_cmp (o_ninL (u_in hr)) (dv 6) (dv 5))) (fun s H B cl fp a ha => dv 6)
end
end Fz
/-! The law's own functions: book, sights. -/
namespace Fz
open PySem L2 PyProof.Rows
open PySem.W (Datum DatumOrd Tup T3 maxOf)
open Enc (enc)

def bkF (I : List Str) : BK → Bool := fun k => under I ⟨k.1⟩ ⟨k.2⟩
def bkRow (l : List Grid) (S : List BK) (g : Grid) : List BK := l.foldl (fun S r => S ++ [(g.items, r.items)]) S
def bkS (l : List Grid) : List BK := l.foldl (bkRow l) []
theorem bkRow_eq (l : List Grid) (S : List BK) (g : Grid) : bkRow l S g = S ++ l.map fun r => (g.items, r.items) := by
  have key : ∀ (m : List Grid) (S : List BK), m.foldl (fun S r => S ++ [(g.items, r.items)]) S = S ++ m.map fun r => (g.items, r.items) := by
    intro m
    induction m with
    | nil => intro S; simp
    | cons a m ih =>
      intro S
      rw [List.foldl_cons, ih, List.map_cons, List.append_assoc]
      rfl
  exact key l S
theorem bkS_eq (l : List Grid) : bkS l = l.flatMap fun g => l.map fun r => (g.items, r.items) := by
  have key : ∀ (m : List Grid) (S : List BK), m.foldl (bkRow l) S = S ++ m.flatMap fun g => l.map fun r => (g.items, r.items) := by
    intro m
    induction m with
    | nil => intro S; simp
    | cons a m ih =>
      intro S
      rw [List.foldl_cons, ih, bkRow_eq, List.flatMap_cons, List.append_assoc]
  exact (key l []).trans (List.nil_append _)
theorem bkS_mem {l : List Grid} {g r : Grid} (hg : g ∈ l) (hr : r ∈ l) : (g.items, r.items) ∈ bkS l := by
  rw [bkS_eq]
  exact List.mem_flatMap.mpr ⟨g, hg, List.mem_map.mpr ⟨r, hr, rfl⟩⟩
theorem still_len {I : List Str} {R : List Rule} (hI : I.length ≤ 4) : (still I R).length ≤ 24 := Nat.le_trans (List.length_filter_le _ _) (grids_len hI)
section
variable {w : World} {K : PySem.W.Frag} {mg : Str → Option Value} {base : Heap} {C : Addr}
def gBoo (w : World) (ds : List D) (d : D) : Prop := ∃ (I : List Str) (R : List Rule), ds = [.tupk (I.map enc), .tup (R.map enc)] ∧ I.length ≤ 4 ∧ RIn I R ∧ d = .book w (bkF I) (bkS (still I R))
def nBoo : List Str := ["_law_isles_here", "_law_rows_so", "_law_found", "_law_still_here", "_law_grid", "_law_far"]
theorem sc_boo : FnScope nBoo pSti (defScope (top 80)) := ⟨rfl, rfl, rfl, by decide +kernel, rfl, by decide +kernel, by decide +kernel⟩
theorem ok_boo (h : DefAt K mg "_law_book" 80) (oS : Ok w K mg base C 3 "_law_still" pSti gSti) (oU : Ok w K mg base C 2 "_law_under" pUnd gUnd) : Ok w K mg base C 4 "_law_book" pSti (gBoo w) := by
  obtain ⟨f, fd, F, m⟩ := h
  refine ⟨f, fd, fn_data F sc_boo (fun ds d ⟨_, _, e, _⟩ => by rw [e] <;> rfl) (fun cdv A outer s H E hr ds d hg Fr => ?_), m, F.kp, F.bindsN fun _ _ _ _ _ _ us hl => match us, hl with | [_, _], _ => rfl⟩
  obtain ⟨I, R, rfl, hI, RI, rfl⟩ := hg
  have hl := still_len (R := R) hI
  refine b_step (s_par (k1 := .ow (phB w (bkF I) [])) (k2 := .dat (.lst ((still I R).map enc))) (i := 2) (j := 3) rfl sc_boo.nd k_book (k_d (d_fn oS rfl hr (a2 (dv 0) (dv 1)) ⟨I, R, rfl, hI, RI, rfl⟩))) ?_
  let ρf : List BK → List Sl := fun S => [.dat (.tupk (I.map enc)), .dat (.tup (R.map enc)), .ow (phB w (bkF I) S), .dat (.lst ((still I R).map enc)), .no, .no]
  refine b_step (ρ1 := ρf (bkS (still I R))) (s_for (vs := [4]) (still I R) enc (bkRow (still I R)) (fun i S => S.length ≤ 24 * i ∧ i ≤ 24) ρf _ [] PassesOwn.never rfl ⟨Nat.le_refl _, Nat.zero_le _⟩ ?_ (i_list (dv 3)) (fun i S g hg q => g_name (i := 4) sc_boo.nd) ?_) (b_gv 2 rfl (b_stop (s_ret (dv 2))))
  · intro i S g hg q
    have hi := (List.getElem?_eq_some_iff.mp hg).1
    refine ⟨?_, by omega⟩
    rw [bkRow_eq, List.length_append, List.length_map]
    omega
  · intro i S g hg q
    have gl := grids_ok.len g (List.mem_filter.mp (List.mem_of_getElem? hg)).1
    let ρg : List BK → List Sl := fun S => [.dat (.tupk (I.map enc)), .dat (.tup (R.map enc)), .ow (phB w (bkF I) S), .dat (.lst ((still I R).map enc)), .dat (enc g), .no]
    refine n_no [4] (n_one (ρ1 := ρg (bkRow (still I R) S g)) ?_)
    refine s_for (vs := [5]) (still I R) enc (fun S r => S ++ [(g.items, r.items)]) (fun j S => S.length ≤ 600 + j ∧ j ≤ 24) ρg _ S PassesOwn.never rfl ⟨by omega, Nat.zero_le _⟩ ?_ (i_list (dv 3)) (fun i S r hr' q => g_name (i := 5) sc_boo.nd) ?_
    · intro j S r hr' q
      have hj := (List.getElem?_eq_some_iff.mp hr').1
      refine ⟨?_, by omega⟩
      rw [List.length_append]
      exact Nat.add_le_add_right q.1 1
    · intro j S r hr' q
      have rl := grids_ok.len r (List.mem_filter.mp (List.mem_of_getElem? hr')).1
      exact n_no [5] (n_one (s_book (i := 2) (k := (g.items, r.items)) hr.units rfl (Nat.lt_of_le_of_lt (show S.length ≤ 700 by omega) (by decide)) (d_fn oU rfl (hr.mono (by decide)) (a3 (dv 0) (dv 4) (dv 5)) ⟨I, g, r, rfl, Nat.le_trans hI (by decide), gl, rl, rfl⟩) (d_tup (a2 (dv 4) (dv 5)))))
end
end Fz
/-! The law's own functions: sights. -/
namespace Fz
open PySem L2 PyProof.Rows
open PySem.W (Datum DatumOrd Tup T3 maxOf)
open Enc (enc)

abbrev Sight := Tup Grid
def sOk (I : List Str) (own : Sight) (g : Grid) : Bool := own.items.all fun far => !(!under I g far && !under I far g)
def sPut (own : Sight) (g : Grid) : Sight := ⟨own.items ++ [g]⟩
def sInner (I : List Str) (pool : List Grid) (acc : List Sight) (own : Sight) : List Sight := pool.foldl (fun acc g => if sOk I own g = true then acc ++ [sPut own g] else acc) acc
def sPool (I : List Str) (R : List Rule) (f : Flood) : List Grid := (still I R).filter fun g => fits I g f
def sStep (I : List Str) (R : List Rule) (found : List Sight) (f : Flood) : List Sight := found.foldl (sInner I (sPool I R f)) []
def sights (I : List Str) (R : List Rule) (fs : List Flood) : List Sight := fs.foldl (sStep I R) [⟨[]⟩]
theorem sInner_eq (I : List Str) (pool : List Grid) (acc : List Sight) (own : Sight) : sInner I pool acc own = acc ++ (pool.filter (sOk I own)).map (sPut own) := foldl_app (sOk I own) (sPut own) pool acc
theorem sStep_eq (I : List Str) (R : List Rule) (found : List Sight) (f : Flood) : sStep I R found f = found.flatMap fun own => ((sPool I R f).filter (sOk I own)).map (sPut own) := by
  have key : ∀ (l acc : List Sight), l.foldl (sInner I (sPool I R f)) acc = acc ++ l.flatMap fun own => ((sPool I R f).filter (sOk I own)).map (sPut own) := by
    intro l
    induction l with
    | nil => intro acc; simp
    | cons a l ih =>
      intro acc
      rw [List.foldl_cons, ih, sInner_eq, List.flatMap_cons, List.append_assoc]
  exact (key found []).trans (List.nil_append _)
def sMax : Nat → Nat
  | 0 => 1
  | i + 1 => 24 * sMax i
theorem sMax_le {i : Nat} (h : i ≤ 3) : sMax i ≤ 13824 := by
  have : i = 0 ∨ i = 1 ∨ i = 2 ∨ i = 3 := by omega
  rcases this with rfl | rfl | rfl | rfl <;> decide
structure SGood (I : List Str) (R : List Rule) (i : Nat) (found : List Sight) : Prop where
  il : i ≤ 3
  len : found.length ≤ sMax i
  mem : ∀ own ∈ found, ∀ g ∈ own.items, g ∈ still I R
  ol : ∀ own ∈ found, own.items.length ≤ i
theorem sGood_step {I : List Str} {R : List Rule} {i : Nat} {found : List Sight} {f : Flood} (hI : I.length ≤ 4) (h : SGood I R i found) (hi : i < 3) : SGood I R (i + 1) (sStep I R found f) := by
  have hs := still_len (R := R) hI
  rw [sStep_eq]
  refine ⟨hi, ?_, ?_, ?_⟩
  · refine Nat.le_trans (flat_bound (c := 24) fun own _ => ?_) (Nat.mul_le_mul_left _ h.len)
    rw [List.length_map]
    exact Nat.le_trans (List.length_filter_le _ _) (Nat.le_trans (List.length_filter_le _ _) hs)
  · intro own ho g hg
    obtain ⟨o2, h2, ho⟩ := List.mem_flatMap.mp ho
    obtain ⟨g2, hg2, rfl⟩ := List.mem_map.mp ho
    rcases List.mem_append.mp (show g ∈ o2.items ++ [g2] from hg) with hg | hg
    · exact h.mem o2 h2 g hg
    · have e : g = g2 := by simpa using hg
      subst e
      exact (List.mem_filter.mp (List.mem_filter.mp hg2).1).1
  · intro own ho
    obtain ⟨o2, h2, ho⟩ := List.mem_flatMap.mp ho
    obtain ⟨g2, hg2, rfl⟩ := List.mem_map.mp ho
    show (o2.items ++ [g2]).length ≤ _
    rw [List.length_append]
    exact Nat.add_le_add_right (h.ol o2 h2) 1
section
variable {w : World} {K : PySem.W.Frag} {mg : Str → Option Value} {base : Heap} {C : Addr}
def gSig (ds : List D) (d : D) : Prop := ∃ (I : List Str) (R : List Rule) (fs : List Flood), ds = [.tupk (I.map enc), .tup (R.map enc), .tup (fs.map enc)] ∧ I.length ≤ 4 ∧ RIn I R ∧ FOk I fs ∧ fs.length ≤ 3 ∧ d = .lst ((sights I R fs).map enc)
def nSig : List Str := ["_law_isles_here", "_law_rows_so", "_law_times_so", "_law_still_here", "_law_book_here", "_law_found", "_law_time_so", "_law_pool", "_law_later", "_law_own", "_law_grid", "_law_far"]
theorem sc_sig : FnScope nSig pLo (defScope (top 73)) := ⟨rfl, rfl, rfl, by decide +kernel, rfl, by decide +kernel, by decide +kernel⟩
theorem ok_sig (b : MgB mg) (h : DefAt K mg "_law_sights" 73) (oS : Ok w K mg base C 3 "_law_still" pSti gSti) (oB : Ok w K mg base C 4 "_law_book" pSti (gBoo w)) (oF : Ok w K mg base C 3 "_law_fits" pFts gFts) : Ok w K mg base C 5 "_law_sights" pLo gSig := by
  obtain ⟨f, fd, F, m⟩ := h
  refine ⟨f, fd, fn_data F sc_sig (fun ds d ⟨_, _, _, e, _⟩ => by rw [e] <;> rfl) (fun cdv A outer s H E hr ds d hg Fr => ?_), m, F.kp, F.bindsN fun _ _ _ _ _ _ us hl => match us, hl with | [_, _, _], _ => rfl⟩
  obtain ⟨I, R, fs, rfl, hI, RI, fo, hf3, rfl⟩ := hg
  have hr3 := hr.mono (show 3 ≤ 4 by decide)
  have hs := still_len (R := R) hI
  refine b_step (s_tup (es1 := []) (vs := [3, 4, 5]) (d_tup (a3 (d_fn oS rfl hr3 (a2 (dv 0) (dv 1)) ⟨I, R, rfl, hI, RI, rfl⟩) (d_fn oB rfl hr (a2 (dv 0) (dv 1)) ⟨I, R, rfl, hI, RI, rfl⟩) (d_lst (ds := ([⟨[]⟩] : List Sight).map enc) (a1 (d_tup a_nil)))))
    (g_tup rfl (gs_cons (g_name (i := 3) sc_sig.nd) (gs_cons (g_name (i := 4) sc_sig.nd) (gs_cons (g_name (i := 5) sc_sig.nd) gs_nil))))) ?_
  let ρf : List Sight → List Sl := fun found => [.dat (.tupk (I.map enc)), .dat (.tup (R.map enc)), .dat (.tup (fs.map enc)), .dat (.lst ((still I R).map enc)), .dat (.book w (bkF I) (bkS (still I R))), .dat (.lst (found.map enc)), .no, .no, .no, .no, .no, .no]
  refine b_step (ρ1 := ρf (sights I R fs)) (s_for (vs := [6]) fs enc (sStep I R) (SGood I R) ρf _ [⟨[]⟩] PassesOwn.never rfl ⟨Nat.zero_le _, Nat.le_refl _, fun own ho g hg => ?_, fun own ho => ?_⟩ ?_ (i_tup (dv 2)) (fun i found fl hfl q => g_name (i := 6) sc_sig.nd) ?_) (b_stop (s_ret (dv 5)))
  · have e : own = ⟨[]⟩ := by simpa using ho
    rw [e] at hg
    cases hg
  · have e : own = ⟨[]⟩ := by simpa using ho
    rw [e]
    exact Nat.le_refl _
  · intro i found fl hfl q
    have hi := (List.getElem?_eq_some_iff.mp hfl).1
    exact sGood_step hI q (by omega)
  · intro i found fl hfl q
    have hflm := List.mem_of_getElem? hfl
    let ρg : List Sight → List Sl := fun later => [.dat (.tupk (I.map enc)), .dat (.tup (R.map enc)), .dat (.tup (fs.map enc)), .dat (.lst ((still I R).map enc)), .dat (.book w (bkF I) (bkS (still I R))), .dat (.lst (found.map enc)), .dat (enc fl), .dat (.lst ((sPool I R fl).map enc)), .own (later.map enc), .no, .no, .no]
    refine n_step (ρ1 := ρg []) (s_par (k1 := .dat (.lst ((sPool I R fl).map enc))) (k2 := .own []) (i := 7) (j := 8) rfl sc_sig.nd (k_d (d_of_f ?_)) (k_f (f_lst a_nil))) ?_
    · exact f_lc (own := [("_law_grid", 10)]) (still I R) enc enc (fun g => fits I g fl) _ rfl sc_sig.nd (blkOk_by (by kernel_rfl)) (i_list (dv 3)) (fun s H B cl fp a ha => g_name (i := 10) sc_sig.nd)
        (fun s' H B cl fp a ha => ts_one (t_val (d_fn oF rfl hr3 (a3 (dv 0) (dv 10) (dv 6)) ⟨I, a, fl, rfl, grids_ok.len a (List.mem_filter.mp ha).1, fo.b fl hflm, fo.c fl hflm, rfl⟩))) (fun s H B cl fp a ha => dv 10)
    · refine n_step (ρ1 := ρg (sStep I R found fl)) ?_ (n_fzp (l := (sStep I R found fl).map enc) 8 rfl (n_no [6, 7, 8] (n_one (s_set (i := 5) sc_sig.nd (k_d (dv 8))))))
      refine s_for (vs := [9]) found enc (sInner I (sPool I R fl)) (fun j acc => acc.length ≤ 24 * j ∧ j ≤ 13824) ρg _ [] PassesOwn.never rfl ⟨Nat.le_refl _, Nat.zero_le _⟩ ?_ (i_list (dv 5)) (fun j acc own ho z => g_name (i := 9) sc_sig.nd) ?_
      · intro j acc own ho z
        have hj := (List.getElem?_eq_some_iff.mp ho).1
        have hfl := Nat.le_trans q.len (sMax_le q.il)
        refine ⟨?_, by omega⟩
        rw [sInner_eq, List.length_append, List.length_map]
        have z2 : ((sPool I R fl).filter (sOk I own)).length ≤ 24 := Nat.le_trans (List.length_filter_le _ _) (Nat.le_trans (List.length_filter_le _ _) hs)
        omega
      · intro j acc own ho z
        have hom := List.mem_of_getElem? ho
        let ρh : List Sight → List Sl := fun acc => [.dat (.tupk (I.map enc)), .dat (.tup (R.map enc)), .dat (.tup (fs.map enc)), .dat (.lst ((still I R).map enc)), .dat (.book w (bkF I) (bkS (still I R))), .dat (.lst (found.map enc)), .dat (enc fl), .dat (.lst ((sPool I R fl).map enc)), .own (acc.map enc), .dat (enc own), .no, .no]
        refine n_no [9] (n_one (ρ1 := ρh (sInner I (sPool I R fl) acc own)) ?_)
        refine s_for (vs := [10]) (sPool I R fl) enc (fun acc g => if sOk I own g = true then acc ++ [sPut own g] else acc) (fun k acc => acc.length ≤ 400000 + k ∧ k ≤ 24) ρh _ acc PassesOwn.never rfl ⟨by omega, Nat.zero_le _⟩ ?_ (i_list (dv 7)) (fun k acc g hg y => g_name (i := 10) sc_sig.nd) ?_
        · intro k acc g hg y
          have hk := (List.getElem?_eq_some_iff.mp hg).1
          have hpl : (sPool I R fl).length ≤ 24 := Nat.le_trans (List.length_filter_le _ _) hs
          refine ⟨?_, by omega⟩
          split
          · rw [List.length_append]
            exact Nat.add_le_add_right y.1 1
          · exact Nat.le_succ_of_le y.1
        · intro k acc g hg y
          have hgs : g ∈ still I R := (List.mem_filter.mp (List.mem_of_getElem? hg)).1
          have eb : sOk I own g = decide ((own.items.filter fun far => !under I g far && !under I far g) = []) := by
            rw [filter_nil]
            rfl
          have fm : ∀ far ∈ own.items, far ∈ still I R := q.mem own hom
          cases hc : sOk I own g with
          | true =>
            rw [if_pos rfl]
            have ea : ρh (acc ++ [sPut own g]) = [.dat (.tupk (I.map enc)), .dat (.tup (R.map enc)), .dat (.tup (fs.map enc)), .dat (.lst ((still I R).map enc)), .dat (.book w (bkF I) (bkS (still I R))), .dat (.lst (found.map enc)), .dat (enc fl), .dat (.lst ((sPool I R fl).map enc)), .own (acc.map enc ++ [enc (sPut own g)]), .dat (enc own), .no, .no] := by
              show [_, _, _, _, _, _, _, _, Sl.own ((acc ++ [sPut own g]).map enc), _, _, _] = _
              rw [List.map_append]
              rfl
            rw [ea]
            have ep : enc (sPut own g) = D.tup (own.items.map enc ++ [enc g]) := by
              show D.tup ((own.items ++ [g]).map enc) = _
              rw [List.map_append]
              rfl
            rw [ep]
            have hol := q.ol own hom
            refine n_no [10] (n_one (s_ifT (pt_eq (eb.symm.trans hc) (t_cmp (o_eq (a := own.items.filter fun far => !under I g far && !under I far g) (b := []) (u_eq hr)) (d_of_f (f_lc (own := [("_law_far", 11)]) own.items enc enc (fun far => !under I g far && !under I far g) _ rfl sc_sig.nd (blkOk_by (by kernel_rfl)) (i_tup (dv 9)) (fun s H B cl fp a ha => g_name (i := 11) sc_sig.nd)
              (fun s' H B cl fp a ha => ts_one (t_w (w_and (t_not (t_val (d_bget (f := bkF I) (S := bkS (still I R)) (k := (g.items, a.items)) hr.units (bkS_mem hgs (fm a ha)) (dv 4) (d_tup (a2 (dv 10) (dv 11)))))) (fun _ => w_one (t_not (t_val (d_bget (f := bkF I) (S := bkS (still I R)) (k := (a.items, g.items)) hr.units (bkS_mem (fm a ha) hgs) (dv 4) (d_tup (a2 (dv 11) (dv 10)))))))))) (fun s H B cl fp a ha => dv 11))) (d_lst a_nil)))
              (n_one (s_app (i := 8) (l := acc.map enc) rfl ?_ (d_bin (o_addT (l := own.items.map enc) (m := [enc g]) ?_) (dv 9) (d_tup (a1 (dv 10))))))))
            · rw [List.length_map]
              exact Nat.lt_of_le_of_lt (show acc.length ≤ 500000 by omega) (by decide)
            · rw [List.length_map]
              exact Nat.le_trans (show _ ≤ 100 by have := q.il; simp; omega) (by decide)
          | false =>
            rw [if_neg Bool.false_ne_true]
            exact n_no [10] (n_one (s_ifF (pt_eq (eb.symm.trans hc) (t_cmp (o_eq (a := own.items.filter fun far => !under I g far && !under I far g) (b := []) (u_eq hr)) (d_of_f (f_lc (own := [("_law_far", 11)]) own.items enc enc (fun far => !under I g far && !under I far g) _ rfl sc_sig.nd (blkOk_by (by kernel_rfl)) (i_tup (dv 9)) (fun s H B cl fp a ha => g_name (i := 11) sc_sig.nd)
              (fun s' H B cl fp a ha => ts_one (t_w (w_and (t_not (t_val (d_bget (f := bkF I) (S := bkS (still I R)) (k := (g.items, a.items)) hr.units (bkS_mem hgs (fm a ha)) (dv 4) (d_tup (a2 (dv 10) (dv 11)))))) (fun _ => w_one (t_not (t_val (d_bget (f := bkF I) (S := bkS (still I R)) (k := (a.items, g.items)) hr.units (bkS_mem (fm a ha) hgs) (dv 4) (d_tup (a2 (dv 11) (dv 10)))))))))) (fun s H B cl fp a ha => dv 11))) (d_lst a_nil))) n_nil))
end
end Fz
/-! The source of draws: _law_take. -/
namespace Fz
open PySem L2 PyProof PyProof.Rows
open PySem.W (Datum DatumOrd Tup T3)
open Enc (enc)
section
variable {X : Cx} {C : Addr}
theorem o_mul {i j : Int} (h : CMul i j) : OpR X (binaryOp .Mult) (rD X.K C (.int i) (.int j) (.int (i * j))) := op_w op_mul fun _ _ H Q ⟨_, _, h1, h2, k⟩ => ⟨i, j, h1, h2, h, k _ H (Same.refl H) rfl⟩
theorem o_mulX {i j : Int} (h : CMulX i j) : OpR X (binaryOp .Mult) (rD X.K C (.int i) (.int j) (.int (i * j))) := op_w op_mulX fun _ _ H Q ⟨_, _, h1, h2, k⟩ => ⟨i, j, h1, h2, h, k _ H (Same.refl H) rfl⟩
theorem o_mod {i j : Int} (h : 0 < j) : OpR X (binaryOp .Mod) (rD X.K C (.int i) (.int j) (.int (i % j))) := op_w op_mod fun _ _ H Q ⟨_, _, h1, h2, k⟩ => ⟨i, j, h1, h2, h, k _ H (Same.refl H) rfl⟩
theorem o_fdiv {i j : Int} (h : CDiv i j) : OpR X (binaryOp .FloorDiv) (rD X.K C (.int i) (.int j) (.int (i / j))) := op_w op_fdiv fun _ _ H Q ⟨_, _, h1, h2, k⟩ => ⟨i, j, h1, h2, h, k _ H (Same.refl H) rfl⟩
theorem o_pow {i j : Int} (h : CPow i j) : OpR X (binaryOp .Pow) (rD X.K C (.int i) (.int j) (.int (i ^ j.toNat))) := op_w op_pow fun _ _ H Q ⟨_, _, h1, h2, k⟩ => ⟨i, j, h1, h2, h, k _ H (Same.refl H) rfl⟩
theorem c_int {i : Int} : CallR X (.type "int") (rC X.K C [.int i] (.int i)) := cl_w call_int1 fun xs H Q ⟨P, t, h, k⟩ => by
  obtain ⟨v, rfl, h1⟩ := rp1 h
  have h1 : v = V.int i := h1
  subst h1
  exact .inl ⟨i, rfl, k _ H (Same.refl H) rfl⟩
theorem c_intB {b : Bool} : CallR X (.type "int") (rC X.K C [.bl b] (.int (if b then 1 else 0))) := cl_w call_int1 fun xs H Q ⟨P, t, h, k⟩ => by
  obtain ⟨v, rfl, h1⟩ := rp1 h
  have h1 : v = V.bl b := h1
  subst h1
  exact .inr ⟨b, rfl, k _ H (Same.refl H) rfl⟩
theorem c_abs {i : Int} : CallR X (.builtin "abs") (rC X.K C [.int i] (.int (if i < 0 then -i else i))) := cl_w call_abs fun xs H Q ⟨P, t, h, k⟩ => by
  obtain ⟨v, rfl, h1⟩ := rp1 h
  have h1 : v = V.int i := h1
  subst h1
  exact ⟨i, rfl, k _ H (Same.refl H) rfl⟩
end
/-! ### the numbers -/
def onceOf (b c : Int) : Int := ((b + 48271 * c) * (39373 + c)) % 2147483647
def bothOf (b c : Int) : Int := ((onceOf b c + c + b / 1000003) * (onceOf b c % 40009 + 7)) % 2147483629
def lotOf (b c : Int) : Int := (bothOf b c * 48271 + onceOf b c) % 2147483587 / 64
def takeI (st : U3) (n : Int) : Int := if 0 < st.a then st.a % n else lotOf st.b (st.c + 1) % n
def takeS (st : U3) (n : Int) : U3 := if 0 < st.a then ⟨st.a / n, st.b, st.c⟩ else ⟨st.a, st.b, st.c + 1⟩
def tk (st : U3) (n : Nat) : Nat := (takeI st n).toNat
def tkS (st : U3) (n : Nat) : U3 := takeS st n
/-- room for n more draws -/
def Fre (st : U3) (n : Nat) : Prop := 0 ≤ st.c ∧ st.c + n ≤ 1000000000
/-- not more than n draws on -/
def Adv (st st' : U3) (n : Nat) : Prop := st.c ≤ st'.c ∧ st'.c ≤ st.c + n
theorem Fre.adv {st st' : U3} {n m : Nat} (h : Fre st (n + m)) (a : Adv st st' n) : Fre st' m := by
  unfold Fre Adv at *
  omega
theorem Fre.le {st : U3} {n m : Nat} (h : Fre st n) (a : m ≤ n) : Fre st m := by
  unfold Fre at *
  omega
theorem Adv.refl {st : U3} {n : Nat} : Adv st st n := by
  unfold Adv
  omega
theorem Adv.trans {a b c : U3} {n m : Nat} (h : Adv a b n) (k : Adv b c m) : Adv a c (n + m) := by
  unfold Adv at *
  omega
theorem Adv.le {a b : U3} {n m : Nat} (h : Adv a b n) (k : n ≤ m) : Adv a b m := by
  unfold Adv at *
  omega
theorem tk_eq (st : U3) {n : Nat} (hn : 0 < n) : takeI st n = (tk st n : Int) := by
  unfold tk takeI
  have hn : (n : Int) ≠ 0 := by omega
  split
  · exact (Int.toNat_of_nonneg (Int.emod_nonneg _ hn)).symm
  · exact (Int.toNat_of_nonneg (Int.emod_nonneg _ hn)).symm
theorem tk_lt (st : U3) {n : Nat} (hn : 0 < n) : tk st n < n := by
  have e := tk_eq st hn
  have hn : (0 : Int) < n := by omega
  have : takeI st n < n := by
    unfold takeI
    split
    · exact Int.emod_lt_of_pos _ hn
    · exact Int.emod_lt_of_pos _ hn
  omega
theorem tk_adv (st : U3) (n : Nat) : Adv st (tkS st n) 1 := by
  unfold tkS takeS Adv
  split
  · show st.c ≤ st.c ∧ st.c ≤ st.c + _
    omega
  · show st.c ≤ st.c + 1 ∧ st.c + 1 ≤ st.c + _
    omega
section
variable {w : World} {K : PySem.W.Frag} {mg : Str → Option Value} {base : Heap} {C : Addr}
def gTk (ds : List D) (st : U3) (d : D) (st' : U3) : Prop := ∃ n : Nat, ds = [.int n] ∧ 0 < n ∧ n < 1000 ∧ Fre st 1 ∧ d = .int (tk st n) ∧ st' = tkS st n
def nTk : List Str := ["_law_urn", "_law_low_so", "_law_drawn", "_law_once", "_law_far", "_law_both_so"]
def pTk : List Str := ["_law_urn", "_law_low_so"]
theorem sc_tk : FnScope nTk pTk (defScope (top 59)) := ⟨rfl, rfl, rfl, by decide +kernel, rfl, by decide +kernel, by decide +kernel⟩
theorem ok_tk (b : MgB mg) (h : DefAt K mg "_law_take" 59) : OkS w K mg base C 1 "_law_take" pTk gTk := by
  obtain ⟨f, fd, F, m⟩ := h
  refine ⟨f, fd, fn_src F sc_tk (fun ds st d st' ⟨_, e, _⟩ => by rw [e] <;> rfl) (fun cdv A outer s H E hr ds st d st' hg Fr hU => ?_), m, F.kp, F.bindsN fun _ _ _ _ _ _ us hl => match us, hl with | [_, _], _ => rfl⟩
  obtain ⟨n, rfl, h0, h1, fr, rfl, rfl⟩ := hg
  rw [← tk_eq st h0]
  unfold tkS takeS takeI
  by_cases ha : 0 < st.a
  · rw [if_pos ha, if_pos ha]
    refine b_stop (s_ifT_R (pt_eq (decide_eq_true ha) (t_cmp o_gtI (d_uix (i := 0) (j := 0) rfl rfl) d_int)) ?_)
    refine b_step (s_set (i := 2) sc_tk.nd (k_d (d_bin (o_mod (i := st.a) (j := (n : Nat)) (by omega)) (d_t c_int b.int rfl (a1 (d_uix (i := 0) (j := 0) rfl rfl))) (dv 1)))) ?_
    refine b_step (s_uset (i := 0) (j := 0) (st := st) (st' := ⟨st.a / n, st.b, st.c⟩) rfl (d_bin (o_fdiv (i := st.a) (j := (n : Nat)) ⟨by omega, by omega⟩) (d_uix (i := 0) (j := 0) rfl rfl) (dv 1)) rfl rfl) ?_
    exact b_stop (su_ret hU (i := 0) rfl (u_d (dv 2)))
  · rw [if_neg ha, if_neg ha]
    obtain ⟨f0, f1⟩ := fr
    refine b_step (s_ifF (pt_eq (decide_eq_false ha) (t_cmp o_gtI (d_uix (i := 0) (j := 0) rfl rfl) d_int)) n_nil) ?_
    refine b_step (s_uset (i := 0) (j := 2) (st := st) (st' := ⟨st.a, st.b, st.c + 1⟩) rfl (d_bin o_add (d_uix (i := 0) (j := 2) rfl rfl) d_int) rfl rfl) ?_
    generalize hc : st.c + 1 = c
    have c0 : 0 ≤ c := by omega
    have c1 : c ≤ 1000000000 := by omega
    have m1 : CMul 48271 c := .inl ⟨by decide, by decide⟩
    have m2 : CMul (st.b + 48271 * c) (39373 + c) := .inr ⟨by omega, by omega⟩
    refine b_step (s_set (i := 3) (k := .dat (.int (onceOf st.b c))) sc_tk.nd (k_d (d_bin (o_mod (i := (st.b + 48271 * c) * (39373 + c)) (j := 2147483647) (by decide)) (d_t c_int b.int rfl (a1 (d_bin (o_mul m2) (d_bin o_add (d_uix (i := 0) (j := 1) rfl rfl) (d_bin (o_mul m1) d_int (d_uix (i := 0) (j := 2) rfl rfl))) (d_bin o_add d_int (d_uix (i := 0) (j := 2) rfl rfl))))) d_int))) ?_
    have e1 : lotOf st.b c = (bothOf st.b c * 48271 + onceOf st.b c) % 2147483587 / 64 := rfl
    have e2 : bothOf st.b c = ((onceOf st.b c + c + st.b / 1000003) * (onceOf st.b c % 40009 + 7)) % 2147483629 := rfl
    rw [e1]
    generalize onceOf st.b c = o at e2 ⊢
    have m3 : CMul (o + c + st.b / 1000003) (o % 40009 + 7) := .inr ⟨by omega, by omega⟩
    refine b_step (s_set (i := 4) sc_tk.nd (k_d (d_bin o_add (d_bin (o_mod (i := o) (j := 40009) (by decide)) (d_t c_int b.int rfl (a1 (dv 3))) d_int) d_int))) ?_
    refine b_step (s_set (i := 5) (k := .dat (.int (bothOf st.b c))) sc_tk.nd (k_d (by
      rw [e2]
      exact d_bin (o_mod (j := 2147483629) (by decide)) (d_t c_int b.int rfl (a1 (d_bin (o_mul m3) (d_bin o_add (d_bin o_add (dv 3) (d_uix (i := 0) (j := 2) rfl rfl)) (d_bin (o_fdiv (i := st.b) (j := 1000003) ⟨by decide, by decide⟩) (d_uix (i := 0) (j := 1) rfl rfl) d_int)) (dv 4)))) d_int))) ?_
    generalize bothOf st.b c = z
    have m4 : CMul z 48271 := .inr ⟨by decide, by decide⟩
    refine b_stop (su_ret hU (i := 0) rfl (u_d ?_))
    refine d_bin (o_mod (j := (n : Nat)) (by omega)) ?_ (dv 1)
    exact d_t c_int b.int rfl (a1 (d_bin (o_fdiv (j := 64) ⟨by decide, by decide⟩) (d_bin (o_mod (j := 2147483587) (by decide)) (d_t c_int b.int rfl (a1 (d_bin o_add (d_bin (o_mul m4) (dv 5) d_int) (dv 3)))) d_int) d_int))
end
end Fz
/-! Draws: _law_of, _law_mixed, _law_pick. -/
namespace Fz
open PySem L2 PyProof PyProof.Rows
open PySem.W (Datum DatumOrd Tup T3)
open Enc (enc)
section
variable {X : Cx} {C : Addr} {F : Frm} {ρ ρ1 ρ2 ρ3 : List Sl} {pos p p2 : Pos} {e f : Expr} {d : D} {l : List D}
/-- list(range(e)) -/
theorem f_listRange {n : Nat} {p3 pos2 : Pos} (hc : X.calm = true) (hmr : X.mg "range" = none) (hml : X.mg "list" = none) (hn : n ≤ 1000000) (h : PE X e (tD X.K C ρ (.int n))) (hgr : Gl X "range" := by rfl) (hgl : Gl X "list" := by rfl)
    (na : starEach [e] X.env = (false, eval e X.env) :: starEach [] X.env := by rfl) (na2 : starEach [.Call (.Name "range" p) [e] [] pos] X.env = (false, eval (.Call (.Name "range" p) [e] [] pos) X.env) :: starEach [] X.env := by rfl) :
    PE X (.Call (.Name "list" p3) [.Call (.Name "range" p) [e] [] pos] [] pos2) (tF X.K C ρ ((List.range n).map fun i : Nat => D.int i)) :=
  pe_w (pe_listRg hc hgl hml (prg_1 hgr hmr h na) na2) fun σ H Q ⟨F, P, r, k⟩ => ⟨F, P, r, fun v H2 e2 hv => by
    have hv : v = V.int n := hv
    refine ⟨n, hv, RgOk.of_le (by omega) (by omega) (by omega) (by omega), fun q hq => ?_⟩
    have hq0 : H q = none := e2.free hq
    refine k q _ _ hq0 (e2.trans (same_upd hq)) upd_same ?_
    have key : ∀ (m : List Nat) (H' : Hp), RpL X.K C H' (m.map fun i : Nat => D.int i) (m.map fun i : Nat => V.int (0 + (i : Nat))) := by
      intro m H'
      induction m with
      | nil => rfl
      | cons a m ih => exact ⟨_, _, rfl, (by show V.int _ = V.int _; rw [Int.zero_add]), ih⟩
    have er : rgV 0 (n : Int) = (List.range n).map fun i : Nat => V.int (0 + (i : Nat)) := by
      unfold rgV
      rw [Int.sub_zero, Int.toNat_natCast]
    rw [er]
    exact key _ _⟩
/-- len(x) of one's own list -/
theorem d_lenO {i : Nat} {x : Str} {px : Pos} (hl : ρ[i]? = some (.own l)) (hm : X.mg "len" = none) (hg : Gl X "len" := by rfl) (hN : X.N[i]? = some x := by rfl) (hv : Vis X.env.scope x := by first | exact Or.inl rfl | exact Or.inr (Or.inl rfl) | exact Or.inr (Or.inr rfl))
    (hd : (x == ("__debug__" : Str)) = false := by decide) (hcd : (x == ("__classdict__" : Str)) = false := by decide)
    (hs : starEach [.Name x px] X.env = (false, eval (.Name x px) X.env) :: starEach [] X.env := by rfl) (hpl : (backTo pos (starEach [] X.env)).any (·.1) = false := by rfl) : PE X (.Call (.Name "len" p) [.Name x px] [] pos) (tD X.K C ρ (.int l.length)) :=
  pe_w (pe_callB call_len_seq hg hm (by rfl) (pa_cons (pe_var hN hv hd hcd) pa_nil hs) (by decide) (by decide) hs hpl) fun σ H Q ⟨F, P, r, k⟩ => by
    obtain ⟨q, h1, h2, h3, xs, h4, h5⟩ := r.own i (phL l) hl
    refine ⟨.ref q, h1, q, xs, rfl, .inl (SqL.of h4), ?_⟩
    rw [h5.length]
    exact k _ H (Same.refl H) rfl
theorem d_cast {d2 : D} (h : d = d2) (k : PE X e (tD X.K C ρ d)) : PE X e (tD X.K C ρ d2) := h ▸ k
theorem u_slL {lo hi : Option Expr} {a b : Option Int} (h1 : PE X e (tU X.K C F ρ (.lst l) ρ1)) (h2 : PO X lo (tO X.K C ρ1 a)) (h3 : PO X hi (tO X.K C ρ1 b)) : PE X (.Subscript e (.Slice lo hi none p2) pos) (tU X.K C F ρ (.lst (cutD l a b)) ρ1) :=
  pe_w (pe_slice sl_list h1 h2 h3) fun σ H Q ⟨P, r, k⟩ => ⟨P, r, fun v H2 r2 s2 hv => ⟨F, P, r2, fun H3 e3 => ⟨F, P, r2.same e3, fun H4 e4 => by
    obtain ⟨q, xs, e1, g1, g2⟩ := Rp.mono (mask_same (e3.trans e4)) _ _ hv
    refine ⟨q, xs, e1, SqL.of (mask_le _ _ g1), fun p hp => ?_⟩
    have r4 := (r2.same e3).same e4
    have np := r4.trk.new hp
    refine k _ _ (r4.same (same_upd hp)) ((s2.trans (mask_same (e3.trans e4))).trans (mask_same (same_upd hp))) ⟨p, _, rfl, ?_, RpL.mono (mask_same (same_upd hp)) _ _ (cut_rep g2 a b)⟩
    rw [mask_at np, upd_same]⟩⟩⟩
end
/-! ### mixed -/
def intL (n : Nat) : List Int := (List.range n).map fun i : Nat => (i : Int)
abbrev MixS := List Int × List Int × U3
def mixStep (s : MixS) : MixS := (s.1.eraseIdx (tk s.2.2 s.1.length), s.2.1 ++ [(s.1[tk s.2.2 s.1.length]?).getD 0], tkS s.2.2 s.1.length)
def mixAll (st : U3) (n : Nat) : MixS := (List.range n).foldl (fun s _ => mixStep s) (intL n, [], st)
def mixed (st : U3) (n : Nat) : List Int := (mixAll st n).2.1
def mixedS (st : U3) (n : Nat) : U3 := (mixAll st n).2.2
structure MixG (st : U3) (n i : Nat) (s : MixS) : Prop where
  il : i ≤ n
  l1 : s.1.length + i = n
  l2 : s.2.1.length = i
  ad : Adv st s.2.2 i
  m1 : ∀ x ∈ s.1, x ∈ intL n
  m2 : ∀ x ∈ s.2.1, x ∈ intL n
theorem mixG0 (st : U3) (n : Nat) : MixG st n 0 (intL n, [], st) := ⟨Nat.zero_le _, (by show (intL n).length + 0 = n; simp [intL]), rfl, Adv.refl, fun x h => h, fun x h => by cases h⟩
theorem mixG_step {st : U3} {n i : Nat} {s : MixS} (h : MixG st n i s) (hi : i < n) : MixG st n (i + 1) (mixStep s) := by
  have h0 : 0 < s.1.length := by have := h.l1; omega
  have ht := tk_lt s.2.2 h0
  refine ⟨hi, ?_, ?_, h.ad.trans (tk_adv _ _), fun x hx => h.m1 x (List.mem_of_mem_eraseIdx hx), fun x hx => ?_⟩
  · show (s.1.eraseIdx _).length + _ = n
    rw [List.length_eraseIdx_of_lt ht]
    have := h.l1
    omega
  · show (s.2.1 ++ [_]).length = _
    rw [List.length_append, h.l2]
    rfl
  · rcases List.mem_append.mp (show x ∈ s.2.1 ++ [_] from hx) with q | q
    · exact h.m2 x q
    · have q : x = (s.1[tk s.2.2 s.1.length]?).getD 0 := by simpa using q
      rw [q, List.getElem?_eq_getElem ht]
      exact h.m1 _ (List.getElem_mem ht)
theorem mixG (st : U3) (n : Nat) : MixG st n n (mixAll st n) := by
  have key : ∀ i, i ≤ n → MixG st n i (((List.range n).take i).foldl (fun s _ => mixStep s) (intL n, [], st)) := by
    intro i
    induction i with
    | zero => intro _; exact mixG0 st n
    | succ i ih =>
      intro hi
      have e : (List.range n)[i]? = some i := by simp [show i < n from hi]
      rw [foldl_take e]
      exact mixG_step (ih (Nat.le_of_lt hi)) hi
  have q := key n (Nat.le_refl _)
  rw [List.take_of_length_le (by simp)] at q
  exact q
section
variable {w : World} {K : PySem.W.Frag} {mg : Str → Option Value} {base : Heap} {C : Addr}
def gOf (ds : List D) (st : U3) (d : D) (st' : U3) : Prop := ∃ l : List D, ds = [.lst l] ∧ 0 < l.length ∧ l.length < 1000 ∧ Fre st 1 ∧ l[tk st l.length]? = some d ∧ st' = tkS st l.length
def pOf : List Str := ["_law_urn", "_law_some_so"]
theorem sc_of : FnScope pOf pOf (defScope (top 57)) := ⟨rfl, rfl, rfl, by decide +kernel, rfl, by decide +kernel, by decide +kernel⟩
theorem ok_of (b : MgB mg) (h : DefAt K mg "_law_of" 57) (oT : OkS w K mg base C 1 "_law_take" pTk gTk) : OkS w K mg base C 2 "_law_of" pOf gOf := by
  obtain ⟨f, fd, F, m⟩ := h
  refine ⟨f, fd, fn_src F sc_of (fun ds st d st' ⟨_, e, _⟩ => by rw [e] <;> rfl) (fun cdv A outer s H E hr ds st d st' hg Fr hU => ?_), m, F.kp, F.bindsN fun _ _ _ _ _ _ us hl => match us, hl with | [_, _], _ => rfl⟩
  obtain ⟨l, rfl, h0, h1, fr, hd, rfl⟩ := hg
  exact b_stop (su_ret hU (i := 0) rfl (u_ixL (u_d (dv 1)) (u_draw (i := 0) oT rfl hr (aU1 (u_d (d_b c_lenL b.len rfl (a1 (dv 1))))) rfl rfl ⟨l.length, rfl, h0, h1, fr, rfl, rfl⟩ ⟨_, rfl⟩) (atI_nat hd)))

def gMix (ds : List D) (st : U3) (d : D) (st' : U3) : Prop := ∃ n : Nat, ds = [.lst ((List.range n).map fun i : Nat => D.int i)] ∧ n < 1000 ∧ Fre st n ∧ d = .tup ((mixed st n).map D.int) ∧ st' = mixedS st n
def nMix : List Str := ["_law_urn", "_law_pool", "_law_left", "_law_found", "_law_turn"]
def pMix : List Str := ["_law_urn", "_law_pool"]
theorem sc_mix : FnScope nMix pMix (defScope (top 58)) := ⟨rfl, rfl, rfl, by decide +kernel, rfl, by decide +kernel, by decide +kernel⟩
theorem ok_mix (b : MgB mg) (h : DefAt K mg "_law_mixed" 58) (oT : OkS w K mg base C 1 "_law_take" pTk gTk) : OkS w K mg base C 2 "_law_mixed" pMix gMix := by
  obtain ⟨f, fd, F, m⟩ := h
  refine ⟨f, fd, fn_src F sc_mix (fun ds st d st' ⟨_, e, _⟩ => by rw [e] <;> rfl) (fun cdv A outer s H E hr ds st d st' hg Fr hU => ?_), m, F.kp, F.bindsN fun _ _ _ _ _ _ us hl => match us, hl with | [_, _], _ => rfl⟩
  obtain ⟨n, rfl, h1, fr, rfl, rfl⟩ := hg
  let ρf : MixS → List Sl := fun s => [.sou s.2.2, .dat (.lst ((List.range n).map fun i : Nat => D.int i)), .own (s.1.map D.int), .own (s.2.1.map D.int), .no]
  have e0 : ((List.range n).map fun i : Nat => D.int i) = (intL n).map D.int := by
    unfold intL
    rw [List.map_map]
    rfl
  have eρ : ρf (intL n, [], st) = [.sou st, .dat (.lst ((List.range n).map fun i : Nat => D.int i)), .own ((List.range n).map fun i : Nat => D.int i), .own [], .no] := by
    show [_, _, Sl.own ((intL n).map D.int), _, _] = _
    rw [← e0]
    rfl
  refine b_step (ρ1 := ρf (intL n, [], st)) (by rw [eρ]; exact s_par (k1 := .own ((List.range n).map fun i : Nat => D.int i)) (k2 := .own []) (i := 2) (j := 3) rfl sc_mix.nd (k_f (f_t c_lstL b.list rfl (a1 (dv 1)))) (k_f (f_lst a_nil))) ?_
  have G := mixG st n
  refine b_step (ρ1 := ρf (mixAll st n)) (s_for (vs := [4]) (List.range n) (fun i : Nat => D.int i) (fun s _ => mixStep s) (MixG st n) ρf _ (intL n, [], st) PassesOwn.never rfl (mixG0 st n) ?_ (i_range1 (by rfl) b.range (by omega) (d_cast (by rw [List.length_map, List.length_range]) (d_b (c_lenL (l := (List.range n).map fun i : Nat => D.int i)) b.len rfl (a1 (dv 1))))) (fun i s a ha q => g_name (i := 4) sc_mix.nd) ?_) ?_
  · intro i s a ha q
    have hi : i < n := by simpa using (List.getElem?_eq_some_iff.mp ha).1
    exact mixG_step q hi
  · intro i s a ha q
    have hi : i < n := by simpa using (List.getElem?_eq_some_iff.mp ha).1
    have h0 : 0 < s.1.length := by have := q.l1; omega
    have ht := tk_lt s.2.2 h0
    have es : ρf (mixStep s) = [.sou (tkS s.2.2 s.1.length), .dat (.lst ((List.range n).map fun i : Nat => D.int i)), .own ((s.1.map D.int).eraseIdx (tk s.2.2 s.1.length)), .own (s.2.1.map D.int ++ [.int ((s.1[tk s.2.2 s.1.length]?).getD 0)]), .no] := by
      show [_, _, Sl.own ((s.1.eraseIdx _).map D.int), Sl.own ((s.2.1 ++ [_]).map D.int), _] = _
      rw [List.map_append, List.eraseIdx_eq_take_drop_succ, List.eraseIdx_eq_take_drop_succ, List.map_append, List.map_take, List.map_drop]
      rfl
    rw [es]
    have hfr : Fre s.2.2 1 := by
      have := q.ad
      have := fr
      unfold Fre Adv at *
      omega
    refine n_no [4] (n_one (su_app (i := 3) (l := s.2.1.map D.int) ⟨_, rfl⟩ rfl (by
      rw [List.length_map, q.l2]
      exact Nat.lt_of_lt_of_le hi (Nat.le_trans (show n ≤ 1000 by omega) (by decide))) (u_pop (i := 2) (l := s.1.map D.int) (n := tk s.2.2 s.1.length) ⟨_, rfl⟩ rfl ?_ (by have := q.l1; omega) (u_draw (i := 0) oT rfl hr (aU1 (u_d (d_lenO (i := 2) rfl b.len))) rfl rfl ⟨s.1.length, by rw [List.length_map], h0, (by have := q.l1; omega), hfr, rfl, rfl⟩ ⟨_, rfl⟩))))
    rw [List.getElem?_map, List.getElem?_eq_getElem ht]
    rfl
  · exact b_fz 3 rfl (b_stop (su_ret hU (i := 0) rfl (u_d (d_t c_tupL b.tuple rfl (a1 (dv 3))))))
end
end Fz
/-! Draws: _law_pick, _law_isles, _law_orders, _law_times, _law_draw. -/
namespace Fz
open PySem L2 PyProof PyProof.Rows
open PySem.W (Datum DatumOrd Tup T3)
open Enc (enc)
section
variable {X : Cx} {C : Addr} {F : Frm} {ρ ρ1 : List Sl} {pos : Pos} {a b : D}
theorem su_par {i j : Nat} {x y : Str} {e1 e2 : Expr} {px py pt : Pos} {kt kt2 : Nat} {pt2 : Pos} (hc : X.calm = true) (hN : X.N.Nodup) (h : PA X [e1, e2] (tAU X.K C F ρ [a, b] ρ1)) (hij : i ≠ j := by decide)
    (hi : X.N[i]? = some x := by rfl) (hj : X.N[j]? = some y := by rfl) (hx : X.env.scope.names.lookup x = some .local := by rfl) (hy : X.env.scope.names.lookup y = some .local := by rfl)
    (hw : swappedStores [.Tuple [.Name x px, .Name y py] kt pt] (.Tuple [e1, e2] kt2 pt2) X.env = pure (some [x, y]) := by rfl)
    (hs : swapsWithSole [.Tuple [.Name x px, .Name y py] kt pt] (.Tuple [e1, e2] kt2 pt2) pos.line X.env = pure false := by rfl) :
    PS X (.Assign [.Tuple [.Name x px, .Name y py] kt pt] (.Tuple [e1, e2] kt2 pt2) pos) (tN X.K C F ρ ((ρ1.set i (.dat a)).set j (.dat b))) :=
  ps_w (ps_par hc hN hi hj hij hx hy h hw hs) fun D σ H ⟨P, r, k⟩ => ⟨P, r, fun vs H2 r2 s2 hv => by
    obtain ⟨v1, v2, rfl, h1, h2⟩ := rp2 hv
    refine ⟨v1, v2, rfl, k P _ H2 ?_ s2⟩
    exact (r2.set (i := i) (k := .dat a) h1 trivial).set (i := j) (k := .dat b) h2 trivial⟩
end
/-! ### pick -/
def cutN (st : U3) (n size : Nat) : List Int := (mixed st n).take size
def pickL {α : Type} (l : List α) (st : U3) (size : Nat) : List α := (l.zipIdx.filter fun q => decide ((q.2 : Int) ∈ cutN st l.length size)).map (·.1)
theorem pickL_map {α β : Type} (f : α → β) (l : List α) (st : U3) (size : Nat) : pickL (l.map f) st size = (pickL l st size).map f := by
  unfold pickL
  rw [List.length_map, List.zipIdx_map, List.filter_map, List.map_map, List.map_map]
  rfl
theorem pickL_sub {α : Type} (l : List α) (st : U3) (size : Nat) : (pickL l st size).Sublist l := by
  have h : ((l.zipIdx.filter fun q => decide ((q.2 : Int) ∈ cutN st l.length size)).map (·.1)).Sublist (l.zipIdx.map (·.1)) := (List.filter_sublist).map _
  have e : l.zipIdx.map (·.1) = l := by simp
  rw [e] at h
  exact h
section
variable {w : World} {K : PySem.W.Frag} {mg : Str → Option Value} {base : Heap} {C : Addr}
def gPick (ds : List D) (st : U3) (d : D) (st' : U3) : Prop := ∃ (l : List D) (size : Nat), (ds = [.lst l, .int size] ∨ ds = [.tup l, .int size]) ∧ l.length < 1000 ∧ Fre st l.length ∧ d = .lst (pickL l st size) ∧ st' = mixedS st l.length
def nPick : List Str := ["_law_urn", "_law_pool", "_law_size_so", "_law_found", "_law_k", "_law_own"]
def pPick : List Str := ["_law_urn", "_law_pool", "_law_size_so"]
theorem sc_pick : FnScope nPick pPick (defScope (top 62)) := ⟨rfl, rfl, rfl, by decide +kernel, rfl, by decide +kernel, by decide +kernel⟩
theorem numb_zip (l : List D) : numb l = l.zipIdx.map fun q => .tup [.int (q.2 : Nat), q.1] := rfl
theorem ok_pick (b : MgB mg) (h : DefAt K mg "_law_pick" 62) (oM : OkS w K mg base C 2 "_law_mixed" pMix gMix) : OkS w K mg base C 3 "_law_pick" pPick gPick := by
  obtain ⟨f, fd, F, m⟩ := h
  refine ⟨f, fd, fn_src F sc_pick (fun ds st d st' ⟨_, _, e, _⟩ => by rcases e with e | e <;> rw [e] <;> rfl) (fun cdv A outer s H E hr ds st d st' hg Fr hU => ?_), m, F.kp, F.bindsN fun _ _ _ _ _ _ us hl => match us, hl with | [_, _, _], _ => rfl⟩
  obtain ⟨l, size, he, h1, fr, rfl, rfl⟩ := hg
  have ec : cutD ((mixed st l.length).map D.int) none (some (size : Int)) = (cutN st l.length size).map enc := by
    rw [cutD_to]
    exact (List.map_take).symm
  rcases he with rfl | rfl
  · refine b_step (su_set (i := 3) (d := .lst ((cutN st l.length size).map enc)) sc_pick.nd (by
      rw [← ec]
      exact u_slL (u_t (rC_of_rF c_lstT) b.list rfl (aU1 (u_draw (i := 0) oM rfl hr (aU1 (u_d (d_of_f (f_listRange (n := l.length) rfl b.range b.list (by omega) (d_b c_lenL b.len rfl (a1 (dv 1))))))) rfl rfl ⟨l.length, rfl, h1, fr, rfl, rfl⟩ ⟨_, rfl⟩))) op_none (op_some (dv 2)))) ?_
    refine b_stop (su_ret hU (i := 0) rfl (u_d (d_of_f ?_)))
    exact f_lc (own := [("_law_k", 4), ("_law_own", 5)]) l.zipIdx _ (fun q => q.1) (fun q => decide ((q.2 : Int) ∈ cutN st l.length size)) _ rfl sc_pick.nd (blkOk_by (by kernel_rfl)) (i_enumL (by rfl) b.enumerate (dv 1)) (fun s H B cl fp a ha => g_tup rfl (gs_cons (g_name (i := 4) sc_pick.nd) (gs_cons (g_name (i := 5) sc_pick.nd) gs_nil)))
      (fun s' H B cl fp a ha => ts_one (t_cmp (o_inL (a := (a.2 : Int)) (l := cutN st l.length size) (u_in hr)) (dv 4) (dv 3))) (fun s H B cl fp a ha => dv 5)
  · refine b_step (su_set (i := 3) (d := .lst ((cutN st l.length size).map enc)) sc_pick.nd (by
      rw [← ec]
      exact u_slL (u_t (rC_of_rF c_lstT) b.list rfl (aU1 (u_draw (i := 0) oM rfl hr (aU1 (u_d (d_of_f (f_listRange (n := l.length) rfl b.range b.list (by omega) (d_b c_lenT b.len rfl (a1 (dv 1))))))) rfl rfl ⟨l.length, rfl, h1, fr, rfl, rfl⟩ ⟨_, rfl⟩))) op_none (op_some (dv 2)))) ?_
    refine b_stop (su_ret hU (i := 0) rfl (u_d (d_of_f ?_)))
    exact f_lc (own := [("_law_k", 4), ("_law_own", 5)]) l.zipIdx _ (fun q => q.1) (fun q => decide ((q.2 : Int) ∈ cutN st l.length size)) _ rfl sc_pick.nd (blkOk_by (by kernel_rfl)) (i_enumT (by rfl) b.enumerate (dv 1)) (fun s H B cl fp a ha => g_tup rfl (gs_cons (g_name (i := 4) sc_pick.nd) (gs_cons (g_name (i := 5) sc_pick.nd) gs_nil)))
      (fun s' H B cl fp a ha => ts_one (t_cmp (o_inL (a := (a.2 : Int)) (l := cutN st l.length size) (u_in hr)) (dv 4) (dv 3))) (fun s H B cl fp a ha => dv 5)
end
/-! ### isles -/
def poolI : List Str := ["a", "b", "c", "d", "e", "ab", "isle", "zz", "abcdefgh"]
def islP (st : U3) : List Str := pickL poolI (tkS st 4) (1 + tk st 4)
def isl (st : U3) : List Str := srtL (islP st)
def islS (st : U3) : U3 := mixedS (tkS st 4) 9
section
variable {w : World} {K : PySem.W.Frag} {mg : Str → Option Value} {base : Heap} {C : Addr}
def gIsles (ds : List D) (st : U3) (d : D) (st' : U3) : Prop := ds = [.int 1, .int 4] ∧ Fre st 10 ∧ d = .tupk ((isl st).map enc) ∧ st' = islS st
def nIsles : List Str := ["_law_urn", "_law_low_so", "_law_high_so", "_law_pool"]
def pIsles : List Str := ["_law_urn", "_law_low_so", "_law_high_so"]
theorem sc_isles : FnScope nIsles pIsles (defScope (top 63)) := ⟨rfl, rfl, rfl, by decide +kernel, rfl, by decide +kernel, by decide +kernel⟩
theorem ok_isles (b : MgB mg) (h : DefAt K mg "_law_isles" 63) (oT : OkS w K mg base C 1 "_law_take" pTk gTk) (oP : OkS w K mg base C 3 "_law_pick" pPick gPick) : OkS w K mg base C 4 "_law_isles" pIsles gIsles := by
  obtain ⟨f, fd, F, m⟩ := h
  refine ⟨f, fd, fn_src F sc_isles (fun ds st d st' ⟨e, _⟩ => by rw [e] <;> rfl) (fun cdv A outer s H E hr ds st d st' hg Fr hU => ?_), m, F.kp, F.bindsN fun _ _ _ _ _ _ us hl => match us, hl with | [_, _, _], _ => rfl⟩
  obtain ⟨rfl, fr, rfl, rfl⟩ := hg
  have hr1 := hr.mono (show 1 ≤ 3 by decide)
  refine b_step (s_set (i := 3) (k := .dat (.lst (poolI.map enc))) sc_isles.nd (k_d (d_lst (a_cons d_str (a_cons d_str (a_cons d_str (a_cons d_str (a_cons d_str (a_cons d_str (a_cons d_str (a_cons d_str (a_cons d_str a_nil)))))))))))) ?_
  refine b_stop (su_ret hU (i := 0) (ρ1 := [.sou (islS st), .dat (.int 1), .dat (.int 4), .dat (.lst (poolI.map enc))]) rfl (u_t c_tupLk b.tuple rfl (aU1 (u_b (rC_of_rF (c_sortL (l := islP st) (u_sort hr))) b.sorted rfl (aU1 ?_)))))
  refine u_draw (i := 0) (st := tkS st 4) (st' := islS st) oP rfl hr (aU2 (u_d (dv 3)) (u_bin (o_add (i := 1) (j := (tk st 4 : Nat))) (u_d (dv 1)) (u_draw (i := 0) oT rfl hr1 (aU1 (u_d (d_bin o_add (d_bin o_sub (dv 2) (dv 1)) d_int))) rfl rfl ⟨4, rfl, by decide, by decide, fr.le (by decide), rfl, rfl⟩ ⟨_, rfl⟩))) rfl rfl ⟨poolI.map enc, 1 + tk st 4, .inl ?_, by decide, ?_, ?_, rfl⟩ ⟨_, rfl⟩
  · rw [Int.natCast_add]
    rfl
  · exact (show Fre st (1 + 9) from fr).adv (tk_adv _ _)
  · rw [pickL_map]
    rfl
end
end Fz
/-! Draws: _law_orders, _law_times, _law_draw. -/
namespace Fz
open PySem L2 PyProof PyProof.Rows
open PySem.W (Datum DatumOrd Tup T3)
open Enc (enc)
theorem pickL_le {α : Type} (l : List α) (st : U3) (size : Nat) : (pickL l st size).length ≤ l.length := (pickL_sub l st size).length_le
theorem mixedS_adv (st : U3) (n : Nat) : Adv st (mixedS st n) n := (mixG st n).ad
theorem good_range {S : Type} {n : Nat} (step : S → Nat → S) (G : Nat → S → Prop) (s0 : S) (h0 : G 0 s0) (h : ∀ i s, i < n → G i s → G (i + 1) (step s i)) : G n ((List.range n).foldl step s0) := by
  have key : ∀ i, i ≤ n → G i (((List.range n).take i).foldl step s0) := by
    intro i
    induction i with
    | zero => intro _; exact h0
    | succ i ih =>
      intro hi
      have e : (List.range n)[i]? = some i := by simp [show i < n from hi]
      rw [foldl_take e]
      exact h i _ hi (ih (Nat.le_of_lt hi))
  have q := key n (Nat.le_refl _)
  rw [List.take_of_length_le (by simp)] at q
  exact q
/-! ### orders -/
def giftOf (T : List Pair) (st : U3) : Pair := (T[tk st T.length]?).getD ("", "")
def othersOf (T : List Pair) (st : U3) : List Pair := T.filter fun o => decide (o ≠ giftOf T st)
def orS (T : List Pair) (st : U3) : U3 := tkS (tkS st T.length) 2
def wantsOf (T : List Pair) (st : U3) : List Pair := pickL (othersOf T st) (orS T st) (1 + tk (tkS st T.length) 2)
def ordStep (T : List Pair) (s : List Rule × U3) : List Rule × U3 :=
  if 2 < T.length then (s.1 ++ [((⟨wantsOf T s.2⟩ : Tup Pair), giftOf T s.2)], mixedS (orS T s.2) (othersOf T s.2).length) else s
def orders (T : List Pair) (st : U3) : List Rule × U3 := (List.range (tk st 3)).foldl (fun s _ => ordStep T s) ([], tkS st 3)
structure OrdG (T : List Pair) (st : U3) (i : Nat) (s : List Rule × U3) : Prop where
  ad : Adv st s.2 (1 + 8 * i)
  len : s.1.length ≤ i
theorem ordG0 (T : List Pair) (st : U3) : OrdG T st 0 ([], tkS st 3) := ⟨tk_adv _ _, Nat.le_refl _⟩
theorem others_le (T : List Pair) (st : U3) : (othersOf T st).length ≤ T.length := List.length_filter_le _ _
theorem orS_adv (T : List Pair) (st : U3) : Adv st (orS T st) 2 := (tk_adv _ _).trans (tk_adv _ _)
theorem ordG_step {T : List Pair} {st : U3} {i : Nat} {s : List Rule × U3} (hT : T.length ≤ 6) (h : OrdG T st i s) : OrdG T st (i + 1) (ordStep T s) := by
  unfold ordStep
  split
  · refine ⟨((h.ad.trans (orS_adv T s.2)).trans (mixedS_adv _ _)).le ?_, ?_⟩
    · have := others_le T s.2
      omega
    · show (s.1 ++ [_]).length ≤ _
      rw [List.length_append]
      exact Nat.add_le_add_right h.len 1
  · exact ⟨h.ad.le (by omega), Nat.le_succ_of_le h.len⟩
theorem ordG {T : List Pair} (st : U3) (hT : T.length ≤ 6) : OrdG T st (tk st 3) (orders T st) :=
  good_range (fun s _ => ordStep T s) (OrdG T st) _ (ordG0 T st) fun i s _ h => ordG_step hT h
section
variable {w : World} {K : PySem.W.Frag} {mg : Str → Option Value} {base : Heap} {C : Addr}
def gOrd (ds : List D) (st : U3) (d : D) (st' : U3) : Prop := ∃ T : List Pair, ds = [.lst (T.map enc), .int 2] ∧ T.length ≤ 6 ∧ Fre st 17 ∧ d = .tup ((orders T st).1.map enc) ∧ st' = (orders T st).2
def nOrd : List Str := ["_law_urn", "_law_twos_here", "_law_most", "_law_found", "_law_turn", "_law_gift", "_law_own"]
def pOrd : List Str := ["_law_urn", "_law_twos_here", "_law_most"]
theorem sc_ord : FnScope nOrd pOrd (defScope (top 65)) := ⟨rfl, rfl, rfl, by decide +kernel, rfl, by decide +kernel, by decide +kernel⟩
theorem ok_ord (b : MgB mg) (h : DefAt K mg "_law_orders" 65) (oT : OkS w K mg base C 1 "_law_take" pTk gTk) (oO : OkS w K mg base C 2 "_law_of" pOf gOf) (oP : OkS w K mg base C 3 "_law_pick" pPick gPick) : OkS w K mg base C 4 "_law_orders" pOrd gOrd := by
  obtain ⟨f, fd, F, m⟩ := h
  refine ⟨f, fd, fn_src F sc_ord (fun ds st d st' ⟨_, e, _⟩ => by rw [e] <;> rfl) (fun cdv A outer s H E hr ds st d st' hg Fr hU => ?_), m, F.kp, F.bindsN fun _ _ _ _ _ _ us hl => match us, hl with | [_, _, _], _ => rfl⟩
  obtain ⟨T, rfl, hT, fr, rfl, rfl⟩ := hg
  have hr1 := hr.mono (show 1 ≤ 3 by decide)
  have hr2 := hr.mono (show 2 ≤ 3 by decide)
  let ρf : List Rule × U3 → List Sl := fun s => [.sou s.2, .dat (.lst (T.map enc)), .dat (.int 2), .own (s.1.map enc), .no, .no, .no]
  have h3 := tk_lt st (show 0 < 3 by decide)
  refine b_step (s_set (i := 3) (k := .own []) sc_ord.nd (k_f (f_lst a_nil))) ?_
  refine b_step (ρ1 := ρf (orders T st)) (s_forU (vs := [4]) (List.range (tk st 3)) (fun i : Nat => D.int i) (fun s _ => ordStep T s) (OrdG T st) ρf _ ([], tkS st 3) PassesOwn.never rfl (ordG0 T st) (fun i s a ha q => ordG_step hT q)
    (iU_range (n := tk st 3) b.range (by omega) (u_draw (i := 0) oT rfl hr1 (aU1 (u_d (d_bin o_add (dv 2) d_int))) rfl rfl ⟨3, rfl, by decide, by decide, fr.le (by decide), rfl, rfl⟩ ⟨_, rfl⟩)) (fun i s a ha q => g_name (i := 4) sc_ord.nd) ?_) ?_
  · intro i s a ha q
    have hi : i < tk st 3 := by simpa using (List.getElem?_eq_some_iff.mp ha).1
    have elen : (T.map (enc (α := Pair))).length = T.length := List.length_map _
    by_cases hT2 : 2 < T.length
    · have es : ρf (ordStep T s) = [.sou (mixedS (orS T s.2) (othersOf T s.2).length), .dat (.lst (T.map enc)), .dat (.int 2), .own (s.1.map enc ++ [.tup [.tup ((wantsOf T s.2).map enc), enc (giftOf T s.2)]]), .no, .no, .no] := by
        show [Sl.sou (ordStep T s).2, _, _, Sl.own ((ordStep T s).1.map enc), _, _, _] = _
        unfold ordStep
        rw [if_pos hT2, List.map_append]
        rfl
      rw [es]
      have f1 : Fre s.2 8 := by
        have := q.ad
        have := fr
        unfold Fre Adv at *
        omega
      have ht := tk_lt s.2 (show 0 < T.length by omega)
      have eg : (T.map (enc (α := Pair)))[tk s.2 T.length]? = some (enc (giftOf T s.2)) := by
        rw [List.getElem?_map, List.getElem?_eq_getElem ht]
        unfold giftOf
        rw [List.getElem?_eq_getElem ht]
        rfl
      refine n_no (ρ1 := [.sou (mixedS (orS T s.2) (othersOf T s.2).length), .dat (.lst (T.map enc)), .dat (.int 2), .own (s.1.map enc ++ [.tup [.tup ((wantsOf T s.2).map enc), enc (giftOf T s.2)]]), .dat (.int a), .dat (enc (giftOf T s.2)), .no]) [4, 5] (n_one (s_ifT ?_ ?_))
      · refine pt_eq (decide_eq_true (show (2 : Int) < (T.map (enc (α := Pair))).length by rw [elen]; omega)) (t_cmp o_gtI ?_ d_int)
        exact (d_b c_lenL b.len rfl (a1 (dv 1)))
      refine n_step (ρ1 := [.sou (tkS s.2 T.length), .dat (.lst (T.map enc)), .dat (.int 2), .own (s.1.map enc), .dat (.int a), .dat (enc (giftOf T s.2)), .no]) (su_set (i := 5) sc_ord.nd (u_draw (i := 0) oO rfl hr2 (aU1 (u_d (dv 1))) rfl rfl ⟨T.map enc, rfl, by rw [elen]; omega, by rw [elen]; omega, f1.le (by decide), by rw [elen]; exact eg, by rw [elen]⟩ ⟨_, rfl⟩)) ?_
      have f2 : Fre (tkS s.2 T.length) 1 := (show Fre s.2 (1 + 1) from f1.le (by decide)).adv (tk_adv _ _)
      have f3 : Fre (orS T s.2) (othersOf T s.2).length := (show Fre s.2 (2 + 6) from f1).adv (orS_adv T s.2) |>.le (by have := others_le T s.2; omega)
      refine n_one (su_app (i := 3) (l := s.1.map enc) (ρ1 := [.sou (mixedS (orS T s.2) (othersOf T s.2).length), .dat (.lst (T.map enc)), .dat (.int 2), .own (s.1.map enc), .dat (.int a), .dat (enc (giftOf T s.2)), .no]) ⟨_, rfl⟩ rfl ?_ (u_tup (aU2 (u_t c_tupL b.tuple rfl (aU1 ?_)) (u_d (dv 5)))))
      · rw [List.length_map]
        exact Nat.lt_of_le_of_lt q.len (Nat.lt_of_lt_of_le (show i < 3 by omega) (by decide))
      · refine u_draw (i := 0) (st := orS T s.2) oP rfl hr (aU2 (u_d (d_of_f (f_lc (own := [("_law_own", 6)]) T enc enc (fun o => decide (o ≠ giftOf T s.2)) _ rfl sc_ord.nd (blkOk_by (by kernel_rfl)) (i_list (dv 1)) (fun s H B cl fp a ha => g_name (i := 6) sc_ord.nd) (fun s' H B cl fp a ha => ts_one (t_cmp (o_ne (a := a) (b := giftOf T s.2) (u_eq hr)) (dv 6) (dv 5))) (fun s H B cl fp a ha => dv 6))))
          (u_bin (o_add (i := 1) (j := (tk (tkS s.2 T.length) 2 : Nat))) (u_d d_int) (u_draw (i := 0) oT rfl hr1 (aU1 (u_d d_int)) rfl rfl ⟨2, rfl, by decide, by decide, f2, rfl, rfl⟩ ⟨_, rfl⟩))) rfl rfl ⟨(othersOf T s.2).map enc, 1 + tk (tkS s.2 T.length) 2, .inl ?_, ?_, ?_, ?_, ?_⟩ ⟨_, rfl⟩
        · rw [Int.natCast_add]
          rfl
        · rw [List.length_map]
          have := others_le T s.2
          omega
        · rw [List.length_map]
          exact f3
        · rw [pickL_map]
          rfl
        · rw [List.length_map]
    · have es : ρf (ordStep T s) = ρf s := by
        unfold ordStep
        rw [if_neg hT2]
      rw [es]
      exact n_no [4] (n_one (s_ifF (pt_eq (decide_eq_false (show ¬ (2 : Int) < (T.map (enc (α := Pair))).length by rw [elen]; omega)) (t_cmp o_gtI (d_b c_lenL b.len rfl (a1 (dv 1))) d_int)) n_nil))
  · exact b_fz 3 rfl (b_stop (su_ret hU (i := 0) rfl (u_d (d_t c_tupL b.tuple rfl (a1 (dv 3))))))
end
theorem ninb {α : Type} [DecidableEq α] {a : α} {l : List α} (i : Decidable (a ∉ l)) : @decide (a ∉ l) i = !memb a l := by
  unfold memb
  by_cases h : a ∈ l
  · rw [decide_eq_true h, decide_eq_false (not_not_intro h)]
    rfl
  · rw [decide_eq_false h, decide_eq_true h]
    rfl
/-! ### times -/
def wetOf (T : List Pair) (st : U3) : List Pair := pickL T (tkS st 3) (tk st 3)
def wetS (T : List Pair) (st : U3) : U3 := mixedS (tkS st 3) T.length
def dryOf (T : List Pair) (st : U3) : List Pair := if 0 < tk (wetS T (wetS T st)) 8 then (wetOf T (wetS T st)).filter fun o => !memb o (wetOf T st) else wetOf T (wetS T st)
def timS (T : List Pair) (st : U3) : U3 := tkS (wetS T (wetS T st)) 8
def timN : List Str := ["high", "low", "mid", "now", "x"]
def timStep (T : List Pair) (s : List Flood × U3) (k : Nat) : List Flood × U3 := (s.1 ++ [⟨(timN[k]?).getD "", ⟨wetOf T s.2⟩, ⟨dryOf T s.2⟩⟩], timS T s.2)
def times (T : List Pair) (st : U3) : List Flood × U3 := (List.range (tk st 4)).foldl (timStep T) ([], tkS st 4)
theorem wetS_adv {T : List Pair} (st : U3) (hT : T.length ≤ 6) : Adv st (wetS T st) 7 := ((tk_adv _ _).trans (mixedS_adv _ _)).le (by omega)
theorem timS_adv {T : List Pair} (st : U3) (hT : T.length ≤ 6) : Adv st (timS T st) 15 := (((wetS_adv st hT).trans (wetS_adv _ hT)).trans (tk_adv _ _)).le (by omega)
structure TimG (T : List Pair) (st : U3) (i : Nat) (s : List Flood × U3) : Prop where
  ad : Adv st s.2 (1 + 15 * i)
  len : s.1.length = i
theorem timG0 (T : List Pair) (st : U3) : TimG T st 0 ([], tkS st 4) := ⟨tk_adv _ _, rfl⟩
theorem timG_step {T : List Pair} {st : U3} {i : Nat} {s : List Flood × U3} (k : Nat) (hT : T.length ≤ 6) (h : TimG T st i s) : TimG T st (i + 1) (timStep T s k) := by
  refine ⟨(h.ad.trans (timS_adv s.2 hT)).le (by omega), ?_⟩
  show (s.1 ++ [_]).length = _
  rw [List.length_append, h.len]
  rfl
theorem timG {T : List Pair} (st : U3) (hT : T.length ≤ 6) : TimG T st (tk st 4) (times T st) :=
  good_range (timStep T) (TimG T st) _ (timG0 T st) fun i s _ h => timG_step i hT h
section
variable {w : World} {K : PySem.W.Frag} {mg : Str → Option Value} {base : Heap} {C : Addr}
def gTim (ds : List D) (st : U3) (d : D) (st' : U3) : Prop := ∃ T : List Pair, ds = [.lst (T.map enc), .int 3] ∧ T.length ≤ 6 ∧ Fre st 46 ∧ d = .tup ((times T st).1.map enc) ∧ st' = (times T st).2
def nTim : List Str := ["_law_urn", "_law_twos_here", "_law_most", "_law_names_so", "_law_found", "_law_k", "_law_wet_here", "_law_dry", "_law_own"]
theorem sc_tim : FnScope nTim pOrd (defScope (top 66)) := ⟨rfl, rfl, rfl, by decide +kernel, rfl, by decide +kernel, by decide +kernel⟩
theorem ok_tim (b : MgB mg) (h : DefAt K mg "_law_times" 66) (oT : OkS w K mg base C 1 "_law_take" pTk gTk) (oP : OkS w K mg base C 3 "_law_pick" pPick gPick) : OkS w K mg base C 4 "_law_times" pOrd gTim := by
  obtain ⟨f, fd, F, m⟩ := h
  refine ⟨f, fd, fn_src F sc_tim (fun ds st d st' ⟨_, e, _⟩ => by rw [e] <;> rfl) (fun cdv A outer s H E hr ds st d st' hg Fr hU => ?_), m, F.kp, F.bindsN fun _ _ _ _ _ _ us hl => match us, hl with | [_, _, _], _ => rfl⟩
  obtain ⟨T, rfl, hT, fr, rfl, rfl⟩ := hg
  have hr1 := hr.mono (show 1 ≤ 3 by decide)
  let ρf : List Flood × U3 → List Sl := fun s => [.sou s.2, .dat (.lst (T.map enc)), .dat (.int 3), .dat (.lst (timN.map enc)), .own (s.1.map enc), .no, .no, .no, .no]
  have h3 := tk_lt st (show 0 < 4 by decide)
  have elen : (T.map (enc (α := Pair))).length = T.length := List.length_map _
  refine b_step (s_par (k1 := .dat (.lst (timN.map enc))) (k2 := .own []) (i := 3) (j := 4) rfl sc_tim.nd (k_d (d_lst (a_cons d_str (a_cons d_str (a_cons d_str (a_cons d_str (a_cons d_str a_nil))))))) (k_f (f_lst a_nil))) ?_
  refine b_step (ρ1 := ρf (times T st)) (s_forU (vs := [5]) (List.range (tk st 4)) (fun i : Nat => D.int i) (timStep T) (TimG T st) ρf _ ([], tkS st 4) PassesOwn.never rfl (timG0 T st) (fun i s a ha q => timG_step a hT q)
    (iU_range (n := tk st 4) b.range (by omega) (u_draw (i := 0) oT rfl hr1 (aU1 (u_d (d_bin o_add (dv 2) d_int))) rfl rfl ⟨4, rfl, by decide, by decide, fr.le (by decide), rfl, rfl⟩ ⟨_, rfl⟩)) (fun i s a ha q => g_name (i := 5) sc_tim.nd) ?_) ?_
  · intro i s a ha q
    have hia := List.getElem?_eq_some_iff.mp ha
    have hi : i < tk st 4 := by simpa using hia.1
    have hai : a = i := by simpa using hia.2.symm
    subst hai
    have f1 : Fre s.2 15 := by
      have := q.ad
      have := fr
      unfold Fre Adv at *
      omega
    have ena : ∃ nm, timN[a]? = some nm := ⟨_, List.getElem?_eq_getElem (show a < timN.length from Nat.lt_of_lt_of_le hi (Nat.le_trans (Nat.le_of_lt h3) (by decide)))⟩
    obtain ⟨nm, ena⟩ := ena
    have es : ρf (timStep T s a) = [.sou (timS T s.2), .dat (.lst (T.map enc)), .dat (.int 3), .dat (.lst (timN.map enc)), .own (s.1.map enc ++ [.tup [.str nm, .tup ((wetOf T s.2).map enc), .tup ((dryOf T s.2).map enc)]]), .no, .no, .no, .no] := by
      show [_, _, _, _, Sl.own ((s.1 ++ [_]).map enc), _, _, _, _] = _
      rw [List.map_append, ena]
      rfl
    rw [es]
    let ρd : U3 → List Pair → List Sl := fun st dr => [.sou st, .dat (.lst (T.map enc)), .dat (.int 3), .dat (.lst (timN.map enc)), .own (s.1.map enc), .dat (.int a), .dat (.lst ((wetOf T s.2).map enc)), .dat (.lst (dr.map enc)), .no]
    have ga : Adv s.2 (wetS T s.2) 7 := wetS_adv s.2 hT
    have gb : Adv (wetS T s.2) (wetS T (wetS T s.2)) 7 := wetS_adv _ hT
    have fa1 : Fre s.2 1 := f1.le (by decide)
    have fa2 : Fre (tkS s.2 3) T.length := ((show Fre s.2 (1 + 6) from f1.le (by decide)).adv (tk_adv _ _)).le hT
    have fb : Fre (wetS T s.2) 8 := (show Fre s.2 (7 + 8) from f1).adv ga
    have fb1 : Fre (wetS T s.2) 1 := fb.le (by decide)
    have fb2 : Fre (tkS (wetS T s.2) 3) T.length := ((show Fre (wetS T s.2) (1 + 6) from fb.le (by decide)).adv (tk_adv _ _)).le hT
    have fc : Fre (wetS T (wetS T s.2)) 1 := (show Fre (wetS T s.2) (7 + 1) from fb).adv gb
    refine n_no (ρ1 := [.sou (timS T s.2), .dat (.lst (T.map enc)), .dat (.int 3), .dat (.lst (timN.map enc)), .own (s.1.map enc ++ [.tup [.str nm, .tup ((wetOf T s.2).map enc), .tup ((dryOf T s.2).map enc)]]), .dat (.int a), .dat (.lst ((wetOf T s.2).map enc)), .dat (.lst ((dryOf T s.2).map enc)), .no]) [5, 6, 7] (n_step (ρ1 := ρd (wetS T (wetS T s.2)) (wetOf T (wetS T s.2))) ?_ ?_)
    · refine su_tup (vs := [6, 7]) (d := .tup [.lst ((wetOf T s.2).map enc), .lst ((wetOf T (wetS T s.2)).map enc)]) (ρ1 := [.sou (wetS T (wetS T s.2)), .dat (.lst (T.map enc)), .dat (.int 3), .dat (.lst (timN.map enc)), .own (s.1.map enc), .dat (.int a), .no, .no, .no]) (u_tup (aU2 (ρ1 := [.sou (wetS T s.2), .dat (.lst (T.map enc)), .dat (.int 3), .dat (.lst (timN.map enc)), .own (s.1.map enc), .dat (.int a), .no, .no, .no]) ?_ ?_)) (g_tup rfl (gs_cons (g_name (i := 6) sc_tim.nd) (gs_cons (g_name (i := 7) sc_tim.nd) gs_nil)))
      · exact u_draw (i := 0) (st := tkS s.2 3) oP rfl hr (aU2 (u_d (dv 1)) (u_draw (i := 0) oT rfl hr1 (aU1 (u_d d_int)) rfl rfl ⟨3, rfl, by decide, by decide, fa1, rfl, rfl⟩ ⟨_, rfl⟩)) rfl rfl ⟨T.map enc, tk s.2 3, .inl rfl, by rw [elen]; omega, by rw [elen]; exact fa2, by rw [pickL_map]; rfl, by rw [elen]; rfl⟩ ⟨_, rfl⟩
      · exact u_draw (i := 0) (st := tkS (wetS T s.2) 3) oP rfl hr (aU2 (u_d (dv 1)) (u_draw (i := 0) oT rfl hr1 (aU1 (u_d d_int)) rfl rfl ⟨3, rfl, by decide, by decide, fb1, rfl, rfl⟩ ⟨_, rfl⟩)) rfl rfl ⟨T.map enc, tk (wetS T s.2) 3, .inl rfl, by rw [elen]; omega, by rw [elen]; exact fb2, by rw [pickL_map]; rfl, by rw [elen]; rfl⟩ ⟨_, rfl⟩
    refine n_step (ρ1 := ρd (timS T s.2) (dryOf T s.2)) ?_ (n_one (s_app (i := 4) (l := s.1.map enc) rfl ?_ (d_tup (a3 (d_ixL (dv 3) (dv 5) (atI_nat (by rw [List.getElem?_map, ena]; rfl))) (d_t c_tupL b.tuple rfl (a1 (dv 6))) (d_t c_tupL b.tuple rfl (a1 (dv 7)))))))
    · by_cases h8 : 0 < tk (wetS T (wetS T s.2)) 8
      · have ed : dryOf T s.2 = (wetOf T (wetS T s.2)).filter fun o => !memb o (wetOf T s.2) := if_pos h8
        rw [ed]
        exact su_ifT (ρ1 := ρd (timS T s.2) (wetOf T (wetS T s.2))) (tU_eq (decide_eq_true (show (0 : Int) < (tk (wetS T (wetS T s.2)) 8 : Nat) by omega)) (tU_cmp o_gtI (u_draw (i := 0) oT rfl hr1 (aU1 (u_d d_int)) rfl rfl ⟨8, rfl, by decide, by decide, fc, rfl, rfl⟩ ⟨_, rfl⟩) (u_d d_int)))
          (n_fz (l := ((wetOf T (wetS T s.2)).filter fun o => !memb o (wetOf T s.2)).map enc) 7 (n_one (s_lc (i := 7) (own := [("_law_own", 8)]) (wetOf T (wetS T s.2)) enc enc (fun o => !memb o (wetOf T s.2)) _ rfl sc_tim.nd (blkOk_by (by kernel_rfl)) (i_list (dv 7)) (fun s H B cl fp a ha => g_name (i := 8) sc_tim.nd) (fun s' H B cl fp p hp => ts_one (pt_eq (ninb _) (t_cmp (o_ninL (α := Pair) (a := p) (l := wetOf T s.2) (u_in hr)) (dv 8) (dv 6)))) (fun s H B cl fp a ha => dv 8))) rfl)
      · have ed : dryOf T s.2 = wetOf T (wetS T s.2) := if_neg h8
        rw [ed]
        exact su_ifF (ρ1 := ρd (timS T s.2) (wetOf T (wetS T s.2))) (tU_eq (decide_eq_false (show ¬ (0 : Int) < (tk (wetS T (wetS T s.2)) 8 : Nat) by omega)) (tU_cmp o_gtI (u_draw (i := 0) oT rfl hr1 (aU1 (u_d d_int)) rfl rfl ⟨8, rfl, by decide, by decide, fc, rfl, rfl⟩ ⟨_, rfl⟩) (u_d d_int))) n_nil
    · rw [List.length_map, q.len]
      exact Nat.lt_of_lt_of_le hi (Nat.le_trans (Nat.le_of_lt h3) (by decide))
  · exact b_fz 4 rfl (b_stop (su_ret hU (i := 0) rfl (u_d (d_t c_tupL b.tuple rfl (a1 (dv 4))))))
end
end Fz
/-! Draws: _law_draw, _law_box. -/
namespace Fz
open PySem L2 PyProof PyProof.Rows
open PySem.W (Datum DatumOrd Tup T3)
open Enc (enc)
theorem nd_len {α : Type} [DecidableEq α] : ∀ {l m : List α}, l.Nodup → (∀ x ∈ l, x ∈ m) → l.length ≤ m.length
  | [], m, _, _ => Nat.zero_le _
  | a :: l, m, nd, h => by
    have n2 := List.nodup_cons.mp nd
    have ha := h a (List.mem_cons_self ..)
    have ih := nd_len (l := l) (m := m.erase a) n2.2 fun x hx => (List.mem_erase_of_ne (show x ≠ a from fun e => n2.1 (by rw [← e]; exact hx))).mpr (h x (List.mem_cons_of_mem _ hx))
    have hl := List.length_erase_of_mem ha
    have hp := List.length_pos_of_mem ha
    show l.length + 1 ≤ _
    omega
theorem pickL_len {α : Type} (l : List α) (st : U3) (size : Nat) : (pickL l st size).length ≤ size := by
  have e : (pickL l st size).length = ((l.zipIdx.filter fun q => decide ((q.2 : Int) ∈ cutN st l.length size)).map fun q => (q.2 : Int)).length := by
    unfold pickL
    rw [List.length_map, List.length_map]
  rw [e]
  refine Nat.le_trans (nd_len (m := cutN st l.length size) ?_ fun x hx => ?_) ?_
  · have s1 : ((l.zipIdx.filter fun q => decide ((q.2 : Int) ∈ cutN st l.length size)).map fun q => (q.2 : Int)).Sublist (l.zipIdx.map fun q => (q.2 : Int)) := (List.filter_sublist).map _
    refine s1.nodup ?_
    have e2 : (l.zipIdx.map fun q => (q.2 : Int)) = (List.range' 0 l.length).map fun i : Nat => (i : Int) := by
      rw [← List.zipIdx_map_snd 0 l, List.map_map]
      rfl
    rw [e2]
    exact List.Pairwise.map _ (fun a b (h : a ≠ b) z => h (Int.ofNat.inj z)) (List.nodup_range' ..)
  · obtain ⟨q, hq, rfl⟩ := List.mem_map.mp hx
    exact of_decide_eq_true (List.mem_filter.mp hq).2
  · unfold cutN
    rw [List.length_take]
    exact Nat.min_le_left _ _
theorem isl_len (st : U3) : (isl st).length ≤ 4 := by
  have h := pickL_len poolI (tkS st 4) (1 + tk st 4)
  have e : (isl st).length = (islP st).length := (srtL_perm _).length_eq
  have ht := tk_lt st (show 0 < 4 by decide)
  rw [e]
  exact Nat.le_trans h (by omega)
theorem twos_len : ∀ {I : List Str}, I.length ≤ 4 → (twos I).length ≤ 6
  | [], _ => Nat.zero_le _
  | [a], _ => Nat.zero_le _
  | [a, b], _ => (show 1 ≤ 6 by decide)
  | [a, b, c], _ => (show 3 ≤ 6 by decide)
  | [a, b, c, d], _ => Nat.le_refl 6
  | a :: b :: c :: d :: e :: l, h => by
    have h : l.length + 5 ≤ 4 := h
    omega
def drT (st : U3) : List Pair := twos (isl st)
def drR (st : U3) : List Rule := (orders (drT st) (islS st)).1
def drF (st : U3) : List Flood := (times (drT st) (orders (drT st) (islS st)).2).1
def drS (st : U3) : U3 := (times (drT st) (orders (drT st) (islS st)).2).2
theorem drT_len (st : U3) : (drT st).length ≤ 6 := twos_len (isl_len st)
theorem islS_adv (st : U3) : Adv st (islS st) 10 := ((tk_adv st 4).trans (mixedS_adv _ 9))
theorem ord_adv (st : U3) {T : List Pair} (hT : T.length ≤ 6) : Adv st (orders T st).2 17 := (ordG st hT).ad.le (by have := tk_lt st (show 0 < 3 by decide); omega)
theorem tim_adv (st : U3) {T : List Pair} (hT : T.length ≤ 6) : Adv st (times T st).2 46 := (timG st hT).ad.le (by have := tk_lt st (show 0 < 4 by decide); omega)
theorem drS_adv (st : U3) : Adv st (drS st) 73 := ((islS_adv st).trans (ord_adv _ (drT_len st))).trans (tim_adv _ (drT_len st))
theorem drF_len (st : U3) : (drF st).length ≤ 3 := by
  have h := (timG (orders (drT st) (islS st)).2 (drT_len st)).len
  have ht := tk_lt (orders (drT st) (islS st)).2 (show 0 < 4 by decide)
  unfold drF
  omega
theorem drR_len (st : U3) : (drR st).length ≤ 2 := by
  have h := (ordG (islS st) (drT_len st)).len
  have ht := tk_lt (islS st) (show 0 < 3 by decide)
  unfold drR
  omega
section
variable {w : World} {K : PySem.W.Frag} {mg : Str → Option Value} {base : Heap} {C : Addr}
def drawD (st : U3) : D := .tup [.tupk ((isl st).map enc), .tup ((drR st).map enc), .tup ((drF st).map enc)]
def gDraw (ds : List D) (st : U3) (d : D) (st' : U3) : Prop := ds = [.int 4, .int 3] ∧ Fre st 73 ∧ d = drawD st ∧ st' = drS st
def nDraw : List Str := ["_law_urn", "_law_high_so", "_law_most", "_law_isles_here", "_law_twos_here"]
def pDraw : List Str := ["_law_urn", "_law_high_so", "_law_most"]
theorem sc_draw : FnScope nDraw pDraw (defScope (top 76)) := ⟨rfl, rfl, rfl, by decide +kernel, rfl, by decide +kernel, by decide +kernel⟩
theorem ok_draw (b : MgB mg) (h : DefAt K mg "_law_draw" 76) (oI : OkS w K mg base C 4 "_law_isles" pIsles gIsles) (oW : Ok w K mg base C 1 "_law_twos" ["_law_isles_here"] gTwos) (oO : OkS w K mg base C 4 "_law_orders" pOrd gOrd) (oT : OkS w K mg base C 4 "_law_times" pOrd gTim) : OkS w K mg base C 5 "_law_draw" pDraw gDraw := by
  obtain ⟨f, fd, F, m⟩ := h
  refine ⟨f, fd, fn_src F sc_draw (fun ds st d st' ⟨e, _⟩ => by rw [e] <;> rfl) (fun cdv A outer s H E hr ds st d st' hg Fr hU => ?_), m, F.kp, F.bindsN fun _ _ _ _ _ _ us hl => match us, hl with | [_, _, _], _ => rfl⟩
  obtain ⟨rfl, fr, rfl, rfl⟩ := hg
  have hr1 := hr.mono (show 1 ≤ 4 by decide)
  have hT := drT_len st
  have f1 : Fre st 10 := fr.le (by decide)
  have f2 : Fre (islS st) 17 := (show Fre st (10 + 17) from fr.le (by decide)).adv (islS_adv st)
  have f3 : Fre (orders (drT st) (islS st)).2 46 := (show Fre st (27 + 46) from fr).adv ((islS_adv st).trans (ord_adv _ hT))
  refine b_step (su_set (i := 3) (d := .tupk ((isl st).map enc)) sc_draw.nd (u_draw (i := 0) oI rfl hr (aU2 (u_d d_int) (u_d (dv 1))) rfl rfl ⟨rfl, f1, rfl, rfl⟩ ⟨_, rfl⟩)) ?_
  refine b_step (s_set (i := 4) (k := .dat (.lst ((drT st).map enc))) sc_draw.nd (k_d (d_fn oW rfl hr1 (a1 (d_kt (dv 3))) ⟨isl st, rfl, Nat.le_trans (isl_len st) (by decide), rfl⟩))) ?_
  let ρx : U3 → List Sl := fun s => [.sou s, .dat (.int 4), .dat (.int 3), .dat (.tupk ((isl st).map enc)), .dat (.lst ((drT st).map enc))]
  refine b_stop (su_ret hU (i := 0) (ρ1 := ρx (drS st)) rfl (u_tup (aU_cons (ρ1 := ρx (islS st)) (u_d (dv 3)) (aU2 (ρ1 := ρx (orders (drT st) (islS st)).2) ?_ ?_))))
  · exact u_draw (i := 0) oO rfl hr (aU2 (u_d (dv 4)) (u_d d_int)) rfl rfl ⟨drT st, rfl, hT, f2, rfl, rfl⟩ ⟨_, rfl⟩
  · exact u_draw (i := 0) oT rfl hr (aU2 (u_d (dv 4)) (u_d (dv 2))) rfl rfl ⟨drT st, rfl, hT, f3, rfl, rfl⟩ ⟨_, rfl⟩
end
end Fz
/-! _law_box, _law_cells; a source made anew and lent. -/
namespace Fz
open PySem L2 PyProof PyProof.Rows
open PySem.W (Datum DatumOrd Tup T3)
open Enc (enc)
section
variable (K : PySem.W.Frag) (C : Addr)
/-- a fresh source -/
def tB (ρ : List Sl) (st : U3) : TE := fun σ H Q => ∃ F P, Rep K C F P H σ ρ ∧ ∀ p H2, H p = none → Same H H2 → H2 p = some (.lst st.vs) → Q (.ref p) H2
def GB (F : Frm) (st : U3) : VK := fun v H' => (∀ a o, F.H0 a = some o → ¬ F.U a → H' a = some o) ∧ ∃ p, v = .ref p ∧ F.H0 p = none ∧ H' p = some (.lst st.vs)
def spB (g : List D → U3 → Prop) : Sp := fun vs H Q _ => ∃ P ds st, Trk P H ∧ RpL K C (mask P H) ds vs ∧ g ds st ∧ ∀ p H2, H p = none → Same H H2 → H2 p = some (.lst st.vs) → Q (.ref p) H2
end
section
variable {P : Program} {w : World} {K : PySem.W.Frag} {mg : Str → Option Value} {base : Heap} {x qual : Str} {params : Arguments} {body : List Stmt} {scope : Scope} {dvs : List V} {kws : List (Str × V)} {f : Addr} {fd : FuncData} {C : Addr}
theorem fn_box {N ps : List Str} {k : Nat} {g : List D → U3 → Prop} (Fd : FunD K x qual params body scope dvs kws f fd) (S : FnScope N ps scope) (len : ∀ ds d, g ds d → ds.length = ps.length)
    (hb : ∀ (cdv : Value) (A : Around) (outer : List Env) (s : Shared) (H : Hp) (E : XK), Room k (A.deeper (envOfC qual scope s.heap.objs.size f cdv)) → ∀ ds d, g ds d → ∀ Fr, PSs (cxOf CX0 P w K mg base N qual scope f cdv A outer s H E).nox body (tRG K C Fr (ds.map Sl.dat ++ List.replicate (N.length - ps.length) Sl.no) (GB Fr d))) :
    FnOk P w K mg base CX0 (k + 1) f fd ps (spB K C g) := by
  refine Fd.ok S (fun vs H Q E ⟨Pm, ds, d, t, h, hg, q⟩ => by rw [h.length]; exact len ds d hg) fun cdv A outer s H vs Q E hr ⟨Pm, ds, d, t, h, hg, q⟩ => ⟨_, PSs.nox (hb cdv A outer s H E hr ds d hg ⟨Pm, H, fun _ => False⟩), Pm, ?_, fun v H' ⟨hx, p, hv, h0, h1⟩ => by
    subst hv
    exact q p H' h0 (fun a o e => hx a o e fun z => z) h1⟩
  have hl := len ds d hg
  rw [← hl]
  exact rep_start t h (by rw [h.length, hl]; exact ps_le S)
def OkB (w : World) (K : PySem.W.Frag) (mg : Str → Option Value) (base : Heap) (C : Addr) (k : Nat) (x : Str) (ps : List Str) (g : List D → U3 → Prop) : Prop :=
  ∃ f fd, FnOk pr w K mg base CX0 k f fd ps (spB K C g) ∧ mg x = some (.ref f) ∧ PySem.W.keepIn K (.ref f) = true ∧ Binds K fd ps []
end
section
variable {X : Cx} {C : Addr} {F : Frm} {ρ ρ1 ρ2 : List Sl} {pos p : Pos} {e e2 b : Expr} {rest : List Expr} {es : List Expr} {d : D} {ds l m : List D} {st st' : U3}
theorem o_ltI {i j : Int} : OpR X (compareOp .Lt) (rD X.K C (.int i) (.int j) (.bl (decide (i < j)))) := op_w op_lt fun _ _ H Q ⟨_, _, h1, h2, k⟩ => ⟨i, j, h1, h2, k _ H (Same.refl H) rfl⟩
theorem o_geI {i j : Int} : OpR X (compareOp .GtE) (rD X.K C (.int i) (.int j) (.bl (decide (j ≤ i)))) := op_w op_ge fun _ _ H Q ⟨_, _, h1, h2, k⟩ => ⟨i, j, h1, h2, k _ H (Same.refl H) rfl⟩
theorem s_retB {i j k : Int} (h : PE X e (tF X.K C ρ [.int i, .int j, .int k])) : PS X (.Return (some e) pos) (tRG X.K C F ρ (GB F ⟨i, j, k⟩)) :=
  ps_w (ps_ret h) fun D σ H ⟨P, r, kk⟩ => ⟨F, P, r, fun p xs H2 hp e2 h2 hl => by
    have hf : F.H0 p = none := by
      cases z : F.H0 p with
      | none => rfl
      | some o =>
        by_cases u : F.U p
        · obtain ⟨o2, z2⟩ := r.trk p (r.le p (r.wfU p u))
          rw [hp] at z2
          cases z2
        · have z2 := r.ex p o z u
          rw [hp] at z2
          cases z2
    have hh : H2 p = some (.lst (U3.vs ⟨i, j, k⟩)) := by
      obtain ⟨v1, r1, rfl, h1, v2, r2, rfl, h3, v3, r3, rfl, h4, h5⟩ := hl
      have h1 : v1 = V.int i := h1
      have h3 : v2 = V.int j := h3
      have h4 : v3 = V.int k := h4
      have h5 : r3 = [] := h5
      subst h1 h3 h4 h5
      exact h2
    exact kk (.ref p) H2 ⟨fun a o q n => e2 a o (r.ex a o q n), p, rfl, hf, hh⟩⟩
/-- a call that makes a source -/
theorem b_fn {x : Str} {ps : List Str} {g : List D → U3 → Prop} {j : Nat} (o : OkB X.w X.K X.mg X.base C j x ps g) (hp : X.prog = pr) (hr : Room j X.A) (ha : PA X (e :: es) (tA X.K C ρ ds)) (h : g ds st) (hg : Gl X x := by rfl) (hdb : (x == ("__debug__" : Str)) = false := by decide)
    (he : starEach (e :: es) X.env = (false, eval e X.env) :: starEach es X.env := by rfl) (hpl : (backTo pos (starEach es X.env)).any (·.1) = false := by rfl) : PE X (.Call (.Name x p) (e :: es) [] pos) (tB X.K C ρ st) := by
  obtain ⟨f, fd, G, m, q, b⟩ := o
  rw [← hp] at G
  exact pe_w (pe_call (E := E0) (dvs := []) G hr hg m q b .nil pass0 ha hdb he hpl) fun σ H Q ⟨F, P, r, k⟩ => ⟨F, P, r, fun vs H2 e2 hv => by
    show spB X.K C g (vs ++ []) H2 Q E0
    rw [List.append_nil]
    exact ⟨P, ds, st, r.trk.same e2, hv, h, fun p H3 hp3 e3 h3 => k p H3 (e2.free hp3) (e2.trans e3) h3⟩⟩
/-- f(fresh source) -/
theorem d_run {x : Str} {ps : List Str} {g : List D → U3 → D → U3 → Prop} {j : Nat} (o : OkS X.w X.K X.mg X.base C j x ps g) (hp : X.prog = pr) (hr : Room j X.A) (ha : PE X e (tB X.K C ρ st)) (h : g [] st d st') (hg : Gl X x := by rfl) (hdb : (x == ("__debug__" : Str)) = false := by decide)
    (he : starEach [e] X.env = (false, eval e X.env) :: starEach [] X.env := by rfl) (hpl : (backTo pos (starEach [] X.env)).any (·.1) = false := by rfl) : PE X (.Call (.Name x p) [e] [] pos) (tD X.K C ρ d) := by
  obtain ⟨f, fd, G, m, q, b⟩ := o
  rw [← hp] at G
  exact pe_w (pe_call (E := E0) (dvs := []) G hr hg m q b .nil pass0 (pa_cons ha pa_nil he) hdb he hpl) fun σ H Q ⟨F, P, r, k⟩ => ⟨F, P, r, fun p H2 hp2 e2 h2 => by
    show spS X.K C g ([.ref p] ++ []) H2 Q E0
    rw [List.append_nil]
    refine ⟨fun a => P a ∨ a = p, p, [], [], st, d, st', fun a ha => ?_, .inr rfl, rfl, rfl, h2, h, fun v H' k1 k2 k3 => k v H' (fun a o z => k1 a o (fun y => ?_) (e2 a o z)) (Rp.mono (mask_less fun a z => .inl z) d v k3)⟩
    · rcases ha with ha | ha
      · obtain ⟨o, z⟩ := r.trk a ha
        exact ⟨o, e2 a o z⟩
      · subst ha
        exact ⟨_, h2⟩
    · subst y
      rw [hp2] at z
      cases z⟩
/-! ### one's own list -/
theorem RpL.setAt {K : PySem.W.Frag} {H : Hp} {d : D} {v : V} (hv : Rp K C H d v) : ∀ {l : List D} {xs : List V} (j : Nat), RpL K C H l xs → RpL K C H (l.set j d) (xs.set j v)
  | [], xs, j, h => by
    have h : xs = [] := h
    subst h
    exact rfl
  | a :: l, xs, 0, ⟨x, r, e, h1, h2⟩ => by
    subst e
    exact ⟨v, r, rfl, hv, h2⟩
  | a :: l, xs, j + 1, ⟨x, r, e, h1, h2⟩ => by
    subst e
    exact ⟨x, r.set j v, rfl, h1, RpL.setAt hv j h2⟩
theorem ixN_at {n j : Nat} (h : j < n) : ixN n (j : Int) = some j := by
  unfold ixN
  rw [if_pos (by omega), if_pos (by omega)]
  simp
theorem d_oix {i : Nat} {x : Str} {j : Nat} {px : Pos} (hl : ρ[i]? = some (.own l)) (he : PE X e (tD X.K C ρ (.int (j : Nat)))) (hj : l[j]? = some d) (hs : PlainIx e := by exact fun _ _ => rfl) (hN : X.N[i]? = some x := by rfl) (hv : Vis X.env.scope x := by first | exact Or.inl rfl | exact Or.inr (Or.inl rfl) | exact Or.inr (Or.inr rfl))
    (hd : (x == ("__debug__" : Str)) = false := by decide) (hcd : (x == ("__classdict__" : Str)) = false := by decide) : PE X (.Subscript (.Name x px) e pos) (tD X.K C ρ d) :=
  pe_w (pe_ix ix_list (pe_var hN hv hd hcd) he hs) fun σ H Q ⟨F, P, r, k⟩ => by
    obtain ⟨q, h1, h2, h3, xs, h4, h5⟩ := r.own i (phL l) hl
    refine ⟨.ref q, h1, F, P, r, fun v H2 e2 hv => ?_⟩
    have hv : v = V.int (j : Nat) := hv
    have g5 := RpL.mono (mask_same e2) _ _ h5
    obtain ⟨y, q3, q4⟩ := g5.get hj
    exact ⟨q, xs, (j : Nat), y, rfl, hv, SqL.of (e2 _ _ h4), atI_nat q3, k y H2 e2 q4⟩
theorem s_oset {i : Nat} {x : Str} {j : Nat} {px ps2 : Pos} (hl : ρ[i]? = some (.own l)) (he : PE X e (tD X.K C ρ d)) (hi : PE X e2 (tD X.K C ρ (.int (j : Nat)))) (hj : j < l.length) (hN : X.N[i]? = some x := by rfl) (hv : Vis X.env.scope x := by first | exact Or.inl rfl | exact Or.inr (Or.inl rfl) | exact Or.inr (Or.inr rfl))
    (hd : (x == ("__debug__" : Str)) = false := by decide) (hcd : (x == ("__classdict__" : Str)) = false := by decide)
    (ha : ∀ v, assign (.Subscript (.Name x px) e2 ps2) X.env v = (do
      let ov ← holding [v] (eval (.Name x px) X.env)
      let iv ← holding [v, ov] (eval e2 X.env)
      standAt ps2
      holding [v, ov, iv] (setItem ov iv v)
      release [v, ov, iv] []) := by intro _; rfl)
    (hs : swapsWithSole [.Subscript (.Name x px) e2 ps2] e pos.line X.env = pure false := by rfl) (hw : swappedStores [.Subscript (.Name x px) e2 ps2] e X.env = pure none := by rfl)
    (h1 : (assignEach [.Subscript (.Name x px) e2 ps2] X.env).map (·.2) = [assign (.Subscript (.Name x px) e2 ps2) X.env] := by rfl) :
    PS X (.Assign [.Subscript (.Name x px) e2 ps2] e pos) (tN X.K C F ρ (ρ.set i (.own (l.set j d)))) :=
  ps_w (ps_asg he (pg_sub (pe_var hN hv hd hcd) hi set_list ha) hs hw h1) fun D σ H ⟨P, r, k⟩ => ⟨F, P, r, fun v H2 e2 hv => by
    have r2 := r.same e2
    obtain ⟨q, h1, h2, h3, xs, h4, h5⟩ := r2.own i (phL l) hl
    refine ⟨.ref q, h1, F, P, r2, fun iv H3 e3 hiv => ?_⟩
    have hiv : iv = V.int (j : Nat) := hiv
    have r3 := r2.same e3
    obtain ⟨q2, g1, g2, g3, ys, g4, g5⟩ := r3.own i (phL l) hl
    rw [h1] at g1
    have e := V.ref.inj (Option.some.inj (Option.some.inj g1))
    subst e
    obtain ⟨r4, s4⟩ := r3.reown (i := i) (l' := l.set j d) hl h1 (RpL.setAt (Rp.mono (mask_same e3) _ _ hv) j g5)
    exact ⟨q, ys, (j : Nat), j, rfl, hiv, g4, ixN_at (by rw [g5.length]; exact hj), k P σ _ r4 ((mask_same (e2.trans e3)).trans s4)⟩⟩
theorem f_orT (ha : PE X e (tF X.K C ρ l)) (hne : l ≠ []) : PE X (.BoolOp .Or (e :: b :: rest) pos) (tF X.K C ρ l) :=
  pe_w (pe_orT ha pe_off) fun σ H Q ⟨F, P, r, k⟩ => ⟨F, P, r, fun p xs H2 hp e2 h2 hl => ⟨true, .inl ⟨xs, SqL.of h2, by
    have q := hl.length
    cases xs with
    | nil => exact absurd (List.length_eq_zero_iff.mp q.symm) hne
    | cons a xs => rfl⟩, iteT (k p xs H2 hp e2 h2 hl)⟩⟩
theorem f_orF (ha : PE X e (tF X.K C ρ [])) (hb : PE X (.BoolOp .Or (b :: rest) pos) (tF X.K C ρ m)) : PE X (.BoolOp .Or (e :: b :: rest) pos) (tF X.K C ρ m) :=
  pe_w (pe_orT ha hb) fun σ H Q ⟨F, P, r, k⟩ => ⟨F, P, r, fun p xs H2 hp e2 h2 hl => ⟨false, .inl ⟨xs, SqL.of h2, by
    have q : xs = [] := hl
    rw [q]
    rfl⟩, iteF ⟨F, P, r.same e2, fun p2 ys H3 hp3 e3 h3 hl3 => k p2 ys H3 (e2.free hp3) (e2.trans e3) h3 hl3⟩⟩⟩
end
end Fz
/-! _law_box, _law_cells. -/
namespace Fz
open PySem L2 PyProof PyProof.Rows
open PySem.W (Datum DatumOrd Tup T3)
open Enc (enc)
def absI (c : Int) : Int := if c < 0 then -c else c
def boxU (cs : List Int) (k : Nat) : U3 := ⟨absI ((cs[k]?).getD 0) * (if decide ((10 : Int) ^ (18 : Int).toNat ≤ absI ((cs[k]?).getD 0)) = true then 1 else 0), ((cs[k]?).getD 0) % 2305843009213693951 + 39373 * k + 142332, 0⟩
def cutL (l : List Int) (n m : Nat) : List Int := (l.drop n).take (m - n)
def cellStep (acc : List Int) (q : Int × Nat) : List Int := acc.set (q.2 % 3) ((acc[q.2 % 3]?).getD 0 + q.1 * (q.2 + 2))
def cells0 (s : List Int) : List Int := if s.take 3 = [] then [0] else s.take 3
def cellsOf (s : List Int) : List Int := (cutL s 3 63).zipIdx.foldl cellStep (cells0 s)
section
variable {w : World} {K : PySem.W.Frag} {mg : Str → Option Value} {base : Heap} {C : Addr}
def gBox (ds : List D) (st : U3) : Prop := ∃ (cs : List Int) (k : Nat), ds = [.lst (cs.map D.int), .int k] ∧ k < cs.length ∧ st = boxU cs k
def nBox : List Str := ["_law_script", "_law_k", "_law_cell"]
def pBox : List Str := ["_law_script", "_law_k"]
theorem sc_box : FnScope nBox pBox (defScope (top 55)) := ⟨rfl, rfl, rfl, by decide +kernel, rfl, by decide +kernel, by decide +kernel⟩
theorem ok_box (b : MgB mg) (h : DefAt K mg "_law_box" 55) : OkB w K mg base C 1 "_law_box" pBox gBox := by
  obtain ⟨f, fd, F, m⟩ := h
  refine ⟨f, fd, fn_box F sc_box (fun ds st ⟨_, _, e, _⟩ => by rw [e] <;> rfl) (fun cdv A outer s H E hr ds st hg Fr => ?_), m, F.kp, F.bindsN fun _ _ _ _ _ _ us hl => match us, hl with | [_, _], _ => rfl⟩
  obtain ⟨cs, k, rfl, hk, rfl⟩ := hg
  unfold boxU
  have ec : cs[k]? = some (cs[k]'hk) := List.getElem?_eq_getElem hk
  rw [ec]
  generalize cs[k]'hk = c at ec
  show PSs _ _ (tRG K C Fr _ (GB Fr ⟨absI c * (if decide ((10 : Int) ^ (18 : Int).toNat ≤ absI c) = true then 1 else 0), c % 2305843009213693951 + 39373 * k + 142332, 0⟩))
  refine b_step (s_set (i := 2) (k := .dat (.int c)) sc_box.nd (k_d (t_if (z := true) (pt_eq (decide_eq_true (show (k : Int) < ((cs.map D.int).length : Nat) by rw [List.length_map]; omega)) (t_cmp o_ltI (dv 1) (d_b c_lenL b.len rfl (a1 (dv 0))))) (fun _ => d_ixL (dv 0) (dv 1) (atI_nat (by rw [List.getElem?_map, ec]; rfl))) (fun z => (nomatch z))))) ?_
  refine b_stop (s_retB (f_lst (a3 (d_bin (o_mul (i := absI c) (j := if decide ((10 : Int) ^ (18 : Int).toNat ≤ absI c) = true then 1 else 0) (.inr (by split <;> decide))) (d_b c_abs b.abs rfl (a1 (dv 2))) (d_t (c_intB (b := decide ((10 : Int) ^ (18 : Int).toNat ≤ absI c))) b.int rfl (a1 (d_cmp o_geI (d_b c_abs b.abs rfl (a1 (dv 2))) (d_bin (o_pow ⟨by decide, by decide, by decide⟩) d_int d_int)))))
    (d_bin o_add (d_bin o_add (d_bin (o_mod (by decide)) (d_t c_int b.int rfl (a1 (dv 2))) d_int) (d_bin (o_mul (.inl ⟨by decide, by decide⟩)) d_int (dv 1))) d_int) d_int)))
theorem cutD_mid (l : List D) (n m : Nat) (h : n ≤ m) : cutD l (some (n : Int)) (some (m : Int)) = (l.drop n).take (m - n) := by
  unfold cutD
  rw [HT.sIx_nat, HT.sIx_nat]
  by_cases h1 : n ≤ l.length
  · rw [Nat.min_eq_left h1]
    by_cases h2 : m ≤ l.length
    · rw [Nat.min_eq_left h2]
    · rw [Nat.min_eq_right (Nat.le_of_not_le h2), List.take_of_length_le (by simp), List.take_of_length_le (by simp; omega)]
  · rw [Nat.min_eq_right (Nat.le_of_not_le h1), List.drop_of_length_le (Nat.le_refl _), List.drop_of_length_le (Nat.le_of_not_le h1)]
    simp
def gCel (ds : List D) (d : D) : Prop := ∃ s : List Int, ds = [.lstk (s.map D.int), .int 3] ∧ d = .lst ((cellsOf s).map D.int)
def nCel : List Str := ["_law_script", "_law_top", "_law_cells_so", "_law_k", "_law_cell", "_law_at_so"]
def pCel : List Str := ["_law_script", "_law_top"]
theorem sc_cel : FnScope nCel pCel (defScope (top 56)) := ⟨rfl, rfl, rfl, by decide +kernel, rfl, by decide +kernel, by decide +kernel⟩
theorem ok_cel (b : MgB mg) (h : DefAt K mg "_law_cells" 56) : Ok w K mg base C 1 "_law_cells" pCel gCel := by
  obtain ⟨f, fd, F, m⟩ := h
  refine ⟨f, fd, fn_data F sc_cel (fun ds d ⟨_, e, _⟩ => by rw [e] <;> rfl) (fun cdv A outer s H E hr ds d hg Fr => ?_), m, F.kp, F.bindsN fun _ _ _ _ _ _ us hl => match us, hl with | [_, _], _ => rfl⟩
  obtain ⟨sc, rfl, rfl⟩ := hg
  let ρf : List Int → List Sl := fun acc => [.dat (.lstk (sc.map D.int)), .dat (.int 3), .own (acc.map D.int), .no, .no, .no]
  have e1 : cutD (sc.map D.int) none (some 3) = (sc.take 3).map D.int := (cutD_to _ 3).trans List.map_take.symm
  have e2 : cutD (sc.map D.int) (some 3) (some 63) = (cutL sc 3 63).map D.int := (cutD_mid _ 3 63 (by decide)).trans (by unfold cutL; rw [List.map_take, List.map_drop])
  refine b_step (ρ1 := ρf (cells0 sc)) (s_set (i := 2) (k := .own ((cells0 sc).map D.int)) sc_cel.nd (k_f ?_)) ?_
  · unfold cells0
    by_cases h0 : sc.take 3 = []
    · rw [if_pos h0]
      refine f_orF (f_t ?_ b.list rfl (a1 (d_of_f (f_slK (dv 0) op_none (op_some (dv 1)))))) (pe_one (f_lst (a1 d_int)))
      rw [e1, h0]
      exact c_lstL
    · rw [if_neg h0]
      refine f_orT (f_t ?_ b.list rfl (a1 (d_of_f (f_slK (dv 0) op_none (op_some (dv 1)))))) (fun z => h0 (List.map_eq_nil_iff.mp z))
      rw [e1]
      exact c_lstL
  · refine b_step (ρ1 := ρf (cellsOf sc)) (s_for (vs := [3, 4]) (cutL sc 3 63).zipIdx (fun q => D.tup [.int (q.2 : Nat), .int q.1]) cellStep (fun _ acc => acc.length = (cells0 sc).length) ρf _ (cells0 sc) PassesOwn.never rfl rfl ?_ ?_ (fun i acc q hq z => g_tup rfl (gs_cons (g_name (i := 3) sc_cel.nd) (gs_cons (g_name (i := 4) sc_cel.nd) gs_nil))) ?_) (b_fz 2 rfl (b_stop (s_ret (dv 2))))
    · intro i acc q hq z
      show (acc.set _ _).length = _
      rw [List.length_set]
      exact z
    · have en : numb ((cutL sc 3 63).map D.int) = (cutL sc 3 63).zipIdx.map fun q => D.tup [.int (q.2 : Nat), .int q.1] := by
        unfold numb
        rw [List.zipIdx_map, List.map_map]
        rfl
      rw [← en, ← e2]
      exact i_enumL (by rfl) b.enumerate (d_of_f (f_slK (dv 0) (op_some (dv 1)) (op_some d_int)))
    · intro i acc q hq z
      have hs : 3 < sc.length := by
        have h1 := (List.getElem?_eq_some_iff.mp hq).1
        rw [List.length_zipIdx] at h1
        unfold cutL at h1
        rw [List.length_take, List.length_drop] at h1
        omega
      have h3 : acc.length = 3 := by
        rw [z]
        unfold cells0
        have : (sc.take 3).length = 3 := by rw [List.length_take]; omega
        rw [if_neg (fun z => by rw [z] at this; cases this)]
        exact this
      have hj : q.2 % 3 < acc.length := by rw [h3]; exact Nat.mod_lt _ (by decide)
      have eg : (acc.map D.int)[q.2 % 3]? = some (.int ((acc[q.2 % 3]?).getD 0)) := by
        rw [List.getElem?_map, List.getElem?_eq_getElem hj]
        rfl
      have es : ρf (cellStep acc q) = [.dat (.lstk (sc.map D.int)), .dat (.int 3), .own ((acc.map D.int).set (q.2 % 3) (.int ((acc[q.2 % 3]?).getD 0 + q.1 * (q.2 + 2)))), .no, .no, .no] := by
        show [_, _, Sl.own ((acc.set _ _).map D.int), _, _, _] = _
        rw [List.map_set]
      rw [es]
      have hb : CMul q.1 ((q.2 : Int) + 2) := .inr (by
        have h1 := (List.getElem?_eq_some_iff.mp hq).1
        have h2 : q.2 < 63 := by
          obtain ⟨z1, z2⟩ := zipIdx_at hq
          have := (List.getElem?_eq_some_iff.mp z2).1
          unfold cutL at this
          rw [List.length_take] at this
          omega
        omega)
      refine n_no (ρ1 := [.dat (.lstk (sc.map D.int)), .dat (.int 3), .own ((acc.map D.int).set (q.2 % 3) (.int ((acc[q.2 % 3]?).getD 0 + q.1 * (q.2 + 2)))), .dat (.int q.2), .dat (.int q.1), .dat (.int (q.2 % 3 : Nat))]) [3, 4, 5] (n_step (s_set (i := 5) (k := .dat (.int (q.2 % 3 : Nat))) sc_cel.nd (k_d (d_cast (congrArg D.int (Int.natCast_emod q.2 3).symm) (d_bin (o_mod (by decide)) (d_t c_int b.int rfl (a1 (dv 3))) (dv 1))))) (n_one ?_))
      exact s_oset (i := 2) (j := q.2 % 3) (l := acc.map D.int) rfl (d_bin o_add (d_oix (i := 2) (j := q.2 % 3) rfl (dv 5) eg) (d_bin (o_mul hb) (dv 4) (d_bin o_add (dv 3) d_int))) (dv 5) (by rw [List.length_map]; exact hj)
end
end Fz
/-! isinstance; tupled, _law_lists. -/
namespace Fz
open PySem L2 PyProof PyProof.Rows
open PySem.W (Datum DatumOrd Tup T3)
open Enc (enc)
def tyN : D → String
  | .non => "NoneType"
  | .bl _ => "bool"
  | .int _ => "int"
  | .str _ => "str"
  | .tup _ => "tuple"
  | .tupk _ => "tuple"
  | .lst _ => "list"
  | _ => ""
theorem ty_of {K : PySem.W.Frag} {C : Addr} {H : Hp} {d : D} {v : V} (h : Rp K C H d v) (hs : tyN d ≠ "") : TyX K H v (.type (tyN d)) := by
  cases d with
  | non =>
    have h : v = V.non := h
    subst h
    exact .base .non
  | bl b =>
    have h : v = V.bl b := h
    subst h
    exact .base (.bl b)
  | int i =>
    have h : v = V.int i := h
    subst h
    exact .base (.int i)
  | str x =>
    have h : v = V.str x := h
    subst h
    exact .base (.str x)
  | tup l =>
    obtain ⟨a, xs, rfl, h1, h2⟩ := h
    rcases h1 with (h1 | ⟨o, h1⟩) | ⟨o, its, n, h1, h3, _⟩
    · exact .base (.tup h1)
    · exact .fTuple h1
    · exact .kTuple h1 h3
  | tupk l =>
    obtain ⟨a, o, xs, rfl, h1, _⟩ := h
    exact .fTuple h1
  | lst l =>
    obtain ⟨a, xs, rfl, h1, _⟩ := h
    exact .base (.lst h1)
  | lstk l => exact absurd rfl hs
  | dic l => exact absurd rfl hs
  | obj i r f => exact absurd rfl hs
  | book w f S => exact absurd rfl hs
section
variable {X : Cx} {C : Addr} {ρ : List Sl} {pos p p1 p2 pt : Pos} {e : Expr} {d : D}
/-- isinstance(e, T) -/
theorem d_isi1 {x1 : Str} {T1 : String} {r1 : Bool} (he : PE X e (tD X.K C ρ d)) (h1 : kitB (tyN d) T1 = some r1) (hs : tyN d ≠ "" := by decide) (hm : X.mg "isinstance" = none) (hm1 : X.mg x1 = none) (hg : Gl X "isinstance" := by rfl) (hg1 : Gl X x1 := by rfl) (hv1 : bootBuiltins x1 = some (.type T1) := by rfl) (hn1 : x1 ≠ "__name__" := by decide) (hd1 : (x1 == ("__debug__" : Str)) = false := by decide)
    (hs1 : starEach [e, .Name x1 p1] X.env = (false, eval e X.env) :: starEach [.Name x1 p1] X.env := by rfl) (hs2 : starEach [.Name x1 p1] X.env = (false, eval (.Name x1 p1) X.env) :: starEach [] X.env := by rfl) (hpl : (backTo pos (starEach [.Name x1 p1] X.env)).any (·.1) = false := by rfl) :
    PE X (.Call (.Name "isinstance" p) [e, .Name x1 p1] [] pos) (tD X.K C ρ (.bl r1)) :=
  pe_w (pe_callB call_isi hg hm (by rfl) (pa_cons he (pa_cons (pe_bltn (v := .ty T1) (u := .type T1) hg1 hm1 hv1 rfl hn1 hd1) pa_nil hs2) hs1) (by decide) (by decide) hs1 hpl) fun σ H Q ⟨F, P, r, k⟩ => ⟨F, P, r, fun v H2 e2 hv =>
    ⟨v, .ty T1, .type (tyN d), .type T1, r1, rfl, .ty T1, ty_of (Rp.mono mask_le _ _ hv) hs, kit_ty h1, k _ H2 e2 rfl⟩⟩
/-- isinstance(e, (T1, T2)) -/
theorem d_isi2 {x1 x2 : Str} {T1 T2 : String} {r1 r2 : Bool} {kt : Nat} (he : PE X e (tD X.K C ρ d)) (h1 : kitB (tyN d) T1 = some r1) (h2 : kitB (tyN d) T2 = some r2) (hs : tyN d ≠ "" := by decide) (hm : X.mg "isinstance" = none) (hm1 : X.mg x1 = none) (hm2 : X.mg x2 = none) (hg : Gl X "isinstance" := by rfl) (hg1 : Gl X x1 := by rfl) (hg2 : Gl X x2 := by rfl) (hv1 : bootBuiltins x1 = some (.type T1) := by rfl) (hv2 : bootBuiltins x2 = some (.type T2) := by rfl)
    (hn1 : x1 ≠ "__name__" := by decide) (hd1 : (x1 == ("__debug__" : Str)) = false := by decide) (hn2 : x2 ≠ "__name__" := by decide) (hd2 : (x2 == ("__debug__" : Str)) = false := by decide)
    (hs1 : starEach [e, .Tuple [.Name x1 p1, .Name x2 p2] kt pt] X.env = (false, eval e X.env) :: starEach [.Tuple [.Name x1 p1, .Name x2 p2] kt pt] X.env := by rfl) (hs2 : starEach [.Tuple [.Name x1 p1, .Name x2 p2] kt pt] X.env = (false, eval (.Tuple [.Name x1 p1, .Name x2 p2] kt pt) X.env) :: starEach [] X.env := by rfl)
    (hs3 : starEach [.Name x1 p1, .Name x2 p2] X.env = (false, eval (.Name x1 p1) X.env) :: starEach [.Name x2 p2] X.env := by rfl) (hs4 : starEach [.Name x2 p2] X.env = (false, eval (.Name x2 p2) X.env) :: starEach [] X.env := by rfl)
    (hpl : (backTo pos (starEach [.Tuple [.Name x1 p1, .Name x2 p2] kt pt] X.env)).any (·.1) = false := by rfl) :
    PE X (.Call (.Name "isinstance" p) [e, .Tuple [.Name x1 p1, .Name x2 p2] kt pt] [] pos) (tD X.K C ρ (.bl (r1 || r2))) :=
  pe_w (pe_callB call_isiT hg hm (by rfl) (pa_cons he (pa_cons (pe_tup (pa_cons (pe_bltn (v := .ty T1) (u := .type T1) hg1 hm1 hv1 rfl hn1 hd1) (pa_cons (pe_bltn (v := .ty T2) (u := .type T2) hg2 hm2 hv2 rfl hn2 hd2) pa_nil hs4) hs3)) pa_nil hs2) hs1) (by decide) (by decide) hs1 hpl) fun σ H Q ⟨F, P, r, k⟩ => ⟨F, P, r, fun v H2 e2 hv => by
    refine ⟨Nat.le_of_ble_eq_true rfl, fun q hq => ⟨v, q, [.ty T1, .ty T2], .type (tyN d), [.type T1, .type T2], r1 || r2, rfl, upd_same, .cons (.ty T1) (.cons (.ty T2) .nil), ty_of (Rp.mono (same_upd hq) _ _ (Rp.mono mask_le _ _ hv)) hs, ?_, k _ _ (e2.trans (same_upd hq)) rfl⟩⟩
    refine kitAny_cons (kit_ty h1) (fun z => ?_) (fun z => by rw [z]; rfl)
    subst z
    refine kitAny_cons (kit_ty h2) (fun z => ?_) (fun z => by rw [z]; rfl)
    subst z
    exact kitAny_nil⟩
end
theorem kit_sl : kitB "str" "list" = some false := by decide +kernel
theorem kit_st : kitB "str" "tuple" = some false := by decide +kernel
theorem kit_tl : kitB "tuple" "list" = some false := by decide +kernel
theorem kit_tt : kitB "tuple" "tuple" = some true := by decide +kernel
theorem kit_ll : kitB "list" "list" = some true := by decide +kernel
theorem kit_lt : kitB "list" "tuple" = some false := by decide +kernel
theorem ne_s : ("str" : String) ≠ "" := by decide
theorem ne_t : ("tuple" : String) ≠ "" := by decide
theorem ne_l : ("list" : String) ≠ "" := by decide
/-! ### tuples and lists all through -/
def okD : Nat → D → Bool
  | k + 1, .tup l => l.all (okD k)
  | k + 1, .lst l => l.all (okD k)
  | _, .str _ => true
  | _, _ => false
def tupD : Nat → D → D
  | k + 1, .tup l => .tup (l.map (tupD k))
  | k + 1, .lst l => .tup (l.map (tupD k))
  | _, d => d
def lstD : Nat → D → D
  | k + 1, .tup l => .lst (l.map (lstD k))
  | k + 1, .lst l => .lst (l.map (lstD k))
  | _, d => d
section
variable {w : World} {K : PySem.W.Frag} {mg : Str → Option Value} {base : Heap} {C : Addr}
def gTpd (j : Nat) (ds : List D) (d : D) : Prop := ∃ x : D, ds = [x] ∧ okD j x = true ∧ d = tupD j x
theorem sc_tpd : FnScope ["value", "part"] ["value"] (defScope (top 11)) := ⟨rfl, rfl, rfl, by decide +kernel, rfl, by decide +kernel, by decide +kernel⟩
theorem ok_tpd (b : MgB mg) (h : DefAt K mg "tupled" 11) : ∀ j, Ok w K mg base C (j + 1) "tupled" ["value"] (gTpd j) := by
  obtain ⟨f, fd, F, m⟩ := h
  intro j
  induction j with
  | zero =>
    refine ⟨f, fd, fn_data F sc_tpd (fun ds d ⟨_, e, _⟩ => by rw [e] <;> rfl) (fun cdv A outer s H E hr ds d hg Fr => ?_), m, F.kp, F.bindsN fun _ _ _ _ _ _ us hl => match us, hl with | [_], _ => rfl⟩
    obtain ⟨x, rfl, ho, hd⟩ := hg
    cases x with
    | str x =>
      subst hd
      exact b_stop (s_ret (t_if (z := false) (t_val (d_isi2 (d := .str x) (dv 0) kit_sl kit_st ne_s b.isinstance b.list b.tuple)) (fun z => (nomatch z)) (fun _ => dv 0)))
    | _ => cases ho
  | succ j ih =>
    refine ⟨f, fd, fn_data F sc_tpd (fun ds d ⟨_, e, _⟩ => by rw [e] <;> rfl) (fun cdv A outer s H E hr ds d hg Fr => ?_), m, F.kp, F.bindsN fun _ _ _ _ _ _ us hl => match us, hl with | [_], _ => rfl⟩
    obtain ⟨x, rfl, ho, hd⟩ := hg
    cases x with
    | str x =>
      subst hd
      exact b_stop (s_ret (t_if (z := false) (t_val (d_isi2 (d := .str x) (dv 0) kit_sl kit_st ne_s b.isinstance b.list b.tuple)) (fun z => (nomatch z)) (fun _ => dv 0)))
    | tup l =>
      subst hd
      have ho : l.all (okD j) = true := ho
      exact b_stop (s_ret (t_if (z := true) (t_val (d_isi2 (d := .tup l) (dv 0) kit_tl kit_tt ne_t b.isinstance b.list b.tuple)) (fun _ => d_t c_tupL b.tuple rfl (a1 (d_of_f (f_map (own := [("part", 1)]) l (fun x => x) (tupD j) _ rfl sc_tpd.nd (blkOk_by (by kernel_rfl)) (by rw [List.map_id']; exact i_tup (dv 0)) (fun s H B cl fp a ha => g_name (i := 1) sc_tpd.nd) (fun s' H B cl fp a ha => d_fn ih rfl hr (a1 (dv 1)) ⟨a, rfl, List.all_eq_true.mp ho a ha, rfl⟩))))) (fun z => (nomatch z))))
    | lst l =>
      subst hd
      have ho : l.all (okD j) = true := ho
      exact b_stop (s_ret (t_if (z := true) (t_val (d_isi2 (d := .lst l) (dv 0) kit_ll kit_lt ne_l b.isinstance b.list b.tuple)) (fun _ => d_t c_tupL b.tuple rfl (a1 (d_of_f (f_map (own := [("part", 1)]) l (fun x => x) (tupD j) _ rfl sc_tpd.nd (blkOk_by (by kernel_rfl)) (by rw [List.map_id']; exact i_list (dv 0)) (fun s H B cl fp a ha => g_name (i := 1) sc_tpd.nd) (fun s' H B cl fp a ha => d_fn ih rfl hr (a1 (dv 1)) ⟨a, rfl, List.all_eq_true.mp ho a ha, rfl⟩))))) (fun z => (nomatch z))))
    | _ => cases ho
def gLis (j : Nat) (ds : List D) (d : D) : Prop := ∃ x : D, ds = [x] ∧ okD j x = true ∧ d = lstD j x
def nLis : List Str := ["_law_matter", "_law_bit"]
theorem sc_lis : FnScope nLis ["_law_matter"] (defScope (top 61)) := ⟨rfl, rfl, rfl, by decide +kernel, rfl, by decide +kernel, by decide +kernel⟩
theorem ok_lis (b : MgB mg) (h : DefAt K mg "_law_lists" 61) : ∀ j, Ok w K mg base C (j + 1) "_law_lists" ["_law_matter"] (gLis j) := by
  obtain ⟨f, fd, F, m⟩ := h
  intro j
  induction j with
  | zero =>
    refine ⟨f, fd, fn_data F sc_lis (fun ds d ⟨_, e, _⟩ => by rw [e] <;> rfl) (fun cdv A outer s H E hr ds d hg Fr => ?_), m, F.kp, F.bindsN fun _ _ _ _ _ _ us hl => match us, hl with | [_], _ => rfl⟩
    obtain ⟨x, rfl, ho, hd⟩ := hg
    cases x with
    | str x =>
      subst hd
      exact b_stop (s_ret (t_if (z := false) (t_val (d_isi2 (d := .str x) (dv 0) kit_sl kit_st ne_s b.isinstance b.list b.tuple)) (fun z => (nomatch z)) (fun _ => dv 0)))
    | _ => cases ho
  | succ j ih =>
    refine ⟨f, fd, fn_data F sc_lis (fun ds d ⟨_, e, _⟩ => by rw [e] <;> rfl) (fun cdv A outer s H E hr ds d hg Fr => ?_), m, F.kp, F.bindsN fun _ _ _ _ _ _ us hl => match us, hl with | [_], _ => rfl⟩
    obtain ⟨x, rfl, ho, hd⟩ := hg
    cases x with
    | str x =>
      subst hd
      exact b_stop (s_ret (t_if (z := false) (t_val (d_isi2 (d := .str x) (dv 0) kit_sl kit_st ne_s b.isinstance b.list b.tuple)) (fun z => (nomatch z)) (fun _ => dv 0)))
    | tup l =>
      subst hd
      have ho : l.all (okD j) = true := ho
      exact b_stop (s_ret (t_if (z := true) (t_val (d_isi2 (d := .tup l) (dv 0) kit_tl kit_tt ne_t b.isinstance b.list b.tuple)) (fun _ => d_of_f (f_map (own := [("_law_bit", 1)]) l (fun x => x) (lstD j) _ rfl sc_lis.nd (blkOk_by (by kernel_rfl)) (by rw [List.map_id']; exact i_tup (dv 0)) (fun s H B cl fp a ha => g_name (i := 1) sc_lis.nd) (fun s' H B cl fp a ha => d_fn ih rfl hr (a1 (dv 1)) ⟨a, rfl, List.all_eq_true.mp ho a ha, rfl⟩))) (fun z => (nomatch z))))
    | lst l =>
      subst hd
      have ho : l.all (okD j) = true := ho
      exact b_stop (s_ret (t_if (z := true) (t_val (d_isi2 (d := .lst l) (dv 0) kit_ll kit_lt ne_l b.isinstance b.list b.tuple)) (fun _ => d_of_f (f_map (own := [("_law_bit", 1)]) l (fun x => x) (lstD j) _ rfl sc_lis.nd (blkOk_by (by kernel_rfl)) (by rw [List.map_id']; exact i_list (dv 0)) (fun s H B cl fp a ha => g_name (i := 1) sc_lis.nd) (fun s' H B cl fp a ha => d_fn ih rfl hr (a1 (dv 1)) ⟨a, rfl, List.all_eq_true.mp ho a ha, rfl⟩))) (fun z => (nomatch z))))
    | _ => cases ho
end
end Fz
set_option maxHeartbeats 2000000
/-! A set whose members are tuples of texts and of such tuples: looking and putting in. -/
namespace Fz
open PySem PySem.Spec PyProof.Rows L2

/-! ### the model's small questions, asked of a nested key -/
section
variable {P : Program} {w : World}
/-- it isn't of a class of the program, n levels down -/
def NoCls (P : Program) (w : World) (n : Nat) (s : Shared) (v : Value) : Prop := ∀ (A : Around) (E : Value → Shared → Prop) (Q : Bool → Shared → Prop), Q false s → wpAny (model P w) A (ofAClassStatement n v) Q E s
theorem noCls_tup {n : Nat} {s : Shared} {a : Addr} {o : Obj} {vs : Array Value} {m : Nat} (ho : s.heap.get? a = some o) (hc : o.cls = .type "tuple") (hd : o.data = .seq vs m) (hq : ∀ v ∈ vs.toList, NoCls P w n s v) : NoCls P w (n + 1) s (.ref a) := fun A E Q h => by
  have hT : s.TypeIs (.ref a) "tuple" := ⟨o, ho, hc⟩
  unfold ofAClassStatement
  refine wpAny_bind (wpAny_typeOf hT ?_)
  dsimp only
  have e : (("tuple" : String) == "tuple") = true := by decide
  simp only [e, if_true, Bool.not_true, Bool.false_eq_true, if_false]
  show wpAny _ _ (seqItems? (.ref a) >>= _) _ _ s
  refine wpAny_bind (wpAny_seqItems ho hd ?_)
  dsimp only
  refine wpAny_bind ?_
  show wpAny _ _ (forIn vs _ _) _ _ s
  rw [← Array.forIn_toList]
  refine wpAny_forIn_list _ (fun rest r s' => r.1 = none ∧ s' = s ∧ ∀ v ∈ rest, NoCls P w n s v) _ ?_ ?_ _ _ ⟨rfl, rfl, hq⟩
  · rintro v rest r s' ⟨hr, rfl, hall⟩
    refine wpAny_bind (hall v List.mem_cons_self _ _ _ ?_)
    simp only [Bool.false_eq_true, if_false]
    exact wpAny_pure ⟨rfl, rfl, fun u hu => hall u (List.mem_cons_of_mem _ hu)⟩
  · rintro ⟨r1, r2⟩ s' ⟨hr, rfl, _⟩
    simp only at hr
    subst hr
    exact wpAny_pure h
mutual
theorem noCls_key : ∀ (k : NestedKey) (v : Value) (n : Nat) (s : Shared), NestedIs s.heap k v → k.depth ≤ n → NoCls P w n s v
  | .none, _, n, s, x, _ => by cases x; intro A E Q h; cases n <;> exact wpAny_pure h
  | .num i, _, n, s, x, _ => by cases x <;> (intro A E Q h; cases n <;> exact wpAny_pure h)
  | .text y, _, n, s, x, _ => by cases x; intro A E Q h; cases n <;> exact wpAny_pure h
  | .tup ks, _, n, s, x, hn => by
    cases x with
    | tup hg hc hd hk =>
      simp only [NestedKey.depth] at hn
      cases n with
      | zero => omega
      | succ n => exact noCls_tup hg hc hd (noCls_keys ks _ n s hk (by omega))
theorem noCls_keys : ∀ (ks : List NestedKey) (vs : List Value) (n : Nat) (s : Shared), NestedAll s.heap ks vs → NestedKey.depthAll ks ≤ n → ∀ v ∈ vs, NoCls P w n s v
  | [], _, n, s, x, _, v, hv => by cases x; cases hv
  | k :: ks, _, n, s, x, hn, v, hv => by
    cases x with
    | cons x1 x2 =>
      simp only [NestedKey.depthAll] at hn
      rcases List.mem_cons.mp hv with e | hv
      · rw [e]; exact noCls_key k _ n s x1 (by omega)
      · exact noCls_keys ks _ n s x2 (by omega) v hv
end
/-- whether its hash is told by its value: an answer comes -/
def HashAns (P : Program) (w : World) (n : Nat) (s : Shared) (v : Value) : Prop := ∀ (A : Around) (E : Value → Shared → Prop) (Q : Bool → Shared → Prop), (∀ b, Q b s) → wpAny (model P w) A (hashByValue n v) Q E s
theorem hashAns_tup {n : Nat} {s : Shared} {a : Addr} {o : Obj} {vs : Array Value} {m : Nat} (ho : s.heap.get? a = some o) (hc : o.cls = .type "tuple") (hd : o.data = .seq vs m) (hq : ∀ v ∈ vs.toList, HashAns P w n s v) : HashAns P w (n + 1) s (.ref a) := fun A E Q h => by
  have hT : s.TypeIs (.ref a) "tuple" := ⟨o, ho, hc⟩
  unfold hashByValue
  refine wpAny_bind (wpAny_specialOf hT F.slot_tuple_hash.lookup ?_)
  show wpAny _ _ (seqItems? (.ref a) >>= _) _ _ s
  refine wpAny_bind (wpAny_seqItems ho hd ?_)
  refine wpAny_bind ?_
  show wpAny _ _ (forIn vs _ _) _ _ s
  rw [← Array.forIn_toList]
  refine wpAny_forIn_list _ (fun rest r s' => r.1 = none ∧ s' = s ∧ ∀ v ∈ rest, HashAns P w n s v) _ ?_ ?_ _ _ ⟨rfl, rfl, hq⟩
  · rintro v rest r s' ⟨hr, rfl, hall⟩
    refine wpAny_bind (hall v List.mem_cons_self _ _ _ fun b => ?_)
    cases b with
    | true =>
      simp only [Bool.not_true, Bool.false_eq_true, if_false]
      exact wpAny_pure ⟨rfl, rfl, fun u hu => hall u (List.mem_cons_of_mem _ hu)⟩
    | false =>
      simp only [Bool.not_false, if_true]
      exact wpAny_pure (wpAny_pure (h false))
  · rintro ⟨r1, r2⟩ s' ⟨hr, rfl, _⟩
    simp only at hr
    subst hr
    exact wpAny_pure (h true)
mutual
theorem hashAns_key : ∀ (k : NestedKey) (v : Value) (n : Nat) (s : Shared), NestedIs s.heap k v → k.depth ≤ n → HashAns P w n s v
  | .none, _, n, s, x, _ => by cases x; intro A E Q h; cases n <;> exact wpAny_pure (h _)
  | .num i, _, n, s, x, _ => by cases x <;> (intro A E Q h; cases n <;> exact wpAny_pure (h _))
  | .text y, _, n, s, x, _ => by cases x; intro A E Q h; cases n <;> exact wpAny_pure (h _)
  | .tup ks, _, n, s, x, hn => by
    cases x with
    | tup hg hc hd hk =>
      simp only [NestedKey.depth] at hn
      cases n with
      | zero => omega
      | succ n => exact hashAns_tup hg hc hd (hashAns_keys ks _ n s hk (by omega))
theorem hashAns_keys : ∀ (ks : List NestedKey) (vs : List Value) (n : Nat) (s : Shared), NestedAll s.heap ks vs → NestedKey.depthAll ks ≤ n → ∀ v ∈ vs, HashAns P w n s v
  | [], _, n, s, x, _, v, hv => by cases x; cases hv
  | k :: ks, _, n, s, x, hn, v, hv => by
    cases x with
    | cons x1 x2 =>
      simp only [NestedKey.depthAll] at hn
      rcases List.mem_cons.mp hv with e | hv
      · rw [e]; exact hashAns_key k _ n s x1 (by omega)
      · exact hashAns_keys ks _ n s x2 (by omega) v hv
end
end
/-- the tuple at a is the key k -/
def IsN (h : Heap) (k : NestedKey) (a : Addr) : Prop := NestedIs h k (.ref a) ∧ k.depth ≤ 8
theorem IsN.keep {h h' : Heap} {k : NestedKey} {a : Addr} (x : IsN h k a) (hk : ∀ c o, h.get? c = some o → h'.get? c = some o) : IsN h' k a := ⟨NestedIs.at (fun b o vs n e _ => hk b o e) k _ x.1, x.2⟩
theorem IsN.same {h h' : Heap} {k : NestedKey} {a b : Addr} {o : Obj} {es : Array (Int × Value)} {ep : Nat} {t : SetTable} (x : IsN h k b) (ho : h.get? a = some o) (hd : o.data = .set es ep t) (hs : Heap.SameBut a h h') : IsN h' k b :=
  ⟨NestedIs.at (fun c u vs n e ed => (hs.2 c (fun z => by
    subst z
    rw [ho] at e
    cases e
    rw [hd] at ed
    cases ed)).trans e) k _ x.1, x.2⟩
section
variable {P : Program} {w : World} {A : Around} {E : Value → Shared → Prop} {s : Shared}
/-- a search among such keys shows nothing -/
theorem seen_key {k : NestedKey} {b : Addr} {Q : Bool → Shared → Prop} (hk : IsN s.heap k b) {ys : List Value} (hy : ∀ y ∈ ys, ∃ k' c, y = Value.ref c ∧ IsN s.heap k' c) (h : Q false s) :
    wpAny (model P w) A (searchCouldBeSeen (.ref b) ys) Q E s := by
  unfold searchCouldBeSeen
  refine wpAny_bind ?_
  refine wpAny_forIn_list _ (fun rest r s' => r.1 = none ∧ s' = s ∧ ∀ y ∈ rest, ∃ k' c, y = Value.ref c ∧ IsN s.heap k' c) _ ?_ ?_ _ _ ⟨rfl, rfl, hy⟩
  · rintro v rest r s' ⟨hr, rfl, hall⟩
    obtain ⟨k', c, rfl, hc⟩ := hall v List.mem_cons_self
    have rest' : ∀ y ∈ rest, ∃ k' c, y = Value.ref c ∧ IsN s'.heap k' c := fun u hu => hall u (List.mem_cons_of_mem _ hu)
    dsimp only
    by_cases hv : (b == c || (carriedByValue (.ref b) && carriedByValue (.ref c))) = true
    · refine wp_if_pos hv ?_
      exact wpAny_pure ⟨rfl, rfl, rest'⟩
    · refine wp_if_neg hv ?_
      refine wpAny_bind (quiet_key k _ 8 s' hk.1 hk.2 _ _ _ ?_)
      simp only [Bool.not_true, Bool.false_eq_true, if_false]
      refine wpAny_bind (quiet_key k' _ 8 s' hc.1 hc.2 _ _ _ ?_)
      simp only [Bool.not_true, Bool.false_eq_true, if_false]
      refine wpAny_bind (noCls_key k _ 8 s' hk.1 hk.2 _ _ _ ?_)
      simp only [Bool.false_eq_true, if_false]
      refine wpAny_bind (noCls_key k' _ 8 s' hc.1 hc.2 _ _ _ ?_)
      simp only [Bool.false_eq_true, if_false]
      exact wpAny_pure ⟨rfl, rfl, rest'⟩
  · rintro ⟨r1, r2⟩ s' ⟨hr, rfl, _⟩
    simp only at hr
    subst hr
    exact wpAny_pure h
end
end Fz
/-! A set of nested keys: the search. -/
namespace Fz
open PySem PySem.Spec PyProof.Rows L2
def rowsN (w : World) (L : List (Addr × NestedKey)) : List (Int × Value) := L.map fun p => (p.2.hash w, Value.ref p.1)
structure SetN (w : World) (h : Heap) (a : Addr) (L : List (Addr × NestedKey)) (es : Array (Int × Value)) (ep : Nat) (t : SetTable) : Prop where
  ob : ∃ o, h.get? a = some o ∧ o.ExactSet ∧ o.data = .set es ep t
  rows : es.toList = rowsN w L
  tab : TabOk t (L.map fun p => p.2.hash w)
  nd : (L.map (·.2)).Nodup
  tup : ∀ p ∈ L, IsN h p.2 p.1
  led : w.params.followText "set-order" = true ∨ t.led = true
  room : L.length * 5 < t.mask * 3
  few : L.length < 64
theorem rowsN_len {w : World} {L : List (Addr × NestedKey)} {es : Array (Int × Value)} (h : es.toList = rowsN w L) : es.size = L.length := by
  have q := congrArg List.length h
  unfold rowsN at q
  rwa [Array.length_toList, List.length_map] at q
/-- a step of the way keeps no dummy in mind -/
theorem nth_dummy (m : Nat) : ∀ (n : Nat) (p : SetTable.Probe), p.dummy = none → (nth m p n).dummy = none
  | 0, p, h => h
  | n + 1, p, h => nth_dummy m n (adv m p) (by unfold adv; split <;> exact h)
/-- the state behind c steps on the way of the hash z -/
def stp (m : Nat) (z : Int) (c : Nat) : SetTable.Probe := nth m (runAt m (SetTable.bits z % (m + 1)) (SetTable.bits z)) c
theorem stp_j (m : Nat) (z : Int) (c : Nat) : (stp m z c).j = way m z c := rfl
theorem stp_add (m : Nat) (z : Int) (c q : Nat) : nth m (stp m z c) q = stp m z (c + q) := (nth_add m c _ q).symm
section
variable {P : Program} {w : World} {A : Around} {E : Value → Shared → Prop} {s : Shared} {a : Addr} {L : List (Addr × NestedKey)} {es : Array (Int × Value)} {ep : Nat} {t : SetTable}
theorem SetN.size (R : SetN w s.heap a L es ep t) : es.size = L.length := rowsN_len R.rows
theorem SetN.fits (R : SetN w s.heap a L es ep t) : t.fits es.size = true := by
  have h1 := R.tab.sz
  rw [List.length_map] at h1
  have h2 := R.size
  have h3 := R.room
  unfold SetTable.fits SetTable.fill
  rw [R.tab.dm, Bool.and_eq_true, beq_iff_eq, decide_eq_true_eq]
  show t.place.size = es.size ∧ t.place.size + 0 ≤ t.mask
  omega
theorem SetN.entry (R : SetN w s.heap a L es ep t) {i : Nat} {p : Addr × NestedKey} (h : L[i]? = some p) : es[i]? = some (p.2.hash w, Value.ref p.1) := by
  rw [← Array.getElem?_toList, R.rows]
  unfold rowsN
  rw [List.getElem?_map, h]
  rfl
theorem SetN.gw (R : SetN w s.heap a L es ep t) : ¬ t.gaveWay = true := by
  unfold SetTable.gaveWay
  rw [mask_odd R.tab.mok]
  decide
/-- looking from the c-th step on; K: the first empty place of the way -/
theorem look_from (R : SetN w s.heap a L es ep t) {x : Addr} {k : NestedKey} (hx : IsN s.heap k x) (hu : A.units + 8 < cLine) {z : Int} (hz : k.hash w = z) {K : Nat} (hKf : K < 10 * SetTable.turns t.mask)
    (hK : way t.mask z K ∉ t.place.toList) (hKb : ∀ c, c < K → way t.mask z c ∈ t.place.toList) {Q : SetFound → Shared → Prop}
    (hin : k ∈ L.map (·.2) → Q (.there none) s) (hout : k ∉ L.map (·.2) → Q (.free (way t.mask z K) false) s) :
    ∀ (f c : Nat) (stand : Option SetTable.Probe), stand.getD (t.probeStart z) = stp t.mask z c → c ≤ K → K - c < f →
      (∀ (i : Nat) p, L[i]? = some p → p.2 = k → ∃ c', c ≤ c' ∧ c' < K ∧ t.place.toList[i]? = some (way t.mask z c')) →
      wpAny (model P w) A (setSearchFrom a (.ref x) z true f stand) Q E s
  | 0, c, stand, _, _, hf, _ => absurd hf (Nat.not_lt_zero _)
  | f + 1, c, stand, hst, hc, hf, hre => by
    obtain ⟨o, ho, hex, hd⟩ := R.ob
    rw [setSearchFrom_succ]
    refine wpAny_bind (wpAny_setState_of ho hd R.fits ?_)
    dsimp only
    refine wp_if_neg R.gw ?_
    try refine wpAny_bind (wpAny_pure ?_)
    have e1 : ∀ q, (nth t.mask (stp t.mask z c) q).j = way t.mask z (c + q) := fun q => congrArg SetTable.Probe.j (stp_add t.mask z c q)
    have hashAt : ∀ (i : Nat) p, L[i]? = some p → (fun i => (es[i]?.map (·.1)).getD 0) i = p.2.hash w := fun i p hp => by
      show (es[i]?.map (·.1)).getD 0 = _
      rw [R.entry hp]
      rfl
    rcases go_spec t R.tab.ris R.tab.dm (fun i => (es[i]?.map (·.1)).getD 0) z (10 * SetTable.turns t.mask) (K - c) (stp t.mask z c) (nth_dummy _ c _ rfl) (by omega)
      (fun q hq => by rw [e1]; exact hKb (c + q) (by omega)) (by rw [e1, show c + (K - c) = K by omega]; exact hK) with ⟨q, i, hq, hi, hh, hno, hpr⟩ | ⟨hno, hpr⟩
    · have hpr' : t.probe (fun i => (es[i]?.map (·.1)).getD 0) z (stand.getD (t.probeStart z)) = some (.candidate (way t.mask z (c + q)) i (stp t.mask z (c + (q + 1)))) := by
        rw [hst, ← e1, ← stp_add]
        exact hpr
      rw [hpr']
      dsimp only
      rw [e1] at hi
      have hil : i < L.length := by
        have h1 : i < t.place.toList.length := (List.getElem?_eq_some_iff.mp hi).1
        have h2 := R.tab.sz
        rw [List.length_map] at h2
        rw [Array.length_toList] at h1
        omega
      obtain ⟨p, hp⟩ : ∃ p, L[i]? = some p := ⟨_, List.getElem?_eq_getElem hil⟩
      have hmem : p ∈ L := List.mem_of_getElem? hp
      have hpt := R.tup p hmem
      have rest : wpAny (model P w) A (searchRest a (.ref x) z true f es t (way t.mask z (c + q)) i (stp t.mask z (c + (q + 1)))) Q E s := by
        unfold searchRest
        rw [R.entry hp]
        dsimp only
        refine wpAny_bind (wpAny_holding ((nestedKind P w).eqBool (x := p.2) (y := k) hu hpt hx ?_))
        refine wpAny_bind (wpAny_setState_of ho hd R.fits ?_)
        dsimp only
        by_cases hkk : p.2 = k
        · refine wp_if_pos (by simp [hkk]) ?_
          exact wpAny_pure (hin (List.mem_map.mpr ⟨p, hmem, hkk⟩))
        · refine wp_if_neg (by simp [hkk]) ?_
          try refine wpAny_bind (wpAny_pure ?_)
          rw [sameMem]
          dsimp only
          have hsl : t.slot (way t.mask z (c + q)) = .live i := slot_live R.tab.ris hi
          simp only [if_true, hsl, R.entry hp]
          refine wpAny_bind (wpAny_isSame_ref_self (wpAny_bind (wpAny_pure ?_)))
          simp only [if_true]
          refine wp_if_neg (by simp [hkk]) ?_
          refine look_from R hx hu hz hKf hK hKb hin hout f (c + (q + 1)) _ rfl (by omega) (by omega) fun i0 p0 h0 hk0 => ?_
          obtain ⟨c', a1, a2, a3⟩ := hre i0 p0 h0 hk0
          refine ⟨c', ?_, a2, a3⟩
          rcases Nat.lt_or_ge c' (c + q) with y | y
          · exact absurd ((hashAt i0 p0 h0).trans ((congrArg (NestedKey.hash w) hk0).trans hz)) (hno (c' - c) i0 (by omega) (by rw [e1, show c + (c' - c) = c' by omega]; exact a3))
          · rcases Nat.lt_or_ge (c + q) c' with y2 | y2
            · omega
            · have ec : c' = c + q := Nat.le_antisymm y2 y
              rw [ec] at a3
              have s0 := slot_live R.tab.ris a3
              rw [hsl] at s0
              injection s0 with s0
              rw [← s0, hp] at h0
              exact absurd ((congrArg Prod.snd (Option.some.inj h0)).trans hk0) hkk
      by_cases hl : t.led = true
      · refine wp_if_neg (by simp [hl]) ?_
        try refine wpAny_bind (wpAny_pure ?_)
        exact rest
      · refine wp_if_pos (by simp [hl]) ?_
        refine wpAny_bind (seen_key hx (fun y hy => ?_) ?_)
        · obtain ⟨e, he, ee⟩ := List.mem_map.mp hy
          have he1 : e ∈ es ∧ e.1 = z := by simpa using he
          have he2 : e ∈ es.toList := by simpa using he1.1
          rw [R.rows] at he2
          obtain ⟨p2, hp2, e2⟩ := List.mem_map.mp he2
          refine ⟨p2.2, p2.1, ?_, R.tup p2 hp2⟩
          rw [← ee, ← e2]
        · refine wp_if_neg (by decide) ?_
          try refine wpAny_bind (wpAny_pure ?_)
          exact rest
    · have hpr' : t.probe (fun i => (es[i]?.map (·.1)).getD 0) z (stand.getD (t.probeStart z)) = some (.empty (way t.mask z K) none) := by
        have e2 : way t.mask z K = (nth t.mask (stp t.mask z c) (K - c)).j := by rw [e1, show c + (K - c) = K by omega]
        rw [hst, e2]
        exact hpr
      rw [hpr']
      dsimp only
      refine wpAny_pure (hout fun hm => ?_)
      obtain ⟨p0, h0, hk0⟩ := List.mem_map.mp hm
      obtain ⟨i0, hi0, e0⟩ := List.getElem_of_mem h0
      have h00 : L[i0]? = some p0 := by rw [List.getElem?_eq_getElem hi0, e0]
      obtain ⟨c', a1, a2, a3⟩ := hre i0 p0 h00 hk0
      exact absurd ((hashAt i0 p0 h00).trans ((congrArg (NestedKey.hash w) hk0).trans hz)) (hno (c' - c) i0 (by omega) (by rw [e1, show c + (c' - c) = c' by omega]; exact a3))
/-- looking, before putting in -/
theorem look_at (R : SetN w s.heap a L es ep t) {x : Addr} {k : NestedKey} (hx : IsN s.heap k x) (hu : A.units + 8 < cLine) {z : Int} (hz : k.hash w = z) {Q : SetFound → Shared → Prop}
    (hin : k ∈ L.map (·.2) → Q (.there none) s)
    (hout : ∀ K, k ∉ L.map (·.2) → way t.mask z K ∉ t.place.toList → (∀ c, c < K → way t.mask z c ∈ t.place.toList) → Q (.free (way t.mask z K) false) s) :
    wpAny (model P w) A (setSearch a (.ref x) z true) Q E s := by
  have hroom := R.room
  obtain ⟨K, hKf, hK, hKb⟩ := R.tab.first (by rw [List.length_map]; omega) z
  have hbig : K < 100000 := by
    have : 10 * SetTable.turns t.mask ≤ 1420 := by
      unfold SetTable.turns
      rcases R.tab.mok with e | e | e <;> omega
    omega
  unfold setSearch
  refine look_from R hx hu hz hKf hK hKb hin (fun hn => hout K hn hK hKb) 100000 0 none rfl (Nat.zero_le _) (by omega) fun i p hp hk => ?_
  have hi : (L.map fun p => p.2.hash w)[i]? = some z := by
    rw [List.getElem?_map, hp]
    show some (p.2.hash w) = some z
    rw [hk, hz]
  have hil : i < t.place.toList.length := by
    have h1 : i < L.length := (List.getElem?_eq_some_iff.mp hp).1
    have h2 := R.tab.sz
    rw [List.length_map] at h2
    rw [Array.length_toList]
    omega
  have hj := List.getElem?_eq_getElem hil
  obtain ⟨c, hc, e⟩ := R.tab.before hK hi hj
  exact ⟨c, Nat.zero_le _, hc, by rw [hj, e]⟩
end
end Fz
/-! A set of nested keys: laying anew, putting in. -/
namespace Fz
open PySem PySem.Spec PyProof.Rows L2
theorem range_all {α : Type} (L : List α) : ∀ n, n ≤ L.length → (List.range n).filterMap (fun i => L[i]?) = L.take n
  | 0, _ => rfl
  | n + 1, hn => by
    rw [List.range_succ, List.filterMap_append, range_all L n (Nat.le_of_lt hn), List.take_succ, List.getElem?_eq_getElem hn]
    rw [List.filterMap_cons_some (List.getElem?_eq_getElem hn)]
    rfl
/-- rows drawn in a new order -/
theorem picked {w : World} (L : List (Addr × NestedKey)) (es : Array (Int × Value)) (hr : es.toList = rowsN w L) : ∀ l : List Nat, (∀ i ∈ l, i < L.length) →
    l.filterMap (fun i => es[i]?) = rowsN w (l.filterMap fun i => L[i]?) ∧ ((l.filterMap fun i => L[i]?).map fun p => p.2.hash w) = l.map fun i => (es.map (·.1)).getD i 0
  | [], _ => ⟨rfl, rfl⟩
  | i :: l, hl => by
    have hi := hl i List.mem_cons_self
    obtain ⟨e1, e2⟩ := picked L es hr l fun j hj => hl j (List.mem_cons_of_mem _ hj)
    have ent : es[i]? = some ((L[i]).2.hash w, Value.ref (L[i]).1) := by
      rw [← Array.getElem?_toList, hr]
      unfold rowsN
      rw [List.getElem?_map, List.getElem?_eq_getElem hi]
      rfl
    rw [List.filterMap_cons_some ent, List.filterMap_cons_some (List.getElem?_eq_getElem hi), e1, List.map_cons, List.map_cons, e2]
    refine ⟨rfl, ?_⟩
    have e5 : (es.map (·.1))[i]? = some ((L[i]).2.hash w) := by
      rw [Array.getElem?_map, ent]
      rfl
    have e4 : (es.map (·.1)).getD i 0 = (L[i]).2.hash w := by simp [Array.getD_eq_getD_getElem?, e5]
    rw [e4]
theorem ordered {w : World} (L : List (Addr × NestedKey)) (es : Array (Int × Value)) (order : Array Nat) (hr : es.toList = rowsN w L) (hp : order.toList.Perm (List.range L.length)) :
    ∃ L2, (order.filterMap (es[·]?)).toList = rowsN w L2 ∧ L2.Perm L ∧ (L2.map fun p => p.2.hash w) = order.toList.map fun i => (es.map (·.1)).getD i 0 := by
  obtain ⟨e1, e3⟩ := picked L es hr order.toList fun i hi => List.mem_range.mp (hp.mem_iff.mp hi)
  refine ⟨_, by first | (rw [Array.toList_filterMap]; exact e1) | simpa using e1, ?_, e3⟩
  have h1 := hp.filterMap fun i => L[i]?
  rw [range_all L L.length (Nat.le_refl _), List.take_length] at h1
  exact h1
theorem put_in_perm {α : Type} (L : List α) (p : Nat) (x : α) : (L.take p ++ x :: L.drop p).Perm (x :: L) := by
  have h : (L.take p ++ x :: L.drop p).Perm (x :: (L.take p ++ L.drop p)) := List.perm_middle
  rwa [List.take_append_drop] at h
section
variable {P : Program} {w : World} {A : Around} {E : Value → Shared → Prop} {s : Shared} {a : Addr} {L : List (Addr × NestedKey)} {es : Array (Int × Value)} {ep : Nat} {t : SetTable}
theorem relay_key {o : Obj} (ho : s.heap.get? a = some o) (hex : o.ExactSet) (hd : o.data = .set es ep t) (hrows : es.toList = rowsN w L) (hsz : t.place.size = es.size) (hdm : t.dummies = #[]) (hfl : es.size ≤ t.mask)
    (nd : (L.map (·.2)).Nodup) (tup : ∀ p ∈ L, IsN s.heap p.2 p.1) (ld : w.params.followText "set-order" = true ∨ t.led = true) (few : L.length < 64) {wanted M : Nat}
    (hw : SetTable.sizeAbove wanted - 1 = M) (hM : MaskOk M) (hw2 : SetTable.sizeAbove wanted ≤ 128) (hn : L.length * 5 < M * 3) {Q : Unit → Shared → Prop}
    (hQ : ∀ h' L' es' ep' t', Heap.SameBut a s.heap h' → SetN w h' a L' es' ep' t' → L'.Perm L → Q () { s with heap := h' }) : wpAny (model P w) A (setRelay a wanted) Q E s := by
  have hsl : es.size = L.length := rowsN_len hrows
  have hfits : t.fits es.size = true := by
    unfold SetTable.fits SetTable.fill
    rw [hdm, Bool.and_eq_true, beq_iff_eq, decide_eq_true_eq]
    show t.place.size = es.size ∧ t.place.size + 0 ≤ t.mask
    omega
  obtain ⟨t', order, e, hp, T, em, el, _, ed⟩ := relaid_ok t (hs := es.map (·.1)) (wanted := wanted) hw hM (by rw [Array.size_map, hsl]; omega)
  rw [Array.size_map, hsl] at hp
  obtain ⟨L2, r1, r2, r3⟩ := ordered L es order hrows hp
  rw [← r3] at T
  have hs2 : (order.filterMap (es[·]?)).size = es.size := by rw [rowsN_len r1, r2.length_eq, hsl]
  rw [setRelay_eq]
  refine wpAny_bind (wpAny_setState_of ho hd hfits ?_)
  dsimp only
  refine wp_if_neg (by rw [sizeLine_eq]; omega) ?_
  try refine wpAny_bind (wpAny_pure ?_)
  rw [e]
  dsimp only
  refine wpAny_bind ?_
  refine wp_if_neg (by rw [hs2]; simp) ?_
  try refine wpAny_bind (wpAny_pure ?_)
  refine wpAny_pure ?_
  dsimp only
  refine wpAny_storeSet_of ho hd ?_ (by rw [hs2, hsl, sizeLine_eq]; omega)
  have sb : Heap.SameBut a s.heap (s.heap.update a (Obj.putSet (order.filterMap (es[·]?)) t')) := Heap.SameBut.update ..
  refine hQ _ L2 (order.filterMap (es[·]?)) (ep + 1) t' sb ?_ r2
  refine ⟨⟨_, store_at ho hd, ⟨hex.1, hex.2.1, hex.2.2⟩, rfl⟩, r1, T, (r2.map (·.2)).nodup_iff.mpr nd, fun p hpm => (tup p (r2.mem_iff.mp hpm)).same ho hd sb, by rw [el]; exact ld, ?_, by rw [r2.length_eq]; exact few⟩
  rw [r2.length_eq, em]
  exact hn
/-- putting in -/
theorem add_key (R : SetN w s.heap a L es ep t) {x : Addr} {k : NestedKey} (hx : IsN s.heap k x) (hu : A.units + 8 < cLine) (hfew : L.length + 1 < 64) {Q : Bool → Shared → Prop}
    (hQ : ∀ b h' L' es' ep' t', Heap.SameBut a s.heap h' → SetN w h' a L' es' ep' t' → (k ∈ L.map (·.2) → L' = L) → (k ∉ L.map (·.2) → L'.Perm ((x, k) :: L)) → Q b { s with heap := h' }) :
    wpAny (model P w) A (setAddHashed a (.ref x) (k.hash w)) Q E s := by
  obtain ⟨o, ho, hex, hd⟩ := R.ob
  have hsl := R.size
  have hroom := R.room
  generalize hz : k.hash w = z
  unfold setAddHashed
  refine wpAny_holding ?_
  rw [show (100000 : Nat) = 99999 + 1 from rfl, setAddHashedIn_succ]
  refine wpAny_bind (wpAny_setState_of ho hd R.fits ?_)
  dsimp only
  refine wp_if_neg (by simp [byScan, Value.scannable]) ?_
  try refine wpAny_bind (wpAny_pure ?_)
  refine wpAny_bind (look_at R hx hu hz (fun hm => ?_) fun K hm hK hb => ?_)
  · dsimp only
    exact wpAny_pure (hQ false s.heap L es ep t (Heap.SameBut.refl a s.heap) R (fun _ => rfl) fun y => absurd hm y)
  · dsimp only
    refine wpAny_bind (wpAny_setState_of ho hd R.fits ?_)
    dsimp only
    obtain ⟨q1, q2, q3, q4, q5, _, _, _, q9⟩ := R.tab.put hK hb
    generalize hpt : t.put (way t.mask z K) = pt at q1 q3 q4 q5 q9 ⊢
    obtain ⟨t1, p⟩ := pt
    dsimp only at q1 q3 q4 q5 q9 ⊢
    subst q1
    have fin : ∀ t2 : SetTable, t2.place = t1.place → t2.dummies = t1.dummies → t2.mask = t1.mask → t2.led = t1.led →
        wpAny (model P w) A (do
          storeSet a (SetTable.insertAt es (SetTable.below t.place (way t.mask z K)) (z, Value.ref x)) t2
          if (!false && t2.tooFull) = true then do
              setRelay a (SetTable.grown (es.size + 1))
              pure true
            else pure true) Q E s := by
      intro t2 g1 g2 g3 g4
      have q3 : TabOk t2 ((L.map fun p => p.2.hash w).take (SetTable.below t.place (way t.mask z K)) ++ z :: (L.map fun p => p.2.hash w).drop (SetTable.below t.place (way t.mask z K))) :=
        ⟨by rw [g1]; exact q3.ris, by rw [g2]; exact q3.dm, by rw [g1]; exact q3.sz, by rw [g3]; exact q3.mok, by rw [g1, g3]; exact q3.bd, by rw [g1, g3]; exact q3.reach⟩
      have q4 : t2.mask = t.mask := g3.trans q4
      have q9 : t2.fill = (L.map fun p => p.2.hash w).length + 1 := by
        rw [← q9]
        unfold SetTable.fill
        rw [g1, g2]
      have ld1 : w.params.followText "set-order" = true ∨ t2.led = true := by rw [g4, q5]; exact R.led
      have hin : (SetTable.insertAt es (SetTable.below t.place (way t.mask z K)) (z, Value.ref x)).toList = rowsN w (L.take (SetTable.below t.place (way t.mask z K)) ++ (x, k) :: L.drop (SetTable.below t.place (way t.mask z K))) := by
        rw [SetTable.toList_insertAt, R.rows, ← hz]
        unfold rowsN
        rw [List.map_append, List.map_cons, List.map_take, List.map_drop]
      generalize SetTable.below t.place (way t.mask z K) = p at q2 q3 hin ⊢
      have pm := put_in_perm L p (x, k)
      have hlen : (L.take p ++ (x, k) :: L.drop p).length = L.length + 1 := pm.length_eq
      have hhs : (L.take p ++ (x, k) :: L.drop p).map (fun p => p.2.hash w) = (L.map fun p => p.2.hash w).take p ++ z :: (L.map fun p => p.2.hash w).drop p := by
        rw [List.map_append, List.map_cons, List.map_take, List.map_drop, hz]
      rw [← hhs] at q3
      have nd1 : ((L.take p ++ (x, k) :: L.drop p).map (·.2)).Nodup := by
        refine (pm.map (·.2)).nodup_iff.mpr ?_
        rw [List.map_cons]
        exact List.nodup_cons.mpr ⟨hm, R.nd⟩
      have hes : (SetTable.insertAt es p (z, Value.ref x)).size = L.length + 1 := by rw [rowsN_len hin, hlen]
      generalize SetTable.insertAt es p (z, Value.ref x) = es1 at hin hes ⊢
      generalize L.take p ++ (x, k) :: L.drop p = L1 at pm hlen q3 nd1 hin
      refine wpAny_bind (wpAny_storeSet_of ho hd ?_ (by rw [hes, sizeLine_eq]; omega))
      have sb : Heap.SameBut a s.heap (s.heap.update a (Obj.putSet es1 t2)) := Heap.SameBut.update ..
      have ho1 := store_at (es' := es1) (t' := t2) ho hd
      generalize s.heap.update a (Obj.putSet es1 t2) = h1 at sb ho1 ⊢
      have tup1 : ∀ p ∈ L1, IsN h1 p.2 p.1 := fun p hp => by
        rcases List.mem_cons.mp (pm.mem_iff.mp hp) with e | hp
        · rw [e]; exact hx.same ho hd sb
        · exact (R.tup p hp).same ho hd sb
      by_cases hf : t2.tooFull = true
      · refine wp_if_pos (by simp [hf]) ?_
        refine wpAny_bind ?_
        have hfull : (L.length + 1) * 5 ≥ t2.mask * 3 := by
          have h := hf
          unfold SetTable.tooFull at h
          rw [decide_eq_true_eq, q9, List.length_map] at h
          exact h
        rw [hsl]
        have hsz1 : t2.place.size = es1.size := by
          have h := q3.sz
          rw [List.length_map, hlen] at h
          rw [h, hes]
        have cases2 : (t.mask = 7 ∧ L.length = 4) ∨ (t.mask = 31 ∧ L.length = 18) := by
          rcases R.tab.mok with e | e | e
          · left; rw [q4, e] at hfull; rw [e] at hroom; exact ⟨e, by omega⟩
          · right; rw [q4, e] at hfull; rw [e] at hroom; exact ⟨e, by omega⟩
          · exfalso; rw [q4, e] at hfull; omega
        have go : ∀ M, SetTable.sizeAbove (SetTable.grown (L.length + 1)) - 1 = M → MaskOk M → SetTable.sizeAbove (SetTable.grown (L.length + 1)) ≤ 128 → (L.length + 1) * 5 < M * 3 →
            wpAny (model P w) A (setRelay a (SetTable.grown (L.length + 1))) (fun _ s' => wpAny (model P w) A (pure true) Q E s') E { s with heap := h1 } := fun M h1' h2' h3' h4' => by
          refine relay_key (s := { s with heap := h1 }) ho1 ⟨hex.1, hex.2.1, hex.2.2⟩ rfl hin hsz1 q3.dm (by rw [hes, q4]; rcases cases2 with ⟨e, e2⟩ | ⟨e, e2⟩ <;> omega) nd1 tup1 ld1 (by rw [hlen]; exact hfew) h1' h2' h3' (by rw [hlen]; exact h4') ?_
          intro h2 L2 es2 ep2 t3 sb2 R2 pm2
          exact wpAny_pure (hQ true h2 L2 es2 ep2 t3 (sb.trans sb2) R2 (fun y => absurd y hm) fun _ => pm2.trans pm)
        rcases cases2 with ⟨_, e2⟩ | ⟨_, e2⟩
        · exact go 31 (by rw [e2, size_20]) (.inr (.inl rfl)) (by rw [e2, size_20]; decide) (by omega)
        · exact go 127 (by rw [e2, size_76]) (.inr (.inr rfl)) (by rw [e2, size_76]; decide) (by omega)
      · refine wp_if_neg (by simp [hf]) ?_
        refine wpAny_pure (hQ true h1 L1 es1 (ep + 1) t2 sb ⟨⟨_, ho1, ⟨hex.1, hex.2.1, hex.2.2⟩, rfl⟩, hin, q3, nd1, tup1, ld1, ?_, by rw [hlen]; exact hfew⟩ (fun y => absurd y hm) fun _ => pm)
        have h := hf
        unfold SetTable.tooFull at h
        rw [decide_eq_true_eq, q9, List.length_map] at h
        rw [hlen]
        omega
    by_cases hpl : t1.plain = true
    · refine wp_if_pos hpl ?_
      refine wpAny_bind (hashAns_key k _ 8 s hx.1 hx.2 _ _ _ fun b => ?_)
      cases b with
      | true => exact fin t1 rfl rfl rfl rfl
      | false => exact fin { t1 with plain := false } rfl rfl rfl rfl
    · refine wp_if_neg hpl ?_
      refine wpAny_bind (wpAny_pure ?_)
      exact fin t1 rfl rfl rfl rfl
end
end Fz
/-! A set of texts that can be walked: putting in. -/
namespace Fz
open PySem PySem.Spec PyProof.Rows L2
def txOf (e : Int × Value) : Str := match e.2 with | .str x _ => x | _ => ""
def TxE (w : World) (e : Int × Value) : Prop := ∃ x tk, e.2 = Value.str x tk ∧ e.1 = hashStr w x
/-- the set at a holds the texts l -/
def SetS (w : World) (h : Heap) (a : Addr) (l : List Str) : Prop :=
  ∃ o es ep t, h.get? a = some o ∧ o.ExactSet ∧ o.data = .set es ep t ∧ (∀ e ∈ es.toList, TxE w e) ∧ (es.toList.map txOf).Perm l ∧ l.Nodup ∧
    es.size < scanBound ∧ t.fits es.size = true ∧ Ris t.place.toList ∧ (w.params.followText "set-order" = true ∨ t.led = true)
section
variable {P : Program} {w : World} {A : Around} {E : Value → Shared → Prop} {s : Shared} {a : Addr} {l : List Str}
theorem SetS.keep {h h' : Heap} (R : SetS w h a l) (k : ∀ o, h.get? a = some o → h'.get? a = some o) : SetS w h' a l := by
  obtain ⟨o, es, ep, t, ho, r⟩ := R
  exact ⟨o, es, ep, t, k o ho, r⟩
theorem txE_elems {es : List (Int × Value)} (g : ∀ e ∈ es, TxE w e) : ElemsOf (PySem.strKind P w) es := fun e he => by
  obtain ⟨x, tk, h1, h2⟩ := g e he
  exact ⟨⟨x, by rw [h1]; exact strKind_is P w x tk, h2⟩, by rw [h1]; rfl⟩
theorem txE_is {e : Int × Value} (g : TxE w e) (x : Str) : (PySem.strKind P w).is x e.2 = true ↔ txOf e = x := by
  obtain ⟨y, tk, h1, _⟩ := g
  unfold txOf
  rw [h1]
  show ((y == x) = true) ↔ y = x
  exact beq_iff_eq
theorem setS_fresh {h : Heap} (ho : h.get? a = some { cls := .type "set", dict := none, data := .set #[] 0 (.fresh 0 0 (!w.params.followText "set-order")) }) : SetS w h a [] :=
  ⟨_, #[], 0, _, ho, ⟨rfl, rfl, rfl⟩, rfl, (fun e he => by simp at he), List.Perm.refl _, List.nodup_nil, by unfold scanBound; decide, rfl, List.Pairwise.nil, by
    show _ ∨ (!w.params.followText "set-order") = true
    cases w.params.followText "set-order"
    · exact .inr rfl
    · exact .inl rfl⟩
/-- what is stored behind the table's step -/
theorem tail_str {g : Bool → Sem Unit} (hg : ∀ (b : Bool) (s₁ : Shared) (Q' : Unit → Shared → Prop), Q' () s₁ → wpAny (model P w) A (g b) Q' E s₁)
    {o : Obj} {es : Array (Int × Value)} {ep : Nat} {t : SetTable} (ho : s.heap.get? a = some o) (hex : o.ExactSet) (hd : o.data = .set es ep t)
    {es1 : Array (Int × Value)} {t2 : SetTable} (g1 : ∀ e ∈ es1.toList, TxE w e) (pm1 : (es1.toList.map txOf).Perm l) (nd : l.Nodup)
    (hb1 : es1.size < scanBound) (hf2 : t2.fits es1.size = true) (hr : Ris t2.place.toList) (hl : w.params.followText "set-order" = true ∨ t2.led = true) {wasDummy : Bool} {R : Option Bool → Shared → Prop}
    (hR : ∀ h', Heap.SameBut a s.heap h' → SetS w h' a l → R (some true) { s with heap := h' }) :
    wpAny (model P w) A (do
        storeSet a es1 t2
        if (!wasDummy && t2.tooFull) = true then do
            g (relayAll t2 es1 (SetTable.grown es1.size)).2.2
            storeSet a (relayAll t2 es1 (SetTable.grown es1.size)).1 (relayAll t2 es1 (SetTable.grown es1.size)).2.1
            pure (some true)
          else pure (some true)) R E s := by
  refine wpAny_bind (wpAny_storeSet_of ho hd ?_ (fits_of_scanBound hb1))
  have ho1 := store_at (es' := es1) (t' := t2) ho hd
  have sb1 := Heap.SameBut.update s.heap a (Obj.putSet es1 t2)
  by_cases hc : (!wasDummy && t2.tooFull) = true
  · refine wp_if_pos hc ?_
    have pm := relayAll_perm t2 es1 (SetTable.grown es1.size)
    have hf3 := relayAll_fits t2 es1 (SetTable.grown es1.size)
    have hr3 := relayAll_ris t2 es1 (SetTable.grown es1.size)
    have hl3 := relayAll_led t2 es1 (SetTable.grown es1.size)
    generalize relayAll t2 es1 (SetTable.grown es1.size) = Z at pm hf3 hr3 hl3 ⊢
    obtain ⟨es2, t3, gave⟩ := Z
    dsimp only at pm hf3 hr3 hl3 ⊢
    have hsz : es2.size = es1.size := by rw [← Array.length_toList, pm.length_eq, Array.length_toList]
    have hb2 : es2.size < scanBound := by rw [hsz]; exact hb1
    refine wpAny_bind (hg _ _ _ ?_)
    refine wpAny_bind (wpAny_storeSet_of ho1 rfl ?_ (fits_of_scanBound hb2))
    have ho2 := store_at (es' := es2) (t' := t3) ho1 rfl
    exact wpAny_pure (hR _ (sb1.trans (Heap.SameBut.update _ a _)) ⟨_, es2, _, t3, ho2, hex, rfl, fun e he => g1 e (pm.mem_iff.mp he), (pm.map txOf).trans pm1, nd, hb2, hf3, hr3, hl.imp id fun z => by rw [hl3]; exact z⟩)
  · refine wp_if_neg hc ?_
    exact wpAny_pure (hR _ sb1 ⟨_, es1, _, t2, ho1, hex, rfl, g1, pm1, nd, hb1, hf2, hr, hl⟩)
theorem add_str {x : Str} {tk : Tok} {Q : Bool → Shared → Prop} (R : SetS w s.heap a l) (room : l.length + 1 < scanBound)
    (hQ : ∀ b h', Heap.SameBut a s.heap h' → SetS w h' a (if x ∈ l then l else x :: l) → Q b { s with heap := h' }) :
    wpAny (model P w) A (setAddHashed a (.str x tk) ((PySem.strKind P w).hash x)) Q E s := by
  obtain ⟨o, es, ep, t, ho, hex, hd, g, pml, nd, hb, hf, hr, hl⟩ := R
  have hn : es.size = l.length := by rw [← pml.length_eq, List.length_map, Array.length_toList]
  have hkey : (PySem.strKind P w).is x (.str x tk) = true := strKind_is P w x tk
  have hsc : (Value.str x tk).scannable = true := rfl
  have hel : ElemsOf (PySem.strKind P w) es.toList := txE_elems g
  unfold setAddHashed setAddHashedIn
  refine wpAny_holding (wpAny_bind (wpAny_setState_of ho hd hf ?_))
  dsimp only
  rw [byScan_of hsc hb hel]
  simp only [↓reduceIte]
  unfold setAddByScan
  refine wpAny_bind ?_
  refine wpAny_bind (wpAny_rule ?_)
  refine wpAny_bind (wpAny_setScan_of hkey ho hd hf hel ?_)
  cases hfi : List.findIdx? (fun e => (PySem.strKind P w).is x e.2) es.toList with
  | some j =>
    dsimp only
    obtain ⟨hj, pj, _⟩ := List.findIdx?_eq_some_iff_getElem.mp hfi
    have hm : x ∈ l := pml.mem_iff.mp (List.mem_map.mpr ⟨_, List.getElem_mem hj, (txE_is (P := P) (g _ (List.getElem_mem hj)) x).1 pj⟩)
    have q := hQ false s.heap (Heap.SameBut.refl a s.heap)
    rw [if_pos hm] at q
    exact wpAny_pure (wpAny_pure (q ⟨o, es, ep, t, ho, hex, hd, g, pml, nd, hb, hf, hr, hl⟩))
  | none =>
    dsimp only
    have hm : x ∉ l := fun z => by
      obtain ⟨e, he, q⟩ := List.mem_map.mp (pml.mem_iff.mpr z)
      have c := List.findIdx?_eq_none_iff.mp hfi e he
      rw [(txE_is (P := P) (g e he) x).2 q] at c
      cases c
    have hgw : ∀ (b : Bool) {s₁ : Shared} {Q' : Unit → Shared → Prop}, Q' () s₁ → wpAny (model P w) A (match b with | true => rule "set.scan.the-table-gave-way" | false => pure ()) Q' E s₁ :=
      fun b s₁ Q' q => by cases b <;> first | exact wpAny_pure q | exact wpAny_rule q
    have pm := layNew_perm t es ((PySem.strKind P w).hash x) (.str x tk)
    have hf1 := layNew_fits t es ((PySem.strKind P w).hash x) (.str x tk)
    have hr1 := layNew_ris t es ((PySem.strKind P w).hash x) (.str x tk) hr
    have hl1 := layNew_led t es ((PySem.strKind P w).hash x) (.str x tk)
    generalize layNew t es ((PySem.strKind P w).hash x) (.str x tk) = Z at pm hf1 hr1 hl1 ⊢
    obtain ⟨es1, t1, wasDummy, gave⟩ := Z
    dsimp only at pm hf1 hr1 hl1 ⊢
    rw [Array.toList_push] at pm
    have pc : es1.toList.Perm (((PySem.strKind P w).hash x, Value.str x tk) :: es.toList) := pm.trans (List.perm_append_singleton _ _)
    have pk : (es1.toList.map txOf).Perm (x :: l) := (pc.map txOf).trans (pml.cons x)
    have g1 : ∀ e ∈ es1.toList, TxE w e := fun e he => by
      rcases List.mem_cons.mp (pc.mem_iff.mp he) with z | z
      · rw [z]; exact ⟨x, tk, rfl, rfl⟩
      · exact g e z
    have nd1 : (x :: l).Nodup := List.nodup_cons.mpr ⟨hm, nd⟩
    have hb1 : es1.size < scanBound := by
      have e : es1.size = es.size + 1 := by rw [← Array.length_toList, pc.length_eq, List.length_cons, Array.length_toList]
      rw [e, hn]
      exact room
    have hled : w.params.followText "set-order" = true ∨ t1.led = true := hl.imp id fun z => by rw [hl1]; exact z
    have fin : ∀ h', Heap.SameBut a s.heap h' → SetS w h' a (x :: l) → Q true { s with heap := h' } := fun h' sb r => by
      have q := hQ true h' sb
      rw [if_neg hm] at q
      exact q r
    refine wpAny_bind (hgw _ ?_)
    by_cases hp : t1.plain = true
    · refine wp_if_pos hp ?_
      rw [hashByValue_scannable 8 hsc]
      refine wpAny_bind (wpAny_pure ?_)
      cases hk : plainKind (Value.str x tk) with
      | true =>
        simp only [if_true]
        refine tail_str ?_ ho hex hd g1 pk nd1 hb1 hf1 hr1 hled ?_
        · intro b s₁ Q' q; cases b <;> first | exact wpAny_pure q | exact wpAny_rule q
        · intro h' sb r; dsimp only; exact wpAny_pure (fin h' sb r)
      | false =>
        simp only [Bool.false_eq_true, if_false]
        refine tail_str ?_ ho hex hd g1 pk nd1 hb1 (SetTable.fits_plain_off hf1) hr1 hled ?_
        · intro b s₁ Q' q; cases b <;> first | exact wpAny_pure q | exact wpAny_rule q
        · intro h' sb r; dsimp only; exact wpAny_pure (fin h' sb r)
    · refine wp_if_neg hp ?_
      refine wpAny_bind (wpAny_pure ?_)
      simp only [if_true]
      refine tail_str ?_ ho hex hd g1 pk nd1 hb1 hf1 hr1 hled ?_
      · intro b s₁ Q' q; cases b <;> first | exact wpAny_pure q | exact wpAny_rule q
      · intro h' sb r; dsimp only; exact wpAny_pure (fin h' sb r)
end
end Fz
/-! set(xs), xs a list or a tuple: what holds behind each putting in holds behind all. -/
namespace Fz
open PySem PySem.Spec PyProof.Rows L2
def newSet (w : World) : Obj := { cls := .type "set", dict := none, data := .set #[] 0 (.fresh 0 0 (!w.params.followText "set-order")) }
/-- J i: what stands at S behind i items; h0: the heap before -/
structure Adds (P : Program) (w : World) (A : Around) (h0 : Heap) (S : Addr) (items : Array Value) (J : Nat → Heap → Prop) : Prop where
  keep : ∀ i h h', J i h → (∀ o, h.get? S = some o → h'.get? S = some o) → (∀ b o, h0.get? b = some o → h'.get? b = some o) → J i h'
  add : ∀ (i : Nat) (v : Value) (s : Shared) (E : Value → Shared → Prop) (Q : Bool → Shared → Prop), items[i]? = some v → J i s.heap → (∀ b o, h0.get? b = some o → s.heap.get? b = some o) →
    (∀ b h' tk, Heap.SameBut S s.heap h' → s.toks ≤ tk → J (i + 1) h' → Q b { s with heap := h', toks := tk }) → wpAny (model P w) A (setAdd S v) Q E s
section
variable {P : Program} {w : World} {A : Around} {E : Value → Shared → Prop} {s : Shared}
theorem set_loop {items : Array Value} {I : Addr} {fp wr : List Addr} {G : Array GenState → Array GenState → Prop} {St : Nat → Shared → Prop} {R : Result → Shared → Prop}
    (W : WalksS P w A.in1 I fp wr G items.size (fun i v => items[i]? = some v) St) (S : Addr) (hSf : S ∉ fp) (h0 : Heap) (hS0 : h0.get? S = none) (hw0 : ∀ b ∈ wr, h0.get? b = none) {J : Nat → Heap → Prop} (ad : Adds P w A.in1 h0 S items J) :
    ∀ (k i : Nat) (s : Shared), items.size - i = k → i ≤ items.size → St i s → (∀ b o, h0.get? b = some o → s.heap.get? b = some o) → J i s.heap →
      (∀ s', Moved (S :: wr) G s s' → J items.size s'.heap → (∀ b o, h0.get? b = some o → s'.heap.get? b = some o) → R (.ok (.ret .none)) s') →
      codeAny (model P w) A (.builtin "set.update.loop" ⟨[.ref S, .ref I], []⟩) R s := by
  have hSw : S ∉ wr := fun h => hSf (W.sub _ h)
  have hsub : ∀ b ∈ wr, b ∈ S :: wr := fun b hb => List.mem_cons_of_mem _ hb
  have keepM : ∀ {s s' : Shared}, Moved wr G s s' → (∀ b o, h0.get? b = some o → s.heap.get? b = some o) → ∀ b o, h0.get? b = some o → s'.heap.get? b = some o := fun hm hkp b o e =>
    hm.heap b o (fun hb => by rw [hw0 b hb] at e; cases e) (hkp b o e)
  intro k
  induction k with
  | zero =>
    intro i s hk' hi hst hkp hJ hR
    have hin : i = items.size := by omega
    subst hin
    refine codeAny_builtin F.entry_set_update_loop ?_
    rw [Around.under_plainId F.plain_set_update_loop _]
    show wpAny _ A.in1 (pyNext (.ref I) >>= _) _ _ s
    refine wpAny_bind (W.done s _ _ hst fun s' hm => ?_)
    show wpAny _ A.in1 (ret Value.none) _ _ s'
    have hkp' := keepM hm hkp
    exact wpAny_pure (hR s' (hm.mono hsub) (ad.keep _ _ _ hJ (fun o e => hm.heap S o hSw e) hkp') hkp')
  | succ k ih =>
    intro i s hk' hi hst hkp hJ hR
    have hlt : i < items.size := by omega
    refine codeAny_builtin F.entry_set_update_loop ?_
    rw [Around.under_plainId F.plain_set_update_loop _]
    show wpAny _ A.in1 (pyNext (.ref I) >>= _) _ _ s
    refine wpAny_bind (W.item i s _ _ hlt hst fun v s' hP hst' hm => ?_)
    have hkp' := keepM hm hkp
    show wpAny _ A.in1 (holding [v] (setAdd S v) >>= _) _ _ s'
    refine wpAny_bind (wpAny_holding ?_)
    refine ad.add i v s' _ _ hP (ad.keep _ _ _ hJ (fun o e => hm.heap S o hSw e) hkp') hkp' fun b h' tk hsb htk hJ' => ?_
    have hkp2 : ∀ b o, h0.get? b = some o → h'.get? b = some o := fun b o e => (hsb.2 b (fun z => by rw [z, hS0] at e; cases e)).trans (hkp' b o e)
    refine wpAny_pure ⟨plainId_quiet F.plain_set_update_loop _, ih (i + 1) _ (by omega) hlt (W.frame _ s' _ _ hst' htk fun b hb o e => ?_) hkp2 hJ' fun s'' hm'' hJ'' hkp'' => ?_⟩
    · rw [hsb.2 b (fun h : b = S => hSf (by rw [← h]; exact hb))]; exact e
    · refine hR s'' (Moved.trans W.gtrans ((hm.mono hsub).then_heap htk fun b o hb e => ?_) hm'') hJ'' hkp''
      rw [hsb.2 b (fun h : b = S => hb (by rw [h]; exact List.mem_cons_self))]; exact e
set_option maxHeartbeats 3200000 in
/-- set(xs) -/
theorem call_set_any {l : Addr} {items : Array Value} {J : Nat → Heap → Prop} {Q : Value → Shared → Prop} (hh : A.handled = none) (hl : s.heap.IsList l items ∨ s.heap.IsTuple l items)
    (ad : ∀ A' : Around, A'.units ≤ A.units + 3 → Adds P w A' s.heap s.heap.objs.size items J) (h0 : ∀ h : Heap, h.get? s.heap.objs.size = some (newSet w) → (∀ b o, s.heap.get? b = some o → h.get? b = some o) → J 0 h)
    (h : ∀ (h' : Heap) (tk : Nat), J items.size h' → (∀ b o, s.heap.get? b = some o → h'.get? b = some o) → Q (.ref s.heap.objs.size) { s with heap := h', toks := tk }) :
    wpAny (model P w) A (call (.type "set") [.ref l]) Q E s := by
  obtain ⟨c, tl, hmro⟩ := F.called_set.mro
  have hmade := F.called_set.made
  have hsub := F.called_set.sub
  refine wpAny_call (codeAny_of_tree ?_)
  show wpAny _ _ (callAny (.type "set") _) _ _ _
  refine wpAny_pure ⟨Code.quiet_builtin _ (by decide +kernel), codeAny_builtin F.entry_type_call ?_⟩
  rw [Around.under_plain (weight_type_call_type "set" [.ref l] []) rfl]
  have h1 := F.called_set.notType
  have h2 := F.called_set.canCreate
  have hct := F.typeCall_set_1 (.ref l)
  repeat (any_goals (first | assumption | wp_step))
  refine codeAny_mono (code_set_led1 (.ref l) (E := E) (Q₁ := fun obj s₁ => obj = .ref s.heap.objs.size ∧ s₁ = { s with heap := s.heap.push (newSet w) }) ⟨rfl, rfl⟩) fun r s₁ hr => ?_
  cases r with
  | error e => exact hr
  | ok fl =>
    cases fl with
    | ret obj =>
      obtain ⟨rfl, rfl⟩ := hr
      have hS : (s.heap.push (newSet w)).get? s.heap.objs.size = some (newSet w) := Heap.get?_push_size _ rfl
      have hT : Shared.TypeIs { s with heap := s.heap.push (newSet w) } (.ref s.heap.objs.size) "set" := ⟨_, hS, rfl⟩
      have hli := F.called_set.init.lookup
      have hbi := F.called_set.init.bind (.ref s.heap.objs.size)
      repeat (any_goals (first | assumption | wp_step))
      refine codeAny_mono (codeAny_call_builtin (R := wants (fun r s₂ => r = .none ∧ ∃ h' tk, s₂ = { s with heap := h', toks := tk } ∧ J items.size h' ∧ (∀ b o, s.heap.get? b = some o → h'.get? b = some o)) E) F.called_set.init.plain F.entry_set_init (check_set_init_1 hT ?_)) fun r₂ s₂ hr₂ => ?_
      · have none_of : ∀ b, s.heap.objs.size ≤ b → s.heap.get? b = none := fun b hb => by
          cases q : s.heap.get? b with
          | none => rfl
          | some o => exact absurd (Nat.lt_of_lt_of_le (Heap.lt_size q) hb) (Nat.lt_irrefl _)
        have hh3 : A.in1.in1.in1.handled = none := by simp [hh]
        have hu3 : A.in1.in1.in1.units ≤ A.units + 3 := by simp only [Around.in1_units]; omega
        have hz1 : (s.heap.push (newSet w)).objs.size = s.heap.objs.size + 1 := Heap.size_push ..
        have fin : ∀ (G : Array GenState → Array GenState → Prop) (wr : List Addr) (s0 s' : Shared), s0.gens = s.gens → s0.drawn = s.drawn → s0.os = s.os → s'.gens = s0.gens → s'.drawn = s0.drawn → s'.os = s0.os → J items.size s'.heap → (∀ b o, s.heap.get? b = some o → s'.heap.get? b = some o) →
            ∃ h' tk, s' = { s with heap := h', toks := tk } ∧ J items.size h' ∧ (∀ b o, s.heap.get? b = some o → h'.get? b = some o) := by
          intro G wr s0 s' a1 a2 a3 b1 b2 b3 hJ hk
          obtain ⟨h', g', d', tk', os'⟩ := s'
          have eg : g' = s.gens := b1.trans a1
          have ed : d' = s.drawn := b2.trans a2
          have eo : os' = s.os := b3.trans a3
          subst eg ed eo
          exact ⟨h', tk', rfl, hJ, hk⟩
        rcases hl with hl | hl
        · obtain ⟨ol, hol, hcl, nl, hdl⟩ := hl
          obtain ⟨ocls, odict, odata, oslots⟩ := ol
          simp only at hcl hdl
          subst hcl; subst hdl
          have hol' : (s.heap.push (newSet w)).get? l = some { cls := .type "list", dict := odict, data := .seq items nl, slots := oslots } := Heap.get?_push_of_some _ hol
          have hsls := F.sub_list_set
          have hslf := F.sub_list_frozenset
          have hne : (Value.type "list" == Value.type "dict") = false := by decide
          have hl1 : (s.heap.push (newSet w)).IsList l items := ⟨_, hol', rfl, nl, rfl⟩
          unfold Builtin.«set.__init__» noKeywords Builtin.Frozenset.updateFrom
          generalize hPI : pyIter = PI
          wp_walk
          subst hPI
          refine wpAny_pyIter_list hl1 ?_
          refine wpAny_bind (wpAny_runValue ?_)
          have hlS : l < s.heap.objs.size := Heap.lt_size hol
          have hneI : l ≠ (s.heap.push (newSet w)).objs.size := by rw [hz1]; exact Nat.ne_of_lt (Nat.lt_succ_of_lt hlS)
          have hSf : s.heap.objs.size ∉ [(s.heap.push (newSet w)).objs.size, l] := by
            rw [hz1]; simp only [List.mem_cons, List.mem_singleton, List.not_mem_nil, or_false, not_or]
            exact ⟨Nat.ne_of_lt (Nat.lt_succ_self _), Nat.ne_of_gt hlS⟩
          refine set_loop ((Walks.list hh3 _ l hneI items).toS) s.heap.objs.size hSf s.heap (none_of _ (Nat.le_refl _)) (fun b hb => none_of b (by
              rw [List.mem_singleton.mp hb, hz1]
              exact Nat.le_succ _)) (ad _ hu3) (items.size - 0) 0 _ (by omega) (Nat.zero_le _)
            ⟨⟨_, Heap.get?_push_size _ rfl, rfl, rfl⟩, (hl1.push _)⟩ (fun b o e => Heap.get?_push_of_some _ (Heap.get?_push_of_some _ e)) (h0 _ (Heap.get?_push_of_some _ hS) fun b o e => Heap.get?_push_of_some _ (Heap.get?_push_of_some _ e)) ?hR
          intro s' hm hJ' hkp
          have z := fin (fun _ _ => True) [] _ s' rfl rfl rfl hm.gens hm.drawn hm.os hJ' hkp
          show wpAny _ _ _ _ _ _
          refine wpAny_pure ?_
          show wpAny _ _ (ret Value.none) _ _ _
          exact wpAny_pure ⟨rfl, z⟩
        · obtain ⟨ol, hol, hcl, nl, hdl⟩ := hl
          obtain ⟨ocls, odict, odata, oslots⟩ := ol
          simp only at hcl hdl
          subst hcl; subst hdl
          have hol' : (s.heap.push (newSet w)).get? l = some { cls := .type "tuple", dict := odict, data := .seq items nl, slots := oslots } := Heap.get?_push_of_some _ hol
          have hsls := F.sub_tuple_set
          have hslf := F.sub_tuple_frozenset
          have hne : (Value.type "tuple" == Value.type "dict") = false := by decide
          have hl1 : (s.heap.push (newSet w)).IsTuple l items := ⟨_, hol', rfl, nl, rfl⟩
          unfold Builtin.«set.__init__» noKeywords Builtin.Frozenset.updateFrom
          generalize hPI : pyIter = PI
          wp_walk
          subst hPI
          refine wpAny_pyIter_tuple hl1 ?_
          refine wpAny_bind (wpAny_runValue ?_)
          have hlS : l < s.heap.objs.size := Heap.lt_size hol
          have hneI : l ≠ (s.heap.push (newSet w)).objs.size := by rw [hz1]; exact Nat.ne_of_lt (Nat.lt_succ_of_lt hlS)
          have hSf : s.heap.objs.size ∉ [(s.heap.push (newSet w)).objs.size, l] := by
            rw [hz1]; simp only [List.mem_cons, List.mem_singleton, List.not_mem_nil, or_false, not_or]
            exact ⟨Nat.ne_of_lt (Nat.lt_succ_self _), Nat.ne_of_gt hlS⟩
          refine set_loop ((Walks.tuple hh3 _ l hneI items).toS) s.heap.objs.size hSf s.heap (none_of _ (Nat.le_refl _)) (fun b hb => none_of b (by
              rw [List.mem_singleton.mp hb, hz1]
              exact Nat.le_succ _)) (ad _ hu3) (items.size - 0) 0 _ (by omega) (Nat.zero_le _)
            ⟨⟨_, Heap.get?_push_size _ rfl, rfl, rfl⟩, (hl1.push _)⟩ (fun b o e => Heap.get?_push_of_some _ (Heap.get?_push_of_some _ e)) (h0 _ (Heap.get?_push_of_some _ hS) fun b o e => Heap.get?_push_of_some _ (Heap.get?_push_of_some _ e)) ?hR2
          intro s' hm hJ' hkp
          have z := fin (fun _ _ => True) [] _ s' rfl rfl rfl hm.gens hm.drawn hm.os hJ' hkp
          show wpAny _ _ _ _ _ _
          refine wpAny_pure ?_
          show wpAny _ _ (ret Value.none) _ _ _
          exact wpAny_pure ⟨rfl, z⟩
      · cases r₂ with
        | error e => exact hr₂
        | ok fl₂ =>
          cases fl₂ with
          | ret r =>
            obtain ⟨rfl, h', tk, rfl, hJ', hk'⟩ := hr₂
            repeat (any_goals (first | assumption | wp_step))
            exact h _ _ hJ' hk'
          | _ => exact hr₂.elim
    | _ => exact hr.elim
end
end Fz
/-! sorted: the one list in order; what stands twice stands once. -/
namespace Fz
open PySem L2 PyProof PyProof.Rows
open PySem.W
open Enc (enc)
theorem perm_lift {α β : Type} {f : α → β} : ∀ {m : List β} {l : List α}, m.Perm (l.map f) → ∃ l' : List α, l'.Perm l ∧ m = l'.map f
  | [], l, h => by
    have e : l = [] := List.map_eq_nil_iff.mp (List.nil_perm.mp h)
    exact ⟨[], by rw [e], rfl⟩
  | b :: m, l, h => by
    obtain ⟨a, ha, e⟩ := List.mem_map.mp (h.mem_iff.mp List.mem_cons_self)
    obtain ⟨s, t, rfl⟩ := List.append_of_mem ha
    subst e
    have h2 : (f a :: m).Perm (f a :: (s ++ t).map f) := h.trans (by
      rw [List.map_append, List.map_cons, List.map_append]
      exact List.perm_middle)
    obtain ⟨l', p, e⟩ := perm_lift ((List.perm_cons _).mp h2)
    exact ⟨a :: l', (p.cons a).trans List.perm_middle.symm, by rw [e, List.map_cons]⟩
theorem map_inj {α β : Type} {f : α → β} (hf : ∀ a b, f a = f b → a = b) : ∀ {l m : List α}, l.map f = m.map f → l = m
  | [], [], _ => rfl
  | [], b :: m, h => nomatch h
  | a :: l, [], h => nomatch h
  | a :: l, b :: m, h => by
    rw [List.map_cons, List.map_cons] at h
    injection h with h1 h2
    rw [hf a b h1, map_inj hf h2]
theorem perm_inj {α β : Type} {f : α → β} (hf : ∀ a b, f a = f b → a = b) {l m : List α} (h : (l.map f).Perm (m.map f)) : l.Perm m := by
  obtain ⟨l', p, e⟩ := perm_lift h
  rw [map_inj hf e]
  exact p
/-! ### in order -/
theorem sorted_one {α : Type} {le : α → α → Bool} (anti : ∀ a b, le a b = true → le b a = true → a = b) : ∀ {l m : List α}, l.Pairwise (fun a b => le a b = true) → m.Pairwise (fun a b => le a b = true) → l.Perm m → l = m
  | [], m, _, _, p => (List.nil_perm.mp p).symm
  | a :: l, [], _, _, p => absurd p.length_eq (by simp)
  | a :: l, b :: m, h1, h2, p => by
    obtain ⟨a1, a2⟩ := List.pairwise_cons.mp h1
    obtain ⟨b1, b2⟩ := List.pairwise_cons.mp h2
    have e : a = b := by
      rcases List.mem_cons.mp (p.mem_iff.mp List.mem_cons_self) with e | ha
      · exact e
      · rcases List.mem_cons.mp (p.mem_iff.mpr List.mem_cons_self) with e | hb
        · exact e.symm
        · exact anti a b (a1 b hb) (b1 a ha)
    subst e
    rw [sorted_one anti a2 b2 ((List.perm_cons a).mp p)]
section
variable {α : Type} [DecidableEq α] [Srt α]
theorem toks_inj {a b : α} (h : keyToks (Datum.toD a) = keyToks (Datum.toD b)) : a = b := by
  by_cases e : a = b
  · exact e
  · have q : PyData.eqv (Datum.toD a) (Datum.toD b) = false := (Datum.eqv a b).trans (decide_eq_false e)
    have z := (toks_eqv _ _ (Lik.like a b)).2 q [] [.inl 0]
    rw [h, lex_pre, lex_irrefl] at z
    exact absurd z (by decide)
theorem le_anti (a b : α) (h1 : dataLe false (Datum.toD (α := α)) a b = true) (h2 : dataLe false (Datum.toD (α := α)) b a = true) : a = b := by
  have e1 : (!PyProof.Rows.lexLt itemOrd (keyToks (Datum.toD b)) (keyToks (Datum.toD a))) = true := h1
  have e2 : (!PyProof.Rows.lexLt itemOrd (keyToks (Datum.toD a)) (keyToks (Datum.toD b))) = true := h2
  rw [Bool.not_eq_true'] at e1 e2
  exact toks_inj (lex_total _ _ e2 e1)
theorem srtL_sorted (l : List α) : (srtL l).Pairwise (fun a b => dataLe false (Datum.toD (α := α)) a b = true) := sort_pairwise (sortLe_total _ _ _) l
theorem srtL_one {l m : List α} (p : l.Perm m) : srtL l = srtL m :=
  sorted_one le_anti (srtL_sorted l) (srtL_sorted m) ((srtL_perm l).trans (p.trans (srtL_perm m).symm))
/-- a list in order stays -/
theorem srtL_of {l : List α} (h : l.Pairwise (fun a b => dataLe false (Datum.toD (α := α)) a b = true)) : srtL l = l :=
  sorted_one le_anti (srtL_sorted l) h (srtL_perm l)
end
/-! ### each once -/
def dd {α : Type} [DecidableEq α] (l : List α) : List α := l.foldl (fun acc x => if x ∈ acc then acc else x :: acc) []
section
variable {α : Type} [DecidableEq α]
theorem dd_take {l : List α} {i : Nat} {x : α} (h : l[i]? = some x) : dd (l.take (i + 1)) = if x ∈ dd (l.take i) then dd (l.take i) else x :: dd (l.take i) := foldl_take h
theorem dd_go : ∀ (l acc : List α), acc.Nodup → (l.foldl (fun acc x => if x ∈ acc then acc else x :: acc) acc).Nodup ∧ ∀ x, x ∈ l.foldl (fun acc x => if x ∈ acc then acc else x :: acc) acc ↔ x ∈ acc ∨ x ∈ l
  | [], acc, nd => ⟨nd, fun x => ⟨.inl, fun h => h.elim id fun z => nomatch z⟩⟩
  | a :: l, acc, nd => by
    rw [List.foldl_cons]
    by_cases h : a ∈ acc
    · rw [if_pos h]
      obtain ⟨h1, h2⟩ := dd_go l acc nd
      refine ⟨h1, fun x => (h2 x).trans ⟨fun z => z.elim .inl fun y => .inr (List.mem_cons_of_mem _ y), fun z => z.elim .inl fun y => ?_⟩⟩
      rcases List.mem_cons.mp y with e | y
      · exact .inl (e ▸ h)
      · exact .inr y
    · rw [if_neg h]
      obtain ⟨h1, h2⟩ := dd_go l (a :: acc) (List.nodup_cons.mpr ⟨h, nd⟩)
      refine ⟨h1, fun x => (h2 x).trans ⟨fun z => ?_, fun z => ?_⟩⟩
      · rcases z with z | z
        · rcases List.mem_cons.mp z with e | z
          · exact .inr (e ▸ List.mem_cons_self)
          · exact .inl z
        · exact .inr (List.mem_cons_of_mem _ z)
      · rcases z with z | z
        · exact .inl (List.mem_cons_of_mem _ z)
        · rcases List.mem_cons.mp z with e | z
          · exact .inl (e ▸ List.mem_cons_self)
          · exact .inr z
theorem dd_nodup (l : List α) : (dd l).Nodup := (dd_go l [] List.nodup_nil).1
theorem mem_dd {l : List α} {x : α} : x ∈ dd l ↔ x ∈ l := ((dd_go l [] List.nodup_nil).2 x).trans ⟨fun z => z.elim (fun y => nomatch y) id, .inr⟩
theorem dd_of {l : List α} (h : l.Nodup) : (dd l).Perm l := (List.perm_ext_iff_of_nodup (dd_nodup l) h).mpr fun x => mem_dd
theorem dd_len (l : List α) : (dd l).length ≤ l.length := by
  have key : ∀ (l acc : List α), (l.foldl (fun acc x => if x ∈ acc then acc else x :: acc) acc).length ≤ acc.length + l.length := by
    intro l
    induction l with
    | nil => intro acc; exact Nat.le_refl _
    | cons a l ih =>
      intro acc
      rw [List.foldl_cons, List.length_cons]
      split
      · have := ih acc; omega
      · have := ih (a :: acc)
        rw [List.length_cons] at this
        omega
  have := key l []
  rw [List.length_nil, Nat.zero_add] at this
  exact this
end
end Fz
/-! sorted(set(xs)), len(set(xs)). -/
namespace Fz
open PySem PySem.Spec L2 PyProof PyProof.Rows
open PySem.W (Datum DatumOrd Tup T3)
open Enc (enc)
/-! ### rules as nested keys -/
def nkP (p : Pair) : NestedKey := .tup [.text p.1, .text p.2]
def nkPs (l : List Pair) : NestedKey := .tup (l.map nkP)
def nkR (r : Rule) : NestedKey := .tup [nkPs r.1.items, nkP r.2]
theorem nkP_inj (p q : Pair) (h : nkP p = nkP q) : p = q := by
  unfold nkP at h
  injection h with h
  injection h with h1 h2
  injection h2 with h2 _
  injection h1 with h1
  injection h2 with h2
  exact Prod.ext h1 h2
theorem nkR_inj (r q : Rule) (h : nkR r = nkR q) : r = q := by
  obtain ⟨⟨a⟩, b⟩ := r
  obtain ⟨⟨c⟩, d⟩ := q
  unfold nkR nkPs at h
  injection h with h
  injection h with h1 h2
  injection h2 with h2 _
  injection h1 with h1
  have e1 : a = c := map_inj nkP_inj h1
  have e2 : b = d := nkP_inj _ _ h2
  rw [e1, e2]
theorem nkPs_depth : ∀ l : List Pair, NestedKey.depthAll (l.map nkP) ≤ 1
  | [] => Nat.zero_le _
  | p :: l => by
    show max (nkP p).depth (NestedKey.depthAll (l.map nkP)) ≤ 1
    have h := nkPs_depth l
    have h2 : (nkP p).depth = 1 := rfl
    omega
theorem nkR_depth (r : Rule) : (nkR r).depth ≤ 8 := by
  show max (NestedKey.depthAll (r.1.items.map nkP) + 1) (max (nkP r.2).depth 0) + 1 ≤ 8
  have h := nkPs_depth r.1.items
  have h2 : (nkP r.2).depth = 1 := rfl
  omega
section
variable {X : Cx} {C : Addr} {pins : List (Addr × Obj)} {σ : L2.St} {H B : Hp} {s : Shared}
theorem nk_pair (I : L2.Inv X pins σ H s) (e : Same B H) {p : Pair} {v : V} {u : Value} (h : Rp X.K C B (enc p) v) (r : RelV v u) : NestedIs s.heap (nkP p) u := by
  obtain ⟨a, xs, rfl, h1, h2⟩ := Rp.mono e _ _ h
  cases (show u = Value.ref a from r)
  obtain ⟨its, rv, ⟨o, ho, hc, n, hd⟩, _⟩ := I.tuple h1
  obtain ⟨x, t, rfl, g1, y, t2, rfl, g2, g3⟩ := h2
  have g1 : x = V.str p.1 := g1
  have g2 : y = V.str p.2 := g2
  have g3 : t2 = [] := g3
  subst g1 g2 g3
  cases rv with
  | cons r1 rr =>
    cases rr with
    | cons r2 rr =>
      cases rr
      obtain ⟨t1, rfl⟩ := r1
      obtain ⟨t2, rfl⟩ := r2
      exact .tup ho hc hd (.cons (.text _ _) (.cons (.text _ _) .nil))
theorem nk_pairs (I : L2.Inv X pins σ H s) (e : Same B H) : ∀ {l : List Pair} {xs : List V} {us : List Value}, RpL X.K C B (l.map enc) xs → Vals xs us → NestedAll s.heap (l.map nkP) us
  | [], xs, us, h, r => by
    have h : xs = [] := h
    subst h
    cases r
    exact .nil
  | p :: l, xs, us, ⟨x, t, ex, h1, h2⟩, r => by
    subst ex
    cases r with
    | cons r1 r2 => exact .cons (nk_pair I e h1 r1) (nk_pairs I e h2 r2)
theorem nk_rule (I : L2.Inv X pins σ H s) (e : Same B H) {q : Rule} {v : V} (h : Rp X.K C B (enc q) v) : ∃ a, v = .ref a ∧ IsN s.heap (nkR q) a := by
  obtain ⟨a, xs, rfl, h1, h2⟩ := Rp.mono e _ _ h
  obtain ⟨its, rv, ⟨o, ho, hc, n, hd⟩, _⟩ := I.tuple h1
  obtain ⟨x, t, rfl, g1, y, t2, rfl, g2, g3⟩ := h2
  have g3 : t2 = [] := g3
  subst g3
  obtain ⟨b, ys, rfl, k1, k2⟩ := g1
  obtain ⟨its2, rv2, ⟨o2, ho2, hc2, n2, hd2⟩, _⟩ := I.tuple k1
  cases rv with
  | cons r1 rr =>
    cases rr with
    | cons r2 rr =>
      cases rr
      cases (show _ = Value.ref b from r1)
      refine ⟨a, rfl, .tup ho hc hd (.cons (.tup ho2 hc2 hd2 ?_) (.cons (nk_pair I (Same.refl _) g2 r2) .nil)), nkR_depth q⟩
      exact nk_pairs I (Same.refl _) (show RpL X.K C H (q.1.items.map enc) ys from k2) (by simpa using rv2)
end
/-! ### a set of texts -/
section
variable {P : Program} {w : World}
def txV (v : Value) : Str := match v with | .str x _ => x | _ => ""
theorem vals_txt : ∀ {xs : List Str} {us : List Value}, Vals (xs.map V.str) us → us.map txV = xs ∧ ∀ u ∈ us, ∃ x t, u = Value.str x t
  | [], _, .nil => ⟨rfl, fun u h => nomatch h⟩
  | x :: xs, _, .cons r t => by
    obtain ⟨k, rfl⟩ := r
    obtain ⟨h1, h2⟩ := vals_txt t
    refine ⟨by rw [List.map_cons, h1]; rfl, fun u hu => ?_⟩
    rcases List.mem_cons.mp hu with e | hu
    · exact ⟨x, k, e⟩
    · exact h2 u hu
theorem vals_of_txt : ∀ {us : List Value}, (∀ u ∈ us, ∃ x t, u = Value.str x t) → Vals ((us.map txV).map V.str) us
  | [], _ => .nil
  | u :: us, h => by
    obtain ⟨x, t, rfl⟩ := h u List.mem_cons_self
    exact .cons ⟨t, rfl⟩ (vals_of_txt fun u hu => h u (List.mem_cons_of_mem _ hu))
theorem adds_str {A : Around} {h0 : Heap} {S : Addr} {items : Array Value} {xs : List Str} (hv : Vals (xs.map V.str) items.toList) (hn : xs.length < 4000) : Adds P w A h0 S items (fun i h => SetS w h S (dd (xs.take i))) where
  keep := fun i h h' J k _ => J.keep k
  add := fun i v s E Q hi J _ hQ => by
    have hi2 : items.toList[i]? = some v := by rw [Array.getElem?_toList]; exact hi
    have hlt := (List.getElem?_eq_some_iff.mp hi2).1
    have hlx : i < xs.length := by
      rw [← hv.length, List.length_map] at hlt
      exact hlt
    obtain ⟨u, hu, t, e⟩ := hv.get (i := i) (x := .str xs[i]) (by rw [List.getElem?_map, List.getElem?_eq_getElem hlx]; rfl)
    rw [hi2] at hu
    have hu := Option.some.inj hu
    subst hu
    subst e
    unfold setAdd
    refine wpAny_holding ?_
    refine wpAny_bind ((PySem.strKind P w).pyHash (k := xs[i]) (strKind_is _ _ _ _) ?_)
    refine add_str (s := { s with toks := s.toks + 1 }) J (by have := dd_len (xs.take i); rw [List.length_take] at this; unfold scanBound; omega) fun b h' sb R => hQ b h' (s.toks + 1) sb (Nat.le_succ _) ?_
    rw [dd_take (List.getElem?_eq_getElem hlx)]
    exact R
end
section
variable {X : Cx} {C : Addr} {ρ : List Sl} {pos p p2 q : Pos} {e : Expr} {xs : List Str}
theorem seqs_of {pins : List (Addr × Obj)} {σ : L2.St} {H : Hp} {s : Shared} {P : Addr → Prop} {ds : List D} {d : D} {v : V} {u : Value} (I : L2.Inv X pins σ H s) (hd : d = .lst ds ∨ d = .tup ds) (h : Rp X.K C (mask P H) d v) (r : RelV v u) :
    ∃ (a : Addr) (ys : List V) (its : List Value), u = .ref a ∧ RpL X.K C (mask P H) ds ys ∧ Vals ys its ∧ (s.heap.IsList a its.toArray ∨ s.heap.IsTuple a its.toArray) := by
  rcases hd with rfl | rfl
  · obtain ⟨a, ys, rfl, h1, h2⟩ := h
    obtain ⟨its, rv, pl, hz⟩ := I.list (SqL.of (mask_le _ _ h1))
    exact ⟨a, ys, its, r, h2, rv, .inl pl.isList⟩
  · obtain ⟨a, ys, rfl, h1, h2⟩ := h
    obtain ⟨its, rv, pl, hz⟩ := I.tuple (sqT_same mask_le h1)
    exact ⟨a, ys, its, r, h2, rv, .inr pl⟩
/-- sorted(set(xs)), texts -/
theorem f_sortSetS {d : D} (hd : d = .lst (xs.map enc) ∨ d = .tup (xs.map enc)) (hc : X.calm = true) (hn : xs.length < 4000) (hu : X.A.units + 2 + Datum.depth Str < cLine) (hm : X.mg "sorted" = none) (hm2 : X.mg "set" = none) (ha : PE X e (tD X.K C ρ d)) (hg : Gl X "sorted" := by rfl) (hg2 : Gl X "set" := by rfl)
    (na : starEach [e] X.env = (false, eval e X.env) :: starEach [] X.env := by rfl) (nb : starEach [.Call (.Name "set" p2) [e] [] q] X.env = (false, eval (.Call (.Name "set" p2) [e] [] q) X.env) :: starEach [] X.env := by rfl) : PE X (.Call (.Name "sorted" p) [.Call (.Name "set" p2) [e] [] q] [] pos) (tF X.K C ρ ((srtL (dd xs)).map enc)) := by
  refine ⟨fun pins s σ H Q I ⟨F, P, r, k⟩ => ?_⟩
  refine Call_ (ld_blt I hg hm (show bootBuiltins "sorted" = some (.builtin "sorted") from rfl) ?_)
  refine PyProof.Rows.callWith_builtin1 (PyProof.Rows.args_cons ?_ nb) nb rfl
  refine Call_ (ld_blt I hg2 hm2 PyProof.Rows.boot_set ?_)
  refine PyProof.Rows.callWith_type1 (PyProof.Rows.args_cons (thn (ha.run pins s σ H (fun v H2 => Same H H2 ∧ Rp X.K C (mask P H2) d v) I ⟨F, P, r, fun v H2 e2 hv => ⟨e2, hv⟩⟩) fun u s1 ⟨x, H1, I1, r1, e1, hv⟩ => PyProof.Rows.args_nil ?_) na) na rfl
  obtain ⟨a, ys, its, rfl, h1, rv, hseq⟩ := seqs_of I1 hd hv r1
  have ey : ys = xs.map V.str := RpL.strs (l := xs) (show RpL X.K C (mask P H1) (xs.map D.str) ys from h1)
  subst ey
  have rt := r.trk.same e1
  refine call_set_any (w := X.w) (J := fun i h => SetS X.w h s1.heap.objs.size (dd (xs.take i))) (I1.ok.hd hc) hseq (fun A' _ => adds_str (by simpa using rv) hn) (fun h ho _ => setS_fresh ho) fun h' tk hJ hk => ?_
  have I2 : L2.Inv X pins σ H1 { s1 with heap := h', toks := tk } := I1.kept hk
  have hsz : its.toArray.size = xs.length := by rw [List.size_toArray, ← rv.length, List.length_map]
  rw [hsz, List.take_length] at hJ
  refine PyProof.Rows.args_nil ?_
  obtain ⟨o, es, ep, t, ho, hex, hdat, g, pml, nd, hb, hf, hr, hl⟩ := hJ
  refine sorted_core (α := Str) (C := C) (P := P) (G := fun bs => bs.Perm (dd xs)) I2 rt hu (fun Q' hQ' => ?_) fun bs p xs' hG hp hrp => ?_
  · refine collect_set (A := X.A.in1) (s := { s1 with heap := h', toks := tk }) (by simpa using I1.ok.hd hc) ⟨o, ho, hex.1, hdat⟩ hf hb hr hl fun s2 out k2 _ g2 o2 pm => ?_
    have hall : ∀ u ∈ out, ∃ x t, u = Value.str x t := fun u hu => by
      obtain ⟨e', he', ee⟩ := List.mem_map.mp (pm.mem_iff.mp hu)
      obtain ⟨x, tk, q1, _⟩ := g e' he'
      exact ⟨x, tk, ee.symm.trans q1⟩
    have pb : (out.map txV).Perm (dd xs) := by
      refine (pm.map txV).trans ?_
      rw [List.map_map]
      exact pml
    refine hQ' s2 out (out.map txV) ((out.map txV).map V.str) k2 g2 o2 pb ?_ (vals_of_txt hall) (RpL.ofStrs _)
    rw [pb.length_eq]
    exact Nat.le_trans (dd_len xs) (Nat.le_trans (Nat.le_of_lt hn) (by decide))
  · rw [srtL_one hG] at hrp
    have hp0 : H p = none := e1.free hp
    refine k p xs' _ hp0 (e1.trans (same_upd hp)) upd_same (RpL.mono (fun b o z => ?_) _ _ hrp)
    obtain ⟨z1, z2⟩ := mask_some z
    have nb : b ≠ p := ne_of_none z1 hp
    rw [mask_at (fun y => y.elim z2 nb), upd_ne nb]
    exact z1
/-- len(set(xs)), texts -/
theorem d_lenSetS {d : D} (hd : d = .lst (xs.map enc) ∨ d = .tup (xs.map enc)) (hc : X.calm = true) (hn : xs.length < 4000) (hm : X.mg "len" = none) (hm2 : X.mg "set" = none) (ha : PE X e (tD X.K C ρ d)) (hg : Gl X "len" := by rfl) (hg2 : Gl X "set" := by rfl)
    (na : starEach [e] X.env = (false, eval e X.env) :: starEach [] X.env := by rfl) (nb : starEach [.Call (.Name "set" p2) [e] [] q] X.env = (false, eval (.Call (.Name "set" p2) [e] [] q) X.env) :: starEach [] X.env := by rfl) : PE X (.Call (.Name "len" p) [.Call (.Name "set" p2) [e] [] q] [] pos) (tD X.K C ρ (.int ((dd xs).length : Nat))) := by
  refine ⟨fun pins s σ H Q I ⟨F, P, r, k⟩ => ?_⟩
  refine Call_ (ld_blt I hg hm boot_len ?_)
  refine PyProof.Rows.callWith_builtin1 (PyProof.Rows.args_cons ?_ nb) nb rfl
  refine Call_ (ld_blt I hg2 hm2 PyProof.Rows.boot_set ?_)
  refine PyProof.Rows.callWith_type1 (PyProof.Rows.args_cons (thn (ha.run pins s σ H (fun v H2 => Same H H2 ∧ Rp X.K C (mask P H2) d v) I ⟨F, P, r, fun v H2 e2 hv => ⟨e2, hv⟩⟩) fun u s1 ⟨x, H1, I1, r1, e1, hv⟩ => PyProof.Rows.args_nil ?_) na) na rfl
  obtain ⟨a, ys, its, rfl, h1, rv, hseq⟩ := seqs_of I1 hd hv r1
  have ey : ys = xs.map V.str := RpL.strs (l := xs) (show RpL X.K C (mask P H1) (xs.map D.str) ys from h1)
  subst ey
  refine call_set_any (w := X.w) (J := fun i h => SetS X.w h s1.heap.objs.size (dd (xs.take i))) (I1.ok.hd hc) hseq (fun A' _ => adds_str (by simpa using rv) hn) (fun h ho _ => setS_fresh ho) fun h' tk hJ hk => ?_
  have I2 : L2.Inv X pins σ H1 { s1 with heap := h', toks := tk } := I1.kept hk
  have hsz : its.toArray.size = xs.length := by rw [List.size_toArray, ← rv.length, List.length_map]
  rw [hsz, List.take_length] at hJ
  refine PyProof.Rows.args_nil ?_
  obtain ⟨o, es, ep, t, ho, hex, hdat, g, pml, nd, hb, hf, hr, hl⟩ := hJ
  have he : es.size = (dd xs).length := by rw [← pml.length_eq, List.length_map, Array.length_toList]
  have hle := dd_len xs
  refine call_len_set ho hex hdat hf (by rw [he]; omega) ⟨.int ((dd xs).length : Nat), H1, I2.tok _, ⟨_, by rw [he]⟩, k _ H1 e1 rfl⟩
end
/-! ### a set of rules -/
def JR (w : World) (S : Addr) (rs : List Rule) (ys : List V) (i : Nat) (h : Heap) : Prop :=
  ∃ L es ep t, SetN w h S L es ep t ∧ (L.map (·.2)).Perm ((dd (rs.take i)).map nkR) ∧ ∀ p ∈ L, ∃ (j : Nat) (r : Rule), rs[j]? = some r ∧ ys[j]? = some (V.ref p.1) ∧ p.2 = nkR r
theorem adds_rule {P : Program} {w : World} {A : Around} {h0 : Heap} {S : Addr} {items : Array Value} {rs : List Rule} {ys : List V} (hv : Vals ys items.toList) (hn : rs.length < 60) (hl : ys.length = rs.length) (hu : A.units + 8 < cLine)
    (hr : ∀ (j : Nat) (r : Rule), rs[j]? = some r → ∃ a, ys[j]? = some (V.ref a) ∧ IsN h0 (nkR r) a) : Adds P w A h0 S items (JR w S rs ys) where
  keep := fun i h h' ⟨L, es, ep, t, R, pm, hp⟩ kS k0 => by
    obtain ⟨o, ho, q⟩ := R.ob
    refine ⟨L, es, ep, t, ⟨⟨o, kS o ho, q⟩, R.rows, R.tab, R.nd, fun p hpL => ?_, R.led, R.room, R.few⟩, pm, hp⟩
    obtain ⟨j, r, e1, e2, e3⟩ := hp p hpL
    obtain ⟨a, e4, hN⟩ := hr j r e1
    rw [e2] at e4
    have e := V.ref.inj (Option.some.inj e4)
    rw [e3, e]
    exact hN.keep k0
  add := fun i v s E Q hi ⟨L, es, ep, t, R, pm, hp⟩ k0 hQ => by
    have hi2 : items.toList[i]? = some v := by rw [Array.getElem?_toList]; exact hi
    have hlt := (List.getElem?_eq_some_iff.mp hi2).1
    have hlx : i < rs.length := by
      rw [← hv.length, hl] at hlt
      exact hlt
    have er : rs[i]? = some rs[i] := List.getElem?_eq_getElem hlx
    obtain ⟨a, e4, hN⟩ := hr i _ er
    obtain ⟨u, hu2, ru⟩ := hv.get e4
    rw [hi2] at hu2
    have hu2 := Option.some.inj hu2
    subst hu2
    cases (show v = Value.ref a from ru)
    have hx : IsN s.heap (nkR rs[i]) a := hN.keep k0
    have hLl : L.length = (dd (rs.take i)).length := by
      have z := pm.length_eq
      rwa [List.length_map, List.length_map] at z
    have hdl := dd_len (rs.take i)
    rw [List.length_take] at hdl
    unfold setAdd
    refine wpAny_holding ?_
    refine wpAny_bind ((nestedKind P w).pyHash (k := nkR rs[i]) hu hx ?_)
    refine add_key (s := { s with toks := s.toks + (nestedKind P w).draws (nkR rs[i]) }) R hx hu (by omega) fun b h' L' es' ep' t' sb R' c1 c2 => hQ b h' _ sb (Nat.le_add_right _ _) ?_
    refine ⟨L', es', ep', t', R', ?_, ?_⟩
    · rw [dd_take er]
      by_cases hm : rs[i] ∈ dd (rs.take i)
      · have hm2 : nkR rs[i] ∈ L.map (·.2) := pm.mem_iff.mpr (List.mem_map.mpr ⟨_, hm, rfl⟩)
        rw [if_pos hm, c1 hm2]
        exact pm
      · have hm2 : nkR rs[i] ∉ L.map (·.2) := fun z => by
          obtain ⟨r2, hr2, e⟩ := List.mem_map.mp (pm.mem_iff.mp z)
          exact hm (nkR_inj _ _ e ▸ hr2)
        rw [if_neg hm, List.map_cons]
        exact (List.Perm.map (fun x : Addr × NestedKey => x.2) (c2 hm2)).trans (pm.cons (nkR rs[i]))
    · intro p hpL
      by_cases hm2 : nkR rs[i] ∈ L.map (·.2)
      · rw [c1 hm2] at hpL
        exact hp p hpL
      · rcases List.mem_cons.mp ((c2 hm2).mem_iff.mp hpL) with e | hpL
        · rw [e]
          exact ⟨i, _, er, e4, rfl⟩
        · exact hp p hpL
section
variable {X : Cx} {C : Addr} {ρ : List Sl} {pos p p2 q : Pos} {e : Expr} {rs : List Rule}
/-- sorted(set(xs)), rules -/
theorem f_sortSetR (hc : X.calm = true) (hn : rs.length < 60) (hu : X.A.units + 20 < cLine) (hm : X.mg "sorted" = none) (hm2 : X.mg "set" = none) (ha : PE X e (tD X.K C ρ (.tup (rs.map enc)))) (hg : Gl X "sorted" := by rfl) (hg2 : Gl X "set" := by rfl)
    (na : starEach [e] X.env = (false, eval e X.env) :: starEach [] X.env := by rfl) (nb : starEach [.Call (.Name "set" p2) [e] [] q] X.env = (false, eval (.Call (.Name "set" p2) [e] [] q) X.env) :: starEach [] X.env := by rfl) : PE X (.Call (.Name "sorted" p) [.Call (.Name "set" p2) [e] [] q] [] pos) (tF X.K C ρ ((srtL (dd rs)).map enc)) := by
  refine ⟨fun pins s σ H Q I ⟨F, P, r, k⟩ => ?_⟩
  refine Call_ (ld_blt I hg hm (show bootBuiltins "sorted" = some (.builtin "sorted") from rfl) ?_)
  refine PyProof.Rows.callWith_builtin1 (PyProof.Rows.args_cons ?_ nb) nb rfl
  refine Call_ (ld_blt I hg2 hm2 PyProof.Rows.boot_set ?_)
  refine PyProof.Rows.callWith_type1 (PyProof.Rows.args_cons (thn (ha.run pins s σ H (fun v H2 => Same H H2 ∧ Rp X.K C (mask P H2) (.tup (rs.map enc)) v) I ⟨F, P, r, fun v H2 e2 hv => ⟨e2, hv⟩⟩) fun u s1 ⟨x, H1, I1, r1, e1, hv⟩ => PyProof.Rows.args_nil ?_) na) na rfl
  obtain ⟨a, ys, its, rfl, h1, rv, hseq⟩ := seqs_of I1 (.inr rfl) hv r1
  have rt := r.trk.same e1
  have hlen : ys.length = rs.length := by rw [h1.length, List.length_map]
  have hrow : ∀ (j : Nat) (r : Rule), rs[j]? = some r → ∃ a, ys[j]? = some (V.ref a) ∧ Rp X.K C (mask P H1) (enc r) (V.ref a) ∧ IsN s1.heap (nkR r) a := fun j r hj => by
    obtain ⟨y, g1, g2⟩ := h1.get (i := j) (d := enc r) (by rw [List.getElem?_map, hj]; rfl)
    obtain ⟨b, rfl, hN⟩ := nk_rule I1 mask_le g2
    exact ⟨b, g1, g2, hN⟩
  refine call_set_any (w := X.w) (J := JR X.w s1.heap.objs.size rs ys) (I1.ok.hd hc) hseq (fun A' hA => adds_rule (by simpa using rv) hn hlen (by omega) fun j r hj => let ⟨b, g1, _, g3⟩ := hrow j r hj; ⟨b, g1, g3⟩) (fun h ho _ => ?_) fun h' tk hJ hk => ?_
  · exact ⟨[], #[], 0, _, ⟨⟨_, ho, ⟨rfl, rfl, rfl⟩, rfl⟩, rfl, ⟨List.Pairwise.nil, rfl, rfl, .inl rfl, fun x hx => (by cases hx), fun i h j hi => (by simp at hi)⟩, List.nodup_nil, fun p hp => (by cases hp), (by
      show _ ∨ (!X.w.params.followText "set-order") = true
      cases X.w.params.followText "set-order"
      · exact .inr rfl
      · exact .inl rfl), (by show 0 * 5 < 7 * 3; decide), (by show 0 < 64; decide)⟩, List.Perm.refl _, fun p hp => (by cases hp)⟩
  · have I2 : L2.Inv X pins σ H1 { s1 with heap := h', toks := tk } := I1.kept hk
    have hsz : its.toArray.size = rs.length := by rw [List.size_toArray, ← rv.length, hlen]
    rw [hsz] at hJ
    obtain ⟨L, es, ep, t, R, pm, hpL⟩ := hJ
    rw [List.take_length] at pm
    refine PyProof.Rows.args_nil ?_
    obtain ⟨o, ho, hex, hdat⟩ := R.ob
    have hfew := R.few
    have hd : Datum.depth Rule ≤ 10 := by decide
    have hud : X.A.units + 2 + Datum.depth Rule < cLine := by omega
    have hes : es.size = L.length := rowsN_len R.rows
    refine sorted_core (α := Rule) (C := C) (P := P) (G := fun bs => bs.Perm (dd rs)) I2 rt hud (fun Q' hQ' => ?_) fun bs p xs' hG hp hrp => ?_
    · refine collect_set (A := X.A.in1) (s := { s1 with heap := h', toks := tk }) (by simpa using I1.ok.hd hc) ⟨o, ho, hex.1, hdat⟩ (SetN.fits (s := { s1 with heap := h', toks := tk }) R) (by unfold scanBound; omega) R.tab.ris R.led fun s2 out k2 _ g2 o2 pmo => ?_
      have hom : es.toList.map (·.2) = L.map fun p => Value.ref p.1 := by
        rw [R.rows]
        unfold rowsN
        rw [List.map_map]
        rfl
      rw [hom] at pmo
      obtain ⟨L', pL, eo⟩ := perm_lift pmo
      have mk : ∀ L1 : List (Addr × NestedKey), (∀ p ∈ L1, p ∈ L) → ∃ (bs : List Rule) (zs : List V), bs.map nkR = L1.map (·.2) ∧ Vals zs (L1.map fun p => Value.ref p.1) ∧ RpL X.K C (mask P H1) (bs.map enc) zs := by
        intro L1
        induction L1 with
        | nil => intro _; exact ⟨[], [], rfl, .nil, rfl⟩
        | cons p L1 ih =>
          intro hs
          obtain ⟨bs, zs, q1, q2, q3⟩ := ih fun x hx => hs x (List.mem_cons_of_mem _ hx)
          obtain ⟨j, r, e1, e2, e3⟩ := hpL p (hs p List.mem_cons_self)
          obtain ⟨b, g1, g2, _⟩ := hrow j r e1
          rw [e2] at g1
          have e := V.ref.inj (Option.some.inj g1)
          refine ⟨r :: bs, V.ref p.1 :: zs, by rw [List.map_cons, List.map_cons, q1, e3], .cons rfl q2, V.ref p.1, zs, rfl, ?_, q3⟩
          rw [e]
          exact g2
      obtain ⟨bs, zs, q1, q2, q3⟩ := mk L' fun p hp => pL.mem_iff.mp hp
      have pb : bs.Perm (dd rs) := perm_inj nkR_inj (by rw [q1]; exact (pL.map (·.2)).trans pm)
      refine hQ' s2 out bs zs k2 g2 o2 pb ?_ (by rw [eo]; exact q2) q3
      rw [pb.length_eq]
      exact Nat.le_trans (dd_len rs) (Nat.le_trans (Nat.le_of_lt hn) (by decide))
    · rw [srtL_one hG] at hrp
      have hp0 : H p = none := e1.free hp
      refine k p xs' _ hp0 (e1.trans (same_upd hp)) upd_same (RpL.mono (fun b o z => ?_) _ _ hrp)
      obtain ⟨z1, z2⟩ := mask_some z
      have nb : b ≠ p := ne_of_none z1 hp
      rw [mask_at (fun y => y.elim z2 nb), upd_ne nb]
      exact z1
end
end Fz
set_option maxHeartbeats 4000000
/-! set_of, names_in, check_islands, check_once; starred displays. -/
namespace Fz
open PySem L2 PyProof PyProof.Rows
open PySem.W (Datum DatumOrd Tup T3)
open Enc (enc)
section
variable {X : Cx} {C : Addr} {ρ : List Sl} {p : Pos} {e : Expr} {es : List Expr} {l ds : List D}
/-- (*e, ..) -/
theorem a_star {d : D} (hd : d = .tup l ∨ d = .lst l) (he : PE X e (tD X.K C ρ d)) (hes : PA X es (tA X.K C ρ ds)) (hs : starEach (.Starred e p :: es) X.env = (true, eval e X.env) :: starEach es X.env := by rfl) : PA X (.Starred e p :: es) (tA X.K C ρ (l ++ ds)) :=
  pa_w (StX.pa_star he hes hs) fun σ H Q ⟨F, P, r, k⟩ => ⟨F, P, r, fun v H2 e2 hv => by
    have go : ∀ q xs, v = V.ref q → (SqT X.K H2 q xs ∨ SqL X.K H2 q xs) → RpL X.K C (mask P H2) l xs → ∃ p xs, v = V.ref p ∧ (SqT X.K H2 p xs ∨ SqL X.K H2 p xs) ∧ tA X.K C ρ ds σ H2 fun ys H3 => Q (xs ++ ys) H3 := fun q xs e1 g1 g2 =>
      ⟨q, xs, e1, g1, F, P, r.same e2, fun ys H3 e3 h3 => k _ H3 (e2.trans e3) ((RpL.mono (mask_same e3) _ _ g2).append h3)⟩
    rcases hd with rfl | rfl
    · obtain ⟨q, xs, e1, g1, g2⟩ := hv
      exact go q xs e1 (.inl (sqT_same mask_le g1)) g2
    · obtain ⟨q, xs, e1, g1, g2⟩ := hv
      exact go q xs e1 (.inr (SqL.of (mask_le _ _ g1))) g2⟩
end
section
variable {w : World} {K : PySem.W.Frag} {mg : Str → Option Value} {base : Heap} {C : Addr}
/-! ### set_of -/
def gSetS (ds : List D) (d : D) : Prop := ∃ xs : List Str, (ds = [.lst (xs.map enc)] ∨ ds = [.tup (xs.map enc)]) ∧ xs.length < 4000 ∧ d = .tup ((srtL (dd xs)).map enc)
def gSetR (ds : List D) (d : D) : Prop := ∃ rs : List Rule, ds = [.tup (rs.map enc)] ∧ rs.length < 60 ∧ d = .tup ((srtL (dd rs)).map enc)
theorem sc_set : FnScope ["some"] ["some"] (defScope (top 10)) := ⟨rfl, rfl, rfl, by decide +kernel, rfl, by decide +kernel, by decide +kernel⟩
theorem ok_setS (b : MgB mg) (h : DefAt K mg "set_of" 10) : Ok w K mg base C 1 "set_of" ["some"] gSetS := by
  obtain ⟨f, fd, F, m⟩ := h
  refine ⟨f, fd, fn_data F sc_set (fun ds d ⟨_, e, _⟩ => by rcases e with e | e <;> rw [e] <;> rfl) (fun cdv A outer s H E hr ds d hg Fr => ?_), m, F.kp, F.bindsN fun _ _ _ _ _ _ us hl => match us, hl with | [_], _ => rfl⟩
  obtain ⟨xs, e, hn, rfl⟩ := hg
  have hu : (A.deeper (envOfC "set_of" (defScope (top 10)) s.heap.objs.size f cdv)).units + 2 + Datum.depth Str < cLine := u_sort hr
  rcases e with rfl | rfl
  · exact b_stop (s_ret (d_t c_tupL b.tuple rfl (a1 (d_of_f (f_sortSetS (.inl rfl) rfl hn hu b.sorted b.set (dv 0))))))
  · exact b_stop (s_ret (d_t c_tupL b.tuple rfl (a1 (d_of_f (f_sortSetS (.inr rfl) rfl hn hu b.sorted b.set (dv 0))))))
theorem ok_setR (b : MgB mg) (h : DefAt K mg "set_of" 10) : Ok w K mg base C 1 "set_of" ["some"] gSetR := by
  obtain ⟨f, fd, F, m⟩ := h
  refine ⟨f, fd, fn_data F sc_set (fun ds d ⟨_, e, _⟩ => by rw [e] <;> rfl) (fun cdv A outer s H E hr ds d hg Fr => ?_), m, F.kp, F.bindsN fun _ _ _ _ _ _ us hl => match us, hl with | [_], _ => rfl⟩
  obtain ⟨rs, rfl, hn, rfl⟩ := hg
  have hu : (A.deeper (envOfC "set_of" (defScope (top 10)) s.heap.objs.size f cdv)).units + 20 < cLine := by have := hr.units; omega
  exact b_stop (s_ret (d_t c_tupL b.tuple rfl (a1 (d_of_f (f_sortSetR rfl hn hu b.sorted b.set (dv 0))))))
/-! ### names_in -/
def pnames (l : List Pair) : List Str := l.flatMap fun p => [p.1, p.2]
def gNin (ds : List D) (d : D) : Prop := ∃ l : List Pair, ds = [.tup (l.map enc)] ∧ l.length ≤ 10000 ∧ d = .lst ((pnames l).map enc)
def nNin : List Str := ["pairs", "pair", "name"]
theorem sc_nin : FnScope nNin ["pairs"] (defScope (top 39)) := ⟨rfl, rfl, rfl, by decide +kernel, rfl, by decide +kernel, by decide +kernel⟩
theorem pnames_len : ∀ l : List Pair, (pnames l).length = 2 * l.length
  | [] => rfl
  | p :: l => by
    show ([p.1, p.2] ++ pnames l).length = 2 * (l.length + 1)
    rw [List.length_append, pnames_len l]
    show 2 + 2 * l.length = _
    omega
theorem ok_nin (h : DefAt K mg "names_in" 39) : Ok w K mg base C 1 "names_in" ["pairs"] gNin := by
  obtain ⟨f, fd, F, m⟩ := h
  refine ⟨f, fd, fn_data F sc_nin (fun ds d ⟨_, e, _⟩ => by rw [e] <;> rfl) (fun cdv A outer s H E hr ds d hg Fr => ?_), m, F.kp, F.bindsN fun _ _ _ _ _ _ us hl => match us, hl with | [_], _ => rfl⟩
  obtain ⟨l, rfl, hz, rfl⟩ := hg
  refine b_stop (s_ret (d_of_f ?_))
  unfold pnames
  rw [List.map_flatMap]
  exact f_lc2 (own := [("pair", 1), ("name", 2)]) [2] l enc _ (fun a => [a.1, a.2]) (enc (α := Str)) _ (fun a b => enc b) rfl sc_nin.nd (bk nNin (defScope (top 39)) (by decide +kernel)) (by decide) (by
      have e := pnames_len l
      unfold pnames at e
      rw [e]
      exact Nat.le_trans (show 2 * l.length ≤ 20000 by omega) (by decide)) (by intro a ha; exact no_own rfl)
    (i_tup (dv 0)) (fun s H B cl fp a ha => g_name (i := 1) sc_nin.nd)
    (fun s H B cl fp a ha => i_tup (ds := [enc a.1, enc a.2]) (dv 1)) (fun s H B cl fp q ha => g_name (i := 2) sc_nin.nd) (fun s H B cl fp q ha => dv 2)
/-! ### check_islands -/
def gChk (ds : List D) (d : D) : Prop := ∃ I l : List Str, ds = [.tup (I.map enc), .lst (l.map enc)] ∧ (∀ x ∈ l, x ∈ I) ∧ d = .non
def nChk : List Str := ["islands", "names", "name"]
theorem sc_chk : FnScope nChk ["islands", "names"] (defScope (top 41)) := ⟨rfl, rfl, rfl, by decide +kernel, rfl, by decide +kernel, by decide +kernel⟩
theorem ok_chk (h : DefAt K mg "check_islands" 41) : Ok w K mg base C 1 "check_islands" ["islands", "names"] gChk := by
  obtain ⟨f, fd, F, m⟩ := h
  refine ⟨f, fd, fn_none F sc_chk (fun ds d ⟨_, _, e, _, hd⟩ => by rw [e]; exact ⟨rfl, hd⟩) (fun cdv A outer s H E hr ds d hg Fr => ?_), m, F.kp, F.bindsN fun _ _ _ _ _ _ us hl => match us, hl with | [_, _], _ => rfl⟩
  obtain ⟨I, l, rfl, hin, rfl⟩ := hg
  let ρf : Unit → List Sl := fun _ => [.dat (.tup (I.map enc)), .dat (.lst (l.map enc)), .no]
  refine ⟨ρf (), n_one (s_for (vs := [2]) l enc (fun u _ => u) (fun _ _ => True) ρf _ () PassesOwn.never rfl trivial (fun _ _ _ _ _ => trivial) (i_list (dv 1)) (fun i u x hx _ => g_name (i := 2) sc_chk.nd) (fun i u x hx _ => ?_))⟩
  have hm := hin x (List.mem_of_getElem? hx)
  exact n_no (ρ1 := [.dat (.tup (I.map enc)), .dat (.lst (l.map enc)), .dat (enc x)]) [2] (n_one (s_ifF (pt_eq (decide_eq_false (not_not_intro hm)) (t_cmp (o_ninT (a := x) (l := I) (u_in hr)) (dv 2) (dv 0))) n_nil))
/-! ### check_once -/
def gOnc (ds : List D) (d : D) : Prop := ∃ l : List Str, ds = [.lst (l.map enc)] ∧ l.Nodup ∧ d = .non
def nOnc : List Str := ["names", "place", "name"]
theorem sc_onc : FnScope nOnc ["names"] (defScope (top 42)) := ⟨rfl, rfl, rfl, by decide +kernel, rfl, by decide +kernel, by decide +kernel⟩
theorem ok_onc (b : MgB mg) (h : DefAt K mg "check_once" 42) : Ok w K mg base C 1 "check_once" ["names"] gOnc := by
  obtain ⟨f, fd, F, m⟩ := h
  refine ⟨f, fd, fn_none F sc_onc (fun ds d ⟨_, e, _, hd⟩ => by rw [e]; exact ⟨rfl, hd⟩) (fun cdv A outer s H E hr ds d hg Fr => ?_), m, F.kp, F.bindsN fun _ _ _ _ _ _ us hl => match us, hl with | [_], _ => rfl⟩
  obtain ⟨l, rfl, nd, rfl⟩ := hg
  let ρf : Unit → List Sl := fun _ => [.dat (.lst (l.map enc)), .no, .no]
  refine ⟨ρf (), n_one (s_for (vs := [1, 2]) l.zipIdx (fun q => D.tup [.int (q.2 : Nat), enc q.1]) (fun u _ => u) (fun _ _ => True) ρf _ () PassesOwn.never rfl trivial (fun _ _ _ _ _ => trivial) (by rw [← numb_map]; exact i_enumL (by rfl) b.enumerate (dv 0)) (fun i u x hx _ => g_tup rfl (gs_cons (g_name (i := 1) sc_onc.nd) (gs_cons (g_name (i := 2) sc_onc.nd) gs_nil))) (fun i u q hq _ => ?_))⟩
  obtain ⟨e1, e2⟩ := zipIdx_at hq
  have hm : q.1 ∉ l.take q.2 := fun z => by
    rw [e1] at z
    obtain ⟨j, hj, e3⟩ := List.getElem_of_mem z
    rw [List.length_take] at hj
    rw [List.getElem_take] at e3
    have hl := (List.getElem?_eq_some_iff.mp e2)
    obtain ⟨h1, h2⟩ := hl
    exact absurd (e3.trans h2.symm) (List.pairwise_iff_getElem.mp nd j i (by omega) h1 (by omega))
  have ec : cutD (l.map (enc (α := Str))) none (some (q.2 : Int)) = (l.take q.2).map enc := (cutD_to _ _).trans List.map_take.symm
  refine n_no (ρ1 := [.dat (.lst (l.map enc)), .dat (.int (q.2 : Nat)), .dat (enc q.1)]) [1, 2] (n_one (s_ifF (pt_eq (decide_eq_false hm) (t_cmp (o_inL (a := q.1) (l := l.take q.2) (u_in hr)) (dv 2) ?_)) n_nil))
  rw [← ec]
  exact d_of_f (f_slL (dv 0) op_none (op_some (dv 1)))
end
end Fz
/-! An object under making: its slots are stored one by one; then it is data. -/
namespace Fz
open PySem L2 PyProof PyProof.Rows
open PySem.W (Datum DatumOrd Tup T3)
open Enc (enc)
def Ov (K : PySem.W.Frag) (C : Addr) (B : Hp) : List (Option D) → List (Option V) → Prop
  | [], [] => True
  | none :: os, none :: vs => Ov K C B os vs
  | some d :: os, some v :: vs => Rp K C B d v ∧ Ov K C B os vs
  | _, _ => False
theorem Ov.mono {K : PySem.W.Frag} {C : Addr} {B B' : Hp} (e : Same B B') : ∀ (os : List (Option D)) (vs : List (Option V)), Ov K C B os vs → Ov K C B' os vs
  | [], [], h => h
  | none :: os, none :: vs, h => Ov.mono e os vs h
  | some d :: os, some v :: vs, h => ⟨Rp.mono e _ _ h.1, Ov.mono e os vs h.2⟩
  | [], _ :: _, h => h
  | none :: _, [], h => h
  | some _ :: _, [], h => h
  | none :: _, some _ :: _, h => h
  | some _ :: _, none :: _, h => h
def calmR (ρ : List Sl) : Bool := ρ.all calmS
theorem calm_no {ρ : List Sl} (h : calmR ρ = true) : (∀ (i : Nat) φ, ρ[i]? ≠ some (Sl.ow φ)) ∧ ∀ (i : Nat) φ, ρ[i]? ≠ some (Sl.ur φ) :=
  ⟨fun i φ q => no_own h i (.inl ⟨φ, q⟩), fun i φ q => no_own h i (.inr ⟨φ, q⟩)⟩
/-- x and dx are lent, what is private besides: Pc -/
def frI (Pc : Addr → Prop) (H : Hp) (x dx : Addr) : Frm := ⟨fun a => Pc a ∨ a = x ∨ a = dx, H, fun a => a = x ∨ a = dx⟩
section
variable {K : PySem.W.Frag} {C : Addr} {Pc P : Addr → Prop} {H0 H H' : Hp} {σ : L2.St} {ρ : List Sl} {x dx : Addr}
theorem Rep.poke (r : Rep K C (frI Pc H0 x dx) P H σ ρ) (hc : calmR ρ = true) (k : ∀ b o, b ≠ x → b ≠ dx → H b = some o → H' b = some o) (hx : ∃ o, H' x = some o) (hdx : ∃ o, H' dx = some o) : Rep K C (frI Pc H0 x dx) P H' σ ρ ∧ Same (mask P H) (mask P H') := by
  have px : P x := r.le x (.inr (.inl rfl))
  have pdx : P dx := r.le dx (.inr (.inr rfl))
  have ms : Same (mask P H) (mask P H') := fun b o z => by
    obtain ⟨z1, z2⟩ := mask_some z
    rw [mask_at z2]
    exact k b o (fun e => z2 (e ▸ px)) (fun e => z2 (e ▸ pdx)) z1
  refine ⟨⟨r.wfU, r.wfP, r.le, r.fr, fun b o z n => k b o (fun e => n (.inl e)) (fun e => n (.inr e)) (r.ex b o z n), fun b hb => ?_, fun i d z => ?_, fun i φ z => absurd z ((calm_no hc).1 i φ), fun i φ z => absurd z ((calm_no hc).2 i φ), r.inj, r.len⟩, ms⟩
  · by_cases e : b = x
    · rw [e]; exact hx
    · by_cases e2 : b = dx
      · rw [e2]; exact hdx
      · obtain ⟨o, z⟩ := r.trk b hb
        exact ⟨o, k b o e e2 z⟩
  · obtain ⟨v, h1, h2⟩ := r.dat i d z
    exact ⟨v, h1, Rp.mono ms d v h2⟩
theorem rep_startI {N : List Str} {ws : List V} {ds : List D} (t : Trk Pc H) (hx : ∃ o, H x = some o) (hdx : ∃ o, H dx = some o) (nx : ¬ Pc x) (ndx : ¬ Pc dx) (h : RpL K C (mask (fun a => Pc a ∨ a = x ∨ a = dx) H) ds ws) (hl : ws.length + 1 ≤ N.length) :
    Rep K C (frI Pc H x dx) (fun a => Pc a ∨ a = x ∨ a = dx) H (L2.start N (.ref x :: ws)) (.no :: (ds.map Sl.dat ++ List.replicate (N.length - (ds.length + 1)) Sl.no)) := by
  have e := h.length
  have no : ∀ {i : Nat} {s}, (ds.map Sl.dat ++ List.replicate (N.length - (ds.length + 1)) Sl.no)[i]? = some s → s = .no ∨ ∃ d, ds[i]? = some d ∧ s = .dat d := fun {i s} q => by
    by_cases hi : i < ds.length
    · rw [List.getElem?_append_left (by simpa using hi), List.getElem?_map] at q
      cases z : ds[i]? with
      | none => rw [z] at q; cases q
      | some d =>
        rw [z] at q
        exact .inr ⟨d, rfl, (Option.some.inj q).symm⟩
    · rw [List.getElem?_append_right (by simpa using hi), List.getElem?_replicate] at q
      split at q
      · exact .inl (Option.some.inj q).symm
      · cases q
  have own0 : ∀ {i : Nat}, ¬ IsOwn (.no :: (ds.map Sl.dat ++ List.replicate (N.length - (ds.length + 1)) Sl.no)) i := fun {i} q => by
    cases i with
    | zero =>
      rcases q with ⟨φ, q⟩ | ⟨φ, q⟩
      · cases q
      · cases q
    | succ i =>
      rcases q with ⟨φ, q⟩ | ⟨φ, q⟩
      · rcases no (i := i) (by simpa using q) with z | ⟨d, _, z⟩ <;> cases z
      · rcases no (i := i) (by simpa using q) with z | ⟨d, _, z⟩ <;> cases z
  have tr : Trk (fun a => Pc a ∨ a = x ∨ a = dx) H := fun a ha => by
    rcases ha with ha | ha | ha
    · exact t a ha
    · rw [ha]; exact hx
    · rw [ha]; exact hdx
  refine ⟨fun a z => .inr z, tr, fun a z => z, fun a z => .inl z, fun a o q _ => q, tr, fun i d q => ?_, fun i φ q => absurd (.inl ⟨φ, q⟩) own0, fun i φ q => absurd (.inr ⟨φ, q⟩) own0, fun i j b hi hj _ _ => absurd hi own0, ?_⟩
  · cases i with
    | zero => cases q
    | succ i =>
      rcases no (i := i) (by simpa using q) with z | ⟨d', h1, h2⟩
      · cases z
      · cases h2
        obtain ⟨y, h3, h4⟩ := h.get h1
        refine ⟨y, ?_, h4⟩
        unfold L2.start
        have hi := (List.getElem?_eq_some_iff.mp h3).1
        rw [List.getElem?_append_left (by simpa using hi), List.getElem?_map, List.getElem?_cons_succ, h3]
        rfl
  · unfold L2.start
    simp
    omega
end
section
variable (K : PySem.W.Frag) (C : Addr)
/-- a slot is stored -/
def tIn (Pc : Addr → Prop) (H0 : Hp) (x dx : Addr) (ρ : List Sl) (os os' : List (Option D)) : TS := fun D σ H => ∃ P vs, Rep K C (frI Pc H0 x dx) P H σ ρ ∧ σ[0]? = some (some (.ref x)) ∧ SlX.Slt H x C dx vs ∧ Ov K C (mask P H) os vs ∧
  ∀ vs' H', Rep K C (frI Pc H0 x dx) P H' σ ρ → SlX.Slt H' x C dx vs' → Ov K C (mask P H') os' vs' → D.nx σ H'
/-- to the end -/
def tEn (Pc : Addr → Prop) (H0 : Hp) (x dx : Addr) (ρ : List Sl) (os : List (Option D)) (d : D) : TS := fun D σ H => ∃ P vs, Rep K C (frI Pc H0 x dx) P H σ ρ ∧ σ[0]? = some (some (.ref x)) ∧ SlX.Slt H x C dx vs ∧ Ov K C (mask P H) os vs ∧
  ∀ σ' H', (∀ b o, b ≠ x → b ≠ dx → H0 b = some o → H' b = some o) → Rp K C (mask Pc H') d (.ref x) → D.nx σ' H'
def spI (g : List D → D → Prop) : Sp := fun vs H Q _ => ∃ P x dx ws ds d, Trk P H ∧ ¬ P x ∧ ¬ P dx ∧ dx ≠ x ∧ H dx = some (.own x) ∧ H x = some (.ins C dx []) ∧ vs = .ref x :: ws ∧ RpL K C (mask (fun a => P a ∨ a = x ∨ a = dx) H) ds ws ∧ g ds d ∧
  ∀ H', (∀ b o, b ≠ x → b ≠ dx → H b = some o → H' b = some o) → Rp K C (mask P H') d (.ref x) → Q .non H'
end
section
variable {X : Cx} {C : Addr} {Pc : Addr → Prop} {H0 : Hp} {x dx : Addr} {ρ ρ2 ρ3 : List Sl} {os os1 : List (Option D)} {d dI dR dF : D} {st : Stmt} {rest : List Stmt} {e : Expr} {pos pos' px : Pos}
theorem s_slot {f : Str} {pS : Addr} {i : Nat} (c : TalkK X.K C) (sl : SlX.Slot1 X.K C f pS i) (hne : dx ≠ x) (hc : calmR ρ = true) (he : PE X e (tD X.K C ρ d)) (put : ∀ B vs v, Ov X.K C B os vs → Rp X.K C B d v → Ov X.K C B os1 (SlX.putS i v vs)) (hN : X.N[0]? = some ("self" : Str) := by rfl) (hv : Vis X.env.scope "self" := by first | exact Or.inl rfl | exact Or.inr (Or.inl rfl) | exact Or.inr (Or.inr rfl))
    (hs : swapsWith e (some (.Attribute (.Name "self" px) f pos')) pos.line X.env = pure false := by rfl) : PS X (.Assign [.Attribute (.Name "self" px) f pos'] e pos) (tIn X.K C Pc H0 x dx ρ os os1) :=
  ps_w (SlX.ps_sl (pe_var hN hv (by decide) (by decide)) he hs) fun D σ H ⟨P, vs, r, h0, h1, h2, k⟩ => ⟨_, P, r, fun v H2 e2 hv => ⟨.ref x, h0, x, C, dx, pS, vs, i, rfl, slt_same e2 h1, c.cls, sl, by
    obtain ⟨r3, s3⟩ := (r.same e2).poke (H' := SlX.slH H2 x C dx (SlX.putS i v vs)) hc (fun b o n1 n2 z => by rw [SlX.slH_ne n1 n2]; exact z) ⟨_, upd_same⟩ ⟨_, by unfold SlX.slH; rw [upd_ne hne, upd_same]⟩
    exact k _ _ r3 (SlX.slH_slt hne) (put _ _ _ (Ov.mono ((mask_same e2).trans s3) _ _ h2) (Rp.mono s3 _ _ hv))⟩⟩
theorem in_step (h : PS X st (tIn X.K C Pc H0 x dx ρ os os1)) (h2 : PSs X rest (tEn X.K C Pc H0 x dx ρ os1 d)) : PSs X (st :: rest) (tEn X.K C Pc H0 x dx ρ os d) :=
  pss_w (pss_cons h h2) fun D σ H ⟨P, vs, r, h0, h1, h2, k⟩ => ⟨P, vs, r, h0, h1, h2, fun vs' H' r' h1' h2' => ⟨P, vs', r', h0, h1', h2', k⟩⟩
theorem in_done {sts : List Stmt} (nx : ¬ Pc x) (ndx : ¬ Pc dx) (hc : calmR ρ2 = true) (h0 : ρ2[0]? = some (.dat (.obj dI dR dF))) (hρ : ∀ i, ρ2[i + 1]? = ρ[i + 1]?) (hl : ρ2.length = ρ.length) (h : ∀ F, PSs X sts (tN X.K C F ρ2 ρ3)) : PSs X sts (tEn X.K C Pc H0 x dx ρ [some dF, some dI, some dR] (.obj dI dR dF)) := by
  refine pss_w (t := fun D σ H => ∃ F, True ∧ tN X.K C F ρ2 ρ3 D σ H) (pss_famP (p := fun _ => True) fun F _ => h F) fun D σ H ⟨P, vs, r, s0, h1, h2, k⟩ => ?_
  have le : ∀ a, Pc a → P a := fun a z => r.le a (.inl z)
  have ml : Same (mask P H) (mask Pc H) := mask_less le
  match vs, h2 with
  | [some vf, some vi, some vr], ⟨hf, hi, hr, _⟩ =>
    have sx : mask Pc H x = H x := mask_at nx
    have sdx : mask Pc H dx = H dx := mask_at ndx
    have hobj : Rp X.K C (mask Pc H) (.obj dI dR dF) (.ref x) := by
      refine ⟨x, dx, vi, vr, vf, rfl, ?_, Rp.mono ml _ _ hi, Rp.mono ml _ _ hr, Rp.mono ml _ _ hf⟩
      rcases h1 with ⟨_, z⟩ | ⟨z1, z2⟩
      · cases z
      · exact .inr ⟨by rw [sx]; exact z1, by rw [sdx]; exact z2⟩
    have tr : Trk Pc H := fun a z => r.trk a (le a z)
    refine ⟨⟨Pc, H, fun _ => False⟩, trivial, Pc, ⟨fun a z => z.elim, tr, fun a z => z, fun a z => .inl z, fun a o z _ => z, tr, fun i d z => ?_, fun i φ z => absurd z ((calm_no hc).1 i φ), fun i φ z => absurd z ((calm_no hc).2 i φ), fun i j b hi _ _ _ => absurd hi (no_own hc i), by rw [hl]; exact r.len⟩, fun P' σ' H' r' s' => k σ' H' (fun b o n1 n2 z => ?_) ?_⟩
    · cases i with
      | zero =>
        rw [h0] at z
        cases z
        exact ⟨_, s0, hobj⟩
      | succ i =>
        rw [hρ i] at z
        obtain ⟨v, g1, g2⟩ := r.dat _ d z
        exact ⟨v, g1, Rp.mono ml _ _ g2⟩
    · exact r'.ex b o (r.ex b o z fun y => y.elim n1 n2) fun y => y
    · refine Rp.mono (fun b o z => ?_) _ _ hobj
      obtain ⟨z1, z2⟩ := mask_some z
      rw [mask_at z2]
      exact r'.ex b o z1 fun y => y
end
end Fz
/-! Talk.__init__, Talk(..). -/
namespace Fz
open PySem L2 PyProof PyProof.Rows
open PySem.W (Datum DatumOrd Tup T3)
open Enc (enc)
/-- what is made of islands, rules, floods -/
def talkD (xs : List Str) (R : List Rule) (Fl : List Flood) : D := .obj (.tup ((srtL (dd xs)).map enc)) (.tup ((srtL (dd R)).map enc)) (.tup ((srtL Fl).map enc))
structure TalkOk (xs : List Str) (R : List Rule) (Fl : List Flood) : Prop where
  lx : xs.length < 4000
  lR : R.length < 60
  lF : Fl.length < 60
  rule : ∀ r ∈ R, (∀ p ∈ r.1.items, p.1 ∈ xs ∧ p.2 ∈ xs) ∧ (r.2.1 ∈ xs ∧ r.2.2 ∈ xs) ∧ r.1.items.length ≤ 1000
  flood : ∀ f ∈ Fl, (∀ p ∈ f.b.items, p.1 ∈ xs ∧ p.2 ∈ xs) ∧ (∀ p ∈ f.c.items, p.1 ∈ xs ∧ p.2 ∈ xs) ∧ f.b.items.length ≤ 1000 ∧ f.c.items.length ≤ 1000
  once : (Fl.map (·.a)).Nodup
theorem mem_pnames {l : List Pair} {x : Str} (h : x ∈ pnames l) : ∃ p ∈ l, x = p.1 ∨ x = p.2 := by
  obtain ⟨p, hp, hx⟩ := List.mem_flatMap.mp h
  refine ⟨p, hp, ?_⟩
  rcases List.mem_cons.mp hx with e | hx
  · exact .inl e
  · exact .inr (List.mem_singleton.mp hx)
theorem mem_srtdd {α : Type} [DecidableEq α] [Srt α] {l : List α} {x : α} : x ∈ srtL (dd l) ↔ x ∈ l := (srtL_perm (dd l)).mem_iff.trans mem_dd
def gIni (ds : List D) (d : D) : Prop := ∃ (xs : List Str) (R : List Rule) (Fl : List Flood) (dI dR dF : D), ds = [dI, dR, dF] ∧ (dI = .lst (xs.map enc) ∨ dI = .tup (xs.map enc)) ∧ okD 4 dR = true ∧ tupD 4 dR = .tup (R.map enc) ∧ okD 4 dF = true ∧ tupD 4 dF = .tup (Fl.map enc) ∧ TalkOk xs R Fl ∧ d = talkD xs R Fl
/-- the class can be made, by its __init__ -/
def EmptyAt (K : PySem.W.Frag) (v : V) : Prop := ∃ a o n, v = .ref a ∧ K.lookup a = some o ∧ o.cls = .type "tuple" ∧ o.data = .seq #[] n
def InitAt (K : PySem.W.Frag) (mg : Str → Option Value) (C : Addr) : Prop := ∃ f fd v1 v2 v3, Mk K C f ∧ mg "Talk" = some (.ref C) ∧ EmptyAt K v1 ∧ EmptyAt K v2 ∧ EmptyAt K v3 ∧ FunD K "__init__" "Talk.__init__" (defArgs (inClass (top 43) 1)) (defBody (inClass (top 43) 1)) (defScope (inClass (top 43) 1)) [v1, v2, v3] [] f fd
/-- what one may make -/
def OkI (w : World) (K : PySem.W.Frag) (mg : Str → Option Value) (base : Heap) (C : Addr) (k : Nat) (g : List D → D → Prop) : Prop :=
  ∃ f fd, Mk K C f ∧ mg "Talk" = some (.ref C) ∧ FnOk pr w K mg base CX0 k f fd ["self", "islands", "rules", "floods"] (spI K C g) ∧ Binds K fd ["self", "islands", "rules", "floods"] [] ∧ ∃ v1 v2 v3 ds, EmptyAt K v1 ∧ EmptyAt K v2 ∧ EmptyAt K v3 ∧ Vals [v1, v2, v3] ds ∧ Binds K fd ["self", "islands", "rules", "floods"] ds
section
variable {w : World} {K : PySem.W.Frag} {mg : Str → Option Value} {base : Heap} {C : Addr}
def nIni : List Str := ["self", "islands", "rules", "floods", "wants", "gives", "name", "joined", "parted"]
theorem sc_ini : FnScope nIni ["self", "islands", "rules", "floods"] (defScope (inClass (top 43) 1)) := ⟨rfl, rfl, rfl, by decide +kernel, rfl, by decide +kernel, by decide +kernel⟩
theorem ov_1 {d : D} (B : Hp) (vs : List (Option V)) (v : V) (h1 : Ov K C B [] vs) (h2 : Rp K C B d v) : Ov K C B [none, some d] (SlX.putS 1 v vs) := by
  cases vs with
  | nil => exact ⟨h2, trivial⟩
  | cons _ _ => exact h1.elim
theorem ov_2 {d d2 : D} (B : Hp) (vs : List (Option V)) (v : V) (h1 : Ov K C B [none, some d] vs) (h2 : Rp K C B d2 v) : Ov K C B [none, some d, some d2] (SlX.putS 2 v vs) := by
  cases vs with
  | nil => exact h1.elim
  | cons a vs =>
    cases a with
    | some _ => exact h1.elim
    | none =>
      cases vs with
      | nil => exact h1.elim
      | cons b vs =>
        cases b with
        | none => exact h1.elim
        | some v1 =>
          cases vs with
          | nil => exact ⟨h1.1, h2, trivial⟩
          | cons _ _ => exact h1.2.elim
theorem ov_3 {d d2 d3 : D} (B : Hp) (vs : List (Option V)) (v : V) (h1 : Ov K C B [none, some d, some d2] vs) (h2 : Rp K C B d3 v) : Ov K C B [some d3, some d, some d2] (SlX.putS 0 v vs) := by
  cases vs with
  | nil => exact h1.elim
  | cons a vs =>
    cases a with
    | some _ => exact h1.elim
    | none =>
      cases vs with
      | nil => exact h1.elim
      | cons b vs =>
        cases b with
        | none => exact h1.elim
        | some v1 =>
          cases vs with
          | nil => exact h1.2.elim
          | cons b vs =>
            cases b with
            | none => exact h1.2.elim
            | some v2 =>
              cases vs with
              | nil => exact ⟨h2, h1.1, h1.2.1, trivial⟩
              | cons _ _ => exact h1.2.2.elim
theorem ok_ini (c : TalkK K C) (b : MgB mg) (h : InitAt K mg C) (oS : Ok w K mg base C 1 "set_of" ["some"] gSetS) (oR : Ok w K mg base C 1 "set_of" ["some"] gSetR) (oT : Ok w K mg base C 5 "tupled" ["value"] (gTpd 4)) (oN : Ok w K mg base C 1 "names_in" ["pairs"] gNin) (oC : Ok w K mg base C 1 "check_islands" ["islands", "names"] gChk) (oO : Ok w K mg base C 1 "check_once" ["names"] gOnc) : OkI w K mg base C 6 gIni := by
  obtain ⟨f, fd, v1, v2, v3, M, m, y1, y2, y3, F⟩ := h
  obtain ⟨ds0, q0, b0⟩ := F.binds1 (ps := ["self", "islands", "rules", "floods"]) 4 3 (by simp) rfl fun T kV doc pm an cdv ct us its hu hi => match us, its, hu, hi with | [_, _, _, _], [_, _, _], _, _ => ⟨_, rfl, rfl⟩
  obtain ⟨ds1, q1, b1⟩ := F.binds1 (ps := ["self", "islands", "rules", "floods"]) 1 0 (by simp) rfl fun T kV doc pm an cdv ct us its hu hi => match us, its, hu, hi with | [_], [_, _, _], _, _ => ⟨_, rfl, rfl⟩
  cases q0
  refine ⟨f, fd, M, m, F.ok sc_ini (fun vs H Q E ⟨P, x, dx, ws, ds, d, _, _, _, _, _, _, e, h, ⟨_, _, _, _, _, _, e2, _⟩, _⟩ => by rw [e, List.length_cons, h.length, e2]; rfl) (fun cdv A outer s H vs Q E hr ⟨P, x, dx, ws, ds, d, t, nx, ndx, hne, hdx, hx, e, h, hg, q⟩ => ?_), b0, v1, v2, v3, ds1, y1, y2, y3, q1, b1⟩
  subst e
  obtain ⟨xs, R, Fl, dI, dR, dF, rfl, hI, okR, eR, okF, eF, T, rfl⟩ := hg
  have hl : ws.length + 1 ≤ nIni.length := by
    rw [h.length]
    exact (by decide : 3 + 1 ≤ 9)
  have r0 := rep_startI (C := C) (N := nIni) t ⟨_, hx⟩ ⟨_, hdx⟩ nx ndx h hl
  have hr1 := hr.mono (show 1 ≤ 5 by decide)
  refine ⟨tEn K C P H x dx [.no, .dat dI, .dat dR, .dat dF, .no, .no, .no, .no, .no] [] (talkD xs R Fl), PSs.nox (?_ : PSs _ _ _), ?_⟩
  · refine in_step (os1 := [none, some (.tup ((srtL (dd xs)).map enc))]) (s_slot (pS := c.slI.choose) (i := 1) (d := .tup ((srtL (dd xs)).map enc)) c c.slI.choose_spec hne rfl (d_fn oS rfl hr1 (a1 (dv 1)) ⟨xs, by rcases hI with e | e <;> rw [e] <;> simp, T.lx, rfl⟩) ?_) ?_
    · exact ov_1
    refine in_step (os1 := [none, some (.tup ((srtL (dd xs)).map enc)), some (.tup ((srtL (dd R)).map enc))]) (s_slot (pS := c.slR.choose) (i := 2) (d := .tup ((srtL (dd R)).map enc)) c c.slR.choose_spec hne rfl ?_ ?_) ?_
    · refine d_fn oR rfl hr1 (a1 (d := .tup (R.map enc)) ?_) ⟨R, rfl, T.lR, rfl⟩
      exact d_fn oT rfl hr (a1 (dv 2)) ⟨dR, rfl, okR, eR.symm⟩
    · exact ov_2
    refine in_step (os1 := [some (.tup ((srtL Fl).map enc)), some (.tup ((srtL (dd xs)).map enc)), some (.tup ((srtL (dd R)).map enc))]) (s_slot (pS := c.slF.choose) (i := 0) (d := .tup ((srtL Fl).map enc)) c c.slF.choose_spec hne rfl (d_t c_tupL b.tuple rfl (a1 (d_of_f (f_cb (c_sortT (l := Fl) (u_sort hr)) b.sorted rfl (a1 (d_fn oT rfl hr (a1 (dv 3)) ⟨dF, rfl, okF, eF.symm⟩)))))) ?_) ?_
    · exact ov_3
    let ρf : Unit → List Sl := fun _ => [.dat (talkD xs R Fl), .dat dI, .dat dR, .dat dF, .no, .no, .no, .no, .no]
    refine in_done (ρ2 := ρf ()) (ρ3 := ρf ()) nx ndx rfl rfl (fun i => rfl) rfl fun Fr => ?_
    have inI : ∀ l : List Str, (∀ y ∈ l, y ∈ xs) → ∀ y ∈ l, y ∈ srtL (dd xs) := fun l hl y hy => mem_srtdd.mpr (hl y hy)
    refine n_step (s_for (vs := [4, 5]) R enc (fun u _ => u) (fun _ _ => True) ρf _ () PassesOwn.never rfl trivial (fun _ _ _ _ _ => trivial) (i_tup (d_fn oT rfl hr (a1 (dv 2)) ⟨dR, rfl, okR, eR.symm⟩)) (fun i u r hr' _ => g_tup rfl (gs_cons (g_name (i := 4) sc_ini.nd) (gs_cons (g_name (i := 5) sc_ini.nd) gs_nil))) (fun i u r hr' _ => ?_)) ?_
    · have hm := T.rule r (List.mem_of_getElem? hr')
      refine n_no (ρ1 := [.dat (talkD xs R Fl), .dat dI, .dat dR, .dat dF, .dat (enc r.1), .dat (enc r.2), .no, .no, .no]) [4, 5] (n_one (s_drop (d := .non) (d_fn oC rfl hr1 (a2 (d_slI c (dv 0)) (d_fn oN rfl hr1 (a1 (d_tup (a_star (l := r.1.items.map enc) (.inl rfl) (dv 4) (a1 (dv 5))) ?_)) ⟨r.1.items ++ [r.2], ?_, ?_, rfl⟩)) ⟨srtL (dd xs), pnames (r.1.items ++ [r.2]), rfl, inI _ fun y hy => ?_, rfl⟩)))
      · have h1 := hm.2.2
        simp only [List.length_append, List.length_map, List.length_cons, List.length_nil, sizeLine_eq]
        omega
      · rw [List.map_append]
        rfl
      · have h1 := hm.2.2
        simp only [List.length_append, List.length_cons, List.length_nil]
        omega
      · obtain ⟨p, hp, e⟩ := mem_pnames hy
        rcases List.mem_append.mp hp with hp | hp
        · rcases e with e | e
          · rw [e]; exact (hm.1 p hp).1
          · rw [e]; exact (hm.1 p hp).2
        · rw [List.mem_singleton.mp hp] at e
          rcases e with e | e
          · rw [e]; exact hm.2.1.1
          · rw [e]; exact hm.2.1.2
    refine n_step (s_for (vs := [6, 7, 8]) Fl enc (fun u _ => u) (fun _ _ => True) ρf _ () PassesOwn.never rfl trivial (fun _ _ _ _ _ => trivial) (i_tup (d_fn oT rfl hr (a1 (dv 3)) ⟨dF, rfl, okF, eF.symm⟩)) (fun i u r hr' _ => g_tup rfl (gs_cons (g_name (i := 6) sc_ini.nd) (gs_cons (g_name (i := 7) sc_ini.nd) (gs_cons (g_name (i := 8) sc_ini.nd) gs_nil)))) (fun i u r hr' _ => ?_)) ?_
    · have hm := T.flood r (List.mem_of_getElem? hr')
      refine n_no (ρ1 := [.dat (talkD xs R Fl), .dat dI, .dat dR, .dat dF, .no, .no, .dat (enc r.a), .dat (enc r.b), .dat (enc r.c)]) [6, 7, 8] (n_one (s_drop (d := .non) (d_fn oC rfl hr1 (a2 (d_slI c (dv 0)) (d_fn oN rfl hr1 (a1 (d_tup (a_star (l := r.b.items.map enc) (.inl rfl) (dv 7) (a_star (l := r.c.items.map enc) (.inl rfl) (dv 8) a_nil)) ?_)) ⟨r.b.items ++ r.c.items, ?_, ?_, rfl⟩)) ⟨srtL (dd xs), pnames (r.b.items ++ r.c.items), rfl, inI _ fun y hy => ?_, rfl⟩)))
      · have h1 := hm.2.2
        simp only [List.length_append, List.length_map, List.length_nil, sizeLine_eq]
        omega
      · rw [List.map_append, List.append_nil]
      · have h1 := hm.2.2
        simp only [List.length_append]
        omega
      · obtain ⟨p, hp, e⟩ := mem_pnames hy
        rcases List.mem_append.mp hp with hp | hp
        · rcases e with e | e
          · rw [e]; exact (hm.1 p hp).1
          · rw [e]; exact (hm.1 p hp).2
        · rcases e with e | e
          · rw [e]; exact (hm.2.1 p hp).1
          · rw [e]; exact (hm.2.1 p hp).2
    refine n_one (s_drop (d := .non) (d_fn oO rfl hr1 (a1 (d_of_f (f_map (own := [("name", 6), ("joined", 7), ("parted", 8)]) Fl enc (fun fl => enc fl.a) _ rfl sc_ini.nd (blkOk_by (by kernel_rfl)) (i_tup (d_fn oT rfl hr (a1 (dv 3)) ⟨dF, rfl, okF, eF.symm⟩)) (fun s H B cl fp a ha => g_tup rfl (gs_cons (g_name (i := 6) sc_ini.nd) (gs_cons (g_name (i := 7) sc_ini.nd) (gs_cons (g_name (i := 8) sc_ini.nd) gs_nil)))) (fun s H B cl fp a ha => dv 6)))) ⟨Fl.map (·.a), by rw [List.map_map]; rfl, T.once, rfl⟩))
  · exact ⟨_, [], r0, rfl, .inl ⟨hx, rfl⟩, trivial, fun σ' H' k1 k2 => q H' k1 k2⟩
end
section
variable {X : Cx} {C : Addr} {ρ : List Sl} {p pos : Pos} {e : Expr} {es : List Expr} {ds : List D} {d : D} {k : Nat} {g : List D → D → Prop}
/-- Talk(..) -/
theorem d_make (o : OkI X.w X.K X.mg X.base C k g) (hp : X.prog = pr) (hr : Room (k + 1) X.A) (ha : PA X (e :: es) (tA X.K C ρ ds)) (h : g ds d) (hg : Gl X "Talk" := by rfl)
    (he : starEach (e :: es) X.env = (false, eval e X.env) :: starEach es X.env := by rfl) (hpl : (backTo pos (starEach es X.env)).any (·.1) = false := by rfl) : PE X (.Call (.Name "Talk" p) (e :: es) [] pos) (tD X.K C ρ d) := by
  obtain ⟨f, fd, M, m, G, b, _⟩ := o
  rw [← hp] at G
  exact pe_w (pe_make (E := E0) (dvs := []) M G hr hg m b .nil pass0 ha (by decide) he hpl) fun σ H Q ⟨F, P, r, k⟩ => ⟨F, P, r, fun vs H1 e1 hv x dx nx ndx ne => by
    rw [List.append_nil]
    have t1 := r.trk.same e1
    have px : ¬ P x := t1.new nx
    have pdx : ¬ P dx := t1.new ndx
    have sm : Same H1 (upd (upd H1 dx (.own x)) x (.ins C dx [])) := (same_upd ndx).trans (same_upd (by rw [upd_ne (fun z => ne z.symm)]; exact nx))
    refine ⟨P, x, dx, vs, ds, d, t1.same sm, px, pdx, ne, ?_, upd_same, rfl, RpL.mono (fun b o z => ?_) _ _ hv, h, fun H' k1 k2 => ⟨rfl, k (.ref x) H' (fun b o z => ?_) k2⟩⟩
    · rw [upd_ne ne, upd_same]
    · obtain ⟨z1, z2⟩ := mask_some z
      have n1 : b ≠ x := fun y => by rw [y, nx] at z1; cases z1
      have n2 : b ≠ dx := fun y => by rw [y, ndx] at z1; cases z1
      rw [mask_at (fun y => y.elim z2 fun y => y.elim n1 n2)]
      exact sm b o z1
    · have z1 := e1 b o z
      have n1 : b ≠ x := fun y => by rw [y, nx] at z1; cases z1
      have n2 : b ≠ dx := fun y => by rw [y, ndx] at z1; cases z1
      exact k1 b o n1 n2 (sm b o z1)⟩
end
end Fz
/-! _law_same of one and the same data. -/
namespace Fz
open PySem L2 PyProof PyProof.Rows
open PySem.W (Datum DatumOrd Tup T3)
open Enc (enc)
def okSm : Nat → D → Bool
  | k + 1, .tup l => l.all (okSm k) && decide (l.length < 1000)
  | k + 1, .lst l => l.all (okSm k) && decide (l.length < 1000)
  | _, .str _ => true
  | _, .bl _ => true
  | _, _ => false
theorem kit_bl : kitB "bool" "list" = some false := by decide +kernel
theorem kit_bt : kitB "bool" "tuple" = some false := by decide +kernel
theorem kit_bb : kitB "bool" "bool" = some true := by decide +kernel
theorem kit_bs : kitB "bool" "str" = some false := by decide +kernel
theorem kit_sb : kitB "str" "bool" = some false := by decide +kernel
theorem kit_ss : kitB "str" "str" = some true := by decide +kernel
theorem ne_b : ("bool" : String) ≠ "" := by decide
theorem zip_self (l : List D) : zipD l l = l.map fun d => .tup [d, d] := by
  unfold zipD
  induction l with
  | nil => rfl
  | cons a l ih => rw [List.zip_cons_cons, List.map_cons, List.map_cons, ih]
section
variable {w : World} {K : PySem.W.Frag} {mg : Str → Option Value} {base : Heap} {C : Addr}
def gSm (j : Nat) (ds : List D) (d : D) : Prop := ∃ x : D, ds = [x, x] ∧ okSm j x = true ∧ d = .bl true
def nSm : List Str := ["_law_got", "_law_goal", "_law_mine_so", "_law_own"]
def pSm : List Str := ["_law_got", "_law_goal"]
theorem sc_sm : FnScope nSm pSm (defScope (top 60)) := ⟨rfl, rfl, rfl, by decide +kernel, rfl, by decide +kernel, by decide +kernel⟩
theorem sm_str (b : MgB mg) {x : Str} (cdv : Value) (A : Around) (outer : List Env) (s : Shared) (H : Hp) (E : XK) (f : Addr) (Fr : Frm) : PSs (cxOf CX0 pr w K mg base nSm "_law_same" (defScope (top 60)) f cdv A outer s H E).nox (defBody (top 60)) (tR K C Fr [.dat (.str x), .dat (.str x), .no, .no] (.bl true)) := by
  refine b_step (s_ifF (t_val (d_isi2 (d := .str x) (dv 1) kit_sl kit_st ne_s b.isinstance b.list b.tuple)) n_nil) ?_
  refine b_step (s_ifF (t_cmp (o_isN (d := .str x) (fun e => by cases e)) (dv 1) d_non) n_nil) ?_
  refine b_stop (s_ifT_R (t_val (d_isi2 (d := .str x) (dv 1) kit_sb kit_ss ne_s b.isinstance b.bool b.str)) (b_stop (s_ret (d_cast (d := .bl (decide (x = x) && (false == false))) ?_ ?_))))
  · rw [decide_eq_true rfl]
    rfl
  · exact v_and (d_cmp o_eqS (dv 0) (dv 1)) (fun _ => v_one (d_cmp o_eqB (d_isi1 (d := .str x) (dv 0) kit_sb ne_s b.isinstance b.bool) (d_isi1 (d := .str x) (dv 1) kit_sb ne_s b.isinstance b.bool)))
theorem sm_bl (b : MgB mg) {x : Bool} (cdv : Value) (A : Around) (outer : List Env) (s : Shared) (H : Hp) (E : XK) (f : Addr) (Fr : Frm) : PSs (cxOf CX0 pr w K mg base nSm "_law_same" (defScope (top 60)) f cdv A outer s H E).nox (defBody (top 60)) (tR K C Fr [.dat (.bl x), .dat (.bl x), .no, .no] (.bl true)) := by
  refine b_step (s_ifF (t_val (d_isi2 (d := .bl x) (dv 1) kit_bl kit_bt ne_b b.isinstance b.list b.tuple)) n_nil) ?_
  refine b_step (s_ifF (t_cmp (o_isN (d := .bl x) (fun e => by cases e)) (dv 1) d_non) n_nil) ?_
  refine b_stop (s_ifT_R (t_val (d_isi2 (d := .bl x) (dv 1) kit_bb kit_bs ne_b b.isinstance b.bool b.str)) (b_stop (s_ret (d_cast (d := .bl ((x == x) && (true == true))) ?_ ?_))))
  · cases x <;> rfl
  · exact v_and (d_cmp o_eqB (dv 0) (dv 1)) (fun _ => v_one (d_cmp o_eqB (d_isi1 (d := .bl x) (dv 0) kit_bb ne_b b.isinstance b.bool) (d_isi1 (d := .bl x) (dv 1) kit_bb ne_b b.isinstance b.bool)))
theorem ok_sm (b : MgB mg) (h : DefAt K mg "_law_same" 60) : ∀ j, Ok w K mg base C (j + 1) "_law_same" pSm (gSm j) := by
  obtain ⟨f, fd, F, m⟩ := h
  intro j
  induction j with
  | zero =>
    refine ⟨f, fd, fn_data F sc_sm (fun ds d ⟨_, e, _⟩ => by rw [e] <;> rfl) (fun cdv A outer s H E hr ds d hg Fr => ?_), m, F.kp, F.bindsN fun _ _ _ _ _ _ us hl => match us, hl with | [_, _], _ => rfl⟩
    obtain ⟨x, rfl, ho, rfl⟩ := hg
    cases x with
    | str x => exact sm_str b cdv A outer s H E f Fr
    | bl x => exact sm_bl b cdv A outer s H E f Fr
    | _ => cases ho
  | succ j ih =>
    refine ⟨f, fd, fn_data F sc_sm (fun ds d ⟨_, e, _⟩ => by rw [e] <;> rfl) (fun cdv A outer s H E hr ds d hg Fr => ?_), m, F.kp, F.bindsN fun _ _ _ _ _ _ us hl => match us, hl with | [_, _], _ => rfl⟩
    obtain ⟨x, rfl, ho, rfl⟩ := hg
    cases x with
    | str x => exact sm_str b cdv A outer s H E f Fr
    | bl x => exact sm_bl b cdv A outer s H E f Fr
    | tup l =>
      obtain ⟨ho, hz⟩ := Bool.and_eq_true_iff.mp (show (l.all (okSm j) && decide (l.length < 1000)) = true from ho)
      refine b_stop (s_ifT_R (t_val (d_isi2 (d := .tup l) (dv 1) kit_tl kit_tt ne_t b.isinstance b.list b.tuple)) ?_)
      refine b_step (s_ifF (pt_eq (y := (false != false) || (true != true)) rfl (t_w (w_or (t_cmp o_neB (d_isi1 (d := .tup l) (dv 0) kit_tl ne_t b.isinstance b.list) (d_isi1 (d := .tup l) (dv 1) kit_tl ne_t b.isinstance b.list)) (fun _ => w_oneO (t_cmp o_neB (d_isi1 (d := .tup l) (dv 0) kit_tt ne_t b.isinstance b.tuple) (d_isi1 (d := .tup l) (dv 1) kit_tt ne_t b.isinstance b.tuple)))))) n_nil) ?_
      refine b_stop (s_ret (d_cast (d := .bl (decide ((l.length : Int) = (l.length : Int)) && l.all fun _ => true)) ?_ ?_))
      · rw [decide_eq_true rfl]
        simp
      · refine v_and (d_cmp o_eqI (d_b c_lenT b.len rfl (a1 (dv 0))) (d_b c_lenT b.len rfl (a1 (dv 1)))) (fun _ => v_one (d_b (c_allM (l := l) (t := fun _ => true) rfl) b.all rfl (a1 (d_of_f (f_map (own := [("_law_mine_so", 2), ("_law_own", 3)]) l (fun d => .tup [d, d]) (fun _ => .bl true) _ rfl sc_sm.nd (blkOk_by (by kernel_rfl)) ?_ (fun s H B cl fp a ha => g_tup rfl (gs_cons (g_name (i := 2) sc_sm.nd) (gs_cons (g_name (i := 3) sc_sm.nd) gs_nil))) (fun s' H B cl fp a ha => d_fn ih rfl hr (a2 (dv 2) (dv 3)) ⟨a, rfl, List.all_eq_true.mp ho a ha, rfl⟩))))))
        rw [← zip_self]
        exact i_zipT (by rfl) b.zip (dv 0) (dv 1)
    | lst l =>
      obtain ⟨ho, hz⟩ := Bool.and_eq_true_iff.mp (show (l.all (okSm j) && decide (l.length < 1000)) = true from ho)
      refine b_stop (s_ifT_R (t_val (d_isi2 (d := .lst l) (dv 1) kit_ll kit_lt ne_l b.isinstance b.list b.tuple)) ?_)
      refine b_step (s_ifF (pt_eq (y := (true != true) || (false != false)) rfl (t_w (w_or (t_cmp o_neB (d_isi1 (d := .lst l) (dv 0) kit_ll ne_l b.isinstance b.list) (d_isi1 (d := .lst l) (dv 1) kit_ll ne_l b.isinstance b.list)) (fun _ => w_oneO (t_cmp o_neB (d_isi1 (d := .lst l) (dv 0) kit_lt ne_l b.isinstance b.tuple) (d_isi1 (d := .lst l) (dv 1) kit_lt ne_l b.isinstance b.tuple)))))) n_nil) ?_
      refine b_stop (s_ret (d_cast (d := .bl (decide ((l.length : Int) = (l.length : Int)) && l.all fun _ => true)) ?_ ?_))
      · rw [decide_eq_true rfl]
        simp
      · refine v_and (d_cmp o_eqI (d_b c_lenL b.len rfl (a1 (dv 0))) (d_b c_lenL b.len rfl (a1 (dv 1)))) (fun _ => v_one (d_b (c_allM (l := l) (t := fun _ => true) rfl) b.all rfl (a1 (d_of_f (f_map (own := [("_law_mine_so", 2), ("_law_own", 3)]) l (fun d => .tup [d, d]) (fun _ => .bl true) _ rfl sc_sm.nd (blkOk_by (by kernel_rfl)) ?_ (fun s H B cl fp a ha => g_tup rfl (gs_cons (g_name (i := 2) sc_sm.nd) (gs_cons (g_name (i := 3) sc_sm.nd) gs_nil))) (fun s' H B cl fp a ha => d_fn ih rfl hr (a2 (dv 2) (dv 3)) ⟨a, rfl, List.all_eq_true.mp ho a ha, rfl⟩))))))
        rw [← zip_self]
        exact i_zipL (by rfl) b.zip (dv 0) (dv 1)
    | _ => cases ho
end
end Fz
set_option maxHeartbeats 2000000
/-! The plain law: each equivalence of the islands is one of the grids. -/
namespace Fz
open PySem L2
open PySem.W (Datum DatumOrd Tup T3)
/-! ### twos -/
theorem twos_go : ∀ (l : List Str) (n : Nat) (I : List Str) (acc : List Pair), I.drop n = l → (l.zipIdx n).foldl (twoStep I) acc = acc ++ (List.range l.length).flatMap fun i => (l.drop (i + 1)).map fun y => (l.getD i "", y)
  | [], n, I, acc, _ => by simp
  | x :: l, n, I, acc, h => by
    have h2 : I.drop (n + 1) = l := by rw [← List.drop_drop, h]; rfl
    rw [List.zipIdx_cons, List.foldl_cons, twos_go l (n + 1) I _ h2]
    unfold twoStep
    rw [h2, List.length_cons, List.range_succ_eq_map, List.flatMap_cons, List.append_assoc, List.flatMap_map]
    rfl
theorem mem_twos {I : List Str} {p : Pair} : p ∈ twos I ↔ ∃ i j : Nat, i < j ∧ I[i]? = some p.1 ∧ I[j]? = some p.2 := by
  unfold twos
  rw [twos_go I 0 I [] rfl, List.nil_append, List.mem_flatMap]
  constructor
  · rintro ⟨i, hi, h⟩
    obtain ⟨y, hy, e⟩ := List.mem_map.mp h
    have hi := List.mem_range.mp hi
    obtain ⟨k, hk, e2⟩ := List.getElem_of_mem hy
    have e3 : I[i + 1 + k]? = some y := by
      rw [← List.getElem?_drop, List.getElem?_eq_getElem hk, e2]
    have e4 : I[i]? = some (I.getD i "") := by
      rw [List.getElem?_eq_getElem hi]
      simp [List.getD, hi]
    subst e
    exact ⟨i, i + 1 + k, by omega, e4, e3⟩
  · rintro ⟨i, j, hij, h1, h2⟩
    have hi := (List.getElem?_eq_some_iff.mp h1).1
    refine ⟨i, List.mem_range.mpr hi, List.mem_map.mpr ⟨p.2, ?_, ?_⟩⟩
    · refine List.mem_of_getElem? (i := j - (i + 1)) ?_
      rw [List.getElem?_drop, show i + 1 + (j - (i + 1)) = j by omega]
      exact h2
    · have e : I.getD i "" = p.1 := by
        rw [List.getD_eq_getElem?_getD, h1]
        rfl
      rw [e]
theorem twos_ne {I : List Str} {p : Pair} (nd : I.Nodup) (h : p ∈ twos I) : p.1 ≠ p.2 := by
  obtain ⟨i, j, hij, h1, h2⟩ := mem_twos.mp h
  intro e
  obtain ⟨a1, a2⟩ := List.getElem?_eq_some_iff.mp h1
  obtain ⟨b1, b2⟩ := List.getElem?_eq_some_iff.mp h2
  exact List.pairwise_iff_getElem.mp nd i j a1 b1 hij (a2.trans (e.trans b2.symm))
/-! ### an equivalence as a grid -/
theorem idxOf_app {I : List Str} {x y : Str} (h : y ∈ I) : (I ++ [x]).idxOf y = I.idxOf y := by
  rw [List.idxOf_append, if_pos h]
theorem idxOf_end {I : List Str} {x : Str} (h : x ∉ I) : (I ++ [x]).idxOf x = I.length := by
  rw [List.idxOf_append, if_neg h]
  simp
/-- the number of an island in a grid -/
def numOf (I : List Str) (g : Grid) (x : Str) : Int := g.items.getD (I.idxOf x) 0
theorem one_num {I : List Str} {g : Grid} {p : Pair} : one I g p = decide (numOf I g p.1 = numOf I g p.2) := rfl
theorem idx_lt {I : List Str} {y : Str} (h : y ∈ I) : I.idxOf y < I.length := List.idxOf_lt_length_of_mem h
theorem num_app {I : List Str} {g : Grid} {x y : Str} {k : Int} (hl : g.items.length = I.length) (h : y ∈ I) : numOf (I ++ [x]) ⟨g.items ++ [k]⟩ y = numOf I g y := by
  unfold numOf
  rw [idxOf_app h]
  show (g.items ++ [k]).getD (I.idxOf y) 0 = _
  rw [List.getD_eq_getElem?_getD, List.getD_eq_getElem?_getD, List.getElem?_append_left (by rw [hl]; exact idx_lt h)]
theorem num_end {I : List Str} {g : Grid} {x : Str} {k : Int} (hl : g.items.length = I.length) (h : x ∉ I) : numOf (I ++ [x]) ⟨g.items ++ [k]⟩ x = k := by
  unfold numOf
  rw [idxOf_end h]
  show (g.items ++ [k]).getD I.length 0 = k
  rw [List.getD_eq_getElem?_getD, ← hl, List.getElem?_append_right (Nat.le_refl _), Nat.sub_self]
  rfl
theorem num_mem {I : List Str} {g : Grid} {y : Str} (hl : g.items.length = I.length) (h : y ∈ I) : numOf I g y ∈ g.items := by
  have hi : I.idxOf y < g.items.length := by rw [hl]; exact idx_lt h
  unfold numOf
  rw [List.getD_eq_getElem?_getD, List.getElem?_eq_getElem hi]
  exact List.getElem_mem hi
theorem grids_app (I : List Str) (x : Str) : grids (I ++ [x]) = (grids I).flatMap nextG := by
  unfold grids
  rw [List.foldl_append]
  rfl
theorem grid_of (E : Str → Str → Prop) (rf : ∀ x, E x x) (sy : ∀ x y, E x y → E y x) (tr : ∀ x y z, E x y → E y z → E x z) : ∀ (n : Nat) (I : List Str), I.length = n → I.Nodup → ∃ g ∈ grids I, ∀ x y, x ∈ I → y ∈ I → (numOf I g x = numOf I g y ↔ E x y)
  | 0, I, hn, _ => by
    have e : I = [] := List.length_eq_zero_iff.mp hn
    subst e
    exact ⟨⟨[]⟩, by unfold grids; simp, fun x y hx _ => nomatch hx⟩
  | n + 1, I, hn, nd => by
    obtain ⟨I0, x, rfl⟩ : ∃ I0 x, I = I0 ++ [x] := by
      have hne : I ≠ [] := fun e => by rw [e] at hn; cases hn
      exact ⟨I.dropLast, I.getLast hne, (List.dropLast_concat_getLast hne).symm⟩
    have hn0 : I0.length = n := by
      rw [List.length_append] at hn
      exact Nat.succ.inj hn
    obtain ⟨nd0, _, hdis⟩ := List.nodup_append.mp nd
    have hx : x ∉ I0 := fun z => hdis x z x (List.mem_singleton.mpr rfl) rfl
    obtain ⟨g, hg, key⟩ := grid_of E rf sy tr n I0 hn0 nd0
    have hl := grids_ok.len g hg
    -- the new island's number
    have pick : ∃ k : Int, (0 ≤ k ∧ k ≤ mx g.items + 1) ∧ ∀ y, y ∈ I0 → (k = numOf I0 g y ↔ E x y) := by
      rcases Classical.em (∃ y, y ∈ I0 ∧ E x y) with ⟨y, hy, hE⟩ | hno
      · refine ⟨numOf I0 g y, ⟨?_, ?_⟩, fun z hz => ?_⟩
        · exact (grids_ok.le g hg _ (num_mem hl hy)).1
        · have := mx_of g.items _ (num_mem hl hy)
          omega
        · rw [key y z hy hz]
          exact ⟨fun q => tr x y z hE q, fun q => tr y x z (sy x y hE) q⟩
      · refine ⟨mx g.items + 1, ⟨?_, Int.le_refl _⟩, fun z hz => ?_⟩
        · have := mx_ge g.items
          omega
        · refine ⟨fun q => ?_, fun q => absurd ⟨z, hz, q⟩ hno⟩
          have := mx_of g.items _ (num_mem hl hz)
          omega
    obtain ⟨k, ⟨k0, k1⟩, kE⟩ := pick
    refine ⟨⟨g.items ++ [k]⟩, ?_, fun y z hy hz => ?_⟩
    · rw [grids_app]
      refine List.mem_flatMap.mpr ⟨g, hg, ?_⟩
      unfold nextG
      refine List.mem_map.mpr ⟨k.toNat, List.mem_range.mpr (by omega), ?_⟩
      rw [Int.toNat_of_nonneg k0]
    · rcases List.mem_append.mp hy with hy | hy
      · rcases List.mem_append.mp hz with hz | hz
        · rw [num_app hl hy, num_app hl hz]
          exact key y z hy hz
        · rw [List.mem_singleton.mp hz, num_app hl hy, num_end hl hx]
          exact ⟨fun q => sy _ _ ((kE y hy).mp q.symm), fun q => ((kE y hy).mpr (sy _ _ q)).symm⟩
      · rw [List.mem_singleton.mp hy]
        rcases List.mem_append.mp hz with hz | hz
        · rw [num_app hl hz, num_end hl hx]
          exact kE z hz
        · rw [List.mem_singleton.mp hz]
          exact ⟨fun _ => rf x, fun _ => rfl⟩
end Fz
/-! The plain law: what the labels join is what all grids join. -/
namespace Fz
open PySem L2
open PySem.W (Datum DatumOrd Tup T3)
/-- each rule wants a pair of two islands -/
def Wants (R : List Rule) : Prop := ∀ r ∈ R, ∃ q ∈ r.1.items, q.1 ≠ q.2
theorem whole_iff {I : List Str} {g : Grid} {ps : List Pair} : whole I g ps = true ↔ ∀ p ∈ ps, numOf I g p.1 = numOf I g p.2 := by
  unfold whole
  rw [List.all_eq_true]
  exact ⟨fun h p hp => of_decide_eq_true (h p hp), fun h p hp => decide_eq_true (h p hp)⟩
theorem one_iff {I : List Str} {g : Grid} {p : Pair} : one I g p = true ↔ numOf I g p.1 = numOf I g p.2 := decide_eq_true_iff
theorem still_iff {I : List Str} {R : List Rule} {g : Grid} : g ∈ still I R ↔ g ∈ grids I ∧ ∀ r ∈ R, (∀ p ∈ r.1.items, numOf I g p.1 = numOf I g p.2) → numOf I g r.2.1 = numOf I g r.2.2 := by
  unfold still
  rw [List.mem_filter, List.all_eq_true]
  refine and_congr_right fun _ => forall_congr' fun r => forall_congr' fun _ => ?_
  unfold badRow
  rw [Bool.not_eq_true', Bool.and_eq_false_iff]
  constructor
  · intro h hw
    rcases h with h | h
    · rw [whole_iff.mpr hw] at h
      cases h
    · rw [Bool.not_eq_false'] at h
      exact one_iff.mp h
  · intro h
    cases z : whole I g r.1.items with
    | false => exact .inl rfl
    | true =>
      right
      rw [Bool.not_eq_false']
      exact one_iff.mpr (h (whole_iff.mp z))
theorem cl_iff {I I' : List Str} {R R' : List Rule} {ps : List Pair} (nd : I.Nodup) (hI : ∀ x, x ∈ I' ↔ x ∈ I) (hR : ∀ r, r ∈ R' ↔ r ∈ R) (RI : RIn I R) (hw : Wants R) (hps : ∀ p ∈ ps, PIn I p) {p : Pair} (hp : PIn I p) :
    jn (labs I' R' ps) p = true ↔ ∀ g ∈ still I R, whole I g ps = true → one I g p = true := by
  have RI' : RIn I' R' := fun r hr => by
    obtain ⟨h1, h2⟩ := RI r ((hR r).mp hr)
    exact ⟨fun q hq => ⟨(hI _).mpr (h1 q hq).1, (hI _).mpr (h1 q hq).2⟩, (hI _).mpr h2.1, (hI _).mpr h2.2⟩
  have hw' : ∀ r ∈ R'.map rl, ∃ q ∈ r.1, q.1 ≠ q.2 := fun r hr => by
    obtain ⟨q, hq, rfl⟩ := List.mem_map.mp hr
    exact hw q ((hR q).mp hq)
  obtain ⟨_, j1, j2, j3⟩ := Fd.labels_spec srt2_ok (rules_in RI') hw' (ps := ps) fun q hq => ⟨(hI _).mpr (hps q hq).1, (hI _).mpr (hps q hq).2⟩
  have ej : ∀ q, Fd.jn (Fd.labels srt2 I' (R'.map rl) ps) q = true ↔ Fd.lk (Fd.labels srt2 I' (R'.map rl) ps) q.1 = Fd.lk (Fd.labels srt2 I' (R'.map rl) ps) q.2 := fun q => decide_eq_true_iff
  have ejp : jn (labs I' R' ps) p = true ↔ Fd.lk (Fd.labels srt2 I' (R'.map rl) ps) p.1 = Fd.lk (Fd.labels srt2 I' (R'.map rl) ps) p.2 := decide_eq_true_iff
  rw [ejp]
  constructor
  · intro e g hg hwg
    obtain ⟨_, hcl⟩ := still_iff.mp hg
    refine one_iff.mpr (j3 (fun x y => numOf I g x = numOf I g y) (fun _ => rfl) (fun _ _ h => h.symm) (fun _ _ _ h k => h.trans k) (fun r hr => ?_) (whole_iff.mp hwg) p.1 p.2 ((hI _).mpr hp.1) ((hI _).mpr hp.2) e)
    obtain ⟨q, hq, rfl⟩ := List.mem_map.mp hr
    exact hcl q ((hR q).mp hq)
  · intro h
    obtain ⟨g, hg, key⟩ := grid_of (fun x y => Fd.lk (Fd.labels srt2 I' (R'.map rl) ps) x = Fd.lk (Fd.labels srt2 I' (R'.map rl) ps) y) (fun _ => rfl) (fun _ _ h => h.symm) (fun _ _ _ h k => h.trans k) _ I rfl nd
    have hs : g ∈ still I R := still_iff.mpr ⟨hg, fun r hr hwr => by
      obtain ⟨h1, h2⟩ := RI r hr
      refine (key _ _ h2.1 h2.2).mpr ((ej _).mp (j2 (rl r) (List.mem_map.mpr ⟨r, (hR r).mpr hr, rfl⟩) fun q hq => (ej q).mpr ?_))
      exact (key _ _ (h1 q hq).1 (h1 q hq).2).mp (hwr q hq)⟩
    have hwg : whole I g ps = true := whole_iff.mpr fun q hq => (key _ _ (hps q hq).1 (hps q hq).2).mpr ((ej q).mp (j1 q hq))
    exact (key _ _ hp.1 hp.2).mp (one_iff.mp (h g hs hwg))
/-! ### close -/
theorem mem_close {I : List Str} {R : List Rule} {ps : List Pair} {p : Pair} : p ∈ close I R ps ↔ p ∈ twos I ∧ ∀ g ∈ still I R, whole I g ps = true → one I g p = true := by
  have go : ∀ (l : List Grid) (here : List Pair), p ∈ l.foldl (fun here g => if whole I g ps = true then here.filter (one I g) else here) here ↔ p ∈ here ∧ ∀ g ∈ l, whole I g ps = true → one I g p = true := by
    intro l
    induction l with
    | nil => intro here; exact ⟨fun h => ⟨h, fun g hg => nomatch hg⟩, fun h => h.1⟩
    | cons g l ih =>
      intro here
      rw [List.foldl_cons, ih]
      by_cases hw : whole I g ps = true
      · rw [if_pos hw, List.mem_filter]
        constructor
        · rintro ⟨⟨h1, h2⟩, h3⟩
          refine ⟨h1, fun g' hg' hw' => ?_⟩
          rcases List.mem_cons.mp hg' with e | hg'
          · rw [e]; exact h2
          · exact h3 g' hg' hw'
        · rintro ⟨h1, h2⟩
          exact ⟨⟨h1, h2 g List.mem_cons_self hw⟩, fun g' hg' => h2 g' (List.mem_cons_of_mem _ hg')⟩
      · rw [if_neg hw]
        constructor
        · rintro ⟨h1, h3⟩
          refine ⟨h1, fun g' hg' hw' => ?_⟩
          rcases List.mem_cons.mp hg' with e | hg'
          · rw [e] at hw'; exact absurd hw' hw
          · exact h3 g' hg' hw'
        · rintro ⟨h1, h2⟩
          exact ⟨h1, fun g' hg' => h2 g' (List.mem_cons_of_mem _ hg')⟩
  exact go (still I R) (twos I)
/-- the floods' pairs are the law's -/
structure FTw (I : List Str) (fs : List Flood) : Prop where
  b : ∀ f ∈ fs, ∀ p ∈ f.b.items, p ∈ twos I
  c : ∀ f ∈ fs, ∀ p ∈ f.c.items, p ∈ twos I
theorem FTw.sub {I : List Str} {fs gs : List Flood} (h : FTw I fs) (s : ∀ f ∈ gs, f ∈ fs) : FTw I gs := ⟨fun f hf => h.b f (s f hf), fun f hf => h.c f (s f hf)⟩
theorem FTw.wet {I : List Str} {fs : List Flood} (h : FTw I fs) : ∀ p ∈ wet fs, p ∈ twos I := fun p hp => by
  obtain ⟨f, hf, hp⟩ := List.mem_flatMap.mp hp
  exact h.b f hf p hp
/-- the law's lowest are the program's -/
theorem low_eq {I : List Str} {R : List Rule} {t : Tk} {fs : List Flood} (nd : I.Nodup) (hI : ∀ x, x ∈ t.isl ↔ x ∈ I) (hR : ∀ r, r ∈ t.rul ↔ r ∈ R) (RI : RIn I R) (hw : Wants R) (ft : FTw I fs) : lowF t fs = low I R fs := by
  unfold lowF low
  refine List.filter_congr fun f hf => ?_
  rw [Bool.eq_iff_iff, Bool.not_eq_true', List.any_eq_false, List.all_eq_true]
  refine forall_congr' fun p => forall_congr' fun hp => ?_
  have hpt := ft.c f hf p hp
  have q := cl_iff nd hI hR RI hw (ps := wet fs) (fun q hq => twos_in q (ft.wet q hq)) (twos_in p hpt)
  rw [Bool.not_eq_true', q]
  unfold memb
  rw [decide_eq_false_iff_not, mem_close]
  exact ⟨fun h k => h k.2, fun h k => h ⟨hpt, k⟩⟩
end Fz
/-! The plain law: sights there are just where no floods are left. -/
namespace Fz
open PySem L2
open PySem.W (Datum DatumOrd Tup T3)
/-! ### the least parting -/
/-- g joins the pairs, and all that it joins is joined in each still grid that does -/
structure Clo (I : List Str) (R : List Rule) (ps : List Pair) (g : Grid) : Prop where
  st : g ∈ still I R
  wh : whole I g ps = true
  le : ∀ p, PIn I p → one I g p = true → ∀ g' ∈ still I R, whole I g' ps = true → one I g' p = true
theorem clo_ex {I : List Str} {R : List Rule} {ps : List Pair} (nd : I.Nodup) (RI : RIn I R) (hw : Wants R) (hps : ∀ p ∈ ps, PIn I p) : ∃ g, Clo I R ps g := by
  have hw' : ∀ r ∈ R.map rl, ∃ q ∈ r.1, q.1 ≠ q.2 := fun r hr => by
    obtain ⟨q, hq, rfl⟩ := List.mem_map.mp hr
    exact hw q hq
  obtain ⟨_, j1, j2, j3⟩ := Fd.labels_spec srt2_ok (rules_in RI) hw' (ps := ps) fun q hq => ⟨(hps q hq).1, (hps q hq).2⟩
  have ej : ∀ q, Fd.jn (Fd.labels srt2 I (R.map rl) ps) q = true ↔ Fd.lk (Fd.labels srt2 I (R.map rl) ps) q.1 = Fd.lk (Fd.labels srt2 I (R.map rl) ps) q.2 := fun q => decide_eq_true_iff
  obtain ⟨g, hg, key⟩ := grid_of (fun x y => Fd.lk (Fd.labels srt2 I (R.map rl) ps) x = Fd.lk (Fd.labels srt2 I (R.map rl) ps) y) (fun _ => rfl) (fun _ _ h => h.symm) (fun _ _ _ h k => h.trans k) _ I rfl nd
  have hs : g ∈ still I R := still_iff.mpr ⟨hg, fun r hr hwr => by
    obtain ⟨h1, h2⟩ := RI r hr
    refine (key _ _ h2.1 h2.2).mpr ((ej _).mp (j2 (rl r) (List.mem_map.mpr ⟨r, hr, rfl⟩) fun q hq => (ej q).mpr ?_))
    exact (key _ _ (h1 q hq).1 (h1 q hq).2).mp (hwr q hq)⟩
  have hwg : whole I g ps = true := whole_iff.mpr fun q hq => (key _ _ (hps q hq).1 (hps q hq).2).mpr ((ej q).mp (j1 q hq))
  refine ⟨g, hs, hwg, fun p hp ho => ?_⟩
  have e : jn (labs I R ps) p = true := decide_eq_true ((key _ _ hp.1 hp.2).mp (one_iff.mp ho))
  exact (cl_iff nd (fun _ => Iff.rfl) (fun _ => Iff.rfl) RI hw hps hp).mp e
/-! ### one within the other -/
theorem under_iff {I : List Str} {g far : Grid} : under I g far = true ↔ ∀ p ∈ twos I, one I far p = true → one I g p = true := by
  unfold under
  rw [List.all_eq_true]
  refine forall_congr' fun p => forall_congr' fun _ => ?_
  cases one I far p <;> cases one I g p <;> simp
theorem under_refl {I : List Str} {g : Grid} : under I g g = true := under_iff.mpr fun _ _ h => h
theorem under_trans {I : List Str} {a b c : Grid} (h : under I a b = true) (k : under I b c = true) : under I a c = true := under_iff.mpr fun p hp z => under_iff.mp h p hp (under_iff.mp k p hp z)
/-- of a greater lot of pairs the parting joins more -/
theorem clo_under {I : List Str} {R : List Rule} {ps qs : List Pair} {g far : Grid} (hg : Clo I R ps g) (hf : Clo I R qs far) (s : ∀ q ∈ qs, q ∈ ps) : under I g far = true :=
  under_iff.mpr fun p hp ho => hf.le p (twos_in p hp) ho g hg.st (whole_iff.mpr fun q hq => whole_iff.mp hg.wh q (s q hq))
def Cmp (I : List Str) (g far : Grid) : Prop := under I g far = true ∨ under I far g = true
theorem Cmp.sy {I : List Str} {g far : Grid} (h : Cmp I g far) : Cmp I far g := h.symm
theorem sOk_iff {I : List Str} {own : Sight} {g : Grid} : sOk I own g = true ↔ ∀ far ∈ own.items, Cmp I g far := by
  unfold sOk Cmp
  rw [List.all_eq_true]
  refine forall_congr' fun far => forall_congr' fun _ => ?_
  cases under I g far <;> cases under I far g <;> simp
/-- a chain has a greatest one -/
theorem chain_max {I : List Str} : ∀ (l : List Grid), l ≠ [] → l.Pairwise (Cmp I) → ∃ m ∈ l, ∀ a ∈ l, under I m a = true
  | [], h, _ => absurd rfl h
  | [a], _, _ => ⟨a, List.mem_cons_self, fun b hb => by rw [List.mem_singleton.mp hb]; exact under_refl⟩
  | a :: b :: l, _, h => by
    obtain ⟨h1, h2⟩ := List.pairwise_cons.mp h
    obtain ⟨m, hm, key⟩ := chain_max (b :: l) (List.cons_ne_nil _ _) h2
    rcases h1 m hm with z | z
    · refine ⟨a, List.mem_cons_self, fun c hc => ?_⟩
      rcases List.mem_cons.mp hc with e | hc
      · rw [e]; exact under_refl
      · exact under_trans z (key c hc)
    · refine ⟨m, List.mem_cons_of_mem _ hm, fun c hc => ?_⟩
      rcases List.mem_cons.mp hc with e | hc
      · rw [e]; exact z
      · exact key c hc
/-! ### sights -/
theorem mem_sPool {I : List Str} {R : List Rule} {f : Flood} {g : Grid} : g ∈ sPool I R f ↔ g ∈ still I R ∧ (∀ p ∈ f.c.items, one I g p = false) ∧ whole I g f.b.items = true := by
  unfold sPool fits
  rw [List.mem_filter, Bool.and_eq_true, List.all_eq_true]
  refine and_congr_right fun _ => and_congr_left fun _ => forall_congr' fun p => forall_congr' fun _ => ?_
  cases one I g p <;> simp
theorem sights_put {I : List Str} {R : List Rule} (G : Flood → Grid) : ∀ (fs : List Flood) (found : List Sight) (own : Sight), own ∈ found → (∀ f ∈ fs, G f ∈ sPool I R f) → (∀ f ∈ fs, ∀ far ∈ own.items, Cmp I (G f) far) → (∀ f ∈ fs, ∀ f' ∈ fs, Cmp I (G f) (G f')) →
    ∃ s, s ∈ fs.foldl (sStep I R) found
  | [], found, own, h, _, _, _ => ⟨own, h⟩
  | f :: fs, found, own, h, hp, hc, hcc => by
    rw [List.foldl_cons]
    refine sights_put G fs (sStep I R found f) (sPut own (G f)) ?_ (fun f' hf' => hp f' (List.mem_cons_of_mem _ hf')) (fun f' hf' far hfar => ?_) (fun a ha b hb => hcc a (List.mem_cons_of_mem _ ha) b (List.mem_cons_of_mem _ hb))
    · rw [sStep_eq]
      refine List.mem_flatMap.mpr ⟨own, h, List.mem_map.mpr ⟨G f, List.mem_filter.mpr ⟨hp f List.mem_cons_self, sOk_iff.mpr fun far hfar => hc f List.mem_cons_self far hfar⟩, rfl⟩⟩
    · rcases List.mem_append.mp (show far ∈ own.items ++ [G f] from hfar) with z | z
      · exact hc f' (List.mem_cons_of_mem _ hf') far z
      · rw [List.mem_singleton.mp z]
        exact hcc f' (List.mem_cons_of_mem _ hf') f List.mem_cons_self
theorem sights_get {I : List Str} {R : List Rule} : ∀ (fs : List Flood) (found : List Sight) (s : Sight), s ∈ fs.foldl (sStep I R) found → (∀ own ∈ found, own.items.Pairwise (Cmp I)) →
    s.items.Pairwise (Cmp I) ∧ ∃ own ∈ found, ∃ gs : List Grid, s.items = own.items ++ gs ∧ gs.length = fs.length ∧ ∀ q ∈ fs.zip gs, q.2 ∈ sPool I R q.1
  | [], found, s, h, hp => ⟨hp s h, s, h, [], (List.append_nil _).symm, rfl, fun q hq => by cases hq⟩
  | f :: fs, found, s, h, hp => by
    rw [List.foldl_cons] at h
    have step : ∀ o ∈ sStep I R found f, ∃ own ∈ found, ∃ g ∈ sPool I R f, sOk I own g = true ∧ o = sPut own g := fun o ho => by
      rw [sStep_eq] at ho
      obtain ⟨own, h1, h2⟩ := List.mem_flatMap.mp ho
      obtain ⟨g, h3, h4⟩ := List.mem_map.mp h2
      obtain ⟨h5, h6⟩ := List.mem_filter.mp h3
      exact ⟨own, h1, g, h5, h6, h4.symm⟩
    obtain ⟨hc, o, ho, gs, e1, e2, e3⟩ := sights_get fs _ s h fun o ho => by
      obtain ⟨own, h1, g, h2, h3, rfl⟩ := step o ho
      show (own.items ++ [g]).Pairwise (Cmp I)
      rw [List.pairwise_append]
      refine ⟨hp own h1, List.pairwise_singleton _ _, fun a ha b hb => ?_⟩
      rw [List.mem_singleton.mp hb]
      exact (sOk_iff.mp h3 a ha).sy
    obtain ⟨own, h1, g, h2, h3, rfl⟩ := step o ho
    refine ⟨hc, own, h1, g :: gs, ?_, congrArg Nat.succ e2, fun q hq => ?_⟩
    · rw [e1]
      show (own.items ++ [g]) ++ gs = _
      rw [List.append_assoc]
      rfl
    · rw [List.zip_cons_cons] at hq
      rcases List.mem_cons.mp hq with e | hq
      · rw [e]; exact h2
      · exact e3 q hq
/-! ### the floods that are left -/
def stepF (I : List Str) (R : List Rule) (fs : List Flood) : List Flood := fs.filter fun f => decide (f ∉ low I R fs)
def itn (I : List Str) (R : List Rule) : Nat → List Flood → List Flood
  | 0, fs => fs
  | n + 1, fs => itn I R n (stepF I R fs)
theorem rest_itn (I : List Str) (R : List Rule) (fs : List Flood) : rest I R fs = itn I R fs.length fs := by
  have key : ∀ (l : List Nat) (s : List Flood), l.foldl (restStep I R) s = itn I R l.length s := by
    intro l
    induction l with
    | nil => intro s; rfl
    | cons a l ih => intro s; exact ih _
  have q := key (List.range fs.length) fs
  rw [List.length_range] at q
  exact q
theorem stepF_sub {I : List Str} {R : List Rule} {fs : List Flood} : ∀ f ∈ stepF I R fs, f ∈ fs := fun f hf => (List.mem_filter.mp hf).1
theorem itn_sub {I : List Str} {R : List Rule} : ∀ (n : Nat) (fs : List Flood), ∀ f ∈ itn I R n fs, f ∈ fs
  | 0, _, _, h => h
  | n + 1, fs, f, h => stepF_sub f (itn_sub n _ f h)
theorem itn_subl {I : List Str} {R : List Rule} : ∀ (n : Nat) (fs : List Flood), (itn I R n fs).Sublist fs
  | 0, fs => List.Sublist.refl fs
  | n + 1, fs => (itn_subl n _).trans List.filter_sublist
theorem low_sub {I : List Str} {R : List Rule} {fs : List Flood} : ∀ f ∈ low I R fs, f ∈ fs := fun f hf => (List.mem_filter.mp hf).1
theorem stepF_id {I : List Str} {R : List Rule} {fs : List Flood} (h : low I R fs = []) : stepF I R fs = fs := by
  unfold stepF
  rw [h]
  exact List.filter_eq_self.mpr fun f _ => decide_eq_true (List.not_mem_nil)
theorem itn_id {I : List Str} {R : List Rule} {fs : List Flood} (h : low I R fs = []) : ∀ n, itn I R n fs = fs
  | 0 => rfl
  | n + 1 => by
    show itn I R n (stepF I R fs) = fs
    rw [stepF_id h]
    exact itn_id h n
theorem stepF_lt {I : List Str} {R : List Rule} {fs : List Flood} {f : Flood} (h : f ∈ low I R fs) : (stepF I R fs).length < fs.length := filter_lt (low_sub f h) (decide_eq_false fun z => z h)
theorem itn_low {I : List Str} {R : List Rule} : ∀ (n : Nat) (fs : List Flood), fs.length ≤ n → low I R (itn I R n fs) = []
  | 0, fs, h => by
    have e : fs = [] := List.length_eq_zero_iff.mp (Nat.le_zero.mp h)
    subst e
    rfl
  | n + 1, fs, h => by
    cases q : low I R fs with
    | nil => rw [itn_id q]; exact q
    | cons f l =>
      have lt := stepF_lt (f := f) (by rw [q]; exact List.mem_cons_self)
      exact itn_low n (stepF I R fs) (by omega)
theorem itn_more {I : List Str} {R : List Rule} : ∀ (n : Nat) (fs : List Flood), low I R (itn I R n fs) = [] → itn I R (n + 1) fs = itn I R n fs
  | 0, fs, h => stepF_id h
  | n + 1, fs, h => itn_more n (stepF I R fs) h
theorem rest_low (I : List Str) (R : List Rule) (fs : List Flood) : low I R (rest I R fs) = [] := by
  rw [rest_itn]
  exact itn_low _ _ (Nat.le_refl _)
/-- the program's way -/
theorem peelN_itn {I : List Str} {R : List Rule} {t : Tk} (nd : I.Nodup) (hI : ∀ x, x ∈ t.isl ↔ x ∈ I) (hR : ∀ r, r ∈ t.rul ↔ r ∈ R) (RI : RIn I R) (hw : Wants R) : ∀ (n : Nat) (b : List (List Flood)) (fs : List Flood), FTw I fs → (peelN t n (b, fs, lowF t fs)).2.1 = itn I R n fs
  | 0, _, _, _ => rfl
  | n + 1, b, fs, ft => by
    have e := low_eq nd hI hR RI hw ft
    unfold peelN
    cases q : low I R fs with
    | nil =>
      have g : peelGo (b, fs, lowF t fs) = false := by
        show (!(lowF t fs).isEmpty) = false
        rw [e, q]
        rfl
      rw [g, if_neg Bool.false_ne_true, itn_id q]
    | cons f l =>
      have g : peelGo (b, fs, lowF t fs) = true := by
        show (!(lowF t fs).isEmpty) = true
        rw [e, q]
        rfl
      rw [g, if_pos rfl]
      have es : peelStep t (b, fs, lowF t fs) = (b ++ [lowF t fs], stepF I R fs, lowF t (stepF I R fs)) := by
        show (b ++ [lowF t fs], (fs.filter fun f => decide (f ∉ lowF t fs)), lowF t (fs.filter fun f => decide (f ∉ lowF t fs))) = _
        rw [e]
        rfl
      rw [es]
      exact peelN_itn nd hI hR RI hw n _ _ (ft.sub stepF_sub)
theorem peeled_rest {I : List Str} {R : List Rule} {t : Tk} {fs : List Flood} (nd : I.Nodup) (hI : ∀ x, x ∈ t.isl ↔ x ∈ I) (hR : ∀ r, r ∈ t.rul ↔ r ∈ R) (RI : RIn I R) (hw : Wants R) (ft : FTw I fs) : (peeled t fs).2 = rest I R fs := by
  have q := peelN_itn nd hI hR RI hw (fs.length + 1) [] fs ft
  rw [rest_itn, ← itn_more _ _ (itn_low _ _ (Nat.le_refl _)), ← q]
  rfl
/-! ### sights <> [] iff nothing is left -/
theorem sights_rest {I : List Str} {R : List Rule} {fs : List Flood} (nd : I.Nodup) (RI : RIn I R) (hw : Wants R) (ft : FTw I fs) : sights I R fs ≠ [] ↔ rest I R fs = [] := by
  constructor
  · intro h
    obtain ⟨s, hs⟩ := List.exists_mem_of_ne_nil _ h
    obtain ⟨hc, own, ho, gs, e1, e2, e3⟩ := sights_get fs [⟨[]⟩] s hs fun own ho => by
      rw [List.mem_singleton.mp ho]
      exact List.Pairwise.nil
    rw [List.mem_singleton.mp ho] at e1
    have e1 : s.items = gs := e1
    rw [e1] at hc
    refine Classical.byContradiction fun hne => ?_
    obtain ⟨f0, hf0⟩ := List.exists_mem_of_ne_nil _ hne
    have hsub : ∀ f ∈ rest I R fs, f ∈ fs := by rw [rest_itn]; exact itn_sub _ _
    have hlow := rest_low I R fs
    generalize rest I R fs = S at hne hf0 hsub hlow
    -- each flood of S has a parting
    have give : ∀ f ∈ fs, ∃ g, (f, g) ∈ fs.zip gs := fun f hf => by
      obtain ⟨i, hi, e⟩ := List.getElem_of_mem hf
      have hi2 : i < gs.length := by rw [e2]; exact hi
      refine ⟨gs[i], ?_⟩
      have z : (fs.zip gs)[i]? = some (f, gs[i]) := by
        rw [List.getElem?_zip_eq_some]
        exact ⟨by rw [List.getElem?_eq_getElem hi, e], List.getElem?_eq_getElem hi2⟩
      exact List.mem_of_getElem? z
    let A : List (Flood × Grid) := (fs.zip gs).filter fun q => decide (q.1 ∈ S)
    have hA : ∀ q, q ∈ A ↔ q ∈ fs.zip gs ∧ q.1 ∈ S := fun q => by
      show q ∈ (fs.zip gs).filter _ ↔ _
      rw [List.mem_filter]
      exact and_congr_right fun _ => decide_eq_true_iff
    have hAs : (A.map (·.2)).Sublist gs := by
      have z : ((fs.zip gs).map (·.2)).Sublist gs := by
        have e : (fs.zip gs).map Prod.snd = gs := List.map_snd_zip (by omega)
        rw [e]
        exact List.Sublist.refl _
      exact (List.Sublist.map _ List.filter_sublist).trans z
    have hAc : (A.map (·.2)).Pairwise (Cmp I) := hc.sublist hAs
    obtain ⟨g0, hg0⟩ := give f0 (hsub f0 hf0)
    have hne2 : A.map (·.2) ≠ [] := fun z => by
      have : g0 ∈ A.map (·.2) := List.mem_map.mpr ⟨(f0, g0), (hA _).mpr ⟨hg0, hf0⟩, rfl⟩
      rw [z] at this
      cases this
    obtain ⟨m, hm, key⟩ := chain_max _ hne2 hAc
    obtain ⟨⟨f, m'⟩, hq, em⟩ := List.mem_map.mp hm
    have em : m' = m := em
    subst em
    obtain ⟨hz, hfS⟩ := (hA _).mp hq
    obtain ⟨st, dry, _⟩ := mem_sPool.mp (e3 _ hz)
    have hwh : whole I m' (wet S) = true := by
      unfold whole
      rw [List.all_eq_true]
      intro p hp
      obtain ⟨f', hf', hp'⟩ := List.mem_flatMap.mp hp
      obtain ⟨g', hg'⟩ := give f' (hsub f' hf')
      obtain ⟨_, _, w'⟩ := mem_sPool.mp (e3 _ hg')
      have hu := key g' (List.mem_map.mpr ⟨(f', g'), (hA _).mpr ⟨hg', hf'⟩, rfl⟩)
      exact under_iff.mp hu p (ft.b f' (hsub f' hf') p hp') (one_iff.mpr (whole_iff.mp w' p hp'))
    have hnl : f ∉ low I R S := by rw [hlow]; exact List.not_mem_nil
    apply hnl
    unfold low
    refine List.mem_filter.mpr ⟨hfS, ?_⟩
    rw [List.all_eq_true]
    intro p hp
    unfold memb
    rw [Bool.not_eq_true', decide_eq_false_iff_not, mem_close]
    intro z
    have z2 := z.2 m' st hwh
    have z3 := dry p hp
    have z3 : one I m' p = false := z3
    rw [z2] at z3
    cases z3
  · intro h
    have build : ∀ (n : Nat) (S : List Flood), FTw I S → itn I R n S = [] → ∃ G : Flood → Grid, (∀ f ∈ S, G f ∈ sPool I R f) ∧ (∀ f ∈ S, ∃ T : List Flood, (∀ x ∈ T, x ∈ S) ∧ Clo I R (wet T) (G f)) ∧ ∀ f ∈ S, ∀ f' ∈ S, Cmp I (G f) (G f') := by
      intro n
      induction n with
      | zero =>
        intro S _ e
        have e : S = [] := e
        subst e
        exact ⟨fun _ => ⟨[]⟩, (fun f hf => nomatch hf), (fun f hf => nomatch hf), (fun f hf => nomatch hf)⟩
      | succ n ih =>
        intro S ftS e
        obtain ⟨G, h1, h2, h3⟩ := ih (stepF I R S) (ftS.sub stepF_sub) e
        obtain ⟨g0, hg0⟩ := clo_ex (R := R) nd RI hw (ps := wet S) fun p hp => twos_in p (ftS.wet p hp)
        have wsub : ∀ T : List Flood, (∀ x ∈ T, x ∈ S) → ∀ q ∈ wet T, q ∈ wet S := fun T hT q hq => by
          obtain ⟨f, hf, hp⟩ := List.mem_flatMap.mp hq
          exact List.mem_flatMap.mpr ⟨f, hT f hf, hp⟩
        refine ⟨fun f => if f ∈ stepF I R S then G f else g0, fun f hf => ?_, fun f hf => ?_, fun f hf f' hf' => ?_⟩
        · show (if f ∈ stepF I R S then G f else g0) ∈ _
          split
          · rename_i hz
            exact h1 f hz
          · rename_i hz
            have hl : f ∈ low I R S := Classical.byContradiction fun z => hz (List.mem_filter.mpr ⟨hf, decide_eq_true z⟩)
            refine mem_sPool.mpr ⟨hg0.st, fun p hp => ?_, whole_iff.mpr fun p hp => whole_iff.mp hg0.wh p (List.mem_flatMap.mpr ⟨f, hf, hp⟩)⟩
            have hpt := ftS.c f hf p hp
            have z := List.all_eq_true.mp (List.mem_filter.mp hl).2 p hp
            unfold memb at z
            rw [Bool.not_eq_true', decide_eq_false_iff_not, mem_close] at z
            cases q : one I g0 p with
            | false => rfl
            | true => exact absurd ⟨hpt, hg0.le p (twos_in p hpt) q⟩ z
        · show ∃ T : List Flood, (∀ x ∈ T, x ∈ S) ∧ Clo I R (wet T) (if f ∈ stepF I R S then G f else g0)
          split
          · rename_i hz
            obtain ⟨T, hT, hc⟩ := h2 f hz
            exact ⟨T, fun x hx => stepF_sub x (hT x hx), hc⟩
          · exact ⟨S, fun x hx => hx, hg0⟩
        · show Cmp I (if f ∈ stepF I R S then G f else g0) (if f' ∈ stepF I R S then G f' else g0)
          split
          · rename_i hz
            split
            · rename_i hz'
              exact h3 f hz f' hz'
            · obtain ⟨T, hT, hc⟩ := h2 f hz
              exact .inr (clo_under hg0 hc (wsub T fun x hx => stepF_sub x (hT x hx)))
          · split
            · rename_i hz'
              obtain ⟨T, hT, hc⟩ := h2 f' hz'
              exact .inl (clo_under hg0 hc (wsub T fun x hx => stepF_sub x (hT x hx)))
            · exact .inl under_refl
    rw [rest_itn] at h
    obtain ⟨G, h1, _, h3⟩ := build _ fs ft h
    obtain ⟨s, hs⟩ := sights_put G fs [⟨[]⟩] ⟨[]⟩ (List.mem_singleton.mpr rfl) h1 (fun f hf far hfar => (nomatch hfar)) h3
    exact List.ne_nil_of_mem hs
end Fz
/-! The plain law over what is drawn. -/
namespace Fz
open PySem L2
open PySem.W (Datum DatumOrd Tup T3 dataLe)
open Enc (enc)
/-! ### what is drawn -/
theorem pickL_ne {α : Type} {l : List α} {st : U3} {size : Nat} (hl : l ≠ []) (hs : 0 < size) : pickL l st size ≠ [] := by
  have hn : 0 < l.length := List.length_pos_iff.mpr hl
  have G := mixG st l.length
  have hm : (mixed st l.length).length = l.length := G.l2
  obtain ⟨x, r, e⟩ : ∃ x r, mixed st l.length = x :: r := by
    cases q : mixed st l.length with
    | nil => rw [q] at hm; simp at hm; omega
    | cons x r => exact ⟨x, r, rfl⟩
  have hx : x ∈ intL l.length := G.m2 x (by show x ∈ mixed st l.length; rw [e]; exact List.mem_cons_self)
  obtain ⟨i, hi, rfl⟩ := List.mem_map.mp hx
  have hi := List.mem_range.mp hi
  have hc : ((i : Nat) : Int) ∈ cutN st l.length size := by
    unfold cutN
    rw [e]
    obtain ⟨k, rfl⟩ : ∃ k, size = k + 1 := ⟨size - 1, by omega⟩
    rw [List.take_succ_cons]
    exact List.mem_cons_self
  refine List.ne_nil_of_mem (a := l[i]) ?_
  unfold pickL
  refine List.mem_map.mpr ⟨(l[i], i), List.mem_filter.mpr ⟨?_, decide_eq_true hc⟩, rfl⟩
  refine List.mem_of_getElem? (i := i) ?_
  rw [List.getElem?_zipIdx, List.getElem?_eq_getElem hi]
  simp
theorem orders_mem (T : List Pair) (st : U3) : ∀ r ∈ (orders T st).1, 2 < T.length ∧ ∃ st', r = ((⟨wantsOf T st'⟩ : Tup Pair), giftOf T st') :=
  good_range (fun s _ => ordStep T s) (fun _ s => ∀ r ∈ s.1, 2 < T.length ∧ ∃ st', r = ((⟨wantsOf T st'⟩ : Tup Pair), giftOf T st')) ([], tkS st 3) (fun r hr => nomatch hr) fun i s _ h r hr => by
    unfold ordStep at hr
    split at hr
    · rename_i hT
      rcases List.mem_append.mp hr with hr | hr
      · exact h r hr
      · exact ⟨hT, s.2, List.mem_singleton.mp hr⟩
    · exact h r hr
theorem times_mem (T : List Pair) (st : U3) : ∀ f ∈ (times T st).1, ∃ st', f.b.items = wetOf T st' ∧ f.c.items = dryOf T st' :=
  good_range (timStep T) (fun _ s => ∀ f ∈ s.1, ∃ st', f.b.items = wetOf T st' ∧ f.c.items = dryOf T st') ([], tkS st 4) (fun r hr => nomatch hr) fun i s _ h f hf => by
    rcases List.mem_append.mp (show f ∈ s.1 ++ [_] from hf) with hf | hf
    · exact h f hf
    · rw [List.mem_singleton.mp hf]
      exact ⟨s.2, rfl, rfl⟩
theorem range_take {n i : Nat} (h : i ≤ n) : (List.range n).take i = List.range i := by
  apply List.ext_getElem
  · simp; omega
  · intro k h1 h2
    simp
theorem times_names (T : List Pair) (st : U3) : (times T st).1.map (fun f : Flood => f.a) = timN.take (tk st 4) := by
  have key : ∀ n, n ≤ 5 → ∀ s : U3, ((List.range n).foldl (timStep T) ([], s)).1.map (fun f : Flood => f.a) = timN.take n := by
    intro n
    induction n with
    | zero => intro _ s; rfl
    | succ n ih =>
      intro hn s
      rw [List.range_succ, List.foldl_append]
      show (((List.range n).foldl (timStep T) ([], s)).1 ++ [_]).map (fun f : Flood => f.a) = _
      rw [List.map_append, ih (by omega) s]
      show timN.take n ++ [(timN[n]?).getD ""] = _
      have h5 : n < timN.length := (by show n < 5; omega)
      rw [List.take_succ, List.getElem?_eq_getElem h5]
      rfl
  have ht := tk_lt st (show 0 < 4 by decide)
  exact key _ (by omega) _
/-! ### islands -/
theorem isl_nd (st : U3) : (isl st).Nodup := (srtL_perm _).nodup_iff.mpr ((pickL_sub _ _ _).nodup (by decide))
theorem pin_drT {st : U3} {p : Pair} (h : p ∈ drT st) : PIn (isl st) p := twos_in p h
theorem gift_mem {T : List Pair} {st : U3} (h : 2 < T.length) : giftOf T st ∈ T := by
  have ht := tk_lt st (show 0 < T.length by omega)
  unfold giftOf
  rw [List.getElem?_eq_getElem ht]
  exact List.getElem_mem ht
theorem wants_sub {T : List Pair} {st : U3} : ∀ p ∈ wantsOf T st, p ∈ T := fun p hp => (List.mem_filter.mp ((pickL_sub _ _ _).subset hp)).1
theorem others_ne {I : List Str} {st : U3} (nd : I.Nodup) (h : 2 < (twos I).length) : othersOf (twos I) st ≠ [] := by
  have two : ∃ a b c l, I = a :: b :: c :: l := by
    match I, h with
    | [], h => exact absurd h (by decide)
    | [a], h => exact absurd h (by show ¬ 2 < 0; decide)
    | [a, b], h => exact absurd h (by show ¬ 2 < 1; decide)
    | a :: b :: c :: l, _ => exact ⟨a, b, c, l, rfl⟩
  obtain ⟨a, b, c, l, rfl⟩ := two
  have h1 : (a, b) ∈ twos (a :: b :: c :: l) := mem_twos.mpr ⟨0, 1, by decide, rfl, rfl⟩
  have h2 : (a, c) ∈ twos (a :: b :: c :: l) := mem_twos.mpr ⟨0, 2, by decide, rfl, rfl⟩
  have hbc : b ≠ c := fun e => by
    have q := (List.nodup_cons.mp (List.nodup_cons.mp nd).2).1
    rw [e] at q
    exact q List.mem_cons_self
  by_cases e : (a, b) = giftOf (twos (a :: b :: c :: l)) st
  · refine List.ne_nil_of_mem (List.mem_filter.mpr ⟨h2, decide_eq_true fun z => ?_⟩)
    rw [← e] at z
    exact hbc (Prod.mk.inj z).2.symm
  · exact List.ne_nil_of_mem (List.mem_filter.mpr ⟨h1, decide_eq_true e⟩)
/-! ### rules -/
theorem drR_mem {st : U3} {r : Rule} (h : r ∈ drR st) : (∀ p ∈ r.1.items, p ∈ drT st) ∧ r.2 ∈ drT st ∧ r.1.items ≠ [] ∧ r.1.items.length ≤ 6 := by
  obtain ⟨hT, st', rfl⟩ := orders_mem _ _ r h
  refine ⟨fun p hp => wants_sub p hp, gift_mem hT, pickL_ne (others_ne (isl_nd st) hT) (by omega), ?_⟩
  have h1 := pickL_le (othersOf (drT st) st') (orS (drT st) st') (1 + tk (tkS st' (drT st).length) 2)
  have h2 := others_le (drT st) st'
  have h3 := drT_len st
  show (wantsOf (drT st) st').length ≤ 6
  unfold wantsOf
  omega
theorem drR_in (st : U3) : RIn (isl st) (drR st) := fun r hr => ⟨fun p hp => pin_drT ((drR_mem hr).1 p hp), pin_drT (drR_mem hr).2.1⟩
theorem drR_wants (st : U3) : Wants (drR st) := fun r hr => by
  obtain ⟨q, hq⟩ := List.exists_mem_of_ne_nil _ (drR_mem hr).2.2.1
  exact ⟨q, hq, twos_ne (isl_nd st) ((drR_mem hr).1 q hq)⟩
/-! ### floods -/
theorem wetOf_sub {T : List Pair} {st : U3} : (wetOf T st).Sublist T := pickL_sub _ _ _
theorem dryOf_sub {T : List Pair} {st : U3} : (dryOf T st).Sublist T := by
  unfold dryOf
  split
  · exact (List.filter_sublist).trans wetOf_sub
  · exact wetOf_sub
theorem drF_sub {st : U3} {f : Flood} (h : f ∈ drF st) : f.b.items.Sublist (drT st) ∧ f.c.items.Sublist (drT st) := by
  obtain ⟨st', e1, e2⟩ := times_mem _ _ f h
  rw [e1, e2]
  exact ⟨wetOf_sub, dryOf_sub⟩
theorem drF_tw (st : U3) : FTw (isl st) (drF st) := ⟨fun f hf p hp => (drF_sub hf).1.subset hp, fun f hf p hp => (drF_sub hf).2.subset hp⟩
theorem drF_names (st : U3) : ∃ n, n ≤ 3 ∧ (drF st).map (fun f : Flood => f.a) = timN.take n := by
  have ht := tk_lt (orders (drT st) (islS st)).2 (show 0 < 4 by decide)
  exact ⟨_, by omega, times_names _ _⟩
theorem wet_len {T : List Pair} : ∀ {fs : List Flood}, (∀ f ∈ fs, f.b.items.length ≤ 6) → (wet fs).length ≤ 6 * fs.length
  | [], _ => Nat.le_refl _
  | f :: fs, h => by
    show (f.b.items ++ wet fs).length ≤ 6 * (fs.length + 1)
    rw [List.length_append]
    have h1 := h f List.mem_cons_self
    have h2 := wet_len (T := T) fun f hf => h f (List.mem_cons_of_mem _ hf)
    omega
theorem fok_of {st : U3} {fs : List Flood} (h : ∀ f ∈ fs, f ∈ drF st) (hl : fs.length ≤ 3) : FOk (isl st) fs := by
  refine ⟨fun f hf p hp => pin_drT ((drF_tw st).b f (h f hf) p hp), fun f hf p hp => pin_drT ((drF_tw st).c f (h f hf) p hp), ?_, by omega⟩
  have h1 := wet_len (T := []) (fs := fs) fun f hf => Nat.le_trans (drF_sub (h f hf)).1.length_le (drT_len st)
  omega
theorem drF_ok (st : U3) : FOk (isl st) (drF st) := fok_of (fun f hf => hf) (drF_len st)
/-! ### in order -/
theorem srtL_self {α : Type} [DecidableEq α] [Srt α] {l : List α} (h : l.Pairwise fun a b => dataLe false (Datum.toD (α := α)) a b = true) : srtL l = l := List.mergeSort_of_pairwise h
theorem names_srt {l : List Str} (h : l.Sublist ["high", "low", "mid"]) : srtL l = l := by
  refine srtL_self (List.Pairwise.sublist h ?_)
  have e1 : dataLe false (Datum.toD (α := Str)) "high" "low" = true := by decide +kernel
  have e2 : dataLe false (Datum.toD (α := Str)) "high" "mid" = true := by decide +kernel
  have e3 : dataLe false (Datum.toD (α := Str)) "low" "mid" = true := by decide +kernel
  simp [e1, e2, e3]
theorem le_hl {b b' c c' : Tup Pair} : dataLe false (Datum.toD (α := Flood)) ⟨"high", b, c⟩ ⟨"low", b', c'⟩ = true := by rfl
theorem le_hm {b b' c c' : Tup Pair} : dataLe false (Datum.toD (α := Flood)) ⟨"high", b, c⟩ ⟨"mid", b', c'⟩ = true := by rfl
theorem le_lm {b b' c c' : Tup Pair} : dataLe false (Datum.toD (α := Flood)) ⟨"low", b, c⟩ ⟨"mid", b', c'⟩ = true := by rfl
theorem drF_srt (st : U3) : srtL (drF st) = drF st := by
  refine srtL_self ?_
  obtain ⟨n, hn, e⟩ := drF_names st
  generalize drF st = fs at e
  have hl : fs.length ≤ 3 := by
    have q := congrArg List.length e
    rw [List.length_map, List.length_take] at q
    omega
  match fs, hl, e with
  | [], _, _ => exact .nil
  | [f], _, _ => exact List.pairwise_singleton _ _
  | [⟨a, b, c⟩, ⟨a', b', c'⟩], _, e =>
    have hn2 : n = 2 := by
      have q := congrArg List.length e
      rw [List.length_map, List.length_take] at q
      have q : 2 = min n 5 := q
      omega
    subst hn2
    have e : [a, a'] = (["high", "low"] : List Str) := e
    injection e with e1 e
    injection e with e2 e
    subst e1 e2
    simp [le_hl]
  | [⟨a, b, c⟩, ⟨a', b', c'⟩, ⟨a'', b'', c''⟩], _, e =>
    have hn2 : n = 3 := by
      have q := congrArg List.length e
      rw [List.length_map, List.length_take] at q
      have q : 3 = min n 5 := q
      omega
    subst hn2
    have e : [a, a', a''] = (["high", "low", "mid"] : List Str) := e
    injection e with e1 e
    injection e with e2 e
    injection e with e3 e
    subst e1 e2 e3
    simp [le_hl, le_hm, le_lm]
theorem drF_nsub (st : U3) {fs : List Flood} (h : fs.Sublist (drF st)) : (fs.map fun f : Flood => f.a).Sublist (["high", "low", "mid"] : List Str) := by
  obtain ⟨n, hn, e⟩ := drF_names st
  have q := h.map (fun f : Flood => f.a)
  rw [e] at q
  refine q.trans ?_
  have : n = 0 ∨ n = 1 ∨ n = 2 ∨ n = 3 := by omega
  rcases this with rfl | rfl | rfl | rfl
  · exact List.nil_sublist _
  · exact (show (["high"] : List Str) = (["high", "low", "mid"] : List Str).take 1 from rfl) ▸ List.take_sublist _ _
  · exact (show (["high", "low"] : List Str) = (["high", "low", "mid"] : List Str).take 2 from rfl) ▸ List.take_sublist _ _
  · exact List.Sublist.refl _
theorem drF_once (st : U3) : ((drF st).map (fun f : Flood => f.a)).Nodup := (drF_nsub st (List.Sublist.refl _)).nodup (by decide)
/-! ### the Talk -/
def hostT (st : U3) : Tk := ⟨srtL (dd (isl st)), srtL (dd (drR st)), srtL (drF st)⟩
theorem host_d (st : U3) : talkD (isl st) (drR st) (drF st) = (hostT st).d := rfl
theorem host_I (st : U3) (x : Str) : x ∈ (hostT st).isl ↔ x ∈ isl st := mem_srtdd
theorem host_R (st : U3) (r : Rule) : r ∈ (hostT st).rul ↔ r ∈ drR st := mem_srtdd
theorem host_F (st : U3) : (hostT st).flo = drF st := drF_srt st
theorem srtdd_len {α : Type} [DecidableEq α] [Srt α] (l : List α) : (srtL (dd l)).length ≤ l.length := by
  rw [(srtL_perm (dd l)).length_eq]
  exact dd_len l
theorem pin_host {st : U3} {p : Pair} (h : PIn (isl st) p) : PIn (hostT st).isl p := ⟨(host_I st _).mpr h.1, (host_I st _).mpr h.2⟩
theorem fok_host {st : U3} {fs : List Flood} (h : FOk (isl st) fs) : FOk (hostT st).isl fs := ⟨fun f hf p hp => pin_host (h.b f hf p hp), fun f hf p hp => pin_host (h.c f hf p hp), h.wl, h.fl⟩
theorem host_tk (st : U3) : TkOk (hostT st) := by
  refine ⟨(srtL_perm _).nodup_iff.mpr (dd_nodup _), ?_, ?_, fun r hr => ?_⟩
  · have h1 := srtdd_len (isl st)
    have h2 := isl_len st
    show (srtL (dd (isl st))).length ≤ 1000
    omega
  · have h1 := srtdd_len (drR st)
    have h2 := drR_len st
    show (srtL (dd (drR st))).length ≤ 1000
    omega
  · have q := drR_in st r ((host_R st r).mp hr)
    exact ⟨fun p hp => pin_host (q.1 p hp), pin_host q.2⟩
theorem host_all (st : U3) : TAll (hostT st) := ⟨host_tk st, by rw [host_F]; exact fok_host (drF_ok st)⟩
theorem talk_ok (st : U3) : TalkOk (isl st) (drR st) (drF st) := by
  have h1 := isl_len st
  have h2 := drR_len st
  have h3 := drF_len st
  have h4 := drT_len st
  refine ⟨by omega, by omega, by omega, fun r hr => ⟨fun p hp => (drR_in st r hr).1 p hp, (drR_in st r hr).2, ?_⟩, fun f hf => ⟨fun p hp => (drF_ok st).b f hf p hp, fun p hp => (drF_ok st).c f hf p hp, ?_, ?_⟩, drF_once st⟩
  · have := (drR_mem hr).2.2.2
    omega
  · have := (drF_sub hf).1.length_le
    omega
  · have := (drF_sub hf).2.length_le
    omega
/-! ### the answers -/
theorem can_eq (st : U3) : canBe (hostT st) = (rest (isl st) (drR st) (drF st)).isEmpty := by
  unfold canBe
  rw [host_F, peeled_rest (isl_nd st) (host_I st) (host_R st) (drR_in st) (drR_wants st) (drF_tw st)]
theorem lot_eq (st : U3) : stuckLot (hostT st) = (rest (isl st) (drR st) (drF st)).map (·.a) := by
  unfold stuckLot
  rw [host_F, peeled_rest (isl_nd st) (host_I st) (host_R st) (drR_in st) (drR_wants st) (drF_tw st)]
  refine names_srt (drF_nsub st ?_)
  rw [rest_itn]
  exact itn_subl _ _
theorem fine_eq (st : U3) : (!decide (sights (isl st) (drR st) (drF st) = [])) = canBe (hostT st) := by
  rw [can_eq]
  have q := sights_rest (isl_nd st) (drR_in st) (drR_wants st) (drF_tw st)
  rw [Bool.eq_iff_iff, Bool.not_eq_true', decide_eq_false_iff_not, List.isEmpty_iff]
  exact q
theorem stuck_eq {st : U3} {fs : List Flood} (h : ∀ f ∈ fs, f ∈ drF st) : isStuck (hostT st) fs = (low (isl st) (drR st) fs).isEmpty := by
  unfold isStuck
  rw [low_eq (isl_nd st) (host_I st) (host_R st) (drR_in st) (drR_wants st) ((drF_tw st).sub h)]
theorem fnd_of {t : Tk} {f : Flood} (hf : f ∈ t.flo) (nd : (t.flo.map (·.a)).Nodup) : Fnd t f.a f := by
  have key : ∀ (l : List Flood), f ∈ l → (l.map (·.a)).Nodup → ∃ r, l.filter (fun g => decide (g.a = f.a)) = f :: r := by
    intro l
    induction l with
    | nil => intro h; cases h
    | cons g l ih =>
      intro h nd
      obtain ⟨n1, n2⟩ := List.nodup_cons.mp (show (g.a :: l.map (·.a)).Nodup from nd)
      rcases List.mem_cons.mp h with e | h
      · subst e
        rw [List.filter_cons, decide_eq_true rfl, if_pos rfl]
        exact ⟨_, rfl⟩
      · have hne : g.a ≠ f.a := fun e => n1 (by rw [e]; exact List.mem_map.mpr ⟨f, h, rfl⟩)
        rw [List.filter_cons, decide_eq_false hne, if_neg Bool.false_ne_true]
        exact ih h n2
  exact key t.flo hf nd
theorem fnd_host {st : U3} {f : Flood} (hf : f ∈ drF st) : Fnd (hostT st) f.a f := fnd_of (by rw [host_F]; exact hf) (by rw [host_F]; exact drF_once st)
end Fz
set_option maxHeartbeats 600000
/-! _law_right. -/
namespace Fz
open PySem L2 PyProof PyProof.Rows
open PySem.W (Datum DatumOrd Tup T3)
open Enc (enc)
/-! ### lists in the place of tuples, and back -/
theorem lst_tup : ∀ (k : Nat) (x : D), okD k x = true → okD k (lstD k x) = true ∧ tupD k (lstD k x) = tupD k x
  | 0, .str _, _ => ⟨rfl, rfl⟩
  | k + 1, .str _, _ => ⟨rfl, rfl⟩
  | k + 1, .tup l, h => by
    have h : l.all (okD k) = true := h
    have ih : ∀ a ∈ l, okD k (lstD k a) = true ∧ tupD k (lstD k a) = tupD k a := fun a ha => lst_tup k a (List.all_eq_true.mp h a ha)
    refine ⟨?_, ?_⟩
    · show (l.map (lstD k)).all (okD k) = true
      rw [List.all_map]
      exact List.all_eq_true.mpr fun a ha => (ih a ha).1
    · show D.tup ((l.map (lstD k)).map (tupD k)) = D.tup (l.map (tupD k))
      rw [List.map_map]
      exact congrArg D.tup (List.map_congr_left fun a ha => (ih a ha).2)
  | k + 1, .lst l, h => by
    have h : l.all (okD k) = true := h
    have ih : ∀ a ∈ l, okD k (lstD k a) = true ∧ tupD k (lstD k a) = tupD k a := fun a ha => lst_tup k a (List.all_eq_true.mp h a ha)
    refine ⟨?_, ?_⟩
    · show (l.map (lstD k)).all (okD k) = true
      rw [List.all_map]
      exact List.all_eq_true.mpr fun a ha => (ih a ha).1
    · show D.tup ((l.map (lstD k)).map (tupD k)) = D.tup (l.map (tupD k))
      rw [List.map_map]
      exact congrArg D.tup (List.map_congr_left fun a ha => (ih a ha).2)
/-- all tuples -/
class Tpl (α : Type) [DecidableEq α] [Enc α] (k : outParam Nat) where
  ok : ∀ a : α, okD k (enc a) = true
  tp : ∀ a : α, tupD k (enc a) = enc a
theorem okD_str (k : Nat) (x : Str) : okD k (.str x) = true := by cases k <;> rfl
theorem tupD_str (k : Nat) (x : Str) : tupD k (.str x) = .str x := by cases k <;> rfl
theorem okP (k : Nat) (p : Pair) : okD (k + 1) (enc p) = true := by
  show (okD k (.str p.1) && (okD k (.str p.2) && true)) = true
  rw [okD_str, okD_str]
  rfl
theorem tpP (k : Nat) (p : Pair) : tupD (k + 1) (enc p) = enc p := by
  show D.tup [tupD k (.str p.1), tupD k (.str p.2)] = _
  rw [tupD_str, tupD_str]
  rfl
theorem ok_map {α : Type} [DecidableEq α] [Enc α] {k : Nat} (h : ∀ a : α, okD k (enc a) = true) (l : List α) : okD (k + 1) (.tup (l.map enc)) = true := by
  show (l.map enc).all (okD k) = true
  rw [List.all_map]
  exact List.all_eq_true.mpr fun a _ => h a
theorem tp_map {α : Type} [DecidableEq α] [Enc α] {k : Nat} (h : ∀ a : α, tupD k (enc a) = enc a) (l : List α) : tupD (k + 1) (.tup (l.map enc)) = .tup (l.map enc) := by
  show D.tup ((l.map enc).map (tupD k)) = _
  rw [List.map_map]
  exact congrArg D.tup (List.map_congr_left fun a _ => h a)
theorem okRule (r : Rule) : okD 3 (enc r) = true := by
  show (okD 2 (.tup (r.1.items.map enc)) && (okD 2 (enc r.2) && true)) = true
  rw [ok_map (okP 0), okP]
  rfl
theorem tpRule (r : Rule) : tupD 3 (enc r) = enc r := by
  show D.tup [tupD 2 (.tup (r.1.items.map enc)), tupD 2 (enc r.2)] = _
  rw [tp_map (tpP 0), tpP]
  rfl
theorem okFlood (f : Flood) : okD 3 (enc f) = true := by
  show (okD 2 (.str f.a) && (okD 2 (.tup (f.b.items.map enc)) && (okD 2 (.tup (f.c.items.map enc)) && true))) = true
  rw [okD_str, ok_map (okP 0), ok_map (okP 0)]
  rfl
theorem tpFlood (f : Flood) : tupD 3 (enc f) = enc f := by
  show D.tup [tupD 2 (.str f.a), tupD 2 (.tup (f.b.items.map enc)), tupD 2 (.tup (f.c.items.map enc))] = _
  rw [tupD_str, tp_map (tpP 0), tp_map (tpP 0)]
  rfl
theorem okRules (R : List Rule) : okD 4 (.tup (R.map enc)) = true := ok_map okRule R
theorem tpRules (R : List Rule) : tupD 4 (.tup (R.map enc)) = .tup (R.map enc) := tp_map tpRule R
theorem okFloods (R : List Flood) : okD 4 (.tup (R.map enc)) = true := ok_map okFlood R
theorem tpFloods (R : List Flood) : tupD 4 (.tup (R.map enc)) = .tup (R.map enc) := tp_map tpFlood R
/-! ### one turn -/
def someOf (st : U3) : List Flood := pickL (drF st) (tkS (drS st) 3) (1 + tk (drS st) 3)
def rigS (st : U3) : U3 := mixedS (tkS (drS st) 3) (drF st).length
def restN (st : U3) : List Str := (rest (isl st) (drR st) (drF st)).map (·.a)
theorem rigS_adv (st : U3) : Adv st (rigS st) 77 := (((drS_adv st).trans (tk_adv (drS st) 3)).trans (mixedS_adv _ _)).le (by have := drF_len st; omega)
@[irreducible] def rigN (n : Nat) (st : U3) : U3 := (List.range n).foldl (fun s _ => rigS s) st
theorem rigN_eq (n : Nat) (st : U3) : rigN n st = (List.range n).foldl (fun s _ => rigS s) st := by unfold rigN; rfl
theorem some_mem (st : U3) : ∀ f ∈ someOf st, f ∈ drF st := fun f hf => (pickL_sub _ _ _).subset hf
theorem some_len (st : U3) : (someOf st).length ≤ 3 := Nat.le_trans (pickL_le _ _ _) (drF_len st)
theorem okSm_tup (k : Nat) (l : List D) : okSm (k + 1) (.tup l) = (l.all (okSm k) && decide (l.length < 1000)) := rfl
theorem okSm_lst (k : Nat) (l : List D) : okSm (k + 1) (.lst l) = (l.all (okSm k) && decide (l.length < 1000)) := rfl
theorem okSm_str (k : Nat) (x : Str) : okSm k (.str x) = true := by cases k <;> rfl
theorem okSm_bl (k : Nat) (x : Bool) : okSm k (.bl x) = true := by cases k <;> rfl
theorem sm_names (k : Nat) (l : List Str) (h : l.length < 1000) : okSm (k + 1) (.tup (l.map enc)) = true := by
  rw [okSm_tup, List.all_map, List.length_map, decide_eq_true h, Bool.and_true]
  exact List.all_eq_true.mpr fun a _ => okSm_str k a
theorem okSm_2 (k : Nat) (hk : k = 1) (l : List D) (h : l.length < 1000) (h2 : ∀ d ∈ l, okSm k d = true) : okSm 2 (.lst l) = true := by
  have e : (2 : Nat) = k + 1 := by omega
  rw [e, okSm_lst, decide_eq_true h, Bool.and_true]
  exact List.all_eq_true.mpr h2
theorem sm_got (x y : Bool) (l : List Str) (h : l.length < 1000) : okSm 2 (.lst [.bl x, .bl y, .tup (l.map enc)]) = true := by
  refine okSm_2 (0 + 1) rfl _ ?_ fun d hd => ?_
  · simp only [List.length_cons, List.length_nil]
    omega
  · rcases List.mem_cons.mp hd with e | hd
    · rw [e]; exact okSm_bl _ x
    rcases List.mem_cons.mp hd with e | hd
    · rw [e]; exact okSm_bl _ y
    · rw [List.mem_singleton.mp hd]; exact sm_names 0 l h
theorem sm_two (x y : Bool) : okSm 2 (.lst [.bl x, .bl y]) = true := by
  refine okSm_2 (0 + 1) rfl _ ?_ fun d hd => ?_
  · simp only [List.length_cons, List.length_nil]
    omega
  · rcases List.mem_cons.mp hd with e | hd
    · rw [e]; exact okSm_bl _ x
    · rw [List.mem_singleton.mp hd]; exact okSm_bl _ y
theorem restN_len (st : U3) : (restN st).length ≤ 3 := by
  unfold restN
  rw [List.length_map, rest_itn]
  exact Nat.le_trans (itn_subl _ _).length_le (drF_len st)
section
variable {w : World} {K : PySem.W.Frag} {mg : Str → Option Value} {base : Heap} {C : Addr}
def gRig (ds : List D) (st : U3) (d : D) (st' : U3) : Prop := ds = [] ∧ Fre st 400 ∧ d = .bl true ∧ st' = rigN 4 st
def nRig : List Str := ["_law_urn", "_law_turn", "_law_isles_here", "_law_rows_so", "_law_times_so", "_law_host", "_law_fine", "_law_rest_here", "_law_got", "_law_some", "_law_named_here"]
theorem sc_rig : FnScope nRig ["_law_urn"] (defScope (top 84)) := ⟨rfl, rfl, rfl, by decide +kernel, rfl, by decide +kernel, by decide +kernel⟩
structure RigIn (w : World) (K : PySem.W.Frag) (mg : Str → Option Value) (base : Heap) (C : Addr) : Prop where
  draw : OkS w K mg base C 5 "_law_draw" pDraw gDraw
  ini : OkI w K mg base C 6 gIni
  sights : Ok w K mg base C 5 "_law_sights" pLo gSig
  named : Ok w K mg base C 1 "_law_named" ["_law_times_so"] gNam
  rest : Ok w K mg base C 6 "_law_rest" pLo gRes
  can : Ok w K mg base C 7 "can_be" ["talk"] gCan
  lists : Ok w K mg base C 5 "_law_lists" ["_law_matter"] (gLis 4)
  lot : Ok w K mg base C 6 "stuck_lot" ["talk"] gLot
  same : Ok w K mg base C 3 "_law_same" pSm (gSm 2)
  pick : OkS w K mg base C 3 "_law_pick" pPick gPick
  take : OkS w K mg base C 1 "_law_take" pTk gTk
  stuck : Ok w K mg base C 5 "is_stuck" ["talk", "names"] gStk
  low : Ok w K mg base C 5 "_law_low" pLo gLo
theorem d_cast_tup_dec {X : Cx} {C : Addr} (l : List Str) (hu : X.A.units + Datum.depth (Tup Str) < cLine) : OpR X (compareOp .Eq) (rD X.K C (.tup (l.map enc)) (.tup []) (.bl (decide (l = [])))) := by
  have q := o_eq (X := X) (C := C) (a := (⟨l⟩ : Tup Str)) (b := ⟨[]⟩) hu
  have e : decide ((⟨l⟩ : Tup Str) = ⟨[]⟩) = decide (l = []) := decide_eq_decide.mpr ⟨fun h => congrArg Tup.items h, fun h => by rw [h]⟩
  rw [e] at q
  exact q
/-- the slots behind the draw -/
def rRho (st s2 : U3) (turn : Sl) (h f r g so nm : Sl) : List Sl := [.sou s2, turn, .dat (.tupk ((isl st).map enc)), .dat (.tup ((drR st).map enc)), .dat (.tup ((drF st).map enc)), h, f, r, g, so, nm]
theorem ok_rig (b : MgB mg) (h : DefAt K mg "_law_right" 84) (o : RigIn w K mg base C) : OkS w K mg base C 8 "_law_right" ["_law_urn"] gRig := by
  obtain ⟨f, fd, F, m⟩ := h
  refine ⟨f, fd, fn_src F sc_rig (fun ds st d st' ⟨e, _⟩ => by rw [e] <;> rfl) (fun cdv A outer s H E hr ds st d st' hg Fr hU => ?_), m, F.kp, F.bindsN fun _ _ _ _ _ _ us hl => match us, hl with | [_], _ => rfl⟩
  obtain ⟨rfl, fr, rfl, rfl⟩ := hg
  have hr1 := hr.mono (show 1 ≤ 7 by decide)
  have hr3 := hr.mono (show 3 ≤ 7 by decide)
  have hr5 := hr.mono (show 5 ≤ 7 by decide)
  have hr6 := hr.mono (show 6 ≤ 7 by decide)
  let ρf : U3 → List Sl := fun s => [.sou s, .no, .no, .no, .no, .no, .no, .no, .no, .no, .no]
  rw [rigN_eq]
  refine b_step (ρ1 := ρf ((List.range 4).foldl (fun s _ => rigS s) st)) (s_forU (vs := [1]) (List.range 4) (fun i : Nat => D.int i) (fun s _ => rigS s) (fun i s => i ≤ 4 ∧ Adv st s (77 * i)) ρf _ st PassesOwn.never rfl ⟨Nat.zero_le _, Adv.refl⟩ (fun i s a ha q => ?_)
    (iU_range (n := 4) b.range (by decide) (u_d d_int)) (fun i s a ha q => g_name (i := 1) sc_rig.nd) ?_) ?_
  · have hi := (List.getElem?_eq_some_iff.mp ha).1
    rw [List.length_range] at hi
    exact ⟨hi, (q.2.trans (rigS_adv s)).le (by omega)⟩
  · intro i s a ha q
    have hi := (List.getElem?_eq_some_iff.mp ha).1
    rw [List.length_range] at hi
    have fs : Fre s 80 := by
      have h1 := q.2
      have h2 := q.1
      unfold Fre Adv at *
      omega
    have f1 : Fre s 73 := fs.le (by decide)
    have f2 : Fre (drS s) 1 := ((show Fre s (73 + 7) from fs).adv (drS_adv s)).le (by decide)
    have f3 : Fre (tkS (drS s) 3) (drF s).length := ((show Fre s (74 + 6) from fs).adv ((drS_adv s).trans (tk_adv _ _))).le (by have := drF_len s; omega)
    have hIl := isl_len s
    let T : Sl := .dat (.int a)
    -- the draw
    refine n_step (ρ1 := rRho s (drS s) T .no .no .no .no .no .no) (su_tup (vs := [2, 3, 4]) (ρ1 := [.sou (drS s), T, .no, .no, .no, .no, .no, .no, .no, .no, .no]) (d := drawD s) (u_draw (i := 0) o.draw rfl hr5 (aU2 (u_d d_int) (u_d d_int)) rfl rfl ⟨rfl, f1, rfl, rfl⟩ ⟨_, rfl⟩)
      (g_tup rfl (gs_cons (g_name (i := 2) sc_rig.nd) (gs_cons (g_name (i := 3) sc_rig.nd) (gs_cons (g_name (i := 4) sc_rig.nd) gs_nil))))) ?_
    -- the Talk, whether there is a sight
    let fine : Bool := canBe (hostT s)
    refine n_step (ρ1 := rRho s (drS s) T (.dat (hostT s).d) (.dat (.bl fine)) .no .no .no .no) (s_par (i := 5) (j := 6) (k1 := .dat (hostT s).d) (k2 := .dat (.bl fine)) rfl sc_rig.nd
        (k_d (d_make o.ini rfl hr (a3 (d_kt (dv 2)) (dv 3) (dv 4)) ⟨isl s, drR s, drF s, _, _, _, rfl, .inr rfl, okRules _, tpRules _, okFloods _, tpFloods _, talk_ok s, rfl⟩))
        (k_d (d_cast (congrArg D.bl ((decide_not (p := sights (isl s) (drR s) (drF s) = [])).trans (fine_eq s))) (d_cmp (o_ne (α := List Sight) (a := sights (isl s) (drR s) (drF s)) (b := []) (u_eq hr)) (d_fn o.sights rfl hr5 (a3 (dv 2) (dv 3) (dv 4)) ⟨isl s, drR s, drF s, rfl, hIl, drR_in s, drF_ok s, drF_len s, rfl⟩) (d_lst a_nil))))) ?_
    refine n_step (ρ1 := rRho s (drS s) T (.dat (hostT s).d) (.dat (.bl fine)) (.dat (.tup ((restN s).map enc))) .no .no .no) (s_set (i := 7) sc_rig.nd (k_d (d_t c_tupL b.tuple rfl (a1 (d_fn o.named rfl hr1 (a1 (d_fn o.rest rfl hr6 (a3 (dv 2) (dv 3) (dv 4)) ⟨isl s, drR s, drF s, rfl, hIl, drR_in s, drF_ok s, rfl⟩)) ⟨rest (isl s) (drR s) (drF s), rfl, rfl⟩))))) ?_
    let names : D := .tup ((restN s).map enc)
    let gotD : D := .lst [.bl fine, .bl fine, names]
    have eN : stuckLot (hostT s) = restN s := lot_eq s
    refine n_step (ρ1 := rRho s (drS s) T (.dat (hostT s).d) (.dat (.bl fine)) (.dat names) (.dat gotD) .no .no) (s_set (i := 8) sc_rig.nd (k_d (d_lst (a3 (d_fn o.can rfl hr (a1 (dv 5)) ⟨hostT s, rfl, host_all s, rfl⟩)
      (d_fn o.can rfl hr (a1 (d_make o.ini rfl hr (a3 (d_of_f (f_t (l := (isl s).map enc) c_lstT b.list (by rfl) (a1 (d_kt (dv 2)))))
          (d_fn o.lists rfl hr5 (a1 (dv 3)) ⟨_, rfl, okRules _, rfl⟩) (d_fn o.lists rfl hr5 (a1 (dv 4)) ⟨_, rfl, okFloods _, rfl⟩))
          ⟨isl s, drR s, drF s, _, _, _, rfl, .inl rfl, (lst_tup 4 _ (okRules _)).1, ((lst_tup 4 _ (okRules _)).2).trans (tpRules _), (lst_tup 4 _ (okFloods _)).1, ((lst_tup 4 _ (okFloods _)).2).trans (tpFloods _), talk_ok s, rfl⟩)) ⟨hostT s, rfl, host_all s, rfl⟩)
      (d_fn o.lot rfl hr6 (a1 (dv 5)) ⟨hostT s, rfl, host_all s, by rw [eN]⟩))))) ?_
    -- they are the same
    have eF : (decide (restN s = []) != fine) = false := by
      have q : fine = decide (restN s = []) := by
        show canBe (hostT s) = _
        rw [can_eq]
        unfold restN
        cases rest (isl s) (drR s) (drF s) with
        | nil => rfl
        | cons a l => exact (decide_eq_false (by simp)).symm
      rw [q]
      simp
    refine n_step (s_ifF (pt_eq (y := !true || (decide (restN s = []) != fine)) (by rw [eF]; rfl) (t_w (w_or (t_not (t_val (d_fn o.same rfl hr3 (a2 (dv 8) (d_lst (a3 (dv 6) (dv 6) (dv 7)))) ⟨gotD, rfl, sm_got _ _ _ (by have := restN_len s; omega), rfl⟩)))
      (fun _ => w_oneO (t_cmp o_neB (d_cmp (d_cast_tup_dec (restN s) (u_eq hr)) (dv 7) (d_tup a_nil)) (dv 6)))))) n_nil) ?_
    -- some of the floods
    have gp : gPick [.tup ((drF s).map enc), .int (1 + (tk (drS s) 3 : Nat))] (tkS (drS s) 3) (.lst ((someOf s).map enc)) (rigS s) := by
      refine ⟨(drF s).map enc, 1 + tk (drS s) 3, .inr ?_, ?_, ?_, ?_, ?_⟩
      · rw [Int.natCast_add]
        rfl
      · rw [List.length_map]
        have := drF_len s
        omega
      · rw [List.length_map]
        exact f3
      · rw [pickL_map]
        rfl
      · rw [List.length_map]
        rfl
    refine n_step (ρ1 := rRho s (rigS s) T (.dat (hostT s).d) (.dat (.bl fine)) (.dat names) (.dat gotD) (.dat (.lst ((someOf s).map enc))) .no) (su_set (i := 9) sc_rig.nd (u_draw (i := 0) (st := tkS (drS s) 3) o.pick rfl hr3 (aU2 (u_d (dv 4))
      (u_bin (o_add (i := 1) (j := (tk (drS s) 3 : Nat))) (u_d d_int) (u_draw (i := 0) o.take rfl hr1 (aU1 (u_d d_int)) rfl rfl ⟨3, rfl, by decide, by decide, f2, rfl, rfl⟩ ⟨_, rfl⟩))) rfl rfl gp ⟨_, rfl⟩)) ?_
    have hsl := some_len s
    have hsf := fok_of (some_mem s) hsl
    refine n_no (ρ1 := rRho s (rigS s) T (.dat (hostT s).d) (.dat (.bl fine)) (.dat names) .no (.dat (.lst ((someOf s).map enc))) .no) [1, 2, 3, 4, 5, 6, 7, 8, 9, 10] ?_
    by_cases he : someOf s = []
    · exact n_no (ρ1 := rRho s (rigS s) T (.dat (hostT s).d) (.dat (.bl fine)) (.dat names) (.dat gotD) (.dat (.lst ((someOf s).map enc))) .no) [8] (n_one (s_ifF (pt_eq (decide_eq_false (not_not_intro he)) (t_cmp (o_ne (a := someOf s) (b := []) (u_eq hr)) (dv 9) (d_lst a_nil))) n_nil))
    · let ns : List Str := (someOf s).map (·.a)
      let q : List (Str × Flood) := (someOf s).map fun f => (f.a, f)
      have eq1 : q.map (fun p => D.str p.1) = ns.map enc := by
        show ((someOf s).map fun f => (f.a, f)).map (fun p => D.str p.1) = ((someOf s).map (·.a)).map enc
        rw [List.map_map, List.map_map]
        rfl
      have eq2 : q.map (·.2) = someOf s := by
        show ((someOf s).map fun f => (f.a, f)).map (·.2) = _
        rw [List.map_map]
        exact List.map_id _
      have fo2 : FOk (hostT s).isl (q.map (·.2)) := by rw [eq2]; exact fok_host hsf
      have fn2 : ∀ p ∈ q, Fnd (hostT s) p.1 p.2 := fun p hp => by
        obtain ⟨f, hf, rfl⟩ := List.mem_map.mp hp
        exact fnd_host (some_mem s f hf)
      let sb : Bool := isStuck (hostT s) (q.map (·.2))
      have esb : decide (low (isl s) (drR s) (someOf s) = []) = sb := by
        show _ = isStuck (hostT s) (q.map (·.2))
        rw [eq2, stuck_eq (some_mem s)]
        cases low (isl s) (drR s) (someOf s) with
        | nil => rfl
        | cons a l => exact decide_eq_false (by simp)
      refine n_no (ρ1 := rRho s (rigS s) T (.dat (hostT s).d) (.dat (.bl fine)) (.dat names) (.dat (.lst [.bl sb, .bl sb])) (.dat (.lst ((someOf s).map enc))) (.dat (.tup (ns.map enc)))) [8, 10] (n_one (s_ifT (pt_eq (decide_eq_true he) (t_cmp (o_ne (a := someOf s) (b := []) (u_eq hr)) (dv 9) (d_lst a_nil))) ?_))
      refine n_step (ρ1 := rRho s (rigS s) T (.dat (hostT s).d) (.dat (.bl fine)) (.dat names) (.dat gotD) (.dat (.lst ((someOf s).map enc))) (.dat (.tup (ns.map enc)))) (s_set (i := 10) sc_rig.nd (k_d (d_t c_tupL b.tuple rfl (a1 (d_fn o.named rfl hr1 (a1 (dv 9)) ⟨someOf s, rfl, rfl⟩))))) ?_
      refine n_step (ρ1 := rRho s (rigS s) T (.dat (hostT s).d) (.dat (.bl fine)) (.dat names) (.dat (.lst [.bl sb, .bl sb])) (.dat (.lst ((someOf s).map enc))) (.dat (.tup (ns.map enc)))) (s_set (i := 8) sc_rig.nd (k_d (d_lst (a2
        (d_fn o.stuck rfl hr5 (a2 (dv 5) (dv 10)) ⟨hostT s, q, .inl (by rw [eq1]), host_tk s, fo2, fn2, rfl⟩)
        (d_fn o.stuck rfl hr5 (a2 (dv 5) (d_of_f (f_t (l := ns.map enc) c_lstT b.list (by rfl) (a1 (dv 10))))) ⟨hostT s, q, .inr (by rw [eq1]), host_tk s, fo2, fn2, rfl⟩))))) ?_
      exact n_one (s_ifF (pt_eq (y := !true) rfl (t_not (t_val (d_fn o.same rfl hr3 (a2 (dv 8) (d_bin (o_mul2 (d := .bl sb)) (d_lst (a1 (d_cast (congrArg D.bl esb) (d_cmp (o_eq (a := low (isl s) (drR s) (someOf s)) (b := []) (u_eq hr)) (d_fn o.low rfl hr5 (a3 (dv 2) (dv 3) (dv 9)) ⟨isl s, drR s, someOf s, rfl, hIl, drR_in s, hsf, rfl⟩) (d_lst a_nil))))) d_int)) ⟨.lst [.bl sb, .bl sb], rfl, sm_two _ _, rfl⟩)))) n_nil)
  · exact b_stop (su_ret hU (i := 0) rfl (u_d d_bl))
end
end Fz
set_option maxHeartbeats 2000000
/-! law. -/
namespace Fz
open PySem L2 PyProof PyProof.Rows
open PySem.W (Datum DatumOrd Tup T3)
open Enc (enc)
section
variable {X : Cx} {C : Addr} {ρ : List Sl} {pos p : Pos} {d : D} {x : Str} {ps : List Str} {g : List D → D → Prop} {j : Nat}
/-- f() -/
theorem d_fn0 (o : Ok X.w X.K X.mg X.base C j x ps g) (hp : X.prog = pr) (hr : Room j X.A) (h : g [] d) (hg : Gl X x := by rfl) (hdb : (x == ("__debug__" : Str)) = false := by decide) : PE X (.Call (.Name x p) [] [] pos) (tD X.K C ρ d) := by
  obtain ⟨f, fd, F, m, q, b⟩ := o
  rw [← hp] at F
  exact pe_w (pe_call0 (E := E0) (dvs := []) F hr hg m q b .nil pass0 hdb) fun σ H Q ⟨F, P, r, k⟩ => by
    show spD X.K C g ([] ++ []) H Q E0
    exact ⟨P, [], d, r.trk, rfl, h, fun v H3 e3 h3 => k v H3 e3 h3⟩
end
section
variable {w : World} {K : PySem.W.Frag} {mg : Str → Option Value} {base : Heap} {C : Addr}
def gHand (ds : List D) (d : D) : Prop := ds = [] ∧ d = .bl true
def gLaw (ds : List D) (d : D) : Prop := ∃ s : List Int, ds = [.lstk (s.map D.int)] ∧ d = .bl true
def nLaw : List Str := ["_law_script", "_law_cells_so", "_law_k"]
theorem sc_law : FnScope nLaw ["_law_script"] (defScope (top 85)) := ⟨rfl, rfl, rfl, by decide +kernel, rfl, by decide +kernel, by decide +kernel⟩
theorem cells_len (s : List Int) : (cellsOf s).length ≤ 3 := by
  have key : ∀ (l : List (Int × Nat)) (acc : List Int), (l.foldl cellStep acc).length = acc.length := by
    intro l
    induction l with
    | nil => intro acc; rfl
    | cons a l ih =>
      intro acc
      rw [List.foldl_cons, ih]
      exact List.length_set
  unfold cellsOf
  rw [key]
  unfold cells0
  split
  · decide
  · rw [List.length_take]
    omega
theorem law_fn {k : Nat} {f : Addr} {fd : FuncData} (hk : 9 ≤ k) (b : MgB mg) (F : FunD K "law" "law" (defArgs (top 85)) (defBody (top 85)) (defScope (top 85)) [] [] f fd) (oH : Ok w K mg base C k "_law_by_hand_right" [] gHand) (oC : Ok w K mg base C 1 "_law_cells" pCel gCel) (oB : OkB w K mg base C 1 "_law_box" pBox gBox) (oR : OkS w K mg base C 8 "_law_right" ["_law_urn"] gRig) : FnOk pr w K mg base CX0 (k + 1) f fd ["_law_script"] (spD K C gLaw) := by
  refine fn_data F sc_law (fun ds d ⟨_, e, _⟩ => by rw [e] <;> rfl) (fun cdv A outer s H E hr ds d hg Fr => ?_)
  obtain ⟨sc, rfl, rfl⟩ := hg
  have hr1 := hr.mono (show 1 ≤ k by omega)
  have hr8 := hr.mono (show 8 ≤ k by omega)
  refine b_step (s_ifF (pt_eq (y := !true) rfl (t_not (t_val (d_fn0 oH rfl hr ⟨rfl, rfl⟩)))) n_nil) ?_
  refine b_step (s_set (i := 1) (k := .dat (.lst ((cellsOf sc).map D.int))) sc_law.nd (k_d (d_fn oC rfl hr1 (a2 (dv 0) d_int) ⟨sc, rfl, rfl⟩))) ?_
  have hl := cells_len sc
  have el : ((cellsOf sc).map D.int).length = (cellsOf sc).length := List.length_map _
  refine b_stop (s_ret (d_cast (d := .bl ((List.range (cellsOf sc).length).all fun _ => true)) (by simp) (d_b (c_allM (l := List.range (cellsOf sc).length) (t := fun _ => true) rfl) b.all rfl (a1 (d_of_f ?_)))))
  refine f_map (own := [("_law_k", 2)]) (List.range (cellsOf sc).length) (fun i : Nat => D.int i) (fun _ => .bl true) _ rfl sc_law.nd (blkOk_by (by kernel_rfl)) (i_range1 (n := (cellsOf sc).length) rfl b.range (by omega) (d_cast (congrArg (fun n : Nat => D.int n) el) (d_b c_lenL b.len rfl (a1 (dv 1))))) (fun s H B cl fp a ha => g_name (i := 2) sc_law.nd) (fun s' H B cl fp a ha => ?_)
  have hk : a < (cellsOf sc).length := List.mem_range.mp ha
  refine d_run oR rfl hr8 (b_fn oB rfl hr1 (a2 (dv 1) (dv 2)) ⟨cellsOf sc, a, rfl, hk, rfl⟩) ⟨rfl, ⟨?_, ?_⟩, rfl, rfl⟩
  · show (0 : Int) ≤ 0
    decide
  · show (0 : Int) + (400 : Nat) ≤ 1000000000
    decide
end
end Fz
/-! Texts by data: split, join; a chain of comparisons; lists in strict order. -/
namespace Fz
open PySem L2 PyProof PyProof.Rows
open PySem.W (Datum DatumOrd Tup T3 dataLe)
open Enc (enc)
section
variable {X : Cx} {C : Addr} {ρ : List Sl} {o e : Expr} {apos cpos pos : Pos} {a b : Str}
/-- s.split(t) -/
theorem f_split (ho : PE X o (tD X.K C ρ (.str a))) (he : PE X e (tD X.K C ρ (.str b))) (hb : (b.length == 0) = false) (hz : a.length + 2 ≤ sizeLine) (hbase : attributeBase o "split" X.env (eval o X.env) = eval o X.env := by rfl)
    (hfew : ((backTo cpos (starEach [e] X.env)).all (fun x => !x.1) && (backToKw cpos (keywordEach [] X.env)).all (fun x => x.1.isSome)
      && decide (([e] : List Expr).length + ([] : List Keyword).length + (if ([] : List Keyword).isEmpty then 0 else 1) < 30)) = true := by rfl)
    (hline : (apos.endLine == cpos.line) = true := by rfl) (hs : starEach [e] X.env = (false, eval e X.env) :: starEach [] X.env := by rfl) (hplain : (backTo cpos (starEach [] X.env)).any (·.1) = false := by rfl) :
    PE X (.Call (.Attribute o "split" apos) [e] [] cpos) (tF X.K C ρ ((Txt.split a b).map D.str)) :=
  pe_w (pe_bm PySem.F.plainAttrs_str PySem.F.slot_str_split PySem.F.type_str_split mt_split ho (pa_cons he pa_nil hs) hbase hfew hline hs hplain) fun σ H Q ⟨F, P, r, k⟩ => ⟨F, P, r, fun v H2 e2 hv => by
    have hv : v = V.str a := hv
    subst hv
    exact ⟨rfl, F, P, r.same e2, fun w H3 e3 hw => by
      have hw : w = V.str b := hw
      subst hw
      exact ⟨a, b, rfl, rfl, hb, hz, fun p hp => k p _ _ (e2.free (e3.free hp)) ((e2.trans e3).trans (same_upd hp)) upd_same (RpL.ofStrs _)⟩⟩⟩
/-- s.join(t) -/
theorem d_join {ys : List Str} (ho : PE X o (tD X.K C ρ (.str a))) {d : D} (hd : d = .tup (ys.map D.str) ∨ d = .lst (ys.map D.str)) (he : PE X e (tD X.K C ρ d)) (hz : (ys.map (·.length)).sum + ys.length * a.length ≤ 16777216) (hbase : attributeBase o "join" X.env (eval o X.env) = eval o X.env := by rfl)
    (hfew : ((backTo cpos (starEach [e] X.env)).all (fun x => !x.1) && (backToKw cpos (keywordEach [] X.env)).all (fun x => x.1.isSome)
      && decide (([e] : List Expr).length + ([] : List Keyword).length + (if ([] : List Keyword).isEmpty then 0 else 1) < 30)) = true := by rfl)
    (hline : (apos.endLine == cpos.line) = true := by rfl) (hs : starEach [e] X.env = (false, eval e X.env) :: starEach [] X.env := by rfl) (hplain : (backTo cpos (starEach [] X.env)).any (·.1) = false := by rfl) :
    PE X (.Call (.Attribute o "join" apos) [e] [] cpos) (tD X.K C ρ (.str (Txt.join a ys))) :=
  pe_w (pe_bm PySem.F.plainAttrs_str PySem.F.slot_str_join PySem.F.type_str_join mt_join ho (pa_cons he pa_nil hs) hbase hfew hline hs hplain) fun σ H Q ⟨F, P, r, k⟩ => ⟨F, P, r, fun v H2 e2 hv => by
    have hv : v = V.str a := hv
    subst hv
    refine ⟨rfl, F, P, r.same e2, fun w H3 e3 hw => ?_⟩
    rcases hd with rfl | rfl
    · obtain ⟨q, xs, e1, g1, g2⟩ := hw
      have g2 := g2.strs
      subst e1 g2
      exact ⟨a, q, ys, rfl, rfl, .inr (sqT_same mask_le g1), hz, k _ H3 (e2.trans e3) rfl⟩
    · obtain ⟨q, xs, e1, g1, g2⟩ := hw
      have g2 := g2.strs
      subst e1 g2
      exact ⟨a, q, ys, rfl, rfl, .inl (SqL.of (mask_le _ _ g1)), hz, k _ H3 (e2.trans e3) rfl⟩⟩
/-- i <= j <= k -/
theorem t_chain {f g : Expr} {i j k : Int} (h1 : PE X e (tD X.K C ρ (.int i))) (h2 : PE X f (tD X.K C ρ (.int j))) (h3 : PE X g (tD X.K C ρ (.int k))) (hij : i ≤ j) (hm : lastMarks [CmpOp.LtE, .LtE] [f, g] = false := by with_unfolding_all rfl) : PT X (.Compare e [.LtE, .LtE] [f, g] pos) (tT X.K C ρ (decide (j ≤ k))) :=
  pt_w (pt_chain op_le op_le h1 h2 h3 hm) fun σ H Q ⟨F, P, r, q⟩ => ⟨F, P, r, fun v H2 e2 hv => ⟨F, P, r.same e2, fun w H3 e3 hw => ⟨i, j, hv, hw, true, congrArg V.bl (decide_eq_true hij), iteT ⟨F, P, (r.same e2).same e3, fun z H4 e4 hz => ⟨j, k, hw, hz, _, rfl, q H4 ((e2.trans e3).trans e4)⟩⟩⟩⟩⟩
end
/-! ### strict order -/
section
variable {α : Type} [DecidableEq α] [Srt α]
def leD (a b : α) : Bool := dataLe false (Datum.toD (α := α)) a b
/-- strictly ascending -/
def asc : List α → Bool
  | [] => true
  | a :: l => l.all (fun b => leD a b && !leD b a) && asc l
theorem asc_pair : ∀ {l : List α}, asc l = true → l.Pairwise fun a b => leD a b = true ∧ leD b a = false
  | [], _ => .nil
  | a :: l, h => by
    obtain ⟨h1, h2⟩ := Bool.and_eq_true_iff.mp (show (l.all (fun b => leD a b && !leD b a) && asc l) = true from h)
    refine .cons (fun b hb => ?_) (asc_pair h2)
    have q := List.all_eq_true.mp h1 b hb
    rw [Bool.and_eq_true, Bool.not_eq_true'] at q
    exact q
theorem asc_self {l : List α} (h : asc l = true) : srtL l = l := List.mergeSort_of_pairwise ((asc_pair h).imp fun z => z.1)
theorem asc_nd {l : List α} (h : asc l = true) : l.Nodup := (asc_pair h).imp fun {a b} z e => by
  rw [e] at z
  rw [z.1] at z
  exact Bool.noConfusion z.2
theorem asc_uniq : ∀ {l m : List α}, asc l = true → m.Pairwise (fun a b => leD a b = true) → m.Perm l → m = l
  | [], m, _, _, p => List.perm_nil.mp p
  | a :: l, [], _, _, p => absurd p.length_eq (by simp)
  | a :: l, b :: m, h, s, p => by
    have hp := asc_pair h
    obtain ⟨h1, h2⟩ := List.pairwise_cons.mp hp
    obtain ⟨s1, s2⟩ := List.pairwise_cons.mp s
    have e : b = a := by
      rcases List.mem_cons.mp (p.mem_iff.mp List.mem_cons_self) with e | hb
      · exact e
      · rcases List.mem_cons.mp (p.mem_iff.mpr (List.mem_cons_self (a := a) (l := l))) with e | ha
        · exact e.symm
        · have q := s1 a ha
          rw [(h1 b hb).2] at q
          cases q
    subst e
    have ha : asc l = true := (Bool.and_eq_true_iff.mp (show (l.all (fun c => leD b c && !leD c b) && asc l) = true from h)).2
    rw [asc_uniq ha s2 ((List.perm_cons b).mp p)]
theorem srtL_asc (l : List α) : (srtL l).Pairwise fun a b => leD a b = true := srtL_sorted l
/-- the set of what is so is so -/
theorem asc_set {l m : List α} (h : asc l = true) (e : ∀ x, x ∈ m ↔ x ∈ l) : srtL (dd m) = l :=
  asc_uniq h (srtL_asc _) ((srtL_perm _).trans ((List.perm_ext_iff_of_nodup (dd_nodup m) (asc_nd h)).mpr fun x => mem_dd.trans (e x)))
theorem asc_dd {l : List α} (h : asc l = true) : srtL (dd l) = l := asc_set h fun _ => Iff.rfl
theorem asc_perm {l m : List α} (h : asc l = true) (p : m.Perm l) : srtL m = l := asc_uniq h (srtL_asc _) ((srtL_perm _).trans p)
end
end Fz
/-! is_name, is_rising, is_pair, is_pairs, is_rule, is_flood of what is so. -/
namespace Fz
open PySem L2 PyProof PyProof.Rows
open PySem.W (Datum DatumOrd Tup T3 dataLe)
open Enc (enc)
/-- the module's constants -/
structure MgC (mg : Str → Option Value) : Prop where
  letters : ∃ t, mg "LETTERS" = some (.str "abcdefghijklmnopqrstuvwxyz" t)
  longest : ∃ t, mg "LONGEST" = some (.int 8 t)
  blank : ∃ t, mg "BLANK" = some (.str " " t)
  between : ∃ t, mg "BETWEEN" = some (.str "; " t)
  nothing : ∃ t, mg "NOTHING" = some (.str "-" t)
  bridge : ∃ t, mg "BRIDGE" = some (.str "-" t)
  gives : ∃ t, mg "GIVES" = some (.str ">" t)
  colon : ∃ t, mg "COLON" = some (.str ": " t)
  over : ∃ t, mg "OVER" = some (.str " / " t)
  pair : ∃ t, mg "PAIR" = some (.int 2 t)
  three : ∃ t, mg "THREE" = some (.int 3 t)
/-- i in j, for texts -/
def inS (i j : Str) : Bool := !(Builtin.Str.occurrences j i 0 j.length 1).isEmpty
def lettersS : Str := "abcdefghijklmnopqrstuvwxyz"
def goodN (z : Str) : Bool := decide (1 ≤ z.length) && (decide (z.length ≤ 8) && z.cps.toList.all fun c => inS ⟨#[c]⟩ lettersS)
def ltS (i j : Str) : Bool := decide (i.cps.toList < j.cps.toList)
def goodP (p : Pair) : Bool := goodN p.1 && (goodN p.2 && ltS p.1 p.2)
def rise (ps : List Pair) : Bool := (ps.zip (ps.drop 1)).all fun q => DatumOrd.lt q.1 q.2
def goodPs (ps : List Pair) : Bool := ps.all goodP && rise ps
def goodR (r : Rule) : Bool := goodPs r.1.items && (!r.1.items.isEmpty && (goodP r.2 && !memb r.2 r.1.items))
def goodF (f : Flood) : Bool := goodN f.a && (goodPs f.b.items && goodPs f.c.items)
section
variable {X : Cx} {C : Addr} {ρ : List Sl} {e : Expr} {pos p p1 : Pos} {d : D}
theorem o_geInt {i j : Int} : OpR X (compareOp .Gt) (rD X.K C (.int i) (.int j) (.bl (decide (j < i)))) := o_gtI
end
section
variable {w : World} {K : PySem.W.Frag} {mg : Str → Option Value} {base : Heap} {C : Addr}
/-! ### is_name -/
def gNm (ds : List D) (d : D) : Prop := ∃ z : Str, ds = [.str z] ∧ goodN z = true ∧ d = .bl true
def nNm : List Str := ["value", "letter"]
theorem sc_nm : FnScope nNm ["value"] (defScope (top 8)) := ⟨rfl, rfl, rfl, by decide +kernel, rfl, by decide +kernel, by decide +kernel⟩
theorem ok_nm (b : MgB mg) (c : MgC mg) (h : DefAt K mg "is_name" 8) : Ok w K mg base C 1 "is_name" ["value"] gNm := by
  obtain ⟨f, fd, F, m⟩ := h
  refine ⟨f, fd, fn_data F sc_nm (fun ds d ⟨_, e, _⟩ => by rw [e] <;> rfl) (fun cdv A outer s H E hr ds d hg Fr => ?_), m, F.kp, F.bindsN fun _ _ _ _ _ _ us hl => match us, hl with | [_], _ => rfl⟩
  obtain ⟨z, rfl, hz, rfl⟩ := hg
  obtain ⟨h1, h2⟩ := Bool.and_eq_true_iff.mp (show (decide (1 ≤ z.length) && (decide (z.length ≤ 8) && z.cps.toList.all fun c => inS ⟨#[c]⟩ lettersS)) = true from hz)
  obtain ⟨h3, h4⟩ := Bool.and_eq_true_iff.mp h2
  have h1 := of_decide_eq_true h1
  have h3 := of_decide_eq_true h3
  have hs : z.length ≤ sizeLine := Nat.le_trans h3 (by decide)
  refine b_step (s_ifF (pt_eq (y := !true || !decide ((z.length : Int) ≤ 8)) (by rw [decide_eq_true (by omega)]; rfl) (t_w (w_or (t_not (t_val (d_isi1 (d := .str z) (dv 0) kit_ss ne_s b.isinstance b.str))) (fun _ => w_oneO (t_not (t_chain (i := 1) (j := z.length) (k := 8) d_int (d_b (c_lenS hs) b.len rfl (a1 (dv 0))) (d_gint rfl c.longest) (by omega))))))) n_nil) ?_
  refine b_stop (s_ret (d_cast (d := .bl (z.cps.toList.all fun c => inS ⟨#[c]⟩ lettersS)) (by rw [h4]) (d_b (c_allM (l := z.cps.toList) (t := fun c => inS ⟨#[c]⟩ lettersS) rfl) b.all rfl (a1 (d_of_f ?_)))))
  exact f_map (own := [("letter", 1)]) z.cps.toList (fun c => D.str ⟨#[c]⟩) (fun c => .bl (inS ⟨#[c]⟩ lettersS)) _ rfl sc_nm.nd (blkOk_by (by kernel_rfl)) (i_str hs (dv 0)) (fun s H B cl fp a ha => g_name (i := 1) sc_nm.nd) (fun s' H B cl fp a ha => d_cmp o_inS (dv 1) (d_gstr rfl c.letters))
/-! ### is_rising -/
def gRis (ds : List D) (d : D) : Prop := ∃ ps : List Pair, ds = [.tup (ps.map enc)] ∧ rise ps = true ∧ d = .bl true
def nRis : List Str := ["row", "one", "other"]
theorem sc_ris : FnScope nRis ["row"] (defScope (top 9)) := ⟨rfl, rfl, rfl, by decide +kernel, rfl, by decide +kernel, by decide +kernel⟩
theorem zip_enc {α : Type} [DecidableEq α] [Enc α] (l m : List α) : zipD (l.map enc) (m.map enc) = (l.zip m).map fun q => D.tup [enc q.1, enc q.2] := by
  unfold zipD
  rw [List.zip_map, List.map_map]
  rfl
theorem ok_ris (b : MgB mg) (h : DefAt K mg "is_rising" 9) : Ok w K mg base C 1 "is_rising" ["row"] gRis := by
  obtain ⟨f, fd, F, m⟩ := h
  refine ⟨f, fd, fn_data F sc_ris (fun ds d ⟨_, e, _⟩ => by rw [e] <;> rfl) (fun cdv A outer s H E hr ds d hg Fr => ?_), m, F.kp, F.bindsN fun _ _ _ _ _ _ us hl => match us, hl with | [_], _ => rfl⟩
  obtain ⟨ps, rfl, hp, rfl⟩ := hg
  have ec : cutD (ps.map (enc (α := Pair))) (some (1 : Int)) none = (ps.drop 1).map enc := (cutD_from _ 1).trans List.map_drop.symm
  refine b_stop (s_ret (d_cast (d := .bl ((ps.zip (ps.drop 1)).all fun q => DatumOrd.lt q.1 q.2)) (by show D.bl (rise ps) = _; rw [hp]) (d_b (c_allM (l := ps.zip (ps.drop 1)) (t := fun q => DatumOrd.lt q.1 q.2) rfl) b.all rfl (a1 (d_of_f ?_)))))
  refine f_map (own := [("one", 1), ("other", 2)]) (ps.zip (ps.drop 1)) (fun q => D.tup [enc q.1, enc q.2]) (fun q => .bl (DatumOrd.lt q.1 q.2)) _ rfl sc_ris.nd (blkOk_by (by kernel_rfl)) ?_ (fun s H B cl fp a ha => g_tup rfl (gs_cons (g_name (i := 1) sc_ris.nd) (gs_cons (g_name (i := 2) sc_ris.nd) gs_nil)))
    (fun s' H B cl fp a ha => d_cmp (o_lt (a := a.1) (b := a.2) (Enc.py_enc a.1) (Enc.py_enc a.2) (Enc.flat_enc a.1) (Enc.flat_enc a.2) (u_eq hr)) (dv 1) (dv 2))
  rw [← zip_enc, ← ec]
  exact i_zipT (by rfl) b.zip (dv 0) (d_slT (dv 0) (op_some d_int) op_none)
/-! ### is_pair -/
def gPr (ds : List D) (d : D) : Prop := ∃ q : Pair, ds = [enc q] ∧ goodP q = true ∧ d = .bl true
theorem sc_pr : FnScope ["thing"] ["thing"] (defScope (top 35)) := ⟨rfl, rfl, rfl, by decide +kernel, rfl, by decide +kernel, by decide +kernel⟩
theorem ok_pr (b : MgB mg) (c : MgC mg) (h : DefAt K mg "is_pair" 35) (oN : Ok w K mg base C 1 "is_name" ["value"] gNm) : Ok w K mg base C 2 "is_pair" ["thing"] gPr := by
  obtain ⟨f, fd, F, m⟩ := h
  refine ⟨f, fd, fn_data F sc_pr (fun ds d ⟨_, e, _⟩ => by rw [e] <;> rfl) (fun cdv A outer s H E hr ds d hg Fr => ?_), m, F.kp, F.bindsN fun _ _ _ _ _ _ us hl => match us, hl with | [_], _ => rfl⟩
  obtain ⟨q, rfl, hq, rfl⟩ := hg
  obtain ⟨h1, h2⟩ := Bool.and_eq_true_iff.mp (show (goodN q.1 && (goodN q.2 && ltS q.1 q.2)) = true from hq)
  obtain ⟨h3, h4⟩ := Bool.and_eq_true_iff.mp h2
  refine b_step (s_ifF (pt_eq (y := !true || !decide ((2 : Int) = 2)) rfl (t_w (w_or (t_not (t_val (d_isi1 (d := enc q) (dv 0) kit_tt ne_t b.isinstance b.tuple))) (fun _ => w_oneO (t_cmp (o_neI (x := 2) (y := 2)) (d_b (c_lenT (l := [.str q.1, .str q.2])) b.len rfl (a1 (dv 0))) (d_gint rfl c.pair)))))) n_nil) ?_
  refine b_stop (s_ret (d_cast (d := .bl (true && (true && ltS q.1 q.2))) (by rw [h4]; rfl) (v_and (d_fn oN rfl hr (a1 (d_ixT (l := [.str q.1, .str q.2]) (dv 0) d_int rfl)) ⟨q.1, rfl, h1, rfl⟩) (fun _ => v_and (d_fn oN rfl hr (a1 (d_ixT (l := [.str q.1, .str q.2]) (dv 0) d_int rfl)) ⟨q.2, rfl, h3, rfl⟩) (fun _ => v_one (d_cmp o_ltS (d_ixT (l := [.str q.1, .str q.2]) (dv 0) d_int rfl) (d_ixT (l := [.str q.1, .str q.2]) (dv 0) d_int rfl)))))))
/-! ### is_pairs -/
def gPrs (ds : List D) (d : D) : Prop := ∃ ps : List Pair, ds = [.tup (ps.map enc)] ∧ goodPs ps = true ∧ d = .bl true
theorem sc_prs : FnScope ["thing", "pair"] ["thing"] (defScope (top 36)) := ⟨rfl, rfl, rfl, by decide +kernel, rfl, by decide +kernel, by decide +kernel⟩
theorem ok_prs (b : MgB mg) (h : DefAt K mg "is_pairs" 36) (oP : Ok w K mg base C 2 "is_pair" ["thing"] gPr) (oR : Ok w K mg base C 1 "is_rising" ["row"] gRis) : Ok w K mg base C 3 "is_pairs" ["thing"] gPrs := by
  obtain ⟨f, fd, F, m⟩ := h
  refine ⟨f, fd, fn_data F sc_prs (fun ds d ⟨_, e, _⟩ => by rw [e] <;> rfl) (fun cdv A outer s H E hr ds d hg Fr => ?_), m, F.kp, F.bindsN fun _ _ _ _ _ _ us hl => match us, hl with | [_], _ => rfl⟩
  obtain ⟨ps, rfl, hq, rfl⟩ := hg
  obtain ⟨h1, h2⟩ := Bool.and_eq_true_iff.mp (show (ps.all goodP && rise ps) = true from hq)
  refine b_stop (s_ret (d_cast (d := .bl (true && ((ps.all fun _ => true) && true))) (by simp) (v_and (d_isi1 (d := .tup (ps.map enc)) (dv 0) kit_tt ne_t b.isinstance b.tuple) (fun _ => v_and (d_b (c_allM (l := ps) (t := fun _ => true) rfl) b.all rfl (a1 (d_of_f ?_))) (fun _ => v_one (d_fn oR rfl (hr.mono (by decide)) (a1 (dv 0)) ⟨ps, rfl, h2, rfl⟩))))))
  exact f_map (own := [("pair", 1)]) ps enc (fun _ => .bl true) _ rfl sc_prs.nd (blkOk_by (by kernel_rfl)) (i_tup (dv 0)) (fun s H B cl fp a ha => g_name (i := 1) sc_prs.nd) (fun s' H B cl fp a ha => d_fn oP rfl hr (a1 (dv 1)) ⟨a, rfl, List.all_eq_true.mp h1 a ha, rfl⟩)
/-! ### is_rule -/
def gRl (ds : List D) (d : D) : Prop := ∃ r : Rule, ds = [enc r] ∧ goodR r = true ∧ d = .bl true
theorem sc_rl : FnScope ["thing"] ["thing"] (defScope (top 37)) := ⟨rfl, rfl, rfl, by decide +kernel, rfl, by decide +kernel, by decide +kernel⟩
theorem ok_rl (b : MgB mg) (c : MgC mg) (h : DefAt K mg "is_rule" 37) (oP : Ok w K mg base C 2 "is_pair" ["thing"] gPr) (oR : Ok w K mg base C 3 "is_pairs" ["thing"] gPrs) : Ok w K mg base C 4 "is_rule" ["thing"] gRl := by
  obtain ⟨f, fd, F, m⟩ := h
  refine ⟨f, fd, fn_data F sc_rl (fun ds d ⟨_, e, _⟩ => by rw [e] <;> rfl) (fun cdv A outer s H E hr ds d hg Fr => ?_), m, F.kp, F.bindsN fun _ _ _ _ _ _ us hl => match us, hl with | [_], _ => rfl⟩
  obtain ⟨r, rfl, hq, rfl⟩ := hg
  obtain ⟨h1, h2⟩ := Bool.and_eq_true_iff.mp (show (goodPs r.1.items && (!r.1.items.isEmpty && (goodP r.2 && !memb r.2 r.1.items))) = true from hq)
  obtain ⟨h3, h4⟩ := Bool.and_eq_true_iff.mp h2
  obtain ⟨h5, h6⟩ := Bool.and_eq_true_iff.mp h4
  have hne : decide (((r.1.items.length : Nat) : Int) = 0) = false := by
    cases q : r.1.items with
    | nil => rw [q] at h3; cases h3
    | cons a l => exact decide_eq_false (by rw [List.length_cons]; omega)
  refine b_step (s_ifF (pt_eq (y := !true || (!decide ((2 : Int) = 2) || (!true || decide (((r.1.items.length : Nat) : Int) = 0)))) (by rw [hne]; rfl) (t_w (w_or (t_not (t_val (d_isi1 (d := enc r) (dv 0) kit_tt ne_t b.isinstance b.tuple))) (fun _ => w_or (t_cmp (o_neI (x := 2) (y := 2)) (d_b (c_lenT (l := [.tup (r.1.items.map enc), enc r.2])) b.len rfl (a1 (dv 0))) (d_gint rfl c.pair))
    (fun _ => w_or (t_not (t_val (d_fn oR rfl hr (a1 (d_ixT (l := [.tup (r.1.items.map enc), enc r.2]) (dv 0) d_int rfl)) ⟨r.1.items, rfl, h1, rfl⟩))) (fun _ => w_oneO (t_cmp (o_eqI (y := 0)) (d_b c_lenTm b.len rfl (a1 (d_ixT (l := [.tup (r.1.items.map enc), enc r.2]) (dv 0) d_int rfl))) d_int))))))) n_nil) ?_
  exact b_stop (s_ret (d_cast (d := .bl (true && !memb r.2 r.1.items)) (by rw [h6]; rfl) (v_and (d_fn oP rfl (hr.mono (by decide)) (a1 (d_ixT (l := [.tup (r.1.items.map enc), enc r.2]) (dv 0) d_int rfl)) ⟨r.2, rfl, h5, rfl⟩) (fun _ => v_one (d_cast (congrArg D.bl (ninb _)) (d_cmp (o_ninT (a := r.2) (l := r.1.items) (u_in hr)) (d_ixT (l := [.tup (r.1.items.map enc), enc r.2]) (dv 0) d_int rfl) (d_ixT (l := [.tup (r.1.items.map enc), enc r.2]) (dv 0) d_int rfl)))))))
/-! ### is_flood -/
def gFl (ds : List D) (d : D) : Prop := ∃ r : Flood, ds = [enc r] ∧ goodF r = true ∧ d = .bl true
theorem sc_fl : FnScope ["thing"] ["thing"] (defScope (top 38)) := ⟨rfl, rfl, rfl, by decide +kernel, rfl, by decide +kernel, by decide +kernel⟩
theorem ok_fl (b : MgB mg) (c : MgC mg) (h : DefAt K mg "is_flood" 38) (oN : Ok w K mg base C 1 "is_name" ["value"] gNm) (oR : Ok w K mg base C 3 "is_pairs" ["thing"] gPrs) : Ok w K mg base C 4 "is_flood" ["thing"] gFl := by
  obtain ⟨f, fd, F, m⟩ := h
  refine ⟨f, fd, fn_data F sc_fl (fun ds d ⟨_, e, _⟩ => by rw [e] <;> rfl) (fun cdv A outer s H E hr ds d hg Fr => ?_), m, F.kp, F.bindsN fun _ _ _ _ _ _ us hl => match us, hl with | [_], _ => rfl⟩
  obtain ⟨r, rfl, hq, rfl⟩ := hg
  obtain ⟨h1, h2⟩ := Bool.and_eq_true_iff.mp (show (goodN r.a && (goodPs r.b.items && goodPs r.c.items)) = true from hq)
  obtain ⟨h3, h4⟩ := Bool.and_eq_true_iff.mp h2
  refine b_step (s_ifF (pt_eq (y := !true || (!decide ((3 : Int) = 3) || !true)) rfl (t_w (w_or (t_not (t_val (d_isi1 (d := enc r) (dv 0) kit_tt ne_t b.isinstance b.tuple))) (fun _ => w_or (t_cmp (o_neI (x := 3) (y := 3)) (d_b (c_lenT (l := [.str r.a, .tup (r.b.items.map enc), .tup (r.c.items.map enc)])) b.len rfl (a1 (dv 0))) (d_gint rfl c.three))
    (fun _ => w_oneO (t_not (t_val (d_fn oN rfl (hr.mono (by decide)) (a1 (d_ixT (l := [.str r.a, .tup (r.b.items.map enc), .tup (r.c.items.map enc)]) (dv 0) d_int rfl)) ⟨r.a, rfl, h1, rfl⟩)))))))) n_nil) ?_
  exact b_stop (s_ret (d_cast (d := .bl (true && true)) rfl (v_and (d_fn oR rfl hr (a1 (d_ixT (l := [.str r.a, .tup (r.b.items.map enc), .tup (r.c.items.map enc)]) (dv 0) d_int rfl)) ⟨r.b.items, rfl, h3, rfl⟩) (fun _ => v_one (d_fn oR rfl hr (a1 (d_ixT (l := [.str r.a, .tup (r.b.items.map enc), .tup (r.c.items.map enc)]) (dv 0) d_int rfl)) ⟨r.c.items, rfl, h4, rfl⟩)))))
end
end Fz
/-! pair_text, pairs_text, rule_text, flood_text, Talk.text. -/
namespace Fz
open PySem L2 PyProof PyProof.Rows
open PySem.W (Datum DatumOrd Tup T3 dataLe)
open Enc (enc)
def fitJ (a : Str) (ys : List Str) : Bool := decide ((ys.map (·.length)).sum + ys.length * a.length ≤ 16777216)
def fitA (x y : Str) : Bool := decide (x.length + y.length ≤ 1000000)
def fitL (n : Nat) : Bool := decide (n ≤ 1000)
def txP (p : Pair) : Str := Txt.join "-" [p.1, p.2]
def okTxP (p : Pair) : Bool := fitJ "-" [p.1, p.2]
def txPs (ps : List Pair) : Str := if 0 < ps.length then Txt.join " " (ps.map txP) else "-"
def okTxPs (ps : List Pair) : Bool := ps.all okTxP && fitJ " " (ps.map txP)
def txR (r : Rule) : Str := (txPs r.1.items ++ ">") ++ txP r.2
def okTxR (r : Rule) : Bool := okTxPs r.1.items && (okTxP r.2 && (fitA (txPs r.1.items) ">" && fitA (txPs r.1.items ++ ">") (txP r.2)))
def txF (f : Flood) : Str := (((f.a ++ ": ") ++ txPs f.b.items) ++ " / ") ++ txPs f.c.items
def okTxF (f : Flood) : Bool := okTxPs f.b.items && (okTxPs f.c.items && (fitA f.a ": " && (fitA (f.a ++ ": ") (txPs f.b.items) && (fitA ((f.a ++ ": ") ++ txPs f.b.items) " / " && fitA (((f.a ++ ": ") ++ txPs f.b.items) ++ " / ") (txPs f.c.items)))))
def txI (I : List Str) : Str := if 0 < I.length then Txt.join " " I else "-"
def partsT (t : Tk) : List Str := txI t.isl :: (t.rul.map txR ++ t.flo.map txF)
def txT (t : Tk) : Str := Txt.join "; " (partsT t)
def okTxT (t : Tk) : Bool := fitJ " " t.isl && (t.rul.all okTxR && (t.flo.all okTxF && (fitL (partsT t).length && fitJ "; " (partsT t))))
theorem and4 {a b : Bool} (h : (a && b) = true) : a = true ∧ b = true := Bool.and_eq_true_iff.mp h
theorem fitA_le {x y : Str} (h : fitA x y = true) : x.length + y.length ≤ sizeLine := Nat.le_trans (of_decide_eq_true h) (by rw [sizeLine_eq]; omega)
theorem fitL_le {n : Nat} (h : fitL n = true) : n ≤ sizeLine := Nat.le_trans (of_decide_eq_true h) (by rw [sizeLine_eq]; omega)
section
variable {w : World} {K : PySem.W.Frag} {mg : Str → Option Value} {base : Heap} {C : Addr}
def gTxP (ds : List D) (d : D) : Prop := ∃ p : Pair, ds = [enc p] ∧ okTxP p = true ∧ d = .str (txP p)
theorem sc_txP : FnScope ["pair"] ["pair"] (defScope (top 44)) := ⟨rfl, rfl, rfl, by decide +kernel, rfl, by decide +kernel, by decide +kernel⟩
theorem ok_txP (c : MgC mg) (h : DefAt K mg "pair_text" 44) : Ok w K mg base C 1 "pair_text" ["pair"] gTxP := by
  obtain ⟨f, fd, F, m⟩ := h
  refine ⟨f, fd, fn_data F sc_txP (fun ds d ⟨_, e, _⟩ => by rw [e] <;> rfl) (fun cdv A outer s H E hr ds d hg Fr => ?_), m, F.kp, F.bindsN fun _ _ _ _ _ _ us hl => match us, hl with | [_], _ => rfl⟩
  obtain ⟨p, rfl, hp, rfl⟩ := hg
  exact b_stop (s_ret (d_join (ys := [p.1, p.2]) (d_gstr rfl c.bridge) (.inl rfl) (dv 0) (of_decide_eq_true hp)))
def gTxPs (ds : List D) (d : D) : Prop := ∃ ps : List Pair, ds = [.tup (ps.map enc)] ∧ okTxPs ps = true ∧ d = .str (txPs ps)
theorem sc_txPs : FnScope ["pairs", "pair"] ["pairs"] (defScope (top 45)) := ⟨rfl, rfl, rfl, by decide +kernel, rfl, by decide +kernel, by decide +kernel⟩
theorem ok_txPs (b : MgB mg) (c : MgC mg) (h : DefAt K mg "pairs_text" 45) (oP : Ok w K mg base C 1 "pair_text" ["pair"] gTxP) : Ok w K mg base C 2 "pairs_text" ["pairs"] gTxPs := by
  obtain ⟨f, fd, F, m⟩ := h
  refine ⟨f, fd, fn_data F sc_txPs (fun ds d ⟨_, e, _⟩ => by rw [e] <;> rfl) (fun cdv A outer s H E hr ds d hg Fr => ?_), m, F.kp, F.bindsN fun _ _ _ _ _ _ us hl => match us, hl with | [_], _ => rfl⟩
  obtain ⟨ps, rfl, hp, rfl⟩ := hg
  obtain ⟨h1, h2⟩ := and4 (show (ps.all okTxP && fitJ " " (ps.map txP)) = true from hp)
  refine b_stop (s_ret (t_if (z := decide ((0 : Int) < ((ps.length : Nat) : Int))) (t_cmp o_gtI (d_b c_lenTm b.len rfl (a1 (dv 0))) d_int) (fun z => ?_) (fun z => ?_)))
  · have z := of_decide_eq_true z
    have e : txPs ps = Txt.join " " (ps.map txP) := if_pos (by omega)
    rw [e]
    refine d_join (ys := ps.map txP) (d_gstr rfl c.blank) (.inr rfl) ?_ (of_decide_eq_true h2)
    rw [List.map_map]
    exact d_of_f (f_map (own := [("pair", 1)]) ps enc (fun p => .str (txP p)) _ rfl sc_txPs.nd (blkOk_by (by kernel_rfl)) (i_tup (dv 0)) (fun s H B cl fp a ha => g_name (i := 1) sc_txPs.nd) (fun s' H B cl fp a ha => d_fn oP rfl hr (a1 (dv 1)) ⟨a, rfl, List.all_eq_true.mp h1 a ha, rfl⟩))
  · have z := of_decide_eq_false z
    have e : txPs ps = "-" := if_neg (by omega)
    rw [e]
    exact d_gstr rfl c.nothing
def gTxR (ds : List D) (d : D) : Prop := ∃ r : Rule, ds = [enc r] ∧ okTxR r = true ∧ d = .str (txR r)
theorem sc_txR : FnScope ["rule"] ["rule"] (defScope (top 46)) := ⟨rfl, rfl, rfl, by decide +kernel, rfl, by decide +kernel, by decide +kernel⟩
theorem ok_txR (c : MgC mg) (h : DefAt K mg "rule_text" 46) (oP : Ok w K mg base C 1 "pair_text" ["pair"] gTxP) (oS : Ok w K mg base C 2 "pairs_text" ["pairs"] gTxPs) : Ok w K mg base C 3 "rule_text" ["rule"] gTxR := by
  obtain ⟨f, fd, F, m⟩ := h
  refine ⟨f, fd, fn_data F sc_txR (fun ds d ⟨_, e, _⟩ => by rw [e] <;> rfl) (fun cdv A outer s H E hr ds d hg Fr => ?_), m, F.kp, F.bindsN fun _ _ _ _ _ _ us hl => match us, hl with | [_], _ => rfl⟩
  obtain ⟨r, rfl, hp, rfl⟩ := hg
  obtain ⟨h1, h2⟩ := and4 (show (okTxPs r.1.items && (okTxP r.2 && (fitA (txPs r.1.items) ">" && fitA (txPs r.1.items ++ ">") (txP r.2)))) = true from hp)
  obtain ⟨h3, h4⟩ := and4 h2
  obtain ⟨h5, h6⟩ := and4 h4
  exact b_stop (s_ret (d_bin (o_addS (fitA_le h6)) (d_bin (o_addS (fitA_le h5)) (d_fn oS rfl hr (a1 (d_ixT (l := [.tup (r.1.items.map enc), enc r.2]) (dv 0) d_int rfl)) ⟨r.1.items, rfl, h1, rfl⟩) (d_gstr rfl c.gives)) (d_fn oP rfl (hr.mono (by decide)) (a1 (d_ixT (l := [.tup (r.1.items.map enc), enc r.2]) (dv 0) d_int rfl)) ⟨r.2, rfl, h3, rfl⟩)))
def gTxF (ds : List D) (d : D) : Prop := ∃ r : Flood, ds = [enc r] ∧ okTxF r = true ∧ d = .str (txF r)
theorem sc_txF : FnScope ["flood"] ["flood"] (defScope (top 47)) := ⟨rfl, rfl, rfl, by decide +kernel, rfl, by decide +kernel, by decide +kernel⟩
theorem ok_txF (c : MgC mg) (h : DefAt K mg "flood_text" 47) (oS : Ok w K mg base C 2 "pairs_text" ["pairs"] gTxPs) : Ok w K mg base C 3 "flood_text" ["flood"] gTxF := by
  obtain ⟨f, fd, F, m⟩ := h
  refine ⟨f, fd, fn_data F sc_txF (fun ds d ⟨_, e, _⟩ => by rw [e] <;> rfl) (fun cdv A outer s H E hr ds d hg Fr => ?_), m, F.kp, F.bindsN fun _ _ _ _ _ _ us hl => match us, hl with | [_], _ => rfl⟩
  obtain ⟨r, rfl, hp, rfl⟩ := hg
  obtain ⟨h1, h2⟩ := and4 (show (okTxPs r.b.items && (okTxPs r.c.items && (fitA r.a ": " && (fitA (r.a ++ ": ") (txPs r.b.items) && (fitA ((r.a ++ ": ") ++ txPs r.b.items) " / " && fitA (((r.a ++ ": ") ++ txPs r.b.items) ++ " / ") (txPs r.c.items)))))) = true from hp)
  obtain ⟨h3, h4⟩ := and4 h2
  obtain ⟨h5, h6⟩ := and4 h4
  obtain ⟨h7, h8⟩ := and4 h6
  obtain ⟨h9, h10⟩ := and4 h8
  have at0 : ∀ {Y : Cx} {ρ : List Sl} {x : Expr}, PE Y x (tD Y.K C ρ (enc r)) → PE Y x (tD Y.K C ρ (.tup [.str r.a, .tup (r.b.items.map enc), .tup (r.c.items.map enc)])) := fun h => h
  exact b_stop (s_ret (d_bin (o_addS (fitA_le h10)) (d_bin (o_addS (fitA_le h9)) (d_bin (o_addS (fitA_le h7)) (d_bin (o_addS (fitA_le h5)) (d_ixT (at0 (dv 0)) d_int rfl) (d_gstr rfl c.colon)) (d_fn oS rfl hr (a1 (d_ixT (at0 (dv 0)) d_int rfl)) ⟨r.b.items, rfl, h1, rfl⟩)) (d_gstr rfl c.over)) (d_fn oS rfl hr (a1 (d_ixT (at0 (dv 0)) d_int rfl)) ⟨r.c.items, rfl, h3, rfl⟩)))
/-! ### Talk.text -/
def gTxT (ds : List D) (d : D) : Prop := ∃ t : Tk, ds = [t.d] ∧ okTxT t = true ∧ d = .str (txT t)
def nTxT : List Str := ["self", "islands", "rules", "rule", "flood"]
theorem sc_txT : FnScope nTxT ["self"] (defScope (inClass (top 43) 8)) := ⟨rfl, rfl, rfl, by decide +kernel, rfl, by decide +kernel, by decide +kernel⟩
theorem ok_text (b : MgB mg) (cc : MgC mg) (c : TalkK K C) (h : PrpAt K C "text" "Talk.text" 8) (oR : Ok w K mg base C 3 "rule_text" ["rule"] gTxR) (oF : Ok w K mg base C 3 "flood_text" ["flood"] gTxF) : OkP w K mg base C 4 "text" gTxT :=
  ok_prp (N := nTxT) h sc_txT (fun ds d ⟨t, e, _⟩ => by rw [e]; rfl) (fun p gA cdv A outer s H E hr ds d ⟨t, e, hp, ed⟩ Fr => by
    subst e ed
    obtain ⟨h1, h2⟩ := and4 (show (fitJ " " t.isl && (t.rul.all okTxR && (t.flo.all okTxF && (fitL (partsT t).length && fitJ "; " (partsT t))))) = true from hp)
    obtain ⟨h3, h4⟩ := and4 h2
    obtain ⟨h5, h6⟩ := and4 h4
    obtain ⟨h7, h8⟩ := and4 h6
    refine b_step (s_set (i := 1) (k := .dat (.str (txI t.isl))) sc_txT.nd (k_d (t_if (z := decide ((0 : Int) < ((t.isl.length : Nat) : Int))) (t_cmp o_gtI (d_b c_lenTm b.len rfl (a1 (d_slI c (dv 0)))) d_int) (fun z => ?_) (fun z => ?_)))) ?_
    · have z := of_decide_eq_true z
      have e : txI t.isl = Txt.join " " t.isl := if_pos (by omega)
      rw [e]
      exact d_join (ys := t.isl) (d_gstr rfl cc.blank) (.inl rfl) (d_slI c (dv 0)) (of_decide_eq_true h1)
    · have z := of_decide_eq_false z
      have e : txI t.isl = "-" := if_neg (by omega)
      rw [e]
      exact d_gstr rfl cc.nothing
    refine b_step (s_lc (i := 2) (own := [("rule", 3)]) t.rul enc (fun r => .str (txR r)) (fun _ => true) _ rfl sc_txT.nd (blkOk_by (by kernel_rfl)) (i_tup (d_slR c (dv 0))) (fun s H B cl fp a ha => g_name (i := 3) sc_txT.nd) (fun s' H B cl fp a ha => ts_nil) (fun s H B cl fp a ha => d_fn oR rfl hr (a1 (dv 3)) ⟨a, rfl, List.all_eq_true.mp h3 a ha.1, rfl⟩)) ?_
    refine b_fz (l := (t.rul.map txR).map D.str) 2 (by rw [List.filter_eq_self.mpr fun _ _ => rfl, List.map_map]; rfl) ?_
    have em : (t.flo.map txF).map D.str = t.flo.map fun r => D.str (txF r) := List.map_map
    have ep : [D.str (txI t.isl)] ++ ((t.rul.map txR).map D.str ++ ((t.flo.map fun r => D.str (txF r)) ++ [])) = (partsT t).map D.str := by
      unfold partsT
      rw [List.append_nil, List.map_cons, List.map_append, em]
      rfl
    refine b_stop (s_ret (d_join (ys := partsT t) (d_gstr rfl cc.between) (.inr rfl) (d_lst ?_ (by rw [List.length_map]; exact fitL_le h7)) (of_decide_eq_true h8)))
    rw [← ep]
    refine a_cons (dv 1) (a_star (l := (t.rul.map txR).map D.str) (.inr rfl) (dv 2) (a_star (l := t.flo.map fun r => D.str (txF r)) (.inr rfl) (d_of_f ?_) a_nil))
    exact f_map (own := [("flood", 4)]) t.flo enc (fun r => .str (txF r)) _ rfl sc_txT.nd (blkOk_by (by kernel_rfl)) (i_tup (d_slF c (dv 0))) (fun s H B cl fp a ha => g_name (i := 4) sc_txT.nd) (fun s' H B cl fp a ha => d_fn oF rfl hr (a1 (dv 4)) ⟨a, rfl, List.all_eq_true.mp h5 a ha, rfl⟩))
    fun _ _ _ _ _ _ us hl => match us, hl with | [_], _ => rfl
end
end Fz
/-! pairs_in, rule_in, flood_in, fits_islands. -/
namespace Fz
open PySem L2 PyProof PyProof.Rows
open PySem.W (Datum DatumOrd Tup T3 dataLe)
open Enc (enc)
theorem fit2_le {n : Nat} (h : fitL n = true) : n + 2 ≤ sizeLine := by
  have := of_decide_eq_true h
  rw [sizeLine_eq]
  omega
theorem sgn1 (z : Str) (h : z.length = 1) : (z.length == 0) = false := by rw [h]; rfl
def words (z : Str) : List Str := Txt.split z " "
def pairsIn (z : Str) : List (List Str) := if z = "-" then [] else (words z).map fun w => Txt.split w "-"
def chkPs (z : Str) (ps : List Pair) : Bool := decide (pairsIn z = ps.map fun p => [p.1, p.2]) && (fitL z.length && (words z).all fun w => fitL w.length)
def chkR (z : Str) (r : Rule) : Bool := match Txt.split z ">" with
  | [a, b] => chkPs a r.1.items && (decide (Txt.split b "-" = [r.2.1, r.2.2]) && (fitL b.length && (fitL z.length && goodR r)))
  | _ => false
def chkF (z : Str) (f : Flood) : Bool := match Txt.split z ": " with
  | [n, s] => (match Txt.split s " / " with
    | [x, y] => decide (n = f.a) && (chkPs x f.b.items && (chkPs y f.c.items && (fitL s.length && (fitL z.length && goodF f))))
    | _ => false)
  | _ => false
theorem chkR_ok {z : Str} {r : Rule} (h : chkR z r = true) : ∃ a b, Txt.split z ">" = [a, b] ∧ chkPs a r.1.items = true ∧ Txt.split b "-" = [r.2.1, r.2.2] ∧ fitL b.length = true ∧ fitL z.length = true ∧ goodR r = true := by
  unfold chkR at h
  split at h
  · rename_i a b e
    obtain ⟨h1, h2⟩ := and4 h
    obtain ⟨h3, h4⟩ := and4 h2
    obtain ⟨h5, h6⟩ := and4 h4
    obtain ⟨h7, h8⟩ := and4 h6
    exact ⟨a, b, e, h1, of_decide_eq_true h3, h5, h7, h8⟩
  · cases h
theorem chkF_ok {z : Str} {f : Flood} (h : chkF z f = true) : ∃ s x y, Txt.split z ": " = [f.a, s] ∧ Txt.split s " / " = [x, y] ∧ chkPs x f.b.items = true ∧ chkPs y f.c.items = true ∧ fitL s.length = true ∧ fitL z.length = true ∧ goodF f = true := by
  unfold chkF at h
  split at h
  · rename_i n s e
    split at h
    · rename_i x y e2
      obtain ⟨h1, h2⟩ := and4 h
      obtain ⟨h3, h4⟩ := and4 h2
      obtain ⟨h5, h6⟩ := and4 h4
      obtain ⟨h7, h8⟩ := and4 h6
      obtain ⟨h9, h10⟩ := and4 h8
      have h1 := of_decide_eq_true h1
      exact ⟨s, x, y, by rw [e, h1], e2, h3, h5, h7, h9, h10⟩
    · cases h
  · cases h
section
variable {w : World} {K : PySem.W.Frag} {mg : Str → Option Value} {base : Heap} {C : Addr}
/-! ### pairs_in -/
def gPin (ds : List D) (d : D) : Prop := ∃ (z : Str) (ps : List Pair), ds = [.str z] ∧ chkPs z ps = true ∧ d = .tup (ps.map enc)
def nPin : List Str := ["text", "word"]
theorem sc_pin : FnScope nPin ["text"] (defScope (top 48)) := ⟨rfl, rfl, rfl, by decide +kernel, rfl, by decide +kernel, by decide +kernel⟩
theorem ok_pin (b : MgB mg) (c : MgC mg) (h : DefAt K mg "pairs_in" 48) : Ok w K mg base C 1 "pairs_in" ["text"] gPin := by
  obtain ⟨f, fd, F, m⟩ := h
  refine ⟨f, fd, fn_data F sc_pin (fun ds d ⟨_, _, e, _⟩ => by rw [e] <;> rfl) (fun cdv A outer s H E hr ds d hg Fr => ?_), m, F.kp, F.bindsN fun _ _ _ _ _ _ us hl => match us, hl with | [_], _ => rfl⟩
  obtain ⟨z, ps, rfl, hp, rfl⟩ := hg
  obtain ⟨h1, h2⟩ := and4 (show (decide (pairsIn z = ps.map fun p => [p.1, p.2]) && (fitL z.length && (words z).all fun w => fitL w.length)) = true from hp)
  obtain ⟨h3, h4⟩ := and4 h2
  have h1 := of_decide_eq_true h1
  refine b_stop (s_ret (t_if (z := !decide (z = "-")) (t_cmp o_neS (dv 0) (d_gstr rfl c.nothing)) (fun q => ?_) (fun q => ?_)))
  · have q : ¬ z = "-" := by simpa using q
    have e : (words z).map (fun w => D.tup ((Txt.split w "-").map D.str)) = ps.map enc := by
      have e1 : pairsIn z = (words z).map fun w => Txt.split w "-" := if_neg q
      have e2 := congrArg (List.map fun ws : List Str => D.tup (ws.map D.str)) (e1.symm.trans h1)
      rw [List.map_map, List.map_map] at e2
      exact e2
    rw [← e]
    exact d_t c_tupL b.tuple rfl (a1 (d_of_f (f_map (own := [("word", 1)]) (words z) D.str (fun w => D.tup ((Txt.split w "-").map D.str)) _ rfl sc_pin.nd (blkOk_by (by kernel_rfl)) (i_list (d_of_f (f_split (dv 0) (d_gstr rfl c.blank) (sgn1 _ rfl) (fit2_le h3)))) (fun s H B cl fp a ha => g_name (i := 1) sc_pin.nd)
      (fun s' H B cl fp a ha => d_t c_tupL b.tuple rfl (a1 (d_of_f (f_split (dv 1) (d_gstr rfl c.bridge) (sgn1 _ rfl) (fit2_le (List.all_eq_true.mp h4 a ha)))))))))
  · have q : z = "-" := by simpa using q
    have e1 : pairsIn z = [] := if_pos q
    have e2 : ps = [] := by
      rw [e1] at h1
      exact List.map_eq_nil_iff.mp h1.symm
    subst e2
    exact d_tup a_nil
/-! ### rule_in -/
def gRin (ds : List D) (d : D) : Prop := ∃ (z : Str) (r : Rule), ds = [.str z] ∧ chkR z r = true ∧ d = enc r
def nRin : List Str := ["text", "parts", "found"]
theorem sc_rin : FnScope nRin ["text"] (defScope (top 49)) := ⟨rfl, rfl, rfl, by decide +kernel, rfl, by decide +kernel, by decide +kernel⟩
theorem ok_rin (b : MgB mg) (c : MgC mg) (h : DefAt K mg "rule_in" 49) (oP : Ok w K mg base C 1 "pairs_in" ["text"] gPin) (oR : Ok w K mg base C 4 "is_rule" ["thing"] gRl) : Ok w K mg base C 5 "rule_in" ["text"] gRin := by
  obtain ⟨f, fd, F, m⟩ := h
  refine ⟨f, fd, fn_data F sc_rin (fun ds d ⟨_, _, e, _⟩ => by rw [e] <;> rfl) (fun cdv A outer s H E hr ds d hg Fr => ?_), m, F.kp, F.bindsN fun _ _ _ _ _ _ us hl => match us, hl with | [_], _ => rfl⟩
  obtain ⟨z, r, rfl, hp, rfl⟩ := hg
  obtain ⟨x, y, e1, k1, e2, l1, l2, gr⟩ := chkR_ok hp
  refine b_step (s_set (i := 1) (k := .dat (.lst [.str x, .str y])) sc_rin.nd (k_d (d_cast (d := .lst ((Txt.split z ">").map D.str)) (by rw [e1]; rfl) (d_of_f (f_split (dv 0) (d_gstr rfl c.gives) (sgn1 _ rfl) (fit2_le l2)))))) ?_
  have et : D.tup ((Txt.split y "-").map D.str) = enc r.2 := by rw [e2]; rfl
  refine b_step (s_set (i := 2) (k := .dat (enc r)) sc_rin.nd (k_d (d_tup (ds := [.tup (r.1.items.map enc), enc r.2]) (a2 (d_fn oP rfl (hr.mono (by decide)) (a1 (d_ixL (l := [.str x, .str y]) (dv 1) d_int rfl)) ⟨x, r.1.items, rfl, k1, rfl⟩) (d_cast et (d_t c_tupL b.tuple rfl (a1 (d_of_f (f_split (d_ixL (l := [.str x, .str y]) (dv 1) (d_neg d_int) rfl) (d_gstr rfl c.bridge) (sgn1 _ rfl) (fit2_le l1)))))))))) ?_
  refine b_step (s_ifF (pt_eq (y := !decide ((2 : Int) = 2) || !true) rfl (t_w (w_or (t_cmp (o_neI (x := 2) (y := 2)) (d_b (c_lenL (l := [.str x, .str y])) b.len rfl (a1 (dv 1))) (d_gint rfl c.pair)) (fun _ => w_oneO (t_not (t_val (d_fn oR rfl hr (a1 (dv 2)) ⟨r, rfl, gr, rfl⟩))))))) n_nil) ?_
  exact b_stop (s_ret (dv 2))
/-! ### flood_in -/
def gFin (ds : List D) (d : D) : Prop := ∃ (z : Str) (r : Flood), ds = [.str z] ∧ chkF z r = true ∧ d = enc r
def nFin : List Str := ["text", "parts", "sides", "found"]
theorem sc_fin : FnScope nFin ["text"] (defScope (top 50)) := ⟨rfl, rfl, rfl, by decide +kernel, rfl, by decide +kernel, by decide +kernel⟩
theorem ok_fin (b : MgB mg) (c : MgC mg) (h : DefAt K mg "flood_in" 50) (oP : Ok w K mg base C 1 "pairs_in" ["text"] gPin) (oR : Ok w K mg base C 4 "is_flood" ["thing"] gFl) : Ok w K mg base C 5 "flood_in" ["text"] gFin := by
  obtain ⟨f, fd, F, m⟩ := h
  refine ⟨f, fd, fn_data F sc_fin (fun ds d ⟨_, _, e, _⟩ => by rw [e] <;> rfl) (fun cdv A outer s H E hr ds d hg Fr => ?_), m, F.kp, F.bindsN fun _ _ _ _ _ _ us hl => match us, hl with | [_], _ => rfl⟩
  obtain ⟨z, r, rfl, hp, rfl⟩ := hg
  obtain ⟨si, x, y, e1, e2, k1, k2, l1, l2, gr⟩ := chkF_ok hp
  have hr1 := hr.mono (show 1 ≤ 4 by decide)
  refine b_step (s_set (i := 1) (k := .dat (.lst [.str r.a, .str si])) sc_fin.nd (k_d (d_cast (d := .lst ((Txt.split z ": ").map D.str)) (by rw [e1]; rfl) (d_of_f (f_split (dv 0) (d_gstr rfl c.colon) rfl (fit2_le l2)))))) ?_
  refine b_step (s_set (i := 2) (k := .dat (.lst [.str x, .str y])) sc_fin.nd (k_d (d_cast (d := .lst ((Txt.split si " / ").map D.str)) (by rw [e2]; rfl) (d_of_f (f_split (d_ixL (l := [.str r.a, .str si]) (dv 1) (d_neg d_int) rfl) (d_gstr rfl c.over) rfl (fit2_le l1)))))) ?_
  refine b_step (s_set (i := 3) (k := .dat (enc r)) sc_fin.nd (k_d (d_tup (ds := [.str r.a, .tup (r.b.items.map enc), .tup (r.c.items.map enc)]) (a3 (d_ixL (l := [.str r.a, .str si]) (dv 1) d_int rfl) (d_fn oP rfl hr1 (a1 (d_ixL (l := [.str x, .str y]) (dv 2) d_int rfl)) ⟨x, r.b.items, rfl, k1, rfl⟩) (d_fn oP rfl hr1 (a1 (d_ixL (l := [.str x, .str y]) (dv 2) (d_neg d_int) rfl)) ⟨y, r.c.items, rfl, k2, rfl⟩))))) ?_
  refine b_step (s_ifF (pt_eq (y := !decide ((2 : Int) = 2) || (!decide ((2 : Int) = 2) || !true)) rfl (t_w (w_or (t_cmp (o_neI (x := 2) (y := 2)) (d_b (c_lenL (l := [.str r.a, .str si])) b.len rfl (a1 (dv 1))) (d_gint rfl c.pair)) (fun _ => w_or (t_cmp (o_neI (x := 2) (y := 2)) (d_b (c_lenL (l := [.str x, .str y])) b.len rfl (a1 (dv 2))) (d_gint rfl c.pair)) (fun _ => w_oneO (t_not (t_val (d_fn oR rfl hr (a1 (dv 3)) ⟨r, rfl, gr, rfl⟩)))))))) n_nil) ?_
  exact b_stop (s_ret (dv 3))
/-! ### fits_islands -/
def toldR (R : List Rule) : List Str := R.flatMap fun r => pnames (r.1.items ++ [r.2])
def toldF (Fl : List Flood) : List Str := Fl.flatMap fun f => pnames (f.b.items ++ f.c.items)
def fitsI (I : List Str) (R : List Rule) (Fl : List Flood) : Bool := (toldR R ++ toldF Fl).all (fun x => memb x I) && (decide ((dd (Fl.map (·.a))).length = (Fl.map (·.a)).length) && (fitL (toldR R).length && (fitL (toldF Fl).length && (fitL (toldR R ++ toldF Fl).length && (R.all (fun r => fitL (r.1.items ++ [r.2]).length) && (Fl.all (fun f => fitL (f.b.items ++ f.c.items).length) && fitL Fl.length))))))
def gFit2 (ds : List D) (d : D) : Prop := ∃ (I : List Str) (R : List Rule) (Fl : List Flood), ds = [.lst (I.map enc), .lst (R.map enc), .lst (Fl.map enc)] ∧ fitsI I R Fl = true ∧ d = .bl true
def nFit : List Str := ["islands", "rules", "floods", "told", "seen", "names", "wants", "gives", "name", "flood"]
def pFit : List Str := ["islands", "rules", "floods"]
theorem sc_fit2 : FnScope nFit pFit (defScope (top 51)) := ⟨rfl, rfl, rfl, by decide +kernel, rfl, by decide +kernel, by decide +kernel⟩
theorem ok_fit2 (b : MgB mg) (h : DefAt K mg "fits_islands" 51) (oN : Ok w K mg base C 1 "names_in" ["pairs"] gNin) : Ok w K mg base C 2 "fits_islands" pFit gFit2 := by
  obtain ⟨f, fd, F, m⟩ := h
  refine ⟨f, fd, fn_data F sc_fit2 (fun ds d ⟨_, _, _, e, _⟩ => by rw [e] <;> rfl) (fun cdv A outer s H E hr ds d hg Fr => ?_), m, F.kp, F.bindsN fun _ _ _ _ _ _ us hl => match us, hl with | [_, _, _], _ => rfl⟩
  obtain ⟨I, R, Fl, rfl, hp, rfl⟩ := hg
  unfold fitsI at hp
  obtain ⟨h1, hp⟩ := and4 hp
  obtain ⟨h2, hp⟩ := and4 hp
  obtain ⟨h3, hp⟩ := and4 hp
  obtain ⟨h4, hp⟩ := and4 hp
  obtain ⟨h5, hp⟩ := and4 hp
  obtain ⟨h6, hp⟩ := and4 hp
  obtain ⟨h7, h8⟩ := and4 hp
  have h2 := of_decide_eq_true h2
  let ρ0 : List Sl → List Sl := fun l => [.dat (.lst (I.map enc)), .dat (.lst (R.map enc)), .dat (.lst (Fl.map enc))] ++ l
  have eR : (R.flatMap fun r => (pnames (r.1.items ++ [r.2])).map fun x => enc x) = (toldR R).map (enc (α := Str)) := by
    unfold toldR
    rw [List.map_flatMap]
  have eF : (Fl.flatMap fun r => (pnames (r.b.items ++ r.c.items)).map fun x => enc x) = (toldF Fl).map (enc (α := Str)) := by
    unfold toldF
    rw [List.map_flatMap]
  -- told
  refine b_step (ρ1 := ρ0 [.own ((toldR R).map enc), .no, .no, .no, .no, .no, .no]) ?_ (b_fz (l := (toldR R).map enc) 3 rfl ?_)
  · rw [← eR]
    refine s_lc2 (i := 3) (own := [("wants", 6), ("gives", 7), ("name", 8)]) [8] R enc (fun r => ρ0 [.no, .no, .no, .dat (.tup (r.1.items.map enc)), .dat (enc r.2), .no, .no]) (fun r => pnames (r.1.items ++ [r.2])) (enc (α := Str)) (fun q => ρ0 [.no, .no, .no, .dat (.tup (q.1.1.items.map enc)), .dat (enc q.1.2), .dat (enc q.2), .no]) (fun r x => enc x) rfl sc_fit2.nd (bk nFit (defScope (top 51)) (by decide +kernel)) (by decide) (fitL_le h3) (by intro a ha; exact no_own rfl) (i_list (dv 1))
      (fun s H B cl fp a ha => g_tup rfl (gs_cons (g_name (i := 6) sc_fit2.nd) (gs_cons (g_name (i := 7) sc_fit2.nd) gs_nil))) (fun s H B cl fp a ha => ?_) (fun s H B cl fp q hq => g_name (i := 8) sc_fit2.nd) (fun s H B cl fp q hq => dv 8)
    have hl := of_decide_eq_true (List.all_eq_true.mp h6 a ha)
    refine i_list (d_fn oN rfl hr (a1 (d := .tup (a.1.items.map enc ++ [enc a.2])) (d_tup (a_star (l := a.1.items.map enc) (.inl rfl) (dv 6) (a1 (dv 7))) ?_)) ⟨a.1.items ++ [a.2], ?_, by omega, rfl⟩)
    · rw [List.length_append, List.length_map]
      rw [List.length_append] at hl
      exact Nat.le_trans hl (by rw [sizeLine_eq]; omega)
    · rw [List.map_append]
      rfl
  -- seen
  refine b_step (ρ1 := ρ0 [.dat (.lst ((toldR R).map enc)), .own ((toldF Fl).map enc), .no, .no, .no, .no, .no]) ?_ (b_fz (l := (toldF Fl).map enc) 4 rfl ?_)
  · rw [← eF]
    refine s_lc2 (i := 4) (own := [("flood", 9), ("name", 8)]) [8] Fl enc (fun r => ρ0 [.dat (.lst ((toldR R).map enc)), .no, .no, .no, .no, .no, .dat (enc r)]) (fun r => pnames (r.b.items ++ r.c.items)) (enc (α := Str)) (fun q => ρ0 [.dat (.lst ((toldR R).map enc)), .no, .no, .no, .no, .dat (enc q.2), .dat (enc q.1)]) (fun r x => enc x) rfl sc_fit2.nd (bk nFit (defScope (top 51)) (by decide +kernel)) (by decide) (fitL_le h4) (by intro a ha; exact no_own rfl) (i_list (dv 2))
      (fun s H B cl fp a ha => g_name (i := 9) sc_fit2.nd) (fun s H B cl fp a ha => ?_) (fun s H B cl fp q hq => g_name (i := 8) sc_fit2.nd) (fun s H B cl fp q hq => dv 8)
    have hl := of_decide_eq_true (List.all_eq_true.mp h7 a ha)
    have at0 : ∀ {Y : Cx} {ρ : List Sl} {x : Expr}, PE Y x (tD Y.K C ρ (enc a)) → PE Y x (tD Y.K C ρ (.tup [.str a.a, .tup (a.b.items.map enc), .tup (a.c.items.map enc)])) := fun h => h
    refine i_list (d_fn oN rfl hr (a1 (d := .tup (a.b.items.map enc ++ (a.c.items.map enc ++ []))) (d_tup (a_star (l := a.b.items.map enc) (.inl rfl) (d_ixT (at0 (dv 9)) d_int rfl) (a_star (l := a.c.items.map enc) (.inl rfl) (d_ixT (at0 (dv 9)) d_int rfl) a_nil)) ?_)) ⟨a.b.items ++ a.c.items, ?_, by omega, rfl⟩)
    · rw [List.append_nil, List.length_append, List.length_map, List.length_map]
      rw [List.length_append] at hl
      exact Nat.le_trans hl (by rw [sizeLine_eq]; omega)
    · rw [List.map_append, List.append_nil]
  -- names
  have eN : Fl.map (fun f => D.str f.a) = (Fl.map (·.a)).map (enc (α := Str)) := by rw [List.map_map]; rfl
  refine b_step (s_lc (i := 5) (own := [("flood", 9)]) Fl enc (fun f => D.str f.a) (fun _ => true) _ rfl sc_fit2.nd (blkOk_by (by kernel_rfl)) (i_list (dv 2)) (fun s H B cl fp a ha => g_name (i := 9) sc_fit2.nd) (fun s' H B cl fp a ha => ts_nil) (fun s H B cl fp a ha => d_ixT (l := [.str a.a, .tup (a.b.items.map enc), .tup (a.c.items.map enc)]) (dv 9) d_int rfl)) ?_
  refine b_fz (l := (Fl.map (·.a)).map (enc (α := Str))) 5 (by rw [List.filter_eq_self.mpr fun _ _ => rfl, eN]; rfl) ?_
  have hFl := of_decide_eq_true h8
  refine b_stop (s_ret (d_cast (d := .bl (((toldR R ++ toldF Fl).all fun x => memb x I) && decide ((((dd (Fl.map (·.a))).length : Nat) : Int) = (((Fl.map (·.a)).length : Nat) : Int)))) (by rw [h1, h2, decide_eq_true rfl]; rfl) (v_and (d_b (c_allM (l := toldR R ++ toldF Fl) (t := fun x => memb x I) rfl) b.all rfl (a1 (d_of_f ?_))) (fun _ => v_one (d_cmp o_eqI (d_lenSetS (xs := Fl.map (·.a)) (.inl rfl) rfl (by rw [List.length_map]; omega) b.len b.set (dv 5)) (d_b c_lenLm b.len rfl (a1 (dv 5))))))))
  refine f_map (own := [("name", 8)]) (toldR R ++ toldF Fl) (enc (α := Str)) (fun x => .bl (memb x I)) _ rfl sc_fit2.nd (bk nFit (defScope (top 51)) (by decide +kernel)) (i_list ?_) (fun s H B cl fp a ha => g_name (i := 8) sc_fit2.nd) (fun s' H B cl fp a ha => d_cmp (o_inL (a := a) (l := I) (u_in hr)) (dv 8) (dv 0))
  have es : (toldR R ++ toldF Fl).map (enc (α := Str)) = (toldR R).map enc ++ ((toldF Fl).map enc ++ []) := by rw [List.append_nil, List.map_append]
  rw [es]
  refine d_lst (a_star (l := (toldR R).map enc) (.inr rfl) (dv 3) (a_star (l := (toldF Fl).map enc) (.inr rfl) (dv 4) a_nil)) ?_
  have hl := of_decide_eq_true h5
  rw [← es, List.length_map]
  exact Nat.le_trans hl (by rw [sizeLine_eq]; omega)
end
end Fz
/-! Talk.of. -/
namespace Fz
open PySem L2 PyProof PyProof.Rows
open PySem.W (Datum DatumOrd Tup T3 dataLe)
open Enc (enc)
/-! ### a static method, called on its class -/
/-- C.m is a static method: its record at p, its def at g -/
structure SMet (K : PySem.W.Frag) (C : Addr) (mc : Value) (m : Str) (p g : Addr) : Prop where
  find : PySem.W.findCls K (.ref C) mc m = some (.get (.builtin "staticmethod.__get__") (.ref p) .none (.ref C))
  rec_ : ∃ rest, PySem.W.recIn K p "staticmethod" = some (.ref g :: rest)
  keep : PySem.W.keepIn K (.ref g) = true
def OkT (w : World) (K : PySem.W.Frag) (mg : Str → Option Value) (base : Heap) (C : Addr) (k : Nat) (x : Str) (ps : List Str) (g : List D → D → Prop) : Prop :=
  ∃ mc p f fd, ClX.CRead K C mc ∧ SMet K C mc x p f ∧ mg "Talk" = some (.ref C) ∧ FnOk pr w K mg base CX0 k f fd ps (spD K C g) ∧ Binds K fd ps []
section
variable {X : Cx} {C : Addr} {ρ : List Sl} {pos p1 apos : Pos} {e : Expr} {es : List Expr} {ds : List D} {d : D} {x : Str} {ps : List Str} {g : List D → D → Prop} {k : Nat}
theorem d_stat {pl : Sem Bool} (o : OkT X.w X.K X.mg X.base C k x ps g) (hp : X.prog = pr) (hr : Room k X.A) (ha : PA X (e :: es) (tA X.K C ρ ds)) (h : g ds d) (hg : Gl X "Talk" := by rfl)
    (hst : starEach (e :: es) X.env = (false, eval e X.env) :: starEach es X.env := by rfl) (hpl : (backTo pos (starEach es X.env)).any (·.1) = false := by rfl)
    (ht : eval (.Call (.Attribute (.Name "Talk" p1) x apos) (e :: es) [] pos) X.env = (do
      let ov ← eval (.Name "Talk" p1) X.env
      standAt apos.atName
      let (f, first) ← holding [ov] (getMethod ov x pl)
      callWith pos f first (backTo pos (starEach (e :: es) X.env)) (backToKw pos (keywordEach [] X.env))) := by rfl) :
    PE X (.Call (.Attribute (.Name "Talk" p1) x apos) (e :: es) [] pos) (tD X.K C ρ d) := by
  obtain ⟨mc, p, f, fd, r, sm, m, G, b⟩ := o
  rw [← hp] at G
  refine ⟨fun pins s σ H Q I ⟨F, P, rp, q⟩ => ?_⟩
  refine PySem.W.methodCall_KW (pl := pl) (thn ((pe_glob (v := .ref C) hg m rfl (by decide)).run pins s σ H (fun v H1 => v = V.ref C ∧ H1 = H) I ⟨rfl, rfl⟩) fun u s1 ⟨v, H1, I1, rv, ev, eH⟩ => ?_) ht
  subst ev eH
  obtain rfl : u = Value.ref C := rv
  obtain ⟨rest, hrec⟩ := sm.rec_
  refine PySem.W.method_cls I1.kIn r.ga (PySem.W.cls_bind I1.kIn r.rd sm.find (wpAny_call (PySem.W.sm_get (s := { s1 with toks := s1.toks + 1 }) I1.kIn hrec (PySem.W.handed_on rfl ?_))))
  have I2 := I1.tok (s1.toks + 1)
  refine PySem.W.callWith_K (h₀ := X.base) I2.ok.mod.kin sm.keep (thn (ha.run pos pins _ σ H1 (fun vs H2 => spD X.K C g (vs ++ []) H2 Q E0) I2 ⟨F, P, rp, fun vs H2 e2 hv => ?_⟩) fun us s2 ⟨vs, H2, I3, rvs, q2⟩ => ⟨I3.kIn, ?_⟩) hst hpl
  · show spD X.K C g (vs ++ []) H2 Q E0
    rw [List.append_nil]
    exact ⟨P, ds, d, rp.trk.same e2, hv, h, fun v H3 e3 h3 => q v H3 (e2.trans e3) h3⟩
  · exact run_fn (dvs := []) (E := E0) G hr b .nil pass0 I3 rvs q2
end
theorem atI_head {α : Type} (a : α) (l : List α) : atI (a :: l) 0 = some a := by
  unfold atI
  have q : ixN (a :: l).length (0 : Int) = some 0 := ixN_at (j := 0) (by simp)
  rw [q]
  rfl
/-! ### what a text tells -/
def splI (i : Str) : List Str := if i = "-" then [] else Txt.split i " "
def prP (ws : List Str) : Pair := (ws.getD 0 "", ws.getD 1 "")
def prPs (z : Str) : List Pair := (pairsIn z).map prP
def ruleOf (z : Str) : Rule := match Txt.split z ">" with
  | [a, b] => (⟨prPs a⟩, prP (Txt.split b "-"))
  | _ => (⟨[]⟩, ("", ""))
def floodOf (z : Str) : Flood := match Txt.split z ": " with
  | [n, s] => (match Txt.split s " / " with
    | [x, y] => ⟨n, ⟨prPs x⟩, ⟨prPs y⟩⟩
    | _ => ⟨"", ⟨[]⟩, ⟨[]⟩⟩)
  | _ => ⟨"", ⟨[]⟩, ⟨[]⟩⟩
def partsOf (z : Str) : List Str := Txt.split z "; "
def headOf (z : Str) : Str := (partsOf z).getD 0 ""
def ruleZ (z : Str) : List Str := (partsOf z).tail.filter fun x => inS ">" x
def floodZ (z : Str) : List Str := (partsOf z).tail.filter fun x => !inS ">" x
def tkOf (z : Str) : Tk := ⟨splI (headOf z), (ruleZ z).map ruleOf, (floodZ z).map floodOf⟩
def pinB (I : List Str) (p : Pair) : Bool := memb p.1 I && memb p.2 I
/-- all that is asked of a Talk -/
def okTk (t : Tk) : Bool := asc t.isl && (asc t.rul && (asc t.flo && (fitL t.isl.length && (decide (t.rul.length < 60) && (decide (t.flo.length < 60) && (t.rul.all (fun r => r.1.items.all (pinB t.isl) && (pinB t.isl r.2 && fitL r.1.items.length)) &&
  (t.flo.all (fun f => f.b.items.all (pinB t.isl) && (f.c.items.all (pinB t.isl) && (fitL f.b.items.length && fitL f.c.items.length))) && (decide (t.flo.map (·.a)).Nodup && fitL (wet t.flo).length))))))))
def okT (z : Str) : Bool := (partsOf z).all (fun x => fitL x.length) && (fitL z.length && (decide (0 < (partsOf z).length) && ((ruleZ z).all (fun x => chkR x (ruleOf x)) && ((floodZ z).all (fun x => chkF x (floodOf x)) && ((tkOf z).isl.all goodN &&
  (fitsI (tkOf z).isl (tkOf z).rul (tkOf z).flo && (okTxT (tkOf z) && (decide (txT (tkOf z) = z) && okTk (tkOf z)))))))))
structure TkIs (t : Tk) : Prop where
  ai : asc t.isl = true
  ar : asc t.rul = true
  af : asc t.flo = true
  talk : TalkOk t.isl t.rul t.flo
  all : TAll t
theorem pinB_ok {I : List Str} {p : Pair} (h : pinB I p = true) : PIn I p := let ⟨h1, h2⟩ := and4 h; ⟨memb_iff.mp h1, memb_iff.mp h2⟩
theorem okTk_is {t : Tk} (h : okTk t = true) : TkIs t := by
  unfold okTk at h
  obtain ⟨h1, h⟩ := and4 h
  obtain ⟨h2, h⟩ := and4 h
  obtain ⟨h3, h⟩ := and4 h
  obtain ⟨h4, h⟩ := and4 h
  obtain ⟨h5, h⟩ := and4 h
  obtain ⟨h6, h⟩ := and4 h
  obtain ⟨h7, h⟩ := and4 h
  obtain ⟨h8, h⟩ := and4 h
  obtain ⟨h9, h10⟩ := and4 h
  have h4 := of_decide_eq_true h4
  have h5 := of_decide_eq_true h5
  have h6 := of_decide_eq_true h6
  have h9 := of_decide_eq_true h9
  have h10 := of_decide_eq_true h10
  have rR : ∀ r ∈ t.rul, (∀ p ∈ r.1.items, PIn t.isl p) ∧ PIn t.isl r.2 ∧ r.1.items.length ≤ 1000 := fun r hr => by
    obtain ⟨k1, k⟩ := and4 (List.all_eq_true.mp h7 r hr)
    obtain ⟨k2, k3⟩ := and4 k
    exact ⟨fun p hp => pinB_ok (List.all_eq_true.mp k1 p hp), pinB_ok k2, of_decide_eq_true k3⟩
  have rF : ∀ f ∈ t.flo, (∀ p ∈ f.b.items, PIn t.isl p) ∧ (∀ p ∈ f.c.items, PIn t.isl p) ∧ f.b.items.length ≤ 1000 ∧ f.c.items.length ≤ 1000 := fun f hf => by
    obtain ⟨k1, k⟩ := and4 (List.all_eq_true.mp h8 f hf)
    obtain ⟨k2, k⟩ := and4 k
    obtain ⟨k3, k4⟩ := and4 k
    exact ⟨fun p hp => pinB_ok (List.all_eq_true.mp k1 p hp), fun p hp => pinB_ok (List.all_eq_true.mp k2 p hp), of_decide_eq_true k3, of_decide_eq_true k4⟩
  exact ⟨h1, h2, h3, ⟨by omega, h5, h6, fun r hr => ⟨(rR r hr).1, (rR r hr).2.1, (rR r hr).2.2⟩, fun f hf => rF f hf, h9⟩,
    ⟨⟨asc_nd h1, h4, by omega, fun r hr => ⟨(rR r hr).1, (rR r hr).2.1⟩⟩, ⟨fun f hf => (rF f hf).1, fun f hf => (rF f hf).2.1, h10, by omega⟩⟩⟩
theorem talk_is {t : Tk} (h : TkIs t) : talkD t.isl t.rul t.flo = t.d := by
  unfold talkD
  rw [asc_dd h.ai, asc_dd h.ar, asc_self h.af]
  rfl
theorem okLR (R : List Rule) : okD 4 (.lst (R.map enc)) = true ∧ tupD 4 (.lst (R.map enc)) = .tup (R.map enc) := ⟨okRules R, tpRules R⟩
theorem okLF (R : List Flood) : okD 4 (.lst (R.map enc)) = true ∧ tupD 4 (.lst (R.map enc)) = .tup (R.map enc) := ⟨okFloods R, tpFloods R⟩
section
variable {w : World} {K : PySem.W.Frag} {mg : Str → Option Value} {base : Heap} {C : Addr}
def gTof (ds : List D) (d : D) : Prop := ∃ z : Str, ds = [.str z] ∧ okT z = true ∧ d = (tkOf z).d
def nTof : List Str := ["text", "parts", "islands", "rules", "floods", "found", "part", "name"]
theorem sc_tof : FnScope nTof ["text"] (defScope (inClass (top 43) 2)) := ⟨rfl, rfl, rfl, by decide +kernel, rfl, by decide +kernel, by decide +kernel⟩
def StaAt (K : PySem.W.Frag) (mg : Str → Option Value) (C : Addr) : Prop := ∃ mc p f fd, ClX.CRead K C mc ∧ SMet K C mc "of" p f ∧ mg "Talk" = some (.ref C) ∧ FunD K "of" "Talk.of" (defArgs (inClass (top 43) 2)) (defBody (inClass (top 43) 2)) (defScope (inClass (top 43) 2)) [] [] f fd
theorem ok_tof (b : MgB mg) (c : MgC mg) (tk : TalkK K C) (h : StaAt K mg C) (oR : Ok w K mg base C 5 "rule_in" ["text"] gRin) (oF : Ok w K mg base C 5 "flood_in" ["text"] gFin) (oN : Ok w K mg base C 1 "is_name" ["value"] gNm) (oS : Ok w K mg base C 2 "fits_islands" pFit gFit2) (oI : OkI w K mg base C 6 gIni) (oT : OkP w K mg base C 4 "text" gTxT) :
    OkT w K mg base C 8 "of" ["text"] gTof := by
  obtain ⟨mc, p0, f, fd, cr, sm, m, F⟩ := h
  refine ⟨mc, p0, f, fd, cr, sm, m, fn_data F sc_tof (fun ds d ⟨_, e, _⟩ => by rw [e] <;> rfl) (fun cdv A outer s H E hr ds d hg Fr => ?_), F.bindsN fun _ _ _ _ _ _ us hl => match us, hl with | [_], _ => rfl⟩
  obtain ⟨z, rfl, h, rfl⟩ := hg
  unfold okT at h
  obtain ⟨h1, h⟩ := and4 h
  obtain ⟨h2, h⟩ := and4 h
  obtain ⟨h3, h⟩ := and4 h
  obtain ⟨h4, h⟩ := and4 h
  obtain ⟨h5, h⟩ := and4 h
  obtain ⟨h6, h⟩ := and4 h
  obtain ⟨h7, h⟩ := and4 h
  obtain ⟨h8, h⟩ := and4 h
  obtain ⟨h9, h10⟩ := and4 h
  have h3 := of_decide_eq_true h3
  have h9 := of_decide_eq_true h9
  have T := okTk_is h10
  have hr5 := hr.mono (show 5 ≤ 7 by decide)
  obtain ⟨i, rest, ep⟩ : ∃ i rest, partsOf z = i :: rest := by
    cases q : partsOf z with
    | nil => rw [q] at h3; cases h3
    | cons i rest => exact ⟨i, rest, rfl⟩
  have ei : headOf z = i := by unfold headOf; rw [ep]; rfl
  have li : fitL i.length = true := List.all_eq_true.mp h1 i (by rw [ep]; exact List.mem_cons_self)
  have eR : ruleZ z = rest.filter fun x => inS ">" x := by unfold ruleZ; rw [ep]; rfl
  have eF : floodZ z = rest.filter fun x => !inS ">" x := by unfold floodZ; rw [ep]; rfl
  let L : D := .lst ((i :: rest).map D.str)
  let ρ0 : List Sl → List Sl := fun l => [.dat (.str z), .dat L] ++ l
  refine b_step (ρ1 := ρ0 [.no, .no, .no, .no, .no, .no]) (s_set (i := 1) (k := .dat L) sc_tof.nd (k_d (d_cast (d := .lst ((Txt.split z "; ").map D.str)) (by show _ = D.lst ((i :: rest).map D.str); rw [← ep]; rfl) (d_of_f (f_split (dv 0) (d_gstr rfl c.between) rfl (fit2_le h2)))))) ?_
  let I := (tkOf z).isl
  have eI : I = splI i := by show splI (headOf z) = _; rw [ei]
  refine b_step (ρ1 := ρ0 [.dat (.lst (I.map enc)), .no, .no, .no, .no, .no]) (s_set (i := 2) (k := .dat (.lst (I.map enc))) sc_tof.nd (k_d (t_if (z := !decide (i = "-")) (t_cmp o_neS (d_ixL (l := (i :: rest).map D.str) (dv 1) d_int (atI_head _ _)) (d_gstr rfl c.nothing)) (fun q => ?_) (fun q => ?_)))) ?_
  · have q : ¬ i = "-" := by simpa using q
    have e : I = Txt.split i " " := eI.trans (if_neg q)
    rw [e]
    exact d_of_f (f_split (d_ixL (l := (i :: rest).map D.str) (dv 1) d_int (atI_head _ _)) (d_gstr rfl c.blank) rfl (fit2_le li))
  · have q : i = "-" := by simpa using q
    have e : I = [] := eI.trans (if_pos q)
    rw [e]
    exact d_lst a_nil
  have ecut : cutD ((i :: rest).map D.str) (some (1 : Int)) none = rest.map D.str := cutD_from _ 1
  let R := (tkOf z).rul
  let Fl := (tkOf z).flo
  refine b_step (ρ1 := ρ0 [.dat (.lst (I.map enc)), .own (R.map enc), .no, .no, .no, .no]) ?_ (b_fz (l := R.map enc) 3 rfl ?_)
  · have e : R.map enc = (rest.filter fun x => inS ">" x).map fun x => enc (ruleOf x) := by
      show ((ruleZ z).map ruleOf).map enc = _
      rw [eR, List.map_map]
      rfl
    rw [e]
    refine s_lc (i := 3) (own := [("part", 6)]) rest D.str (fun x => enc (ruleOf x)) (fun x => inS ">" x) _ rfl sc_tof.nd (blkOk_by (by kernel_rfl)) ?_ (fun s H B cl fp a ha => g_name (i := 6) sc_tof.nd) (fun s' H B cl fp a ha => ts_one (t_cmp o_inS (d_gstr rfl c.gives) (dv 6))) (fun s H B cl fp a ha => d_fn oR rfl hr5 (a1 (dv 6)) ⟨a, ruleOf a, rfl, List.all_eq_true.mp h4 a (by rw [eR]; exact List.mem_filter.mpr ha), rfl⟩)
    rw [← ecut]
    exact i_list (d_of_f (f_slL (dv 1) (op_some d_int) op_none))
  refine b_step (ρ1 := ρ0 [.dat (.lst (I.map enc)), .dat (.lst (R.map enc)), .own (Fl.map enc), .no, .no, .no]) ?_ (b_fz (l := Fl.map enc) 4 rfl ?_)
  · have e : Fl.map enc = (rest.filter fun x => !inS ">" x).map fun x => enc (floodOf x) := by
      show ((floodZ z).map floodOf).map enc = _
      rw [eF, List.map_map]
      rfl
    rw [e]
    refine s_lc (i := 4) (own := [("part", 6)]) rest D.str (fun x => enc (floodOf x)) (fun x => !inS ">" x) _ rfl sc_tof.nd (blkOk_by (by kernel_rfl)) ?_ (fun s H B cl fp a ha => g_name (i := 6) sc_tof.nd) (fun s' H B cl fp a ha => ts_one (t_cmp o_ninS (d_gstr rfl c.gives) (dv 6))) (fun s H B cl fp a ha => d_fn oF rfl hr5 (a1 (dv 6)) ⟨a, floodOf a, rfl, List.all_eq_true.mp h5 a (by rw [eF]; exact List.mem_filter.mpr ha), rfl⟩)
    rw [← ecut]
    exact i_list (d_of_f (f_slL (dv 1) (op_some d_int) op_none))
  refine b_step (s_ifF (pt_eq (y := !(I.all fun _ => true) || !true) (by simp) (t_w (w_or (t_not (t_val (d_b (c_allM (l := I) (t := fun _ => true) rfl) b.all rfl (a1 (d_of_f (f_map (own := [("name", 7)]) I enc (fun _ => .bl true) _ rfl sc_tof.nd (blkOk_by (by kernel_rfl)) (i_list (dv 2)) (fun s H B cl fp a ha => g_name (i := 7) sc_tof.nd) (fun s' H B cl fp a ha => d_fn oN rfl (hr.mono (by decide)) (a1 (dv 7)) ⟨a, rfl, List.all_eq_true.mp h6 a ha, rfl⟩)))))))
    (fun _ => w_oneO (t_not (t_val (d_fn oS rfl (hr.mono (by decide)) (a3 (dv 2) (dv 3) (dv 4)) ⟨I, R, Fl, rfl, h7, rfl⟩))))))) n_nil) ?_
  refine b_step (s_set (i := 5) (k := .dat (tkOf z).d) sc_tof.nd (k_d (d_make oI rfl hr (a3 (dv 2) (dv 3) (dv 4)) ⟨I, R, Fl, _, _, _, rfl, .inl rfl, (okLR R).1, (okLR R).2, (okLF Fl).1, (okLF Fl).2, T.talk, (talk_is T).symm⟩))) ?_
  refine b_step (s_ifF (pt_eq (y := !decide (txT (tkOf z) = z)) (by rw [h9, decide_eq_true rfl]; rfl) (t_cmp o_neS (d_prop tk oT rfl hr5 (dv 5) ⟨tkOf z, rfl, h8, rfl⟩) (dv 0))) n_nil) ?_
  exact b_stop (s_ret (dv 5))
end
end Fz
/-! The law's written texts. -/
namespace Fz
open PySem L2
open PySem.W (Datum DatumOrd Tup T3 dataLe)
theorem lot_is {t : Tk} {l : List Str} (h : (peeled t t.flo).2.map (fun f : Flood => f.a) = l) (a : asc l = true) : stuckLot t = l := by
  unfold stuckLot
  rw [h]
  exact asc_self a
def z_wide : Str := "a b c; x: a-b / -; y: - / b-c; z: a-c / a-b"
theorem ok_z_wide : okT z_wide = true := by decide +kernel
theorem can_wide : canBe (tkOf z_wide) = true := by decide +kernel
theorem lot_wide : stuckLot (tkOf z_wide) = ([] : List Str) := lot_is (by decide +kernel) (by decide +kernel)
def z_jam : Str := "a b c; p: a-b / a-c; q: b-c / a-b; r: a-c / -"
theorem ok_z_jam : okT z_jam = true := by decide +kernel
theorem can_jam : canBe (tkOf z_jam) = false := by decide +kernel
theorem lot_jam : stuckLot (tkOf z_jam) = (["p", "q"] : List Str) := lot_is (by decide +kernel) (by decide +kernel)
def z_year : Str := "a b c d; a-b>c-d; july: c-d / a-b; june: a-c / -; may: a-b / a-c"
theorem ok_z_year : okT z_year = true := by decide +kernel
theorem can_year : canBe (tkOf z_year) = true := by decide +kernel
theorem lot_year : stuckLot (tkOf z_year) = ([] : List Str) := lot_is (by decide +kernel) (by decide +kernel)
def z_r1 : Str := "a b; w: a-b / a-b"
theorem ok_z_r1 : okT z_r1 = true := by decide +kernel
theorem can_r1 : canBe (tkOf z_r1) = false := by decide +kernel
theorem lot_r1 : stuckLot (tkOf z_r1) = (["w"] : List Str) := lot_is (by decide +kernel) (by decide +kernel)
def z_r2 : Str := "a b c d; a-b>c-d; w: a-b / c-d"
theorem ok_z_r2 : okT z_r2 = true := by decide +kernel
theorem can_r2 : canBe (tkOf z_r2) = false := by decide +kernel
theorem lot_r2 : stuckLot (tkOf z_r2) = (["w"] : List Str) := lot_is (by decide +kernel) (by decide +kernel)
def z_r3 : Str := "a b c d; a-b c-d>a-c; hi: a-b / a-c; lo: c-d / b-d"
theorem ok_z_r3 : okT z_r3 = true := by decide +kernel
theorem can_r3 : canBe (tkOf z_r3) = false := by decide +kernel
theorem lot_r3 : stuckLot (tkOf z_r3) = (["hi", "lo"] : List Str) := lot_is (by decide +kernel) (by decide +kernel)
def z_r4 : Str := "a b c d; a-b c-d>a-c; hi: a-b / a-c; lo: c-d / -"
theorem ok_z_r4 : okT z_r4 = true := by decide +kernel
theorem can_r4 : canBe (tkOf z_r4) = true := by decide +kernel
theorem lot_r4 : stuckLot (tkOf z_r4) = ([] : List Str) := lot_is (by decide +kernel) (by decide +kernel)
def z_r5 : Str := "a b c; h: a-b b-c / a-c"
theorem ok_z_r5 : okT z_r5 = true := by decide +kernel
theorem can_r5 : canBe (tkOf z_r5) = false := by decide +kernel
theorem lot_r5 : stuckLot (tkOf z_r5) = (["h"] : List Str) := lot_is (by decide +kernel) (by decide +kernel)
def z_r6 : Str := "a b; h: - / a-b; l: a-b / -"
theorem ok_z_r6 : okT z_r6 = true := by decide +kernel
theorem can_r6 : canBe (tkOf z_r6) = true := by decide +kernel
theorem lot_r6 : stuckLot (tkOf z_r6) = ([] : List Str) := lot_is (by decide +kernel) (by decide +kernel)
def z_s1 : Str := "a b c d; x: c-d / a-b a-c c-d"
theorem ok_z_s1 : okT z_s1 = true := by decide +kernel
theorem can_s1 : canBe (tkOf z_s1) = false := by decide +kernel
def z_s2 : Str := "a b c d e f; a-b c-d e-f>a-c; x: a-b c-d / a-c"
theorem ok_z_s2 : okT z_s2 = true := by decide +kernel
theorem can_s2 : canBe (tkOf z_s2) = true := by decide +kernel
def z_s3 : Str := "a b c d e f; a-b c-d e-f>a-c; x: a-b c-d e-f / a-c"
theorem ok_z_s3 : okT z_s3 = true := by decide +kernel
theorem can_s3 : canBe (tkOf z_s3) = false := by decide +kernel
def z_s4 : Str := "a b c d e f g h; b-c>a-b; c-d>b-c; d-e>c-d; e-f>d-e; f-g>e-f; g-h>f-g; x: g-h / a-b"
theorem ok_z_s4 : okT z_s4 = true := by decide +kernel
theorem can_s4 : canBe (tkOf z_s4) = false := by decide +kernel
def z_s5 : Str := "a b c d e f g h; b-c>a-b; c-d>b-c; d-e>c-d; e-f>d-e; f-g>e-f; g-h>f-g; x: g-h / -"
theorem ok_z_s5 : okT z_s5 = true := by decide +kernel
theorem can_s5 : canBe (tkOf z_s5) = true := by decide +kernel
def z_ring : Str := "a b c d; p: a-b / a-d; q: b-c / a-d; r: c-d / a-d; s: - / -"
theorem ok_z_ring : okT z_ring = true := by decide +kernel
theorem can_ring : canBe (tkOf z_ring) = false := by decide +kernel
theorem lot_ring : stuckLot (tkOf z_ring) = (["p", "q", "r"] : List Str) := lot_is (by decide +kernel) (by decide +kernel)
end Fz
/-! Talk.__getitem__, with_flood, without_flood, Talk(); calls by keywords. -/
namespace Fz
open PySem L2 PyProof PyProof.Rows
open PySem.W (Datum DatumOrd Tup T3 dataLe)
open Enc (enc)
/-! ### a for that returns -/
section
variable {X : Cx} {C : Addr} {F : Frm} {pos : Pos} {ι : Type} {G : VK}
theorem pss_or {sts : List Stmt} {t u : TS} (h : PSs X sts t) (k : PSs X sts u) : PSs X sts (fun D σ H => t D σ H ∨ u D σ H) :=
  ⟨fun pins s σ H D I q => q.elim (h.run pins s σ H D I) (k.run pins s σ H D I)⟩
theorem s_forR {tg iter : Expr} {body : List Stmt} {vs : List Nat} (l : List ι) (en : ι → D) (j : Nat) (a : ι) (ha : l[j]? = some a) (ρ0 : List Sl) (ρm : ι → List Sl) (hp : PassesOwn (model X.prog X.w) X.A X.env X.xe) (hc : X.calm = true)
    (hi : PI X tg iter (tI X.K C ρ0 (l.map en))) (hg : ∀ x, x ∈ l → PG X tg (tG X.K C vs ρ0 (en x) (ρm x))) (hb : ∀ x, (∃ i, i < j ∧ l[i]? = some x) → PSs X body (tN X.K C F (ρm x) ρ0)) (hr : PSs X body (tRG X.K C F (ρm a) G))
    (hs : ∀ x, foldedSetIterable iter X.env x = pure x := by intro _; rfl) : PS X (.For tg iter body [] pos) (tRG X.K C F ρ0 G) := by
  have hj := (List.getElem?_eq_some_iff.mp ha).1
  let tb : TS := fun D σ H => (∃ x : ι, (∃ i, i < j ∧ l[i]? = some x) ∧ tN X.K C F (ρm x) ρ0 D σ H) ∨ tRG X.K C F (ρm a) G D σ H
  refine ps_w (ps_for hp hc hi (g := fun v σ H Q => ∃ x : ι, x ∈ l ∧ tG X.K C vs ρ0 (en x) (ρm x) v σ H Q) (tb := tb) (pg_fam fun x h => hg x h) (pss_or (pss_famP fun x h => hb x h) hr) hs) fun D σ H ⟨P, r, k⟩ => ?_
  refine ⟨F, P, r, fun J H1 e1 w => ?_⟩
  obtain ⟨wk, hsz⟩ := w.walk
  refine for_it wk (g := fun v σ H Q => ∃ x : ι, x ∈ l ∧ tG X.K C vs ρ0 (en x) (ρm x) v σ H Q) (tb := tb) (fun i σ H => i ≤ j ∧ ∃ P', Rep X.K C F P' H σ ρ0 ∧ Same (mask P H1) (mask P' H)) ⟨Nat.zero_le _, P, r.same e1, Same.refl _⟩ (fun i σ H _ p => let ⟨_, _, _, s⟩ := p; s.trans mask_le) ?_ ?_
  · rintro i x σ' H' H'' hi' ⟨hij, P', r', s'⟩ ⟨sy, b, hb', hr'⟩
    refine ⟨b, List.mem_of_getElem? hb', F, P', r'.same sy, hr' P' r'.trk s', fun σ2 r2 _ => ?_⟩
    rcases Nat.lt_or_ge i j with h | h
    · exact .inl ⟨b, ⟨i, h, hb'⟩, P', r2, fun P3 σ3 H3 r3 s3 => ⟨h, P3, r3, (s'.trans (mask_same sy)).trans s3⟩⟩
    · have e : i = j := by omega
      subst e
      rw [ha] at hb'
      have e2 := Option.some.inj hb'
      subst e2
      exact .inr ⟨P', r2, k⟩
  · rintro σ' H' ⟨h, _⟩
    omega
end
/-! ### talk[name] -/
def GetAt (K : PySem.W.Frag) (C : Addr) : Prop := ∃ f fd, PySem.W.findIn K (.ref C) "__getitem__" = some (some (.ref f)) ∧ PySem.W.fnIn K f = true ∧ PySem.W.isFn K (.ref f) = true ∧ FunD K "__getitem__" "Talk.__getitem__" (defArgs (inClass (top 43) 10)) (defBody (inClass (top 43) 10)) (defScope (inClass (top 43) 10)) [] [] f fd
def OkG (w : World) (K : PySem.W.Frag) (mg : Str → Option Value) (base : Heap) (C : Addr) (k : Nat) (g : List D → D → Prop) : Prop :=
  ∃ f, PySem.W.findIn K (.ref C) "__getitem__" = some (some (.ref f)) ∧ PySem.W.fnIn K f = true ∧ PySem.W.isFn K (.ref f) = true ∧ FnR pr w K mg base CX0 k f (spD K C g)
section
variable {X : Cx} {C : Addr} {ρ : List Sl} {pos : Pos} {e1 e2 : Expr} {i r f d d2 : D} {g : List D → D → Prop} {k : Nat}
theorem d_get (o : OkG X.w X.K X.mg X.base C k g) (hp : X.prog = pr) (hr : Room (k + 1) X.A) (h1 : PE X e1 (tD X.K C ρ (.obj i r f))) (h2 : PE X e2 (tD X.K C ρ d2)) (h : g [.obj i r f, d2] d)
    (hsl : ∀ x u, subscripted e2 true (.ref x) u = runValue (.builtin "lifetime.subscript" ⟨[.ref x, u], []⟩) := by intro _ _; with_unfolding_all rfl) : PE X (.Subscript e1 e2 pos) (tD X.K C ρ d) := by
  obtain ⟨q, f1, f2, f3, G⟩ := o
  rw [← hp] at G
  refine ⟨fun pins s σ H Q I ⟨F, P, rp, kk⟩ => ?_⟩
  refine Subscript_ (thn (h1.run pins s σ H (fun v H2 => Same H H2 ∧ Rp X.K C (mask P H2) (.obj i r f) v) I ⟨F, P, rp, fun v H2 e hv => ⟨e, hv⟩⟩) fun v s1 ⟨x, H1, I1, rx, sa, hx⟩ => ?_)
  refine thn (h2.run pins s1 σ H1 (fun v H2 => Same H1 H2 ∧ Rp X.K C (mask P H2) d2 v) I1 ⟨F, P, rp.same sa, fun v H2 e hv => ⟨e, hv⟩⟩) fun u s2 ⟨y, H2, I2, ry, sb, hy⟩ => ?_
  have hx2 := Rp.mono (mask_same sb) _ _ hx
  have hx3 := hx2
  obtain ⟨a, dx, vi, vr, vf, ea, g1, g2, g3, g4⟩ := hx2
  subst ea
  obtain rfl : v = Value.ref a := rx
  obtain ⟨sl, od, _, J, _⟩ := SlX.slt_inst I2 (slt_same mask_le g1)
  obtain ⟨mm, hn, _⟩ := I2.loc
  have FR : Fr X.base X.env.locals s2.heap mm := ⟨hn, fun b o z => (I2.bs b o z).1, Nat.le_trans I2.ok.bsz I2.ok.above⟩
  refine PySem.W.sub_K FR I2.ok.mod.kin J f1 f2 f3 (wpAny_call ?_) (hsl a u)
  have rp2 := (rp.same sa).same sb
  refine codeAny_mono (G X.A.in1 X.stack s2 H2 [.ref a, u] [.ref a, y] Q E0 hr.in1 I2.env0.in1 (.cons rfl (.cons ry .nil)) ⟨P, [.obj i r f, d2], d, rp2.trk, ⟨_, _, rfl, hx3, _, _, rfl, hy, rfl⟩, h, fun v H3 e3 hv => kk v H3 ((sa.trans sb).trans e3) hv⟩) fun rr s' hq => ?_
  cases rr with
  | error z => exact hq.elim
  | ok fl =>
    cases fl with
    | ret u => exact I2.after hq
    | next => exact False.elim hq
    | brk => exact False.elim hq
    | cont => exact False.elim hq
end
section
variable {w : World} {K : PySem.W.Frag} {mg : Str → Option Value} {base : Heap} {C : Addr}
/-- the j-th flood is the first one with the name -/
def AtN (t : Tk) (x : Str) (j : Nat) (f : Flood) : Prop := t.flo[j]? = some f ∧ f.a = x ∧ ∀ i, i < j → ∀ g, t.flo[i]? = some g → g.a ≠ x
def gGet (ds : List D) (d : D) : Prop := ∃ (t : Tk) (x : Str) (j : Nat) (f : Flood), ds = [t.d, .str x] ∧ AtN t x j f ∧ d = enc f
def nGet : List Str := ["self", "name", "flood"]
theorem sc_get : FnScope nGet ["self", "name"] (defScope (inClass (top 43) 10)) := ⟨rfl, rfl, rfl, by decide +kernel, rfl, by decide +kernel, by decide +kernel⟩
theorem ok_get (c : TalkK K C) (h : GetAt K C) : OkG w K mg base C 1 gGet := by
  obtain ⟨f, fd, f1, f2, f3, F⟩ := h
  have G : FnOk pr w K mg base CX0 1 f fd ["self", "name"] (spD K C gGet) := fn_data F sc_get (fun ds d ⟨_, _, _, _, e, _⟩ => by rw [e] <;> rfl) (fun cdv A outer s H E hr ds d hg Fr => by
    obtain ⟨t, x, j, fl, rfl, ⟨ha, hx, hn⟩, rfl⟩ := hg
    have at0 : ∀ {Y : Cx} {ρ : List Sl} {y : Expr} {a : Flood}, PE Y y (tD Y.K C ρ (enc a)) → PE Y y (tD Y.K C ρ (.tup [.str a.a, .tup (a.b.items.map enc), .tup (a.c.items.map enc)])) := fun h => h
    refine b_stop (s_forR (vs := [2]) t.flo enc j fl ha [.dat t.d, .dat (.str x), .no] (fun a => [.dat t.d, .dat (.str x), .dat (enc a)]) PassesOwn.never rfl (i_tup (d_slF c (dv 0))) (fun a _ => g_name (i := 2) sc_get.nd) (fun a hj => ?_) ?_)
    · obtain ⟨i, hij, hi⟩ := hj
      exact n_no [2] (n_one (s_ifF (pt_eq (decide_eq_false (hn i hij a hi)) (t_cmp o_eqS (d_ixT (at0 (dv 2)) d_int rfl) (dv 1))) n_nil))
    · exact b_stop (s_ifT_R (pt_eq (decide_eq_true hx) (t_cmp o_eqS (d_ixT (at0 (dv 2)) d_int rfl) (dv 1))) (b_stop (s_ret (dv 2)))))
  refine ⟨f, f1, f2, f3, FnR.imp (FnOk.raw G (F.bindsN fun _ _ _ _ _ _ us hl => match us, hl with | [_, _], _ => rfl) .nil) fun vs H Q E h => ?_⟩
  rw [List.append_nil]
  exact h
/-! ### with_flood, without_flood -/
def addF (t : Tk) (f : Flood) : Tk := ⟨t.isl, t.rul, t.flo ++ [f]⟩
def gWf (ds : List D) (d : D) : Prop := ∃ (t u : Tk) (f : Flood), ds = [t.d, enc f] ∧ TkIs t ∧ TkIs u ∧ u.isl = t.isl ∧ u.rul = t.rul ∧ srtL (t.flo ++ [f]) = u.flo ∧ TalkOk t.isl t.rul (t.flo ++ [f]) ∧ d = u.d
theorem sc_wf : FnScope ["talk", "flood"] ["talk", "flood"] (defScope (top 52)) := ⟨rfl, rfl, rfl, by decide +kernel, rfl, by decide +kernel, by decide +kernel⟩
theorem talk_u {t u : Tk} {Fl : List Flood} (ht : TkIs t) (hi : u.isl = t.isl) (hr : u.rul = t.rul) (hf : srtL Fl = u.flo) : talkD t.isl t.rul Fl = u.d := by
  unfold talkD
  rw [asc_dd ht.ai, asc_dd ht.ar, hf, ← hi, ← hr]
  rfl
theorem ok_wf (b : MgB mg) (h : DefAt K mg "with_flood" 52) (oI : OkI w K mg base C 6 gIni) (pI : OkP w K mg base C 1 "islands" gIsl) (pR : OkP w K mg base C 1 "rules" gRul) (pF : OkP w K mg base C 1 "floods" gFlo) (c : TalkK K C) : Ok w K mg base C 8 "with_flood" ["talk", "flood"] gWf := by
  obtain ⟨f, fd, F, m⟩ := h
  refine ⟨f, fd, fn_data F sc_wf (fun ds d ⟨_, _, _, e, _⟩ => by rw [e] <;> rfl) (fun cdv A outer s H E hr ds d hg Fr => ?_), m, F.kp, F.bindsN fun _ _ _ _ _ _ us hl => match us, hl with | [_, _], _ => rfl⟩
  obtain ⟨t, u, fl, rfl, ht, hu, ei, er, ef, T, rfl⟩ := hg
  have hr2 := hr.mono (show 2 ≤ 7 by decide)
  have efl : t.flo.map enc ++ [enc fl] = (t.flo ++ [fl]).map enc := by rw [List.map_append]; rfl
  refine b_stop (s_ret (d_make oI rfl hr (a3 (d_prop c pI rfl hr2 (dv 0) ⟨_, _, rfl⟩) (d_prop c pR rfl hr2 (dv 0) ⟨_, _, rfl⟩) (d_tup (a_star (l := t.flo.map enc) (.inl rfl) (d_prop c pF rfl hr2 (dv 0) ⟨_, _, rfl⟩) (a1 (dv 1))) ?_)) ⟨t.isl, t.rul, t.flo ++ [fl], _, _, _, rfl, .inr rfl, okRules _, tpRules _, ?_, ?_, T, (talk_u ht ei er ef).symm⟩))
  · have := T.lF
    rw [efl, List.length_map, sizeLine_eq]
    omega
  · rw [efl]
    exact okFloods _
  · rw [efl]
    exact tpFloods _
def gWo (ds : List D) (d : D) : Prop := ∃ (t u : Tk) (x : Str) (j : Nat) (f : Flood), ds = [t.d, .str x] ∧ AtN t x j f ∧ TkIs t ∧ TkIs u ∧ u.isl = t.isl ∧ u.rul = t.rul ∧ t.flo.filter (fun g => decide (g ≠ f)) = u.flo ∧ d = u.d
def nWo : List Str := ["talk", "name", "gone", "flood"]
theorem sc_wo : FnScope nWo ["talk", "name"] (defScope (top 53)) := ⟨rfl, rfl, rfl, by decide +kernel, rfl, by decide +kernel, by decide +kernel⟩
theorem ok_wo (b : MgB mg) (h : DefAt K mg "without_flood" 53) (oI : OkI w K mg base C 6 gIni) (pI : OkP w K mg base C 1 "islands" gIsl) (pR : OkP w K mg base C 1 "rules" gRul) (pF : OkP w K mg base C 1 "floods" gFlo) (oG : OkG w K mg base C 1 gGet) (c : TalkK K C) : Ok w K mg base C 8 "without_flood" ["talk", "name"] gWo := by
  obtain ⟨f, fd, F, m⟩ := h
  refine ⟨f, fd, fn_data F sc_wo (fun ds d ⟨_, _, _, _, _, e, _⟩ => by rw [e] <;> rfl) (fun cdv A outer s H E hr ds d hg Fr => ?_), m, F.kp, F.bindsN fun _ _ _ _ _ _ us hl => match us, hl with | [_, _], _ => rfl⟩
  obtain ⟨t, u, x, j, fl, rfl, ha, ht, hu, ei, er, ef, rfl⟩ := hg
  have hr2 := hr.mono (show 2 ≤ 7 by decide)
  refine b_step (s_set (i := 2) (k := .dat (enc fl)) sc_wo.nd (k_d (d_get oG rfl hr2 (dv 0) (dv 1) ⟨t, x, j, fl, rfl, ha, rfl⟩))) ?_
  have T : TalkOk t.isl t.rul u.flo := by
    have := hu.talk
    rw [ei, er] at this
    exact this
  refine b_stop (s_ret (d_make oI rfl hr (a3 (d_prop c pI rfl hr2 (dv 0) ⟨_, _, rfl⟩) (d_prop c pR rfl hr2 (dv 0) ⟨_, _, rfl⟩) (d_of_f ?_)) ⟨t.isl, t.rul, u.flo, _, _, .lst (u.flo.map enc), rfl, .inr rfl, okRules _, tpRules _, (okLF _).1, (okLF _).2, T, (talk_u ht ei er (asc_self hu.af)).symm⟩))
  rw [← ef]
  exact f_lc (own := [("flood", 3)]) t.flo enc enc (fun g => decide (g ≠ fl)) _ rfl sc_wo.nd (blkOk_by (by kernel_rfl)) (i_tup (d_prop c pF rfl hr2 (dv 0) ⟨_, _, rfl⟩)) (fun s H B cl fp a ha => g_name (i := 3) sc_wo.nd) (fun s' H B cl fp a ha => ts_one (t_cmp (o_ne (a := a) (b := fl) (u_eq hr)) (dv 3) (dv 2))) (fun s H B cl fp a ha => dv 3)
end
/-! ### Talk() -/
def t0 : Tk := ⟨[], [], []⟩
theorem t0_is : TkIs t0 := okTk_is (by decide +kernel)
section
variable {X : Cx} {C : Addr} {ρ : List Sl} {p pos : Pos} {k : Nat}
theorem rp_empty {K : PySem.W.Frag} {H : Hp} {v : V} (h : EmptyAt K v) : Rp K C H (.tup []) v := by
  obtain ⟨a, o, n, rfl, lk, hc, hd⟩ := h
  exact ⟨a, [], rfl, .inr ⟨o, #[], n, lk, hc, hd, Nat.zero_le _, .nil⟩, rfl⟩
theorem d_make0 (o : OkI X.w X.K X.mg X.base C k gIni) (hp : X.prog = pr) (hr : Room (k + 1) X.A) (hg : Gl X "Talk" := by rfl) : PE X (.Call (.Name "Talk" p) [] [] pos) (tD X.K C ρ t0.d) := by
  obtain ⟨f, fd, M, m, G, _, v1, v2, v3, ds, y1, y2, y3, q, b⟩ := o
  rw [← hp] at G
  exact pe_w (pe_make0 (E := E0) (dvs := [v1, v2, v3]) M G hr hg m b q pass0 (by decide)) fun σ H Q ⟨F, P, r, k⟩ => by
    intro x dx nx ndx ne
    have t1 := r.trk
    have px : ¬ P x := t1.new nx
    have pdx : ¬ P dx := t1.new ndx
    have sm : Same H (upd (upd H dx (.own x)) x (.ins C dx [])) := (same_upd ndx).trans (same_upd (by rw [upd_ne (fun z => ne z.symm)]; exact nx))
    refine ⟨P, x, dx, [v1, v2, v3], [.tup [], .tup [], .tup []], t0.d, t1.same sm, px, pdx, ne, ?_, upd_same, rfl, ⟨_, _, rfl, rp_empty y1, _, _, rfl, rp_empty y2, _, _, rfl, rp_empty y3, rfl⟩, ⟨[], [], [], _, _, _, rfl, .inr rfl, rfl, rfl, rfl, rfl, t0_is.talk, (talk_is t0_is).symm⟩, fun H' k1 k2 => ⟨rfl, k (.ref x) H' (fun b o z => ?_) k2⟩⟩
    · rw [upd_ne ne, upd_same]
    · have n1 : b ≠ x := fun y => by rw [y, nx] at z; cases z
      have n2 : b ≠ dx := fun y => by rw [y, ndx] at z; cases z
      exact k1 b o n1 n2 (sm b o z)
/-! ### calls by keywords alone -/
theorem pk_w {kws : List Keyword} {t t' : TA} (h : PK X kws t) (w : ∀ σ H Q, t' σ H Q → t σ H Q) : PK X kws t' := ⟨fun pos pins s σ H Q I q => h.run pos pins s σ H Q I (w σ H Q q)⟩
theorem k_nil : PK X [] (tA X.K C ρ []) := pk_w pk_nil fun _ H _ ⟨_, _, _, k⟩ => k [] H (Same.refl H) rfl
theorem k_cons {nm : Option Str} {e : Expr} {kpos : Pos} {kws : List Keyword} {d : D} {ds : List D} (he : PE X e (tD X.K C ρ d)) (hes : PK X kws (tA X.K C ρ ds)) : PK X (⟨nm, e, kpos⟩ :: kws) (tA X.K C ρ (d :: ds)) :=
  pk_w (pk_cons he hes) fun σ H Q ⟨F, P, r, k⟩ => ⟨F, P, r, fun v H2 e2 hv => ⟨F, P, r.same e2, fun vs H3 e3 hvs => k _ _ (e2.trans e3) ⟨v, vs, rfl, Rp.mono (mask_same e3) _ _ hv, hvs⟩⟩⟩
/-- what one may call by keywords alone: ks, in the order pm of the parameters -/
def OkK (w : World) (K : PySem.W.Frag) (mg : Str → Option Value) (base : Heap) (C : Addr) (k : Nat) (x : Str) (ps ks : List Str) (pm : {α : Type} → List α → List α) (g : List D → D → Prop) : Prop :=
  ∃ f fd, FnOk pr w K mg base CX0 k f fd ps (spD K C g) ∧ mg x = some (.ref f) ∧ PySem.W.keepIn K (.ref f) = true ∧ KBn K fd ps 0 ks (fun _ ws => pm ws) (fun _ zs => pm zs) ∧ (∀ H ds vs, ds.length = ks.length → RpL K C H ds vs → RpL K C H (pm ds) (pm vs))
theorem d_kw {x : Str} {ps ks : List Str} {pm : {α : Type} → List α → List α} {g : List D → D → Prop} {kws : List Keyword} {ds : List D} {d : D} (o : OkK X.w X.K X.mg X.base C k x ps ks pm g) (hp : X.prog = pr) (hr : Room k X.A) (hkw : PK X kws (tA X.K C ρ ds)) (hl : ds.length = ks.length) (h : g (pm ds) d) (hg : Gl X x := by rfl)
    (hall : (backToKw pos (keywordEach kws X.env)).all (·.1.isSome) = true := by rfl) (hks : (backToKw pos (keywordEach kws X.env)).filterMap (·.1) = ks := by rfl) (hdb : (x == ("__debug__" : Str)) = false := by decide)
    (hpl : ((backTo pos (starEach [] X.env)).any (·.1) || (backToKw pos (keywordEach kws X.env)).any (·.1.isNone)) = false := by rfl) : PE X (.Call (.Name x p) [] kws pos) (tD X.K C ρ d) := by
  obtain ⟨f, fd, G, m, q, b, hpm⟩ := o
  rw [← hp] at G
  refine ⟨fun pins s σ H Q I ⟨F, P, rp, kk⟩ => ?_⟩
  refine wpAny_Call_Name_kw (ld_glob I hg m ?_ hdb)
  refine PySem.W.callWith_KW0 (h₀ := X.base) I.ok.mod.kin q hall ?_ hpl
  refine thn (hkw.run pos pins s σ H (fun vs H2 => Same H H2 ∧ RpL X.K C (mask P H2) ds vs) I ⟨F, P, rp, fun vs H2 e hv => ⟨e, hv⟩⟩) fun ws s2 ⟨zs, H2, I2, rz, se, hv⟩ => ⟨I2.kIn, ?_⟩
  rw [hks]
  refine run_fnN (E := E0) (gV := fun _ zs => pm zs) (vs := []) (us := []) G hr b pass0 I2 .nil rz rfl (hv.length.trans hl) ⟨P, pm ds, d, rp.trk.same se, hpm _ _ _ hl hv, h, fun v H3 e3 h3 => kk v H3 (se.trans e3) h3⟩
end
end Fz
/-! can_be, stuck_lot, is_stuck, called by keywords. -/
namespace Fz
open PySem L2 PyProof PyProof.Rows
open PySem.W (Datum DatumOrd Tup T3 dataLe)
open Enc (enc)
section
variable {w : World} {K : PySem.W.Frag} {mg : Str → Option Value} {base : Heap} {C : Addr}
theorem kbn_of {x qual : Str} {params : Arguments} {body : List Stmt} {scope : Scope} {f : Addr} {fd : FuncData} {ps ks : List Str} (F : FunD K x qual params body scope [] [] f fd) (pm : {α : Type} → List α → List α)
    (h : ∀ (kV doc q : Value) (an : Option Addr) (cdv ct : Value) (ws : List Value), ws.length = ks.length → bindArgs (PySem.W.fnOf x qual params body scope .none kV doc q an cdv ct) ⟨[], ks.zip ws⟩ = pure (ps.zip (pm ws)))
    (hrel : ∀ {zs : List V} {ws : List Value}, Vals zs ws → Vals (pm zs) (pm ws)) : KBn K fd ps 0 ks (fun _ ws => pm ws) (fun _ zs => pm zs) := by
  obtain ⟨oc, od, dV, kV, doc, q, an, cdv, ct, osl, rfl, lk, hcd, hD, hK⟩ := F.ex
  rcases hD with ⟨_, rfl⟩ | ⟨e, _⟩
  · refine ⟨fun s us ws X l1 l2 => ?_, fun _ r2 => hrel r2⟩
    have e : us = [] := List.length_eq_zero_iff.mp l1
    subst e
    exact .of_eq (h kV doc q an cdv ct ws l2)
  · exact absurd rfl e
def pId {α : Type} (l : List α) : List α := l
def pSw {α : Type} : List α → List α
  | [a, b] => [b, a]
  | l => l
theorem vals_sw {zs : List V} {ws : List Value} (h : Vals zs ws) : Vals (pSw zs) (pSw ws) := by
  match zs, ws, h with
  | [], _, .nil => exact .nil
  | [_], _, .cons a .nil => exact .cons a .nil
  | [_, _], _, .cons a (.cons b .nil) => exact .cons b (.cons a .nil)
  | _ :: _ :: _ :: _, _, .cons a (.cons b (.cons c d)) => exact .cons a (.cons b (.cons c d))
theorem kb_can (c : TalkK K C) (b : MgB mg) (h : DefAt K mg "can_be" 21) (oF : OkP w K mg base C 1 "floods" gFlo) (oP : Ok w K mg base C 6 "fit_all" ["talk", "floods"] gFit) : OkK w K mg base C 7 "can_be" ["talk"] ["talk"] pId gCan := by
  obtain ⟨f, fd, F, m⟩ := h
  refine ⟨f, fd, fn_data F sc_can (fun ds d ⟨t, e, _⟩ => by rw [e]; rfl) (fun cdv A outer s H E hr ds d hg Fr => ?_), m, F.kp, kbn_of F pId (fun _ _ _ _ _ _ ws hl => match ws, hl with | [_], _ => rfl) (fun h => h), fun H ds vs _ h => h⟩
  obtain ⟨t, rfl, ta, rfl⟩ := hg
  exact b_stop (s_ret (d_fn oP rfl hr (a2 (dv 0) (d_prop c oF rfl (hr.mono (by decide)) (dv 0) ⟨_, _, rfl⟩)) ⟨t, t.flo, rfl, ta.tk, ta.fo, rfl⟩))
theorem kb_lot (c : TalkK K C) (b : MgB mg) (h : DefAt K mg "stuck_lot" 22) (oF : OkP w K mg base C 1 "floods" gFlo) (oP : Ok w K mg base C 5 "peeled" ["talk", "floods"] gPeel) (oN : Ok w K mg base C 1 "names_of" ["floods"] gNames) : OkK w K mg base C 6 "stuck_lot" ["talk"] ["talk"] pId gLot := by
  obtain ⟨f, fd, F, m⟩ := h
  refine ⟨f, fd, fn_data F sc_lot (fun ds d ⟨t, e, _⟩ => by rw [e]; rfl) (fun cdv A outer s H E hr ds d hg Fr => ?_), m, F.kp, kbn_of F pId (fun _ _ _ _ _ _ ws hl => match ws, hl with | [_], _ => rfl) (fun h => h), fun H ds vs _ h => h⟩
  obtain ⟨t, rfl, ta, rfl⟩ := hg
  exact b_stop (s_ret (d_fn oN rfl (hr.mono (by decide)) (a1 (d_ixT (d_fn oP rfl hr (a2 (dv 0) (d_prop c oF rfl (hr.mono (by decide)) (dv 0) ⟨_, _, rfl⟩)) ⟨t, t.flo, rfl, ta.tk, ta.fo, rfl⟩) d_int rfl)) ⟨_, rfl, rfl⟩))
def gStT (ds : List D) (d : D) : Prop := ∃ (t : Tk) (q : List (Str × Flood)), ds = [t.d, .tup (q.map fun p => .str p.1)] ∧ TkOk t ∧ FOk t.isl (q.map (·.2)) ∧ (∀ p ∈ q, Fnd t p.1 p.2) ∧ d = .bl (isStuck t (q.map (·.2)))
theorem kb_stk (b : MgB mg) (h : DefAt K mg "is_stuck" 24) (oL : Ok w K mg base C 4 "lowest_of" ["talk", "floods"] gLow) (oF : Ok w K mg base C 3 "flood_of" ["talk", "name"] gFof) : OkK w K mg base C 5 "is_stuck" ["talk", "names"] ["names", "talk"] pSw gStT := by
  obtain ⟨f, fd, F, m⟩ := h
  refine ⟨f, fd, fn_data F sc_stk (fun ds d ⟨t, x, e, _⟩ => by rw [e] <;> rfl) (fun cdv A outer s H E hr ds d hg Fr => ?_), m, F.kp, kbn_of F pSw (fun _ _ _ _ _ _ ws hl => match ws, hl with | [_, _], _ => rfl) vals_sw, fun H ds vs hl h => ?_⟩
  · obtain ⟨t, q, rfl, tk, fo, hq, rfl⟩ := hg
    unfold isStuck
    rw [← isEmpty_dec, ← List.length_map (f := enc (α := Flood))]
    have e : (q.map (·.2)).map (enc (α := Flood)) = q.map fun p => enc p.2 := List.map_map
    refine b_stop (s_ret (d_cmp o_eqI (d_b c_lenL b.len (by rfl) (a1 (d_fn oL rfl hr (a2 (dv 0) (d_of_f ?_)) ⟨t, q.map (·.2), rfl, tk, fo, rfl⟩))) d_int))
    rw [e]
    exact f_map (own := [("name", 2)]) q (fun p => .str p.1) (fun p => enc p.2) _ rfl sc_stk.nd (blkOk_by (by kernel_rfl)) (i_tup (dv 1)) (fun s H B cl fp a ha => g_name (i := 2) sc_stk.nd) (fun s H B cl fp a ha => d_fn oF rfl (hr.mono (by decide)) (a2 (dv 0) (dv 2)) ⟨t, a.1, a.2, rfl, hq a ha, rfl⟩)
  · match ds, hl with
    | [d1, d2], _ =>
      obtain ⟨v1, v2, rfl, h1, h2⟩ := rp2 h
      exact ⟨v2, [v1], rfl, h2, v1, [], rfl, h1, rfl⟩
end
end Fz
/-! An exception that a call lets out within a list comprehension leaves the comprehension. -/
namespace Fz
open PySem L2 PyProof PyProof.Rows
open PySem.HandSPX (HeldZ FlyingZ TracedZ)
/-- over less ground -/
theorem fun_less {h B B' : Heap} (k : ∀ b o, B'.get? b = some o → B.get? b = some o) : ∀ {l : List Env}, h.FunFrames B l → h.FunFrames B' l
  | [], _ => trivial
  | e :: l, ⟨h1, ⟨L, o, e1, e2, e3, e4⟩, h3⟩ => ⟨h1, ⟨L, o, e1, (by
      cases q : B'.get? L with
      | none => rfl
      | some u => rw [k L u q] at e2; cases e2), e3, e4⟩, fun_less k h3⟩
theorem none_less {B B' : Heap} {a : Addr} (k : ∀ b o, B'.get? b = some o → B.get? b = some o) (h : B.get? a = none) : B'.get? a = none := by
  cases q : B'.get? a with
  | none => rfl
  | some u => rw [k a u q] at h; cases h
theorem held_less {B B' h : Heap} {l : List Env} {e L : Addr} {Z : Obj → Prop} (x : HeldZ B l e Z L h) (k : ∀ b o, B'.get? b = some o → B.get? b = some o) : HeldZ B' l e Z L h := by
  obtain ⟨x1, x2, x3, oe, vs, T, oT, ts, y1, y2, y3, y4, y5, y⟩ := x
  exact ⟨fun b o q => x1 b o (k b o q), none_less k x2, fun_less k x3, oe, vs, T, oT, ts, y1, y2, y3, y4, none_less k y5, y⟩
/-- a dict of names at c changes -/
theorem held_but {B h h' : Heap} {l : List Env} {e L c : Addr} {Z : Obj → Prop} {m : Str → Option Value} (x : HeldZ B l e Z L h) (hB : B.get? c = none) (hn : h.Ns c m) (k : ∀ b, b ≠ c → h'.get? b = h.get? b) (hc : c ∉ frs l) : HeldZ B l e Z L h' := by
  obtain ⟨oc, es, ep, g1, g2, _⟩ := hn
  have nf : ∀ {b : Addr} {o : Obj} {vs : Array Value}, h.get? b = some o → o.data = .fields vs → b ≠ c := fun {b o vs} q1 q2 z => by
    rw [z, g1] at q1
    have q1 := Option.some.inj q1
    subst q1
    rw [g2] at q2
    cases q2
  obtain ⟨x1, x2, x3, oe, vs, T, oT, ts, y1, y2, y3, y4, y5, y6, y7, y8, y9⟩ := x
  refine ⟨fun b o q => (k b fun z => by rw [z, hB] at q; cases q).trans (x1 b o q), x2, ?_, oe, vs, T, oT, ts, (k e (nf y1 y3)).trans y1, y2, y3, y4, y5, y6, (k T (nf y7 y8)).trans y7, y8, y9⟩
  clear x1 x2 y1
  induction l with
  | nil => trivial
  | cons v l ih =>
    obtain ⟨h1, ⟨M, o, e1, e2, e3, e4⟩, h3⟩ := x3
    have cm : c ≠ M := fun z => hc (List.mem_filterMap.mpr ⟨v, List.mem_cons_self, by rw [e1, z]⟩)
    exact ⟨h1, ⟨M, o, e1, e2, (k M (Ne.symm cm)).trans e3, e4⟩, ih (fun z => hc (by
      obtain ⟨u, hu, q⟩ := List.mem_filterMap.mp z
      exact List.mem_filterMap.mpr ⟨u, List.mem_cons_of_mem _ hu, q⟩)) h3⟩
/-- the exception goes on -/
theorem pass_held {M : Model} {A : Around} {E : Value → Shared → Prop} {s : Shared} {B : Heap} {l : List Env} {e L : Addr} {Z : Obj → Prop} {cenv : Env} {what : String} (hf : cenv.frame = some L) (x : HeldZ B l e Z L s.heap)
    (hE : ∀ h', HeldZ B l e Z L h' → s.heap.UpToSlots h' → E (.ref e) { s with heap := h' }) : wpAny M A (PySem.passOn what (.ref e) cenv : Sem Value) (fun _ _ => False) E s := by
  obtain ⟨_, _, _, oe, vs, T, oT, ts, y1, y2, y3, y4, _⟩ := id x
  unfold PySem.passOn
  refine wpAny_bind (wpAny_field y1 y3 y4 ?_)
  rw [if_neg (show ¬ ((Value.ref T == Value.none) = true) from by simp)]
  have fin : wpAny M A (setFlight (.ref e) cenv.frame) (fun _ s4 => wpAny M A (throw (.ref e) : Sem Value) (fun _ _ => False) E s4) E s := by
    rw [hf]
    exact PySem.HandSPX.setFlight_onZ x fun h' hh up => wpAny_throw (hE h' hh up)
  first
    | exact wpAny_bind fin
    | exact wpAny_bind (wpAny_pure (wpAny_bind fin))
section
variable {X : Cx} {pins pins' : List (Addr × Obj)} {σ σ' : L2.St} {H H' : Hp} {s s' s'' : Shared} {scope : Scope} {ce : Env} {fp : List Addr} {W : WX} {Eb : XK} {u : Value}
theorem comp_out (I : Inv X pins σ H s) (hs : X.stack = X.env :: X.outer) (hf : X.env.frame = some X.env.locals) (hcf : ce.frame = X.env.frame) (hcL : ce.locals = s.heap.objs.size) (hfp : ∀ b ∈ fp, FpOk X pins H b) (tk : Takes X W) (hW : ∀ cls d G, Eb cls d G → W cls d σ G)
    (J : Inv (X.blk s H scope ce fp) pins' σ' H' s') (c : CX X.prog X.w X.stack H' s' Eb u s'') : notedBy (model X.prog X.w) X.A ce (CompFails (model X.prog X.w) X.A X.xe ce) u s'' := by
  obtain ⟨a, B, sI, pn, σ2, G, cls, d, rfl, J2, nb, up, sky, na, os, ag, hE⟩ := XE.of_call (X := X.blk s H scope ce fp) (W := fun cls d _ G => Eb cls d G) J (fun cls d G h => h) c
  have fl : FlyingZ B X.stack a (Zc cls d) s''.heap := by
    obtain ⟨a2, B2, H2, cls2, d2, e2, fl2, hok2, ub2, na2, os2, ag2, hE2⟩ := c
    rcases sky with ⟨q1, q2, q3, oe, vs, q4, q5, q6, q7⟩ | q | ⟨q1, q2, q3, q4⟩
    · cases e2
      obtain ⟨_, _, _, oe2, vs2, T, oT, ts, y1, y2, y3, y4, _⟩ := fl2
      rw [q4] at y1
      have y1 := Option.some.inj y1
      subst y1
      rw [q6] at y3
      have y3 := Data.fields.inj y3
      subst y3
      rw [q7] at y4
      cases y4
    · exact q
    · cases e2
      obtain ⟨_, _, _, oe2, vs2, T, oT, ts, y1, y2, y3, y4, _, _, y7, y8, y9⟩ := fl2
      obtain ⟨oe3, vs3, T3, oT3, ts3, z1, z2, z3, z4, _, _, z7, z8, z9⟩ := q4
      rw [z1] at y1
      have y1 := Option.some.inj y1
      subst y1
      rw [z3] at y3
      have y3 := Data.fields.inj y3
      subst y3
      rw [z4] at y4
      have y4 := Value.ref.inj (Option.some.inj y4)
      subst y4
      rw [z7] at y7
      have y7 := Option.some.inj y7
      subst y7
      rw [z8] at y8
      have y8 := Data.fields.inj y8
      subst y8
      rw [z9] at y9
      cases Option.some.inj y9
  have hfr : X.A.frames = some (X.env :: X.outer) := by rw [I.ok.frames, hs]
  rw [hs] at fl
  -- the block's names
  have cL : (X.blk s H scope ce fp).env.locals = ce.locals := rfl
  have nC : G ce.locals = none := J2.free
  have FC : FpOk X pins G ce.locals := I.fpOk (Nat.le_of_eq hcL.symm) nC
  have cfr : ce.locals ∉ frs (X.env :: X.outer) := fun hm => by
    obtain ⟨e, he, q⟩ := List.mem_filterMap.mp hm
    rcases List.mem_cons.mp he with z | z
    · rw [z, hf] at q
      exact FC.2.1 (Option.some.inj q).symm
    · exact FC.2.2.1 (List.mem_filterMap.mpr ⟨e, z, q⟩)
  obtain ⟨mC, hnC, _⟩ := J2.loc
  have hnC : sI.heap.Ns ce.locals mC := hnC
  show wpAny _ _ (noteFrame (.ref a) ce) _ _ _
  rw [noteFrame_env _ hcf]
  refine PySem.HandSPX.looks_onZ Zc.steady hfr hf fl fun h1 hh1 up1 => ?_
  refine ⟨mC, (up.trans up1).ns hnC, fun h2 m2 hn2 sb2 => ?_⟩
  -- the ground without the block's names
  let B' : Heap := PySem.W.hideAll B [ce.locals]
  have bB : ∀ b o, B'.get? b = some o → B.get? b = some o := fun b o q => PySem.W.of_hideAll _ q
  have bN : B'.get? ce.locals = none := PySem.W.hideAll_none _ List.mem_cons_self
  have hh2 : HeldZ B' (X.env :: X.outer) a (Zc cls d) X.env.locals h2 := held_but (held_less hh1 bB) bN ((up.trans up1).ns hnC) (fun b hb => sb2.2 b hb) cfr
  refine pass_held (L := X.env.locals) (hcf.trans hf) hh2 fun h3 hh3 up3 => tk _ _ ?_
  -- back in the def
  have I2 : Inv X pins σ G sI := I.call' (ch := fp) J2.os J2.base J2.hok J2.bare fun b hb => ⟨(hfp b hb).2.2.2.1, (hfp b hb).2.1, (hfp b hb).2.2.2.2.1, (hfp b hb).2.2.2.2.2⟩
  obtain ⟨f0, f1, f2, f3, f4, f5⟩ := FC
  have I3 : Inv X pins σ G { sI with heap := PySem.W.hideAll sI.heap [ce.locals], toks := sI.toks } := I2.turned (fun b o hb q => PySem.W.hideAll_get _ q (fun z => hb (List.mem_singleton.mp z))) f0 f1 f3 f4 f5
  refine ⟨a, B', _, pins, σ, G, cls, d, rfl, I3, fun b o q hb => ?_, fun b o q hnf => ?_, .inr (.inr (by rw [hs]; exact hh3)), na, os, ag, hW _ _ _ hE⟩
  · have q1 : sI.heap.get? b = some o := PySem.W.of_hideAll _ q
    have hbC : b ≠ ce.locals := fun z => by
      have q2 : (PySem.W.hideAll sI.heap [ce.locals]).get? b = none := by rw [z]; exact PySem.W.hideAll_none _ List.mem_cons_self
      have q : (PySem.W.hideAll sI.heap [ce.locals]).get? b = some o := q
      rw [q2] at q
      cases q
    exact PySem.W.hideAll_get _ (nb b o q1 hb) fun z => hbC (List.mem_singleton.mp z)
  · have q0 : (PySem.W.hideAll sI.heap [ce.locals]).get? b = some o := q
    have q1 : sI.heap.get? b = some o := PySem.W.of_hideAll _ q0
    have hbC : b ≠ ce.locals := fun z => by
      have q2 : (PySem.W.hideAll sI.heap [ce.locals]).get? b = none := by rw [z]; exact PySem.W.hideAll_none _ List.mem_cons_self
      rw [q2] at q0
      cases q0
    obtain ⟨sl, q2⟩ := (up.trans up1) b o q1 hnf
    obtain ⟨sl2, q3⟩ := up3 b { o with slots := sl } ((sb2.2 b hbC).trans q2) hnf
    exact ⟨sl2, q3⟩
end
end Fz
/-! [elt for target in iter] where some turn lets an exception out. -/
namespace Fz
open PySem L2 PyProof PyProof.Rows
/-- no turn is the last one: the comprehension never comes to its end -/
def tLcX (wi : TI) (g : TG) (te : XK → TE) (vs : List Nat) (W : WX) : TE := fun σ H _ => wi σ H fun J H1 => ∀ L, H1 L = none → ∃ V : Nat → Nat → Hp → Prop, (∃ m, V 0 m (upd H1 L (.lst []))) ∧ ∀ i m G, V i m G →
  J.go i G ∧ ∃ N : Hp → Prop, (∀ G', N G' → ∃ m', m' < m ∧ V (i + 1) m' G') ∧ ∀ x G', J.yld i G x G' → g x (wipe σ vs) G' fun σ2 G2 => wipe σ2 vs = wipe σ vs ∧ te (fun cls d G => W cls d σ G) σ2 G2 fun y G4 => ∃ acc, G4 L = some (.lst acc) ∧ acc.length < sizeLine ∧ N (upd G4 L (.lst (acc ++ [y])))
section
variable {X : Cx}
theorem pe_lcX {elt tg iter : Expr} {scope : Scope} {own : List (Str × Nat)} {pos : Pos} {wi : TI} {g : TG} {te : XK → TE} {W : WX} (hc : X.calm = true) (hN : X.N.Nodup) (hst : X.stack = X.env :: X.outer) (hf : X.env.frame = some X.env.locals) (tk : Takes X W) (hi : PI X tg iter wi) (ok : BlkOk X.N X.env.scope scope own)
    (hg : ∀ (s : Shared) (H : Hp) (B : Addr) (cl : List (Str × Addr)) (fp : List Addr), PG (X.blk s H scope (compEnvC scope cl B X.env) fp) tg g)
    (he : ∀ (s : Shared) (H : Hp) (B : Addr) (cl : List (Str × Addr)) (fp : List Addr) (pn : List (Addr × Obj)) (xe : Value → Shared → Prop) (E : XK), Passes (L2.CX X.prog X.w) ((X.blk s H scope (compEnvC scope cl B X.env) fp).tr pn xe) E → PE ((X.blk s H scope (compEnvC scope cl B X.env) fp).tr pn xe) elt (te E))
    (hs : ∀ x, foldedSetIterable iter X.env x = pure x := by intro _; rfl) : PE X (.ListComp elt [⟨tg, iter, [], 0⟩] scope pos) (tLcX wi g te (own.map (·.2)) W) := by
  refine ⟨fun pins s σ H Q I hw => ?_⟩
  rw [eval_ListComp]
  have fr : ∀ y ∈ scope.names, y.2 = .free → ∃ c, X.env.cells.lookup y.1 = some c := fun y hy e => (ok.free y hy e).elim (fun k => I.ok.has _ (.inl k)) fun k => I.ok.has _ (.inr k)
  refine comprehension_at (use := none) rfl hs (closure_ok fr) ok.kind (fun y hy e => by rw [ok.uniq y hy, e]) (thn (hi.run pins s σ H _ I hw) fun xv sa hx => thn hx fun itv sb hy => ?_)
  obtain ⟨it, fp, tn, J, Hb, rfl, Ib, T, sb0, fb, q⟩ := hy
  refine wpAny_newObj_type (newEnv_comp ?_) (by show 0 ≤ sizeLine; decide)
  generalize hL : sb.heap.objs.size = L
  have Ln : Hb L = none := Ib.hok.fresh (Nat.le_of_eq hL)
  obtain ⟨V, ⟨m0, v0⟩, turn⟩ := q L Ln
  generalize hsc : ({ sb with heap := sb.heap.push { cls := .type "list", data := .seq ([] : List Value).toArray } } : Shared) = sc
  have Ic : Inv X pins σ (upd Hb L (.lst [])) sc := by
    rw [← hsc]
    refine Ib.laid (t' := sb.toks) (fun b o e => Heap.get?_push_of_some _ e) (Nat.le_of_eq hL) ⟨Nat.zero_le _, [], 0, .nil, ?_⟩
    rw [← hL]
    exact Heap.get?_push_size _ rfl
  have ehc : sc.heap = sb.heap.push { cls := .type "list", data := .seq ([] : List Value).toArray } := by rw [← hsc]
  have fc : ∀ b ∈ fp, FpOk X pins (upd Hb L (.lst [])) b ∧ b < sc.heap.objs.size := fun b hb => by
    obtain ⟨o, eo, _⟩ := T.obj _ _ sb0 b hb
    have lt := Heap.lt_size eo
    refine ⟨⟨?_, (fb b hb).2⟩, by rw [ehc, Heap.size_push]; exact Nat.lt_succ_of_lt lt⟩
    rw [upd_ne (by rw [← hL]; exact Nat.ne_of_lt lt)]
    exact (fb b hb).1
  have sc0 : tn 0 sc.heap := T.keep _ _ _ sb0 fun b _ o e => by rw [ehc]; exact Heap.get?_push_of_some _ e
  have Id := block_start Ic ok hN fc
  have pg := hg sc (upd Hb L (.lst [])) sc.heap.objs.size (cellsFrom (sc.heap.objs.size + 1) scope.names (cloFrom X.env.cells scope.names [])) fp
  have pe := he sc (upd Hb L (.lst [])) sc.heap.objs.size (cellsFrom (sc.heap.objs.size + 1) scope.names (cloFrom X.env.cells scope.names [])) fp
  show codeAny _ _ (.compStart (.ListComp elt [⟨tg, iter, [], 0⟩] scope pos) 0 (.ref it) (.ref L) (compEnvC scope (cellsFrom (sc.heap.objs.size + 1) scope.names (cloFrom X.env.cells scope.names [])) sc.heap.objs.size X.env)) (compEnds (model X.prog X.w) X.A X.xe none (EP X pins σ Q) (.ref L) (compEnvC scope (cellsFrom (sc.heap.objs.size + 1) scope.names (cloFrom X.env.cells scope.names [])) sc.heap.objs.size X.env)) { sc with heap := pushCells (sc.heap.push { cls := .type "dict", data := .dict #[] }) scope.names }
  have nfp : ∀ b ∈ fp, (upd Hb L (.lst [])) b = none := fun b hb => (fc b hb).1.1
  generalize hce : compEnvC scope (cellsFrom (sc.heap.objs.size + 1) scope.names (cloFrom X.env.cells scope.names [])) sc.heap.objs.size X.env = ce at Id pg pe ⊢
  have eL : ce.locals = sc.heap.objs.size := by rw [← hce]; rfl
  have eF : ce.frame = X.env.frame := by rw [← hce]; rfl
  generalize upd Hb L (.lst []) = Hc at Ic Id pg pe v0 nfp fc
  generalize hsd : ({ sc with heap := pushCells (sc.heap.push { cls := .type "dict", data := .dict #[] }) scope.names } : Shared) = sd at Id ⊢
  have sd0 : tn 0 sd.heap := T.keep _ _ _ sc0 fun b _ o e => by rw [← hsd]; exact pushCells_keeps _ _ _ _ (Heap.get?_push_of_some _ e)
  have quiet : ∀ {σ1 : L2.St} {G : Hp} {z : Shared}, Inv (X.blk sc Hc scope ce fp) [] σ1 G z → (∀ b ∈ fp, G b = none) → ∀ b ∈ fp, FpOk (X.blk sc Hc scope ce fp) [] G b := fun {σ1 G z} Iz hn b hb =>
    ⟨hn b hb, (Iz.ok.exf b hb).1, Iz.ok.exfs b hb, .inl hb, fun y c e => (Iz.ok.exf b hb).2 y c e, fun y hy => absurd (show y ∈ ([] : List (Addr × Obj)) ++ [] from hy) (by simp)⟩
  let X1 : Value → Shared → Prop := notedBy (model X.prog X.w) X.A ce (CompFails (model X.prog X.w) X.A X.xe ce)
  have ps : ∀ pn, Passes (L2.CX X.prog X.w) ((X.blk sc Hc scope ce fp).tr pn X1) (fun cls d G => W cls d σ G) := fun pn pz σz Gz z u z' Iz cz => by
    have J1 : Inv (X.blk sc Hc scope ce fp) [] σz Gz z := ⟨Id.ok, Iz.os, Iz.bare, Iz.base, Iz.loc, Iz.cell, Iz.free, Iz.freeC, fun y hy => absurd (show y ∈ ([] : List (Addr × Obj)) ++ [] from hy) (by simp), Iz.hok, Iz.len⟩
    exact comp_out Ic hst hf eF eL (fun b hb => (fc b hb).1) tk (fun cls d G h => h) J1 cz
  have loop : codeAny (model X.prog X.w) X.A (.compLoop (.ListComp elt [⟨tg, iter, [], 0⟩] scope pos) 0 (.ref it) (.ref L) ce) (compEnds (model X.prog X.w) X.A X.xe none (EP X pins σ Q) (.ref L) ce) sd := by
    refine compLoop_any (fun n z => ∃ i G, Inv (X.blk sc Hc scope ce fp) [] (wipe σ (own.map (·.2))) G z ∧ tn i z.heap ∧ (∀ b ∈ fp, G b = none) ∧ V i n G) ?_ m0 ⟨0, Hc, Id, sd0, nfp, v0⟩
    rintro n z5 ⟨i, G5, I5, st5, n5, v5⟩
    obtain ⟨go, N, hNx, step⟩ := turn i n G5 v5
    refine thnF (T.item (X.blk sc Hc scope ce fp) rfl rfl rfl hc i [] z5 _ G5 (fun _ _ => False) I5 (quiet I5 n5) st5 go) fun r z6 ⟨u, er, h6⟩ => ?_
    subst er
    refine thnF h6 fun _ z7 ⟨x, G7, I7, r7, y7, st7, n7⟩ => ?_
    have I7p := I7.pinned (quiet I7 n7) (T.obj _ _ st7)
    refine thnF (pg.run _ z7 _ G7 x u _ I7p r7 (step x G7 y7)) fun _ z8 ⟨σ8, G8, I8, w8, q8⟩ => ?_
    refine wpAny_tests_nil ?_
    rw [if_pos rfl]
    have pr8 := (pe ([] ++ pinsAt fp z7.heap) X1 (fun cls d G => W cls d σ G) (ps _)).run [] z8 σ8 G8 _ (I8.toTry X1) q8
    refine wpAny_mono pr8 (fun v z9 ⟨yv, G9, I9, r9, acc, hL9, hz9, nx⟩ => ?_) (fun _ _ y => y)
    have I9' : Inv (X.blk sc Hc scope ce fp) ([] ++ pinsAt fp z7.heap) σ8 G9 z9 := I9.ofTry (X := X.blk sc Hc scope ce fp) (pins := [] ++ pinsAt fp z7.heap) Id.ok
    refine app_ok (X := X.blk sc Hc scope ce fp) I9' hL9 hz9 r9 fun zA IA => ?_
    obtain ⟨m', hm, v'⟩ := hNx _ nx
    have still : ∀ b ∈ fp, ∀ o, z7.heap.get? b = some o → zA.heap.get? b = some o ∧ (upd G9 L (.lst (acc ++ [yv]))) b = none := fun b hb o e =>
      let y := IA.pin (b, o) (List.mem_append_right _ (List.mem_append_right _ (mem_pinsAt hb e)))
      ⟨y.1, y.2.1⟩
    refine ⟨m', hm, i + 1, _, (IA.unpinned (pins := [])).weak (by rw [← w8, wipe_length]) (fun j v e => ?_), T.keep _ _ _ st7 fun b hb o e => (still b hb o e).1, fun b hb => ?_, v'⟩
    · rw [← w8] at e
      exact (wipe_some e).1
    · obtain ⟨o, e, _⟩ := T.obj _ _ st7 b hb
      exact (still b hb o e).2
  exact codeAny_compStart_list loop (T.self X.A 0 _ _ _ sd0 loop)
end
end Fz
/-! NoFlood(name): made, raised. -/
namespace Fz
open PySem L2 PyProof PyProof.Rows
open PySem.HandSPX (excO)
open PySem.W (findIn typeIn keepIn subIn hasDictIn excInitIn excOver takerIn clsIn InstAt)
/-- the written part of NoFlood, a class at N -/
structure NfAt (K : PySem.W.Frag) (mg : Str → Option Value) (N : Addr) : Prop where
  gN : mg "NoFlood" = some (.ref N)
  mkd : excInitIn K N bmL "LookupError.__new__" = true
  ov : excOver K N bmL = true
  sa : findIn K (.ref N) "__setattr__" = some (some (.builtin "object.__setattr__"))
  ga : findIn K (.ref N) "__getattribute__" = some (some (.builtin "BaseException.__getattribute__"))
  gg : findIn K (.ref N) "__getattr__" = some none
  nn : findIn K (.ref N) "name" = some none
  ke : keepIn K (.ref N) = true
  su : subIn K (.ref N) (.type "BaseException") = some true
  ty : typeIn K (.ref N) = some (.type "type")
  hd : hasDictIn K N = true
  ex : PySem.W.exmOne K (.ref N) (.ref N) = some true
  fn : ∃ f fd, findIn K (.ref N) "__init__" = some (some (.ref f)) ∧ typeIn K (.ref f) = some (.type "function") ∧ FunD K "__init__" "NoFlood.__init__" (defArgs (inClass (top 2) 0)) (defBody (inClass (top 2) 0)) (defScope (inClass (top 2) 0)) [] [] f fd
def mNam (v : Value) : Str → Option Value := fun y => if y = "name" then some v else none
theorem args_one (v : Value) : [v].length ≤ sizeLine := Nat.le_of_ble_eq_true rfl
/-- name, a local of the frame at L -/
theorem rd_loc {M : Model} {s : Shared} {nm : Str} {sc : Scope} {L a : Addr} {cd : Value} {m : Str → Option Value} {x : Str} {p : Pos} {v : Value} {A : Around} {Q : Value → Shared → Prop} {E : Value → Shared → Prop}
    (hn : s.heap.Ns L m) (hv : m x = some v) (hk : sc.kind = .function) (hl : (envOfC nm sc L a cd).kindOf x = some .local) (hd : (x == ("__debug__" : Str)) = false) (h : Q v s) : wpAny M A (eval (.Name x p) (envOfC nm sc L a cd)) Q E s :=
  wpAny_Name (wpAny_loadName_local hk hl hn hv h) hd
/-- self.name = v by an exception without a dict -/
theorem nf_store {P : Program} {w : World} {A : Around} {R : Result → Shared → Prop} {s : Shared} {K : PySem.W.Frag} {mg : Str → Option Value} {N x t0 : Addr} {v : Value} {tk : Tok} (T : NfAt K mg N) (X : K.In s.heap) (hx : s.heap.get? x = some (excO N t0))
    (hq : ∀ h' tk' dx, (∀ b o, b ≠ x → s.heap.get? b = some o → h'.get? b = some o) → s.heap.objs.size ≤ dx → dx ≠ x → h'.get? x = some { cls := .ref N, dict := some dx, data := .fields #[.ref t0, .none, .none, .none, .bool false, .none] } → h'.Ns1 dx (mNam v) →
      R (.ok (.ret .none)) { s with heap := h', toks := tk' }) :
    codeAny (model P w) A (.call (.builtin "object.__setattr__") ⟨[.ref x, .str "name" tk, v], []⟩) R s := by
  obtain ⟨hp, g, d, t, os⟩ := s
  have hx : hp.get? x = some (excO N t0) := hx
  have X : K.In hp := X
  have I : InstAt hp x (excO N t0) N none := ⟨hx, rfl, rfl, trivial⟩
  obtain ⟨cd, hcd, hh⟩ := PySem.W.any_some T.hd
  have hcls : PySem.W.Looks (model P w) hp (classData N) cd := PySem.W.looks_clsIn X hcd
  have hxs : x ≠ hp.objs.size := Nat.ne_of_lt (Heap.lt_size hx)
  refine PySem.W.osa_openX (s := ⟨hp, g, d, t, os⟩) PySem.F.store_LookupError X I T.ov (r := none) (by unfold PySem.W.takerIn; rw [T.nn] <;> rfl) fun b => ?_
  obtain ⟨nm, bs, mro, ns, qn, hd, sn, sb, ab, col, del⟩ := cd
  dsimp only at hh
  subst hh
  show wpAny _ _ (Builtin.ObjectAttr.storeInOwnDict (.ref x) (.ref N) (.str "name" tk) "name" v b) _ _ _
  unfold Builtin.ObjectAttr.storeInOwnDict Builtin.ObjectAttr.ownDictForStores
  repeat (first | with_reducible refine PySem.HandSPX.store_in_new ?_ ?_ | with_reducible refine wpAny_loadPart_at hx ?_ | with_reducible refine hcls.at ?_ | wp_step)
  · exact ⟨_, #[], _, (Heap.get?_update_ne _ _ _ _ hxs.symm).trans (Heap.get?_push_at rfl rfl), rfl, fun e he => absurd he (by simp), fun _ => rfl⟩
  · intro h' tk' hn' hs
    refine hq h' tk' hp.objs.size (fun b o hb ho => ?_) (Nat.le_refl _) hxs.symm ?_ hn'
    · exact (hs.2 b (Nat.ne_of_lt (Heap.lt_size ho))).trans ((Heap.get?_update_ne _ _ _ _ hb).trans (Heap.get?_push_of_some _ ho))
    · exact (hs.2 x hxs).trans (Heap.get?_update_self _ (Heap.get?_push_of_some _ hx) rfl)
/-- what a new NoFlood(v) at e, its dict at d, leaves -/
structure NfNew (h h' : Heap) (N e d : Addr) (v : Value) : Prop where
  old : ∀ b o, h.get? b = some o → h'.get? b = some o
  eBig : h.objs.size ≤ e
  dBig : h.objs.size ≤ d
  de : d ≠ e
  at_ : ∃ t, h'.get? e = some { cls := .ref N, dict := some d, data := .fields #[.ref t, .none, .none, .none, .bool false, .none] }
  ns : h'.Ns1 d (mNam v)
section
variable {P : Program} {w : World} {A : Around} {R : Result → Shared → Prop} {s : Shared} {K : PySem.W.Frag} {mg : Str → Option Value} {N : Addr} {v : Value}
theorem nf_init {f x t0 : Addr} {fd : FuncData} (T : NfAt K mg N) (F : FunD K "__init__" "NoFlood.__init__" (defArgs (inClass (top 2) 0)) (defBody (inClass (top 2) 0)) (defScope (inClass (top 2) 0)) [] [] f fd) (X : K.In s.heap) (hl : s.heap.NoLimit)
    (hx : s.heap.get? x = some (excO N t0)) (hr : A.depth < recursionLimit)
    (hq : ∀ h' tk dx, (∀ b o, b ≠ x → s.heap.get? b = some o → h'.get? b = some o) → s.heap.objs.size ≤ dx → dx ≠ x → h'.get? x = some { cls := .ref N, dict := some dx, data := .fields #[.ref t0, .none, .none, .none, .bool false, .none] } → h'.Ns1 dx (mNam v) → R (.ok (.ret .none)) { s with heap := h', toks := tk }) :
    codeAny (model P w) A (.call (.ref f) ⟨[.ref x, v], []⟩) R s := by
  obtain ⟨oc, od, dV, kV, doc, pm, an, cdv, ct, osl, rfl, lk, hcd, hD, _⟩ := F.ex
  have e0 : dV = .none := by
    rcases hD with ⟨_, z⟩ | ⟨z, _⟩
    · exact z
    · exact absurd rfl z
  subst e0
  refine Att.call_fn (binds := [("self", .ref x), ("name", v)]) X hl lk hcd hr (BindsTo.of_eq (by first | rfl | with_unfolding_all rfl)) (by first | rfl | decide | with_unfolding_all rfl) (fun s1 IC => ?_) rfl rfl rfl
  obtain ⟨h1, tk1, rfl⟩ := IC.toInCall.same
  have k : ∀ b o, s.heap.get? b = some o → h1.get? b = some o := IC.toInCall.keep
  have hn := IC.toInCall.ns
  have lt := hn.lt
  refine wpAny_execs_cons (plainObj_wpAny_Assign_Attribute ?_)
  refine rd_loc (v := v) hn (by first | rfl | with_unfolding_all rfl | kernel_rfl) rfl (by rfl) (by decide) (rd_loc (v := .ref x) hn (by first | rfl | with_unfolding_all rfl | kernel_rfl) rfl (by rfl) (by decide) ?_)
  refine PySem.W.set_plain (X.keeps k) (ox := excO N t0) (od := none) ⟨k _ _ hx, rfl, rfl, trivial⟩ T.sa ?_
  refine nf_store T (X.keeps k) (k _ _ hx) fun h3 tk3 dx k3 dn dne hx3 hn3 => ?_
  exact wpAny_execs_nil (hq h3 tk3 dx (fun b o hb e => k3 b o hb (k b o e)) (Nat.le_trans (Nat.le_of_lt lt) dn) dne hx3 hn3)
theorem nf_made (T : NfAt K mg N) (X : K.In s.heap) (hl : s.heap.NoLimit) (hr : A.depth + 1 < recursionLimit) (hq : ∀ h' tk e d, NfNew s.heap h' N e d v → R (.ok (.ret (.ref e))) { s with heap := h', toks := tk }) :
    codeAny (model P w) A (.call (.ref N) ⟨[v], []⟩) R s := by
  obtain ⟨f, fd, iC, tC, F⟩ := T.fn
  obtain ⟨nm, N', qn, bs, bm, hdct, sn, sub, ab, col, dd, k0, k1, k2, k3, k5, hC, hT⟩ := PySem.W.excInit_of X T.mkd
  obtain ⟨hp, g, dr, tk, os⟩ := s
  have k : ∀ b o, hp.get? b = some o → ((hp.push (PySem.W.kdv_tup [v])).push (excO N hp.objs.size)).get? b = some o := fun b o e => Heap.get?_push_of_some _ (Heap.get?_push_of_some _ e)
  have he : ((hp.push (PySem.W.kdv_tup [v])).push (excO N hp.objs.size)).get? (hp.objs.size + 1) = some (excO N hp.objs.size) := by heap_get
  refine PySem.HandSPX.call_own PySem.F.excBase_LookupError hT hC (PySem.W.looks_findIn X iC) (fun self => PySem.W.bind_fn X self tC) (args_one v) ?_
  refine nf_init (s := ⟨(hp.push (PySem.W.kdv_tup [v])).push (excO N hp.objs.size), g, dr, tk, os⟩) T F (X.keeps k) (hl.keeps k) he hr fun h' tk' dx kp dn dne hx hns => ⟨rfl, hq h' tk' _ dx ⟨fun b o e => ?_, Nat.le_succ _, ?_, dne, ⟨_, hx⟩, hns⟩⟩
  · exact kp b o (Nat.ne_of_lt (Nat.lt_succ_of_lt (Heap.lt_size e))) (k b o e)
  · have z : ((hp.push (PySem.W.kdv_tup [v])).push (excO N hp.objs.size)).objs.size ≤ dx := dn
    rw [Heap.size_push, Heap.size_push] at z
    exact Nat.le_trans (Nat.le_succ _) (Nat.le_of_succ_le z)
end
theorem rel_nam {v : V} {v' : Value} (r : RelV v v') (f : Str) : RelO (List.lookup f [(("name" : Str), v)]) (mNam v' f) := by
  unfold mNam
  by_cases hw : f = "name"
  · subst hw
    have q : List.lookup ("name" : Str) [(("name" : Str), v)] = some v := by simp [List.lookup]
    rw [if_pos rfl, q]
    exact r
  · have qw : (f == ("name" : Str)) = false := by simpa using hw
    have q2 : List.lookup f [(("name" : Str), v)] = none := by simp [List.lookup, qw]
    rw [if_neg hw, q2]
    trivial
section
variable {X : Cx} {N : Addr}
def tMkNf (N : Addr) (ta : TA) : L2.St → Hp → XK → Prop := fun σ H Q => ta σ H fun vs H1 => ∃ v, vs = [v] ∧ ∀ d, H1 d = none → Q (.ref N) (some d) (upd H1 d (.xd [(("name" : Str), v)]))
theorem pmk_nf {a : Expr} {ta : TA} {p pos : Pos} {k : Nat} (T : NfAt X.K X.mg N) (hr : Room k X.A) (ha : PA X [a] ta) (hg : Gl X "NoFlood" := by rfl)
    (he : starEach (a :: []) X.env = (false, eval a X.env) :: starEach [] X.env := by rfl) (hp : (backTo pos (starEach [] X.env)).any (·.1) = false := by rfl) : PMk X (.Call (.Name "NoFlood" p) [a] [] pos) (tMkNf N ta) := by
  intro pins s σ H Q I h
  refine wpAny_Call_Name_kw (ld_glob I hg T.gN ?_)
  refine PySem.W.callWith_K (h₀ := X.base) I.ok.mod.kin T.ke (thn (ha.run pos pins s σ H _ I h) fun us s1 hu => ?_) he hp
  obtain ⟨vs, H1, I1, r1, v, ev, q1⟩ := hu
  subst ev
  refine ⟨I1.kIn, ?_⟩
  match us, r1 with
  | [v'], .cons rv .nil =>
    show wpAny _ _ (call (.ref N) [v']) _ _ _
    have hlim := I1.nolimit
    obtain ⟨hp, g, dr, tk, os⟩ := s1
    refine wpAny_call (nf_made T I1.kIn hlim (by have := hr.dp; omega) fun h' tk' e d M => ?_)
    show MkP X pins σ Q (.ref e) ⟨h', g, dr, tk', os⟩
    obtain ⟨t, hoe⟩ := M.at_
    obtain ⟨G, g1, g2⟩ := restrict h' fun b => decide (b ≠ e)
    have gk : ∀ b, b ≠ e → G.get? b = h'.get? b := fun b hb => g1 b (decide_eq_true hb)
    have ge : G.get? e = none := g2 e (by simp)
    have old : ∀ b o, hp.get? b = some o → G.get? b = some o := fun b o q => (gk b (Nat.ne_of_lt (Nat.lt_of_lt_of_le (Heap.lt_size q) M.eBig))).trans (M.old b o q)
    have ob : ObjOk X.prog X.w (upd H1 d (.xd [(("name" : Str), v)])) G d (.xd [(("name" : Str), v)]) := ⟨_, M.ns.at (fun o q => (gk d M.de).trans q), fun f => rel_nam rv f⟩
    have J : Inv X pins σ (upd H1 d (.xd [(("name" : Str), v)])) ⟨G, g, dr, tk', os⟩ := I1.laid (t' := tk') old M.dBig ob
    refine ⟨e, _, _, ⟨G, g, dr, tk', os⟩, _, .ref N, some d, rfl, J, fun b o q => ?_, ge, hoe, ⟨rfl, rfl⟩, rfl, rfl, ?_, rfl, I1.bare, raises_own T.su T.ty, q1 d (I1.hok.fresh M.dBig)⟩
    · by_cases hb : b = e
      · have q' : G.get? b = some o := q
        rw [hb, ge] at q'
        cases q'
      · exact (gk b hb).symm.trans q
    · rw [upd_ne (Ne.symm M.de)]
      exact I1.hok.fresh M.eBig
end
end Fz
/-! Defs that let NoFlood out: flood_of, is_stuck. -/
namespace Fz
open PySem L2 PyProof PyProof.Rows
open PySem.W (Datum DatumOrd Tup T3)
open Enc (enc)
/-- a NoFlood with its name z, its dict at d -/
def xdN (z : V) : HO := .xd [(("name" : Str), z)]
/-- a def's promise to let NoFlood out -/
def spZ (K : PySem.W.Frag) (C N : Addr) (gx : List D → V → Prop) : Sp := fun vs H _ E => ∃ P ds z, Trk P H ∧ RpL K C (mask P H) ds vs ∧ gx ds z ∧ ∀ H' d, Same H H' → H' d = some (xdN z) → E (.ref N) (some d) H'
def OkZ (w : World) (K : PySem.W.Frag) (mg : Str → Option Value) (base : Heap) (C N : Addr) (k : Nat) (x : Str) (ps : List Str) (gx : List D → V → Prop) : Prop :=
  ∃ f fd, FnOk pr w K mg base (L2.CX pr w) k f fd ps (spZ K C N gx) ∧ mg x = some (.ref f) ∧ PySem.W.keepIn K (.ref f) = true ∧ Binds K fd ps []
/-- what was there, stands -/
def KeptIn (F : Frm) (H' : Hp) : Prop := ∀ a o, F.H0 a = some o → ¬ F.U a → H' a = some o
theorem Rep.kept {K : PySem.W.Frag} {C : Addr} {F : Frm} {P : Addr → Prop} {H H' : Hp} {σ : L2.St} {ρ : List Sl} (r : Rep K C F P H σ ρ) (e : Same H H') : KeptIn F H' := fun a o q n => e a o (r.ex a o q n)
theorem fn_z {w : World} {K : PySem.W.Frag} {mg : Str → Option Value} {base : Heap} {C N : Addr} {x qual : Str} {params : Arguments} {body : List Stmt} {scope : Scope} {dvs : List V} {kws : List (Str × V)} {f : Addr} {fd : FuncData} {Ns ps : List Str} {k : Nat} {gx : List D → V → Prop}
    (Fd : FunD K x qual params body scope dvs kws f fd) (S : FnScope Ns ps scope) (len : ∀ ds z, gx ds z → ds.length = ps.length)
    (hb : ∀ (cdv : Value) (A : Around) (outer : List Env) (s : Shared) (H : Hp) (E : XK), Room k (A.deeper (envOfC qual scope s.heap.objs.size f cdv)) → ∀ ds z, gx ds z → ∀ Fr : Frm, (∀ H' d, KeptIn Fr H' → H' d = some (xdN z) → E (.ref N) (some d) H') →
      PSs (cxOf (L2.CX pr w) pr w K mg base Ns qual scope f cdv A outer s H E) body (tRG K C Fr (ds.map Sl.dat ++ List.replicate (Ns.length - ps.length) Sl.no) fun _ _ => False)) : FnOk pr w K mg base (L2.CX pr w) (k + 1) f fd ps (spZ K C N gx) := by
  refine Fd.ok S (fun vs H Q E ⟨Pm, ds, z, t, h, hg, q⟩ => by rw [h.length]; exact len ds z hg) fun cdv A outer s H vs Q E hr ⟨Pm, ds, z, t, h, hg, q⟩ =>
    ⟨_, hb cdv A outer s H E hr ds z hg ⟨Pm, H, fun _ => False⟩ (fun H' d hk e => q H' d (fun a o e => hk a o e fun z => z) e), Pm, ?_, fun v H' z => z.elim⟩
  have hl := len ds z hg
  rw [← hl]
  exact rep_start t h (by rw [h.length, hl]; exact ps_le S)
section
variable {X : Cx} {C N : Addr} {F : Frm} {ρ : List Sl} {G : VK} {pos p pos2 : Pos} {e : Expr} {es : List Expr} {E : XK} {ds : List D}
/-- raise NoFlood(e) -/
theorem s_raiseN {k : Nat} {x : Str} (hc : X.calm = true) (T : NfAt X.K X.mg N) (hr : Room k X.A) (tk : Takes X (fun cls d _ H => E cls d H)) (hE : ∀ H' d, KeptIn F H' → H' d = some (xdN (.str x)) → E (.ref N) (some d) H') (he : PA X [e] (tA X.K C ρ [.str x])) (hg : Gl X "NoFlood" := by rfl)
    (hs : starEach (e :: []) X.env = (false, eval e X.env) :: starEach [] X.env := by rfl) (hp : (backTo pos (starEach [] X.env)).any (·.1) = false := by rfl) : PS X (.Raise (some (.Call (.Name "NoFlood" p) [e] [] pos)) none pos2) (tRG X.K C F ρ G) :=
  ps_w (ps_raise hc tk (pmk_nf T hr he hg hs hp)) fun D σ H ⟨P, r, k⟩ => ⟨F, P, r, fun vs H2 e2 hv => ⟨.str x, by
    obtain ⟨v, rfl, h1⟩ := rp1 hv
    have h1 : v = V.str x := h1
    rw [h1], fun d hd => hE _ d ((r.same e2).kept (same_upd hd)) upd_same⟩⟩
/-! ### what never comes back -/
def tZ (K : PySem.W.Frag) (C : Addr) (F : Frm) (ρ : List Sl) : TE := fun σ H _ => ∃ P, Rep K C F P H σ ρ
def tAZ (K : PySem.W.Frag) (C : Addr) (F : Frm) (ρ : List Sl) : TA := fun σ H _ => ∃ P, Rep K C F P H σ ρ
theorem za_one (h : PE X e (tZ X.K C F ρ)) (hs : starEach (e :: []) X.env = (false, eval e X.env) :: starEach [] X.env := by rfl) : PA X [e] (tAZ X.K C F ρ) := pa_w (pa_cons h pa_nil hs) fun σ H Q q => q
theorem za_two {i : Nat} {e1 : Expr} {d : D} (h1 : PE X e1 (tVar i)) (hi : ρ[i]? = some (.dat d)) (h : PE X e (tZ X.K C F ρ)) (hs1 : starEach (e1 :: [e]) X.env = (false, eval e1 X.env) :: starEach [e] X.env := by rfl) (hs : starEach (e :: []) X.env = (false, eval e X.env) :: starEach [] X.env := by rfl) : PA X [e1, e] (tAZ X.K C F ρ) :=
  pa_w (pa_cons h1 (pa_cons h pa_nil hs) hs1) fun σ H Q ⟨P, r⟩ => let ⟨v, h1, _⟩ := r.dat i d hi; ⟨v, h1, P, r⟩
theorem z_fn {x : Str} {ps : List Str} {g : List D → D → Prop} {j : Nat} (o : Ok X.w X.K X.mg X.base C j x ps g) (hp : X.prog = pr) (hr : Room j X.A) (ha : PA X (e :: es) (tAZ X.K C F ρ)) (hg : Gl X x := by rfl) (hdb : (x == ("__debug__" : Str)) = false := by decide)
    (he : starEach (e :: es) X.env = (false, eval e X.env) :: starEach es X.env := by rfl) (hpl : (backTo pos (starEach es X.env)).any (·.1) = false := by rfl) : PE X (.Call (.Name x p) (e :: es) [] pos) (tZ X.K C F ρ) := by
  obtain ⟨f, fd, G, m, q, b⟩ := o
  rw [← hp] at G
  exact pe_w (pe_call (E := E0) (dvs := []) G hr hg m q b .nil pass0 ha hdb he hpl) fun σ H Q z => z
theorem z_b {x : Str} {id : String} {r : List V → Hp → VK → Prop} (hc : CallR X (.builtin id) r) (hm : X.mg x = none) (hv : bootBuiltins x = some (.builtin id)) (ha : PA X (e :: es) (tAZ X.K C F ρ)) (hg : Gl X x := by rfl) (hn : x ≠ "__name__" := by decide) (hdb : (x == ("__debug__" : Str)) = false := by decide)
    (he : starEach (e :: es) X.env = (false, eval e X.env) :: starEach es X.env := by rfl) (hpl : (backTo pos (starEach es X.env)).any (·.1) = false := by rfl) : PE X (.Call (.Name x p) (e :: es) [] pos) (tZ X.K C F ρ) := pe_w (pe_callB hc hg hm hv ha hn hdb he hpl) fun σ H Q z => z
theorem z_cmp {op : CmpOp} {e2 : Expr} {r : R2} {t2 : TE} (ho : OpR X (compareOp op) r) (h1 : PE X e (tZ X.K C F ρ)) (h2 : PE X e2 t2) (hm : behindInMarks op e2 = false := by first | exact nobehind _ (by decide) (by decide) | rfl) : PE X (.Compare e [op] [e2] pos) (tZ X.K C F ρ) :=
  pe_w (pe_cmpR ho h1 h2 hm) fun σ H Q z => z
theorem s_retZ (h : PE X e (tZ X.K C F ρ)) : PS X (.Return (some e) pos) (tRG X.K C F ρ G) := ps_w (ps_ret h) fun D σ H ⟨P, r, k⟩ => ⟨P, r⟩
/-- a call that lets NoFlood out -/
def tZc (K : PySem.W.Frag) (C N : Addr) (E : XK) (ρ : List Sl) (z : V) : TE := fun σ H _ => ∃ F P, Rep K C F P H σ ρ ∧ ∀ H' d, Same H H' → H' d = some (xdN z) → E (.ref N) (some d) H'
theorem z_call {x : Str} {ps : List Str} {gx : List D → V → Prop} {j : Nat} {z : V} (o : OkZ X.w X.K X.mg X.base C N j x ps gx) (hp : X.prog = pr) (hr : Room j X.A) (ps' : Passes (L2.CX X.prog X.w) X E) (ha : PA X (e :: es) (tA X.K C ρ ds)) (h : gx ds z) (hg : Gl X x := by rfl) (hdb : (x == ("__debug__" : Str)) = false := by decide)
    (he : starEach (e :: es) X.env = (false, eval e X.env) :: starEach es X.env := by rfl) (hpl : (backTo pos (starEach es X.env)).any (·.1) = false := by rfl) : PE X (.Call (.Name x p) (e :: es) [] pos) (tZc X.K C N E ρ z) := by
  obtain ⟨f, fd, G, m, q, b⟩ := o
  rw [← hp] at G
  exact pe_w (pe_call (E := E) (dvs := []) G hr hg m q b .nil ps' ha hdb he hpl) fun σ H Q ⟨F, P, r, k⟩ => ⟨F, P, r, fun vs H2 e2 hv => by
    show spZ X.K C N gx (vs ++ []) H2 Q E
    rw [List.append_nil]
    exact ⟨P, ds, z, r.trk.same e2, hv, h, fun H' d e3 hd => k H' d (e2.trans e3) hd⟩⟩
theorem pe_or {t1 t2 : TE} (h1 : PE X e t1) (h2 : PE X e t2) : PE X e (fun σ H Q => t1 σ H Q ∨ t2 σ H Q) := ⟨fun pins s σ H Q I q => q.elim (fun q => h1.run pins s σ H Q I q) fun q => h2.run pins s σ H Q I q⟩
end
/-! ### a comprehension that comes upon a flood that is not told -/
theorem lcz_data {K : PySem.W.Frag} {C N : Addr} {ρ : List Sl} {ρ1 : D → List Sl} {vs : List Nat} {ι : Type} {ls : List ι} {en ev : ι → D} {dx : D} {rest : List D} {W : WX} {z : V} {σ : L2.St} {H : Hp} {Q : VK} {F : Frm} {P : Addr → Prop} (r : Rep K C F P H σ ρ)
    (hW : ∀ H' d, Same H H' → H' d = some (xdN z) → W (.ref N) (some d) σ H') :
    tLcX (tI K C ρ (ls.map en ++ dx :: rest)) (fun v σ H Q => ∃ d, d ∈ ls.map en ++ dx :: rest ∧ tG K C vs (wipeR ρ vs) d (ρ1 d) v σ H Q)
      (fun E σ H Q => (∃ p, p ∈ ls ∧ tD K C (ρ1 (en p)) (ev p) σ H Q) ∨ tZc K C N E (ρ1 dx) z σ H Q) vs W σ H Q := by
  refine ⟨F, P, r, fun J H1 e1 wk L hL => ?_⟩
  have hl : (ls.map en ++ dx :: rest).length = ls.length + (rest.length + 1) := by rw [List.length_append, List.length_map, List.length_cons]
  have hz := wk.size
  rw [hl] at hz
  have r1 := r.same e1
  refine ⟨fun i m G => i + m = ls.length ∧ Same H1 G ∧ ∃ acc, G L = some (.lst acc) ∧ acc.length = i, ⟨ls.length, Nat.zero_add _, same_upd hL, [], upd_same, rfl⟩, fun i m G ⟨him, sG, acc, hacc, hla⟩ => ?_⟩
  have sm : Same (mask P H1) G := mask_le.trans sG
  have hi : i < (ls.map en ++ dx :: rest).length := by rw [hl]; omega
  refine ⟨wk.goes i G hi sm, fun G' => ∃ m', m' < m ∧ (i + 1) + m' = ls.length ∧ Same H1 G' ∧ ∃ acc, G' L = some (.lst acc) ∧ acc.length = i + 1, fun G' ⟨m', h1, h2⟩ => ⟨m', h1, h2⟩, fun x G' y => ?_⟩
  obtain ⟨sy, d, hd, hr⟩ := wk.yields i G x G' hi sm y
  have rG := r1.same sG
  have rG' := (rG.same sy).wipe vs
  refine ⟨d, List.mem_of_getElem? hd, F, P, rG', hr P rG.trk (mask_same sG), fun σ2 r2 ew => ⟨ew.trans (wipe_wipe vs), ?_⟩⟩
  by_cases c : i < ls.length
  · rw [List.getElem?_append_left (by rw [List.length_map]; exact c), List.getElem?_map] at hd
    cases q : ls[i]? with
    | none => rw [q] at hd; cases hd
    | some p =>
      rw [q] at hd
      obtain rfl : en p = d := Option.some.inj hd
      refine .inl ⟨p, List.mem_of_getElem? q, F, P, r2, fun v H2 e2 hv => ⟨acc, e2 _ _ (sy _ _ hacc), by omega, m - 1, by omega, by omega, fun b o qb => ?_, acc ++ [v], upd_same, by rw [List.length_append, hla]; rfl⟩⟩
      rw [upd_ne (ne_of_none qb hL)]
      exact e2 _ _ (sy _ _ (sG b o qb))
  · have hil : i = ls.length := by omega
    rw [List.getElem?_append_right (by rw [List.length_map]; omega), List.length_map, hil, Nat.sub_self] at hd
    obtain rfl : dx = d := Option.some.inj hd
    exact .inr ⟨F, P, r2, fun H' d' e' hd' => hW H' d' (((e1.trans sG).trans sy).trans e') hd'⟩
section
variable {X : Cx} {C N : Addr} {F : Frm} {ρ : List Sl} {pos : Pos}
theorem z_lc {ι : Type} {elt tg iter : Expr} {scope : Scope} {own : List (Str × Nat)} {ls : List ι} {en ev : ι → D} {dx : D} {rest : List D} {z : V} {E : XK} (ρ1 : D → List Sl) (hc : X.calm = true) (hN : X.N.Nodup) (hst : X.stack = X.env :: X.outer) (hf : X.env.frame = some X.env.locals) (tk : Takes X (fun cls d _ H => E cls d H)) (hE : ∀ H' d, KeptIn F H' → H' d = some (xdN z) → E (.ref N) (some d) H')
    (ok : BlkOk X.N X.env.scope scope own) (hi : PI X tg iter (tI X.K C ρ (ls.map en ++ dx :: rest)))
    (hg : ∀ (s : Shared) (H : Hp) (B : Addr) (cl : List (Str × Addr)) (fp : List Addr) (d : D), PG (X.blk s H scope (compEnvC scope cl B X.env) fp) tg (tG X.K C (own.map (·.2)) (wipeR ρ (own.map (·.2))) d (ρ1 d)))
    (he : ∀ (s : Shared) (H : Hp) (B : Addr) (cl : List (Str × Addr)) (fp : List Addr) (pn : List (Addr × Obj)) (xe : Value → Shared → Prop) (p : ι), p ∈ ls → PE ((X.blk s H scope (compEnvC scope cl B X.env) fp).tr pn xe) elt (tD X.K C (ρ1 (en p)) (ev p)))
    (hx : ∀ (s : Shared) (H : Hp) (B : Addr) (cl : List (Str × Addr)) (fp : List Addr) (pn : List (Addr × Obj)) (xe : Value → Shared → Prop) (E : XK), Passes (L2.CX X.prog X.w) ((X.blk s H scope (compEnvC scope cl B X.env) fp).tr pn xe) E → PE ((X.blk s H scope (compEnvC scope cl B X.env) fp).tr pn xe) elt (tZc X.K C N E (ρ1 dx) z))
    (hs : ∀ x, foldedSetIterable iter X.env x = pure x := by intro _; rfl) : PE X (.ListComp elt [⟨tg, iter, [], 0⟩] scope pos) (tZ X.K C F ρ) :=
  pe_w (pe_lcX (te := fun E σ H Q => (∃ p, p ∈ ls ∧ tD X.K C (ρ1 (en p)) (ev p) σ H Q) ∨ tZc X.K C N E (ρ1 dx) z σ H Q) hc hN hst hf tk hi ok (fun s H B cl fp => pg_fam (fun d _ => hg s H B cl fp d)) (fun s H B cl fp pn xe E h => pe_or (pe_famP (fun p hp => he s H B cl fp pn xe p hp)) (hx s H B cl fp pn xe E h)) hs)
    fun σ H Q ⟨P, r⟩ => lcz_data r fun H' d e hd => hE H' d (r.kept e) hd
end
end Fz
namespace Fz
open PySem L2 PyProof PyProof.Rows
open PySem.W (Datum DatumOrd Tup T3)
open Enc (enc)
section
variable {w : World} {K : PySem.W.Frag} {mg : Str → Option Value} {base : Heap} {C N : Addr}
/-- no flood has the name -/
def Nof (t : Tk) (x : Str) : Prop := t.flo.filter (fun f => decide (f.a = x)) = []
def gFoz (ds : List D) (z : V) : Prop := ∃ (t : Tk) (x : Str), ds = [t.d, .str x] ∧ Nof t x ∧ z = .str x
theorem ok_foz (T : NfAt K mg N) (c : TalkK K C) (b : MgB mg) (h : DefAt K mg "flood_of" 23) (oF : OkP w K mg base C 1 "floods" gFlo) : OkZ w K mg base C N 3 "flood_of" ["talk", "name"] gFoz := by
  obtain ⟨f, fd, F, m⟩ := h
  refine ⟨f, fd, fn_z F sc_fof (fun ds z ⟨t, x, e, _⟩ => by rw [e]; rfl) (fun cdv A outer s H E hr ds z hg Fr hE => ?_), m, F.kp, F.bindsN fun _ _ _ _ _ _ us hl => match us, hl with | [_, _], _ => rfl⟩
  obtain ⟨t, x, rfl, hf, rfl⟩ := hg
  refine b_step (s_lc (i := 2) (own := [("flood", 3)]) t.flo enc enc (fun f => decide (f.a = x)) _ rfl sc_fof.nd (blkOk_by (by kernel_rfl)) (i_tup (d_prop c oF rfl hr (dv 0) ⟨_, _, rfl⟩)) (fun s H B cl fp a ha => g_name (i := 3) sc_fof.nd)
      (fun s' H B cl fp a ha => ts_one (t_cmp o_eqS (d_ixT (dv 3) d_int rfl) (dv 1))) (fun s H B cl fp a ha => dv 3)) (b_fz (l := (t.flo.filter fun f => decide (f.a = x)).map enc) 2 rfl ?_)
  rw [hf]
  refine b_stop (s_ifT_R (pt_eq ?_ (t_cmp o_eqI (d_b c_lenL b.len (by rfl) (a1 (dv 2))) d_int)) (b_stop (s_raiseN rfl T hr (takes_of rfl rfl rfl rfl) hE (a1 (dv 1)))))
  exact decide_eq_true rfl
/-- is_stuck, a name not told -/
def gStz (ds : List D) (z : V) : Prop := ∃ (t : Tk) (q : List (Str × Flood)) (x : Str) (rest : List D), ds = [t.d, .tup (q.map (fun p => .str p.1) ++ .str x :: rest)] ∧ (∀ p ∈ q, Fnd t p.1 p.2) ∧ Nof t x ∧ z = .str x
theorem ok_stz (b : MgB mg) (h : DefAt K mg "is_stuck" 24) (oL : Ok w K mg base C 4 "lowest_of" ["talk", "floods"] gLow) (oF : Ok w K mg base C 3 "flood_of" ["talk", "name"] gFof) (oZ : OkZ w K mg base C N 3 "flood_of" ["talk", "name"] gFoz) : OkZ w K mg base C N 5 "is_stuck" ["talk", "names"] gStz := by
  obtain ⟨f, fd, F, m⟩ := h
  refine ⟨f, fd, fn_z F sc_stk (fun ds z ⟨t, q, x, rest, e, _⟩ => by rw [e]; rfl) (fun cdv A outer s H E hr ds z hg Fr hE => ?_), m, F.kp, F.bindsN fun _ _ _ _ _ _ us hl => match us, hl with | [_, _], _ => rfl⟩
  obtain ⟨t, q, x, rest, rfl, hq, hx, rfl⟩ := hg
  refine b_stop (s_retZ (z_cmp (r := rD K C (.int 0) (.int 0) (.bl (decide ((0 : Int) = 0)))) o_eqI (z_b (call_len_seq) b.len (by rfl) (za_one (z_fn oL rfl hr (za_two (pv 0) rfl ?_)))) pe_int))
  exact z_lc (own := [("name", 2)]) (ls := q) (en := fun p => .str p.1) (ev := fun p => enc p.2) (dx := .str x) (rest := rest) (z := .str x) (E := E) _ rfl sc_stk.nd rfl rfl (takes_of rfl rfl rfl rfl) hE (blkOk_by (by kernel_rfl)) (i_tup (dv 1)) (fun s H B cl fp d => g_name (i := 2) sc_stk.nd)
    (fun s H B cl fp pn xe p hp => d_fn oF rfl (hr.mono (by decide)) (a2 (dv 0) (dv 2)) ⟨t, p.1, p.2, rfl, hq p hp, rfl⟩)
    (fun s H B cl fp pn xe E h => z_call oZ rfl (hr.mono (by decide)) h (a2 (dv 0) (dv 2)) ⟨t, x, rfl, hx, rfl⟩)
end
end Fz
/-! try: .. except x as n: .., where the exception that was caught outlives the clause; its field read. -/
namespace Fz
open PySem L2 PyProof PyProof.Rows
open PySem.HandSPX (HeldZ FlyingZ TracedZ)
/-- an exception object of the class cls with its dict d -/
def exH (cls : Value) (d : Option Addr) : Addr → HO := fun a => .ext fun h => ∃ (o : Obj) (vs : Array Value), h.get? a = some o ∧ Zc cls d o ∧ o.data = .fields vs
theorem exH_ok {P : Program} {w : World} {H : Hp} {h : Heap} {a : Addr} {cls : Value} {d : Option Addr} {o : Obj} {vs : Array Value} (e : h.get? a = some o) (z : Zc cls d o) (q : o.data = .fields vs) : ObjOk P w H h a (exH cls d a) :=
  ⟨⟨o, vs, e, z, q⟩, ⟨o, e⟩, fun _ _ ⟨o, v, q, r⟩ k => ⟨o, v, k o q, r⟩⟩
section
variable {X : Cx} {pins : List (Addr × Obj)} {σ : L2.St} {H : Hp} {s : Shared}
/-- a pinned exception is tracked from here on -/
theorem inv_track {a : Addr} {cls : Value} {d : Option Addr} {o : Obj} {vs : Array Value} (I : Inv X ((a, o) :: pins) σ H s) (z : Zc cls d o) (q : o.data = .fields vs) (n0 : X.s_0.heap.get? a = none) (hp : ∀ p ∈ X.pn ++ pins, p.1 ≠ a) : Inv X pins σ (upd H a (exH cls d a)) s := by
  obtain ⟨ha, na, nL, nF, nc⟩ := I.pin (a, o) (List.mem_append_right _ List.mem_cons_self)
  have up : ∀ {b : Addr} {u : HO}, H b = some u → upd H a (exH cls d a) b = some u := fun {b u} e => (upd_ne fun y => by rw [y, na] at e; cases e).trans e
  refine ⟨I.ok, I.os, I.bare, ⟨I.base.keep, I.base.slot, fun b u e n hx => ?_, I.base.there, fun b xs e => up (I.base.tups b xs e), fun b u x e => up (I.base.frzs b u x e), fun b ps e => ?_⟩, I.loc, I.cell, (upd_ne (Ne.symm nL)).trans I.free, fun y c e => ?_, fun p h => ?_, I.hok.laidN (fun _ _ q => q) na (exH_ok ha z q), I.len⟩
  · rw [upd_ne fun y => by rw [y, n0] at e; cases e]
    exact I.base.free b u e n hx
  · obtain ⟨more, e1⟩ := I.base.tbls b ps e
    exact ⟨more, up e1⟩
  · refine (upd_ne fun y' => ?_).trans (I.freeC y c e)
    obtain ⟨v, oc, h1, h2⟩ := I.cell y c e
    rw [y', ha] at h1
    have h1 := Option.some.inj h1
    subst h1
    exact nc _ h2
  · have hm : p ∈ X.pn ++ ((a, o) :: pins) := by
      rcases List.mem_append.mp h with h1 | h1
      · exact List.mem_append_left _ h1
      · exact List.mem_append_right _ (List.mem_cons_of_mem _ h1)
    obtain ⟨p1, p2, p3⟩ := I.pin p hm
    exact ⟨p1, (upd_ne (hp p h)).trans p2, p3⟩
end
/-- what the clause wishes of the exception; behind it the object is still known -/
def wHeld (K : PySem.W.Frag) (c : Value) (i : Nat) (ts : Addr → Value → Option Addr → TS) (D : Ends) : WX := fun cls d σ H => PySem.W.exmOne K cls c = some true ∧
  ∀ a, H a = none → ts a cls d { nx := fun σ' H' => H' a = none → D.nx (σ'.set i none) (upd H' a (exH cls d a)), rt := fun _ _ => False, bk := fun _ _ => False, ct := fun _ _ => False } (σ.set i (some (.ref a))) H
section
variable {X : Cx} {x n : Str} {c : Value} {i : Nat} {body suite : List Stmt} {b0 : Stmt} {np pos pos' : Pos} {tb : WX → TS} {ts : Addr → Value → Option Addr → TS}
theorem ps_held (hs : X.stack = X.env :: X.outer) (hf : X.env.frame = some X.env.locals) (hex : X.ex = []) (hN : X.N.Nodup) (hi : X.N[i]? = some n) (hln : X.env.kindOf n = some .local) (hc : Names X x c)
    (hb : ∀ (W : WX) (pn : List (Addr × Obj)) (xe : Value → Shared → Prop), Takes (X.tr pn xe) W → PSs (X.tr pn xe) body (tb W))
    (hsu : ∀ (a : Addr) (o : Obj) (cls : Value) (d : Option Addr) (pn : List (Addr × Obj)), Zc cls d o → (∃ vs, o.data = .fields vs) → PSs (X.suite a ((a, o) :: pn)) (b0 :: suite) (ts a cls d)) :
    PS X (.Try body [.ExceptHandler (some (.Name x np)) (some n) (b0 :: suite) pos'] [] [] pos) (fun D σ H => tb (wHeld X.K c i ts D) D σ H) := by
  refine ⟨fun pins s σ H D I h => ?_⟩
  have ok := I.ok
  have hfr : X.A.frames = some (X.env :: X.outer) := by rw [ok.frames, hs]
  refine wpAny_Try_except ?_
  let M := model X.prog X.w
  let Xc : Value → Shared → Prop := fun e s1 => wpAny M X.A (noteFrame e X.env) (fun _ s2 => wpAny M X.A (setFlight e none) (fun _ s3 => wpAny M X.A (handleBy e X.env [.ExceptHandler (some (.Name x np)) (some n) (b0 :: suite) pos']) (SP X pins D) X.xe s3) X.xe s2) X.xe s1
  have tkc : Takes (X.tr (X.pn ++ pins) Xc) (wHeld X.K c i ts D) := fun u s' xx => by
    obtain ⟨a, B, sI, pins', σ', H', cls, d, rfl, J', nb, up, sky, na, os, ag, hyes, hts⟩ := xx
    have J : Inv X pins σ' H' sI := J'.ofTry ok
    have sky' : Sky B (X.env :: X.outer) a (Zc cls d) X.env.locals s'.heap := by rw [← hs]; exact sky
    show wpAny M X.A (noteFrame (.ref a) X.env) _ _ _
    refine Sky.land Zc.steady hfr hf sky' fun h3 fl3 up3 => ?_
    have J3 : Inv X pins σ' H' { s' with heap := h3 } := J.landed nb fl3.1 (up.trans up3) os ag
    obtain ⟨o3, vs3, he3, hz3, hd3⟩ := fl3.there
    have nfr : a ∉ frs (X.env :: X.outer) := fun hm => by
      obtain ⟨_, o', e', hnf⟩ := fl3.2.2.1.mem hm
      rw [he3] at e'
      cases e'
      exact hnf _ hd3
    have nL : a ≠ X.env.locals := fun z => nfr (List.mem_filterMap.mpr ⟨X.env, List.mem_cons_self, by rw [hf, z]⟩)
    have nF : a ∉ X.fs := fun hm => by
      obtain ⟨e, he, q⟩ := List.mem_filterMap.mp hm
      exact nfr (List.mem_filterMap.mpr ⟨e, List.mem_cons_of_mem _ he, q⟩)
    -- the object is new
    have nI : sI.heap.get? a = none := by
      cases q : sI.heap.get? a with
      | none => rfl
      | some u =>
        have z := nb a u q (by show a ∉ frs X.stack; rw [hs]; exact nfr)
        rw [fl3.2.1] at z
        cases z
    have n0 : X.s_0.heap.get? a = none := by
      cases q : X.s_0.heap.get? a with
      | none => rfl
      | some u =>
        obtain ⟨u', z⟩ := J.base.there a u q (by rw [hex]; exact fun z => nomatch z)
        rw [nI] at z
        cases z
    have npn : ∀ p ∈ X.pn ++ pins, p.1 ≠ a := fun p hp z => by
      have q := (J.pin p hp).1
      rw [z, nI] at q
      cases q
    have S3 := J3.suite he3 hd3 na nL nF
    refine wpAny_handleBy_cons (codeAny_handlers_test ?_) (by intro q; cases q)
    have LT : PySem.W.Looks M h3 (typeOf (.ref a)) cls := fun A Q E s k q => wpAny_typeOf_ref (k _ _ he3) (by rw [hz3.1]; exact q)
    have LM := PySem.W.exm_one (M := M) (J3.kIn) LT hyes
    have test : ∀ {Q : Value → Shared → Prop} {E : Value → Shared → Prop}, Q c { s' with heap := h3 } → wpAny M (X.A.mark (some (.ref a))) (eval (.Name x np) X.env) Q E { s' with heap := h3 } := fun {Q E} q => by
      obtain ⟨hg, hdbg, hm | ⟨hm, hv, hnn⟩⟩ := hc
      · exact ld_glob (X := X.suite a ((a, o3) :: (X.pn ++ pins))) S3 hg hm q hdbg
      · exact ld_blt (X := X.suite a ((a, o3) :: (X.pn ++ pins))) S3 hg hm hv q hnn hdbg
    refine test (LM.here ?_)
    refine codeAny_handlers_suite_as ?_
    refine HandSPX.lands_againZ fl3 fun h4 fl4 up4 => ?_
    have J4 : Inv X pins σ' H' { s' with heap := h4 } := J.landed nb fl4.1 ((up.trans up3).trans up4) os ag
    obtain ⟨o4, vs4, he4, hz4, hd4⟩ := fl4.there
    have S4 := J4.suite he4 hd4 na nL nF
    refine store_ok (X := X.suite a ((a, o4) :: (X.pn ++ pins))) (v := .ref a) S4 hN hi (.inl hln) rfl (fun s5 S5 => ?_) (.inr hln)
    refine wpAny_mono ((hsu a o4 cls d (X.pn ++ pins) hz4 ⟨_, hd4⟩).run [] s5 _ H' _ S5 (hts a na)) (fun f s6 hsp => ?_) (fun _ _ z => False.elim z)
    cases f with
    | next =>
      obtain ⟨σ6, H6, S6, q6⟩ := hsp
      have I6 : Inv X ((a, o4) :: pins) σ6 H6 s6 := ⟨ok, S6.os, S6.bare, S6.base, S6.loc, S6.cell, S6.free, S6.freeC, fun p hp => S6.pin p (List.mem_append_left _ (by
        rcases List.mem_append.mp hp with h1 | h1
        · exact List.mem_cons_of_mem _ (List.mem_append_left _ h1)
        · rcases List.mem_cons.mp h1 with h2 | h2
          · rw [h2]; exact List.mem_cons_self
          · exact List.mem_cons_of_mem _ (List.mem_append_right _ h2))), S6.hok, S6.len⟩
      have na6 : H6 a = none := (I6.pin (a, o4) (List.mem_append_right _ List.mem_cons_self)).2.1
      refine gone_ok (Q := fun _ s7 => SP X pins D .next s7) I6 hN hi hln fun s7 J7 => ⟨_, _, inv_track J7 hz4 hd4 n0 npn, q6 na6⟩
    | brk =>
      obtain ⟨σ6, H6, S6, q6⟩ := hsp
      exact q6.elim
    | cont =>
      obtain ⟨σ6, H6, S6, q6⟩ := hsp
      exact q6.elim
    | ret u =>
      obtain ⟨v6, σ6, H6, S6, r6, q6⟩ := hsp
      exact q6.elim
  refine wpAny_mono ((hb (wHeld X.K c i ts D) (X.pn ++ pins) Xc tkc).run [] s σ H D (I.toTry _) h) (fun f s1 hsp => ?_) (fun e s1 he => he)
  cases f with
  | next =>
    obtain ⟨σ', H', J', q⟩ := hsp
    exact wpAny_execs_nil ⟨σ', H', J'.ofTry ok, q⟩
  | brk =>
    obtain ⟨σ', H', J', q⟩ := hsp
    exact ⟨σ', H', J'.ofTry ok, q⟩
  | cont =>
    obtain ⟨σ', H', J', q⟩ := hsp
    exact ⟨σ', H', J'.ofTry ok, q⟩
  | ret u =>
    obtain ⟨v, σ', H', J', r, q⟩ := hsp
    exact ⟨v, σ', H', J'.ofTry ok, r, q⟩
end
section
variable {X : Cx} {N : Addr}
/-- e.name, e a tracked NoFlood -/
def tNm (N : Addr) (te : TE) : TE := fun σ H Q => te σ H fun x H1 => ∃ (a d : Addr) (z : V), x = .ref a ∧ H1 a = some (exH (.ref N) (some d) a) ∧ H1 d = some (xdN z) ∧ Q z H1
theorem pe_nm {mg : Str → Option Value} {e : Expr} {te : TE} {pos : Pos} (T : NfAt X.K mg N) (he : PE X e te) (hb : attributeBase e "name" X.env (eval e X.env) = eval e X.env := by rfl) : PE X (.Attribute e "name" pos) (tNm N te) := by
  refine ⟨fun pins s σ H Q I h => ?_⟩
  refine attr_of hb (thn (he.run pins s σ H _ I h) fun u s1 hh => ?_)
  obtain ⟨x, H1, I1, rx, a, dd, z, ex, e1, e2, q⟩ := hh
  subst ex
  obtain rfl : u = Value.ref a := rx
  have h1 : ObjOk X.prog X.w H1 s1.heap a (exH (.ref N) (some dd) a) := I1.hok a _ e1
  obtain ⟨⟨o, vs, ha, hz, hd⟩, _, _⟩ := h1
  have hx : ObjOk X.prog X.w H1 s1.heap dd (xdN z) := I1.hok dd _ e2
  obtain ⟨mA, hns, hr⟩ := hx
  obtain ⟨od, ho, hl⟩ := lookIn_ns hns
  have l : List.lookup ("name" : Str) [(("name" : Str), z)] = some z := by simp [List.lookup]
  obtain ⟨u, hu, ru⟩ := RelO.some_of (v := z) (o := mA "name") (by rw [← l]; exact hr "name")
  have J : PySem.W.InstAt s1.heap a o N (some od) := ⟨ha, hz.1, by unfold PySem.W.notCls; rw [hd] <;> rfl, by rw [hz.2]; exact ho⟩
  exact HandSPX.exc_get I1.kIn J T.ga T.gg T.su (PySem.W.findObj_own T.hd T.nn rfl (by rw [hl, hu])) (handed_of ru) ⟨z, H1, I1.tok _, ru, q⟩
end
end Fz
/-! _law_heard. -/
namespace Fz
open PySem L2 PyProof PyProof.Rows
open PySem.W (Datum DatumOrd Tup T3)
open Enc (enc)
section
variable {X : Cx} {C N : Addr} {ρ : List Sl} {pos p : Pos} {e : Expr} {es : List Expr} {ds : List D}
/-- a call that lets NoFlood out, caught here -/
def tZw (K : PySem.W.Frag) (C N : Addr) (W : WX) (ρ : List Sl) (z : V) : TE := fun σ H _ => ∃ F P, Rep K C F P H σ ρ ∧ ∀ H' d, Same H H' → H' d = some (xdN z) → W (.ref N) (some d) σ H'
theorem z_callW {W : WX} {x : Str} {ps : List Str} {gx : List D → V → Prop} {j : Nat} {z : V} (o : OkZ X.w X.K X.mg X.base C N j x ps gx) (hp : X.prog = pr) (hr : Room j X.A) (tk : Takes X W) (ha : PA X (e :: es) (tA X.K C ρ ds)) (h : gx ds z) (hg : Gl X x := by rfl) (hdb : (x == ("__debug__" : Str)) = false := by decide)
    (he : starEach (e :: es) X.env = (false, eval e X.env) :: starEach es X.env := by rfl) (hpl : (backTo pos (starEach es X.env)).any (·.1) = false := by rfl) : PE X (.Call (.Name x p) (e :: es) [] pos) (tZw X.K C N W ρ z) := by
  obtain ⟨f, fd, G, m, q, b⟩ := o
  rw [← hp] at G
  exact pe_w (pe_callS (E := WE W) G hr hg m q b (fun σ => passAt tk σ) ha hdb he hpl) fun σ H Q ⟨F, P, r, k⟩ => ⟨F, P, r, fun vs H2 e2 hv => ⟨P, ds, z, r.trk.same e2, hv, h, fun H' d e3 hd => k H' d (e2.trans e3) hd⟩⟩
end
theorem four_of {α : Type} {l : List α} (h : l.length = 4) : ∃ a b c d, l = [a, b, c, d] := match l, h with | [a, b, c, d], _ => ⟨a, b, c, d, rfl⟩
section
variable {w : World} {K : PySem.W.Frag} {mg : Str → Option Value} {base : Heap} {C N : Addr}
def gHrd (ds : List D) (d : D) : Prop := ∃ (t : Tk) (q : List (Str × Flood)) (x : Str) (rest : List D), ds = [t.d, .tup (q.map (fun p => .str p.1) ++ .str x :: rest)] ∧ (∀ p ∈ q, Fnd t p.1 p.2) ∧ Nof t x ∧ d = .str x
def nHrd : List Str := ["_law_host", "_law_names_so", "_law_caught", "error"]
theorem sc_hrd : FnScope nHrd ["_law_host", "_law_names_so"] (defScope (top 81)) := ⟨rfl, rfl, rfl, by decide +kernel, rfl, by decide +kernel, by decide +kernel⟩
theorem ok_hrd (T : NfAt K mg N) (h : DefAt K mg "_law_heard" 81) (oZ : OkZ w K mg base C N 5 "is_stuck" ["talk", "names"] gStz) : Ok w K mg base C 6 "_law_heard" ["_law_host", "_law_names_so"] gHrd := by
  obtain ⟨f, fd, F, m⟩ := h
  refine ⟨f, fd, fn_data F sc_hrd (fun ds d ⟨t, q, x, rest, e, _⟩ => by rw [e]; rfl) (fun cdv A outer s H E hr ds d hg Fr => ?_), m, F.kp, F.bindsN fun _ _ _ _ _ _ us hl => match us, hl with | [_, _], _ => rfl⟩
  obtain ⟨t, q, x, rest, rfl, hq, hx, rfl⟩ := hg
  refine b_step (s_set (i := 2) sc_hrd.nd (k_d d_non)) ?_
  refine pss_w (pss_cons (ps_held (i := 3) (tb := fun W => tDrop (tZw K C N W ([t.d, .tup (q.map (fun p => .str p.1) ++ .str x :: rest), .non].map Sl.dat ++ [.no]) (.str x))) (ts := fun _ _ _ => tAsg (tVar 3) (gName 2)) rfl rfl rfl sc_hrd.nd rfl rfl ⟨rfl, by decide, .inl T.gN⟩
      (fun W pn xe tk => pss_one (ps_expr (z_callW oZ rfl hr tk (a2 (dv 0) (dv 1)) ⟨t, q, x, rest, rfl, hq, hx, rfl⟩)))
      (fun a o cls d pn hz hf => pss_one (ps_set (i := 2) sc_hrd.nd rfl (.inl rfl) (pv 3))))
    (pss_one (ps_ret (pe_ifExp (pt_cmpR op_notN (pv 2) pe_non (nomark _)) (pe_nm T (pv 2)) pe_non)))) fun D σ H ⟨P, r, k⟩ => ?_
  obtain ⟨s0, s1, s2, s3, rfl⟩ := four_of r.len.symm
  refine ⟨Fr, P, r, fun H' d e hd => ⟨T.ex, fun a ha => ⟨.ref a, rfl, fun ha' => ⟨_, rfl, rfl, true, rfl, iteT ⟨_, rfl, a, d, .str x, rfl, upd_same, ?_, k _ _ ⟨fun b o q n => ?_, rfl⟩⟩⟩⟩⟩⟩
  · rw [upd_ne fun z => by rw [z, ha] at hd; cases hd]
    exact hd
  · have z := e b o (r.ex b o q n)
    rw [upd_ne (ne_of_none z ha)]
    exact z
end
end Fz
/-! What the law's written texts answer. -/
namespace Fz
open PySem L2
open PySem.W (Datum DatumOrd Tup T3 dataLe)
open Enc (enc)
theorem is_z {z : Str} (h : okT z = true) : TkIs (tkOf z) := by
  unfold okT at h
  obtain ⟨_, h⟩ := and4 h
  obtain ⟨_, h⟩ := and4 h
  obtain ⟨_, h⟩ := and4 h
  obtain ⟨_, h⟩ := and4 h
  obtain ⟨_, h⟩ := and4 h
  obtain ⟨_, h⟩ := and4 h
  obtain ⟨_, h⟩ := and4 h
  obtain ⟨_, h⟩ := and4 h
  exact okTk_is (and4 h).2
def flN (t : Tk) (i : Nat) : Flood := t.flo.getD i ⟨"", ⟨[]⟩, ⟨[]⟩⟩
theorem can_t {t : Tk} {v : Bool} (T : TkIs t) (h : canBe t = v) : gCan [t.d] (.bl v) := ⟨t, rfl, T.all, by rw [h]⟩
theorem lot_t {t : Tk} {l : List Str} (T : TkIs t) (h : stuckLot t = l) : gLot [t.d] (.tup (l.map D.str)) := ⟨t, rfl, T.all, by rw [h]; rfl⟩
/-- the floods of names: told, few -/
def chkQ (t : Tk) (q : List (Str × Flood)) : Bool := q.all (fun p => decide ((t.flo.filter fun f => decide (f.a = p.1)).head? = some p.2)) && (fitL (wet (q.map (·.2))).length && fitL (q.map (·.2)).length)
theorem fnd_q {t : Tk} {x : Str} {f : Flood} (h : (t.flo.filter fun f => decide (f.a = x)).head? = some f) : Fnd t x f := by
  unfold Fnd
  cases q : t.flo.filter (fun f => decide (f.a = x)) with
  | nil => rw [q] at h; cases h
  | cons a r =>
    rw [q] at h
    exact ⟨r, by rw [Option.some.inj h]⟩
theorem fit_k {n : Nat} (h : fitL n = true) : n ≤ 1000 := by
  have h := of_decide_eq_true h
  omega
theorem chk_q {t : Tk} {q : List (Str × Flood)} (T : TkIs t) (h : chkQ t q = true) : (∀ p ∈ q, Fnd t p.1 p.2) ∧ FOk t.isl (q.map (·.2)) := by
  unfold chkQ at h
  obtain ⟨h1, h⟩ := and4 h
  obtain ⟨h2, h3⟩ := and4 h
  have k : ∀ p ∈ q, Fnd t p.1 p.2 := fun p hp => fnd_q (of_decide_eq_true (List.all_eq_true.mp h1 p hp))
  have m : ∀ f ∈ q.map (·.2), f ∈ t.flo := fun f hf => by
    obtain ⟨p, hp, rfl⟩ := List.mem_map.mp hf
    obtain ⟨r, e⟩ := k p hp
    exact (List.mem_filter.mp (by rw [e]; exact List.mem_cons_self)).1
  exact ⟨k, fun f hf => T.all.fo.b f (m f hf), fun f hf => T.all.fo.c f (m f hf), fit_k h2, fit_k h3⟩
theorem stk_t {t : Tk} {q : List (Str × Flood)} {v : Bool} (T : TkIs t) (h : chkQ t q = true) (e : isStuck t (q.map (·.2)) = v) : gStk [t.d, .tup (q.map fun p => .str p.1)] (.bl v) := ⟨t, q, .inl rfl, T.all.tk, (chk_q T h).2, (chk_q T h).1, by rw [e]⟩
theorem stk_l {t : Tk} {q : List (Str × Flood)} {v : Bool} (T : TkIs t) (h : chkQ t q = true) (e : isStuck t (q.map (·.2)) = v) : gStk [t.d, .lst (q.map fun p => .str p.1)] (.bl v) := ⟨t, q, .inr rfl, T.all.tk, (chk_q T h).2, (chk_q T h).1, by rw [e]⟩
theorem stk_k {t : Tk} {q : List (Str × Flood)} {v : Bool} (T : TkIs t) (h : chkQ t q = true) (e : isStuck t (q.map (·.2)) = v) : gStT [t.d, .tup (q.map fun p => .str p.1)] (.bl v) := ⟨t, q, rfl, T.all.tk, (chk_q T h).2, (chk_q T h).1, by rw [e]⟩
/-! ### sets of names -/
abbrev tJ : Tk := tkOf z_jam
abbrev tWd : Tk := tkOf z_wide
abbrev tR0 : Tk := tkOf z_ring
def q_pq : List (Str × Flood) := [("p", flN tJ 0), ("q", flN tJ 1)]
def q_r : List (Str × Flood) := [("r", flN tJ 2)]
def q_pr : List (Str × Flood) := [("p", flN tJ 0), ("r", flN tJ 2)]
def q_pqr : List (Str × Flood) := [("p", flN tJ 0), ("q", flN tJ 1), ("r", flN tJ 2)]
def q_z : List (Str × Flood) := [("z", flN tWd 2)]
def q_ab : List (Str × Flood) := [("p", flN tR0 0), ("q", flN tR0 1)]
def q_abc : List (Str × Flood) := [("p", flN tR0 0), ("q", flN tR0 1), ("r", flN tR0 2)]
def q_s : List (Str × Flood) := [("s", flN tR0 3)]
theorem c_pq : chkQ tJ q_pq = true := by decide +kernel
theorem c_r : chkQ tJ q_r = true := by decide +kernel
theorem c_pr : chkQ tJ q_pr = true := by decide +kernel
theorem c_pqr : chkQ tJ q_pqr = true := by decide +kernel
theorem c_z : chkQ tWd q_z = true := by decide +kernel
theorem c_ab : chkQ tR0 q_ab = true := by decide +kernel
theorem c_abc : chkQ tR0 q_abc = true := by decide +kernel
theorem c_s : chkQ tR0 q_s = true := by decide +kernel
theorem s_pq : isStuck tJ (q_pq.map (·.2)) = true := by decide +kernel
theorem s_r : isStuck tJ (q_r.map (·.2)) = false := by decide +kernel
theorem s_pr : isStuck tJ (q_pr.map (·.2)) = false := by decide +kernel
theorem s_pqr : isStuck tJ (q_pqr.map (·.2)) = false := by decide +kernel
theorem s_z : isStuck tWd (q_z.map (·.2)) = false := by decide +kernel
theorem s_ab : isStuck tR0 (q_ab.map (·.2)) = false := by decide +kernel
theorem s_abc : isStuck tR0 (q_abc.map (·.2)) = true := by decide +kernel
theorem s_s : isStuck tR0 (q_s.map (·.2)) = false := by decide +kernel
/-! ### one flood less, one more -/
def tLess : Tk := ⟨tJ.isl, tJ.rul, tJ.flo.filter fun g => decide (g ≠ flN tJ 1)⟩
def fZz : Flood := ⟨"zz", ⟨[("b", "c")]⟩, ⟨[("a", "b")]⟩⟩
def tMore : Tk := ⟨tWd.isl, tWd.rul, tWd.flo ++ [fZz]⟩
theorem is_jam : TkIs tJ := is_z ok_z_jam
theorem is_wide : TkIs tWd := is_z ok_z_wide
theorem is_ring : TkIs tR0 := is_z ok_z_ring
theorem is_less : TkIs tLess := okTk_is (by decide +kernel)
theorem is_more : TkIs tMore := okTk_is (by decide +kernel)
theorem can_less : canBe tLess = true := by decide +kernel
theorem lot_less : stuckLot tLess = ([] : List Str) := lot_is (by decide +kernel) (by decide +kernel)
theorem can_more : canBe tMore = false := by decide +kernel
theorem lot_more : stuckLot tMore = (["y", "z", "zz"] : List Str) := lot_is (by decide +kernel) (by decide +kernel)
theorem can_t0 : canBe t0 = true := by decide +kernel
theorem lot_t0 : stuckLot t0 = ([] : List Str) := lot_is (by decide +kernel) (by decide +kernel)
def chkAt (t : Tk) (x : Str) (j : Nat) (f : Flood) : Bool := decide (t.flo[j]? = some f) && (decide (f.a = x) && (t.flo.take j).all fun g => decide (g.a ≠ x))
theorem at_of {t : Tk} {x : Str} {j : Nat} {f : Flood} (h : chkAt t x j f = true) : AtN t x j f := by
  unfold chkAt at h
  obtain ⟨h1, h⟩ := and4 h
  obtain ⟨h2, h3⟩ := and4 h
  refine ⟨of_decide_eq_true h1, of_decide_eq_true h2, fun i hi g hg => of_decide_eq_true (List.all_eq_true.mp h3 g ?_)⟩
  have e : (t.flo.take j)[i]? = some g := by
    rw [List.getElem?_take]
    rw [if_pos hi]
    exact hg
  exact List.mem_of_getElem? e
theorem wo_jam : gWo [tJ.d, .str "q"] tLess.d := ⟨tJ, tLess, "q", 1, flN tJ 1, rfl, at_of (by decide +kernel), is_jam, is_less, rfl, rfl, rfl, rfl⟩
theorem wf_wide : gWf [tWd.d, enc fZz] tMore.d := ⟨tWd, tMore, fZz, rfl, is_wide, is_more, rfl, rfl, asc_self is_more.af, is_more.talk, rfl⟩
/-- names not told -/
theorem hrd_ps : gHrd [tJ.d, .tup [.str "p", .str "s"]] (.str "s") := ⟨tJ, [("p", flN tJ 0)], "s", [], rfl, (chk_q is_jam (q := [("p", flN tJ 0)]) (by decide +kernel)).1, by unfold Nof; decide +kernel, rfl⟩
theorem hrd_st : gHrd [tJ.d, .tup [.str "s", .str "t"]] (.str "s") := ⟨tJ, [], "s", [.str "t"], rfl, fun p hp => (nomatch hp), by unfold Nof; decide +kernel, rfl⟩
end Fz
/-! _law_more_right, _law_by_hand_right. -/
namespace Fz
open PySem L2
open PySem.W (Datum DatumOrd Tup T3 dataLe)
open Enc (enc)
/-- what the two call -/
structure HIn (w : World) (K : PySem.W.Frag) (mg : Str → Option Value) (base : Heap) (C : Addr) : Prop where
  tof : OkT w K mg base C 8 "of" ["text"] gTof
  can : Ok w K mg base C 7 "can_be" ["talk"] gCan
  canK : OkK w K mg base C 7 "can_be" ["talk"] ["talk"] pId gCan
  lot : Ok w K mg base C 6 "stuck_lot" ["talk"] gLot
  lotK : OkK w K mg base C 6 "stuck_lot" ["talk"] ["talk"] pId gLot
  stk : Ok w K mg base C 5 "is_stuck" ["talk", "names"] gStk
  stkK : OkK w K mg base C 5 "is_stuck" ["talk", "names"] ["names", "talk"] pSw gStT
  hrd : Ok w K mg base C 6 "_law_heard" ["_law_host", "_law_names_so"] gHrd
  same : Ok w K mg base C 3 "_law_same" pSm (gSm 2)
  ini : OkI w K mg base C 6 gIni
  wo : Ok w K mg base C 8 "without_flood" ["talk", "name"] gWo
  wf : Ok w K mg base C 8 "with_flood" ["talk", "flood"] gWf
section
variable {w : World} {K : PySem.W.Frag} {mg : Str → Option Value} {base : Heap} {C : Addr}
abbrev bT : D := .bl true
abbrev bF : D := .bl false
def m1 : List D := [.tup [.str "p", .str "q", .str "r"], bF, bT, bF, bF]
def m2 : List D := [bT, .tup [], bF, .tup [.str "y", .str "z", .str "zz"], bF, bT]
theorem sm_m : okSm 2 (.lst (m1 ++ m2)) = true := by decide +kernel
def gMor (ds : List D) (d : D) : Prop := ds = [tWd.d, tJ.d] ∧ d = bT
def nMor : List Str := ["_law_wide", "_law_jam", "_law_ring", "_law_got", "_law_due", "_law_less", "_law_more"]
theorem sc_mor : FnScope nMor ["_law_wide", "_law_jam"] (defScope (top 83)) := ⟨rfl, rfl, rfl, by decide +kernel, rfl, by decide +kernel, by decide +kernel⟩
theorem ok_mor (o : HIn w K mg base C) (h : DefAt K mg "_law_more_right" 83) : Ok w K mg base C 9 "_law_more_right" ["_law_wide", "_law_jam"] gMor := by
  obtain ⟨f, fd, F, m⟩ := h
  refine ⟨f, fd, fn_data F sc_mor (fun ds d ⟨e, _⟩ => by rw [e]; rfl) (fun cdv A outer s H E hr ds d hg Fr => ?_), m, F.kp, F.bindsN fun _ _ _ _ _ _ us hl => match us, hl with | [_, _], _ => rfl⟩
  obtain ⟨rfl, rfl⟩ := hg
  have hr7 := hr.mono (show 7 ≤ 8 by decide)
  have hr6 := hr.mono (show 6 ≤ 8 by decide)
  have hr5 := hr.mono (show 5 ≤ 8 by decide)
  have hr3 := hr.mono (show 3 ≤ 8 by decide)
  refine b_step (s_set (i := 2) (k := .dat tR0.d) sc_mor.nd (k_d (d_stat o.tof rfl hr (a1 d_str) ⟨z_ring, rfl, ok_z_ring, rfl⟩))) ?_
  refine b_step (s_set (i := 3) (k := .dat (.lst m1)) sc_mor.nd (k_d (d_lst (ds := m1) (a_cons (d_fn o.lot rfl hr6 (a1 (dv 2)) (lot_t is_ring lot_ring)) (a_cons (d_fn o.stk rfl hr5 (a2 (dv 2) (d_tup (a2 d_str d_str))) (stk_t is_ring c_ab s_ab))
    (a3 (d_fn o.stk rfl hr5 (a2 (dv 2) (d_tup (a3 d_str d_str d_str))) (stk_t is_ring c_abc s_abc)) (d_fn o.can rfl hr7 (a1 (dv 2)) (can_t is_ring can_ring)) (d_fn o.stk rfl hr5 (a2 (dv 2) (d_tup (a1 d_str))) (stk_t is_ring c_s s_s)))))))) ?_
  refine b_step (s_set (i := 4) (k := .dat (.lst m1)) sc_mor.nd (k_d (d_lst (ds := m1) (a_cons (d_tup (a3 d_str d_str d_str)) (a_cons d_bl (a3 d_bl d_bl d_bl)))))) ?_
  refine b_step (s_par (k1 := .dat tLess.d) (k2 := .dat tMore.d) (i := 5) (j := 6) rfl sc_mor.nd (k_d (d_fn o.wo rfl hr (a2 (dv 1) d_str) wo_jam))
    (k_d (d_fn o.wf rfl hr (a2 (dv 0) (d_tup (a3 d_str (d_tup (a1 (d_tup (a2 d_str d_str)))) (d_tup (a1 (d_tup (a2 d_str d_str))))))) wf_wide))) ?_
  refine b_step (s_set (i := 3) (k := .dat (.lst (m1 ++ m2))) sc_mor.nd (k_d (d_bin (o_addL (l := m1) (m := m2) (Nat.le_of_ble_eq_true rfl)) (dv 3) (d_lst (ds := m2) (a_cons (d_fn o.can rfl hr7 (a1 (dv 5)) (can_t is_less can_less)) (a_cons (d_fn o.lot rfl hr6 (a1 (dv 5)) (lot_t is_less lot_less))
    (a_cons (d_fn o.can rfl hr7 (a1 (dv 6)) (can_t is_more can_more)) (a3 (d_fn o.lot rfl hr6 (a1 (dv 6)) (lot_t is_more lot_more)) (d_fn o.can rfl hr7 (a1 (dv 1)) (can_t is_jam can_jam)) (d_fn o.can rfl hr7 (a1 (dv 0)) (can_t is_wide can_wide)))))))))) ?_
  refine b_stop (s_ret (d_fn o.same rfl hr3 (a2 (dv 3) (d_bin (o_addL (l := m1) (m := m2) (Nat.le_of_ble_eq_true rfl)) (dv 4) (d_lst (ds := m2) (a_cons d_bl (a_cons (d_tup a_nil) (a_cons d_bl (a3 (d_tup (a3 d_str d_str d_str)) d_bl d_bl))))))) ⟨_, rfl, sm_m, rfl⟩))
end
end Fz
/-! _law_by_hand_right. -/
namespace Fz
open PySem L2
open PySem.W (Datum DatumOrd Tup T3 dataLe)
open Enc (enc)
def h1 : List D := [bT, bF, bT, .tup [], .tup [.str "p", .str "q"], .tup [], bT]
def h2 : List D := [bT, bF, bF, bF]
def h3 : List D := [bF, .tup [], .str "s", .str "s"]
def h4 : List D := [bF, bF, bF, bT, bF, bT]
def h5 : List D := [.tup [.str "w"], .tup [.str "w"], .tup [.str "hi", .str "lo"], .tup [], .tup [.str "h"], .tup []]
def h6 : List D := [bF, bT, bF, bF, bT]
def gB2 : List D := h1 ++ h2
def gB3 : List D := gB2 ++ h3
def gB5 : List D := gB3 ++ (h4 ++ h5)
def gB6 : List D := gB5 ++ h6
theorem sm_h : okSm 2 (.lst gB6) = true := by decide +kernel
def zA : List Str := [z_r1, z_r2, z_r3]
def zB : List Str := [z_r4, z_r5, z_r6]
def zC : List Str := [z_r1, z_r2, z_r3, z_r4, z_r5, z_r6]
def zD : List Str := [z_s1, z_s2, z_s3, z_s4, z_s5]
def zL : Str := "a b c d e f g h; b-c>a-b; c-d>b-c; d-e>c-d; e-f>d-e; f-g>e-f; g-h>f-g; x: g-h / "
theorem zL4 : zL ++ "a-b" = z_s4 := by decide +kernel
theorem zL5 : zL ++ "-" = z_s5 := by decide +kernel
theorem ok_C : ∀ z ∈ zC, okT z = true := List.all_eq_true.mp (by
  show (okT z_r1 && (okT z_r2 && (okT z_r3 && (okT z_r4 && (okT z_r5 && (okT z_r6 && true)))))) = true
  rw [ok_z_r1, ok_z_r2, ok_z_r3, ok_z_r4, ok_z_r5, ok_z_r6]
  rfl)
theorem ok_D : ∀ z ∈ zD, okT z = true := List.all_eq_true.mp (by
  show (okT z_s1 && (okT z_s2 && (okT z_s3 && (okT z_s4 && (okT z_s5 && true))))) = true
  rw [ok_z_s1, ok_z_s2, ok_z_s3, ok_z_s4, ok_z_s5]
  rfl)
def cZ (z : Str) : D := .bl (canBe (tkOf z))
def lZ (z : Str) : D := .tup ((stuckLot (tkOf z)).map D.str)
theorem can_C : zC.map cZ = h4 := by
  show [D.bl (canBe (tkOf z_r1)), D.bl (canBe (tkOf z_r2)), D.bl (canBe (tkOf z_r3)), D.bl (canBe (tkOf z_r4)), D.bl (canBe (tkOf z_r5)), D.bl (canBe (tkOf z_r6))] = h4
  rw [can_r1, can_r2, can_r3, can_r4, can_r5, can_r6]
  rfl
theorem lot_C : zC.map lZ = h5 := by
  show [D.tup ((stuckLot (tkOf z_r1)).map D.str), D.tup ((stuckLot (tkOf z_r2)).map D.str), D.tup ((stuckLot (tkOf z_r3)).map D.str), D.tup ((stuckLot (tkOf z_r4)).map D.str), D.tup ((stuckLot (tkOf z_r5)).map D.str), D.tup ((stuckLot (tkOf z_r6)).map D.str)] = h5
  rw [lot_r1, lot_r2, lot_r3, lot_r4, lot_r5, lot_r6]
  rfl
theorem can_D : zD.map cZ = h6 := by
  show [D.bl (canBe (tkOf z_s1)), D.bl (canBe (tkOf z_s2)), D.bl (canBe (tkOf z_s3)), D.bl (canBe (tkOf z_s4)), D.bl (canBe (tkOf z_s5))] = h6
  rw [can_s1, can_s2, can_s3, can_s4, can_s5]
  rfl
theorem eq_D : ([D.str z_s1, D.str z_s2] ++ [D.str z_s3]) ++ [D.str (zL ++ "a-b"), D.str (zL ++ "-")] = zD.map D.str := by
  rw [zL4, zL5]
  rfl
section
variable {w : World} {K : PySem.W.Frag} {mg : Str → Option Value} {base : Heap} {C : Addr}
def nHan : List Str := ["_law_wide", "_law_jam", "_law_year", "_law_got", "_law_due", "_law_rows_so", "_law_long_so", "_law_own"]
theorem sc_han : FnScope nHan [] (defScope (top 82)) := ⟨rfl, rfl, rfl, by decide +kernel, rfl, by decide +kernel, by decide +kernel⟩
theorem is_year : TkIs (tkOf z_year) := is_z ok_z_year
theorem ok_han (b : MgB mg) (o : HIn w K mg base C) (oM : Ok w K mg base C 9 "_law_more_right" ["_law_wide", "_law_jam"] gMor) (h : DefAt K mg "_law_by_hand_right" 82) : Ok w K mg base C 10 "_law_by_hand_right" [] gHand := by
  obtain ⟨f, fd, F, m⟩ := h
  refine ⟨f, fd, fn_data F sc_han (fun ds d ⟨e, _⟩ => by rw [e]; rfl) (fun cdv A outer s H E hr ds d hg Fr => ?_), m, F.kp, F.bindsN fun _ _ _ _ _ _ us hl => match us, hl with | [], _ => rfl⟩
  obtain ⟨rfl, rfl⟩ := hg
  have hr8 := hr.mono (show 8 ≤ 9 by decide)
  have hr7 := hr.mono (show 7 ≤ 9 by decide)
  have hr6 := hr.mono (show 6 ≤ 9 by decide)
  have hr5 := hr.mono (show 5 ≤ 9 by decide)
  have hr3 := hr.mono (show 3 ≤ 9 by decide)
  refine b_step (s_set (i := 0) (k := .dat tWd.d) sc_han.nd (k_d (d_stat o.tof rfl hr8 (a1 d_str) ⟨z_wide, rfl, ok_z_wide, rfl⟩))) ?_
  refine b_step (s_set (i := 1) (k := .dat tJ.d) sc_han.nd (k_d (d_stat o.tof rfl hr8 (a1 d_str) ⟨z_jam, rfl, ok_z_jam, rfl⟩))) ?_
  refine b_step (s_set (i := 2) (k := .dat (tkOf z_year).d) sc_han.nd (k_d (d_stat o.tof rfl hr8 (a1 d_str) ⟨z_year, rfl, ok_z_year, rfl⟩))) ?_
  refine b_step (s_set (i := 3) (k := .dat (.lst h1)) sc_han.nd (k_d (d_lst (ds := h1) (a_cons (d_fn o.can rfl hr7 (a1 (dv 0)) (can_t is_wide can_wide)) (a_cons (d_fn o.can rfl hr7 (a1 (dv 1)) (can_t is_jam can_jam)) (a_cons (d_fn o.can rfl hr7 (a1 (dv 2)) (can_t is_year can_year))
    (a_cons (d_fn o.lot rfl hr6 (a1 (dv 0)) (lot_t is_wide lot_wide)) (a3 (d_fn o.lot rfl hr6 (a1 (dv 1)) (lot_t is_jam lot_jam)) (d_fn o.lot rfl hr6 (a1 (dv 2)) (lot_t is_year lot_year)) (d_kw o.canK rfl hr7 (k_cons (d_make0 o.ini rfl hr7) k_nil) rfl (can_t t0_is can_t0)))))))))) ?_
  refine b_step (s_set (i := 4) (k := .dat (.lst h1)) sc_han.nd (k_d (d_lst (ds := h1) (a_cons d_bl (a_cons d_bl (a_cons d_bl (a_cons (d_tup a_nil) (a3 (d_tup (a2 d_str d_str)) (d_tup a_nil) d_bl)))))))) ?_
  refine b_step (s_set (i := 3) (k := .dat (.lst gB2)) sc_han.nd (k_d (d_bin (o_addL (l := h1) (m := h2) (Nat.le_of_ble_eq_true rfl)) (dv 3) (d_lst (ds := h2) (a_cons (d_fn o.stk rfl hr5 (a2 (dv 1) (d_tup (a2 d_str d_str))) (stk_t is_jam c_pq s_pq))
    (a3 (d_fn o.stk rfl hr5 (a2 (dv 1) (d_lst (a1 d_str))) (stk_l is_jam c_r s_r)) (d_fn o.stk rfl hr5 (a2 (dv 1) (d_tup (a2 d_str d_str))) (stk_t is_jam c_pr s_pr)) (d_fn o.stk rfl hr5 (a2 (dv 1) (d_tup (a3 d_str d_str d_str))) (stk_t is_jam c_pqr s_pqr)))))))) ?_
  refine b_step (s_set (i := 4) (k := .dat (.lst gB2)) sc_han.nd (k_d (d_bin (o_addL (l := h1) (m := h2) (Nat.le_of_ble_eq_true rfl)) (dv 4) (d_lst (ds := h2) (a_cons d_bl (a3 d_bl d_bl d_bl)))))) ?_
  refine b_step (s_set (i := 3) (k := .dat (.lst gB3)) sc_han.nd (k_d (d_bin (o_addL (l := gB2) (m := h3) (Nat.le_of_ble_eq_true rfl)) (dv 3) (d_lst (ds := h3) (a_cons (d_kw o.stkK rfl hr5 (k_cons (d_tup (a1 d_str)) (k_cons (dv 0) k_nil)) rfl (stk_k is_wide c_z s_z))
    (a3 (d_kw o.lotK rfl hr6 (k_cons (d_make0 o.ini rfl hr7) k_nil) rfl (lot_t t0_is lot_t0)) (d_fn o.hrd rfl hr6 (a2 (dv 1) (d_tup (a2 d_str d_str))) hrd_ps) (d_fn o.hrd rfl hr6 (a2 (dv 1) (d_tup (a2 d_str d_str))) hrd_st))))))) ?_
  refine b_step (s_set (i := 4) (k := .dat (.lst gB3)) sc_han.nd (k_d (d_bin (o_addL (l := gB2) (m := h3) (Nat.le_of_ble_eq_true rfl)) (dv 4) (d_lst (ds := h3) (a_cons d_bl (a3 (d_tup a_nil) d_str d_str)))))) ?_
  refine b_step (s_set (i := 5) (k := .dat (.lst (zA.map D.str))) sc_han.nd (k_d (d_lst (ds := zA.map D.str) (a3 d_str d_str d_str)))) ?_
  refine b_step (s_set (i := 5) (k := .dat (.lst (zC.map D.str))) sc_han.nd (k_d (d_bin (o_addL (l := zA.map D.str) (m := zB.map D.str) (Nat.le_of_ble_eq_true rfl)) (dv 5) (d_lst (ds := zB.map D.str) (a3 d_str d_str d_str))))) ?_
  refine b_step (s_set (i := 3) (k := .dat (.lst gB5)) sc_han.nd (k_d (d_cast (d := .lst ((gB3 ++ h4) ++ h5)) rfl (d_bin (o_addL (l := gB3 ++ h4) (m := h5) (Nat.le_of_ble_eq_true rfl)) (d_bin (o_addL (l := gB3) (m := h4) (Nat.le_of_ble_eq_true rfl)) (dv 3)
    (d_cast (congrArg D.lst can_C) (d_of_f (f_map (own := [("_law_own", 7)]) zC D.str cZ _ rfl sc_han.nd (blkOk_by (by kernel_rfl)) (i_list (dv 5)) (fun s H B cl fp a ha => g_name (i := 7) sc_han.nd)
      (fun s H B cl fp a ha => d_fn o.can rfl hr7 (a1 (d_stat o.tof rfl hr8 (a1 (dv 7)) ⟨a, rfl, ok_C a ha, rfl⟩)) (can_t (is_z (ok_C a ha)) rfl))))))
    (d_cast (congrArg D.lst lot_C) (d_of_f (f_map (own := [("_law_own", 7)]) zC D.str lZ _ rfl sc_han.nd (blkOk_by (by kernel_rfl)) (i_list (dv 5)) (fun s H B cl fp a ha => g_name (i := 7) sc_han.nd)
      (fun s H B cl fp a ha => d_fn o.lot rfl hr6 (a1 (d_stat o.tof rfl hr8 (a1 (dv 7)) ⟨a, rfl, ok_C a ha, rfl⟩)) (lot_t (is_z (ok_C a ha)) rfl))))))))) ?_
  refine b_step (s_set (i := 4) (k := .dat (.lst gB5)) sc_han.nd (k_d (d_bin (o_addL (l := gB3) (m := h4 ++ h5) (Nat.le_of_ble_eq_true rfl)) (dv 4) (d_lst (ds := h4 ++ h5) (a_cons d_bl (a_cons d_bl (a_cons d_bl (a_cons d_bl (a_cons d_bl (a_cons d_bl
    (a_cons (d_tup (a1 d_str)) (a_cons (d_tup (a1 d_str)) (a_cons (d_tup (a2 d_str d_str)) (a3 (d_tup a_nil) (d_tup (a1 d_str)) (d_tup a_nil)))))))))))))) ) ?_
  refine b_step (s_set (i := 5) (k := .own [.str z_s1, .str z_s2]) sc_han.nd (k_f (f_lst (a2 d_str d_str)))) ?_
  refine b_step (s_app (i := 5) (l := [.str z_s1, .str z_s2]) (d := .str z_s3) rfl (Nat.le_of_ble_eq_true rfl) d_str) ?_
  refine b_fz (l := [.str z_s1, .str z_s2] ++ [.str z_s3]) 5 rfl ?_
  refine b_step (s_set (i := 6) (k := .dat (.str zL)) sc_han.nd (k_d d_str)) ?_
  refine b_step (s_set (i := 3) (k := .dat (.lst gB6)) sc_han.nd (k_d (d_bin (o_addL (l := gB5) (m := h6) (Nat.le_of_ble_eq_true rfl)) (dv 3)
    (d_cast (congrArg D.lst can_D) (d_of_f (f_map (own := [("_law_own", 7)]) zD D.str cZ _ rfl sc_han.nd (blkOk_by (by kernel_rfl)) (i_list (d_cast (congrArg D.lst eq_D) (d_bin (o_addL (Nat.le_of_ble_eq_true rfl)) (dv 5) (d_lst (a2 (d_bin (o_addS (x := zL) (Nat.le_of_ble_eq_true rfl)) (dv 6) d_str) (d_bin (o_addS (x := zL) (Nat.le_of_ble_eq_true rfl)) (dv 6) d_str))))))
      (fun s H B cl fp a ha => g_name (i := 7) sc_han.nd) (fun s H B cl fp a ha => d_fn o.can rfl hr7 (a1 (d_stat o.tof rfl hr8 (a1 (dv 7)) ⟨a, rfl, ok_D a ha, rfl⟩)) (can_t (is_z (ok_D a ha)) rfl)))))))) ?_
  refine b_step (s_set (i := 4) (k := .dat (.lst gB6)) sc_han.nd (k_d (d_bin (o_addL (l := gB5) (m := h6) (Nat.le_of_ble_eq_true rfl)) (dv 4) (d_lst (ds := h6) (a_cons d_bl (a_cons d_bl (a3 d_bl d_bl d_bl))))))) ?_
  exact b_stop (s_ret (d_cast (d := .bl (true && true)) rfl (v_and (d_fn o.same rfl hr3 (a2 (dv 3) (dv 4)) ⟨.lst gB6, rfl, sm_h, rfl⟩) (fun _ => v_one (d_fn oM rfl hr (a2 (dv 0) (dv 1)) ⟨rfl, rfl⟩)))))
end
end Fz
/-! All promises. -/
namespace Fz
open PySem L2
/-- what the top has written -/
structure Txt (K : PySem.W.Frag) (mg : Str → Option Value) (C N : Addr) : Prop where
  f10 : DefAt K mg "set_of" 10
  f11 : DefAt K mg "tupled" 11
  f8 : DefAt K mg "is_name" 8
  f9 : DefAt K mg "is_rising" 9
  f13 : DefAt K mg "put_together" 13
  f14 : DefAt K mg "is_joined" 14
  f15 : DefAt K mg "labels" 15
  f16 : DefAt K mg "joined_in" 16
  f17 : DefAt K mg "lowest_of" 17
  f18 : DefAt K mg "peeled" 18
  f19 : DefAt K mg "fit_all" 19
  f20 : DefAt K mg "names_of" 20
  f21 : DefAt K mg "can_be" 21
  f22 : DefAt K mg "stuck_lot" 22
  f23 : DefAt K mg "flood_of" 23
  f24 : DefAt K mg "is_stuck" 24
  f35 : DefAt K mg "is_pair" 35
  f36 : DefAt K mg "is_pairs" 36
  f37 : DefAt K mg "is_rule" 37
  f38 : DefAt K mg "is_flood" 38
  f39 : DefAt K mg "names_in" 39
  f41 : DefAt K mg "check_islands" 41
  f42 : DefAt K mg "check_once" 42
  f44 : DefAt K mg "pair_text" 44
  f45 : DefAt K mg "pairs_text" 45
  f46 : DefAt K mg "rule_text" 46
  f47 : DefAt K mg "flood_text" 47
  f48 : DefAt K mg "pairs_in" 48
  f49 : DefAt K mg "rule_in" 49
  f50 : DefAt K mg "flood_in" 50
  f51 : DefAt K mg "fits_islands" 51
  f52 : DefAt K mg "with_flood" 52
  f53 : DefAt K mg "without_flood" 53
  f55 : DefAt K mg "_law_box" 55
  f56 : DefAt K mg "_law_cells" 56
  f57 : DefAt K mg "_law_of" 57
  f58 : DefAt K mg "_law_mixed" 58
  f59 : DefAt K mg "_law_take" 59
  f60 : DefAt K mg "_law_same" 60
  f61 : DefAt K mg "_law_lists" 61
  f62 : DefAt K mg "_law_pick" 62
  f63 : DefAt K mg "_law_isles" 63
  f64 : DefAt K mg "_law_twos" 64
  f65 : DefAt K mg "_law_orders" 65
  f66 : DefAt K mg "_law_times" 66
  f67 : DefAt K mg "_law_grids" 67
  f68 : DefAt K mg "_law_one" 68
  f69 : DefAt K mg "_law_whole_so" 69
  f70 : DefAt K mg "_law_still" 70
  f71 : DefAt K mg "_law_under" 71
  f72 : DefAt K mg "_law_fits" 72
  f73 : DefAt K mg "_law_sights" 73
  f74 : DefAt K mg "_law_named" 74
  f75 : DefAt K mg "_law_close" 75
  f76 : DefAt K mg "_law_draw" 76
  f77 : DefAt K mg "_law_wet" 77
  f78 : DefAt K mg "_law_low" 78
  f79 : DefAt K mg "_law_rest" 79
  f80 : DefAt K mg "_law_book" 80
  f81 : DefAt K mg "_law_heard" 81
  f82 : DefAt K mg "_law_by_hand_right" 82
  f83 : DefAt K mg "_law_more_right" 83
  f84 : DefAt K mg "_law_right" 84
  b : MgB mg
  c : MgC mg
  tk : TalkK K C
  pI : PrpAt K C "islands" "Talk.islands" 3
  pR : PrpAt K C "rules" "Talk.rules" 4
  pF : PrpAt K C "floods" "Talk.floods" 5
  pT : PrpAt K C "text" "Talk.text" 8
  ini : InitAt K mg C
  sta : StaAt K mg C
  get : GetAt K C
  nf : NfAt K mg N
theorem all_law {w : World} {K : PySem.W.Frag} {mg : Str → Option Value} {base : Heap} {C N f : Addr} {fd : FuncData} (T : Txt K mg C N) (F : FunD K "law" "law" (defArgs (top 85)) (defBody (top 85)) (defScope (top 85)) [] [] f fd) : FnOk pr w K mg base CX0 11 f fd ["_law_script"] (spD K C gLaw) := by
  have b := T.b
  have c := T.c
  have tk := T.tk
  have pI := ok_islands (w := w) (mg := mg) (base := base) tk T.pI
  have pR := ok_rules (w := w) (mg := mg) (base := base) tk T.pR
  have pF := ok_floods (w := w) (mg := mg) (base := base) tk T.pF
  have oPut := ok_put (w := w) (base := base) (C := C) T.f13 b.sorted
  have oJn := ok_jn (w := w) (base := base) (C := C) T.f14
  have oJoin := ok_join (w := w) (base := base) (C := C) T.f16
  have oLab := ok_lab tk b T.f15 pI pR oPut oJn
  have oLow := ok_low b T.f17 oLab oJoin oJn
  have oPeel := ok_peel b T.f18 oLow
  have oFit := ok_fit b T.f19 oPeel
  have oNames := ok_names (w := w) (base := base) (C := C) b T.f20
  have oCan := ok_can tk b T.f21 pF oFit
  have oLot := ok_lot tk b T.f22 pF oPeel oNames
  have oFof := ok_fof tk b T.f23 pF
  have oStk := ok_stk b T.f24 oLow oFof
  have kCan := kb_can tk b T.f21 pF oFit
  have kLot := kb_lot tk b T.f22 pF oPeel oNames
  have kStk := kb_stk b T.f24 oLow oFof
  have zFof := ok_foz T.nf tk b T.f23 pF
  have zStk := ok_stz b T.f24 oLow oFof zFof
  have oHrd := ok_hrd T.nf T.f81 zStk
  have oTwos := ok_twos (w := w) (base := base) (C := C) b T.f64
  have oOne := ok_one (w := w) (base := base) (C := C) T.f68
  have oWho := ok_who T.f69 oOne
  have oUnd := ok_und T.f71 oOne oTwos
  have oFts := ok_fts T.f72 oOne oWho
  have oGri := ok_gri (w := w) (base := base) (C := C) b T.f67
  have oSti := ok_sti T.f70 oGri oOne oWho
  have oNam := ok_nam (w := w) (base := base) (C := C) T.f74
  have oWet := ok_wet (w := w) (base := base) (C := C) b T.f77
  have oClo := ok_clo T.f75 oTwos oSti oOne oWho
  have oLo := ok_lo T.f78 oClo oWet
  have oRes := ok_res b T.f79 oLo
  have oBoo := ok_boo T.f80 oSti oUnd
  have oSig := ok_sig b T.f73 oSti oBoo oFts
  have oTk := ok_tk (w := w) (base := base) (C := C) b T.f59
  have oOf := ok_of b T.f57 oTk
  have oMix := ok_mix b T.f58 oTk
  have oPick := ok_pick b T.f62 oMix
  have oIsles := ok_isles b T.f63 oTk oPick
  have oOrd := ok_ord b T.f65 oTk oOf oPick
  have oTim := ok_tim b T.f66 oTk oPick
  have oDraw := ok_draw b T.f76 oIsles oTwos oOrd oTim
  have oBox := ok_box (w := w) (base := base) (C := C) b T.f55
  have oCel := ok_cel (w := w) (base := base) (C := C) b T.f56
  have oTpd := ok_tpd (w := w) (base := base) (C := C) b T.f11 4
  have oLis := ok_lis (w := w) (base := base) (C := C) b T.f61 4
  have oSetS := ok_setS (w := w) (base := base) (C := C) b T.f10
  have oSetR := ok_setR (w := w) (base := base) (C := C) b T.f10
  have oNin := ok_nin (w := w) (base := base) (C := C) T.f39
  have oChk := ok_chk (w := w) (base := base) (C := C) T.f41
  have oOnc := ok_onc (w := w) (base := base) (C := C) b T.f42
  have oIni := ok_ini tk b T.ini oSetS oSetR oTpd oNin oChk oOnc
  have oSm := ok_sm (w := w) (base := base) (C := C) b T.f60 2
  have oRig := ok_rig b T.f84 ⟨oDraw, oIni, oSig, oNam, oRes, oCan, oLis, oLot, oSm, oPick, oTk, oStk, oLo⟩
  have oNm := ok_nm (w := w) (base := base) (C := C) b c T.f8
  have oRis := ok_ris (w := w) (base := base) (C := C) b T.f9
  have oPr := ok_pr b c T.f35 oNm
  have oPrs := ok_prs b T.f36 oPr oRis
  have oRl := ok_rl b c T.f37 oPr oPrs
  have oFl := ok_fl b c T.f38 oNm oPrs
  have oTxP := ok_txP (w := w) (base := base) (C := C) c T.f44
  have oTxPs := ok_txPs b c T.f45 oTxP
  have oTxR := ok_txR c T.f46 oTxP oTxPs
  have oTxF := ok_txF c T.f47 oTxPs
  have oText := ok_text b c tk T.pT oTxR oTxF
  have oPin := ok_pin (w := w) (base := base) (C := C) b c T.f48
  have oRin := ok_rin b c T.f49 oPin oRl
  have oFin := ok_fin b c T.f50 oPin oFl
  have oFit2 := ok_fit2 b T.f51 oNin
  have oTof := ok_tof b c tk T.sta oRin oFin oNm oFit2 oIni oText
  have oGet := ok_get (w := w) (mg := mg) (base := base) tk T.get
  have oWf := ok_wf b T.f52 oIni pI pR pF tk
  have oWo := ok_wo b T.f53 oIni pI pR pF oGet tk
  have hi : HIn w K mg base C := ⟨oTof, oCan, kCan, oLot, kLot, oStk, kStk, oHrd, oSm, oIni, oWo, oWf⟩
  have oMor := ok_mor hi T.f83
  have oHan := ok_han b hi oMor T.f82
  exact law_fn (k := 10) (by decide) b F oHan oCel oBox oRig
end Fz
/-! The head's facts. -/
namespace Fz
open PySem L2 PyProof.Rows
open He (ga ma eqO eqO_ok ba)
theorem emptyB_ok {K : PySem.W.Frag} {a : Addr} (h : emptyB K a = true) : EmptyAt K (.ref a) := by
  unfold emptyB at h
  split at h
  · rename_i c d its n sl q
    obtain ⟨h1, h2⟩ := ba h
    obtain ⟨l⟩ := its
    have h2 : l.isEmpty = true := h2
    have e : l = [] := List.isEmpty_iff.mp h2
    subst e
    exact ⟨a, _, n, rfl, q, congrArg Value.type (of_decide_eq_true h1), rfl⟩
  · cases h
theorem slotB_ok {K : PySem.W.Frag} {f : Str} {i : Nat} (h : slotB K f i = true) (hi : i < 1000) : ∃ p, SlX.Slot1 K (cT K) f p i := by
  obtain ⟨h1, h⟩ := ba h
  obtain ⟨h2, h⟩ := ba h
  obtain ⟨h3, h⟩ := ba h
  obtain ⟨h4, h5⟩ := ba h
  exact ⟨_, eqO_ok h1, eqO_ok h2, of_decide_eq_true h3, of_decide_eq_true h4, of_decide_eq_true h5, hi⟩
theorem prpB_ok {K : PySem.W.Frag} {f q : Str} {j : Nat} {fd : FuncData} (h : prpB K f = true) (F : FunD K f q (defArgs (inClass (top 43) j)) (defBody (inClass (top 43) j)) (defScope (inClass (top 43) j)) [] [] (He5.wf K (cT K) "property" f) fd) : PrpAt K (cT K) f q j := by
  obtain ⟨h1, h⟩ := ba h
  obtain ⟨h2, h⟩ := ba h
  obtain ⟨h3, h4⟩ := ba h
  refine ⟨_, _, fd, eqO_ok h1, eqO_ok h2, of_decide_eq_true h3, ?_, F⟩
  unfold He5.wf
  split at h4
  · rename_i f' r e
    exact ⟨r, by rw [e]⟩
  · cases h4
theorem ex_at {K : PySem.W.Frag} (c : SaysW K) (i : Nat) {t : PySem.W.Frag → Bool} (h : exL[i]? = some t) : t K = true := List.all_eq_true.mp c.2 t (List.mem_of_getElem? h)
section
variable {K : PySem.W.Frag} {h : Heap} {mg : Str → Option Value}
theorem txt_of (X : K.In h) (G : h.Ns mainGlobals mg) (c : SaysW K) : Txt K mg (cT K) (cN K) where
  f10 := let ⟨fd, F⟩ := c.1.def_ 0 (d := ⟨fun K => ga K "set_of", "set_of", "set_of", defArgs (top 10), defBody (top 10), defScope (top 10), [], []⟩) rfl; ⟨_, fd, F, He.glo_ok X G (c.1.fact 0 (f := .glo "set_of") rfl)⟩
  f11 := let ⟨fd, F⟩ := c.1.def_ 1 (d := ⟨fun K => ga K "tupled", "tupled", "tupled", defArgs (top 11), defBody (top 11), defScope (top 11), [], []⟩) rfl; ⟨_, fd, F, He.glo_ok X G (c.1.fact 1 (f := .glo "tupled") rfl)⟩
  f8 := let ⟨fd, F⟩ := c.1.def_ 2 (d := ⟨fun K => ga K "is_name", "is_name", "is_name", defArgs (top 8), defBody (top 8), defScope (top 8), [], []⟩) rfl; ⟨_, fd, F, He.glo_ok X G (c.1.fact 2 (f := .glo "is_name") rfl)⟩
  f9 := let ⟨fd, F⟩ := c.1.def_ 3 (d := ⟨fun K => ga K "is_rising", "is_rising", "is_rising", defArgs (top 9), defBody (top 9), defScope (top 9), [], []⟩) rfl; ⟨_, fd, F, He.glo_ok X G (c.1.fact 3 (f := .glo "is_rising") rfl)⟩
  f13 := let ⟨fd, F⟩ := c.1.def_ 4 (d := ⟨fun K => ga K "put_together", "put_together", "put_together", defArgs (top 13), defBody (top 13), defScope (top 13), [], []⟩) rfl; ⟨_, fd, F, He.glo_ok X G (c.1.fact 4 (f := .glo "put_together") rfl)⟩
  f14 := let ⟨fd, F⟩ := c.1.def_ 5 (d := ⟨fun K => ga K "is_joined", "is_joined", "is_joined", defArgs (top 14), defBody (top 14), defScope (top 14), [], []⟩) rfl; ⟨_, fd, F, He.glo_ok X G (c.1.fact 5 (f := .glo "is_joined") rfl)⟩
  f15 := let ⟨fd, F⟩ := c.1.def_ 6 (d := ⟨fun K => ga K "labels", "labels", "labels", defArgs (top 15), defBody (top 15), defScope (top 15), [], []⟩) rfl; ⟨_, fd, F, He.glo_ok X G (c.1.fact 6 (f := .glo "labels") rfl)⟩
  f16 := let ⟨fd, F⟩ := c.1.def_ 7 (d := ⟨fun K => ga K "joined_in", "joined_in", "joined_in", defArgs (top 16), defBody (top 16), defScope (top 16), [], []⟩) rfl; ⟨_, fd, F, He.glo_ok X G (c.1.fact 7 (f := .glo "joined_in") rfl)⟩
  f17 := let ⟨fd, F⟩ := c.1.def_ 8 (d := ⟨fun K => ga K "lowest_of", "lowest_of", "lowest_of", defArgs (top 17), defBody (top 17), defScope (top 17), [], []⟩) rfl; ⟨_, fd, F, He.glo_ok X G (c.1.fact 8 (f := .glo "lowest_of") rfl)⟩
  f18 := let ⟨fd, F⟩ := c.1.def_ 9 (d := ⟨fun K => ga K "peeled", "peeled", "peeled", defArgs (top 18), defBody (top 18), defScope (top 18), [], []⟩) rfl; ⟨_, fd, F, He.glo_ok X G (c.1.fact 9 (f := .glo "peeled") rfl)⟩
  f19 := let ⟨fd, F⟩ := c.1.def_ 10 (d := ⟨fun K => ga K "fit_all", "fit_all", "fit_all", defArgs (top 19), defBody (top 19), defScope (top 19), [], []⟩) rfl; ⟨_, fd, F, He.glo_ok X G (c.1.fact 10 (f := .glo "fit_all") rfl)⟩
  f20 := let ⟨fd, F⟩ := c.1.def_ 11 (d := ⟨fun K => ga K "names_of", "names_of", "names_of", defArgs (top 20), defBody (top 20), defScope (top 20), [], []⟩) rfl; ⟨_, fd, F, He.glo_ok X G (c.1.fact 11 (f := .glo "names_of") rfl)⟩
  f21 := let ⟨fd, F⟩ := c.1.def_ 12 (d := ⟨fun K => ga K "can_be", "can_be", "can_be", defArgs (top 21), defBody (top 21), defScope (top 21), [], []⟩) rfl; ⟨_, fd, F, He.glo_ok X G (c.1.fact 12 (f := .glo "can_be") rfl)⟩
  f22 := let ⟨fd, F⟩ := c.1.def_ 13 (d := ⟨fun K => ga K "stuck_lot", "stuck_lot", "stuck_lot", defArgs (top 22), defBody (top 22), defScope (top 22), [], []⟩) rfl; ⟨_, fd, F, He.glo_ok X G (c.1.fact 13 (f := .glo "stuck_lot") rfl)⟩
  f23 := let ⟨fd, F⟩ := c.1.def_ 14 (d := ⟨fun K => ga K "flood_of", "flood_of", "flood_of", defArgs (top 23), defBody (top 23), defScope (top 23), [], []⟩) rfl; ⟨_, fd, F, He.glo_ok X G (c.1.fact 14 (f := .glo "flood_of") rfl)⟩
  f24 := let ⟨fd, F⟩ := c.1.def_ 15 (d := ⟨fun K => ga K "is_stuck", "is_stuck", "is_stuck", defArgs (top 24), defBody (top 24), defScope (top 24), [], []⟩) rfl; ⟨_, fd, F, He.glo_ok X G (c.1.fact 15 (f := .glo "is_stuck") rfl)⟩
  f35 := let ⟨fd, F⟩ := c.1.def_ 16 (d := ⟨fun K => ga K "is_pair", "is_pair", "is_pair", defArgs (top 35), defBody (top 35), defScope (top 35), [], []⟩) rfl; ⟨_, fd, F, He.glo_ok X G (c.1.fact 16 (f := .glo "is_pair") rfl)⟩
  f36 := let ⟨fd, F⟩ := c.1.def_ 17 (d := ⟨fun K => ga K "is_pairs", "is_pairs", "is_pairs", defArgs (top 36), defBody (top 36), defScope (top 36), [], []⟩) rfl; ⟨_, fd, F, He.glo_ok X G (c.1.fact 17 (f := .glo "is_pairs") rfl)⟩
  f37 := let ⟨fd, F⟩ := c.1.def_ 18 (d := ⟨fun K => ga K "is_rule", "is_rule", "is_rule", defArgs (top 37), defBody (top 37), defScope (top 37), [], []⟩) rfl; ⟨_, fd, F, He.glo_ok X G (c.1.fact 18 (f := .glo "is_rule") rfl)⟩
  f38 := let ⟨fd, F⟩ := c.1.def_ 19 (d := ⟨fun K => ga K "is_flood", "is_flood", "is_flood", defArgs (top 38), defBody (top 38), defScope (top 38), [], []⟩) rfl; ⟨_, fd, F, He.glo_ok X G (c.1.fact 19 (f := .glo "is_flood") rfl)⟩
  f39 := let ⟨fd, F⟩ := c.1.def_ 20 (d := ⟨fun K => ga K "names_in", "names_in", "names_in", defArgs (top 39), defBody (top 39), defScope (top 39), [], []⟩) rfl; ⟨_, fd, F, He.glo_ok X G (c.1.fact 20 (f := .glo "names_in") rfl)⟩
  f41 := let ⟨fd, F⟩ := c.1.def_ 21 (d := ⟨fun K => ga K "check_islands", "check_islands", "check_islands", defArgs (top 41), defBody (top 41), defScope (top 41), [], []⟩) rfl; ⟨_, fd, F, He.glo_ok X G (c.1.fact 21 (f := .glo "check_islands") rfl)⟩
  f42 := let ⟨fd, F⟩ := c.1.def_ 22 (d := ⟨fun K => ga K "check_once", "check_once", "check_once", defArgs (top 42), defBody (top 42), defScope (top 42), [], []⟩) rfl; ⟨_, fd, F, He.glo_ok X G (c.1.fact 22 (f := .glo "check_once") rfl)⟩
  f44 := let ⟨fd, F⟩ := c.1.def_ 23 (d := ⟨fun K => ga K "pair_text", "pair_text", "pair_text", defArgs (top 44), defBody (top 44), defScope (top 44), [], []⟩) rfl; ⟨_, fd, F, He.glo_ok X G (c.1.fact 23 (f := .glo "pair_text") rfl)⟩
  f45 := let ⟨fd, F⟩ := c.1.def_ 24 (d := ⟨fun K => ga K "pairs_text", "pairs_text", "pairs_text", defArgs (top 45), defBody (top 45), defScope (top 45), [], []⟩) rfl; ⟨_, fd, F, He.glo_ok X G (c.1.fact 24 (f := .glo "pairs_text") rfl)⟩
  f46 := let ⟨fd, F⟩ := c.1.def_ 25 (d := ⟨fun K => ga K "rule_text", "rule_text", "rule_text", defArgs (top 46), defBody (top 46), defScope (top 46), [], []⟩) rfl; ⟨_, fd, F, He.glo_ok X G (c.1.fact 25 (f := .glo "rule_text") rfl)⟩
  f47 := let ⟨fd, F⟩ := c.1.def_ 26 (d := ⟨fun K => ga K "flood_text", "flood_text", "flood_text", defArgs (top 47), defBody (top 47), defScope (top 47), [], []⟩) rfl; ⟨_, fd, F, He.glo_ok X G (c.1.fact 26 (f := .glo "flood_text") rfl)⟩
  f48 := let ⟨fd, F⟩ := c.1.def_ 27 (d := ⟨fun K => ga K "pairs_in", "pairs_in", "pairs_in", defArgs (top 48), defBody (top 48), defScope (top 48), [], []⟩) rfl; ⟨_, fd, F, He.glo_ok X G (c.1.fact 27 (f := .glo "pairs_in") rfl)⟩
  f49 := let ⟨fd, F⟩ := c.1.def_ 28 (d := ⟨fun K => ga K "rule_in", "rule_in", "rule_in", defArgs (top 49), defBody (top 49), defScope (top 49), [], []⟩) rfl; ⟨_, fd, F, He.glo_ok X G (c.1.fact 28 (f := .glo "rule_in") rfl)⟩
  f50 := let ⟨fd, F⟩ := c.1.def_ 29 (d := ⟨fun K => ga K "flood_in", "flood_in", "flood_in", defArgs (top 50), defBody (top 50), defScope (top 50), [], []⟩) rfl; ⟨_, fd, F, He.glo_ok X G (c.1.fact 29 (f := .glo "flood_in") rfl)⟩
  f51 := let ⟨fd, F⟩ := c.1.def_ 30 (d := ⟨fun K => ga K "fits_islands", "fits_islands", "fits_islands", defArgs (top 51), defBody (top 51), defScope (top 51), [], []⟩) rfl; ⟨_, fd, F, He.glo_ok X G (c.1.fact 30 (f := .glo "fits_islands") rfl)⟩
  f52 := let ⟨fd, F⟩ := c.1.def_ 31 (d := ⟨fun K => ga K "with_flood", "with_flood", "with_flood", defArgs (top 52), defBody (top 52), defScope (top 52), [], []⟩) rfl; ⟨_, fd, F, He.glo_ok X G (c.1.fact 31 (f := .glo "with_flood") rfl)⟩
  f53 := let ⟨fd, F⟩ := c.1.def_ 32 (d := ⟨fun K => ga K "without_flood", "without_flood", "without_flood", defArgs (top 53), defBody (top 53), defScope (top 53), [], []⟩) rfl; ⟨_, fd, F, He.glo_ok X G (c.1.fact 32 (f := .glo "without_flood") rfl)⟩
  f55 := let ⟨fd, F⟩ := c.1.def_ 33 (d := ⟨fun K => ga K "_law_box", "_law_box", "_law_box", defArgs (top 55), defBody (top 55), defScope (top 55), [], []⟩) rfl; ⟨_, fd, F, He.glo_ok X G (c.1.fact 33 (f := .glo "_law_box") rfl)⟩
  f56 := let ⟨fd, F⟩ := c.1.def_ 34 (d := ⟨fun K => ga K "_law_cells", "_law_cells", "_law_cells", defArgs (top 56), defBody (top 56), defScope (top 56), [], []⟩) rfl; ⟨_, fd, F, He.glo_ok X G (c.1.fact 34 (f := .glo "_law_cells") rfl)⟩
  f57 := let ⟨fd, F⟩ := c.1.def_ 35 (d := ⟨fun K => ga K "_law_of", "_law_of", "_law_of", defArgs (top 57), defBody (top 57), defScope (top 57), [], []⟩) rfl; ⟨_, fd, F, He.glo_ok X G (c.1.fact 35 (f := .glo "_law_of") rfl)⟩
  f58 := let ⟨fd, F⟩ := c.1.def_ 36 (d := ⟨fun K => ga K "_law_mixed", "_law_mixed", "_law_mixed", defArgs (top 58), defBody (top 58), defScope (top 58), [], []⟩) rfl; ⟨_, fd, F, He.glo_ok X G (c.1.fact 36 (f := .glo "_law_mixed") rfl)⟩
  f59 := let ⟨fd, F⟩ := c.1.def_ 37 (d := ⟨fun K => ga K "_law_take", "_law_take", "_law_take", defArgs (top 59), defBody (top 59), defScope (top 59), [], []⟩) rfl; ⟨_, fd, F, He.glo_ok X G (c.1.fact 37 (f := .glo "_law_take") rfl)⟩
  f60 := let ⟨fd, F⟩ := c.1.def_ 38 (d := ⟨fun K => ga K "_law_same", "_law_same", "_law_same", defArgs (top 60), defBody (top 60), defScope (top 60), [], []⟩) rfl; ⟨_, fd, F, He.glo_ok X G (c.1.fact 38 (f := .glo "_law_same") rfl)⟩
  f61 := let ⟨fd, F⟩ := c.1.def_ 39 (d := ⟨fun K => ga K "_law_lists", "_law_lists", "_law_lists", defArgs (top 61), defBody (top 61), defScope (top 61), [], []⟩) rfl; ⟨_, fd, F, He.glo_ok X G (c.1.fact 39 (f := .glo "_law_lists") rfl)⟩
  f62 := let ⟨fd, F⟩ := c.1.def_ 40 (d := ⟨fun K => ga K "_law_pick", "_law_pick", "_law_pick", defArgs (top 62), defBody (top 62), defScope (top 62), [], []⟩) rfl; ⟨_, fd, F, He.glo_ok X G (c.1.fact 40 (f := .glo "_law_pick") rfl)⟩
  f63 := let ⟨fd, F⟩ := c.1.def_ 41 (d := ⟨fun K => ga K "_law_isles", "_law_isles", "_law_isles", defArgs (top 63), defBody (top 63), defScope (top 63), [], []⟩) rfl; ⟨_, fd, F, He.glo_ok X G (c.1.fact 41 (f := .glo "_law_isles") rfl)⟩
  f64 := let ⟨fd, F⟩ := c.1.def_ 42 (d := ⟨fun K => ga K "_law_twos", "_law_twos", "_law_twos", defArgs (top 64), defBody (top 64), defScope (top 64), [], []⟩) rfl; ⟨_, fd, F, He.glo_ok X G (c.1.fact 42 (f := .glo "_law_twos") rfl)⟩
  f65 := let ⟨fd, F⟩ := c.1.def_ 43 (d := ⟨fun K => ga K "_law_orders", "_law_orders", "_law_orders", defArgs (top 65), defBody (top 65), defScope (top 65), [], []⟩) rfl; ⟨_, fd, F, He.glo_ok X G (c.1.fact 43 (f := .glo "_law_orders") rfl)⟩
  f66 := let ⟨fd, F⟩ := c.1.def_ 44 (d := ⟨fun K => ga K "_law_times", "_law_times", "_law_times", defArgs (top 66), defBody (top 66), defScope (top 66), [], []⟩) rfl; ⟨_, fd, F, He.glo_ok X G (c.1.fact 44 (f := .glo "_law_times") rfl)⟩
  f67 := let ⟨fd, F⟩ := c.1.def_ 45 (d := ⟨fun K => ga K "_law_grids", "_law_grids", "_law_grids", defArgs (top 67), defBody (top 67), defScope (top 67), [], []⟩) rfl; ⟨_, fd, F, He.glo_ok X G (c.1.fact 45 (f := .glo "_law_grids") rfl)⟩
  f68 := let ⟨fd, F⟩ := c.1.def_ 46 (d := ⟨fun K => ga K "_law_one", "_law_one", "_law_one", defArgs (top 68), defBody (top 68), defScope (top 68), [], []⟩) rfl; ⟨_, fd, F, He.glo_ok X G (c.1.fact 46 (f := .glo "_law_one") rfl)⟩
  f69 := let ⟨fd, F⟩ := c.1.def_ 47 (d := ⟨fun K => ga K "_law_whole_so", "_law_whole_so", "_law_whole_so", defArgs (top 69), defBody (top 69), defScope (top 69), [], []⟩) rfl; ⟨_, fd, F, He.glo_ok X G (c.1.fact 47 (f := .glo "_law_whole_so") rfl)⟩
  f70 := let ⟨fd, F⟩ := c.1.def_ 48 (d := ⟨fun K => ga K "_law_still", "_law_still", "_law_still", defArgs (top 70), defBody (top 70), defScope (top 70), [], []⟩) rfl; ⟨_, fd, F, He.glo_ok X G (c.1.fact 48 (f := .glo "_law_still") rfl)⟩
  f71 := let ⟨fd, F⟩ := c.1.def_ 49 (d := ⟨fun K => ga K "_law_under", "_law_under", "_law_under", defArgs (top 71), defBody (top 71), defScope (top 71), [], []⟩) rfl; ⟨_, fd, F, He.glo_ok X G (c.1.fact 49 (f := .glo "_law_under") rfl)⟩
  f72 := let ⟨fd, F⟩ := c.1.def_ 50 (d := ⟨fun K => ga K "_law_fits", "_law_fits", "_law_fits", defArgs (top 72), defBody (top 72), defScope (top 72), [], []⟩) rfl; ⟨_, fd, F, He.glo_ok X G (c.1.fact 50 (f := .glo "_law_fits") rfl)⟩
  f73 := let ⟨fd, F⟩ := c.1.def_ 51 (d := ⟨fun K => ga K "_law_sights", "_law_sights", "_law_sights", defArgs (top 73), defBody (top 73), defScope (top 73), [], []⟩) rfl; ⟨_, fd, F, He.glo_ok X G (c.1.fact 51 (f := .glo "_law_sights") rfl)⟩
  f74 := let ⟨fd, F⟩ := c.1.def_ 52 (d := ⟨fun K => ga K "_law_named", "_law_named", "_law_named", defArgs (top 74), defBody (top 74), defScope (top 74), [], []⟩) rfl; ⟨_, fd, F, He.glo_ok X G (c.1.fact 52 (f := .glo "_law_named") rfl)⟩
  f75 := let ⟨fd, F⟩ := c.1.def_ 53 (d := ⟨fun K => ga K "_law_close", "_law_close", "_law_close", defArgs (top 75), defBody (top 75), defScope (top 75), [], []⟩) rfl; ⟨_, fd, F, He.glo_ok X G (c.1.fact 53 (f := .glo "_law_close") rfl)⟩
  f76 := let ⟨fd, F⟩ := c.1.def_ 54 (d := ⟨fun K => ga K "_law_draw", "_law_draw", "_law_draw", defArgs (top 76), defBody (top 76), defScope (top 76), [], []⟩) rfl; ⟨_, fd, F, He.glo_ok X G (c.1.fact 54 (f := .glo "_law_draw") rfl)⟩
  f77 := let ⟨fd, F⟩ := c.1.def_ 55 (d := ⟨fun K => ga K "_law_wet", "_law_wet", "_law_wet", defArgs (top 77), defBody (top 77), defScope (top 77), [], []⟩) rfl; ⟨_, fd, F, He.glo_ok X G (c.1.fact 55 (f := .glo "_law_wet") rfl)⟩
  f78 := let ⟨fd, F⟩ := c.1.def_ 56 (d := ⟨fun K => ga K "_law_low", "_law_low", "_law_low", defArgs (top 78), defBody (top 78), defScope (top 78), [], []⟩) rfl; ⟨_, fd, F, He.glo_ok X G (c.1.fact 56 (f := .glo "_law_low") rfl)⟩
  f79 := let ⟨fd, F⟩ := c.1.def_ 57 (d := ⟨fun K => ga K "_law_rest", "_law_rest", "_law_rest", defArgs (top 79), defBody (top 79), defScope (top 79), [], []⟩) rfl; ⟨_, fd, F, He.glo_ok X G (c.1.fact 57 (f := .glo "_law_rest") rfl)⟩
  f80 := let ⟨fd, F⟩ := c.1.def_ 58 (d := ⟨fun K => ga K "_law_book", "_law_book", "_law_book", defArgs (top 80), defBody (top 80), defScope (top 80), [], []⟩) rfl; ⟨_, fd, F, He.glo_ok X G (c.1.fact 58 (f := .glo "_law_book") rfl)⟩
  f81 := let ⟨fd, F⟩ := c.1.def_ 59 (d := ⟨fun K => ga K "_law_heard", "_law_heard", "_law_heard", defArgs (top 81), defBody (top 81), defScope (top 81), [], []⟩) rfl; ⟨_, fd, F, He.glo_ok X G (c.1.fact 59 (f := .glo "_law_heard") rfl)⟩
  f82 := let ⟨fd, F⟩ := c.1.def_ 60 (d := ⟨fun K => ga K "_law_by_hand_right", "_law_by_hand_right", "_law_by_hand_right", defArgs (top 82), defBody (top 82), defScope (top 82), [], []⟩) rfl; ⟨_, fd, F, He.glo_ok X G (c.1.fact 60 (f := .glo "_law_by_hand_right") rfl)⟩
  f83 := let ⟨fd, F⟩ := c.1.def_ 61 (d := ⟨fun K => ga K "_law_more_right", "_law_more_right", "_law_more_right", defArgs (top 83), defBody (top 83), defScope (top 83), [], []⟩) rfl; ⟨_, fd, F, He.glo_ok X G (c.1.fact 61 (f := .glo "_law_more_right") rfl)⟩
  f84 := let ⟨fd, F⟩ := c.1.def_ 62 (d := ⟨fun K => ga K "_law_right", "_law_right", "_law_right", defArgs (top 84), defBody (top 84), defScope (top 84), [], []⟩) rfl; ⟨_, fd, F, He.glo_ok X G (c.1.fact 62 (f := .glo "_law_right") rfl)⟩
  b := ⟨He.free_ok X G (c.1.fact 67 (f := .free "len") rfl), He.free_ok X G (c.1.fact 68 (f := .free "all") rfl), He.free_ok X G (c.1.fact 69 (f := .free "any") rfl), He.free_ok X G (c.1.fact 70 (f := .free "list") rfl), He.free_ok X G (c.1.fact 71 (f := .free "tuple") rfl), He.free_ok X G (c.1.fact 72 (f := .free "sorted") rfl), He.free_ok X G (c.1.fact 73 (f := .free "set") rfl), He.free_ok X G (c.1.fact 74 (f := .free "range") rfl), He.free_ok X G (c.1.fact 75 (f := .free "enumerate") rfl), He.free_ok X G (c.1.fact 76 (f := .free "zip") rfl), He.free_ok X G (c.1.fact 77 (f := .free "isinstance") rfl), He.free_ok X G (c.1.fact 78 (f := .free "str") rfl), He.free_ok X G (c.1.fact 79 (f := .free "int") rfl), He.free_ok X G (c.1.fact 80 (f := .free "bool") rfl), He.free_ok X G (c.1.fact 81 (f := .free "max") rfl), He.free_ok X G (c.1.fact 82 (f := .free "abs") rfl), He.free_ok X G (c.1.fact 83 (f := .free "sum") rfl)⟩
  c := ⟨He.str_ok X G (c.1.fact 84 (f := .str "LETTERS" "abcdefghijklmnopqrstuvwxyz") rfl), He.int_ok X G (c.1.fact 85 (f := .int "LONGEST" 8) rfl), He.str_ok X G (c.1.fact 86 (f := .str "BLANK" " ") rfl), He.str_ok X G (c.1.fact 87 (f := .str "BETWEEN" "; ") rfl), He.str_ok X G (c.1.fact 88 (f := .str "NOTHING" "-") rfl), He.str_ok X G (c.1.fact 89 (f := .str "BRIDGE" "-") rfl), He.str_ok X G (c.1.fact 90 (f := .str "GIVES" ">") rfl), He.str_ok X G (c.1.fact 91 (f := .str "COLON" ": ") rfl), He.str_ok X G (c.1.fact 92 (f := .str "OVER" " / ") rfl), He.int_ok X G (c.1.fact 93 (f := .int "PAIR" 2) rfl), He.int_ok X G (c.1.fact 94 (f := .int "THREE" 3) rfl)⟩
  tk := by
    obtain ⟨h1, q⟩ := ba (ex_at c 0 rfl)
    obtain ⟨h2, q⟩ := ba q
    obtain ⟨h3, h4⟩ := ba q
    exact ⟨⟨h1, h2, h3, eqO_ok h4⟩, slotB_ok (ex_at c 1 rfl) (by decide), slotB_ok (ex_at c 2 rfl) (by decide), slotB_ok (ex_at c 3 rfl) (by decide)⟩
  pI := let ⟨fd, F⟩ := c.1.def_ 64 (d := ⟨fun K => He5.wf K (cT K) "property" "islands", "islands", "Talk.islands", defArgs (inClass (top 43) 3), defBody (inClass (top 43) 3), defScope (inClass (top 43) 3), [], []⟩) rfl; prpB_ok (ex_at c 4 rfl) F
  pR := let ⟨fd, F⟩ := c.1.def_ 65 (d := ⟨fun K => He5.wf K (cT K) "property" "rules", "rules", "Talk.rules", defArgs (inClass (top 43) 4), defBody (inClass (top 43) 4), defScope (inClass (top 43) 4), [], []⟩) rfl; prpB_ok (ex_at c 5 rfl) F
  pF := let ⟨fd, F⟩ := c.1.def_ 66 (d := ⟨fun K => He5.wf K (cT K) "property" "floods", "floods", "Talk.floods", defArgs (inClass (top 43) 5), defBody (inClass (top 43) 5), defScope (inClass (top 43) 5), [], []⟩) rfl; prpB_ok (ex_at c 6 rfl) F
  pT := let ⟨fd, F⟩ := c.1.def_ 67 (d := ⟨fun K => He5.wf K (cT K) "property" "text", "text", "Talk.text", defArgs (inClass (top 43) 8), defBody (inClass (top 43) 8), defScope (inClass (top 43) 8), [], []⟩) rfl; prpB_ok (ex_at c 7 rfl) F
  ini := by
    obtain ⟨fd, F⟩ := c.1.def_ 68 (d := ⟨fun K => ma K (cT K) "__init__", "__init__", "Talk.__init__", defArgs (inClass (top 43) 1), defBody (inClass (top 43) 1), defScope (inClass (top 43) 1), [.adr (eT 0), .adr (eT 1), .adr (eT 2)], []⟩) rfl
    obtain ⟨h1, q⟩ := ba (ex_at c 8 rfl)
    obtain ⟨h2, h3⟩ := ba q
    exact ⟨_, fd, _, _, _, He.mkr_ok (c.1.fact 66 (f := .mkr "Talk") rfl), He.glo_ok X G (c.1.fact 64 (f := .glo "Talk") rfl), emptyB_ok h1, emptyB_ok h2, emptyB_ok h3, F⟩
  sta := by
    obtain ⟨fd, F⟩ := c.1.def_ 69 (d := ⟨fun K => He5.wf K (cT K) "staticmethod" "of", "of", "Talk.of", defArgs (inClass (top 43) 2), defBody (inClass (top 43) 2), defScope (inClass (top 43) 2), [], []⟩) rfl
    obtain ⟨h1, q⟩ := ba (ex_at c 9 rfl)
    obtain ⟨h2, h3⟩ := ba q
    obtain ⟨h4, h5⟩ := He5.wrapB_ok h3
    exact ⟨.type "type", _, _, fd, ⟨h1, eqO_ok h2⟩, ⟨h4, h5, F.kp⟩, He.glo_ok X G (c.1.fact 64 (f := .glo "Talk") rfl), F⟩
  get := by
    obtain ⟨fd, F⟩ := c.1.def_ 70 (d := ⟨fun K => ma K (cT K) "__getitem__", "__getitem__", "Talk.__getitem__", defArgs (inClass (top 43) 10), defBody (inClass (top 43) 10), defScope (inClass (top 43) 10), [], []⟩) rfl
    obtain ⟨h1, q⟩ := ba (ex_at c 10 rfl)
    obtain ⟨h2, h3⟩ := ba q
    exact ⟨_, fd, eqO_ok h1, h2, h3, F⟩
  nf := by
    obtain ⟨fd, F⟩ := c.1.def_ 71 (d := ⟨fun K => ma K (cN K) "__init__", "__init__", "NoFlood.__init__", defArgs (inClass (top 2) 0), defBody (inClass (top 2) 0), defScope (inClass (top 2) 0), [], []⟩) rfl
    obtain ⟨h1, q⟩ := ba (ex_at c 11 rfl)
    obtain ⟨h2, q⟩ := ba q
    obtain ⟨h3, h4⟩ := ba q
    obtain ⟨i1, q⟩ := ba (ex_at c 12 rfl)
    obtain ⟨i2, q⟩ := ba q
    obtain ⟨i3, i4⟩ := ba q
    obtain ⟨j1, q⟩ := ba (ex_at c 13 rfl)
    obtain ⟨j2, j3⟩ := ba q
    obtain ⟨k1, k2⟩ := ba (ex_at c 14 rfl)
    exact ⟨He.glo_ok X G (c.1.fact 65 (f := .glo "NoFlood") rfl), h1, h2, eqO_ok h3, eqO_ok h4, eqO_ok i1, eqO_ok i2, i3, of_decide_eq_true i4, of_decide_eq_true j1, j2, of_decide_eq_true j3, ⟨_, fd, eqO_ok k1, of_decide_eq_true k2, F⟩⟩
/-- the law's def at hand, its promise -/
theorem law_at {w : World} {fa : Addr} (X : K.In h) (G : h.Ns mainGlobals mg) (hm : mg "law" = some (.ref fa)) (c : SaysW K) : ∃ fd : FuncData, (∀ (s : Shared) (u : Value), BindsTo s fd ⟨[u], []⟩ [("_law_script", u)]) ∧ ∀ base : Heap, FnOk pr w K mg base CX0 11 fa fd ["_law_script"] (spD K (cT K) gLaw) := by
  obtain ⟨fd, F⟩ := c.1.def_ 63 (d := ⟨fun K => ga K "law", "law", "law", defArgs (top 85), defBody (top 85), defScope (top 85), [], []⟩) rfl
  have e := hm.symm.trans (He.glo_ok X G (c.1.fact 63 (f := .glo "law") rfl))
  have e : fa = ga K "law" := Value.ref.inj (Option.some.inj e)
  subst e
  have b := FunD.bindsA (ps := ["_law_script"]) F fun _ _ _ _ _ _ us hl => match us, hl with | [_], _ => rfl
  exact ⟨fd, fun s u => b s [u] rfl, fun base => all_law (txt_of X G c) F⟩
/-- the law's wish -/
theorem law_sp {C : Addr} {H : Hp} {a : Addr} {ns : List Int} (hS : SqL K H a (ns.map V.int)) : spD K C gLaw [.ref a] H (fun v _ => v = .bl true) fun _ _ _ => False := by
  refine ⟨fun _ => False, [.lstk (ns.map D.int)], .bl true, fun _ z => z.elim, ⟨.ref a, [], rfl, ⟨a, ns.map V.int, rfl, sqL_same (fun b o e => (mask_at fun z => z).trans e) hS, RpL.ofInts ns⟩, rfl⟩, ⟨ns, rfl, rfl⟩, fun v H' _ hv => hv⟩
end
end Fz
set_option maxHeartbeats 0
open PySem PySem.W PySem.Calls PyProof.Rows
theorem PySem.Challenge.cw_lastfords_k32_whole_floods_that_can_be_holds : PySem.Challenge.rw_lastfords_k32_whole_floods_that_can_be.Holds := by
  w_on; o_law
  refine HandSHeadRun.head_any (r := Fz.Rw) (q := Fz.qv) (H := Fz.hookW 5) (ob := Fz.obR) (M := 6000) (loose := Fz.loN) (d := HandSHeadRun.topDef Fz.Rw.prog 85) (kwd := []) Fz.obR_eq (by kernel_rfl) (fun s => by kernel_rfl) Fz.runR (by kernel_rfl) (by kernel_rfl) (by kernel_rfl) (by rfl) (by first | assumption | decide +kernel) (by decide +kernel)
    ⟨rfl, rfl, rfl, rfl, rfl, by decide +kernel⟩ ?hw ?hc
  case hw => w_witness2
  case hc =>
    refine L2.walk_ofE (l := PySem.Challenge.rw_lastfords_k32_whole_floods_that_can_be) (n := 63) (k := 11) (x := "_law_script") (CX := L2.CX0) rfl (by decide) (by kernel_rfl) ⟨rfl, by decide, by decide⟩ ?F (fun _ _ _ _ z => z)
    intro w mg fa h Y G hmg0
    obtain ⟨K, KX, c⟩ := Y
    have hmg : mg ("law" : PySem.Str) = some (.ref fa) := by
      rw [← show (HandSHeadRun.topDef Fz.Rw.prog 85).name = ("law" : PySem.Str) from by kernel_rfl]
      exact hmg0
    obtain ⟨fd, hb, hF⟩ := Fz.law_at (w := w) KX G hmg c
    exact ⟨K, fd, Fz.spD K (Fz.cT K) Fz.gLaw, KX, hb, fun H a ns _ _ hS => Fz.law_sp hS, fun base _ _ => hF base⟩
