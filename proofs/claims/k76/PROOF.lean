import PyProof.Rows.All
import Wide.All
import OpenK.AllK
import Wide.FinOn
import HandS.ForMost
import HandS.HeadHook2
import HandS.TupAny
import HandS.TupMul
import HandS.Wide
import HandS.IsInst
import HandS.Walk
import HandS.Zip
import HandS.Defaults
import HandS.WordsExc
import HandS.SetFor
import HandS.Conv
import HandS.Ends
import KE.GoesMore
import PyProof.ReprLen
import PyProof.ReprRoads
import HandS.SortInts
import KE.KSortRegAny
import HandS.Exc
import HandS.ExcOwn
import HandS.TryOnly
import PyProof.ExcBaseAll.ValueError
import KE.GoesZip
import KE.GoesEnum
import HandS.Text
import HandS.Iter
import HandS.Small
import KE.KIndexOf
import PyProof.WalkInts
import HandS.Dict
import KE.KDictDisplayH
import KE.KDictWalk
import HandS.Style
import PyProof.AutoSeq1
import KE.DataMinMax
import KE.SortData
import HandS.Deep
import KE.KRevSl
import HandS.ExcIs
import HandS.ExcValue
import PyProof.SumAny
import PyProof.Rows.TupAdd
import HandS.TupLen
import HandS.TupLe
import HandS.DictEq
import KE.KDictCopyH
import KE.KDictOf
import HandS.DictTup
import KE.SortKeyHeap
import HandS.SortKw
import HandS.HeadHook3
import PyProof.Rows.ReprOcc
import PyProof.StrLaws
import HandS.Head0
import HandS.Head1
import HandS.Head2
import HandS.HeadEnd
import HandS.HeadHook1
import PySem.Challenge.RW_spotlay_k76_two_desks_by_turns
set_option Elab.async false
set_option linter.all false
set_option maxRecDepth 100000
set_option maxHeartbeats 0
namespace DL
open PySem PySem.Spec PyProof PyProof.Rows L2
noncomputable section
def lstB (K : PySem.W.Frag) (p : Str × List He.Dv) : Bool := match K.lookup (He.ga K p.1) with
  | some ⟨.type c, none, .seq its _, _⟩ => decide (c = "list") && (decide (its.size ≤ 100000) && He.relAll (p.2.map (He.Dv.v K)) its.toList)
  | _ => false
abbrev AlL : Type := He.AlD × Bool
inductive XF where
  | exc (C : Str) | kit (C D : Str) (b : Bool) | kitT (C : Str) (T : String) (b : Bool)
def XF.ok (K : PySem.W.Frag) : XF → Bool
  | .exc C => decide (PySem.W.findIn K (.ref (He.ga K C)) "__getattribute__" = some (some (.builtin "BaseException.__getattribute__"))) && (decide (PySem.W.findIn K (.ref (He.ga K C)) "__getattr__" = some none) &&
      (decide (PySem.W.subIn K (.ref (He.ga K C)) (.type "BaseException") = some true) && (PySem.W.hasDictIn K (He.ga K C) && (decide (PySem.W.findIn K (.ref (He.ga K C)) "__class__" = some (some (.builtin "object.__class__"))) &&
      (decide (PySem.W.specialIn K (.builtin "object.__class__") "__get__" = some (some (.builtin "getset_descriptor.__get__"))) && (decide (PySem.W.takesIn K (.builtin "object.__class__") = some true) && decide (PySem.W.mroIn K (He.ga K C) (.type "object") = some true)))))))
  | .kit C D b => decide (PySem.W.kitOne K (.ref (He.ga K C)) (.ref (He.ga K D)) = some b)
  | .kitT C T b => decide (PySem.W.kitOne K (.ref (He.ga K C)) (.type T) = some b)
def kvOf (e : DictEntry) : Option (Str × Int) := match e.key, e.val with
  | .str x _, .int i _ => some (x, i)
  | _, _ => none
def dvB (K : PySem.W.Frag) (p : Str × List (Str × Int)) : Bool := match K.lookup (He.ga K p.1) with
  | some ⟨_, _, .dict es _, _⟩ => decide (es.toList.map kvOf = p.2.map some)
  | _ => false
abbrev AlY : Type := AlL × List (Option (List (Option (Str × Int))))
abbrev TbL : Type := List (Str × List (Str × Int))
def tbW (ds : TbL) (K : PySem.W.Frag) : List (Option (List (Option (Str × Int)))) := ds.map fun t => He.dicW K (He.ga K t.1)
def tbV (ds : TbL) (w : World) : List (Option (List (Option (Str × Int)))) := ds.map fun t => some (He.keysIn w.params (t.2.map (·.1)))
def obsY (fa : List He.Fa) (fn : List He.DefD) (ls : List (Str × List He.Dv)) (xs : List XF) (ds : TbL) (K : PySem.W.Frag) : AlY := ((He.obsD fa fn K, (ls.all (lstB K) && xs.all (XF.ok K)) && ds.all (dvB K)), tbW ds K)
def obsYG (n : Nat) (fa : List He.Fa) (fn : List He.DefD) (ls : List (Str × List He.Dv)) (xs : List XF) (ds : TbL) (g : Addr → Option Obj) : AlY := obsY fa fn ls xs ds (He.frG g (He.asD g n))
def saysY (fa : List He.Fa) (fn : List He.DefD) (ls : List (Str × List He.Dv)) (xs : List XF) (ds : TbL) (w : World) (K : PySem.W.Frag) : Prop := ((ls.all (lstB K) && xs.all (XF.ok K)) && ds.all (dvB K)) = true ∧ tbW ds K = tbV ds w
def hookY (n : Nat) (fa : List He.Fa) (fn : List He.DefD) (ls : List (Str × List He.Dv)) (xs : List XF) (ds : TbL) : PySem.W.Hook where
  α := AlY
  obs := fun s => obsYG n fa fn ls xs ds s.heap.get?
  val := fun w => ((He.valD fn, true), tbV ds w)
  says := fun w h => ∃ K : PySem.W.Frag, K.In h ∧ He.SaysD fa fn K ∧ saysY fa fn ls xs ds w K
  of := fun _ _ e => ⟨_, He.frG_in, congrArg (fun z : AlY => z.1.1) e, congrArg (fun z : AlY => z.1.2) e, congrArg (fun z : AlY => z.2) e⟩
  keeps := fun _ _ _ ⟨K, hK, c⟩ k => ⟨K, PySem.W.Frag.In.keeps hK k, c⟩
theorem obsYG_eq {n : Nat} {fa : List He.Fa} {fn : List He.DefD} {ls : List (Str × List He.Dv)} {xs : List XF} {ds : TbL} {g : Addr → Option Obj} {s : Shared} (h : ∀ a, g a = s.heap.get? a) : obsYG n fa fn ls xs ds g = (hookY n fa fn ls xs ds).obs s := by
  have e : g = s.heap.get? := funext h
  rw [e] <;> rfl
end
end DL
namespace K76
open PySem PySem.Spec PyProof.Rows L2 DL
def topS (i : Nat) : Stmt := PySem.Challenge.pw_spotlay_k76_two_desks_by_turns.main.body.getD i (.Pass ⟨0, 0, 0, 0⟩)
def clsS (i j : Nat) : Stmt := match topS i with | .ClassDef (body := b) .. => b.getD j (.Pass ⟨0, 0, 0, 0⟩) | s => s
abbrev s__law_bag : Stmt := topS 74
abbrev s__law_dip : Stmt := topS 75
abbrev s__law_begun : Stmt := topS 77
abbrev s__law_bare : Stmt := topS 86
abbrev s_Desk___init__ : Stmt := clsS 72 0
abbrev s_number_in : Stmt := topS 66
abbrev s_is_number : Stmt := topS 4
abbrev s_is_row : Stmt := topS 5
abbrev s_is_square : Stmt := topS 6
abbrev s_is_job : Stmt := topS 7
abbrev s_is_part : Stmt := topS 8
abbrev s_is_laying : Stmt := topS 9
abbrev s_Keeper___init__ : Stmt := clsS 45 0
abbrev s_empty_job : Stmt := topS 70
abbrev s_Desk_begin : Stmt := clsS 72 2
abbrev s_Keeper_job : Stmt := clsS 45 1
abbrev s_words_of : Stmt := topS 71
abbrev s_Keeper_laying : Stmt := clsS 45 2
abbrev s_rows_of : Stmt := topS 65
abbrev s_Desk_told : Stmt := clsS 72 4
abbrev s_fixed : Stmt := topS 12
abbrev s_cost_jobs : Stmt := topS 13
abbrev s_Keeper_cost : Stmt := clsS 45 3
abbrev s_beside_saved : Stmt := topS 38
abbrev s_saved : Stmt := topS 39
abbrev s_Keeper_need_work : Stmt := clsS 45 4
abbrev s_Keeper_turn_to : Stmt := clsS 45 6
abbrev s_exchanged : Stmt := topS 37
abbrev s_Keeper_swap : Stmt := clsS 45 10
abbrev s_Keeper_better : Stmt := clsS 45 11
abbrev s_Keeper_need_two : Stmt := clsS 45 5
abbrev s_need_number : Stmt := topS 46
abbrev s_with_number : Stmt := topS 44
abbrev s_Keeper_flow : Stmt := clsS 45 7
abbrev s_Keeper_way : Stmt := clsS 45 8
abbrev s_Keeper_charge : Stmt := clsS 45 9
abbrev s_Keeper_back : Stmt := clsS 45 12
abbrev s_Desk_done : Stmt := clsS 72 3
abbrev s_Desk_say : Stmt := clsS 72 1
abbrev s__law_said : Stmt := topS 84
abbrev s__law_deed : Stmt := topS 82
abbrev s__law_may_be_done : Stmt := topS 91
abbrev s__law_row_of : Stmt := topS 87
abbrev s__law_price : Stmt := topS 76
abbrev s__law_best : Stmt := topS 78
abbrev s__law_past : Stmt := topS 79
abbrev s__law_swapped : Stmt := topS 80
abbrev s__law_done : Stmt := topS 81
abbrev s__law_due : Stmt := topS 88
abbrev s__law_rows : Stmt := topS 83
abbrev s__law_shown : Stmt := topS 85
abbrev s__law_looked : Stmt := topS 89
abbrev s__law_no_job : Stmt := topS 90
abbrev s_law : Stmt := topS 92
def fn : List He.DefD := [⟨("_law_bag", none), "_law_bag", "_law_bag", defArgs s__law_bag, defBody s__law_bag, defScope s__law_bag, [], []⟩, ⟨("_law_dip", none), "_law_dip", "_law_dip", defArgs s__law_dip, defBody s__law_dip, defScope s__law_dip, [], []⟩, ⟨("_law_begun", none), "_law_begun", "_law_begun", defArgs s__law_begun, defBody s__law_begun, defScope s__law_begun, [], []⟩, ⟨("_law_bare", none), "_law_bare", "_law_bare", defArgs s__law_bare, defBody s__law_bare, defScope s__law_bare, [], []⟩, ⟨("Desk", some "__init__"), "__init__", "Desk.__init__", defArgs s_Desk___init__, defBody s_Desk___init__, defScope s_Desk___init__, [], []⟩, ⟨("number_in", none), "number_in", "number_in", defArgs s_number_in, defBody s_number_in, defScope s_number_in, [], []⟩, ⟨("is_number", none), "is_number", "is_number", defArgs s_is_number, defBody s_is_number, defScope s_is_number, [], []⟩, ⟨("is_row", none), "is_row", "is_row", defArgs s_is_row, defBody s_is_row, defScope s_is_row, [], []⟩, ⟨("is_square", none), "is_square", "is_square", defArgs s_is_square, defBody s_is_square, defScope s_is_square, [], []⟩, ⟨("is_job", none), "is_job", "is_job", defArgs s_is_job, defBody s_is_job, defScope s_is_job, [], []⟩, ⟨("is_part", none), "is_part", "is_part", defArgs s_is_part, defBody s_is_part, defScope s_is_part, [], []⟩, ⟨("is_laying", none), "is_laying", "is_laying", defArgs s_is_laying, defBody s_is_laying, defScope s_is_laying, [], []⟩, ⟨("Keeper", some "__init__"), "__init__", "Keeper.__init__", defArgs s_Keeper___init__, defBody s_Keeper___init__, defScope s_Keeper___init__, [], []⟩, ⟨("empty_job", none), "empty_job", "empty_job", defArgs s_empty_job, defBody s_empty_job, defScope s_empty_job, [], []⟩, ⟨("Desk", some "begin"), "begin", "Desk.begin", defArgs s_Desk_begin, defBody s_Desk_begin, defScope s_Desk_begin, [], []⟩, ⟨("Keeper", some "job"), "job", "Keeper.job", defArgs s_Keeper_job, defBody s_Keeper_job, defScope s_Keeper_job, [], []⟩, ⟨("words_of", none), "words_of", "words_of", defArgs s_words_of, defBody s_words_of, defScope s_words_of, [], []⟩, ⟨("Keeper", some "laying"), "laying", "Keeper.laying", defArgs s_Keeper_laying, defBody s_Keeper_laying, defScope s_Keeper_laying, [], []⟩, ⟨("rows_of", none), "rows_of", "rows_of", defArgs s_rows_of, defBody s_rows_of, defScope s_rows_of, [], []⟩, ⟨("Desk", some "told"), "told", "Desk.told", defArgs s_Desk_told, defBody s_Desk_told, defScope s_Desk_told, [], []⟩, ⟨("fixed", none), "fixed", "fixed", defArgs s_fixed, defBody s_fixed, defScope s_fixed, [], []⟩, ⟨("cost_jobs", none), "cost", "cost", defArgs s_cost_jobs, defBody s_cost_jobs, defScope s_cost_jobs, [], []⟩, ⟨("Keeper", some "cost"), "cost", "Keeper.cost", defArgs s_Keeper_cost, defBody s_Keeper_cost, defScope s_Keeper_cost, [], []⟩, ⟨("beside_saved", none), "beside_saved", "beside_saved", defArgs s_beside_saved, defBody s_beside_saved, defScope s_beside_saved, [], []⟩, ⟨("saved", none), "saved", "saved", defArgs s_saved, defBody s_saved, defScope s_saved, [], []⟩, ⟨("Keeper", some "need_work"), "need_work", "Keeper.need_work", defArgs s_Keeper_need_work, defBody s_Keeper_need_work, defScope s_Keeper_need_work, [], []⟩, ⟨("Keeper", some "turn_to"), "turn_to", "Keeper.turn_to", defArgs s_Keeper_turn_to, defBody s_Keeper_turn_to, defScope s_Keeper_turn_to, [], []⟩, ⟨("exchanged", none), "exchanged", "exchanged", defArgs s_exchanged, defBody s_exchanged, defScope s_exchanged, [], []⟩, ⟨("Keeper", some "swap"), "swap", "Keeper.swap", defArgs s_Keeper_swap, defBody s_Keeper_swap, defScope s_Keeper_swap, [], []⟩, ⟨("Keeper", some "better"), "better", "Keeper.better", defArgs s_Keeper_better, defBody s_Keeper_better, defScope s_Keeper_better, [], []⟩, ⟨("Keeper", some "need_two"), "need_two", "Keeper.need_two", defArgs s_Keeper_need_two, defBody s_Keeper_need_two, defScope s_Keeper_need_two, [], []⟩, ⟨("need_number", none), "need_number", "need_number", defArgs s_need_number, defBody s_need_number, defScope s_need_number, [], []⟩, ⟨("with_number", none), "with_number", "with_number", defArgs s_with_number, defBody s_with_number, defScope s_with_number, [], []⟩, ⟨("Keeper", some "flow"), "flow", "Keeper.flow", defArgs s_Keeper_flow, defBody s_Keeper_flow, defScope s_Keeper_flow, [], []⟩, ⟨("Keeper", some "way"), "way", "Keeper.way", defArgs s_Keeper_way, defBody s_Keeper_way, defScope s_Keeper_way, [], []⟩, ⟨("Keeper", some "charge"), "charge", "Keeper.charge", defArgs s_Keeper_charge, defBody s_Keeper_charge, defScope s_Keeper_charge, [], []⟩, ⟨("Keeper", some "back"), "back", "Keeper.back", defArgs s_Keeper_back, defBody s_Keeper_back, defScope s_Keeper_back, [], []⟩, ⟨("Desk", some "done"), "done", "Desk.done", defArgs s_Desk_done, defBody s_Desk_done, defScope s_Desk_done, [], []⟩, ⟨("Desk", some "say"), "say", "Desk.say", defArgs s_Desk_say, defBody s_Desk_say, defScope s_Desk_say, [], []⟩, ⟨("_law_said", none), "_law_said", "_law_said", defArgs s__law_said, defBody s__law_said, defScope s__law_said, [], []⟩, ⟨("_law_deed", none), "_law_deed", "_law_deed", defArgs s__law_deed, defBody s__law_deed, defScope s__law_deed, [], []⟩, ⟨("_law_may_be_done", none), "_law_may_be_done", "_law_may_be_done", defArgs s__law_may_be_done, defBody s__law_may_be_done, defScope s__law_may_be_done, [], []⟩, ⟨("_law_row_of", none), "_law_row_of", "_law_row_of", defArgs s__law_row_of, defBody s__law_row_of, defScope s__law_row_of, [], []⟩, ⟨("_law_price", none), "_law_price", "_law_price", defArgs s__law_price, defBody s__law_price, defScope s__law_price, [], []⟩, ⟨("_law_best", none), "_law_best", "_law_best", defArgs s__law_best, defBody s__law_best, defScope s__law_best, [], []⟩, ⟨("_law_past", none), "_law_past", "_law_past", defArgs s__law_past, defBody s__law_past, defScope s__law_past, [], []⟩, ⟨("_law_swapped", none), "_law_swapped", "_law_swapped", defArgs s__law_swapped, defBody s__law_swapped, defScope s__law_swapped, [], []⟩, ⟨("_law_done", none), "_law_done", "_law_done", defArgs s__law_done, defBody s__law_done, defScope s__law_done, [], []⟩, ⟨("_law_due", none), "_law_due", "_law_due", defArgs s__law_due, defBody s__law_due, defScope s__law_due, [], []⟩, ⟨("_law_rows", none), "_law_rows", "_law_rows", defArgs s__law_rows, defBody s__law_rows, defScope s__law_rows, [], []⟩, ⟨("_law_shown", none), "_law_shown", "_law_shown", defArgs s__law_shown, defBody s__law_shown, defScope s__law_shown, [], []⟩, ⟨("_law_looked", none), "_law_looked", "_law_looked", defArgs s__law_looked, defBody s__law_looked, defScope s__law_looked, [], []⟩, ⟨("_law_no_job", none), "_law_no_job", "_law_no_job", defArgs s__law_no_job, defBody s__law_no_job, defScope s__law_no_job, [], []⟩, ⟨("law", none), "law", "law", defArgs s_law, defBody s_law, defScope s_law, [], []⟩]
def fa : List He.Fa := [.glo "_law_bag", .glo "_law_dip", .glo "_law_begun", .glo "_law_bare", .glo "number_in", .glo "is_number", .glo "is_row", .glo "is_square", .glo "is_job", .glo "is_part", .glo "is_laying", .glo "empty_job", .meth "Desk" "begin", .meth "Keeper" "job", .glo "words_of", .meth "Keeper" "laying", .glo "rows_of", .meth "Desk" "told", .glo "fixed", .glo "cost_jobs", .meth "Keeper" "cost", .glo "beside_saved", .glo "saved", .meth "Keeper" "need_work", .meth "Keeper" "turn_to", .glo "exchanged", .meth "Keeper" "swap", .meth "Keeper" "better", .meth "Keeper" "need_two", .glo "need_number", .glo "with_number", .meth "Keeper" "flow", .meth "Keeper" "way", .meth "Keeper" "charge", .meth "Keeper" "back", .meth "Desk" "done", .meth "Desk" "say", .glo "_law_said", .glo "_law_deed", .glo "_law_may_be_done", .glo "_law_row_of", .glo "_law_price", .glo "_law_best", .glo "_law_past", .glo "_law_swapped", .glo "_law_done", .glo "_law_due", .glo "_law_rows", .glo "_law_shown", .glo "_law_looked", .glo "_law_no_job", .glo "law", .glo "Desk", .cls "Desk", .mkr "Desk", .glo "Keeper", .cls "Keeper", .mkr "Keeper", .glo "NoJob", .exc "NoJob", .glo "NoLaying", .exc "NoLaying", .glo "NoNumber", .exc "NoNumber", .exc "NoRow", .glo "NoWork", .exc "NoWork", .glo "Nothing", .exc "Nothing", .glo "NoRow", .exm "NoRow" "NoRow" true, .noat "Desk" "keeper", .noat "Keeper" "laid", .noat "Keeper" "now", .noat "Keeper" "past", .int "MOST_COST" 1000000, .int "MOST_SENT" 999, .int "MOST_WORKS_jobs" 8, .str "FIGURES" "0123456789", .glo "HANDED", .glo "ASKED", .glo "NAMES", .free "abs", .free "all", .free "bool", .free "enumerate", .free "int", .free "isinstance", .free "len", .free "list", .free "max", .free "range", .free "set", .free "str", .free "sum", .free "tuple", .free "zip"]
def ls : List (Str × List He.Dv) := [("ASKED", (["laying", "bound", "mean", "least", "line", "hub", "show"] : List Str).map He.Dv.str), ("NAMES", (["flow", "way", "cost"] : List Str).map He.Dv.str)]
abbrev Rw : PySem.W.OpenRow := PySem.W.OpenLaw.row PySem.Challenge.rw_spotlay_k76_two_desks_by_turns
def xs : List XF := []
def ds : TbL := [("HANDED", [("job", 1), ("flow", 3), ("way", 3), ("cost", 3), ("swap", 2), ("back", 0), ("better", 0), ("total", 0)])]
abbrev hk : PySem.W.Hook := hookY 4 fa fn ls xs ds
def ob (s : PySem.W.SharedT) : AlY := obsYG 4 fa fn ls xs ds (HandSHeadRun.getT s)
theorem ob_eq (s : PySem.W.SharedT) : ob s = hk.obs s.abs := obsYG_eq (HandSHeadRun.getT_eq s)
abbrev loose : List Str := "is_number" :: "is_row" :: "is_square" :: "is_job" :: "is_part" :: "is_laying" :: "free_works" :: "free_places" :: "fixed" :: "cost" :: "cost_jobs" :: "pairing" :: "least_product" :: "laid_sum" :: "free_product" :: "bound_table" :: "bound" :: "is_hub" :: "hub" :: "exchanged" :: "beside_saved" :: "saved" :: "pairs_of" :: "best_exchange" :: "settled" :: "with_number" :: "need_number" :: "laid_on" :: "all_free" :: "shown" :: "least" :: "fits_line" :: "line" :: "divisor" :: "lowest" :: "sum_between" :: "mean" :: "rows_of" :: "number_in" :: "empty_job" :: "words_of" :: "_law_bag" :: "_law_dip" :: "_law_price" :: "_law_begun" :: "_law_best" :: "_law_past" :: "_law_swapped" :: "_law_done" :: "_law_deed" :: "_law_rows" :: "_law_said" :: "_law_shown" :: "_law_bare" :: "_law_row_of" :: "_law_due" :: "_law_looked" :: "_law_no_job" :: "_law_may_be_done" :: "MOST_WORKS_jobs" :: "MOST_SENT" :: "MOST_COST" :: "Pairer" :: "LayError" :: "NoJob" :: "NoLaying" :: "NoWork" :: "NoNumber" :: "TooMany" :: "Nothing" :: "NoRow" :: "Keeper" :: "MOST_WORKS_least" :: "Search" :: "FIGURES" :: "NAMES" :: "HANDED" :: "ASKED" :: "Desk" :: []
theorem run0 (w : World) : HandSHeadRun.RunEq Rw (PySem.W.view Rw.prog [92]) hk ob 6000 loose (w.withFollow "special-get-raises" false) := by
  intro os
  kernel_rfl
theorem run1 (w : World) : HandSHeadRun.RunEq Rw (PySem.W.view Rw.prog [92]) hk ob 6000 loose (w.withFollow "special-get-raises" true) := by
  intro os
  kernel_rfl
theorem run (w : World) : HandSHeadRun.RunEq Rw (PySem.W.view Rw.prog [92]) hk ob 6000 loose w := PySem.W.byRow2 "special-get-raises" (P := fun w => HandSHeadRun.RunEq Rw (PySem.W.view Rw.prog [92]) hk ob 6000 loose w) run0 run1 w
end K76
namespace DL
open PySem PySem.Spec PyProof.Rows L2

inductive D where
  | non | bl (b : Bool) | int (i : Int) | str (x : Str)
  | tup (xs : List D) | lst (xs : List D) | kst (xs : List D)
  | dcT (ks : List (List Key)) (vs : List D) | dcK (ks : List Key) (vs : List D)
  | obj (C : Str) (ns : List Str) (vs : List D)
  | frz (d : D)
  | fn (x : Str) | ad (a : Addr) | lsA (a : Addr) (xs : List D) | key (ns : List Int) | tpx (ns : List Int) | exn (C : Str) | lkT (kvs : List (List Int × Int)) | any

inductive Kd where
  | fl | sh | ow | sa | rd
  deriving DecidableEq
abbrev KD := Kd × D
abbrev Sl := Option KD
abbrev Frg := PySem.W.Frag

def Imm : HO → Prop
  | .tup _ => True
  | .frz _ _ => True
  | _ => False
def Keep (A : Addr → Prop) (H H' : Hp) : Prop := ∀ a o, H a = some o → (A a ∨ Imm o) → H' a = some o
theorem Keep.of_same {A : Addr → Prop} {H H' : Hp} (s : Same H H') : Keep A H H' := fun a o e _ => s a o e

mutual
def RA (K : Frg) (A : Addr → Prop) (H : Hp) : D → V → Prop
  | .non, v => v = .non
  | .bl b, v => v = .bl b
  | .int i, v => v = .int i
  | .str x, v => v = .str x
  | .fn x, v => v = .ref (He.ga K x)
  | .ad a, v => v = .ref a
  | .key ns, v => ∃ p, v = .ref p ∧ H p = some (.tup (ns.map V.int))
  | .tpx ns, v => ∃ p o, v = .ref p ∧ H p = some (.frz o (.tup (ns.map V.int))) ∧ o.dict = none
  | .exn C, v => ∃ p o, v = .ref p ∧ H p = some (.frz o (.ext fun h => h.get? p = some o)) ∧ o.cls = .ref (He.ga K C) ∧ o.dict = none ∧ ∃ vs, o.data = .fields vs
  | .lkT kvs, v => ∃ p o, v = .ref p ∧ H p = some (.frz o (.dT (kvs.map fun x => (x.1.map Sum.inl, V.int x.2))))
  | .any, v => v ≠ .non
  | .tup ds, v => ∃ p vs, v = .ref p ∧ SqT K H p vs ∧ RAs K A H ds vs
  | .lst ds, v => ∃ p vs, v = .ref p ∧ A p ∧ H p = some (.lst vs) ∧ RAs K A H ds vs
  | .lsA a ds, v => v = .ref a ∧ A a ∧ ∃ vs, H a = some (.lst vs) ∧ RAs K A H ds vs
  | .kst ds, v => ∃ p vs, v = .ref p ∧ SqL K (fun a => match H a with | some (.frz o u) => some (.frz o u) | _ => none) p vs ∧ RAs K A H ds vs
  | .dcT ks ds, v => ∃ p kvs, v = .ref p ∧ A p ∧ Rd H p (.dT kvs) ∧ kvs.map (·.1) = ks ∧ RAs K A H ds (kvs.map (·.2))
  | .dcK ks ds, v => ∃ p kvs, v = .ref p ∧ A p ∧ Rd H p (.dK kvs) ∧ kvs.map (·.1) = ks ∧ RAs K A H ds (kvs.map (·.2))
  | .obj C ns ds, v => ∃ p dx fs, v = .ref p ∧ A p ∧ H p = some (.ins (He.ga K C) dx fs) ∧ fs.map (·.1) = ns ∧ RAs K A H ds (fs.map (·.2))
  | .frz d, v => RA K A H d v
def RAs (K : Frg) (A : Addr → Prop) (H : Hp) : List D → List V → Prop
  | [], vs => vs = []
  | d :: ds, vs => ∃ w ws, vs = w :: ws ∧ RA K A H d w ∧ RAs K A H ds ws
end

mutual
def R (K : Frg) (A : Addr → Prop) (H : Hp) : D → V → List Addr → Prop
  | .tup ds, v, fp => ∃ p vs, v = .ref p ∧ SqT K H p vs ∧ Rs K A H ds vs fp
  | .lst ds, v, fp => ∃ p vs fps, v = .ref p ∧ fp = p :: fps ∧ H p = some (.lst vs) ∧ Rs K A H ds vs fps
  | .dcT ks ds, v, fp => ∃ p kvs fps, v = .ref p ∧ fp = p :: fps ∧ H p = some (.dT kvs) ∧ kvs.map (·.1) = ks ∧ Rs K A H ds (kvs.map (·.2)) fps
  | .dcK ks ds, v, fp => ∃ p kvs fps, v = .ref p ∧ fp = p :: fps ∧ H p = some (.dK kvs) ∧ kvs.map (·.1) = ks ∧ Rs K A H ds (kvs.map (·.2)) fps
  | .obj C ns ds, v, fp => ∃ p dx fs fps, v = .ref p ∧ fp = p :: fps ∧ H p = some (.ins (He.ga K C) dx fs) ∧ fs.map (·.1) = ns ∧ Rs K A H ds (fs.map (·.2)) fps
  | .frz d, v, fp => fp = [] ∧ RA K A H d v
  | d, v, fp => fp = [] ∧ RA K (fun _ => False) H d v
def Rs (K : Frg) (A : Addr → Prop) (H : Hp) : List D → List V → List Addr → Prop
  | [], vs, fp => vs = [] ∧ fp = []
  | d :: ds, vs, fp => ∃ w ws f1 f2, vs = w :: ws ∧ fp = f1 ++ f2 ∧ R K A H d w f1 ∧ Rs K A H ds ws f2
end

section
variable {K : Frg} {A B : Addr → Prop} {H H' : Hp}
theorem Rd.keep {p : Addr} {u : HO} (k : Keep A H H') (ha : A p) (r : Rd H p u) : Rd H' p u := by
  rcases r with r | ⟨o, r⟩
  · exact .inl (k _ _ r (.inl ha))
  · exact .inr ⟨o, k _ _ r (.inl ha)⟩
theorem SqT.keep {p : Addr} {vs : List V} (k : Keep A H H') (r : SqT K H p vs) : SqT K H' p vs := by
  rcases r with (r | ⟨o, r⟩) | r
  · exact .inl (.inl (k _ _ r (.inr trivial)))
  · exact .inl (.inr ⟨o, k _ _ r (.inr trivial)⟩)
  · exact .inr r
abbrev lockd (H : Hp) : Hp := fun a => match H a with | some (.frz o u) => some (.frz o u) | _ => none
theorem lockd_some {a : Addr} {x : HO} (h : lockd H a = some x) : H a = some x ∧ ∃ o u, x = .frz o u := by
  unfold lockd at h
  split at h
  · rename_i o u e
    cases h
    exact ⟨e, o, u, rfl⟩
  · cases h
theorem lockd_mk {a : Addr} {o : Obj} {u : HO} (h : H a = some (.frz o u)) : lockd H a = some (.frz o u) := by
  unfold lockd; rw [h]
theorem kst_keep {p : Addr} {vs : List V} (k : Keep A H H') (r : SqL K (lockd H) p vs) : SqL K (lockd H') p vs := by
  rcases r with (r | ⟨o, r⟩) | r
  · obtain ⟨_, o, u, e⟩ := lockd_some r
    cases e
  · exact .inl (.inr ⟨o, lockd_mk (k _ _ (lockd_some r).1 (.inr trivial))⟩)
  · exact .inr r
theorem kst_seq {p : Addr} {vs : List V} (r : SqL K (lockd H) p vs) : SqL K H p vs := by
  rcases r with (r | ⟨o, r⟩) | r
  · obtain ⟨_, o, u, e⟩ := lockd_some r
    cases e
  · exact .inl (.inr ⟨o, (lockd_some r).1⟩)
  · exact .inr r

mutual
theorem RA.keep (k : Keep A H H') : ∀ (d : D) (v : V), RA K A H d v → RA K A H' d v
  | .non, _, h => h
  | .bl _, _, h => h
  | .int _, _, h => h
  | .str _, _, h => h
  | .fn _, _, h => h
  | .ad _, _, h => h
  | .key _, _, ⟨p, e, t⟩ => ⟨p, e, k _ _ t (.inr trivial)⟩
  | .tpx _, _, ⟨p, o, e, t, z⟩ => ⟨p, o, e, k _ _ t (.inr trivial), z⟩
  | .exn _, _, ⟨p, o, e, t, z⟩ => ⟨p, o, e, k _ _ t (.inr trivial), z⟩
  | .lkT _, _, ⟨p, o, e, t⟩ => ⟨p, o, e, k _ _ t (.inr trivial)⟩
  | .any, _, h => h
  | .tup ds, _, ⟨p, vs, e, t, r⟩ => ⟨p, vs, e, SqT.keep k t, RAs.keep k ds vs r⟩
  | .lst ds, _, ⟨p, vs, e, a, t, r⟩ => ⟨p, vs, e, a, k _ _ t (.inl a), RAs.keep k ds vs r⟩
  | .lsA _ ds, _, ⟨e, a, vs, t, r⟩ => ⟨e, a, vs, k _ _ t (.inl a), RAs.keep k ds vs r⟩
  | .kst ds, _, ⟨p, vs, e, t, r⟩ => ⟨p, vs, e, kst_keep k t, RAs.keep k ds vs r⟩
  | .dcT ks ds, _, ⟨p, vs, e, a, t, q, r⟩ => ⟨p, vs, e, a, Rd.keep k a t, q, RAs.keep k ds _ r⟩
  | .dcK ks ds, _, ⟨p, vs, e, a, t, q, r⟩ => ⟨p, vs, e, a, Rd.keep k a t, q, RAs.keep k ds _ r⟩
  | .obj C ns ds, _, ⟨p, dx, fs, e, a, t, q, r⟩ => ⟨p, dx, fs, e, a, k _ _ t (.inl a), q, RAs.keep k ds _ r⟩
  | .frz d, v, h => RA.keep k d v h
theorem RAs.keep (k : Keep A H H') : ∀ (ds : List D) (vs : List V), RAs K A H ds vs → RAs K A H' ds vs
  | [], _, h => h
  | d :: ds, _, ⟨w, ws, e, h, r⟩ => ⟨w, ws, e, RA.keep k d w h, RAs.keep k ds ws r⟩
end
mutual
theorem RA.mono (m : ∀ a, A a → B a) : ∀ (d : D) (v : V), RA K A H d v → RA K B H d v
  | .non, _, h => h
  | .bl _, _, h => h
  | .int _, _, h => h
  | .str _, _, h => h
  | .fn _, _, h => h
  | .ad _, _, h => h
  | .key _, _, h => h
  | .tpx _, _, h => h
  | .exn _, _, h => h
  | .lkT _, _, h => h
  | .any, _, h => h
  | .tup ds, _, ⟨p, vs, e, t, r⟩ => ⟨p, vs, e, t, RAs.mono m ds vs r⟩
  | .lst ds, _, ⟨p, vs, e, a, t, r⟩ => ⟨p, vs, e, m _ a, t, RAs.mono m ds vs r⟩
  | .lsA _ ds, _, ⟨e, a, vs, t, r⟩ => ⟨e, m _ a, vs, t, RAs.mono m ds vs r⟩
  | .kst ds, _, ⟨p, vs, e, t, r⟩ => ⟨p, vs, e, t, RAs.mono m ds vs r⟩
  | .dcT ks ds, _, ⟨p, vs, e, a, t, q, r⟩ => ⟨p, vs, e, m _ a, t, q, RAs.mono m ds _ r⟩
  | .dcK ks ds, _, ⟨p, vs, e, a, t, q, r⟩ => ⟨p, vs, e, m _ a, t, q, RAs.mono m ds _ r⟩
  | .obj C ns ds, _, ⟨p, dx, fs, e, a, t, q, r⟩ => ⟨p, dx, fs, e, m _ a, t, q, RAs.mono m ds _ r⟩
  | .frz d, v, h => RA.mono m d v h
theorem RAs.mono (m : ∀ a, A a → B a) : ∀ (ds : List D) (vs : List V), RAs K A H ds vs → RAs K B H ds vs
  | [], _, h => h
  | d :: ds, _, ⟨w, ws, e, h, r⟩ => ⟨w, ws, e, RA.mono m d w h, RAs.mono m ds ws r⟩
end
end

def Mu : HO → Prop
  | .lst _ => True
  | .dT _ => True
  | .dK _ => True
  | .ins _ _ _ => True
  | _ => False
theorem Mu.notImm : ∀ {o : HO}, Mu o → ¬ Imm o := by
  intro o h1 h2; cases o <;> first | exact h1 | exact h2
abbrev No : Addr → Prop := fun _ => False
section
variable {K : Frg} {A B : Addr → Prop} {H H' : Hp}
theorem RA.same (s : Same H H') {d : D} {v : V} (h : RA K A H d v) : RA K A H' d v := RA.keep (Keep.of_same s) d v h
theorem RA.no {d : D} {v : V} (h : RA K No H d v) : RA K A H d v := RA.mono (fun _ z => z.elim) d v h
theorem RAs.no {ds : List D} {vs : List V} (h : RAs K No H ds vs) : RAs K A H ds vs := RAs.mono (fun _ z => z.elim) ds vs h
theorem RAs.same (s : Same H H') {d : List D} {v : List V} (h : RAs K A H d v) : RAs K A H' d v := RAs.keep (Keep.of_same s) d v h
theorem RAs.nil : RAs K A H [] [] := rfl
theorem RAs.cons {d : D} {v : V} {ds : List D} {vs : List V} (h : RA K A H d v) (t : RAs K A H ds vs) : RAs K A H (d :: ds) (v :: vs) := ⟨v, vs, rfl, h, t⟩
theorem RAs.len : ∀ {ds : List D} {vs : List V}, RAs K A H ds vs → vs.length = ds.length
  | [], _, h => by rw [show _ = [] from h]; rfl
  | d :: ds, _, ⟨w, ws, e, _, t⟩ => by rw [e, List.length_cons, List.length_cons, RAs.len t]
theorem RAs.get : ∀ {ds : List D} {vs : List V} {j : Nat} {d : D}, RAs K A H ds vs → ds[j]? = some d → ∃ w, vs[j]? = some w ∧ RA K A H d w
  | [], _, _, _, _, e => by simp at e
  | d :: ds, _, 0, x, ⟨w, ws, e, h, t⟩, q => by
    have : d = x := Option.some.inj q
    subst this e
    exact ⟨w, rfl, h⟩
  | d :: ds, _, j + 1, x, ⟨w, ws, e, h, t⟩, q => by
    subst e
    exact RAs.get (j := j) t q
theorem RAs.getV : ∀ {ds : List D} {vs : List V} {j : Nat} {w : V}, RAs K A H ds vs → vs[j]? = some w → ∃ d, ds[j]? = some d ∧ RA K A H d w
  | [], _, _, _, h, e => by rw [show _ = [] from h] at e; simp at e
  | d :: ds, _, 0, x, ⟨w, ws, e, h, t⟩, q => by
    subst e
    have : w = x := Option.some.inj q
    subst this
    exact ⟨d, rfl, h⟩
  | d :: ds, _, j + 1, x, ⟨w, ws, e, h, t⟩, q => by
    subst e
    exact RAs.getV (j := j) t q
theorem RAs.append : ∀ {ds es : List D} {vs ws : List V}, RAs K A H ds vs → RAs K A H es ws → RAs K A H (ds ++ es) (vs ++ ws)
  | [], _, _, _, h, t => by rw [show _ = [] from h]; exact t
  | d :: ds, _, _, _, ⟨w, ws, e, h, t⟩, q => by subst e; exact .cons h (RAs.append t q)
theorem RAs.one {d : D} {v : V} (h : RA K A H d v) : RAs K A H [d] [v] := .cons h .nil
theorem RAs.set : ∀ {ds : List D} {vs : List V} {j : Nat} {d : D} {w : V}, RAs K A H ds vs → RA K A H d w → RAs K A H (ds.set j d) (vs.set j w)
  | [], _, _, _, _, h, _ => by rw [show _ = [] from h]; exact .nil
  | d :: ds, _, 0, x, _, ⟨w, ws, e, h, t⟩, q => by subst e; exact .cons q t
  | d :: ds, _, j + 1, x, _, ⟨w, ws, e, h, t⟩, q => by subst e; exact .cons h (RAs.set t q)
theorem RAs.take : ∀ {ds : List D} {vs : List V} (n : Nat), RAs K A H ds vs → RAs K A H (ds.take n) (vs.take n)
  | _, _, 0, _ => by simp; exact .nil
  | [], _, n + 1, h => by rw [show _ = [] from h]; exact .nil
  | d :: ds, _, n + 1, ⟨w, ws, e, h, t⟩ => by subst e; exact .cons h (RAs.take n t)
theorem RAs.drop : ∀ {ds : List D} {vs : List V} (n : Nat), RAs K A H ds vs → RAs K A H (ds.drop n) (vs.drop n)
  | _, _, 0, h => h
  | [], _, n + 1, h => by rw [show _ = [] from h]; exact .nil
  | d :: ds, _, n + 1, ⟨w, ws, e, h, t⟩ => by subst e; exact RAs.drop n t
theorem RAs.eraseIdx {ds : List D} {vs : List V} (n : Nat) (h : RAs K A H ds vs) : RAs K A H (ds.eraseIdx n) (vs.eraseIdx n) := by
  rw [List.eraseIdx_eq_take_drop_succ, List.eraseIdx_eq_take_drop_succ]
  exact (h.take n).append (h.drop (n + 1))
theorem RAs.dropLast {ds : List D} {vs : List V} (h : RAs K A H ds vs) : RAs K A H ds.dropLast vs.dropLast := by
  rw [List.dropLast_eq_take, List.dropLast_eq_take, h.len]
  exact h.take _
theorem RA.int {i : Int} : RA K A H (.int i) (.int i) := rfl
theorem RA.bl {i : Bool} : RA K A H (.bl i) (.bl i) := rfl
theorem RA.str {i : Str} : RA K A H (.str i) (.str i) := rfl
theorem RA.non : RA K A H .non .non := rfl

def KeepF (A : Addr → Prop) (fp : List Addr) (H H' : Hp) : Prop := ∀ a o, H a = some o → (a ∈ fp ∨ A a ∨ Imm o) → H' a = some o
theorem KeepF.keep {fp : List Addr} (k : KeepF A fp H H') : Keep A H H' := fun a o e h => k a o e (.inr h)
theorem KeepF.of_same {fp : List Addr} (s : Same H H') : KeepF A fp H H' := fun a o e _ => s a o e
theorem KeepF.no {fp : List Addr} (k : KeepF A fp H H') : KeepF No fp H H' := fun a o e h => k a o e (by rcases h with h | h | h; exact .inl h; exact h.elim; exact .inr (.inr h))
theorem KeepF.sub {f g : List Addr} (k : KeepF A f H H') (s : ∀ a ∈ g, a ∈ f) : KeepF A g H H' := fun a o e h => k a o e (h.imp (s a) id)
theorem Keep.no (k : Keep A H H') : Keep No H H' := fun a o e h => k a o e (h.imp (fun z => z.elim) id)
mutual
theorem R.keep : ∀ (d : D) (v : V) (fp : List Addr), KeepF A fp H H' → R K A H d v fp → R K A H' d v fp
  | .non, _, _, _, h => h
  | .bl _, _, _, _, h => h
  | .int _, _, _, _, h => h
  | .str _, _, _, _, h => h
  | .fn _, _, _, _, h => h
  | .ad _, _, _, _, h => h
  | .key ns, v, _, k, ⟨e, h⟩ => ⟨e, RA.keep k.keep.no (.key ns) v h⟩
  | .tpx ns, v, _, k, ⟨e, h⟩ => ⟨e, RA.keep k.keep.no (.tpx ns) v h⟩
  | .exn C, v, _, k, ⟨e, h⟩ => ⟨e, RA.keep k.keep.no (.exn C) v h⟩
  | .lkT ns, v, _, k, ⟨e, h⟩ => ⟨e, RA.keep k.keep.no (.lkT ns) v h⟩
  | .any, _, _, _, h => h
  | .kst ds, v, _, k, ⟨e, h⟩ => ⟨e, RA.keep k.keep.no (.kst ds) v h⟩
  | .tup ds, _, fp, k, ⟨p, vs, e, t, r⟩ => ⟨p, vs, e, SqT.keep k.keep t, Rs.keep ds vs fp k r⟩
  | .lst ds, _, fp, k, ⟨p, vs, fps, e, e2, t, r⟩ => ⟨p, vs, fps, e, e2, k _ _ t (.inl (by rw [e2]; exact List.mem_cons_self)), Rs.keep ds vs fps (k.sub fun a h => by rw [e2]; exact List.mem_cons_of_mem _ h) r⟩
  | .lsA _ _, _, _, _, ⟨_, h⟩ => h.2.1.elim
  | .dcT ks ds, _, fp, k, ⟨p, vs, fps, e, e2, t, q, r⟩ => ⟨p, vs, fps, e, e2, k _ _ t (.inl (by rw [e2]; exact List.mem_cons_self)), q, Rs.keep ds _ fps (k.sub fun a h => by rw [e2]; exact List.mem_cons_of_mem _ h) r⟩
  | .dcK ks ds, _, fp, k, ⟨p, vs, fps, e, e2, t, q, r⟩ => ⟨p, vs, fps, e, e2, k _ _ t (.inl (by rw [e2]; exact List.mem_cons_self)), q, Rs.keep ds _ fps (k.sub fun a h => by rw [e2]; exact List.mem_cons_of_mem _ h) r⟩
  | .obj C ns ds, _, fp, k, ⟨p, dx, fs, fps, e, e2, t, q, r⟩ => ⟨p, dx, fs, fps, e, e2, k _ _ t (.inl (by rw [e2]; exact List.mem_cons_self)), q, Rs.keep ds _ fps (k.sub fun a h => by rw [e2]; exact List.mem_cons_of_mem _ h) r⟩
  | .frz d, v, fp, k, ⟨e, h⟩ => ⟨e, RA.keep k.keep d v h⟩
theorem Rs.keep : ∀ (ds : List D) (vs : List V) (fp : List Addr), KeepF A fp H H' → Rs K A H ds vs fp → Rs K A H' ds vs fp
  | [], _, _, _, h => h
  | d :: ds, _, fp, k, ⟨w, ws, f1, f2, e, e2, h, r⟩ => ⟨w, ws, f1, f2, e, e2, R.keep d w f1 (k.sub fun a h => by rw [e2]; exact List.mem_append_left _ h) h, Rs.keep ds ws f2 (k.sub fun a h => by rw [e2]; exact List.mem_append_right _ h) r⟩
end
mutual
theorem R.mono (m : ∀ a, A a → B a) : ∀ (d : D) (v : V) (fp : List Addr), R K A H d v fp → R K B H d v fp
  | .non, _, _, h => h
  | .bl _, _, _, h => h
  | .int _, _, _, h => h
  | .str _, _, _, h => h
  | .fn _, _, _, h => h
  | .ad _, _, _, h => h
  | .key _, _, _, h => h
  | .tpx _, _, _, h => h
  | .exn _, _, _, h => h
  | .lkT _, _, _, h => h
  | .any, _, _, h => h
  | .kst ds, v, _, h => h
  | .tup ds, _, fp, ⟨p, vs, e, t, r⟩ => ⟨p, vs, e, t, Rs.mono m ds vs fp r⟩
  | .lst ds, _, fp, ⟨p, vs, fps, e, e2, t, r⟩ => ⟨p, vs, fps, e, e2, t, Rs.mono m ds vs fps r⟩
  | .lsA _ _, _, _, ⟨_, h⟩ => h.2.1.elim
  | .dcT ks ds, _, fp, ⟨p, vs, fps, e, e2, t, q, r⟩ => ⟨p, vs, fps, e, e2, t, q, Rs.mono m ds _ fps r⟩
  | .dcK ks ds, _, fp, ⟨p, vs, fps, e, e2, t, q, r⟩ => ⟨p, vs, fps, e, e2, t, q, Rs.mono m ds _ fps r⟩
  | .obj C ns ds, _, fp, ⟨p, dx, fs, fps, e, e2, t, q, r⟩ => ⟨p, dx, fs, fps, e, e2, t, q, Rs.mono m ds _ fps r⟩
  | .frz d, v, fp, ⟨e, h⟩ => ⟨e, RA.mono m d v h⟩
theorem Rs.mono (m : ∀ a, A a → B a) : ∀ (ds : List D) (vs : List V) (fp : List Addr), Rs K A H ds vs fp → Rs K B H ds vs fp
  | [], _, _, h => h
  | d :: ds, _, fp, ⟨w, ws, f1, f2, e, e2, h, r⟩ => ⟨w, ws, f1, f2, e, e2, R.mono m d w f1 h, Rs.mono m ds ws f2 r⟩
end
mutual
theorem R.ra (m : ∀ a, A a → B a) : ∀ (d : D) (v : V) (fp : List Addr), (∀ a ∈ fp, B a) → R K A H d v fp → RA K B H d v
  | .non, _, _, _, h => h.2
  | .bl _, _, _, _, h => h.2
  | .int _, _, _, _, h => h.2
  | .str _, _, _, _, h => h.2
  | .fn _, _, _, _, h => h.2
  | .ad _, _, _, _, h => h.2
  | .key _, _, _, _, h => h.2
  | .tpx _, _, _, _, h => h.2
  | .exn _, _, _, _, h => h.2
  | .lkT _, _, _, _, h => h.2
  | .any, _, _, _, h => h.2
  | .kst ds, v, _, _, h => RA.no h.2
  | .tup ds, _, fp, k, ⟨p, vs, e, t, r⟩ => ⟨p, vs, e, t, Rs.ra m ds vs fp k r⟩
  | .lst ds, _, fp, k, ⟨p, vs, fps, e, e2, t, r⟩ => ⟨p, vs, e, k _ (by rw [e2]; exact List.mem_cons_self), t, Rs.ra m ds vs fps (fun a h => k a (by rw [e2]; exact List.mem_cons_of_mem _ h)) r⟩
  | .lsA _ _, _, _, _, ⟨_, h⟩ => h.2.1.elim
  | .dcT ks ds, _, fp, k, ⟨p, vs, fps, e, e2, t, q, r⟩ => ⟨p, vs, e, k _ (by rw [e2]; exact List.mem_cons_self), .inl t, q, Rs.ra m ds _ fps (fun a h => k a (by rw [e2]; exact List.mem_cons_of_mem _ h)) r⟩
  | .dcK ks ds, _, fp, k, ⟨p, vs, fps, e, e2, t, q, r⟩ => ⟨p, vs, e, k _ (by rw [e2]; exact List.mem_cons_self), .inl t, q, Rs.ra m ds _ fps (fun a h => k a (by rw [e2]; exact List.mem_cons_of_mem _ h)) r⟩
  | .obj C ns ds, _, fp, k, ⟨p, dx, fs, fps, e, e2, t, q, r⟩ => ⟨p, dx, fs, e, k _ (by rw [e2]; exact List.mem_cons_self), t, q, Rs.ra m ds _ fps (fun a h => k a (by rw [e2]; exact List.mem_cons_of_mem _ h)) r⟩
  | .frz d, v, fp, _, ⟨e, h⟩ => RA.mono m d v h
theorem Rs.ra (m : ∀ a, A a → B a) : ∀ (ds : List D) (vs : List V) (fp : List Addr), (∀ a ∈ fp, B a) → Rs K A H ds vs fp → RAs K B H ds vs
  | [], _, _, _, h => h.1
  | d :: ds, _, fp, k, ⟨w, ws, f1, f2, e, e2, h, r⟩ => ⟨w, ws, e, R.ra m d w f1 (fun a h => k a (by rw [e2]; exact List.mem_append_left _ h)) h, Rs.ra m ds ws f2 (fun a h => k a (by rw [e2]; exact List.mem_append_right _ h)) r⟩
end
mutual
theorem R.of0 : ∀ (d : D) (v : V), RA K No H d v → R K A H d v []
  | .non, _, h => ⟨rfl, h⟩
  | .bl _, _, h => ⟨rfl, h⟩
  | .int _, _, h => ⟨rfl, h⟩
  | .str _, _, h => ⟨rfl, h⟩
  | .fn _, _, h => ⟨rfl, h⟩
  | .ad _, _, h => ⟨rfl, h⟩
  | .key _, _, h => ⟨rfl, h⟩
  | .tpx _, _, h => ⟨rfl, h⟩
  | .exn _, _, h => ⟨rfl, h⟩
  | .lkT _, _, h => ⟨rfl, h⟩
  | .any, _, h => ⟨rfl, h⟩
  | .kst ds, v, h => ⟨rfl, h⟩
  | .tup ds, _, ⟨p, vs, e, t, r⟩ => ⟨p, vs, e, t, Rs.of0 ds vs r⟩
  | .lst ds, _, ⟨_, _, _, a, _⟩ => a.elim
  | .lsA _ _, _, ⟨_, a, _⟩ => a.elim
  | .dcT ks ds, _, ⟨_, _, _, a, _⟩ => a.elim
  | .dcK ks ds, _, ⟨_, _, _, a, _⟩ => a.elim
  | .obj C ns ds, _, ⟨_, _, _, _, a, _⟩ => a.elim
  | .frz d, v, h => ⟨rfl, RA.no h⟩
theorem Rs.of0 : ∀ (ds : List D) (vs : List V), RAs K No H ds vs → Rs K A H ds vs []
  | [], _, h => ⟨h, rfl⟩
  | d :: ds, _, ⟨w, ws, e, h, r⟩ => ⟨w, ws, [], [], e, rfl, R.of0 d w h, Rs.of0 ds ws r⟩
end
mutual
theorem R.nil0 : ∀ (d : D) (v : V) (fp : List Addr), RA K No H d v → R K A H' d v fp → fp = []
  | .non, _, _, _, h => h.1
  | .bl _, _, _, _, h => h.1
  | .int _, _, _, _, h => h.1
  | .str _, _, _, _, h => h.1
  | .fn _, _, _, _, h => h.1
  | .ad _, _, _, _, h => h.1
  | .key _, _, _, _, h => h.1
  | .tpx _, _, _, _, h => h.1
  | .exn _, _, _, _, h => h.1
  | .lkT _, _, _, _, h => h.1
  | .any, _, _, _, h => h.1
  | .kst ds, v, _, _, h => h.1
  | .tup ds, _, fp, ⟨p, vs, e, t, r⟩, ⟨p', vs', e', t', r'⟩ => Rs.nil0 ds fp ⟨vs, r⟩ ⟨vs', r'⟩
  | .lst ds, _, _, ⟨_, _, _, a, _⟩, _ => a.elim
  | .lsA _ _, _, _, ⟨_, a, _⟩, _ => a.elim
  | .dcT ks ds, _, _, ⟨_, _, _, a, _⟩, _ => a.elim
  | .dcK ks ds, _, _, ⟨_, _, _, a, _⟩, _ => a.elim
  | .obj C ns ds, _, _, ⟨_, _, _, _, a, _⟩, _ => a.elim
  | .frz d, v, _, _, h => h.1
theorem Rs.nil0 : ∀ (ds : List D) (fp : List Addr), (∃ vs, RAs K No H ds vs) → (∃ vs, Rs K A H' ds vs fp) → fp = []
  | [], _, _, ⟨_, h⟩ => h.2
  | d :: ds, fp, ⟨_, w, ws, e, h, r⟩, ⟨_, w', ws', f1, f2, e', e2, h', r'⟩ => by
    rw [e2, R.nil1 d f1 ⟨w, h⟩ ⟨w', h'⟩, Rs.nil0 ds f2 ⟨ws, r⟩ ⟨ws', r'⟩]; rfl
theorem R.nil1 : ∀ (d : D) (fp : List Addr), (∃ v, RA K No H d v) → (∃ v, R K A H' d v fp) → fp = []
  | .non, _, _, ⟨_, h⟩ => h.1
  | .bl _, _, _, ⟨_, h⟩ => h.1
  | .int _, _, _, ⟨_, h⟩ => h.1
  | .str _, _, _, ⟨_, h⟩ => h.1
  | .fn _, _, _, ⟨_, h⟩ => h.1
  | .ad _, _, _, ⟨_, h⟩ => h.1
  | .key _, _, _, ⟨_, h⟩ => h.1
  | .tpx _, _, _, ⟨_, h⟩ => h.1
  | .exn _, _, _, ⟨_, h⟩ => h.1
  | .lkT _, _, _, ⟨_, h⟩ => h.1
  | .any, _, _, ⟨_, h⟩ => h.1
  | .kst ds, _, _, ⟨_, h⟩ => h.1
  | .tup ds, fp, ⟨_, p, vs, e, t, r⟩, ⟨_, p', vs', e', t', r'⟩ => Rs.nil0 ds fp ⟨vs, r⟩ ⟨vs', r'⟩
  | .lst ds, _, ⟨_, _, _, _, a, _⟩, _ => a.elim
  | .lsA _ _, _, ⟨_, _, a, _⟩, _ => a.elim
  | .dcT ks ds, _, ⟨_, _, _, _, a, _⟩, _ => a.elim
  | .dcK ks ds, _, ⟨_, _, _, _, a, _⟩, _ => a.elim
  | .obj C ns ds, _, ⟨_, _, _, _, _, a, _⟩, _ => a.elim
  | .frz d, _, _, ⟨_, h⟩ => h.1
end
mutual
theorem R.mu : ∀ (d : D) (v : V) (fp : List Addr), R K A H d v fp → ∀ a ∈ fp, ∃ o, H a = some o ∧ Mu o
  | .non, _, _, h => fun a q => by rw [h.1] at q; cases q
  | .bl _, _, _, h => fun a q => by rw [h.1] at q; cases q
  | .int _, _, _, h => fun a q => by rw [h.1] at q; cases q
  | .str _, _, _, h => fun a q => by rw [h.1] at q; cases q
  | .fn _, _, _, h => fun a q => by rw [h.1] at q; cases q
  | .ad _, _, _, h => fun a q => by rw [h.1] at q; cases q
  | .key _, _, _, h => fun a q => by rw [h.1] at q; cases q
  | .tpx _, _, _, h => fun a q => by rw [h.1] at q; cases q
  | .exn _, _, _, h => fun a q => by rw [h.1] at q; cases q
  | .lkT _, _, _, h => fun a q => by rw [h.1] at q; cases q
  | .any, _, _, h => fun a q => by rw [h.1] at q; cases q
  | .kst ds, v, _, h => fun a q => by rw [h.1] at q; cases q
  | .tup ds, _, fp, ⟨p, vs, e, t, r⟩ => Rs.mu ds vs fp r
  | .lsA _ _, _, _, ⟨_, h⟩ => h.2.1.elim
  | .lst ds, _, fp, ⟨p, vs, fps, e, e2, t, r⟩ => fun a q => by
    rw [e2] at q
    rcases List.mem_cons.mp q with rfl | q
    · exact ⟨_, t, trivial⟩
    · exact Rs.mu ds vs fps r a q
  | .dcT ks ds, _, fp, ⟨p, vs, fps, e, e2, t, _, r⟩ => fun a q => by
    rw [e2] at q
    rcases List.mem_cons.mp q with rfl | q
    · exact ⟨_, t, trivial⟩
    · exact Rs.mu ds _ fps r a q
  | .dcK ks ds, _, fp, ⟨p, vs, fps, e, e2, t, _, r⟩ => fun a q => by
    rw [e2] at q
    rcases List.mem_cons.mp q with rfl | q
    · exact ⟨_, t, trivial⟩
    · exact Rs.mu ds _ fps r a q
  | .obj C ns ds, _, fp, ⟨p, dx, fs, fps, e, e2, t, _, r⟩ => fun a q => by
    rw [e2] at q
    rcases List.mem_cons.mp q with rfl | q
    · exact ⟨_, t, trivial⟩
    · exact Rs.mu ds _ fps r a q
  | .frz d, v, _, h => fun a q => by rw [h.1] at q; cases q
theorem Rs.mu : ∀ (ds : List D) (vs : List V) (fp : List Addr), Rs K A H ds vs fp → ∀ a ∈ fp, ∃ o, H a = some o ∧ Mu o
  | [], _, _, h => fun a q => by rw [h.2] at q; cases q
  | d :: ds, _, fp, ⟨w, ws, f1, f2, e, e2, h, r⟩ => fun a q => by
    rw [e2] at q
    rcases List.mem_append.mp q with q | q
    · exact R.mu d w f1 h a q
    · exact Rs.mu ds ws f2 r a q
end
theorem Rs.nil : Rs K A H [] [] [] := ⟨rfl, rfl⟩
theorem Rs.cons {d : D} {v : V} {ds : List D} {vs : List V} {f g : List Addr} (h : R K A H d v f) (t : Rs K A H ds vs g) : Rs K A H (d :: ds) (v :: vs) (f ++ g) := ⟨v, vs, f, g, rfl, rfl, h, t⟩
theorem Rs.len : ∀ {ds : List D} {vs : List V} {fp : List Addr}, Rs K A H ds vs fp → vs.length = ds.length
  | [], _, _, h => by rw [h.1]; rfl
  | d :: ds, _, _, ⟨w, ws, _, _, e, _, _, t⟩ => by rw [e, List.length_cons, List.length_cons, Rs.len t]
theorem Rs.append : ∀ {ds es : List D} {vs ws : List V} {f g : List Addr}, Rs K A H ds vs f → Rs K A H es ws g → Rs K A H (ds ++ es) (vs ++ ws) (f ++ g)
  | [], _, _, _, _, _, h, t => by rw [h.1, h.2]; exact t
  | d :: ds, _, _, _, _, _, ⟨w, ws, f1, f2, e, e2, h, t⟩, q => by subst e e2; rw [List.append_assoc]; exact .cons h (Rs.append t q)
theorem Rs.one {d : D} {v : V} {f : List Addr} (h : R K A H d v f) : Rs K A H [d] [v] f := ⟨v, [], f, [], rfl, (List.append_nil f).symm, h, .nil⟩
theorem Rs.split : ∀ {ds : List D} {vs : List V} {fp : List Addr} {j : Nat} {d : D}, Rs K A H ds vs fp → ds[j]? = some d →
    ∃ w f1 f2 f3, vs[j]? = some w ∧ fp = f1 ++ (f2 ++ f3) ∧ Rs K A H (ds.take j) (vs.take j) f1 ∧ R K A H d w f2 ∧ Rs K A H (ds.drop (j + 1)) (vs.drop (j + 1)) f3
  | [], _, _, _, _, _, e => by simp at e
  | d :: ds, _, _, 0, x, ⟨w, ws, f1, f2, e, e2, h, t⟩, q => by
    have : d = x := Option.some.inj q
    subst this e e2
    exact ⟨w, [], f1, f2, rfl, rfl, .nil, h, t⟩
  | d :: ds, _, _, j + 1, x, ⟨w, ws, f1, f2, e, e2, h, t⟩, q => by
    subst e e2
    obtain ⟨y, g1, g2, g3, a, b, c, d', e'⟩ := Rs.split (j := j) t q
    exact ⟨y, f1 ++ g1, g2, g3, a, by rw [b, List.append_assoc], .cons h c, d', e'⟩
theorem set_split {α : Type} {l : List α} {j : Nat} {x y : α} (h : l[j]? = some x) : l.set j y = l.take j ++ y :: l.drop (j + 1) := by
  have hl : j < l.length := (List.getElem?_eq_some_iff.mp h).1
  rw [List.set_eq_take_append_cons_drop, if_pos hl]
theorem Rs.put {ds : List D} {vs : List V} {j : Nat} {d d' : D} {w w' : V} {f1 f2 f3 : List Addr} (hd : ds[j]? = some d) (hv : vs[j]? = some w)
    (h1 : Rs K A H (ds.take j) (vs.take j) f1) (h2 : R K A H d' w' f2) (h3 : Rs K A H (ds.drop (j + 1)) (vs.drop (j + 1)) f3) : Rs K A H (ds.set j d') (vs.set j w') (f1 ++ (f2 ++ f3)) := by
  rw [set_split hd, set_split hv]
  exact h1.append (.cons h2 h3)
theorem Rs.take : ∀ {ds : List D} {vs : List V} {fp : List Addr} (n : Nat), Rs K A H ds vs fp → ∃ f1 f2, fp = f1 ++ f2 ∧ Rs K A H (ds.take n) (vs.take n) f1 ∧ Rs K A H (ds.drop n) (vs.drop n) f2
  | _, _, fp, 0, h => ⟨[], fp, rfl, by simp; exact .nil, h⟩
  | [], _, fp, n + 1, h => by obtain ⟨e1, e2⟩ := h; subst e1 e2; exact ⟨[], [], rfl, .nil, .nil⟩
  | d :: ds, _, _, n + 1, ⟨w, ws, f1, f2, e, e2, h, t⟩ => by
    subst e e2
    obtain ⟨g1, g2, a, b, c⟩ := Rs.take n t
    exact ⟨f1 ++ g1, g2, by rw [a, List.append_assoc], .cons h b, c⟩
theorem set_same {α : Type} {l : List α} {j : Nat} {x : α} (h : l[j]? = some x) : l.set j x = l := by
  apply List.ext_getElem?
  intro i
  by_cases hi : j = i
  · subst hi
    rw [List.getElem?_set_self (List.getElem?_eq_some_iff.mp h).1, h]
  · rw [List.getElem?_set_ne hi]
end

section
variable {K : Frg} {A : Addr → Prop} {H H1 : Hp}
def Zip (K : Frg) (A : Addr → Prop) (H : Hp) (d : D) (v : V) (fp : List Addr) (rb : D → D) (e : D) (w : V) (fe : List Addr) : Prop :=
  ∃ f1 f2, fp = f1 ++ (fe ++ f2) ∧ R K A H e w fe ∧ ∀ (H' : Hp) (A' : Addr → Prop) (e' : D) (fe' : List Addr), (∀ a, A a → A' a) → KeepF A (f1 ++ f2) H H' → R K A' H' e' w fe' → R K A' H' (rb e') v (f1 ++ (fe' ++ f2))
theorem Zip.root {d : D} {v : V} {fp : List Addr} (h : R K A H d v fp) : Zip K A H d v fp id d v fp :=
  ⟨[], [], by simp, h, fun H' A' e' fe' _ _ r => by simpa using r⟩
theorem keepF_trans {fp : List Addr} {H2 : Hp} (k : KeepF A fp H H1) (k2 : KeepF A fp H1 H2) : KeepF A fp H H2 := fun a o e h => k2 a o (k a o e h) h
theorem Zip.keep {d : D} {v : V} {fp : List Addr} {rb : D → D} {e : D} {w : V} {fe : List Addr} (z : Zip K A H d v fp rb e w fe) (k : KeepF A fp H H1) : Zip K A H1 d v fp rb e w fe := by
  obtain ⟨f1, f2, e1, r, g⟩ := z
  subst e1
  have k1 : KeepF A fe H H1 := k.sub fun a h => by simp [h]
  have k2 : KeepF A (f1 ++ f2) H H1 := k.sub fun a h => by
    rcases List.mem_append.mp h with h | h <;> simp [h]
  exact ⟨f1, f2, rfl, R.keep _ _ _ k1 r, fun H' A' e' fe' m k' r' => g H' A' e' fe' m (keepF_trans k2 k') r'⟩
theorem mem3 {a : Addr} {f1 f2 g1 g2 : List Addr} {p : Addr} : a ∈ f1 ++ f2 → a ∈ (f1 ++ p :: g1) ++ (g2 ++ f2) := fun h => by
  rcases List.mem_append.mp h with h | h <;> simp [h]
theorem Zip.step_tup {d : D} {v : V} {fp : List Addr} {rb : D → D} {ds : List D} {w : V} {fe : List Addr} {j : Nat} {c : D} (z : Zip K A H d v fp rb (.tup ds) w fe) (hj : ds[j]? = some c) :
    ∃ p vs w' fc, w = .ref p ∧ SqT K H p vs ∧ vs.length = ds.length ∧ vs[j]? = some w' ∧ Zip K A H d v fp (fun c' => rb (.tup (ds.set j c'))) c w' fc := by
  obtain ⟨f1, f2, e1, ⟨p, vs, rfl, t, r⟩, g⟩ := z
  obtain ⟨w', g1, fc, g3, hw, e2, r1, r2, r3⟩ := Rs.split r hj
  subst e1 e2
  refine ⟨p, vs, w', fc, rfl, t, r.len, hw, f1 ++ g1, g3 ++ f2, by simp [List.append_assoc], r2, fun H' A' e' fe' m k r' => ?_⟩
  have q := g H' A' (.tup (ds.set j e')) (g1 ++ (fe' ++ g3)) m (k.sub fun a h => by rcases List.mem_append.mp h with h | h <;> simp [h])
    ⟨p, vs.set j w', rfl, by rw [set_same hw]; exact SqT.keep k.keep t, Rs.put hj hw (Rs.mono m _ _ _ (Rs.keep _ _ _ (k.sub fun a h => by simp [h]) r1)) r' (Rs.mono m _ _ _ (Rs.keep _ _ _ (k.sub fun a h => by simp [h]) r3))⟩
  simpa [List.append_assoc] using q
theorem Zip.step_lst {d : D} {v : V} {fp : List Addr} {rb : D → D} {ds : List D} {w : V} {fe : List Addr} {j : Nat} {c : D} (z : Zip K A H d v fp rb (.lst ds) w fe) (hj : ds[j]? = some c) :
    ∃ p vs w' fc, w = .ref p ∧ H p = some (.lst vs) ∧ vs.length = ds.length ∧ vs[j]? = some w' ∧ Zip K A H d v fp (fun c' => rb (.lst (ds.set j c'))) c w' fc := by
  obtain ⟨f1, f2, e1, ⟨p, vs, fps, rfl, e2, t, r⟩, g⟩ := z
  obtain ⟨w', g1, fc, g3, hw, e3, r1, r2, r3⟩ := Rs.split r hj
  subst e1 e2 e3
  refine ⟨p, vs, w', fc, rfl, t, r.len, hw, f1 ++ p :: g1, g3 ++ f2, by simp [List.append_assoc], r2, fun H' A' e' fe' m k r' => ?_⟩
  have q := g H' A' (.lst (ds.set j e')) (p :: (g1 ++ (fe' ++ g3))) m (k.sub fun a h => mem3 h)
    ⟨p, vs.set j w', _, rfl, rfl, by rw [set_same hw]; exact k _ _ t (.inl (by simp)), Rs.put hj hw (Rs.mono m _ _ _ (Rs.keep _ _ _ (k.sub fun a h => by simp [h]) r1)) r' (Rs.mono m _ _ _ (Rs.keep _ _ _ (k.sub fun a h => by simp [h]) r3))⟩
  simpa [List.append_assoc] using q
theorem Zip.step_obj {d : D} {v : V} {fp : List Addr} {rb : D → D} {C : Str} {ns : List Str} {ds : List D} {w : V} {fe : List Addr} {j : Nat} {c : D} (z : Zip K A H d v fp rb (.obj C ns ds) w fe) (hj : ds[j]? = some c) :
    ∃ p dx fs w' fc, w = .ref p ∧ H p = some (.ins (He.ga K C) dx fs) ∧ fs.map (·.1) = ns ∧ (fs.map (·.2))[j]? = some w' ∧ Zip K A H d v fp (fun c' => rb (.obj C ns (ds.set j c'))) c w' fc := by
  obtain ⟨f1, f2, e1, ⟨p, dx, fs, fps, rfl, e2, t, en, r⟩, g⟩ := z
  obtain ⟨w', g1, fc, g3, hw, e3, r1, r2, r3⟩ := Rs.split r hj
  subst e1 e2 e3
  refine ⟨p, dx, fs, w', fc, rfl, t, en, hw, f1 ++ p :: g1, g3 ++ f2, by simp [List.append_assoc], r2, fun H' A' e' fe' m k r' => ?_⟩
  have q := g H' A' (.obj C ns (ds.set j e')) (p :: (g1 ++ (fe' ++ g3))) m (k.sub fun a h => mem3 h)
    ⟨p, dx, fs, _, rfl, rfl, k _ _ t (.inl (by simp)), en, by
      have := Rs.put (w' := w') hj hw (Rs.mono m _ _ _ (Rs.keep _ _ _ (k.sub fun a h => by simp [h]) r1)) r' (Rs.mono m _ _ _ (Rs.keep _ _ _ (k.sub fun a h => by simp [h]) r3))
      rwa [set_same hw] at this⟩
  simpa [List.append_assoc] using q
theorem Zip.step_dcK {d : D} {v : V} {fp : List Addr} {rb : D → D} {ks : List Key} {ds : List D} {w : V} {fe : List Addr} {j : Nat} {c : D} (z : Zip K A H d v fp rb (.dcK ks ds) w fe) (hj : ds[j]? = some c) :
    ∃ p kvs w' fc, w = .ref p ∧ H p = some (.dK kvs) ∧ kvs.map (·.1) = ks ∧ (kvs.map (·.2))[j]? = some w' ∧ Zip K A H d v fp (fun c' => rb (.dcK ks (ds.set j c'))) c w' fc := by
  obtain ⟨f1, f2, e1, ⟨p, fs, fps, rfl, e2, t, en, r⟩, g⟩ := z
  obtain ⟨w', g1, fc, g3, hw, e3, r1, r2, r3⟩ := Rs.split r hj
  subst e1 e2 e3
  refine ⟨p, fs, w', fc, rfl, t, en, hw, f1 ++ p :: g1, g3 ++ f2, by simp [List.append_assoc], r2, fun H' A' e' fe' m k r' => ?_⟩
  have q := g H' A' (.dcK ks (ds.set j e')) (p :: (g1 ++ (fe' ++ g3))) m (k.sub fun a h => mem3 h)
    ⟨p, fs, _, rfl, rfl, k _ _ t (.inl (by simp)), en, by
      have := Rs.put (w' := w') hj hw (Rs.mono m _ _ _ (Rs.keep _ _ _ (k.sub fun a h => by simp [h]) r1)) r' (Rs.mono m _ _ _ (Rs.keep _ _ _ (k.sub fun a h => by simp [h]) r3))
      rwa [set_same hw] at this⟩
  simpa [List.append_assoc] using q
end

def Shal (K : Frg) (H : Hp) : D → V → Prop
  | .lst ds, v => ∃ p vs, v = .ref p ∧ H p = some (.lst vs) ∧ RAs K No H ds vs
  | .kst ds, v => ∃ p vs, v = .ref p ∧ SqL K (lockd H) p vs ∧ RAs K No H ds vs
  | .dcT ks ds, v => ∃ p kvs, v = .ref p ∧ Rd H p (.dT kvs) ∧ kvs.map (·.1) = ks ∧ RAs K No H ds (kvs.map (·.2))
  | .dcK ks ds, v => ∃ p kvs, v = .ref p ∧ Rd H p (.dK kvs) ∧ kvs.map (·.1) = ks ∧ RAs K No H ds (kvs.map (·.2))
  | _, _ => False
def VR (K : Frg) (A : Addr → Prop) (H : Hp) : KD → V → List Addr → Prop
  | (.fl, d), v, f => f = [] ∧ RA K No H d v
  | (.sa, d), v, f => f = [] ∧ RA K A H d v ∧ Shal K H d v
  | (.rd, d), v, f => f = [] ∧ RA K A H d v
  | (.sh, d), v, f => R K No H d v f ∧ Shal K H d v
  | (.ow, d), v, f => R K No H d v f
def Slot (K : Frg) (A : Addr → Prop) (H : Hp) : Sl → Option V → List Addr → Prop
  | none, _, f => f = []
  | some kd, x, f => ∃ v, x = some v ∧ VR K A H kd v f
def RepS (K : Frg) (A : Addr → Prop) (H : Hp) : List Sl → L2.St → List Addr → Prop
  | [], σ, ow => σ = [] ∧ ow = []
  | s :: ρ, σ, ow => ∃ x σ' f g, σ = x :: σ' ∧ ow = f ++ g ∧ Slot K A H s x f ∧ RepS K A H ρ σ' g
structure Good (K : Frg) (A : Addr → Prop) (H : Hp) (ρ : List Sl) (σ : L2.St) (ow : List Addr) : Prop where
  rep : RepS K A H ρ σ ow
  nd : ow.Nodup
  dis : ∀ a ∈ ow, ¬ A a
  tr : ∀ a, A a → ∃ o, H a = some o
structure Stp (H : Hp) (ow : List Addr) (A : Addr → Prop) (H' : Hp) (ow' : List Addr) (A' : Addr → Prop) : Prop where
  same : ∀ a o, H a = some o → a ∉ ow → H' a = some o
  own : ∀ a ∈ ow', a ∈ ow ∨ H a = none
  up : ∀ a, A a → A' a
  fr : ∀ a, A' a → A a ∨ a ∈ ow ∨ H a = none
section
variable {K : Frg} {A A' A1 A2 : Addr → Prop} {H H' H1 H2 : Hp} {ow ow' ow1 ow2 : List Addr}
theorem Shal.keep {d : D} {v : V} (k : ∀ p u, v = .ref p → H p = some u → H' p = some u) (k2 : Keep No H H') (h : Shal K H d v) : Shal K H' d v := by
  have k' : ∀ p u, v = .ref p → Rd H p u → Rd H' p u := fun p u e r => by
    rcases r with r | ⟨o, r⟩
    · exact .inl (k p _ e r)
    · exact .inr ⟨o, k p _ e r⟩
  cases d <;> first
    | exact h.elim
    | (obtain ⟨p, vs, e, t, r⟩ := h; exact ⟨p, vs, e, k p _ e t, RAs.keep k2 _ _ r⟩)
    | (obtain ⟨p, vs, e, t, r⟩ := h; exact ⟨p, vs, e, kst_keep k2 t, RAs.keep k2 _ _ r⟩)
    | (obtain ⟨p, vs, e, t, q, r⟩ := h; exact ⟨p, vs, e, k' p _ e t, q, RAs.keep k2 _ _ r⟩)
theorem Rd.same {p : Addr} {u : HO} (s : Same H H') (r : Rd H p u) : Rd H' p u := by
  rcases r with r | ⟨o, r⟩
  · exact .inl (s _ _ r)
  · exact .inr ⟨o, s _ _ r⟩
theorem Shal.same {d : D} {v : V} (s : Same H H') (h : Shal K H d v) : Shal K H' d v := h.keep (fun _ _ _ r => s _ _ r) (Keep.of_same s)
theorem VR.keep {kd : KD} {v : V} {f : List Addr} (k : KeepF A f H H') (h : VR K A H kd v f) : VR K A H' kd v f := by
  obtain ⟨c, d⟩ := kd
  cases c with
  | fl => exact ⟨h.1, RA.keep k.keep.no _ _ h.2⟩
  | rd => exact ⟨h.1, RA.keep k.keep _ _ h.2⟩
  | ow => exact R.keep _ _ _ k.no h
  | sa =>
    refine ⟨h.1, RA.keep k.keep _ _ h.2.1, ?_⟩
    have h1 := h.2.1
    have h2 := h.2.2
    cases d <;> first
      | exact h2.elim
      | (obtain ⟨p, vs, e, a, t, r⟩ := h1; refine h2.keep (fun p' u e' q => ?_) k.keep.no; rw [e] at e'; cases e'; exact k.keep _ _ q (.inl a))
      | (obtain ⟨p, vs, e, t, r⟩ := h2; exact ⟨p, vs, e, kst_keep k.keep.no t, RAs.keep k.keep.no _ _ r⟩)
      | (obtain ⟨p, vs, e, a, t, q', r⟩ := h1; refine h2.keep (fun p' u e' q => ?_) k.keep.no; rw [e] at e'; cases e'; exact k.keep _ _ q (.inl a))
  | sh =>
    refine ⟨R.keep _ _ _ k.no h.1, ?_⟩
    have h1 := h.1
    have h2 := h.2
    have q0 : ∀ p, p ∈ f → ∀ u, H p = some u → H' p = some u := fun p hp u r => k _ _ r (.inl hp)
    cases d <;> first
      | exact h2.elim
      | (obtain ⟨p, vs, fps, e, e2, t, r⟩ := h1; refine h2.keep (fun p' u e' q => ?_) k.keep.no; rw [e] at e'; cases e'; exact q0 p (by rw [e2]; exact List.mem_cons_self) u q)
      | (obtain ⟨p, vs, e, t, r⟩ := h2; exact ⟨p, vs, e, kst_keep k.keep.no t, RAs.keep k.keep.no _ _ r⟩)
      | (obtain ⟨p, vs, fps, e, e2, t, q', r⟩ := h1; refine h2.keep (fun p' u e' q => ?_) k.keep.no; rw [e] at e'; cases e'; exact q0 p (by rw [e2]; exact List.mem_cons_self) u q)
theorem VR.mono {kd : KD} {v : V} {f : List Addr} (m : ∀ a, A a → A' a) (h : VR K A H kd v f) : VR K A' H kd v f := by
  obtain ⟨c, d⟩ := kd
  cases c with
  | fl => exact h
  | rd => exact ⟨h.1, RA.mono m _ _ h.2⟩
  | ow => exact h
  | sa => exact ⟨h.1, RA.mono m _ _ h.2.1, h.2.2⟩
  | sh => exact h
theorem Slot.keep {s : Sl} {x : Option V} {f : List Addr} (k : KeepF A f H H') (h : Slot K A H s x f) : Slot K A H' s x f := by
  cases s with
  | none => exact h
  | some kd => obtain ⟨v, e, h⟩ := h; exact ⟨v, e, h.keep k⟩
theorem Slot.mono {s : Sl} {x : Option V} {f : List Addr} (m : ∀ a, A a → A' a) (h : Slot K A H s x f) : Slot K A' H s x f := by
  cases s with
  | none => exact h
  | some kd => obtain ⟨v, e, h⟩ := h; exact ⟨v, e, h.mono m⟩
theorem RepS.keep : ∀ {ρ : List Sl} {σ : L2.St} {ow : List Addr}, KeepF A ow H H' → RepS K A H ρ σ ow → RepS K A H' ρ σ ow
  | [], _, _, _, h => h
  | s :: ρ, _, _, k, ⟨x, σ', f, g, e, e2, h, r⟩ => ⟨x, σ', f, g, e, e2, h.keep (k.sub fun a q => by rw [e2]; exact List.mem_append_left _ q), RepS.keep (k.sub fun a q => by rw [e2]; exact List.mem_append_right _ q) r⟩
theorem RepS.mono (m : ∀ a, A a → A' a) : ∀ {ρ : List Sl} {σ : L2.St} {ow : List Addr}, RepS K A H ρ σ ow → RepS K A' H ρ σ ow
  | [], _, _, h => h
  | s :: ρ, _, _, ⟨x, σ', f, g, e, e2, h, r⟩ => ⟨x, σ', f, g, e, e2, h.mono m, RepS.mono m r⟩
theorem RepS.len : ∀ {ρ : List Sl} {σ : L2.St} {ow : List Addr}, RepS K A H ρ σ ow → σ.length = ρ.length
  | [], _, _, h => by rw [h.1]; rfl
  | s :: ρ, _, _, ⟨x, σ', f, g, e, e2, h, r⟩ => by rw [e, List.length_cons, List.length_cons, RepS.len r]
theorem RepS.split : ∀ {ρ : List Sl} {σ : L2.St} {ow : List Addr} {i : Nat} {s : Sl}, RepS K A H ρ σ ow → ρ[i]? = some s →
    ∃ x f1 f2 f3, σ[i]? = some x ∧ ow = f1 ++ (f2 ++ f3) ∧ Slot K A H s x f2 ∧
      ∀ (H' : Hp) (A' : Addr → Prop) (s' : Sl) (x' : Option V) (f2' : List Addr), (∀ a, A a → A' a) → KeepF A (f1 ++ f3) H H' → Slot K A' H' s' x' f2' → RepS K A' H' (ρ.set i s') (σ.set i x') (f1 ++ (f2' ++ f3))
  | [], _, _, _, _, _, e => by simp at e
  | t :: ρ, _, _, 0, s, ⟨x, σ', f, g, e, e2, h, r⟩, q => by
    have : t = s := Option.some.inj q
    subst this e e2
    exact ⟨x, [], f, g, rfl, rfl, h, fun H' A' s' x' f2' m k h' => ⟨x', σ', f2', g, rfl, rfl, h', RepS.mono m (RepS.keep (k.sub fun a z => by simpa using z) r)⟩⟩
  | t :: ρ, _, _, i + 1, s, ⟨x, σ', f, g, e, e2, h, r⟩, q => by
    subst e e2
    obtain ⟨y, f1, f2, f3, a, b, c, d⟩ := RepS.split (i := i) r q
    subst b
    refine ⟨y, f ++ f1, f2, f3, a, by rw [List.append_assoc], c, fun H' A' s' x' f2' m k h' => ?_⟩
    refine ⟨x, σ'.set i x', f, f1 ++ (f2' ++ f3), rfl, by rw [List.append_assoc], (h.keep (k.sub fun a z => by simp [z])).mono m, d H' A' s' x' f2' m (k.sub fun a z => ?_) h'⟩
    rcases List.mem_append.mp z with z | z <;> simp [z]
theorem RepS.mu : ∀ {ρ : List Sl} {σ : L2.St} {ow : List Addr}, RepS K A H ρ σ ow → ∀ a ∈ ow, ∃ o, H a = some o ∧ Mu o
  | [], _, _, h => fun a q => by rw [h.2] at q; cases q
  | s :: ρ, _, _, ⟨x, σ', f, g, e, e2, h, r⟩ => fun a q => by
    rw [e2] at q
    rcases List.mem_append.mp q with q | q
    · cases s with
      | none => rw [show f = [] from h] at q; cases q
      | some kd =>
        obtain ⟨v, _, h⟩ := h
        obtain ⟨c, d⟩ := kd
        cases c with
        | fl => rw [h.1] at q; cases q
        | rd => rw [h.1] at q; cases q
        | sa => rw [h.1] at q; cases q
        | ow => exact R.mu _ _ _ h a q
        | sh => exact R.mu _ _ _ h.1 a q
    · exact RepS.mu r a q
theorem Stp.refl : Stp H ow A H ow A := ⟨fun _ _ e _ => e, fun _ h => .inl h, fun _ h => h, fun _ h => .inl h⟩
theorem Stp.of_same (s : Same H H') : Stp H ow A H' ow A := ⟨fun a o e _ => s a o e, fun _ h => .inl h, fun _ h => h, fun _ h => .inl h⟩
theorem Stp.none (s : Stp H ow A H1 ow1 A1) {a : Addr} (h : H1 a = none) : a ∈ ow ∨ H a = none := by
  cases e : H a with
  | none => exact .inr rfl
  | some o =>
    refine .inl (Classical.byContradiction fun z => ?_)
    rw [s.same a o e z] at h; cases h
theorem Stp.trans (s : Stp H ow A H1 ow1 A1) (t : Stp H1 ow1 A1 H2 ow2 A2) : Stp H ow A H2 ow2 A2 where
  same := fun a o e n => t.same a o (s.same a o e n) fun z => by
    rcases s.own a z with z | z
    · exact n z
    · rw [e] at z; cases z
  own := fun a h => by
    rcases t.own a h with z | z
    · exact s.own a z
    · exact s.none z
  up := fun a h => t.up a (s.up a h)
  fr := fun a h => by
    rcases t.fr a h with z | z | z
    · exact s.fr a z
    · exact .inr (s.own a z)
    · exact .inr (s.none z)
theorem Stp.sub {ow0 : List Addr} (s : Stp H ow A H' ow' A') (h : ∀ a ∈ ow0, a ∈ ow') : Stp H ow A H' ow0 A' := ⟨s.same, fun a z => s.own a (h a z), s.up, s.fr⟩
theorem Good.keepA {ρ : List Sl} {σ : L2.St} (g : Good K A H ρ σ ow) (s : Stp H ow A H' ow' A') : Keep A H H' := fun a o e h => s.same a o e fun z => by
  rcases h with h | h
  · exact g.dis a z h
  · obtain ⟨u, e', m⟩ := g.rep.mu a z
    rw [e] at e'; cases e'
    exact m.notImm h
theorem Good.same {ρ : List Sl} {σ : L2.St} (g : Good K A H ρ σ ow) (s : Same H H') : Good K A H' ρ σ ow :=
  ⟨g.rep.keep (KeepF.of_same s), g.nd, g.dis, fun a h => let ⟨o, e⟩ := g.tr a h; ⟨o, s a o e⟩⟩
end
end DL

namespace DL
open PySem PySem.Spec PyProof.Rows L2

abbrev Ro := List Sl
abbrev PF := Ro → (KD → Prop) → Prop
abbrev PTF := Ro → (Bool → Prop) → Prop
abbrev PAF := Ro → (List KD → Prop) → Prop
abbrev BB (A : Addr → Prop) (ow : List Addr) : Addr → Prop := fun a => A a ∨ a ∈ ow
abbrev Fre (H : Hp) : Addr → Prop := fun a => H a = none
abbrev Or2 (B F : Addr → Prop) : Addr → Prop := fun a => B a ∨ F a
def PR (K : Frg) (B F : Addr → Prop) (H : Hp) (v : V) (z : KD) : Prop := ∃ fp, VR K (Or2 B F) H z v fp ∧ fp.Nodup ∧ ∀ a ∈ fp, F a
def VRs (K : Frg) (A : Addr → Prop) (H : Hp) : List KD → List V → List Addr → Prop
  | [], vs, fp => vs = [] ∧ fp = []
  | z :: zs, vs, fp => ∃ w ws f1 f2, vs = w :: ws ∧ fp = f1 ++ f2 ∧ VR K A H z w f1 ∧ VRs K A H zs ws f2
def PRs (K : Frg) (B F : Addr → Prop) (H : Hp) (vs : List V) (zs : List KD) : Prop := ∃ fp, VRs K (Or2 B F) H zs vs fp ∧ fp.Nodup ∧ ∀ a ∈ fp, F a

def PSound (K : Frg) (t : TE) (f : PF) : Prop := ∀ (σ : L2.St) (H : Hp) (A : Addr → Prop) (ρ : Ro) (ow : List Addr) (Q : VK) (P : KD → Prop), Good K A H ρ σ ow → f ρ P →
  (∀ z v H', P z → Same H H' → PR K (BB A ow) (Fre H) H' v z → Q v H') → t σ H Q
def TSound (K : Frg) (t : TT) (f : PTF) : Prop := ∀ (σ : L2.St) (H : Hp) (A : Addr → Prop) (ρ : Ro) (ow : List Addr) (Q : Bool → Hp → Prop) (P : Bool → Prop), Good K A H ρ σ ow → f ρ P →
  (∀ b H', P b → Same H H' → Q b H') → t σ H Q
def ASound (K : Frg) (n : Nat) (t : TA) (f : PAF) : Prop := ∀ (σ : L2.St) (H : Hp) (A : Addr → Prop) (ρ : Ro) (ow : List Addr) (Q : List V → Hp → Prop) (P : List KD → Prop), Good K A H ρ σ ow → f ρ P →
  (∀ zs vs H', zs.length = n → P zs → Same H H' → PRs K (BB A ow) (Fre H) H' vs zs → Q vs H') → t σ H Q
structure DP (X : Cx) (e : Expr) (f : PF) : Prop where
  run : ∃ t, PE X e t ∧ PSound X.K t f
structure DT (X : Cx) (e : Expr) (f : PTF) : Prop where
  run : ∃ t, PT X e t ∧ TSound X.K t f
structure DA (X : Cx) (es : List Expr) (n : Nat) (f : PAF) : Prop where
  run : ∃ t, PA X es t ∧ ASound X.K n t f

section
variable {K : Frg} {A B B' F F' : Addr → Prop} {H H' H1 : Hp}
theorem VR.same {z : KD} {v : V} {f : List Addr} (s : Same H H') (h : VR K A H z v f) : VR K A H' z v f := h.keep (KeepF.of_same s)
theorem VRs.same (s : Same H H') : ∀ {zs : List KD} {vs : List V} {f : List Addr}, VRs K A H zs vs f → VRs K A H' zs vs f
  | [], _, _, h => h
  | z :: zs, _, _, ⟨w, ws, f1, f2, e, e2, h, t⟩ => ⟨w, ws, f1, f2, e, e2, h.same s, VRs.same s t⟩
theorem VRs.mono (m : ∀ a, A a → B a) : ∀ {zs : List KD} {vs : List V} {f : List Addr}, VRs K A H zs vs f → VRs K B H zs vs f
  | [], _, _, h => h
  | z :: zs, _, _, ⟨w, ws, f1, f2, e, e2, h, t⟩ => ⟨w, ws, f1, f2, e, e2, h.mono m, VRs.mono m t⟩
theorem _root_.L2.Same.fre (s : Same H H') : ∀ a, Fre H' a → Fre H a := fun a h => s.free h
theorem PR.same {v : V} {z : KD} (s : Same H H') (h : PR K B F H v z) : PR K B F H' v z := let ⟨fp, a, b, c⟩ := h; ⟨fp, a.same s, b, c⟩
theorem PR.mono {v : V} {z : KD} (m : ∀ a, B a → B' a) (n : ∀ a, F a → F' a) (h : PR K B F H v z) : PR K B' F' H v z :=
  let ⟨fp, a, b, c⟩ := h; ⟨fp, a.mono (fun x h => h.imp (m x) (n x)), b, fun x h => n x (c x h)⟩
theorem PRs.same {v : List V} {z : List KD} (s : Same H H') (h : PRs K B F H v z) : PRs K B F H' v z := let ⟨fp, a, b, c⟩ := h; ⟨fp, a.same s, b, c⟩
theorem PRs.mono {v : List V} {z : List KD} (m : ∀ a, B a → B' a) (n : ∀ a, F a → F' a) (h : PRs K B F H v z) : PRs K B' F' H v z :=
  let ⟨fp, a, b, c⟩ := h; ⟨fp, a.mono (fun x h => h.imp (m x) (n x)), b, fun x h => n x (c x h)⟩
theorem VR.mu {z : KD} {v : V} {f : List Addr} (h : VR K A H z v f) : ∀ a ∈ f, ∃ o, H a = some o ∧ Mu o := by
  obtain ⟨k, d⟩ := z
  cases k with
  | fl => intro a q; rw [h.1] at q; cases q
  | rd => intro a q; rw [h.1] at q; cases q
  | sa => intro a q; rw [h.1] at q; cases q
  | sh => exact R.mu _ _ _ h.1
  | ow => exact R.mu _ _ _ h
theorem VRs.mu : ∀ {zs : List KD} {vs : List V} {f : List Addr}, VRs K A H zs vs f → ∀ a ∈ f, ∃ o, H a = some o ∧ Mu o
  | [], _, _, h => fun a q => by rw [h.2] at q; cases q
  | z :: zs, _, _, ⟨w, ws, f1, f2, e, e2, h, t⟩ => fun a q => by
    rw [e2] at q
    rcases List.mem_append.mp q with q | q
    · exact h.mu a q
    · exact VRs.mu t a q
theorem VR.ra {z : KD} {v : V} {f : List Addr} (h : VR K A H z v f) (m : ∀ a, A a → B a) (n : ∀ a ∈ f, B a) : RA K B H z.2 v := by
  obtain ⟨k, d⟩ := z
  cases k with
  | fl => exact RA.no h.2
  | rd => exact RA.mono m _ _ h.2
  | sa => exact RA.mono m _ _ h.2.1
  | sh => exact R.ra (fun _ z => z.elim) _ _ _ n h.1
  | ow => exact R.ra (fun _ z => z.elim) _ _ _ n h
theorem PR.ra {v : V} {z : KD} (h : PR K B F H v z) : RA K (Or2 B F) H z.2 v := let ⟨_, a, _, c⟩ := h; a.ra (fun _ h => h) fun x h => .inr (c x h)
theorem PR.fl {v : V} {d : D} (h : RA K No H d v) : PR K B F H v (.fl, d) := ⟨[], ⟨rfl, h⟩, List.nodup_nil, fun _ z => nomatch z⟩
theorem PR.rd {v : V} {d : D} (h : RA K (Or2 B F) H d v) : PR K B F H v (.rd, d) := ⟨[], ⟨rfl, h⟩, List.nodup_nil, fun _ z => nomatch z⟩
theorem PR.bl {b : Bool} : PR K B F H (.bl b) (.fl, .bl b) := .fl rfl
theorem PR.int {b : Int} : PR K B F H (.int b) (.fl, .int b) := .fl rfl
theorem PR.str {b : Str} : PR K B F H (.str b) (.fl, .str b) := .fl rfl
theorem PRs.nil : PRs K B F H [] [] := ⟨[], ⟨rfl, rfl⟩, List.nodup_nil, fun _ z => nomatch z⟩

def D.seq : D → Option (List D)
  | .tup ds => some ds
  | .lst ds => some ds
  | .kst ds => some ds
  | _ => none
def Kd.el : Kd → Kd
  | .fl => .fl
  | .sh => .fl
  | .sa => .fl
  | .rd => .rd
  | .ow => .rd
def Kd.elA (k : Kd) (B F : Addr → Prop) : Addr → Prop := match k with
  | .fl => No
  | .sh => No
  | .sa => No
  | .rd => Or2 B F
  | .ow => Or2 B F
def kel (k : Kd) (d : D) : KD := match d with
  | .non => (.fl, d)
  | .bl _ => (.fl, d)
  | .int _ => (.fl, d)
  | .str _ => (.fl, d)
  | _ => (k.el, d)
theorem pr_kel {k : Kd} {d : D} {w : V} (h : RA K (k.elA B F) H d w) : PR K B F H w (kel k d) := by
  have g : PR K B F H w (k.el, d) := by
    cases k with
    | fl => exact .fl h
    | sh => exact .fl h
    | sa => exact .fl h
    | rd => exact .rd h
    | ow => exact .rd h
  cases d <;> first | exact g | exact .fl h
theorem RA.seq {d : D} {ds : List D} {v : V} (h : RA K A H d v) (e : d.seq = some ds) : ∃ p vs, v = .ref p ∧ (SqL K H p vs ∨ SqT K H p vs) ∧ RAs K A H ds vs := by
  cases d <;> first
    | (cases e; done)
    | (cases e; obtain ⟨p, vs, e, t, r⟩ := h; exact ⟨p, vs, e, .inr t, r⟩)
    | (cases e; obtain ⟨p, vs, e, _, t, r⟩ := h; exact ⟨p, vs, e, .inl (.of t), r⟩)
    | (cases e; obtain ⟨p, vs, e, t, r⟩ := h; exact ⟨p, vs, e, .inl (kst_seq t), r⟩)
theorem Shal.seq {d : D} {ds : List D} {v : V} (h : Shal K H d v) (e : d.seq = some ds) : ∃ p vs, v = .ref p ∧ (SqL K H p vs ∨ SqT K H p vs) ∧ RAs K No H ds vs := by
  cases d <;> first
    | (cases e; done)
    | exact h.elim
    | (cases e; obtain ⟨p, vs, e, t, r⟩ := h; exact ⟨p, vs, e, .inl (.of t), r⟩)
    | (cases e; obtain ⟨p, vs, e, t, r⟩ := h; exact ⟨p, vs, e, .inl (kst_seq t), r⟩)
theorem PR.seq {k : Kd} {d : D} {ds : List D} {v : V} (h : PR K B F H v (k, d)) (e : d.seq = some ds) :
    ∃ p vs, v = .ref p ∧ (SqL K H p vs ∨ SqT K H p vs) ∧ RAs K (k.elA B F) H ds vs := by
  cases k with
  | fl => obtain ⟨_, a, _⟩ := h; exact a.2.seq e
  | rd => exact h.ra.seq e
  | ow => exact h.ra.seq e
  | sh => obtain ⟨_, a, _⟩ := h; exact a.2.seq e
  | sa => obtain ⟨_, a, _⟩ := h; exact a.2.2.seq e
theorem PR.lstT {k : Kd} {ds : List D} {v : V} (h : PR K B F H v (k, .lst ds)) : ∃ p vs, v = .ref p ∧ H p = some (.lst vs) ∧ RAs K (k.elA B F) H ds vs := by
  have q : ∃ p vs, v = .ref p ∧ H p = some (.lst vs) ∧ RAs K (Or2 B F) H ds vs := by
    obtain ⟨p, vs, e, _, t, r⟩ := h.ra
    exact ⟨p, vs, e, t, r⟩
  cases k with
  | fl => obtain ⟨_, a, _⟩ := h; obtain ⟨p, vs, e, z, _⟩ := a.2; exact z.elim
  | rd => exact q
  | ow => exact q
  | sh => obtain ⟨_, a, _⟩ := h; obtain ⟨p, vs, e, t, r⟩ := a.2; exact ⟨p, vs, e, t, r⟩
  | sa => obtain ⟨_, a, _⟩ := h; obtain ⟨p, vs, e, t, r⟩ := a.2.2; exact ⟨p, vs, e, t, r⟩
theorem PR.tupT {k : Kd} {ds : List D} {v : V} (h : PR K B F H v (k, .tup ds)) : ∃ p vs, v = .ref p ∧ SqT K H p vs ∧ RAs K (k.elA B F) H ds vs := by
  have q : ∃ p vs, v = .ref p ∧ SqT K H p vs ∧ RAs K (Or2 B F) H ds vs := h.ra
  cases k with
  | fl => obtain ⟨_, a, _⟩ := h; exact a.2
  | rd => exact q
  | ow => exact q
  | sh => obtain ⟨_, a, _⟩ := h; exact a.2.elim
  | sa => obtain ⟨_, a, _⟩ := h; exact a.2.2.elim
theorem RAs.elno {k : Kd} {ds : List D} {vs : List V} (h : RAs K (k.elA B F) H ds vs) (e : k.el = .fl) : RAs K No H ds vs := by
  cases k <;> first | exact h | cases e
theorem RAs.elor {k : Kd} {ds : List D} {vs : List V} (h : RAs K (k.elA B F) H ds vs) : RAs K (Or2 B F) H ds vs := by
  cases k <;> first | exact h | exact RAs.no h
def kT (k : Kd) : Kd := k.el
def kL (k : Kd) : Kd := match k.el with
  | .fl => .sh
  | _ => .rd
theorem kL_fl {k : Kd} (h : k.el = .fl) : kL k = .sh := by unfold kL; rw [h]
theorem kL_rd {k : Kd} (h : k.el ≠ .fl) : kL k = .rd := by cases k <;> first | rfl | exact absurd rfl h
theorem el_cases (k : Kd) : k.el = .fl ∨ k.el = .rd := by cases k <;> first | exact .inl rfl | exact .inr rfl
theorem pr_tup {k : Kd} {ds : List D} {vs : List V} {p : Addr} (hr : RAs K (k.elA B F) H ds vs) (hp : H p = none) : PR K B F (upd H p (.tup vs)) (.ref p) (k.el, .tup ds) := by
  have s : Same H (upd H p (.tup vs)) := fun b o e => by rw [upd_ne (ne_of_none e hp)]; exact e
  rcases el_cases k with e | e
  · rw [e]
    exact .fl ⟨p, vs, rfl, .of upd_same, (hr.elno e).same s⟩
  · rw [e]
    exact .rd ⟨p, vs, rfl, .of upd_same, hr.elor.same s⟩
theorem pr_lst {k : Kd} {ds : List D} {vs : List V} {p : Addr} (hr : RAs K (k.elA B F) H ds vs) (hp : H p = none) (hF : F p) : PR K B F (upd H p (.lst vs)) (.ref p) (kL k, .lst ds) := by
  have s : Same H (upd H p (.lst vs)) := fun b o e => by rw [upd_ne (ne_of_none e hp)]; exact e
  rcases el_cases k with e | e
  · rw [kL_fl e]
    exact ⟨[p], ⟨⟨p, vs, [], rfl, rfl, upd_same, Rs.of0 _ _ ((hr.elno e).same s)⟩, ⟨p, vs, rfl, upd_same, (hr.elno e).same s⟩⟩, by simp, fun a h => by rw [List.mem_singleton.mp h]; exact hF⟩
  · rw [kL_rd (by rw [e]; decide)]
    exact .rd ⟨p, vs, rfl, .inr hF, upd_same, hr.elor.same s⟩
theorem same_upd {p : Addr} {o : HO} (h : H p = none) : Same H (upd H p o) := fun b x e => by
  rw [upd_ne (ne_of_none e h)]
  exact e
end

def Kd.rdk : Kd → Kd
  | .fl => .fl
  | .sh => .sa
  | .sa => .sa
  | .rd => .rd
  | .ow => .rd
section
variable {K : Frg} {A : Addr → Prop} {H : Hp} {σ : L2.St} {ρ : Ro} {ow : List Addr}
theorem Good.slot {i : Nat} {kd : KD} (g : Good K A H ρ σ ow) (e : ρ[i]? = some (some kd)) : ∃ v f, σ[i]? = some (some v) ∧ VR K A H kd v f ∧ f.Nodup ∧ ∀ a ∈ f, a ∈ ow := by
  obtain ⟨x, f1, f2, f3, hx, e2, ⟨v, rfl, h⟩, _⟩ := g.rep.split e
  have nd := g.nd
  rw [e2] at nd
  exact ⟨v, f2, hx, h, (List.nodup_append.mp (List.nodup_append.mp nd).2.1).1, fun a q => by rw [e2]; simp [q]⟩
theorem VR.rdk {k : Kd} {d : D} {v : V} {f : List Addr} {F : Addr → Prop} (h : VR K A H (k, d) v f) (s : ∀ a ∈ f, a ∈ ow) : PR K (BB A ow) F H v (k.rdk, d) := by
  have m : ∀ a, A a → Or2 (BB A ow) F a := fun a h => .inl (.inl h)
  have n : ∀ a ∈ f, Or2 (BB A ow) F a := fun a h => .inl (.inr (s a h))
  have r := h.ra m n
  cases k with
  | fl => exact .fl h.2
  | rd => exact .rd r
  | ow => exact .rd r
  | sh => exact ⟨[], ⟨rfl, r, h.2⟩, List.nodup_nil, fun _ z => nomatch z⟩
  | sa => exact ⟨[], ⟨rfl, r, h.2.2⟩, List.nodup_nil, fun _ z => nomatch z⟩
end

def pVar (i : Nat) : PF := fun ρ P => match ρ[i]? with
  | some (some (k, d)) => P (k.rdk, d)
  | _ => False
def pC (d : D) : PF := fun _ P => P (.fl, d)
section
variable {X : Cx} {pos : Pos}
theorem dp_var (i : Nat) {x : Str} (hN : X.N[i]? = some x := by rfl) (hv : Vis X.env.scope x := by first | exact Or.inl rfl | exact Or.inr (Or.inl rfl) | exact Or.inr (Or.inr rfl)) (hd : (x == ("__debug__" : Str)) = false := by decide)
    (hcd : (x == ("__classdict__" : Str)) = false := by decide) : DP X (.Name x pos) (pVar i) := by
  refine ⟨tVar i, pe_var hN hv hd hcd, fun σ H A ρ ow Q P g h q => ?_⟩
  unfold pVar at h
  cases e : ρ[i]? with
  | none => rw [e] at h; exact h.elim
  | some s =>
    rw [e] at h
    cases s with
    | none => exact h.elim
    | some kd =>
      obtain ⟨k, d⟩ := kd
      obtain ⟨v, f, hv, r, _, s⟩ := g.slot e
      exact ⟨v, hv, q _ v H h (Same.refl H) (r.rdk s)⟩
theorem dp_c {e : Expr} {v : V} {d : D} (h : PE X e (tC v)) (r : ∀ (A : Addr → Prop) (H : Hp), RA X.K A H d v) : DP X e (pC d) :=
  ⟨_, h, fun σ H A ρ ow Q P g h q => q _ v H h (Same.refl H) (.fl (r _ H))⟩
theorem dp_int {i : Int} {j} : DP X (.Constant (.int i) j pos) (pC (.int i)) := dp_c pe_int fun _ _ => rfl
theorem dp_bl {i : Bool} {j} : DP X (.Constant (.bool i) j pos) (pC (.bl i)) := dp_c pe_bl fun _ _ => rfl
theorem dp_str {i : Str} {j} : DP X (.Constant (.str i) j pos) (pC (.str i)) := dp_c pe_str fun _ _ => rfl
theorem dp_non {j} : DP X (.Constant .none j pos) (pC .non) := dp_c pe_non fun _ _ => rfl

def OpS (K : Frg) (r : R2) (o : KD → KD → (KD → Prop) → Prop) : Prop := ∀ (B F : Addr → Prop) (H : Hp) (v w : V) (x y : KD) (P : KD → Prop) (Q : VK), PR K B F H v x → PR K B F H w y → (∀ a, H a = none → F a) → o x y P →
  (∀ z u H', P z → Same H H' → PR K B F H' u z → Q u H') → r v w H Q
def CallS (K : Frg) (r : List V → Hp → VK → Prop) (o : List KD → (KD → Prop) → Prop) : Prop := ∀ (B F : Addr → Prop) (H : Hp) (vs : List V) (xs : List KD) (P : KD → Prop) (Q : VK), PRs K B F H vs xs → (∀ a, H a = none → F a) → o xs P →
  (∀ z u H', P z → Same H H' → PR K B F H' u z → Q u H') → r vs H Q
def pOp (o : KD → KD → (KD → Prop) → Prop) (fa fb : PF) : PF := fun ρ P => fa ρ fun x => fb ρ fun y => o x y P
def pUn (o : KD → (KD → Prop) → Prop) (fa : PF) : PF := fun ρ P => fa ρ fun x => o x P
variable {a b c : Expr} {fa fb fc : PF}
theorem sound_op {K : Frg} {r : R2} {o : KD → KD → (KD → Prop) → Prop} {ta tb : TE} (hr : OpS K r o) (sa : PSound K ta fa) (sb : PSound K tb fb) : PSound K (tOp r ta tb) (pOp o fa fb) := by
  intro σ H A ρ ow Q P g h q
  refine sa σ H A ρ ow _ _ g h fun x v H1 hx s1 p1 => ?_
  refine sb σ H1 A ρ ow _ _ (g.same s1) hx fun y w H2 hy s2 p2 => ?_
  refine hr (BB A ow) (Fre H) H2 v w x y P Q (p1.same s2) (p2.mono (fun _ h => h) (s1.fre)) (s1.trans s2).fre hy fun z u H' hz s3 p3 => ?_
  exact q z u H' hz ((s1.trans s2).trans s3) p3
theorem dp_op {op : Operator} {r : R2} {o : KD → KD → (KD → Prop) → Prop} (ho : OpR X (binaryOp op) r) (hr : OpS X.K r o) (ha : DP X a fa) (hb : DP X b fb) : DP X (.BinOp a op b pos) (pOp o fa fb) := by
  obtain ⟨ta, ea, sa⟩ := ha.run
  obtain ⟨tb, eb, sb⟩ := hb.run
  exact ⟨_, pe_op ho ea eb, sound_op hr sa sb⟩
theorem dp_cmp {op : CmpOp} {r : R2} {o : KD → KD → (KD → Prop) → Prop} (ho : OpR X (compareOp op) r) (hr : OpS X.K r o) (ha : DP X a fa) (hb : DP X b fb) (hm : behindInMarks op b = false) : DP X (.Compare a [op] [b] pos) (pOp o fa fb) := by
  obtain ⟨ta, ea, sa⟩ := ha.run
  obtain ⟨tb, eb, sb⟩ := hb.run
  exact ⟨_, pe_cmpR ho ea eb hm, sound_op hr sa sb⟩
def pTest (f : PF) : PTF := fun ρ P => f ρ fun z => match z.2 with
  | .bl b => P b
  | _ => False
theorem sound_test {K : Frg} {t : TE} {f : PF} (s : PSound K t f) : TSound K (tTest t) (pTest f) := by
  intro σ H A ρ ow Q P g h q
  refine s σ H A ρ ow _ _ g h fun z v H1 hz s1 p1 => ?_
  obtain ⟨k, d⟩ := z
  have r := p1.ra
  cases d <;> first
    | exact hz.elim
    | exact ⟨_, r, q _ H1 hz s1⟩
theorem dt_cmp {op : CmpOp} {r : R2} {o : KD → KD → (KD → Prop) → Prop} (ho : OpR X (compareOp op) r) (hr : OpS X.K r o) (ha : DP X a fa) (hb : DP X b fb) (hm : behindInMarks op b = false) : DT X (.Compare a [op] [b] pos) (pTest (pOp o fa fb)) := by
  obtain ⟨ta, ea, sa⟩ := ha.run
  obtain ⟨tb, eb, sb⟩ := hb.run
  exact ⟨_, pt_cmpR ho ea eb hm, sound_test (sound_op hr sa sb)⟩
theorem dt_val {e : Expr} {f : PF} (h : DP X e f) (he : ∀ whole, isTrue e X.env whole = (do let v ← whole; standAt e.pos; holding [v] (truthy v)) := by intro _; rfl) : DT X e (pTest f) := by
  obtain ⟨t, pe, s⟩ := h.run
  exact ⟨_, pt_val pe he, fun σ H A ρ ow Q P g h q => sound_test s σ H A ρ ow Q P g h q⟩
end
end DL

namespace DL
open PySem PySem.Spec PyProof.Rows L2

theorem OpR.or {X : Cx} {f : Value → Value → Sem Value} {r r' : R2} (h : OpR X f r) (h' : OpR X f r') : OpR X f (fun x y H Q => r x y H Q ∨ r' x y H Q) := by
  intro pins s σ H x y v u Q I r1 r2 q
  rcases q with q | q
  · exact h pins s σ H x y v u Q I r1 r2 q
  · exact h' pins s σ H x y v u Q I r1 r2 q
theorem tup_one (l : Addr) (its : Array Value) (n : Nat) (dd : Option Addr) (sl : Array (Option Value)) (u : Tok) :
    Meets (Builtin.«tuple.__mul__» ⟨[.ref l, .int 1 u], []⟩) (fun _ R s => s.heap.get? l = some { cls := .type "tuple", dict := dd, data := .seq its n, slots := sl } ∧ R (.ok (.ret (.ref l))) s) := by
  refine Meets.of_wp fun prog w A R st h => ?_
  obtain ⟨hp, g, d, tk, os⟩ := st
  obtain ⟨hl, h⟩ := h
  have f1 := AutoSeq1.idx_int
  wp_walk using wpAny_loadPart' hl
  exact ⟨_, rfl, h⟩
def rRep1 (K : Frg) : R2 := fun x y H Q => ∃ l xs, x = .ref l ∧ y = .int 1 ∧ SqT K H l xs ∧ Q x H
theorem op_rep1 {X : Cx} : OpR X (binaryOp .Mult) (rRep1 X.K) := by
  intro pins s σ H x y v u Q I rx ry h
  obtain ⟨l, xs, rfl, rfl, hT, q⟩ := h
  cases rx
  obtain ⟨t, rfl⟩ := ry
  obtain ⟨its, r, ⟨⟨cls, dd, data, sl⟩, ho, hc, n, hd⟩, hs⟩ := I.tuple hT
  simp only at hc hd
  subst hc hd
  refine wpAny_binaryOp_repeat_ref (T := "tuple") (U := "int") (by decide) ⟨_, ho, rfl⟩ (fun s' => typeIs_int s' 1 t) noFill_tuple_mul
    F.fills_int_mul F.slot_int_rmul repeat_tuple F.slot_int_index.lookup (call_meets F.slot_int_rmul (typeIs_int s 1 t) F.entry_int_rmul (F.args_int_rmul_2 _ _)
      (int_rmul_tuple 1 t l its.toArray n dd sl) ⟨ho, rfl, ⟨_, ho, rfl⟩, ?_⟩)
  refine call_meets F.slot_tuple_mul ⟨_, ho, rfl⟩ F.entry_tuple_mul (F.args_tuple_mul_2 _ _) (tup_one l its.toArray n dd sl t) ⟨ho, ?_⟩
  exact ⟨V.ref l, H, I, rfl, q⟩
def kT2 (k k' : Kd) : Kd := match k.el, k'.el with
  | .fl, .fl => .fl
  | _, _ => .rd
def kL2 (k k' : Kd) : Kd := match k.el, k'.el with
  | .fl, .fl => .sh
  | _, _ => .rd
section
variable {K : Frg} {A B F : Addr → Prop} {H : Hp}
theorem pr_cat {k k' : Kd} {ds es : List D} {vs ws : List V} (h : RAs K (k.elA B F) H ds vs) (h' : RAs K (k'.elA B F) H es ws) :
    RAs K ((kT2 k k').elA B F) H (ds ++ es) (vs ++ ws) := by
  unfold kT2
  rcases el_cases k with e | e <;> rcases el_cases k' with e' | e' <;> rw [e, e']
  · exact (h.elno e).append (h'.elno e')
  · exact h.elor.append h'.elor
  · exact h.elor.append h'.elor
  · exact h.elor.append h'.elor
theorem kT2_el (k k' : Kd) : (kT2 k k').el = kT2 k k' := by cases k <;> cases k' <;> rfl
theorem kL_kT2 (k k' : Kd) : kL (kT2 k k') = kL2 k k' := by cases k <;> cases k' <;> rfl

def oAdd : KD → KD → (KD → Prop) → Prop := fun x y P => match x, y with
  | (_, .int i), (_, .int j) => P (.fl, .int (i + j))
  | (_, .str a), (_, .str b) => a.length + b.length ≤ 10000000 ∧ P (.fl, .str (a ++ b))
  | (k, .lst a), (k', .lst b) => a.length + b.length ≤ 10000000 ∧ P (kL2 k k', .lst (a ++ b))
  | (k, .tup a), (k', .tup b) => a.length + b.length ≤ 10000000 ∧ P (kT2 k k', .tup (a ++ b))
  | _, _ => False
abbrev rAddAll (K : Frg) : R2 := fun x y H Q => (rI0 (fun i j => .int (i + j)) x y H Q) ∨ (∃ i j, x = .str i ∧ y = .str j ∧ i.length + j.length ≤ sizeLine ∧ Q (.str (i ++ j)) H) ∨ rCat x y H Q ∨ rCatA K x y H Q
theorem op_addAll {X : Cx} : OpR X (binaryOp .Add) (rAddAll X.K) := OpR.or op_add (OpR.or op_add_str (OpR.or op_cat op_catA))
theorem sz7 {n : Nat} (h : n ≤ 10000000) : n ≤ sizeLine := by rw [sizeLine_eq]; omega
theorem os_add : OpS K (rAddAll K) oAdd := by
  intro B F H v w x y P Q px py hF h q
  obtain ⟨k, d⟩ := x
  obtain ⟨k', d'⟩ := y
  unfold oAdd at h
  split at h
  · rename_i i _ j e1 e2
    cases e1; cases e2
    obtain rfl : v = .int i := px.ra
    obtain rfl : w = .int j := py.ra
    exact .inl ⟨i, j, rfl, rfl, q _ _ H h (Same.refl H) .int⟩
  · rename_i i _ j e1 e2
    cases e1; cases e2
    obtain rfl : v = .str i := px.ra
    obtain rfl : w = .str j := py.ra
    exact .inr (.inl ⟨i, j, rfl, rfl, sz7 h.1, q _ _ H h.2 (Same.refl H) .str⟩)
  · rename_i k1 a k2 b e1 e2
    cases e1; cases e2
    obtain ⟨p, vs, rfl, t, r⟩ := px.lstT
    obtain ⟨p', vs', rfl, t', r'⟩ := py.lstT
    refine .inr (.inr (.inl ⟨p, p', vs, vs', rfl, rfl, t, t', by rw [r.len, r'.len]; exact sz7 h.1, fun l hl => ?_⟩))
    have z := pr_lst (pr_cat r r') hl (hF l hl)
    rw [kL_kT2] at z
    exact q _ _ _ h.2 (same_upd hl) z
  · rename_i k1 a k2 b e1 e2
    cases e1; cases e2
    obtain ⟨p, vs, rfl, t, r⟩ := px.tupT
    obtain ⟨p', vs', rfl, t', r'⟩ := py.tupT
    have rr := pr_cat r r'
    have z : ∀ (H' : Hp) (pp : Addr) (ws : List V), Same H H' → SqT K H' pp ws → RAs K ((kT2 k k').elA B F) H (a ++ b) ws → PR K B F H' (.ref pp) (kT2 k k', .tup (a ++ b)) := fun H' pp ws s tt rq => by
      rcases el_cases (kT2 k k') with e | e
      · have e' : kT2 k k' = .fl := by rw [← kT2_el]; exact e
        rw [e']
        exact .fl ⟨pp, ws, rfl, tt, (rq.elno e).same s⟩
      · have e' : kT2 k k' = .rd := by rw [← kT2_el]; exact e
        rw [e']
        exact .rd ⟨pp, ws, rfl, tt, rq.elor.same s⟩
    refine .inr (.inr (.inr ⟨p, p', vs, vs', rfl, rfl, t, t', by rw [r.len, r'.len]; exact sz7 h.1, fun e => ?_, fun _ e => ?_, fun _ _ l hl => ?_⟩))
    · subst e
      exact q _ _ H h.2 (Same.refl H) (z H p' _ (Same.refl H) t' (by simpa using rr))
    · subst e
      exact q _ _ H h.2 (Same.refl H) (z H p _ (Same.refl H) t (by simpa using rr))
    · exact q _ _ _ h.2 (same_upd hl) (z _ l _ (same_upd hl) (.of upd_same) rr)
  · exact h.elim
def oI (C : Int → Int → Prop) (g : Int → Int → D) : KD → KD → (KD → Prop) → Prop := fun x y P => match x.2, y.2 with
  | .int i, .int j => C i j ∧ P (.fl, g i j)
  | _, _ => False
def oI0 (g : Int → Int → D) : KD → KD → (KD → Prop) → Prop := fun x y P => match x.2, y.2 with
  | .int i, .int j => P (.fl, g i j)
  | _, _ => False
theorem os_I {C : Int → Int → Prop} {g : Int → Int → V} {g' : Int → Int → D} (hg : ∀ i j, RA K No H (g' i j) (g i j) ∧ (∀ H', RA K No H' (g' i j) (g i j))) : OpS K (rI C g) (oI C g') := by
  intro B F H v w x y P Q px py hF h q
  obtain ⟨k, d⟩ := x
  obtain ⟨k', d'⟩ := y
  unfold oI at h
  split at h
  · rename_i i j e1 e2
    dsimp only at e1 e2
    subst e1; subst e2
    obtain rfl : v = .int i := px.ra
    obtain rfl : w = .int j := py.ra
    exact ⟨i, j, rfl, rfl, h.1, q _ _ H h.2 (Same.refl H) (.fl ((hg i j).2 H))⟩
  · exact h.elim
theorem os_I0 {g : Int → Int → V} {g' : Int → Int → D} (hg : ∀ i j H', RA K No H' (g' i j) (g i j)) : OpS K (rI0 g) (oI0 g') := by
  intro B F H v w x y P Q px py hF h q
  obtain ⟨k, d⟩ := x
  obtain ⟨k', d'⟩ := y
  unfold oI0 at h
  split at h
  · rename_i i j e1 e2
    dsimp only at e1 e2
    subst e1; subst e2
    obtain rfl : v = .int i := px.ra
    obtain rfl : w = .int j := py.ra
    exact ⟨i, j, rfl, rfl, q _ _ H h (Same.refl H) (.fl (hg i j H))⟩
  · exact h.elim
abbrev oSub : KD → KD → (KD → Prop) → Prop := oI0 fun i j => .int (i - j)
def CDivA (_ j : Int) : Prop := 0 < j ∧ j ≤ 1000000000000000000000000000000000000000000000000000000000000
theorem CDivA.w {i j : Int} (h : CDivA i j) : CDivW i j := by
  refine ⟨h.1, ?_⟩
  have h2 : j.natAbs ≤ 1000000000000000000000000000000000000000000000000000000000000 := by
    have h1 := h.1
    have := h.2
    omega
  by_cases e : j.natAbs = 0
  · rw [e]; decide
  · rw [Nat.log2_lt e]
    exact Nat.lt_of_le_of_lt h2 (Nat.lt_of_lt_of_le (by decide : 1000000000000000000000000000000000000000000000000000000000000 < 2 ^ 200) (Nat.pow_le_pow_right (by decide) (by decide)))
theorem op_fdivA {X : Cx} : OpR X (binaryOp .FloorDiv) (rI CDivA fun i j => .int (i / j)) := fun pins s σ H x y v u Q I rx ry h => by
  obtain ⟨i, j, e1, e2, c, q⟩ := h
  exact op_fdivW pins s σ H x y v u Q I rx ry ⟨i, j, e1, e2, c.w, q⟩
abbrev oFdiv : KD → KD → (KD → Prop) → Prop := oI CDivA fun i j => .int (i / j)
abbrev oMod : KD → KD → (KD → Prop) → Prop := oI (fun _ j => 0 < j) fun i j => .int (i % j)
abbrev oPow : KD → KD → (KD → Prop) → Prop := oI CPow fun i j => .int (i ^ j.toNat)
theorem os_sub : OpS K (rI0 fun i j => .int (i - j)) oSub := os_I0 fun _ _ _ => rfl
theorem os_fdiv : OpS K (rI CDivA fun i j => .int (i / j)) oFdiv := os_I (H := fun _ => none) fun _ _ => ⟨rfl, fun _ => rfl⟩
theorem os_mod : OpS K (rI (fun _ j => 0 < j) fun i j => .int (i % j)) oMod := os_I (H := fun _ => none) fun _ _ => ⟨rfl, fun _ => rfl⟩
theorem os_pow : OpS K (rI CPow fun i j => .int (i ^ j.toNat)) oPow := os_I (H := fun _ => none) fun _ _ => ⟨rfl, fun _ => rfl⟩
def oMul : KD → KD → (KD → Prop) → Prop := fun x y P => match x, y with
  | (_, .int i), (_, .int j) => CMul i j ∧ P (.fl, .int (i * j))
  | (k, .lst a), (_, .int j) => -100000 ≤ j ∧ j ≤ 100000 ∧ a.length * j.toNat ≤ 10000000 ∧ P (kL k, .lst (List.replicate j.toNat a).flatten)
  | (k, .tup a), (_, .int j) => a ≠ [] ∧ 1 ≤ j ∧ j ≤ 1000 ∧ a.length ≤ 1000 ∧ P (kT k, .tup (List.replicate j.toNat a).flatten)
  | _, _ => False
theorem RAs.rep {ds : List D} {vs : List V} (h : RAs K A H ds vs) : ∀ n : Nat, RAs K A H (List.replicate n ds).flatten (List.replicate n vs).flatten
  | 0 => .nil
  | n + 1 => by
    rw [List.replicate_succ, List.replicate_succ, List.flatten_cons, List.flatten_cons]
    exact h.append (RAs.rep h n)
abbrev rMulAll (K : Frg) : R2 := fun x y H Q => (rI CMul (fun i j => .int (i * j)) x y H Q) ∨ rRep x y H Q ∨ rRepT K x y H Q ∨ rRep1 K x y H Q
theorem op_mulAll {X : Cx} : OpR X (binaryOp .Mult) (rMulAll X.K) := OpR.or op_mul (OpR.or op_rep (OpR.or op_repT op_rep1))
theorem os_mul : OpS K (rMulAll K) oMul := by
  intro B F H v w x y P Q px py hF h q
  obtain ⟨k, d⟩ := x
  obtain ⟨k', d'⟩ := y
  unfold oMul at h
  split at h
  · rename_i i _ j e1 e2
    cases e1; cases e2
    obtain rfl : v = .int i := px.ra
    obtain rfl : w = .int j := py.ra
    exact .inl ⟨i, j, rfl, rfl, h.1, q _ _ H h.2 (Same.refl H) .int⟩
  · rename_i _ a _ j e1 e2
    cases e1; cases e2
    obtain ⟨p, vs, rfl, t, r⟩ := px.lstT
    obtain rfl : w = .int j := py.ra
    obtain ⟨h1, h2, h3, h4⟩ := h
    refine .inr (.inl ⟨p, j, vs, rfl, rfl, t, by omega, by omega, by rw [r.len]; exact sz7 h3, fun l hl => ?_⟩)
    exact q _ _ _ h4 (same_upd hl) (pr_lst (r.rep _) hl (hF l hl))
  · rename_i _ a _ j e1 e2
    cases e1; cases e2
    obtain ⟨p, vs, rfl, t, r⟩ := px.tupT
    obtain rfl : w = .int j := py.ra
    obtain ⟨h0, h1, h2, h3, h4⟩ := h
    by_cases e1 : j = 1
    · subst e1
      refine .inr (.inr (.inr ⟨p, vs, rfl, rfl, t, q _ _ H h4 (Same.refl H) ?_⟩))
      rw [show (List.replicate (1 : Int).toNat a).flatten = a by
        show a ++ [] = a
        exact List.append_nil a]
      rcases el_cases k with e | e
      · rw [show kT k = .fl from e]
        exact .fl ⟨p, vs, rfl, t, r.elno e⟩
      · rw [show kT k = .rd from e]
        exact .rd ⟨p, vs, rfl, t, r.elor⟩
    refine .inr (.inr (.inl ⟨p, j, vs, rfl, rfl, t, fun e => h0 ?_, by omega, h2, by rw [r.len]; exact h3, fun l hl => ?_⟩))
    · have z := r.len
      rw [e] at z
      exact List.eq_nil_of_length_eq_zero z.symm
    · exact q _ _ _ h4 (same_upd hl) (pr_tup (r.rep _) hl)
  · exact h.elim

mutual
def D.toP : D → PyData
  | .non => .none
  | .bl b => .bool b
  | .int i => .int i
  | .str x => .str x
  | .tup ds => .tuple (D.toPs ds)
  | .lst ds => .list (D.toPs ds)
  | .kst ds => .list (D.toPs ds)
  | .frz d => D.toP d
  | .dcT _ _ => .dict []
  | .dcK _ _ => .dict []
  | .obj _ _ _ => .dict []
  | .fn _ => .dict []
  | .ad _ => .dict []
  | .lsA _ _ => .dict []
  | .key ns => .tuple (ns.map .int)
  | .tpx ns => .tuple (ns.map .int)
  | .exn _ => .dict []
  | .lkT _ => .dict []
  | .any => .dict []
def D.toPs : List D → List PyData
  | [] => []
  | d :: ds => D.toP d :: D.toPs ds
end
theorem dpAll_ints : ∀ ns : List Int, DpAll K H (ns.map V.int) (ns.map PyData.int)
  | [] => .nil
  | i :: ns => .cons (.int i) (dpAll_ints ns)
mutual
theorem RA.dp : ∀ (d : D) (v : V), RA K A H d v → d.toP.canLay0 = true → Dp K H v d.toP
  | .non, _, h, _ => by rw [show _ = V.non from h]; exact .non
  | .bl b, _, h, _ => by rw [show _ = V.bl b from h]; exact .bl b
  | .int b, _, h, _ => by rw [show _ = V.int b from h]; exact .int b
  | .str b, _, h, _ => by rw [show _ = V.str b from h]; exact .str b
  | .tup ds, _, ⟨p, vs, e, t, r⟩, c => by subst e; exact .tup t (RAs.dp ds vs r c)
  | .lst ds, _, ⟨p, vs, e, _, t, r⟩, c => by subst e; exact .lst (.of t) (RAs.dp ds vs r c)
  | .kst ds, _, ⟨p, vs, e, t, r⟩, c => by subst e; exact .lst (kst_seq t) (RAs.dp ds vs r c)
  | .frz d, v, h, c => RA.dp d v h c
  | .dcT _ _, _, _, c => by cases c
  | .dcK _ _, _, _, c => by cases c
  | .obj _ _ _, _, _, c => by cases c
  | .fn _, _, _, c => by cases c
  | .ad _, _, _, c => by cases c
  | .lsA _ _, _, _, c => by cases c
  | .key ns, _, ⟨p, e, t⟩, _ => by subst e; exact .tup (.inl (.inl t)) (dpAll_ints ns)
  | .tpx ns, _, ⟨p, o, e, t, _⟩, _ => by subst e; exact .tup (.inl (.inr ⟨o, t⟩)) (dpAll_ints ns)
  | .exn _, _, _, c => by cases c
  | .lkT _, _, _, c => by cases c
  | .any, _, _, c => by cases c
theorem RAs.dp : ∀ (ds : List D) (vs : List V), RAs K A H ds vs → PyData.canLayAll0 (D.toPs ds) = true → DpAll K H vs (D.toPs ds)
  | [], _, h, _ => by rw [show _ = [] from h]; exact .nil
  | d :: ds, _, ⟨w, ws, e, h, t⟩, c => by
    subst e
    have c' := Bool.and_eq_true_iff.mp (show (d.toP.canLay0 && PyData.canLayAll0 (D.toPs ds)) = true from c)
    exact .cons (RA.dp d w h c'.1) (RAs.dp ds ws t c'.2)
end
def D.okE (d : D) : Prop := SeqAt.shaped d.toP = true
theorem PR.dp {v : V} {z : KD} (h : PR K B F H v z) (c : z.2.okE) : Dp K H v z.2.toP := RA.dp _ _ h.ra (SeqAt.canLay_of_shaped c)
def oEq : KD → KD → (KD → Prop) → Prop := fun x y P => match x.2, y.2 with
  | .int i, .int j => P (.fl, .bl (decide (i = j)))
  | .str i, .str j => P (.fl, .bl (decide (i = j)))
  | .bl i, .bl j => P (.fl, .bl (decide (i = j)))
  | a, b => a.okE ∧ b.okE ∧ P (.fl, .bl (PyData.eqv a.toP b.toP))
def oNe : KD → KD → (KD → Prop) → Prop := fun x y P => match x.2, y.2 with
  | .int i, .int j => P (.fl, .bl (!decide (i = j)))
  | .str i, .str j => P (.fl, .bl (!decide (i = j)))
  | .bl i, .bl j => P (.fl, .bl (!decide (i = j)))
  | a, b => a.okE ∧ b.okE ∧ P (.fl, .bl (!PyData.eqv a.toP b.toP))
abbrev rEqAll (K : Frg) : R2 := fun x y H Q => rEq x y H Q ∨ rEqD K x y H Q
abbrev rNeAll (K : Frg) : R2 := fun x y H Q => rNe x y H Q ∨ rNeD K x y H Q
theorem op_eqAll {X : Cx} (hu : X.A.units + 64 < cLine) : OpR X (compareOp .Eq) (rEqAll X.K) := OpR.or op_eq (op_eqD hu)
theorem op_neAll {X : Cx} (hu : X.A.units + 64 < cLine) : OpR X (compareOp .NotEq) (rNeAll X.K) := OpR.or op_ne (op_neD hu)
theorem dec_V {a b : Int} : decide (V.int a = V.int b) = decide (a = b) := by
  rw [Bool.eq_iff_iff]; simp
theorem dec_Vs {a b : Str} : decide (V.str a = V.str b) = decide (a = b) := by
  rw [Bool.eq_iff_iff]; simp
theorem dec_Vb {a b : Bool} : decide (V.bl a = V.bl b) = decide (a = b) := by
  rw [Bool.eq_iff_iff]; simp
theorem os_eq : OpS K (rEqAll K) oEq := by
  intro B F H v w x y P Q px py hF h q
  obtain ⟨k, d⟩ := x
  obtain ⟨k', d'⟩ := y
  unfold oEq at h
  split at h
  · rename_i i j e1 e2
    dsimp only at e1 e2
    subst e1; subst e2
    obtain rfl : v = .int i := px.ra
    obtain rfl : w = .int j := py.ra
    exact .inl ⟨rfl, by rw [dec_V]; exact q _ _ H h (Same.refl H) .bl⟩
  · rename_i i j e1 e2
    dsimp only at e1 e2
    subst e1; subst e2
    obtain rfl : v = .str i := px.ra
    obtain rfl : w = .str j := py.ra
    exact .inl ⟨rfl, by rw [dec_Vs]; exact q _ _ H h (Same.refl H) .bl⟩
  · rename_i i j e1 e2
    dsimp only at e1 e2
    subst e1; subst e2
    obtain rfl : v = .bl i := px.ra
    obtain rfl : w = .bl j := py.ra
    exact .inl ⟨rfl, by rw [dec_Vb]; exact q _ _ H h (Same.refl H) .bl⟩
  · obtain ⟨h1, h2, h3⟩ := h
    exact .inr ⟨_, _, px.dp h1, py.dp h2, h1, h2, q _ _ H h3 (Same.refl H) .bl⟩
theorem os_ne : OpS K (rNeAll K) oNe := by
  intro B F H v w x y P Q px py hF h q
  obtain ⟨k, d⟩ := x
  obtain ⟨k', d'⟩ := y
  unfold oNe at h
  split at h
  · rename_i i j e1 e2
    dsimp only at e1 e2
    subst e1; subst e2
    obtain rfl : v = .int i := px.ra
    obtain rfl : w = .int j := py.ra
    exact .inl ⟨rfl, by rw [dec_V]; exact q _ _ H h (Same.refl H) .bl⟩
  · rename_i i j e1 e2
    dsimp only at e1 e2
    subst e1; subst e2
    obtain rfl : v = .str i := px.ra
    obtain rfl : w = .str j := py.ra
    exact .inl ⟨rfl, by rw [dec_Vs]; exact q _ _ H h (Same.refl H) .bl⟩
  · rename_i i j e1 e2
    dsimp only at e1 e2
    subst e1; subst e2
    obtain rfl : v = .bl i := px.ra
    obtain rfl : w = .bl j := py.ra
    exact .inl ⟨rfl, by rw [dec_Vb]; exact q _ _ H h (Same.refl H) .bl⟩
  · obtain ⟨h1, h2, h3⟩ := h
    exact .inr ⟨_, _, px.dp h1, py.dp h2, h1, h2, q _ _ H h3 (Same.refl H) .bl⟩
abbrev oLt : KD → KD → (KD → Prop) → Prop := oI0 fun i j => .bl (decide (i < j))
abbrev oLe : KD → KD → (KD → Prop) → Prop := oI0 fun i j => .bl (decide (i ≤ j))
abbrev oGt : KD → KD → (KD → Prop) → Prop := oI0 fun i j => .bl (decide (j < i))
abbrev oGe : KD → KD → (KD → Prop) → Prop := oI0 fun i j => .bl (decide (j ≤ i))
theorem os_lt : OpS K (rI0 fun i j => .bl (decide (i < j))) oLt := os_I0 fun _ _ _ => rfl
theorem os_le : OpS K (rI0 fun i j => .bl (decide (i ≤ j))) oLe := os_I0 fun _ _ _ => rfl
theorem os_gt : OpS K (rI0 fun i j => .bl (decide (j < i))) oGt := os_I0 fun _ _ _ => rfl
def D.isNon : D → Bool
  | .non => true
  | .frz d => D.isNon d
  | _ => false
def oIsN : KD → KD → (KD → Prop) → Prop := fun x y P => y.2 = .non ∧ P (.fl, .bl x.2.isNon)
def oNotN : KD → KD → (KD → Prop) → Prop := fun x y P => y.2 = .non ∧ P (.fl, .bl (!x.2.isNon))
theorem RA.isNon : ∀ {d : D} {v : V}, RA K A H d v → decide (v = .non) = d.isNon
  | .non, _, h => by rw [show _ = V.non from h]; rfl
  | .bl _, _, h => by rw [show _ = V.bl _ from h]; rfl
  | .int _, _, h => by rw [show _ = V.int _ from h]; rfl
  | .str _, _, h => by rw [show _ = V.str _ from h]; rfl
  | .tup _, _, ⟨_, _, e, _⟩ => by rw [e]; rfl
  | .lst _, _, ⟨_, _, e, _⟩ => by rw [e]; rfl
  | .kst _, _, ⟨_, _, e, _⟩ => by rw [e]; rfl
  | .dcT _ _, _, ⟨_, _, e, _⟩ => by rw [e]; rfl
  | .dcK _ _, _, ⟨_, _, e, _⟩ => by rw [e]; rfl
  | .obj _ _ _, _, ⟨_, _, _, e, _⟩ => by rw [e]; rfl
  | .fn _, _, e => by rw [show _ = V.ref _ from e]; rfl
  | .ad _, _, e => by rw [show _ = V.ref _ from e]; rfl
  | .lsA _ _, _, ⟨e, _⟩ => by rw [show _ = V.ref _ from e]; rfl
  | .key _, _, ⟨_, e, _⟩ => by rw [e]; rfl
  | .tpx _, _, ⟨_, _, e, _⟩ => by rw [e]; rfl
  | .exn _, _, ⟨_, _, e, _⟩ => by rw [e]; rfl
  | .lkT _, _, ⟨_, _, e, _⟩ => by rw [e]; rfl
  | .any, _, e => decide_eq_false e
  | .frz d, v, h => RA.isNon (d := d) h
theorem os_isN : OpS K (fun x y H Q => y = .non ∧ Q (.bl (decide (x = .non))) H) oIsN := by
  intro B F H v w x y P Q px py hF h q
  obtain ⟨k', d'⟩ := y
  obtain ⟨h1, h2⟩ := h
  dsimp only at h1
  subst h1
  exact ⟨py.ra, by rw [px.ra.isNon]; exact q _ _ H h2 (Same.refl H) .bl⟩
theorem os_notN : OpS K (fun x y H Q => y = .non ∧ Q (.bl (!decide (x = .non))) H) oNotN := by
  intro B F H v w x y P Q px py hF h q
  obtain ⟨k', d'⟩ := y
  obtain ⟨h1, h2⟩ := h
  dsimp only at h1
  subst h1
  exact ⟨py.ra, by rw [px.ra.isNon]; exact q _ _ H h2 (Same.refl H) .bl⟩
def D.flat1 : D → Bool
  | .non => true
  | .bl _ => true
  | .int _ => true
  | .str _ => true
  | _ => false
def eqD1 : D → D → Bool
  | .non, .non => true
  | .bl a, .bl b => a == b
  | .bl a, .int b => (if a then 1 else 0) == b
  | .int a, .bl b => a == (if b then 1 else 0)
  | .int a, .int b => a == b
  | .str a, .str b => a == b
  | _, _ => false
def inD (x : D) (ds : List D) : Bool := ds.any fun y => eqD1 y x
theorem RA.flat1 {d : D} {v : V} (h : RA K A H d v) (e : d.flat1 = true) : flatV v = true := by
  cases d <;> first
    | (cases e; done)
    | (rw [show v = _ from h]; rfl)
theorem RA.eq1 {d e : D} {v w : V} (h : RA K A H d v) (h' : RA K A H e w) (c : d.flat1 = true) (c' : e.flat1 = true) : eqV v w = eqD1 d e := by
  cases d <;> first
    | (cases c; done)
    | (rw [show v = _ from h]
       cases e <;> first
        | (cases c'; done)
        | (rw [show w = _ from h']; rfl))
theorem RAs.flat1 : ∀ {ds : List D} {vs : List V}, RAs K A H ds vs → ds.all D.flat1 = true → vs.all flatV = true
  | [], _, h, _ => by rw [show _ = [] from h]; rfl
  | d :: ds, _, ⟨w, ws, e, h, t⟩, c => by
    subst e
    rw [List.all_cons, Bool.and_eq_true] at c
    rw [List.all_cons, RA.flat1 h c.1, RAs.flat1 t c.2]; rfl
theorem RAs.in1 {x : D} {v : V} (hx : RA K A H x v) (cx : x.flat1 = true) : ∀ {ds : List D} {vs : List V}, RAs K A H ds vs → ds.all D.flat1 = true → inV v vs = inD x ds
  | [], _, h, _ => by rw [show _ = [] from h]; rfl
  | d :: ds, _, ⟨w, ws, e, h, t⟩, c => by
    subst e
    rw [List.all_cons, Bool.and_eq_true] at c
    show (eqV w v || inV v ws) = (eqD1 d x || inD x ds)
    rw [RA.eq1 h hx c.1 cx, RAs.in1 hx cx t c.2]
def oIn (neg : Bool) : KD → KD → (KD → Prop) → Prop := fun x y P => match y.2.seq with
  | some ds => x.2.flat1 = true ∧ ds.all D.flat1 = true ∧ P (.fl, .bl (if neg then !inD x.2 ds else inD x.2 ds))
  | none => False
theorem os_in {neg : Bool} : OpS K (rIn K neg) (oIn neg) := by
  intro B F H v w x y P Q px py hF h q
  unfold oIn at h
  cases e : y.2.seq with
  | none => rw [e] at h; exact h.elim
  | some ds =>
    rw [e] at h
    obtain ⟨h1, h2, h3⟩ := h
    obtain ⟨p, vs, rfl, t, r⟩ := py.ra.seq e
    refine ⟨p, vs, rfl, t, RA.flat1 px.ra h1, RAs.flat1 r h2, ?_⟩
    rw [RAs.in1 px.ra h1 r h2]
    exact q _ _ H h3 (Same.refl H) .bl
def oInS (neg : Bool) : KD → KD → (KD → Prop) → Prop := fun x y P => match x.2, y.2 with
  | .str i, .str j => P (.fl, .bl (if neg then Builtin.Str.occurrences j i 0 j.length 1 |>.isEmpty else !(Builtin.Str.occurrences j i 0 j.length 1).isEmpty))
  | _, _ => False
theorem os_inS : OpS K (fun x y H Q => ∃ i j, x = .str i ∧ y = .str j ∧ Q (.bl (!(Builtin.Str.occurrences j i 0 j.length 1).isEmpty)) H) (oInS false) := by
  intro B F H v w x y P Q px py hF h q
  obtain ⟨k, d⟩ := x
  obtain ⟨k', d'⟩ := y
  unfold oInS at h
  split at h
  · rename_i i j e1 e2
    dsimp only at e1 e2
    subst e1; subst e2
    exact ⟨i, j, px.ra, py.ra, q _ _ H h (Same.refl H) .bl⟩
  · exact h.elim
end
end DL

namespace DL
open PySem PySem.Spec PyProof.Rows L2

section
variable {K : Frg} {A B F : Addr → Prop} {H H' : Hp}
theorem VRs.len : ∀ {zs : List KD} {vs : List V} {f : List Addr}, VRs K A H zs vs f → vs.length = zs.length
  | [], _, _, h => by rw [h.1]; rfl
  | z :: zs, _, _, ⟨w, ws, f1, f2, e, e2, h, t⟩ => by rw [e, List.length_cons, List.length_cons, VRs.len t]
theorem VRs.append : ∀ {zs ys : List KD} {vs ws : List V} {f g : List Addr}, VRs K A H zs vs f → VRs K A H ys ws g → VRs K A H (zs ++ ys) (vs ++ ws) (f ++ g)
  | [], _, _, _, _, _, h, t => by rw [h.1, h.2]; exact t
  | z :: zs, _, _, _, _, _, ⟨w, ws, f1, f2, e, e2, h, t⟩, q => by subst e e2; rw [List.append_assoc]; exact ⟨w, _, f1, _, rfl, rfl, h, VRs.append t q⟩
theorem VRs.one {z : KD} {v : V} {f : List Addr} (h : VR K A H z v f) : VRs K A H [z] [v] f := ⟨v, [], f, [], rfl, (List.append_nil f).symm, h, rfl, rfl⟩
def jn (a b : Kd) : Kd := match a, b with
  | .fl, .fl => .fl
  | .fl, .ow => .ow
  | .sh, .fl => .ow
  | .sh, .ow => .ow
  | .ow, .fl => .ow
  | .ow, .ow => .ow
  | _, _ => .rd
def jT : List KD → Kd
  | [] => .fl
  | z :: zs => jn z.1 (jT zs)
def jL (zs : List KD) : Kd := match jT zs with
  | .fl => .sh
  | .ow => .ow
  | _ => .rd
theorem jT_cases : ∀ zs : List KD, jT zs = .fl ∨ jT zs = .ow ∨ jT zs = .rd
  | [] => .inl rfl
  | z :: zs => by
    show jn z.1 (jT zs) = _ ∨ jn z.1 (jT zs) = _ ∨ jn z.1 (jT zs) = _
    rcases jT_cases zs with e | e | e <;> rw [e] <;> cases z.1 <;> first | exact .inl rfl | exact .inr (.inl rfl) | exact .inr (.inr rfl)
theorem VRs.fl : ∀ {zs : List KD} {vs : List V} {f : List Addr}, VRs K A H zs vs f → jT zs = .fl → f = [] ∧ RAs K No H (zs.map (·.2)) vs
  | [], _, _, h, _ => ⟨h.2, h.1⟩
  | (k, d) :: zs, _, _, ⟨w, ws, f1, f2, e, e2, h, t⟩, j => by
    have j' : jn k (jT zs) = .fl := j
    have e3 : k = .fl ∧ jT zs = .fl := by
      revert j'
      cases k <;> cases jT zs <;> intro j' <;> first | exact ⟨rfl, rfl⟩ | cases j'
    obtain ⟨rfl, e4⟩ := e3
    obtain ⟨q1, q2⟩ := VRs.fl t e4
    subst e e2
    exact ⟨by rw [q1, h.1]; rfl, w, ws, rfl, h.2, q2⟩
theorem VR.r {k : Kd} {d : D} {v : V} {f : List Addr} (h : VR K A H (k, d) v f) (hk : k = .fl ∨ k = .sh ∨ k = .ow) : R K No H d v f := by
  rcases hk with rfl | rfl | rfl
  · obtain ⟨e, h⟩ := h
    subst e
    exact R.of0 _ _ h
  · exact h.1
  · exact h
theorem VRs.ow : ∀ {zs : List KD} {vs : List V} {f : List Addr}, VRs K A H zs vs f → jT zs ≠ .rd → Rs K No H (zs.map (·.2)) vs f
  | [], _, _, h, _ => h
  | (k, d) :: zs, _, _, ⟨w, ws, f1, f2, e, e2, h, t⟩, j => by
    have j' : jn k (jT zs) ≠ .rd := j
    have e3 : (k = .fl ∨ k = .sh ∨ k = .ow) ∧ jT zs ≠ .rd := by
      revert j'
      cases k <;> cases jT zs <;> intro j' <;> first | exact ⟨.inl rfl, by decide⟩ | exact ⟨.inr (.inl rfl), by decide⟩ | exact ⟨.inr (.inr rfl), by decide⟩ | exact absurd rfl j'
    exact ⟨w, ws, f1, f2, e, e2, h.r e3.1, VRs.ow t e3.2⟩
theorem VRs.ra (m : ∀ a, A a → B a) : ∀ {zs : List KD} {vs : List V} {f : List Addr}, VRs K A H zs vs f → (∀ a ∈ f, B a) → RAs K B H (zs.map (·.2)) vs
  | [], _, _, h, _ => h.1
  | z :: zs, _, _, ⟨w, ws, f1, f2, e, e2, h, t⟩, n => ⟨w, ws, e, h.ra m fun a q => n a (by rw [e2]; exact List.mem_append_left _ q), VRs.ra m t fun a q => n a (by rw [e2]; exact List.mem_append_right _ q)⟩
theorem pr_tupJ {zs : List KD} {vs : List V} {p : Addr} (h : PRs K B F H vs zs) (hp : H p = none) : PR K B F (upd H p (.tup vs)) (.ref p) (jT zs, .tup (zs.map (·.2))) := by
  obtain ⟨fp, r, nd, hF⟩ := h
  have s : Same H (upd H p (.tup vs)) := same_upd hp
  rcases jT_cases zs with e | e | e
  · rw [e]; exact .fl ⟨p, vs, rfl, .of upd_same, (r.fl e).2.same s⟩
  · rw [e]; exact ⟨fp, ⟨p, vs, rfl, .of upd_same, Rs.keep _ _ _ (KeepF.of_same s) (r.ow (by rw [e]; decide))⟩, nd, hF⟩
  · rw [e]; exact .rd ⟨p, vs, rfl, .of upd_same, (r.ra (fun _ h => h) fun a q => .inr (hF a q)).same s⟩
theorem pr_lstJ {zs : List KD} {vs : List V} {p : Addr} (h : PRs K B F H vs zs) (hp : H p = none) (hF0 : F p) : PR K B F (upd H p (.lst vs)) (.ref p) (jL zs, .lst (zs.map (·.2))) := by
  obtain ⟨fp, r, nd, hF⟩ := h
  have s : Same H (upd H p (.lst vs)) := same_upd hp
  have np : p ∉ fp := fun q => by
    obtain ⟨o, e, _⟩ := r.mu p q
    rw [hp] at e; cases e
  rcases jT_cases zs with e | e | e
  · have e' : jL zs = .sh := by unfold jL; rw [e]
    rw [e']
    exact ⟨[p], ⟨⟨p, vs, [], rfl, rfl, upd_same, Rs.of0 _ _ ((r.fl e).2.same s)⟩, p, vs, rfl, upd_same, (r.fl e).2.same s⟩, by simp, fun a q => by rw [List.mem_singleton.mp q]; exact hF0⟩
  · have e' : jL zs = .ow := by unfold jL; rw [e]
    rw [e']
    exact ⟨p :: fp, ⟨p, vs, fp, rfl, rfl, upd_same, Rs.keep _ _ _ (KeepF.of_same s) (r.ow (by rw [e]; decide))⟩, List.nodup_cons.mpr ⟨np, nd⟩, fun a q => by
      rcases List.mem_cons.mp q with rfl | q
      · exact hF0
      · exact hF a q⟩
  · have e' : jL zs = .rd := by unfold jL; rw [e]
    rw [e']
    exact .rd ⟨p, vs, rfl, .inr hF0, upd_same, (r.ra (fun _ h => h) fun a q => .inr (hF a q)).same s⟩
theorem PRs.one {z : KD} {v : V} (h : PR K B F H v z) : PRs K B F H [v] [z] := let ⟨fp, a, b, c⟩ := h; ⟨fp, .one a, b, c⟩
theorem PRs.get1 {z : KD} {vs : List V} (h : PRs K B F H vs [z]) : ∃ v, vs = [v] ∧ PR K B F H v z := by
  obtain ⟨fp, ⟨w, ws, f1, f2, e, e2, a, e3, e4⟩, b, c⟩ := h
  subst e e2 e3 e4
  rw [List.append_nil] at b c
  exact ⟨w, rfl, f1, a, b, c⟩
theorem PRs.get2 {z y : KD} {vs : List V} (h : PRs K B F H vs [z, y]) : ∃ v w, vs = [v, w] ∧ PR K B F H v z ∧ PR K B F H w y := by
  obtain ⟨fp, ⟨w, ws, f1, f2, e, e2, a, w', ws', f1', f2', e', e2', a', e3, e4⟩, b, c⟩ := h
  subst e e2 e' e2' e3 e4
  rw [List.append_nil] at b c
  obtain ⟨b1, b2, _⟩ := List.nodup_append.mp b
  exact ⟨w, w', rfl, ⟨f1, a, b1, fun x q => c x (List.mem_append_left _ q)⟩, ⟨f1', a', b2, fun x q => c x (List.mem_append_right _ q)⟩⟩
end
section
variable {X : Cx} {pos : Pos}
theorem da_nil : DA X [] 0 (fun _ P => P []) :=
  ⟨_, pa_nil, fun σ H A ρ ow Q P g h q => q [] [] H rfl h (Same.refl H) .nil⟩
theorem da_cons {e : Expr} {es : List Expr} {n : Nat} {f : PF} {g : PAF} (h : DP X e f) (t : DA X es n g) (hs : starEach (e :: es) X.env = (false, eval e X.env) :: starEach es X.env := by rfl) :
    DA X (e :: es) (n + 1) (fun ρ P => f ρ fun z => g ρ fun zs => P (z :: zs)) := by
  obtain ⟨ta, ea, sa⟩ := h.run
  obtain ⟨tb, eb, sb⟩ := t.run
  refine ⟨_, pa_cons ea eb hs, fun σ H A ρ ow Q P g h q => ?_⟩
  refine sa σ H A ρ ow _ _ g h fun x v H1 hx s1 p1 => ?_
  refine sb σ H1 A ρ ow _ _ (g.same s1) hx fun zs vs H2 hn hy s2 p2 => ?_
  refine q _ _ H2 (by rw [List.length_cons, hn]) hy (s1.trans s2) ?_
  obtain ⟨f1, a1, b1, c1⟩ := p1
  obtain ⟨f2, a2, b2, c2⟩ := p2
  refine ⟨f1 ++ f2, ⟨v, vs, f1, f2, rfl, rfl, a1.same s2, a2.mono fun a z => z.imp id (s1.fre a)⟩, List.nodup_append.mpr ⟨b1, b2, fun a ha b hb e => ?_⟩, fun a z => ?_⟩
  · subst e
    obtain ⟨o, e, _⟩ := a1.mu a ha
    rw [show H1 a = none from c2 a hb] at e; cases e
  · rcases List.mem_append.mp z with z | z
    · exact c1 a z
    · exact s1.fre a (c2 a z)
def pTup (g : PAF) : PF := fun ρ P => g ρ fun zs => P (jT zs, .tup (zs.map (·.2)))
def pLst (g : PAF) : PF := fun ρ P => g ρ fun zs => P (jL zs, .lst (zs.map (·.2)))
theorem dp_tup {es : List Expr} {n : Nat} {g : PAF} {k} (h : DA X es n g) (hn : n ≤ 1000 := by decide) : DP X (.Tuple es k pos) (pTup g) := by
  obtain ⟨ta, ea, sa⟩ := h.run
  refine ⟨_, pe_tup ea, fun σ H A ρ ow Q P g h q => ?_⟩
  refine sa σ H A ρ ow _ _ g h fun zs vs H1 hz hx s1 p1 => ⟨?_, fun p hp => ?_⟩
  · obtain ⟨_, r, _⟩ := p1
    rw [r.len, hz, sizeLine_eq]; omega
  · exact q _ _ _ hx (s1.trans (same_upd hp)) (pr_tupJ p1 hp)
theorem dp_lst {es : List Expr} {n : Nat} {g : PAF} (h : DA X es n g) (hn : n ≤ 1000 := by decide) : DP X (.List es pos) (pLst g) := by
  obtain ⟨ta, ea, sa⟩ := h.run
  refine ⟨_, pe_lst ea, fun σ H A ρ ow Q P g h q => ?_⟩
  refine sa σ H A ρ ow _ _ g h fun zs vs H1 hz hx s1 p1 => ⟨?_, fun p hp => ?_⟩
  · obtain ⟨_, r, _⟩ := p1
    rw [r.len, hz, sizeLine_eq]; omega
  · exact q _ _ _ hx (s1.trans (same_upd hp)) (pr_lstJ p1 hp (s1.fre p hp))
def pCall (o : List KD → (KD → Prop) → Prop) (g : PAF) : PF := fun ρ P => g ρ fun zs => o zs P
theorem sound_call {K : Frg} {n : Nat} {r : List V → Hp → VK → Prop} {o : List KD → (KD → Prop) → Prop} {t : TA} {g : PAF} (hr : CallS K r o) (s : ASound K n t g) : PSound K (tCB r t) (pCall o g) := by
  intro σ H A ρ ow Q P gd h q
  refine s σ H A ρ ow _ _ gd h fun zs vs H1 _ hx s1 p1 => ?_
  exact hr (BB A ow) (Fre H) H1 vs zs P Q p1 s1.fre hx fun z u H' hz s3 p3 => q z u H' hz (s1.trans s3) p3
variable {e : Expr} {es : List Expr} {n : Nat} {g : PAF} {r : List V → Hp → VK → Prop} {o : List KD → (KD → Prop) → Prop} {x : Str} {p : Pos}
theorem dp_callB {id : String} (hc : CallR X (.builtin id) r) (hr : CallS X.K r o) (hg : Gl X x) (hm : X.mg x = none) (hv : bootBuiltins x = some (.builtin id)) (ha : DA X (e :: es) n g) (hn : x ≠ "__name__" := by decide) (hdb : (x == ("__debug__" : Str)) = false := by decide)
    (he : starEach (e :: es) X.env = (false, eval e X.env) :: starEach es X.env := by rfl) (hpl : (backTo pos (starEach es X.env)).any (·.1) = false := by rfl) : DP X (.Call (.Name x p) (e :: es) [] pos) (pCall o g) := by
  obtain ⟨t, ea, sa⟩ := ha.run
  exact ⟨_, pe_callB hc hg hm hv ea hn hdb he hpl, sound_call hr sa⟩
theorem dp_callTy {T : String} (hc : CallR X (.type T) r) (hr : CallS X.K r o) (hg : Gl X x) (hm : X.mg x = none) (hv : bootBuiltins x = some (.type T)) (ha : DA X (e :: es) n g) (hn : x ≠ "__name__" := by decide) (hdb : (x == ("__debug__" : Str)) = false := by decide)
    (he : starEach (e :: es) X.env = (false, eval e X.env) :: starEach es X.env := by rfl) (hpl : (backTo pos (starEach es X.env)).any (·.1) = false := by rfl) : DP X (.Call (.Name x p) (e :: es) [] pos) (pCall o g) := by
  obtain ⟨t, ea, sa⟩ := ha.run
  exact ⟨_, pe_callTy hc hg hm hv ea hn hdb he hpl, sound_call hr sa⟩
end
end DL

namespace DL
open PySem PySem.Spec PyProof.Rows L2

section
variable {K : Frg} {A B F : Addr → Prop} {H H' : Hp}
theorem RAs.atI {ds : List D} {vs : List V} {i : Int} {d : D} (h : RAs K A H ds vs) (e : atI ds i = some d) : ∃ w, L2.atI vs i = some w ∧ RA K A H d w := by
  unfold L2.atI at e ⊢
  rw [h.len]
  cases q : ixN ds.length i with
  | none => rw [q] at e; cases e
  | some j =>
    rw [q] at e
    exact h.get e
def oIx : KD → KD → (KD → Prop) → Prop := fun x y P => match x, y.2 with
  | (k, .tup ds), .int i => (match atI ds i with | some d => P (kel k d) | none => False)
  | (k, .lst ds), .int i => (match atI ds i with | some d => P (kel k d) | none => False)
  | (k, .kst ds), .int i => (match atI ds i with | some d => P (kel k d) | none => False)
  | (_, .str z), .int i => z.length ≤ 10000000 ∧ (match atI z.cps.toList i with | some c => P (.fl, .str ⟨#[c]⟩) | none => False)
  | _, _ => False
theorem os_ix : OpS K (rIx K) oIx := by
  intro B F H v w x y P Q px py hF h q
  obtain ⟨k, d⟩ := x
  obtain ⟨k', d'⟩ := y
  have go : ∀ (ds : List D) (i : Int), d.seq = some ds → d' = .int i → (match atI ds i with | some d => P (kel k d) | none => False) → rIx K v w H Q := fun ds i e1 e2 hh => by
    clear h
    subst e2
    obtain ⟨p, vs, rfl, t, r⟩ := px.seq e1
    obtain rfl : w = .int i := py.ra
    cases e : atI ds i with
    | none => rw [e] at hh; exact hh.elim
    | some c =>
      rw [e] at hh
      obtain ⟨u, hu, ru⟩ := r.atI e
      rcases t with t | t
      · exact .inl ⟨p, vs, i, u, rfl, rfl, t, hu, q _ _ H hh (Same.refl H) (pr_kel ru)⟩
      · exact .inr (.inl ⟨p, vs, i, u, rfl, rfl, t, hu, q _ _ H hh (Same.refl H) (pr_kel ru)⟩)
  unfold oIx at h
  split at h
  · rename_i ds i e1 e2
    cases e1
    exact go ds i rfl e2 h
  · rename_i ds i e1 e2
    cases e1
    exact go ds i rfl e2 h
  · rename_i ds i e1 e2
    cases e1
    exact go ds i rfl e2 h
  · rename_i z i e1 e2
    cases e1
    dsimp only at e2
    subst e2
    obtain rfl : v = .str z := px.ra
    obtain rfl : w = .int i := py.ra
    obtain ⟨h1, h2⟩ := h
    cases e : atI z.cps.toList i with
    | none => rw [e] at h2; exact h2.elim
    | some c =>
      rw [e] at h2
      exact .inr (.inr ⟨z, i, c, rfl, rfl, sz7 h1, e, q _ _ H h2 (Same.refl H) .str⟩)
  · exact h.elim
end
section
variable {X : Cx} {pos : Pos} {a b c : Expr} {fa fb fc : PF}
theorem dp_ix (ha : DP X a fa) (hb : DP X b fb) (hs : PlainIx b := by exact fun _ _ => rfl) : DP X (.Subscript a b pos) (pOp oIx fa fb) := by
  obtain ⟨ta, ea, sa⟩ := ha.run
  obtain ⟨tb, eb, sb⟩ := hb.run
  exact ⟨_, pe_ix ix_seq ea eb hs, sound_op os_ix sa sb⟩

def cutD (xs : List D) (lo hi : Option Int) : List D := (xs.drop (HT.sIx xs.length 0 lo)).take (HT.sIx xs.length xs.length hi - HT.sIx xs.length 0 lo)
theorem RAs.cut {K : Frg} {A : Addr → Prop} {H : Hp} {ds : List D} {vs : List V} (h : RAs K A H ds vs) (lo hi : Option Int) : RAs K A H (cutD ds lo hi) (cutV vs lo hi) := by
  unfold cutD cutV
  rw [h.len]
  exact (h.drop _).take _
abbrev POF := Ro → (Option Int → Prop) → Prop
structure DO (X : Cx) (e : Option Expr) (f : POF) : Prop where
  run : ∃ t, PO X e t ∧ ∀ (σ : L2.St) (H : Hp) (A : Addr → Prop) (ρ : Ro) (ow : List Addr) (Q : Option Int → Hp → Prop) (P : Option Int → Prop), Good X.K A H ρ σ ow → f ρ P →
    (∀ b H', P b → Same H H' → Q b H') → t σ H Q
def oNoP : POF := fun _ P => P none
def oP (f : PF) : POF := fun ρ P => f ρ fun z => match z.2 with
  | .int i => P (some i)
  | _ => False
theorem do_none : DO X none oNoP := ⟨_, po_none, fun σ H A ρ ow Q P g h q => q _ H h (Same.refl H)⟩
theorem do_some (ha : DP X a fa) : DO X (some a) (oP fa) := by
  obtain ⟨ta, ea, sa⟩ := ha.run
  refine ⟨_, po_some ea, fun σ H A ρ ow Q P g h q => ?_⟩
  refine sa σ H A ρ ow _ _ g h fun z v H1 hz s1 p1 => ?_
  obtain ⟨k, d⟩ := z
  have r := p1.ra
  cases d <;> first
    | exact hz.elim
    | exact ⟨_, r, q _ H1 hz s1⟩
def pSl (f : PF) (g h : POF) : PF := fun ρ P => f ρ fun z => g ρ fun lo => h ρ fun hi => match z with
  | (k, .lst ds) => P (kL k, .lst (cutD ds lo hi))
  | (k, .kst ds) => P (kL k, .lst (cutD ds lo hi))
  | (k, .tup ds) => P (kT k, .tup (cutD ds lo hi))
  | _ => False
abbrev rSlAll (K : Frg) : V → Option Int → Option Int → Hp → VK → Prop := fun x lo hi H Q => rSlL K x lo hi H Q ∨ rSlA K x lo hi H Q
theorem dp_sl {lo hi : Option Expr} {g h : POF} {p2 : Pos} (ha : DP X a fa) (hl : DO X lo g) (hh : DO X hi h) : DP X (.Subscript a (.Slice lo hi none p2) pos) (pSl fa g h) := by
  obtain ⟨ta, ea, sa⟩ := ha.run
  obtain ⟨tl, el, sl⟩ := hl.run
  obtain ⟨th, eh, sh⟩ := hh.run
  refine ⟨_, pe_slice (r := rSlAll X.K) (SlR.or sl_list sl_tupA) ea el eh, fun σ H A ρ ow Q P gd hf q => ?_⟩
  refine sa σ H A ρ ow _ _ gd hf fun z v H1 hz s1 p1 => ?_
  refine sl σ H1 A ρ ow _ _ (gd.same s1) hz fun l H2 hl s2 => ?_
  refine sh σ H2 A ρ ow _ _ (gd.same (s1.trans s2)) hl fun u H3 hu s3 => ?_
  obtain ⟨k, d⟩ := z
  have p3 := (p1.same s2).same s3
  have s : Same H H3 := (s1.trans s2).trans s3
  have lst : ∀ (ds : List D) (p : Addr) (vs : List V), v = .ref p → SqL X.K H3 p vs → RAs X.K (k.elA (BB A ow) (Fre H)) H3 ds vs → P (kL k, .lst (cutD ds l u)) → rSlAll X.K v l u H3 Q := fun ds p vs e t r hu => by
    refine .inl ⟨p, vs, e, t, fun pp hp => ?_⟩
    exact q _ _ _ hu (s.trans (same_upd hp)) (pr_lst (r.cut l u) hp (s.fre pp hp))
  cases d with
  | lst ds =>
    obtain ⟨p, vs, e, t, r⟩ := p3.lstT
    exact lst _ p vs e (.of t) r hu
  | tup ds =>
    obtain ⟨p, vs, e, t, r⟩ := p3.tupT
    have rr := r.cut l u
    refine .inr ⟨p, vs, e, t, fun hw => ?_, fun hw pp hp => ?_⟩
    · have ew : cutV vs l u = vs := by
        unfold cutV
        rw [hw.1, hw.2]
        simp
      rw [ew] at rr
      refine q _ _ H3 hu s ?_
      unfold kT
      rcases el_cases k with e' | e'
      · rw [e']; exact .fl ⟨p, vs, rfl, t, rr.elno e'⟩
      · rw [e']; exact .rd ⟨p, vs, rfl, t, rr.elor⟩
    · exact q _ _ _ hu (s.trans (same_upd hp)) (pr_tup rr hp)
  | kst ds =>
    have z : ∃ p vs, v = .ref p ∧ SqL X.K H3 p vs ∧ RAs X.K (k.elA (BB A ow) (Fre H)) H3 ds vs := by
      have p4 : ∃ p vs, v = .ref p ∧ SqL X.K (lockd H3) p vs ∧ RAs X.K (Or2 (BB A ow) (Fre H)) H3 ds vs := p3.ra
      obtain ⟨p', vs', e', t', r'⟩ := p4
      cases k with
      | fl => obtain ⟨_, a, _⟩ := p3; obtain ⟨p, vs, e, t, r⟩ := a.2; exact ⟨p, vs, e, kst_seq t, r⟩
      | rd => exact ⟨p', vs', e', kst_seq t', r'⟩
      | ow => exact ⟨p', vs', e', kst_seq t', r'⟩
      | sh => obtain ⟨_, a, _⟩ := p3; obtain ⟨p, vs, e, t, r⟩ := a.2; exact ⟨p, vs, e, kst_seq t, r⟩
      | sa => obtain ⟨_, a, _⟩ := p3; obtain ⟨p, vs, e, t, r⟩ := a.2.2; exact ⟨p, vs, e, kst_seq t, r⟩
    obtain ⟨p, vs, e, t, r⟩ := z
    exact lst _ p vs e t r hu
  | _ => exact hu.elim

structure DW (X : Cx) (e : Expr) (f : PTF) : Prop where
  run : ∃ t, PW X e t ∧ TSound X.K t f
theorem DW.dt {e : Expr} {f : PTF} (h : DW X e f) : DT X e f := let ⟨t, a, b⟩ := h.run; ⟨t, a.pt, b⟩
variable {ta tb : PTF} {rest : List Expr}
def tAnd (f g : PTF) : PTF := fun ρ P => f ρ fun b => if b = true then g ρ P else P false
def tOr (f g : PTF) : PTF := fun ρ P => f ρ fun b => if b = true then P true else g ρ P
def tNot (f : PTF) : PTF := fun ρ P => f ρ fun b => P (!b)
theorem ts_and {K : Frg} {t u : TT} {f g : PTF} (s : TSound K t f) (s' : TSound K u g) : TSound K (L2.tAnd t u) (tAnd f g) := by
  intro σ H A ρ ow Q P gd h q
  refine s σ H A ρ ow _ _ gd h fun b H1 hb s1 => ?_
  cases b with
  | true => exact s' σ H1 A ρ ow _ _ (gd.same s1) hb fun b H2 hb s2 => q b H2 hb (s1.trans s2)
  | false => exact q false H1 hb s1
theorem ts_or {K : Frg} {t u : TT} {f g : PTF} (s : TSound K t f) (s' : TSound K u g) : TSound K (L2.tOr t u) (tOr f g) := by
  intro σ H A ρ ow Q P gd h q
  refine s σ H A ρ ow _ _ gd h fun b H1 hb s1 => ?_
  cases b with
  | false => exact s' σ H1 A ρ ow _ _ (gd.same s1) hb fun b H2 hb s2 => q b H2 hb (s1.trans s2)
  | true => exact q true H1 hb s1
theorem dw_and1 (h : DT X a ta) : DW X (.BoolOp .And [a] pos) ta := let ⟨_, e, s⟩ := h.run; ⟨_, pw_and1 e, s⟩
theorem dw_or1 (h : DT X a ta) : DW X (.BoolOp .Or [a] pos) ta := let ⟨_, e, s⟩ := h.run; ⟨_, pw_or1 e, s⟩
theorem dw_and (h : DT X a ta) (h' : DW X (.BoolOp .And (b :: rest) pos) tb) : DW X (.BoolOp .And (a :: b :: rest) pos) (tAnd ta tb) := let ⟨_, e, s⟩ := h.run; let ⟨_, e', s'⟩ := h'.run; ⟨_, pw_and e e', ts_and s s'⟩
theorem dw_or (h : DT X a ta) (h' : DW X (.BoolOp .Or (b :: rest) pos) tb) : DW X (.BoolOp .Or (a :: b :: rest) pos) (tOr ta tb) := let ⟨_, e, s⟩ := h.run; let ⟨_, e', s'⟩ := h'.run; ⟨_, pw_or e e', ts_or s s'⟩
theorem dt_not (h : DT X a ta) : DT X (.UnaryOp .Not a pos) (tNot ta) := by
  obtain ⟨t, e, s⟩ := h.run
  refine ⟨_, pt_not e, fun σ H A ρ ow Q P gd h q => ?_⟩
  exact s σ H A ρ ow _ _ gd h fun b H1 hb s1 => q _ H1 hb s1
def pAndV (f g : PF) : PF := fun ρ P => f ρ fun z => match z.2 with
  | .bl b => if b = true then g ρ P else P (.fl, .bl false)
  | _ => False
def uNot : KD → (KD → Prop) → Prop := fun z P => match z.2 with
  | .bl b => P (.fl, .bl (!b))
  | _ => False
theorem dp_one {op} (h : DP X a fa) : DP X (.BoolOp op [a] pos) fa := let ⟨_, e, s⟩ := h.run; ⟨_, pe_one e, s⟩
theorem dp_and (h : DP X a fa) (h' : DP X (.BoolOp .And (b :: rest) pos) fb) : DP X (.BoolOp .And (a :: b :: rest) pos) (pAndV fa fb) := by
  obtain ⟨_, e, s⟩ := h.run
  obtain ⟨_, e', s'⟩ := h'.run
  refine ⟨_, pe_and e e', fun σ H A ρ ow Q P gd h q => ?_⟩
  refine s σ H A ρ ow _ _ gd h fun z v H1 hz s1 p1 => ?_
  obtain ⟨k, d⟩ := z
  have r := p1.ra
  cases d <;> first
    | exact hz.elim
    | skip
  rename_i b
  refine ⟨b, r, ?_⟩
  cases b with
  | true => exact s' σ H1 A ρ ow _ _ (gd.same s1) hz fun z v H2 hz s2 p2 => q z v H2 hz (s1.trans s2) (p2.mono (fun _ h => h) s1.fre)
  | false => exact q _ _ H1 hz s1 .bl
theorem dp_not (h : DP X a fa) : DP X (.UnaryOp .Not a pos) (pUn uNot fa) := by
  obtain ⟨_, e, s⟩ := h.run
  refine ⟨_, pe_not e, fun σ H A ρ ow Q P gd h q => ?_⟩
  refine s σ H A ρ ow _ _ gd h fun z v H1 hz s1 p1 => ?_
  obtain ⟨k, d⟩ := z
  have r := p1.ra
  cases d <;> first
    | exact hz.elim
    | exact ⟨_, r, q _ _ H1 hz s1 .bl⟩
def pIf (t : PTF) (f g : PF) : PF := fun ρ P => t ρ fun b => if b = true then f ρ P else g ρ P
theorem dp_if (ht : DT X c ta) (h : DP X a fa) (h' : DP X b fb) : DP X (.IfExp c a b pos) (pIf ta fa fb) := by
  obtain ⟨_, et, st⟩ := ht.run
  obtain ⟨_, e, s⟩ := h.run
  obtain ⟨_, e', s'⟩ := h'.run
  refine ⟨_, pe_ifExp et e e', fun σ H A ρ ow Q P gd h q => ?_⟩
  refine st σ H A ρ ow _ _ gd h fun b H1 hb s1 => ?_
  cases b with
  | true => exact s σ H1 A ρ ow _ _ (gd.same s1) hb fun z v H2 hz s2 p2 => q z v H2 hz (s1.trans s2) (p2.mono (fun _ h => h) s1.fre)
  | false => exact s' σ H1 A ρ ow _ _ (gd.same s1) hb fun z v H2 hz s2 p2 => q z v H2 hz (s1.trans s2) (p2.mono (fun _ h => h) s1.fre)
def pChain (o o' : KD → KD → (KD → Prop) → Prop) (fa fb fc : PF) : PF := fun ρ P => fa ρ fun x => fb ρ fun y => o x y fun z => match z.2 with
  | .bl b => if b = true then fc ρ fun w => o' y w P else P (.fl, .bl false)
  | _ => False
theorem sound_chain {K : Frg} {r r' : R2} {o o' : KD → KD → (KD → Prop) → Prop} {ta tb tc : TE} (hr : OpS K r o) (hr' : OpS K r' o') (sa : PSound K ta fa) (sb : PSound K tb fb) (sc : PSound K tc fc) : PSound K (tChain r r' ta tb tc) (pChain o o' fa fb fc) := by
  intro σ H A ρ ow Q P g h q
  refine sa σ H A ρ ow _ _ g h fun x v H1 hx s1 p1 => ?_
  refine sb σ H1 A ρ ow _ _ (g.same s1) hx fun y w H2 hy s2 p2 => ?_
  refine hr (BB A ow) (Fre H) H2 v w x y _ _ (p1.same s2) (p2.mono (fun _ h => h) s1.fre) (s1.trans s2).fre hy fun z u H3 hz s3 p3 => ?_
  obtain ⟨k, d⟩ := z
  have rr := p3.ra
  have s := (s1.trans s2).trans s3
  cases d <;> first
    | exact hz.elim
    | skip
  rename_i b
  refine ⟨b, rr, ?_⟩
  cases b with
  | false => exact q _ _ H3 hz s .bl
  | true =>
    refine sc σ H3 A ρ ow _ _ (g.same s) hz fun z' v' H4 hz' s4 p4 => ?_
    exact hr' (BB A ow) (Fre H) H4 w v' y z' P Q (((p2.same s3).same s4).mono (fun _ h => h) s1.fre) (p4.mono (fun _ h => h) s.fre) (s.trans s4).fre hz' fun z u H5 hz s5 p5 => q z u H5 hz ((s.trans s4).trans s5) p5
theorem dp_chain {op op' : CmpOp} {r r' : R2} {o o' : KD → KD → (KD → Prop) → Prop} (ho : OpR X (compareOp op) r) (ho' : OpR X (compareOp op') r') (hr : OpS X.K r o) (hr' : OpS X.K r' o') (ha : DP X a fa) (hb : DP X b fb) (hc : DP X c fc)
    (hm : lastMarks [op, op'] [b, c] = false := by with_unfolding_all rfl) : DP X (.Compare a [op, op'] [b, c] pos) (pChain o o' fa fb fc) := by
  obtain ⟨_, ea, sa⟩ := ha.run
  obtain ⟨_, eb, sb⟩ := hb.run
  obtain ⟨_, ec, sc⟩ := hc.run
  exact ⟨_, pe_chain ho ho' ea eb ec hm, sound_chain hr hr' sa sb sc⟩
theorem dt_chain {op op' : CmpOp} {r r' : R2} {o o' : KD → KD → (KD → Prop) → Prop} (ho : OpR X (compareOp op) r) (ho' : OpR X (compareOp op') r') (hr : OpS X.K r o) (hr' : OpS X.K r' o') (ha : DP X a fa) (hb : DP X b fb) (hc : DP X c fc)
    (hm : lastMarks [op, op'] [b, c] = false := by with_unfolding_all rfl) : DT X (.Compare a [op, op'] [b, c] pos) (pTest (pChain o o' fa fb fc)) := by
  obtain ⟨_, ea, sa⟩ := ha.run
  obtain ⟨_, eb, sb⟩ := hb.run
  obtain ⟨_, ec, sc⟩ := hc.run
  exact ⟨_, pt_chain ho ho' ea eb ec hm, sound_test (sound_chain hr hr' sa sb sc)⟩
end
end DL

namespace DL
open PySem PySem.Spec PyProof.Rows L2

structure Own (K : Frg) (A : Addr → Prop) (H : Hp) (kd : KD) (v : V) (fp ow : List Addr) : Prop where
  rep : VR K A H kd v fp
  nd : (fp ++ ow).Nodup
  dis : ∀ a ∈ fp, ¬ A a
abbrev GF := KD → Ro → (Ro → Prop) → Prop
def GSound (K : Frg) (is : List Nat) (t : TG) (g : GF) : Prop := ∀ (v : V) (kd : KD) (fp : List Addr) (σ : L2.St) (H : Hp) (A : Addr → Prop) (ρ : Ro) (ow : List Addr) (Q : L2.St → Hp → Prop) (P : Ro → Prop), Good K A H ρ σ ow → Own K A H kd v fp ow → g kd ρ P →
  (∀ ρ' σ' ow', P ρ' → Good K A H ρ' σ' ow' → (∀ a ∈ ow', a ∈ ow ∨ a ∈ fp) → wipe σ' is = wipe σ is → Q σ' H) → t v σ H Q
abbrev GsF := List KD → Ro → (Ro → Prop) → Prop
def GsSound (K : Frg) (is : List Nat) (t : TGs) (g : GsF) : Prop := ∀ (vs : List V) (zs : List KD) (fp : List Addr) (σ : L2.St) (H : Hp) (A : Addr → Prop) (ρ : Ro) (ow : List Addr) (Q : L2.St → Hp → Prop) (P : Ro → Prop), Good K A H ρ σ ow →
  VRs K A H zs vs fp → (fp ++ ow).Nodup → (∀ a ∈ fp, ¬ A a) → g zs ρ P →
  (∀ ρ' σ' ow', P ρ' → Good K A H ρ' σ' ow' → (∀ a ∈ ow', a ∈ ow ∨ a ∈ fp) → wipe σ' is = wipe σ is → Q σ' H) → t vs σ H Q
structure DG (X : Cx) (e : Expr) (is : List Nat) (g : GF) : Prop where
  run : ∃ t, PG X e t ∧ GSound X.K is t g
structure DGs (X : Cx) (es : List Expr) (is : List Nat) (n : Nat) (g : GsF) : Prop where
  run : ∃ t, PGs X es t ∧ GsSound X.K is t g
section
variable {K : Frg} {A : Addr → Prop} {H : Hp} {ρ : Ro} {σ : L2.St} {ow : List Addr}
theorem Good.put {i : Nat} {kd : KD} {v : V} {fp : List Addr} (g : Good K A H ρ σ ow) (o : Own K A H kd v fp ow) :
    ∃ ow', Good K A H (ρ.set i (some kd)) (σ.set i (some v)) ow' ∧ ∀ a ∈ ow', a ∈ ow ∨ a ∈ fp := by
  cases e : ρ[i]? with
  | none =>
    have h1 : ρ.length ≤ i := List.getElem?_eq_none_iff.mp e
    have h2 : σ.length ≤ i := by rw [g.rep.len]; exact h1
    rw [List.set_eq_of_length_le h1, List.set_eq_of_length_le h2]
    exact ⟨ow, g, fun a h => .inl h⟩
  | some s =>
    obtain ⟨x, f1, f2, f3, hx, e2, _, put⟩ := g.rep.split e
    have nd := o.nd
    subst e2
    refine ⟨f1 ++ (fp ++ f3), ⟨put H A (some kd) (some v) fp (fun _ h => h) (fun a o e _ => e) ⟨v, rfl, o.rep⟩, ?_, fun a h => ?_, g.tr⟩, fun a h => ?_⟩
    · obtain ⟨n1, n2, n3⟩ := List.nodup_append.mp nd
      obtain ⟨m1, m2, m3⟩ := List.nodup_append.mp n2
      obtain ⟨_, m5, m6⟩ := List.nodup_append.mp m2
      refine List.nodup_append.mpr ⟨m1, List.nodup_append.mpr ⟨n1, m5, fun a ha b hb => n3 a ha b (by simp [hb])⟩, fun a ha b hb => ?_⟩
      rcases List.mem_append.mp hb with hb | hb
      · exact fun e => n3 b hb a (by simp [ha]) e.symm
      · exact m3 a ha b (by simp [hb])
    · rcases List.mem_append.mp h with h | h
      · exact g.dis a (by simp [h])
      · rcases List.mem_append.mp h with h | h
        · exact o.dis a h
        · exact g.dis a (by simp [h])
    · rcases List.mem_append.mp h with h | h
      · exact .inl (by simp [h])
      · rcases List.mem_append.mp h with h | h
        · exact .inr h
        · exact .inl (by simp [h])
end
theorem wipe_get (σ : L2.St) (j : Nat) : ∀ vs : List Nat, (wipe σ vs)[j]? = if j ∈ vs ∧ j < σ.length then some none else σ[j]?
  | [] => by simp [wipe]
  | v :: vs => by
    show ((wipe σ vs).set v none)[j]? = _
    by_cases hv : v = j
    · subst hv
      by_cases hl : v < σ.length
      · rw [List.getElem?_set_self (by rw [wipe_length]; exact hl), if_pos ⟨List.mem_cons_self, hl⟩]
      · rw [List.set_eq_of_length_le (by rw [wipe_length]; omega), wipe_get σ v vs, if_neg (fun z => hl z.2), if_neg (fun z => hl z.2)]
    · rw [List.getElem?_set_ne hv, wipe_get σ j vs]
      have : j ∈ v :: vs ↔ j ∈ vs := by simp [Ne.symm hv]
      simp only [this]
theorem wipe_set {σ : L2.St} {i : Nat} {x : Option V} {vs : List Nat} (h : i ∈ vs) : wipe (σ.set i x) vs = wipe σ vs := by
  apply List.ext_getElem?
  intro j
  rw [wipe_get, wipe_get, List.length_set]
  by_cases hj : j ∈ vs ∧ j < σ.length
  · rw [if_pos hj, if_pos hj]
  · rw [if_neg hj, if_neg hj]
    by_cases hi : i = j
    · subst hi
      have hl : σ.length ≤ i := by
        by_cases q : i < σ.length
        · exact absurd ⟨h, q⟩ hj
        · omega
      rw [List.set_eq_of_length_le hl]
    · rw [List.getElem?_set_ne hi]
theorem wipe_idem (σ : L2.St) (vs : List Nat) : wipe (wipe σ vs) vs = wipe σ vs := by
  apply List.ext_getElem?
  intro j
  rw [wipe_get, wipe_get, wipe_length]
  by_cases hj : j ∈ vs ∧ j < σ.length
  · rw [if_pos hj, if_pos hj]
  · rw [if_neg hj]
theorem wipe_sub {σ τ : L2.St} {vs ws : List Nat} (h : wipe σ vs = wipe τ vs) (s : ∀ i ∈ vs, i ∈ ws) (hl : σ.length = τ.length) : wipe σ ws = wipe τ ws := by
  apply List.ext_getElem?
  intro j
  have e : (wipe σ vs)[j]? = (wipe τ vs)[j]? := by rw [h]
  rw [wipe_get, wipe_get] at e ⊢
  rw [hl] at e ⊢
  by_cases hj : j ∈ ws ∧ j < τ.length
  · rw [if_pos hj, if_pos hj]
  · rw [if_neg hj, if_neg hj]
    rwa [if_neg (fun z => hj ⟨s j z.1, z.2⟩), if_neg (fun z => hj ⟨s j z.1, z.2⟩)] at e
def gNm (i : Nat) : GF := fun kd ρ P => P (ρ.set i (some kd))
def kmv (k : Kd) (d : D) : KD := match d with
  | .non => (.fl, d)
  | .bl _ => (.fl, d)
  | .int _ => (.fl, d)
  | .str _ => (.fl, d)
  | .frz d => (match k with
    | .fl => (.fl, d)
    | .ow => (.fl, d)
    | _ => (.rd, d))
  | _ => (match k with
    | .fl => (.fl, d)
    | .ow => (.ow, d)
    | _ => (.rd, d))
def gTu (n : Nat) (gs : GsF) : GF := fun kd ρ P => match kd.2 with
  | .tup ds => ds.length = n ∧ gs (ds.map (kmv kd.1)) ρ P
  | _ => False
section
variable {K : Frg} {A : Addr → Prop} {H : Hp}
theorem RA.kmv {k : Kd} {d : D} {v : V} (h : RA K A H d v) (hk : k ≠ .fl) (hk2 : k ≠ .ow) : VR K A H (kmv k d) v [] := by
  cases k <;> first
    | exact absurd rfl hk
    | exact absurd rfl hk2
    | (cases d <;> first | exact ⟨rfl, h⟩)
theorem RA.kmv0 {d : D} {v : V} (h : RA K No H d v) : VR K A H (DL.kmv .fl d) v [] := by
  cases d <;> exact ⟨rfl, h⟩
theorem R.kmv {d : D} {v : V} {f : List Addr} (h : R K No H d v f) : VR K A H (DL.kmv .ow d) v f := by
  cases d <;> exact h
theorem VRs.kmv0 : ∀ {ds : List D} {vs : List V}, RAs K No H ds vs → VRs K A H (ds.map (kmv .fl)) vs []
  | [], _, h => ⟨h, rfl⟩
  | d :: ds, _, ⟨w, ws, e, h, t⟩ => ⟨w, ws, [], [], e, rfl, h.kmv0, VRs.kmv0 t⟩
theorem VRs.kmvR {k : Kd} (hk : k ≠ .fl) (hk2 : k ≠ .ow) : ∀ {ds : List D} {vs : List V}, RAs K A H ds vs → VRs K A H (ds.map (kmv k)) vs []
  | [], _, h => ⟨h, rfl⟩
  | d :: ds, _, ⟨w, ws, e, h, t⟩ => ⟨w, ws, [], [], e, rfl, h.kmv hk hk2, VRs.kmvR hk hk2 t⟩
theorem VRs.kmvO : ∀ {ds : List D} {vs : List V} {f : List Addr}, Rs K No H ds vs f → VRs K A H (ds.map (kmv .ow)) vs f
  | [], _, _, h => h
  | d :: ds, _, _, ⟨w, ws, f1, f2, e, e2, h, t⟩ => ⟨w, ws, f1, f2, e, e2, h.kmv, VRs.kmvO t⟩
theorem VR.tupT {k : Kd} {ds : List D} {v : V} {f : List Addr} (h : VR K A H (k, .tup ds) v f) : ∃ p vs, v = .ref p ∧ SqT K H p vs ∧ VRs K A H (ds.map (kmv k)) vs f := by
  cases k with
  | fl => obtain ⟨e, p, vs, e1, t, r⟩ := h; subst e; exact ⟨p, vs, e1, t, .kmv0 r⟩
  | rd => obtain ⟨e, p, vs, e1, t, r⟩ := h; subst e; exact ⟨p, vs, e1, t, .kmvR (by decide) (by decide) r⟩
  | ow => obtain ⟨p, vs, e1, t, r⟩ := h; exact ⟨p, vs, e1, t, .kmvO r⟩
  | sh => exact h.2.elim
  | sa => exact h.2.2.elim
end
section
variable {X : Cx} {pos : Pos}
theorem dg_name (i : Nat) {x : Str} (hN : X.N.Nodup) (hi : X.N[i]? = some x := by rfl) (hx : Loc X.env.scope x := by first | exact Or.inl rfl | exact Or.inr rfl) (hf : X.fn x = true ∨ X.env.scope.names.lookup x = some .local := by first | exact .inl rfl | exact .inr rfl) : DG X (.Name x pos) [i] (gNm i) := by
  refine ⟨_, pg_name hN hi hx hf, fun v kd fp σ H A ρ ow Q P g o h q => ?_⟩
  obtain ⟨ow', g', s⟩ := g.put (i := i) o
  exact q _ _ ow' h g' s (wipe_set (by simp))
theorem dgs_nil : DGs X [] [] 0 (fun zs ρ P => zs = [] ∧ P ρ) := by
  refine ⟨_, pgs_nil, fun vs zs fp σ H A ρ ow Q P g r nd dis h q => ?_⟩
  obtain ⟨e, h⟩ := h
  subst e
  exact ⟨r.1, q ρ σ ow h g (fun a h => .inl h) rfl⟩
theorem dgs_cons {e : Expr} {es : List Expr} {is js : List Nat} {n : Nat} {g : GF} {gs : GsF} (h1 : DG X e is g) (h2 : DGs X es js n gs)
    (hs : (assignEach (e :: es) X.env).map (·.2) = assign e X.env :: (assignEach es X.env).map (·.2) := by rfl) : DGs X (e :: es) (is ++ js) (n + 1) (fun zs ρ P => match zs with
      | z :: r => g z ρ fun ρ1 => gs r ρ1 P
      | [] => False) := by
  obtain ⟨t, e1, s1⟩ := h1.run
  obtain ⟨u, e2, s2⟩ := h2.run
  refine ⟨_, pgs_cons e1 e2 hs, fun vs zs fp σ H A ρ ow Q P gd r nd dis h q => ?_⟩
  · cases zs with
    | nil => exact h.elim
    | cons z r' =>
      obtain ⟨w, ws, f1, f2, ev, ef, r1, r2⟩ := r
      subst ev ef
      refine ⟨w, ws, rfl, ?_⟩
      obtain ⟨n1, n2, n3⟩ := List.nodup_append.mp nd
      obtain ⟨m1, m2, m3⟩ := List.nodup_append.mp n1
      refine s1 w z f1 σ H A ρ ow _ _ gd ⟨r1, List.nodup_append.mpr ⟨m1, n2, fun a ha b hb => n3 a (by simp [ha]) b hb⟩, fun a ha => dis a (by simp [ha])⟩ h fun ρ1 σ1 ow1 hp gd1 sub1 w1 => ?_
      refine s2 ws r' f2 σ1 H A ρ1 ow1 _ _ gd1 r2 (List.nodup_append.mpr ⟨m2, gd1.nd, fun a ha b hb e => ?_⟩) (fun a ha => dis a (by simp [ha])) hp fun ρ2 σ2 ow2 hp2 gd2 sub2 w2 => ?_
      · subst e
        rcases sub1 a hb with z | z
        · exact n3 a (by simp [ha]) a z rfl
        · exact m3 a z a ha rfl
      · refine q ρ2 σ2 ow2 hp2 gd2 (fun a ha => ?_) ?_
        · rcases sub2 a ha with z | z
          · rcases sub1 a z with z | z
            · exact .inl z
            · exact .inr (by simp [z])
          · exact .inr (by simp [z])
        · have l1 : σ1.length = σ.length := by rw [← wipe_length σ1 is, w1, wipe_length]
          have l2 : σ2.length = σ1.length := by rw [← wipe_length σ2 js, w2, wipe_length]
          exact (wipe_sub w2 (fun i h => by simp [h]) l2).trans (wipe_sub w1 (fun i h => by simp [h]) l1)
theorem dg_tup {es : List Expr} {is : List Nat} {n : Nat} {gs : GsF} {k : Nat} (hc : X.calm = true) (h : DGs X es is n gs) (hn : (assignEach es X.env).length = n := by rfl) (hst : (assignEach es X.env).findIdx? (·.1) = none := by rfl) :
    DG X (.Tuple es k pos) is (gTu n gs) := by
  obtain ⟨t, e, s⟩ := h.run
  refine ⟨_, pg_tup hc e hn hst, fun v kd fp σ H A ρ ow Q P g o h q => ?_⟩
  obtain ⟨k, d⟩ := kd
  cases d with
  | tup ds =>
    obtain ⟨h1, h2⟩ := h
    obtain ⟨p, vs, ev, t, r⟩ := o.rep.tupT
    exact ⟨p, vs, ev, t, by rw [r.len, List.length_map]; exact h1, s vs _ fp σ H A ρ ow Q P g r o.nd o.dis h2 q⟩
  | _ => exact h.elim
end

def OkZ (Z : Addr → Prop) (H' H'' : Hp) : Prop := ∀ a o, H' a = some o → ¬ Z a → H'' a = some o
def Walks (K : Frg) (J : It) (Ok : Hp → Prop) (A : Addr → Prop) (zs : List KD) : Prop :=
  ∃ (G : Hp → Prop) (Y : Nat → Hp → V → Hp → Prop), Walk J zs.length G Y ∧ (∀ H, Ok H → G H) ∧ ∀ i H x H2 z, zs[i]? = some z → Ok H → Y i H x H2 → Same H H2 ∧ VR K A H2 z x []
abbrev Fre2 (H H' : Hp) : Addr → Prop := fun a => H a = none ∧ ∃ o, H' a = some o
abbrev IF := Ro → (List KD → Prop) → Prop
def ISound (K : Frg) (t : TI) (src : IF) : Prop := ∀ (σ : L2.St) (H : Hp) (A : Addr → Prop) (ρ : Ro) (ow : List Addr) (R : It → Hp → Prop) (P : List KD → Prop) (Z : Addr → Prop), Good K A H ρ σ ow →
  (∀ a, Z a → ¬ BB A ow a ∧ ∃ o, H a = some o ∧ Mu o) → src ρ P →
  (∀ zs J H', P zs → Same H H' → Walks K J (OkZ Z H') (Or2 (BB A ow) (Fre2 H H')) zs → R J H') → t σ H R
structure DI (X : Cx) (tg iter : Expr) (src : IF) : Prop where
  run : ∃ t, PI X tg iter t ∧ ISound X.K t src
section
variable {K : Frg} {A B : Addr → Prop} {H H' H2 : Hp} {ow : List Addr} {Z : Addr → Prop}
theorem Rd.tr {p : Addr} {u : HO} (h : Rd H p u) : ∃ o, H p = some o := by
  rcases h with h | ⟨o, h⟩
  · exact ⟨_, h⟩
  · exact ⟨_, h⟩
mutual
theorem RA.monoT (m : ∀ a o, H a = some o → A a → B a) : ∀ (d : D) (v : V), RA K A H d v → RA K B H d v
  | .non, _, h => h
  | .bl _, _, h => h
  | .int _, _, h => h
  | .str _, _, h => h
  | .fn _, _, h => h
  | .ad _, _, h => h
  | .key _, _, h => h
  | .tpx _, _, h => h
  | .exn _, _, h => h
  | .lkT _, _, h => h
  | .any, _, h => h
  | .tup ds, _, ⟨p, vs, e, t, r⟩ => ⟨p, vs, e, t, RAs.monoT m ds vs r⟩
  | .lst ds, _, ⟨p, vs, e, a, t, r⟩ => ⟨p, vs, e, m _ _ t a, t, RAs.monoT m ds vs r⟩
  | .lsA _ ds, _, ⟨e, a, vs, t, r⟩ => ⟨e, m _ _ t a, vs, t, RAs.monoT m ds vs r⟩
  | .kst ds, _, ⟨p, vs, e, t, r⟩ => ⟨p, vs, e, t, RAs.monoT m ds vs r⟩
  | .dcT ks ds, _, ⟨p, vs, e, a, t, q, r⟩ => ⟨p, vs, e, (let ⟨_, z⟩ := Rd.tr t; m _ _ z a), t, q, RAs.monoT m ds _ r⟩
  | .dcK ks ds, _, ⟨p, vs, e, a, t, q, r⟩ => ⟨p, vs, e, (let ⟨_, z⟩ := Rd.tr t; m _ _ z a), t, q, RAs.monoT m ds _ r⟩
  | .obj C ns ds, _, ⟨p, dx, fs, e, a, t, q, r⟩ => ⟨p, dx, fs, e, m _ _ t a, t, q, RAs.monoT m ds _ r⟩
  | .frz d, v, h => RA.monoT m d v h
theorem RAs.monoT (m : ∀ a o, H a = some o → A a → B a) : ∀ (ds : List D) (vs : List V), RAs K A H ds vs → RAs K B H ds vs
  | [], _, h => h
  | d :: ds, _, ⟨w, ws, e, h, r⟩ => ⟨w, ws, e, RA.monoT m d w h, RAs.monoT m ds ws r⟩
end
mutual
theorem R.monoT (m : ∀ a o, H a = some o → A a → B a) : ∀ (d : D) (v : V) (fp : List Addr), R K A H d v fp → R K B H d v fp
  | .non, _, _, h => h
  | .bl _, _, _, h => h
  | .int _, _, _, h => h
  | .str _, _, _, h => h
  | .fn _, _, _, h => h
  | .ad _, _, _, h => h
  | .key _, _, _, h => h
  | .tpx _, _, _, h => h
  | .exn _, _, _, h => h
  | .lkT _, _, _, h => h
  | .any, _, _, h => h
  | .kst ds, v, _, h => h
  | .tup ds, _, fp, ⟨p, vs, e, t, r⟩ => ⟨p, vs, e, t, Rs.monoT m ds vs fp r⟩
  | .lst ds, _, fp, ⟨p, vs, fps, e, e2, t, r⟩ => ⟨p, vs, fps, e, e2, t, Rs.monoT m ds vs fps r⟩
  | .lsA _ _, _, _, ⟨_, h⟩ => h.2.1.elim
  | .dcT ks ds, _, fp, ⟨p, vs, fps, e, e2, t, q, r⟩ => ⟨p, vs, fps, e, e2, t, q, Rs.monoT m ds _ fps r⟩
  | .dcK ks ds, _, fp, ⟨p, vs, fps, e, e2, t, q, r⟩ => ⟨p, vs, fps, e, e2, t, q, Rs.monoT m ds _ fps r⟩
  | .obj C ns ds, _, fp, ⟨p, dx, fs, fps, e, e2, t, q, r⟩ => ⟨p, dx, fs, fps, e, e2, t, q, Rs.monoT m ds _ fps r⟩
  | .frz d, v, fp, ⟨e, h⟩ => ⟨e, RA.monoT m d v h⟩
theorem Rs.monoT (m : ∀ a o, H a = some o → A a → B a) : ∀ (ds : List D) (vs : List V) (fp : List Addr), Rs K A H ds vs fp → Rs K B H ds vs fp
  | [], _, _, h => h
  | d :: ds, _, fp, ⟨w, ws, f1, f2, e, e2, h, r⟩ => ⟨w, ws, f1, f2, e, e2, R.monoT m d w f1 h, Rs.monoT m ds ws f2 r⟩
end
theorem VR.monoT {kd : KD} {v : V} {f : List Addr} (m : ∀ a o, H a = some o → A a → B a) (h : VR K A H kd v f) : VR K B H kd v f := by
  obtain ⟨c, d⟩ := kd
  cases c with
  | fl => exact h
  | rd => exact ⟨h.1, RA.monoT m _ _ h.2⟩
  | ow => exact h
  | sa => exact ⟨h.1, RA.monoT m _ _ h.2.1, h.2.2⟩
  | sh => exact h
theorem PR.tr {H0 : Hp} {v : V} {z : KD} (h : PR K B (Fre H0) H v z) : PR K B (Fre2 H0 H) H v z := by
  obtain ⟨fp, r, nd, hF⟩ := h
  exact ⟨fp, r.monoT fun a o e x => x.imp id fun y => ⟨y, o, e⟩, nd, fun a q => ⟨hF a q, let ⟨o, e, _⟩ := r.mu a q; ⟨o, e⟩⟩⟩
theorem fre2 {H0 : Hp} : ∀ a, Fre2 H0 H a → H0 a = none := fun _ h => h.1
theorem zFre {F : Addr → Prop} (hF : ∀ a, F a → H a = none) (hz : ∀ a, Z a → ¬ B a ∧ ∃ o, H a = some o ∧ Mu o) (s : Same H H') : ∀ a o, H' a = some o → (Or2 B F a ∨ Imm o) → ¬ Z a := fun a o e h z => by
  obtain ⟨h1, u, h2, m⟩ := hz a z
  rcases h with (h | h) | h
  · exact h1 h
  · rw [hF a h] at h2; cases h2
  · have e2 := s a u h2
    rw [e] at e2; cases e2
    exact m.notImm h
theorem OkZ.keep {F : Addr → Prop} (hF : ∀ a, F a → H a = none) (hz : ∀ a, Z a → ¬ B a ∧ ∃ o, H a = some o ∧ Mu o) (s : Same H H') (ok : OkZ Z H' H2) : Keep (Or2 B F) H' H2 := fun a o e h => ok a o e (zFre hF hz s a o e h)
def rangeD (lo : Int) (n : Nat) : List KD := (List.range n).map fun (i : Nat) => (.fl, .int (lo + i))
theorem rangeD_get {lo : Int} {n i : Nat} {z : KD} (h : (rangeD lo n)[i]? = some z) : z = (.fl, .int (lo + i)) := by
  unfold rangeD at h
  rw [List.getElem?_map] at h
  cases e : (List.range n)[i]? with
  | none => rw [e] at h; cases h
  | some j =>
    rw [e] at h
    have hj := List.getElem?_eq_some_iff.mp e
    obtain ⟨_, hj⟩ := hj
    rw [List.getElem_range] at hj
    subst hj
    exact (Option.some.inj h).symm
theorem walks_range {lo : Int} {n : Nat} {Ok : Hp → Prop} : Walks K (Itr lo n) Ok A (rangeD lo n) := by
  have hl : (rangeD lo n).length = n := by unfold rangeD; simp
  refine ⟨_, _, by rw [hl]; exact walk_range, fun _ _ => trivial, fun i H x H2 z hz _ y => ?_⟩
  obtain ⟨e, ex⟩ := y
  subst e ex
  rw [rangeD_get hz]
  exact ⟨Same.refl _, rfl, rfl⟩
theorem kel_VR {k : Kd} {F : Addr → Prop} {d : D} {w : V} (h : RA K (k.elA B F) H d w) : VR K (Or2 B F) H (kel k d) w [] := by
  have g : VR K (Or2 B F) H (k.el, d) w [] := by cases k <;> exact ⟨rfl, h⟩
  cases d <;> first | exact g | exact ⟨rfl, h⟩
theorem elA_keeps {k : Kd} {F : Addr → Prop} {d : List D} {w : List V} (kp : Keep (Or2 B F) H H2) (h : RAs K (k.elA B F) H d w) : RAs K (k.elA B F) H2 d w := by
  cases k <;> first
    | exact RAs.keep kp.no _ _ h
    | exact RAs.keep kp _ _ h
theorem walks_lst {F : Addr → Prop} (hF : ∀ a, F a → H a = none) {p : Addr} {vs : List V} {ds : List D} {k : Kd} (hz : ∀ a, Z a → ¬ B a ∧ ∃ o, H a = some o ∧ Mu o) (s : Same H H') (ht : ∀ H2, OkZ Z H' H2 → SqL K H2 p vs) (r : RAs K (k.elA B F) H' ds vs) :
    Walks K (Itl K p) (OkZ Z H') (Or2 B F) (ds.map (kel k)) := by
  have hl : (ds.map (kel k)).length = vs.length := by rw [List.length_map, r.len]
  refine ⟨_, _, by rw [hl]; exact walk_list, ht, fun i H2 x H3 z hzz ok y => ?_⟩
  · obtain ⟨e, ex⟩ := y
    subst e
    rw [List.getElem?_map] at hzz
    cases e : ds[i]? with
    | none => rw [e] at hzz; cases hzz
    | some d =>
      rw [e] at hzz
      obtain ⟨w, hw, rw'⟩ := (elA_keeps (ok.keep hF hz s) r).get e
      rw [ex] at hw
      cases hw
      cases hzz
      exact ⟨Same.refl _, kel_VR rw'⟩
theorem walks_tup {F : Addr → Prop} (hF : ∀ a, F a → H a = none) {p : Addr} {vs : List V} {ds : List D} {k : Kd} (hz : ∀ a, Z a → ¬ B a ∧ ∃ o, H a = some o ∧ Mu o) (s : Same H H') (t : SqT K H' p vs) (r : RAs K (k.elA B F) H' ds vs) :
    Walks K (Itt K p) (OkZ Z H') (Or2 B F) (ds.map (kel k)) := by
  have hl : (ds.map (kel k)).length = vs.length := by rw [List.length_map, r.len]
  refine ⟨_, _, by rw [hl]; exact walk_tup, fun H2 ok => SqT.keep (ok.keep hF hz s) t, fun i H2 x H3 z hzz ok y => ?_⟩
  obtain ⟨e, ex⟩ := y
  subst e
  rw [List.getElem?_map] at hzz
  cases e : ds[i]? with
  | none => rw [e] at hzz; cases hzz
  | some d =>
    rw [e] at hzz
    obtain ⟨w, hw, rw'⟩ := (elA_keeps (ok.keep hF hz s) r).get e
    rw [ex] at hw
    cases hw
    cases hzz
    exact ⟨Same.refl _, kel_VR rw'⟩
end

def iSeq (K : Frg) (tl : TE) : TI := fun σ H R => tl σ H fun x H1 => ∃ a, x = .ref a ∧ (((∃ xs, SqL K H1 a xs) ∧ R (Itl K a) H1) ∨ ((∃ xs, SqT K H1 a xs) ∧ R (Itt K a) H1))
section
variable {X : Cx} {tg : Expr}
theorem pi_seq {l : Expr} {tl : TE} (hl : PE X l tl) : PI X tg l (iSeq X.K tl) := by
  refine ⟨fun pins s σ H R I h => ?_⟩
  refine thn (hl.run pins s σ H _ I h) fun v s1 ⟨x, H1, I1, r1, q1⟩ => ?_
  obtain ⟨a, e, q1⟩ := q1
  subst e
  cases r1
  rcases q1 with ⟨⟨xs, hq⟩, q⟩ | ⟨⟨xs, hq⟩, q⟩
  · obtain ⟨its, rv, p, hz⟩ := I1.list hq
    refine wpAny_pyIter_list p.isList ?_
    refine ⟨s1.heap.objs.size, [s1.heap.objs.size], _, _, H1, rfl, I1.kept (t' := s1.toks) fun b o e => Heap.get?_push_of_some _ e, turn_list a _, ⟨_, Heap.get?_push_size _ rfl, rfl, rfl⟩, fun b hb => ?_, q⟩
    have e : b = s1.heap.objs.size := by simpa using hb
    subst e
    exact I1.fpOk (Nat.le_refl _) (I1.hok.fresh (Nat.le_refl _))
  · obtain ⟨its, rv, p, hz⟩ := I1.tuple hq
    refine wpAny_pyIter_tuple (show s1.heap.IsTuple a its.toArray from p) ?_
    refine ⟨s1.heap.objs.size, [s1.heap.objs.size], _, _, H1, rfl, I1.kept (t' := s1.toks) fun b o e => Heap.get?_push_of_some _ e, turn_tuple a _, ⟨_, Heap.get?_push_size _ rfl, rfl, rfl⟩, fun b hb => ?_, q⟩
    have e : b = s1.heap.objs.size := by simpa using hb
    subst e
    exact I1.fpOk (Nat.le_refl _) (I1.hok.fresh (Nat.le_refl _))
def iSq (f : PF) : IF := fun ρ P => f ρ fun z => match z.2.seq with
  | some ds => P (ds.map (kel z.1))
  | none => False
theorem PR.lp {K : Frg} {B F : Addr → Prop} {H : Hp} {k : Kd} {ds : List D} {v : V} (h : PR K B F H v (k, .lst ds)) : ∃ p vs, v = .ref p ∧ H p = some (.lst vs) ∧ Or2 B F p ∧ RAs K (k.elA B F) H ds vs := by
  obtain ⟨p, vs, e, a, t, r⟩ := h.ra
  obtain ⟨p', vs', e', t', r'⟩ := h.lstT
  rw [e] at e'; cases e'
  exact ⟨p, vs', e, t', a, r'⟩
theorem PR.kstT {K : Frg} {B F : Addr → Prop} {H : Hp} {k : Kd} {ds : List D} {v : V} (h : PR K B F H v (k, .kst ds)) : ∃ p vs, v = .ref p ∧ SqL K (lockd H) p vs ∧ RAs K (k.elA B F) H ds vs := by
  have p4 : ∃ p vs, v = .ref p ∧ SqL K (lockd H) p vs ∧ RAs K (Or2 B F) H ds vs := h.ra
  cases k with
  | fl => obtain ⟨_, a, _⟩ := h; exact a.2
  | rd => exact p4
  | ow => exact p4
  | sh => obtain ⟨_, a, _⟩ := h; exact a.2
  | sa => obtain ⟨_, a, _⟩ := h; exact a.2.2
theorem di_seq {l : Expr} {f : PF} (h : DP X l f) : DI X tg l (iSq f) := by
  obtain ⟨t, e, s⟩ := h.run
  refine ⟨_, pi_seq e, fun σ H A ρ ow R P Z g hz h q => ?_⟩
  refine s σ H A ρ ow _ _ g h fun z v H1 hh s1 p1 => ?_
  obtain ⟨k, d⟩ := z
  have p1 := p1.tr
  cases d with
  | lst ds =>
    obtain ⟨p, vs, ev, t, a, r⟩ := p1.lp
    refine ⟨p, ev, .inl ⟨⟨vs, .of t⟩, q _ _ H1 hh s1 (walks_lst fre2 hz s1 (fun H2 ok => .of (ok p _ t ?_)) r)⟩⟩
    exact zFre fre2 hz s1 p _ t (.inl a)
  | tup ds =>
    obtain ⟨p, vs, ev, t, r⟩ := p1.tupT
    exact ⟨p, ev, .inr ⟨⟨vs, t⟩, q _ _ H1 hh s1 (walks_tup fre2 hz s1 t r)⟩⟩
  | kst ds =>
    obtain ⟨p, vs, ev, t, r⟩ := p1.kstT
    exact ⟨p, ev, .inl ⟨⟨vs, kst_seq t⟩, q _ _ H1 hh s1 (walks_lst fre2 hz s1 (fun H2 ok => kst_seq (kst_keep (ok.keep (fre2 (H := H1)) hz s1) t)) r)⟩⟩
  | _ => exact hh.elim
def iR1 (f : PAF) : IF := fun ρ P => f ρ fun zs => match zs with
  | [(_, .int j)] => -1000000000000 ≤ j ∧ j ≤ 1000000000000 ∧ P (rangeD 0 j.toNat)
  | _ => False
def iR2 (f : PAF) : IF := fun ρ P => f ρ fun zs => match zs with
  | [(_, .int i), (_, .int j)] => (-1000000000000 ≤ i ∧ i ≤ 1000000000000 ∧ -1000000000000 ≤ j ∧ j ≤ 1000000000000) ∧ P (rangeD i (j - i).toNat)
  | _ => False
theorem di_range1 {a : Expr} {f : PAF} {p pos : Pos} (hg : Gl X "range") (hm : X.mg "range" = none) (ha : DA X [a] 1 f) (hs : starEach [a] X.env = [(false, eval a X.env)] := by rfl) : DI X tg (.Call (.Name "range" p) [a] [] pos) (iR1 f) := by
  obtain ⟨t, e, s⟩ := ha.run
  refine ⟨_, pi_range1 hg hm e hs, fun σ H A ρ ow R P Z g hz h q => ?_⟩
  refine s σ H A ρ ow _ _ g h fun zs vs H1 _ hh s1 p1 => ?_
  split at hh
  · obtain ⟨h1, h2, h3⟩ := hh
    obtain ⟨v, ev, p2⟩ := p1.get1
    obtain rfl : v = .int _ := p2.ra
    exact ⟨_, ev, by omega, by omega, q _ _ H1 h3 s1 walks_range⟩
  · exact hh.elim
theorem di_range2 {a b : Expr} {f : PAF} {p pos : Pos} (hg : Gl X "range") (hm : X.mg "range" = none) (ha : DA X [a, b] 2 f) (hs : starEach [a, b] X.env = [(false, eval a X.env), (false, eval b X.env)] := by rfl)
    (hs2 : starEach [b] X.env = [(false, eval b X.env)] := by rfl) : DI X tg (.Call (.Name "range" p) [a, b] [] pos) (iR2 f) := by
  obtain ⟨t, e, s⟩ := ha.run
  refine ⟨_, pi_range2 hg hm e hs hs2, fun σ H A ρ ow R P Z g hz h q => ?_⟩
  refine s σ H A ρ ow _ _ g h fun zs vs H1 _ hh s1 p1 => ?_
  split at hh
  · obtain ⟨⟨h1, h2, h3, h4⟩, h5⟩ := hh
    obtain ⟨v, w, ev, p2, p3⟩ := p1.get2
    obtain rfl : v = .int _ := p2.ra
    obtain rfl : w = .int _ := p3.ra
    exact ⟨_, _, ev, ⟨by omega, by omega, by omega, by omega⟩, q _ _ H1 h5 s1 walks_range⟩
  · exact hh.elim
end

theorem VRs.keepF {K : Frg} {A : Addr → Prop} {H H' : Hp} : ∀ {zs : List KD} {vs : List V} {f : List Addr}, KeepF A f H H' → VRs K A H zs vs f → VRs K A H' zs vs f
  | [], _, _, _, h => h
  | z :: zs, _, _, k, ⟨w, ws, f1, f2, e, e2, h, t⟩ => ⟨w, ws, f1, f2, e, e2, h.keep (k.sub fun a q => by rw [e2]; exact List.mem_append_left _ q), VRs.keepF (k.sub fun a q => by rw [e2]; exact List.mem_append_right _ q) t⟩
def tP (K : Frg) (f : PF) : TE := fun σ H Q => ∃ A ρ ow P, Good K A H ρ σ ow ∧ f ρ P ∧ ∀ z v H', P z → Same H H' → PR K (BB A ow) (Fre H) H' v z → Q v H'
def tT (K : Frg) (f : PTF) : TT := fun σ H Q => ∃ A ρ ow P, Good K A H ρ σ ow ∧ f ρ P ∧ ∀ b H', P b → Same H H' → Q b H'
def tG (K : Frg) (is : List Nat) (g : GF) : TG := fun v σ H Q => ∃ kd fp A ρ ow P, Good K A H ρ σ ow ∧ Own K A H kd v fp ow ∧ g kd ρ P ∧ ∀ ρ' σ' ow', P ρ' → Good K A H ρ' σ' ow' → (∀ a ∈ ow', a ∈ ow ∨ a ∈ fp) → wipe σ' is = wipe σ is → Q σ' H
section
variable {X : Cx}
theorem DP.can {e : Expr} {f : PF} (h : DP X e f) : PE X e (tP X.K f) := by
  obtain ⟨t, pe, s⟩ := h.run
  refine ⟨fun pins st σ H Q I hq => ?_⟩
  obtain ⟨A, ρ, ow, P, g, hf, q⟩ := hq
  exact pe.run pins st σ H Q I (s σ H A ρ ow Q P g hf q)
theorem DT.can {e : Expr} {f : PTF} (h : DT X e f) : PT X e (tT X.K f) := by
  obtain ⟨t, pe, s⟩ := h.run
  refine ⟨fun pins st σ H Q I hq => ?_⟩
  obtain ⟨A, ρ, ow, P, g, hf, q⟩ := hq
  exact pe.run pins st σ H Q I (s σ H A ρ ow Q P g hf q)
theorem DG.can {e : Expr} {is : List Nat} {f : GF} (h : DG X e is f) : PG X e (tG X.K is f) := by
  obtain ⟨t, pe, s⟩ := h.run
  refine ⟨fun pins st σ H v u Q I r hq => ?_⟩
  obtain ⟨kd, fp, A, ρ, ow, P, g, o, hf, q⟩ := hq
  exact pe.run pins st σ H v u Q I r (s v kd fp σ H A ρ ow Q P g o hf q)
structure DTs (X : Cx) (es : List Expr) (f : PTF) : Prop where
  run : PTs X es (tT X.K f)
theorem dts_nil : DTs X [] (fun _ P => P true) := by
  refine ⟨⟨fun pins s σ H Q I h => ?_⟩⟩
  obtain ⟨A, ρ, ow, P, g, hf, q⟩ := h
  exact pts_nil.run pins s σ H Q I (q true H hf (Same.refl H))
theorem dts_one {c : Expr} {f : PTF} (h : DT X c f) : DTs X [c] f := ⟨pts_one h.can⟩
end
def compL (step : KD → (Option KD → Prop) → Prop) : List KD → List KD → (List KD → Prop) → Prop
  | [], acc, P => P acc
  | z :: zs, acc, P => step z fun r => match r with
    | some y => compL step zs (acc ++ [y]) P
    | none => compL step zs acc P
def rdAll (ρ : Ro) : Ro := ρ.map fun s => match s with
  | some (k, d) => some (k.rdk, d)
  | none => none
def wipeR (ρ : Ro) : List Nat → Ro
  | [] => ρ
  | i :: is => (wipeR ρ is).set i none
def pLc (src : IF) (is : List Nat) (g : GF) (tt : PTF) (fe : PF) : PF := fun ρ P => src ρ fun zs => zs.length ≤ 10000000 ∧
  compL (fun z Q => g z (wipeR (rdAll ρ) is) fun ρ1 => tt ρ1 fun b => if b = true then fe ρ1 fun y => Q (some y) else Q none) zs [] fun ys => P (jL ys, .lst (ys.map (·.2)))
section
variable {K : Frg} {A B : Addr → Prop} {H H' : Hp} {ow : List Addr}
theorem VR.rdk2 {kd : KD} {v : V} {f : List Addr} (h : VR K A H kd v f) (s : ∀ a ∈ f, a ∈ ow) : VR K (BB A ow) H (kd.1.rdk, kd.2) v [] := by
  obtain ⟨k, d⟩ := kd
  have r : RA K (BB A ow) H d v := h.ra (fun a x => .inl x) (fun a x => .inr (s a x))
  cases k with
  | fl => exact ⟨rfl, h.2⟩
  | rd => exact ⟨rfl, r⟩
  | ow => exact ⟨rfl, r⟩
  | sh => exact ⟨rfl, r, h.2⟩
  | sa => exact ⟨rfl, r, h.2.2⟩
theorem RepS.rdAll : ∀ {ρ : Ro} {σ : L2.St} {f : List Addr}, RepS K A H ρ σ f → (∀ a ∈ f, a ∈ ow) → RepS K (BB A ow) H (rdAll ρ) σ []
  | [], _, _, h, _ => ⟨h.1, rfl⟩
  | s :: ρ, _, _, ⟨x, σ', f, g, e, e2, h, r⟩, i => by
    refine ⟨x, σ', [], [], e, rfl, ?_, RepS.rdAll r fun a q => i a (by rw [e2]; exact List.mem_append_right _ q)⟩
    cases s with
    | none => rfl
    | some kd => obtain ⟨v, ev, h⟩ := h; exact ⟨v, ev, h.rdk2 fun a q => i a (by rw [e2]; exact List.mem_append_left _ q)⟩
theorem RepS.set0 {ρ : Ro} {σ : L2.St} {i : Nat} (h : RepS K A H ρ σ []) : RepS K A H (ρ.set i none) (σ.set i none) [] := by
  cases e : ρ[i]? with
  | none =>
    have h1 : ρ.length ≤ i := List.getElem?_eq_none_iff.mp e
    have h2 : σ.length ≤ i := by rw [h.len]; exact h1
    rw [List.set_eq_of_length_le h1, List.set_eq_of_length_le h2]
    exact h
  | some s =>
    obtain ⟨x, f1, f2, f3, hx, e2, _, put⟩ := h.split e
    have e3 := List.append_eq_nil_iff.mp e2.symm
    have e4 := List.append_eq_nil_iff.mp e3.2
    have := put H A none none [] (fun _ h => h) (fun a o e _ => e) rfl
    rw [e3.1, e4.2] at this
    exact this
theorem RepS.wipe {ρ : Ro} {σ : L2.St} (h : RepS K A H ρ σ []) : ∀ is : List Nat, RepS K A H (wipeR ρ is) (wipe σ is) []
  | [] => h
  | i :: is => (RepS.wipe h is).set0
end
section
variable {X : Cx}
theorem sound_lc {K : Frg} {wi : TI} {src : IF} {is : List Nat} {g : GF} {tt : PTF} {fe : PF} (hs : ISound K wi src) : PSound K (tLc wi (tG K is g) (tT K tt) (tP K fe) is) (pLc src is g tt fe) := by
  intro σ H A ρ ow Q P gd h q
  refine hs σ H A ρ ow _ _ (fun _ => False) gd (fun _ z => z.elim) h fun zs J H1 hz s1 wk => ?_
  obtain ⟨hlen, hc⟩ := hz
  obtain ⟨G, Y, walk, hG, hY⟩ := wk
  intro D hD
  have hD0 : H D = none := s1.free hD
  let Acc : Addr → Prop := fun a => Or2 (BB A ow) (Fre H) a ∧ a ≠ D
  let P' : List KD → Prop := fun ys => P (jL ys, .lst (ys.map (·.2)))
  let step : KD → (Option KD → Prop) → Prop := fun z Q => g z (wipeR (rdAll ρ) is) fun ρ1 => tt ρ1 fun b => if b = true then fe ρ1 fun y => Q (some y) else Q none
  refine lc_it walk (fun i Hc => Same H1 Hc ∧ ∃ acc accV fp, Hc D = some (.lst accV) ∧ VRs K Acc Hc acc accV fp ∧ fp.Nodup ∧ (∀ a ∈ fp, Fre H a ∧ a ≠ D) ∧ compL step (zs.drop i) acc P' ∧ acc.length ≤ i) ?_ ?_ ?_ ?_
  · exact ⟨same_upd hD, [], [], [], upd_same, ⟨rfl, rfl⟩, List.nodup_nil, fun a h => (nomatch h), hc, Nat.le_refl _⟩
  · exact fun i H2 _ p => hG H2 fun a o e _ => p.1 a o e
  · rintro i x H2 H3 hi ⟨sm, acc, accV, fp, hDv, r, nd, hF, hcomp, hl⟩ y
    have hzi : zs[i]? = some zs[i] := List.getElem?_eq_getElem hi
    obtain ⟨s3, vz⟩ := hY i H2 x H3 zs[i] hzi (fun a o e _ => sm a o e) y
    rw [List.drop_eq_getElem_cons hi] at hcomp
    have hstep : step zs[i] fun r => match r with
      | some y => compL step (zs.drop (i + 1)) (acc ++ [y]) P'
      | none => compL step (zs.drop (i + 1)) acc P' := hcomp
    have hD3 : H3 D = some (.lst accV) := s3 _ _ hDv
    have s03 : Same H H3 := (s1.trans sm).trans s3
    -- the block's own knowledge
    let Ab : Addr → Prop := fun a => Acc a ∧ ∃ o, H3 a = some o
    have bAb : ∀ a, BB A ow a → Ab a := fun a h => by
      have tr : ∃ o, H a = some o := by
        rcases h with h | h
        · exact gd.tr a h
        · obtain ⟨o, e, _⟩ := gd.rep.mu a h; exact ⟨o, e⟩
      obtain ⟨o, e⟩ := tr
      exact ⟨⟨.inl h, fun z => by rw [z, hD0] at e; cases e⟩, o, s03 a o e⟩
    have gb : Good K Ab H3 (wipeR (rdAll ρ) is) (wipe σ is) [] :=
      ⟨(RepS.mono bAb (RepS.keep (KeepF.of_same s03) (gd.rep.rdAll fun _ h => h))).wipe is, List.nodup_nil, fun a h => (nomatch h), fun a h => h.2⟩
    have vb : VR K Ab H3 zs[i] x [] := vz.monoT fun a o e h => by
      rcases h with h | ⟨h1, u, h2⟩
      · exact bAb a h
      · exact ⟨⟨.inr h1, fun z => by rw [z, hD] at h2; cases h2⟩, o, e⟩
    have noD : ∀ a u, a ≠ D → ∀ (Hx : Hp) w, Hx a = some u → (upd Hx D w) a = some u := fun a u n Hx w e => by rw [upd_ne n]; exact e
    refine ⟨zs[i], [], Ab, _, [], _, gb, ⟨vb, by simp, fun a h => (nomatch h)⟩, hstep, fun ρ1 σ1 ow1 h1 g1 sub1 w1 => ⟨w1.trans (wipe_idem σ is), ?_⟩⟩
    have ow1n : ow1 = [] := by
      cases ow1 with
      | nil => rfl
      | cons a r => rcases sub1 a List.mem_cons_self with z | z <;> cases z
    subst ow1n
    refine ⟨Ab, ρ1, [], _, g1, h1, fun b H4 h2 s4 => ?_⟩
    cases b with
    | false =>
      rw [if_neg Bool.false_ne_true] at h2 ⊢
      exact ⟨(sm.trans s3).trans s4, acc, accV, fp, s4 _ _ hD3, (r.same s3).same s4, nd, hF, h2, by omega⟩
    | true =>
      rw [if_pos rfl] at h2 ⊢
      refine ⟨Ab, ρ1, [], _, g1.same s4, h2, fun z v H5 h3 s5 p5 => ?_⟩
      have hD5 : H5 D = some (.lst accV) := s5 _ _ (s4 _ _ hD3)
      have s05 : Same H H5 := (s03.trans s4).trans s5
      have r5 := ((r.same s3).same s4).same s5
      obtain ⟨f5, a5, n5, fr5⟩ := p5
      have fr5' : ∀ a ∈ f5, Fre H a ∧ a ≠ D := fun a h => by
        have e4 : H4 a = none := fr5 a h
        have e3 : H3 a = none := s4.free e4
        exact ⟨s03.free e3, fun z => by rw [z, hD3] at e3; cases e3⟩
      have a5' : VR K Acc H5 z v f5 := a5.mono fun a h => by
        rcases h with (h | h) | h
        · exact h.1
        · cases h
        · have e4 : H4 a = none := h
          have e3 : H3 a = none := s4.free e4
          exact ⟨.inr (s03.free e3), fun z => by rw [z, hD3] at e3; cases e3⟩
      have all := r5.append (VRs.one a5')
      refine ⟨accV, hD5, ?_, fun b u e => ?_, acc ++ [z], accV ++ [v], fp ++ f5, upd_same, ?_, ?_, ?_, h3, ?_⟩
      · rw [r.len, sizeLine_eq]
        have := hi
        omega
      · have e5 : H5 b = some u := ((sm.trans s3).trans s4).trans s5 b u e
        rw [upd_ne (fun z => by rw [z, hD] at e; cases e)]
        exact e5
      · have kp : KeepF Acc (fp ++ f5) H5 (upd H5 D (.lst (accV ++ [v]))) := fun a u e h => by
          refine noD a u (fun z => ?_) H5 _ e
          rcases h with h | h | h
          · rcases List.mem_append.mp h with h | h
            · exact (hF a h).2 z
            · exact (fr5' a h).2 z
          · exact h.2 z
          · rw [z, hD5] at e; cases e; exact h
        exact VRs.keepF kp all
      · refine List.nodup_append.mpr ⟨nd, n5, fun a ha b hb e => ?_⟩
        subst e
        obtain ⟨o, e, _⟩ := ((r.same s3).same s4).mu a ha
        rw [show H4 a = none from fr5 a hb] at e; cases e
      · intro a h
        rcases List.mem_append.mp h with h | h
        · exact hF a h
        · exact fr5' a h
      · rw [List.length_append]
        show acc.length + 1 ≤ i + 1
        omega
  · rintro H2 ⟨sm, acc, accV, fp, hDv, r, nd, hF, hcomp, hl⟩
    rw [List.drop_eq_nil_of_le (Nat.le_refl _)] at hcomp
    have hP : P (jL acc, .lst (acc.map (·.2))) := hcomp
    refine q _ _ H2 hP (s1.trans sm) ?_
    have np : D ∉ fp := fun z => (hF D z).2 rfl
    have rO : VRs K (Or2 (BB A ow) (Fre H)) H2 acc accV fp := r.mono fun a h => h.1
    rcases jT_cases acc with e | e | e
    · have e' : jL acc = .sh := by unfold jL; rw [e]
      rw [e']
      exact ⟨[D], ⟨⟨D, accV, [], rfl, rfl, hDv, Rs.of0 _ _ (rO.fl e).2⟩, D, accV, rfl, hDv, (rO.fl e).2⟩, by simp, fun a q => by rw [List.mem_singleton.mp q]; exact hD0⟩
    · have e' : jL acc = .ow := by unfold jL; rw [e]
      rw [e']
      exact ⟨D :: fp, ⟨D, accV, fp, rfl, rfl, hDv, rO.ow (by rw [e]; decide)⟩, List.nodup_cons.mpr ⟨np, nd⟩, fun a q => by
        rcases List.mem_cons.mp q with rfl | q
        · exact hD0
        · exact (hF a q).1⟩
    · have e' : jL acc = .rd := by unfold jL; rw [e]
      rw [e']
      exact .rd ⟨D, accV, rfl, .inr hD0, hDv, rO.ra (fun _ h => h) fun a q => .inr (hF a q).1⟩
end
end DL

namespace DL
open PySem PySem.Spec PyProof.Rows L2

section
variable {X : Cx} {pos : Pos}
theorem dp_lc {elt tg iter : Expr} {ifs : List Expr} {scope : Scope} {own : List (Str × Nat)} {is : List Nat} {src : IF} {g : GF} {tt : PTF} {fe : PF} (hc : X.calm = true) (hN : X.N.Nodup) (hi : DI X tg iter src) (ok : BlkOk X.N X.env.scope scope own)
    (hg : ∀ (s : Shared) (H : Hp) (C : Addr) (cl : List (Str × Addr)) (fp : List Addr), DG (X.blk s H scope (compEnvC scope cl C X.env) fp) tg is g) (ht : ∀ (s : Shared) (H : Hp) (C : Addr) (cl : List (Str × Addr)) (fp : List Addr), DTs (X.blk s H scope (compEnvC scope cl C X.env) fp) ifs tt)
    (he : ∀ (s : Shared) (H : Hp) (C : Addr) (cl : List (Str × Addr)) (fp : List Addr), DP (X.blk s H scope (compEnvC scope cl C X.env) fp) elt fe) (his : own.map (·.2) = is := by rfl) (hs : ∀ x, foldedSetIterable iter X.env x = pure x := by intro _; rfl) :
    DP X (.ListComp elt [⟨tg, iter, ifs, 0⟩] scope pos) (pLc src is g tt fe) := by
  obtain ⟨t, e, s⟩ := hi.run
  subst his
  exact ⟨_, pe_lc hc hN e ok (fun s H C cl fp => (hg s H C cl fp).can) (fun s H C cl fp => (ht s H C cl fp).run) (fun s H C cl fp => (he s H C cl fp).can) hs, sound_lc s⟩
end

abbrev EF := Ro → (KD → Ro → Prop) → (Str → Ro → Prop) → Prop
abbrev TEF := Ro → (Bool → Ro → Prop) → (Str → Ro → Prop) → Prop
def ESound (K : Frg) (E : XK) (t : TE) (f : EF) : Prop := ∀ (σ : L2.St) (H : Hp) (A : Addr → Prop) (ρ : Ro) (ow : List Addr) (Q : VK) (P : KD → Ro → Prop) (PX : Str → Ro → Prop), Good K A H ρ σ ow → f ρ P PX →
  (∀ z ρ' v H' fp ow' A', P z ρ' → Stp H ow A H' (fp ++ ow') A' → Good K A' H' ρ' σ ow' → Own K A' H' z v fp ow' → Q v H') →
  (∀ C ρ' H' ow' A', PX C ρ' → Stp H ow A H' ow' A' → Good K A' H' ρ' σ ow' → E (.ref (He.ga K C)) none H') → t σ H Q
def TESound (K : Frg) (E : XK) (t : TT) (f : TEF) : Prop := ∀ (σ : L2.St) (H : Hp) (A : Addr → Prop) (ρ : Ro) (ow : List Addr) (Q : Bool → Hp → Prop) (P : Bool → Ro → Prop) (PX : Str → Ro → Prop), Good K A H ρ σ ow → f ρ P PX →
  (∀ b ρ' H' ow' A', P b ρ' → Stp H ow A H' ow' A' → Good K A' H' ρ' σ ow' → Q b H') →
  (∀ C ρ' H' ow' A', PX C ρ' → Stp H ow A H' ow' A' → Good K A' H' ρ' σ ow' → E (.ref (He.ga K C)) none H') → t σ H Q
structure DE (X : Cx) (E : XK) (e : Expr) (f : EF) : Prop where
  run : ∃ t, PE X e t ∧ ESound X.K E t f
structure DTE (X : Cx) (E : XK) (e : Expr) (f : TEF) : Prop where
  run : ∃ t, PT X e t ∧ TESound X.K E t f
def rdOnly (ρ : Ro) : Ro := ρ.map fun s => match s with
  | some (.sh, _) => none
  | some (.ow, _) => none
  | s => s
def eP (f : PF) : EF := fun ρ P _ => f ρ fun z => match z.1 with
  | .fl => P z ρ
  | .sh => P z ρ
  | .ow => P z ρ
  | _ => False
def eR (f : PF) : EF := fun ρ P _ => f (rdOnly ρ) fun z => P z ρ
def eMv (i : Nat) : EF := fun ρ P _ => match ρ[i]? with
  | some (some (k, d)) => (match k with
    | .sh => P (k, d) (ρ.set i none)
    | .ow => P (k, d) (ρ.set i none)
    | _ => P (k, d) ρ)
  | _ => False
def teP (f : PTF) : TEF := fun ρ P _ => f ρ fun b => P b ρ
section
variable {K : Frg} {A A' : Addr → Prop} {H H' : Hp} {ρ : Ro} {σ : L2.St} {ow : List Addr}
theorem PR.own {v : V} {z : KD} (g : Good K A H ρ σ ow) (s : Same H H') (p : PR K (BB A ow) (Fre H) H' v z) (hk : z.1 = .fl ∨ z.1 = .sh ∨ z.1 = .ow) :
    ∃ fp, Stp H ow A H' (fp ++ ow) A ∧ Own K A H' z v fp ow := by
  obtain ⟨fp, r, nd, hF⟩ := p
  refine ⟨fp, ⟨fun a o e _ => s a o e, fun a h => ?_, fun _ h => h, fun _ h => .inl h⟩, ⟨?_, List.nodup_append.mpr ⟨nd, g.nd, fun a ha b hb e => ?_⟩, fun a h z => ?_⟩⟩
  · rcases List.mem_append.mp h with h | h
    · exact .inr (hF a h)
    · exact .inl h
  · obtain ⟨k, d⟩ := z
    rcases hk with rfl | rfl | rfl <;> exact r
  · subst e
    obtain ⟨o, e, _⟩ := g.rep.mu a hb
    rw [show H a = none from hF a ha] at e; cases e
  · obtain ⟨o, e⟩ := g.tr a z
    rw [show H a = none from hF a h] at e; cases e
theorem RepS.rdOnly : ∀ {ρ : Ro} {σ : L2.St} {f : List Addr}, RepS K A H ρ σ f → RepS K A H (rdOnly ρ) σ []
  | [], _, _, h => ⟨h.1, rfl⟩
  | s :: ρ, _, _, ⟨x, σ', f, g, e, e2, h, r⟩ => by
    refine ⟨x, σ', [], [], e, rfl, ?_, RepS.rdOnly r⟩
    cases s with
    | none => rfl
    | some kd =>
      obtain ⟨k, d⟩ := kd
      obtain ⟨v, ev, h⟩ := h
      cases k with
      | fl => exact ⟨v, ev, rfl, h.2⟩
      | rd => exact ⟨v, ev, rfl, h.2⟩
      | sa => exact ⟨v, ev, rfl, h.2⟩
      | sh => rfl
      | ow => rfl
theorem Good.rdOnly (g : Good K A H ρ σ ow) : Good K A H (rdOnly ρ) σ [] := ⟨g.rep.rdOnly, List.nodup_nil, fun _ h => (nomatch h), g.tr⟩
theorem Good.freeze (g : Good K A H ρ σ ow) (s : Same H H') : Good K (fun a => A a ∨ Fre2 H H' a) H' ρ σ ow :=
  ⟨(g.rep.keep (KeepF.of_same s)).mono fun _ h => .inl h, g.nd, (fun a h z => by
    rcases z with z | ⟨z, _⟩
    · exact g.dis a h z
    · obtain ⟨o, e, _⟩ := g.rep.mu a h
      rw [z] at e; cases e), (fun a h => by
    rcases h with h | ⟨_, h⟩
    · obtain ⟨o, e⟩ := g.tr a h; exact ⟨o, s a o e⟩
    · exact h)⟩
theorem Stp.freeze (s : Same H H') : Stp H ow A H' ow (fun a => A a ∨ Fre2 H H' a) :=
  ⟨fun a o e _ => s a o e, fun _ h => .inl h, fun _ h => .inl h, fun _ h => h.elim .inl fun z => .inr (.inr z.1)⟩
theorem PR.rdown {v : V} {z : KD} (g : Good K A H ρ σ ow) (s : Same H H') (p : PR K (BB A []) (Fre H) H' v z) :
    ∃ fp A', Stp H ow A H' (fp ++ ow) A' ∧ Good K A' H' ρ σ ow ∧ Own K A' H' z v fp ow := by
  by_cases hk : z.1 = .fl ∨ z.1 = .sh ∨ z.1 = .ow
  · have p' : PR K (BB A ow) (Fre H) H' v z := p.mono (fun a h => h.elim .inl fun z => nomatch z) (fun _ h => h)
    obtain ⟨fp, s1, o1⟩ := p'.own g s hk
    exact ⟨fp, A, s1, g.same s, o1⟩
  · obtain ⟨fp, r, nd, hF⟩ := p.tr
    have e : fp = [] := by
      obtain ⟨k, d⟩ := z
      cases k with
      | fl => exact r.1
      | rd => exact r.1
      | sa => exact r.1
      | sh => exact absurd (.inr (.inl rfl)) hk
      | ow => exact absurd (.inr (.inr rfl)) hk
    subst e
    refine ⟨[], _, Stp.freeze s, g.freeze s, ⟨r.mono fun a h => ?_, g.nd, fun a h => (nomatch h)⟩⟩
    rcases h with (h | h) | h
    · exact .inl h
    · cases h
    · exact .inr h
theorem Good.move {i : Nat} {kd : KD} (g : Good K A H ρ σ ow) (e : ρ[i]? = some (some kd)) : ∃ v fp ow', σ[i]? = some (some v) ∧ Good K A H (ρ.set i none) σ ow' ∧ Own K A H kd v fp ow' ∧ ∀ a ∈ fp ++ ow', a ∈ ow := by
  obtain ⟨x, f1, f2, f3, hx, e2, ⟨v, ev, h⟩, put⟩ := g.rep.split e
  subst ev e2
  have nd := g.nd
  obtain ⟨n1, n2, n3⟩ := List.nodup_append.mp nd
  obtain ⟨m1, m2, m3⟩ := List.nodup_append.mp n2
  have r : RepS K A H (ρ.set i none) σ (f1 ++ f3) := by
    have := put H A none (some v) [] (fun _ h => h) (fun a o e _ => e) rfl
    rwa [set_same hx] at this
  refine ⟨v, f2, f1 ++ f3, hx, ⟨r, List.nodup_append.mpr ⟨n1, m2, fun a ha b hb => n3 a ha b (by simp [hb])⟩, fun a h => g.dis a (by rcases List.mem_append.mp h with h | h <;> simp [h]), g.tr⟩,
    ⟨h, List.nodup_append.mpr ⟨m1, List.nodup_append.mpr ⟨n1, m2, fun a ha b hb => n3 a ha b (by simp [hb])⟩, fun a ha b hb e => ?_⟩, fun a h => g.dis a (by simp [h])⟩, fun a h => ?_⟩
  · subst e
    rcases List.mem_append.mp hb with hb | hb
    · exact n3 a hb a (by simp [ha]) rfl
    · exact m3 a ha a hb rfl
  · rcases List.mem_append.mp h with h | h
    · simp [h]
    · rcases List.mem_append.mp h with h | h <;> simp [h]
theorem VR.own0 {k : Kd} {d : D} {v : V} {f : List Addr} (h : VR K A H (k, d) v f) (hk : k = .fl ∨ k = .sa ∨ k = .rd) : f = [] := by
  rcases hk with rfl | rfl | rfl <;> exact h.1
end
section
variable {X : Cx} {E : XK} {pos : Pos} {e : Expr} {f : PF}
theorem de_p (h : DP X e f) : DE X E e (eP f) := by
  obtain ⟨t, pe, s⟩ := h.run
  refine ⟨t, pe, fun σ H A ρ ow Q P PX g hf q _ => ?_⟩
  refine s σ H A ρ ow _ _ g hf fun z v H' hz s1 p1 => ?_
  have hk : (z.1 = .fl ∨ z.1 = .sh ∨ z.1 = .ow) ∧ P z ρ := by
    obtain ⟨k, d⟩ := z
    cases k <;> first
      | exact ⟨.inl rfl, hz⟩
      | exact ⟨.inr (.inl rfl), hz⟩
      | exact ⟨.inr (.inr rfl), hz⟩
      | exact hz.elim
  obtain ⟨fp, s2, o2⟩ := p1.own g s1 hk.1
  exact q z ρ v H' fp ow A hk.2 s2 (g.same s1) o2
theorem de_r (h : DP X e f) : DE X E e (eR f) := by
  obtain ⟨t, pe, s⟩ := h.run
  refine ⟨t, pe, fun σ H A ρ ow Q P PX g hf q _ => ?_⟩
  refine s σ H A (rdOnly ρ) [] _ _ g.rdOnly hf fun z v H' hz s1 p1 => ?_
  obtain ⟨fp, A', s2, g2, o2⟩ := p1.rdown g s1
  exact q z ρ v H' fp ow A' hz s2 g2 o2
theorem de_mv (i : Nat) {x : Str} (hN : X.N[i]? = some x := by rfl) (hv : Vis X.env.scope x := by first | exact Or.inl rfl | exact Or.inr (Or.inl rfl) | exact Or.inr (Or.inr rfl)) (hd : (x == ("__debug__" : Str)) = false := by decide)
    (hcd : (x == ("__classdict__" : Str)) = false := by decide) : DE X E (.Name x pos) (eMv i) := by
  refine ⟨tVar i, pe_var hN hv hd hcd, fun σ H A ρ ow Q P PX g h q _ => ?_⟩
  unfold eMv at h
  cases e : ρ[i]? with
  | none => rw [e] at h; exact h.elim
  | some s =>
    rw [e] at h
    cases s with
    | none => exact h.elim
    | some kd =>
      obtain ⟨k, d⟩ := kd
      obtain ⟨v, fp, ow', hv, g', o, sub⟩ := g.move e
      refine ⟨v, hv, ?_⟩
      have stp : Stp H ow A H (fp ++ ow') A := ⟨fun _ _ e _ => e, fun a h => .inl (sub a h), fun _ h => h, fun _ h => .inl h⟩
      have keep : ∀ (hk : k = .fl ∨ k = .sa ∨ k = .rd) (hp : P (k, d) ρ), Q v H := fun hk hp => by
        have e0 := o.rep.own0 hk
        subst e0
        exact q (k, d) ρ v H [] ow A hp Stp.refl g ⟨o.rep, g.nd, fun a h => (nomatch h)⟩
      cases k with
      | fl => exact keep (.inl rfl) h
      | sa => exact keep (.inr (.inl rfl)) h
      | rd => exact keep (.inr (.inr rfl)) h
      | sh => exact q _ _ v H fp ow' A h stp g' o
      | ow => exact q _ _ v H fp ow' A h stp g' o
theorem dte_p {f : PTF} (h : DT X e f) : DTE X E e (teP f) := by
  obtain ⟨t, pe, s⟩ := h.run
  refine ⟨t, pe, fun σ H A ρ ow Q P PX g hf q _ => ?_⟩
  exact s σ H A ρ ow _ _ g hf fun b H' hb s1 => q b ρ H' ow A hb (Stp.of_same s1) (g.same s1)
end

structure DEnds where
  nx : Ro → Prop
  rt : KD → Ro → Prop
  ex : Str → Ro → Prop
abbrev SF := DEnds → Ro → Prop
def SSound (K : Frg) (E : XK) (pr : List Nat) (t : TS) (f : SF) : Prop := ∀ (σ : L2.St) (H : Hp) (A : Addr → Prop) (ρ : Ro) (ow : List Addr) (T : Ends) (D : DEnds), Good K A H ρ σ ow → f D ρ →
  (∀ ρ' σ' H' ow' A', D.nx ρ' → Stp H ow A H' ow' A' → Good K A' H' ρ' σ' ow' → (∀ i ∈ pr, σ'[i]? = σ[i]?) → T.nx σ' H') →
  (∀ z ρ' v σ' H' fp ow' A', D.rt z ρ' → Stp H ow A H' (fp ++ ow') A' → Good K A' H' ρ' σ' ow' → Own K A' H' z v fp ow' → (∀ i ∈ pr, σ'[i]? = σ[i]?) → T.rt v H') →
  (∀ C ρ' σ' H' ow' A', D.ex C ρ' → Stp H ow A H' ow' A' → Good K A' H' ρ' σ' ow' → (∀ i ∈ pr, σ'[i]? = σ[i]?) → E (.ref (He.ga K C)) none H') → t T σ H
structure DS (X : Cx) (E : XK) (pr : List Nat) (st : Stmt) (f : SF) : Prop where
  run : ∃ t, PS X st t ∧ SSound X.K E pr t f
structure DSs (X : Cx) (E : XK) (pr : List Nat) (st : List Stmt) (f : SF) : Prop where
  run : ∃ t, PSs X st t ∧ SSound X.K E pr t f
def sNil : SF := fun D ρ => D.nx ρ
def sSeq (f g : SF) : SF := fun D ρ => f { D with nx := fun ρ' => g D ρ' } ρ
def sSet (i : Nat) (f : EF) : SF := fun D ρ => f ρ (fun z ρ' => D.nx (ρ'.set i (some z))) D.ex
def sAsg (f : EF) (g : GF) : SF := fun D ρ => f ρ (fun z ρ' => g z ρ' D.nx) D.ex
def sExpr (f : EF) : SF := fun D ρ => f ρ (fun _ ρ' => D.nx ρ') D.ex
def sRet (f : EF) : SF := fun D ρ => f ρ D.rt D.ex
def sIf (t : TEF) (f g : SF) : SF := fun D ρ => t ρ (fun b ρ' => if b = true then f D ρ' else g D ρ') D.ex
def forD (g : GF) (body : SF) (D : DEnds) : List KD → Ro → Prop
  | [], ρ => D.nx ρ
  | z :: zs, ρ => g z ρ fun ρ1 => body { D with nx := fun ρ' => forD g body D zs ρ' } ρ1
def sFor (src : IF) (g : GF) (body : SF) : SF := fun D ρ => src (rdOnly ρ) fun zs => forD g body D zs ρ
def whileD (t : TEF) (body : SF) (D : DEnds) : Nat → Ro → Prop
  | 0, _ => False
  | n + 1, ρ => t ρ (fun b ρ' => if b = true then body { D with nx := fun ρ'' => whileD t body D n ρ'' } ρ' else D.nx ρ') D.ex
def sWhile (t : TEF) (body : SF) : SF := fun D ρ => ∃ n, whileD t body D n ρ
def sFrz (i : Nat) (f : SF) : SF := fun D ρ => match ρ[i]? with
  | some (some (k, d)) => f D (ρ.set i (some (k.rdk, d)))
  | _ => False
section
variable {X : Cx} {E : XK} {pr : List Nat} {pos : Pos} {e : Expr} {ef : EF}
theorem ss_nil {K : Frg} : SSound K E pr tNext sNil := fun σ H A ρ ow T D g h nx rt ex => nx ρ σ H ow A h Stp.refl g fun _ _ => rfl
theorem dss_nil : DSs X E pr [] sNil := ⟨_, pss_nil, ss_nil⟩
theorem ss_seq {K : Frg} {t u : TS} {f g : SF} (s : SSound K E pr t f) (s' : SSound K E pr u g) : SSound K E pr (tSeq t u) (sSeq f g) := by
  intro σ H A ρ ow T D gd h nx rt ex
  refine s σ H A ρ ow _ _ gd h (fun ρ1 σ1 H1 ow1 A1 h1 st1 g1 p1 => ?_) rt ex
  refine s' σ1 H1 A1 ρ1 ow1 T D g1 h1 (fun ρ2 σ2 H2 ow2 A2 h2 st2 g2 p2 => nx ρ2 σ2 H2 ow2 A2 h2 (st1.trans st2) g2 fun i hi => (p2 i hi).trans (p1 i hi)) (fun z ρ2 v σ2 H2 fp ow2 A2 h2 st2 g2 o2 p2 => ?_) (fun C ρ2 σ2 H2 ow2 A2 h2 st2 g2 p2 => ?_)
  · exact rt z ρ2 v σ2 H2 fp ow2 A2 h2 (st1.trans st2) g2 o2 fun i hi => (p2 i hi).trans (p1 i hi)
  · exact ex C ρ2 σ2 H2 ow2 A2 h2 (st1.trans st2) g2 fun i hi => (p2 i hi).trans (p1 i hi)
theorem dss_cons {st : Stmt} {rest : List Stmt} {f g : SF} (h : DS X E pr st f) (h' : DSs X E pr rest g) : DSs X E pr (st :: rest) (sSeq f g) := by
  obtain ⟨t, a, s⟩ := h.run
  obtain ⟨u, b, s'⟩ := h'.run
  exact ⟨_, pss_cons a b, ss_seq s s'⟩
theorem dss_one {st : Stmt} {f : SF} (h : DS X E pr st f) : DSs X E pr [st] f := by
  obtain ⟨t, a, s⟩ := h.run
  exact ⟨_, pss_one a, s⟩
theorem Own.sub {K : Frg} {A : Addr → Prop} {H : Hp} {z : KD} {v : V} {fp ow ow' : List Addr} (o : Own K A H z v fp ow) (s : ∀ a ∈ ow', a ∈ ow) (n : ow'.Nodup) : Own K A H z v fp ow' := by
  obtain ⟨n1, n2, n3⟩ := List.nodup_append.mp o.nd
  exact ⟨o.rep, List.nodup_append.mpr ⟨n1, n, fun a ha b hb => n3 a ha b (s b hb)⟩, o.dis⟩
theorem set_ne_pr {σ : L2.St} {i : Nat} {x : Option V} (hp : i ∉ pr) : ∀ j ∈ pr, (σ.set i x)[j]? = σ[j]? := fun j hj => List.getElem?_set_ne fun e => hp (by rw [e]; exact hj)
theorem ss_set {K : Frg} {i : Nat} {te : TE} (hp : i ∉ pr) (s : ESound K E te ef) : SSound K E pr (tAsg te (gName i)) (sSet i ef) := by
  intro σ H A ρ ow T D gd h nx rt ex
  refine s σ H A ρ ow _ _ _ gd h (fun z ρ1 v H1 fp ow1 A1 h1 st1 g1 o1 => ?_) fun C ρ1 H1 ow1 A1 h1 st1 g1 => ex C ρ1 σ H1 ow1 A1 h1 st1 g1 fun _ _ => rfl
  obtain ⟨ow2, g2, sub⟩ := g1.put (i := i) o1
  exact nx _ _ H1 ow2 A1 h1 (st1.sub fun a h => by rcases sub a h with h | h <;> simp [h]) g2 (set_ne_pr hp)
theorem ds_set (i : Nat) {x : Str} {pos' : Pos} (hN : X.N.Nodup) (he : DE X E e ef) (hp : i ∉ pr := by decide) (hi : X.N[i]? = some x := by rfl) (hx : Loc X.env.scope x := by first | exact Or.inl rfl | exact Or.inr rfl)
    (hs : swapsWith e (some (.Name x pos')) pos.line X.env = pure false := by rfl) (hf : X.fn x = true ∨ X.env.scope.names.lookup x = some .local := by first | exact .inl rfl | exact .inr rfl) : DS X E pr (.Assign [.Name x pos'] e pos) (sSet i ef) := by
  obtain ⟨t, a, s⟩ := he.run
  exact ⟨_, ps_set hN hi hx a hs hf, ss_set hp s⟩
theorem ds_setLc (i : Nat) {y : Str} {py spos : Pos} {elt tg iter : Expr} {ifs : List Expr} {scope : Scope} {own : List (Str × Nat)} {is : List Nat} {src : IF} {g : GF} {tt : PTF} {fe : PF} (hc : X.calm = true) (hN : X.N.Nodup) (hp : i ∉ pr) (hy : X.N[i]? = some y) (hyl : X.env.scope.names.lookup y = some .local)
    (hsw : swapsWith (.ListComp elt [⟨tg, iter, ifs, 0⟩] scope pos) (some (.Name y py)) spos.line X.env = pure true) (hi : DI X tg iter src) (ok : BlkOk X.N X.env.scope scope own)
    (hg : ∀ (s : Shared) (H : Hp) (C : Addr) (cl : List (Str × Addr)) (fp : List Addr), DG (X.blk s H scope (compEnvC scope cl C X.env) fp) tg is g) (ht : ∀ (s : Shared) (H : Hp) (C : Addr) (cl : List (Str × Addr)) (fp : List Addr), DTs (X.blk s H scope (compEnvC scope cl C X.env) fp) ifs tt)
    (he : ∀ (s : Shared) (H : Hp) (C : Addr) (cl : List (Str × Addr)) (fp : List Addr), DP (X.blk s H scope (compEnvC scope cl C X.env) fp) elt fe) (his : own.map (·.2) = is := by rfl) (hs : ∀ x, foldedSetIterable iter X.env x = pure x := by intro _; rfl) :
    DS X E pr (.Assign [.Name y py] (.ListComp elt [⟨tg, iter, ifs, 0⟩] scope pos) spos) (sSet i (eP (pLc src is g tt fe))) := by
  obtain ⟨t, e, s⟩ := hi.run
  subst his
  refine ⟨_, ps_setLc (te := tP X.K fe) (g := tG X.K (own.map (·.2)) g) (tt := tT X.K tt) hc hN hy hyl hsw e ok (fun s H C cl fp => (hg s H C cl fp).can) (fun s H C cl fp => (ht s H C cl fp).run) (fun s H C cl fp => (he s H C cl fp).can) hs, ss_set hp ?_⟩
  have z : DE X E (.ListComp elt [⟨tg, iter, ifs, 0⟩] scope pos) (eP (pLc src (own.map (·.2)) g tt fe)) := de_p ⟨_, pe_lc (te := tP X.K fe) (g := tG X.K (own.map (·.2)) g) (tt := tT X.K tt) hc hN e ok (fun s H C cl fp => (hg s H C cl fp).can) (fun s H C cl fp => (ht s H C cl fp).run) (fun s H C cl fp => (he s H C cl fp).can) hs, sound_lc s⟩
  intro σ H A ρ ow Q P PX gd hf q qx
  refine sound_lc s σ H A ρ ow _ _ gd hf fun z v H' hz s1 p1 => ?_
  have hk : (z.1 = .fl ∨ z.1 = .sh ∨ z.1 = .ow) ∧ P z ρ := by
    obtain ⟨k, d⟩ := z
    cases k <;> first
      | exact ⟨.inl rfl, hz⟩
      | exact ⟨.inr (.inl rfl), hz⟩
      | exact ⟨.inr (.inr rfl), hz⟩
      | exact hz.elim
  obtain ⟨fp, s2, o2⟩ := p1.own gd s1 hk.1
  exact q z ρ v H' fp ow A hk.2 s2 (gd.same s1) o2
theorem ds_asg {tg : Expr} {is : List Nat} {g : GF} (he : DE X E e ef) (hg : DG X tg is g) (hp : (is.all fun i => !pr.contains i) = true := by rfl) (hs : swapsWithSole [tg] e pos.line X.env = pure false := by rfl) (hw : swappedStores [tg] e X.env = pure none := by rfl)
    (h1 : (assignEach [tg] X.env).map (·.2) = [assign tg X.env] := by rfl) : DS X E pr (.Assign [tg] e pos) (sAsg ef g) := by
  obtain ⟨t, a, s⟩ := he.run
  obtain ⟨u, b, s'⟩ := hg.run
  refine ⟨_, ps_asg a b hs hw h1, fun σ H A ρ ow T D gd h nx rt ex => ?_⟩
  refine s σ H A ρ ow _ _ _ gd h (fun z ρ1 v H1 fp ow1 A1 h1 st1 g1 o1 => ?_) fun C ρ1 H1 ow1 A1 h1 st1 g1 => ex C ρ1 σ H1 ow1 A1 h1 st1 g1 fun _ _ => rfl
  refine s' v z fp σ H1 A1 ρ1 ow1 _ _ g1 o1 h1 fun ρ2 σ2 ow2 h2 g2 sub w2 => ?_
  refine nx _ _ H1 ow2 A1 h2 (st1.sub fun a h => by rcases sub a h with h | h <;> simp [h]) g2 fun j hj => ?_
  have hl : σ2.length = σ.length := by rw [← wipe_length σ2 is, w2, wipe_length]
  have e : (wipe σ2 is)[j]? = (wipe σ is)[j]? := by rw [w2]
  have nj : j ∉ is := fun z => by
    have := List.all_eq_true.mp hp j z
    simp [hj] at this
  rwa [wipe_get, wipe_get, if_neg (fun z => nj z.1), if_neg (fun z => nj z.1)] at e
theorem ds_expr (he : DE X E e ef) (hs : swapsWith e none pos.line X.env = pure false := by rfl) : DS X E pr (.Expr e pos) (sExpr ef) := by
  obtain ⟨t, a, s⟩ := he.run
  refine ⟨_, ps_expr a hs, fun σ H A ρ ow T D gd h nx rt ex => ?_⟩
  exact s σ H A ρ ow _ _ _ gd h (fun z ρ1 v H1 fp ow1 A1 h1 st1 g1 o1 => nx ρ1 σ H1 ow1 A1 h1 (st1.sub fun a h => by simp [h]) g1 fun _ _ => rfl) fun C ρ1 H1 ow1 A1 h1 st1 g1 => ex C ρ1 σ H1 ow1 A1 h1 st1 g1 fun _ _ => rfl
theorem ds_ret (he : DE X E e ef) : DS X E pr (.Return (some e) pos) (sRet ef) := by
  obtain ⟨t, a, s⟩ := he.run
  refine ⟨_, ps_ret a, fun σ H A ρ ow T D gd h nx rt ex => ?_⟩
  exact s σ H A ρ ow _ _ _ gd h (fun z ρ1 v H1 fp ow1 A1 h1 st1 g1 o1 => rt z ρ1 v σ H1 fp ow1 A1 h1 st1 g1 o1 fun _ _ => rfl) fun C ρ1 H1 ow1 A1 h1 st1 g1 => ex C ρ1 σ H1 ow1 A1 h1 st1 g1 fun _ _ => rfl
theorem ds_if {c : Expr} {a b : List Stmt} {tc : TEF} {f g : SF} (hc : DTE X E c tc) (ha : DSs X E pr a f) (hb : DSs X E pr b g) : DS X E pr (.If c a b pos) (sIf tc f g) := by
  obtain ⟨t, pt, s⟩ := hc.run
  obtain ⟨ta, pa, sa⟩ := ha.run
  obtain ⟨tb, pb, sb⟩ := hb.run
  refine ⟨_, ps_if pt pa pb, fun σ H A ρ ow T D gd h nx rt ex => ?_⟩
  refine s σ H A ρ ow _ _ _ gd h (fun b ρ1 H1 ow1 A1 h1 st1 g1 => ?_) fun C ρ1 H1 ow1 A1 h1 st1 g1 => ex C ρ1 σ H1 ow1 A1 h1 st1 g1 fun _ _ => rfl
  cases b with
  | true => exact sa σ H1 A1 ρ1 ow1 T D g1 h1 (fun ρ2 σ2 H2 ow2 A2 h2 st2 => nx ρ2 σ2 H2 ow2 A2 h2 (st1.trans st2)) (fun z ρ2 v σ2 H2 fp ow2 A2 h2 st2 => rt z ρ2 v σ2 H2 fp ow2 A2 h2 (st1.trans st2)) (fun C ρ2 σ2 H2 ow2 A2 h2 st2 => ex C ρ2 σ2 H2 ow2 A2 h2 (st1.trans st2))
  | false => exact sb σ H1 A1 ρ1 ow1 T D g1 h1 (fun ρ2 σ2 H2 ow2 A2 h2 st2 => nx ρ2 σ2 H2 ow2 A2 h2 (st1.trans st2)) (fun z ρ2 v σ2 H2 fp ow2 A2 h2 st2 => rt z ρ2 v σ2 H2 fp ow2 A2 h2 (st1.trans st2)) (fun C ρ2 σ2 H2 ow2 A2 h2 st2 => ex C ρ2 σ2 H2 ow2 A2 h2 (st1.trans st2))
theorem ds_frz (i : Nat) {st : List Stmt} {f : SF} (h : DSs X E pr st f) : DSs X E pr st (sFrz i f) := by
  obtain ⟨t, a, s⟩ := h.run
  refine ⟨_, a, fun σ H A ρ ow T D gd h nx rt ex => ?_⟩
  unfold sFrz at h
  cases e : ρ[i]? with
  | none => rw [e] at h; exact h.elim
  | some sl =>
    rw [e] at h
    cases sl with
    | none => exact h.elim
    | some kd =>
      obtain ⟨k, d⟩ := kd
      obtain ⟨v, fp, ow', hv, g', o, sub⟩ := gd.move e
      -- the part given away is frozen
      have gA : Good X.K (fun a => A a ∨ a ∈ fp) H (ρ.set i none) σ ow' := ⟨g'.rep.mono fun _ h => .inl h, g'.nd, (fun a h z => by
          rcases z with z | z
          · exact g'.dis a h z
          · exact (List.nodup_append.mp o.nd).2.2 a z a h rfl), (fun a h => by
          rcases h with h | h
          · exact g'.tr a h
          · obtain ⟨o', e', _⟩ := o.rep.mu a h; exact ⟨o', e'⟩)⟩
      have vA : VR X.K (fun a => A a ∨ a ∈ fp) H (k.rdk, d) v [] := o.rep.rdk2 fun _ h => h
      obtain ⟨ow2, g2, sub2⟩ := gA.put (i := i) ⟨vA, by simpa using g'.nd, fun a h => (nomatch h)⟩
      rw [List.set_set, set_same hv] at g2
      have st1 : Stp H ow A H ow2 (fun a => A a ∨ a ∈ fp) := ⟨fun _ _ e _ => e, (fun a h => by
        rcases sub2 a h with z | z
        · exact .inl (sub a (by simp [z]))
        · cases z), fun _ h => .inl h, (fun a h => by
        rcases h with h | h
        · exact .inl h
        · exact .inr (.inl (sub a (by simp [h]))))⟩
      exact s σ H _ _ ow2 T D g2 h (fun ρ2 σ2 H2 ow2 A2 h2 st2 => nx ρ2 σ2 H2 ow2 A2 h2 (st1.trans st2)) (fun z ρ2 v σ2 H2 fp ow2 A2 h2 st2 => rt z ρ2 v σ2 H2 fp ow2 A2 h2 (st1.trans st2)) (fun C ρ2 σ2 H2 ow2 A2 h2 st2 => ex C ρ2 σ2 H2 ow2 A2 h2 (st1.trans st2))
theorem ds_for {tg iter : Expr} {body : List Stmt} {src : IF} {is : List Nat} {g : GF} {f : SF} (hp : PassesOwn (model X.prog X.w) X.A X.env X.xe) (hc : X.calm = true) (hi : DI X tg iter src) (hg : DG X tg is g) (hb : DSs X E pr body f) (hpr : (is.all fun i => !pr.contains i) = true := by rfl)
    (hs : ∀ x, foldedSetIterable iter X.env x = pure x := by intro _; rfl) : DS X E pr (.For tg iter body [] pos) (sFor src g f) := by
  obtain ⟨ti, pi, si⟩ := hi.run
  obtain ⟨tg', pg, sg⟩ := hg.run
  obtain ⟨tb, pb, sb⟩ := hb.run
  refine ⟨_, ps_for hp hc pi pg pb hs, fun σ H A ρ ow T D gd h nx rt ex => ?_⟩
  refine si σ H A (rdOnly ρ) [] _ _ (fun a => a ∈ ow) gd.rdOnly (fun a z => ⟨fun h => ?_, gd.rep.mu a z⟩) h fun zs J H1 hz s1 wk => ?_
  · rcases h with h | h
    · exact gd.dis a z h
    · cases h
  obtain ⟨G, Y, walk, hG, hY⟩ := wk
  have g1 := gd.freeze s1
  have st0 : Stp H ow A H1 ow (fun a => A a ∨ Fre2 H H1 a) := Stp.freeze s1
  refine for_it walk (fun i σ' H' => ∃ ρ' ow' A', Good X.K A' H' ρ' σ' ow' ∧ Stp H1 ow (fun a => A a ∨ Fre2 H H1 a) H' ow' A' ∧ forD g f D (zs.drop i) ρ' ∧ ∀ j ∈ pr, σ'[j]? = σ[j]?) ⟨ρ, ow, _, g1, Stp.refl, hz, fun _ _ => rfl⟩ ?_ ?_ ?_
  · rintro i σ' H' _ ⟨ρ', ow', A', _, st, _⟩
    exact hG H' fun a o e n => st.same a o e n
  · rintro i x σ' H' H2 hi ⟨ρ', ow', A', g', st, hf, hpr'⟩ y
    have hzi : zs[i]? = some zs[i] := List.getElem?_eq_getElem hi
    obtain ⟨s2, vz⟩ := hY i H' x H2 zs[i] hzi (fun a o e n => st.same a o e n) y
    rw [List.drop_eq_getElem_cons hi] at hf
    have hstep : g zs[i] ρ' fun ρ1 => f { D with nx := fun ρ' => forD g f D (zs.drop (i + 1)) ρ' } ρ1 := hf
    have vA : VR X.K A' H2 zs[i] x [] := vz.mono fun a h => by
      rcases h with (h | h) | h
      · exact st.up a (.inl h)
      · cases h
      · exact st.up a (.inr h)
    refine sg x zs[i] [] σ' H2 A' ρ' ow' _ _ (g'.same s2) ⟨vA, by simpa using g'.nd, fun a h => (nomatch h)⟩ hstep fun ρ1 σ1 ow1 h1 g1' sub1 w1 => ?_
    have st1 : Stp H1 ow (fun a => A a ∨ Fre2 H H1 a) H2 ow1 A' := (st.trans (Stp.of_same s2)).sub fun a h => by
      rcases sub1 a h with h | h
      · exact h
      · cases h
    have pr1 : ∀ j ∈ pr, σ1[j]? = σ[j]? := fun j hj => by
      have hl : σ1.length = σ'.length := by rw [← wipe_length σ1 is, w1, wipe_length]
      have e : (wipe σ1 is)[j]? = (wipe σ' is)[j]? := by rw [w1]
      have nj : j ∉ is := fun z => by
        have := List.all_eq_true.mp hpr j z
        simp [hj] at this
      rw [wipe_get, wipe_get, if_neg (fun z => nj z.1), if_neg (fun z => nj z.1)] at e
      exact e.trans (hpr' j hj)
    refine sb σ1 H2 A' ρ1 ow1 _ _ g1' h1 (fun ρ3 σ3 H3 ow3 A3 h3 st3 g3 p3 => ⟨ρ3, ow3, A3, g3, st1.trans st3, h3, fun j hj => (p3 j hj).trans (pr1 j hj)⟩) (fun z ρ3 v σ3 H3 fp ow3 A3 h3 st3 g3 o3 p3 => ?_) (fun C ρ3 σ3 H3 ow3 A3 h3 st3 g3 p3 => ?_)
    · exact rt z ρ3 v σ3 H3 fp ow3 A3 h3 (st0.trans (st1.trans st3)) g3 o3 fun j hj => (p3 j hj).trans (pr1 j hj)
    · exact ex C ρ3 σ3 H3 ow3 A3 h3 (st0.trans (st1.trans st3)) g3 fun j hj => (p3 j hj).trans (pr1 j hj)
  · rintro σ' H' ⟨ρ', ow', A', g', st, hf, hpr'⟩
    rw [List.drop_eq_nil_of_le (Nat.le_refl _)] at hf
    exact nx ρ' σ' H' ow' A' hf (st0.trans st) g' hpr'
end
end DL

namespace DL
open PySem PySem.Spec PyProof.Rows L2

abbrev CF := List KD → (KD → List KD → Prop) → (Str → List KD → Prop) → Prop
def sel {α : Type} : List Bool → List α → List α
  | true :: ms, x :: xs => x :: sel ms xs
  | false :: ms, _ :: xs => sel ms xs
  | _, _ => []
structure Ret (K : Frg) (H : Hp) (M : List Addr) (A : Addr → Prop) (ms : List Bool) (vs : List V) (H' : Hp) (A' : Addr → Prop) (M' : List Addr) (ys : List KD) (fp : List Addr) : Prop where
  stp : Stp H M A H' (fp ++ M') A'
  muts : VRs K A' H' ys (sel ms vs) M'
  nd : (fp ++ M').Nodup
  dis : ∀ a ∈ fp ++ M', ¬ A' a
  tr : ∀ a, A' a → ∃ o, H' a = some o
def spOf (K : Frg) (n : Nat) (ms : List Bool) (c : CF) : Sp := fun vs H Q E => vs.length = n ∧ ∃ zs A M Q0 X0, VRs K A H zs vs M ∧ M.Nodup ∧ (∀ a ∈ M, ¬ A a) ∧ (∀ a, A a → ∃ o, H a = some o) ∧ c zs Q0 X0 ∧
  (∀ z ys v H' fp M' A', Q0 z ys → Ret K H M A ms vs H' A' M' ys fp → VR K A' H' z v fp → Q v H') ∧
  (∀ C ys H' M' A', X0 C ys → Ret K H M A ms vs H' A' M' ys [] → E (.ref (He.ga K C)) none H')
def mutsOf : List Bool → Ro → Option (List KD)
  | [], _ => some []
  | true :: ms, some kd :: ρ => (mutsOf ms ρ).map (kd :: ·)
  | true :: _, _ => none
  | false :: ms, _ :: ρ => mutsOf ms ρ
  | false :: _, [] => none
def prOf (ms : List Bool) : List Nat := (List.range ms.length).filter fun i => ms[i]? == some true
def cfOf (n : Nat) (ms : List Bool) (f : SF) : CF := fun zs Q X => f
  { nx := fun ρ => match mutsOf ms ρ with | some ys => Q (.fl, .non) ys | none => False
    rt := fun z ρ => match mutsOf ms ρ with | some ys => Q z ys | none => False
    ex := fun C ρ => match mutsOf ms ρ with | some ys => X C ys | none => False } (zs.map some ++ List.replicate n none)
section
variable {K : Frg} {A : Addr → Prop} {H : Hp}
theorem RepS.start : ∀ {zs : List KD} {vs : List V} {M : List Addr} (n : Nat), VRs K A H zs vs M → RepS K A H (zs.map some ++ List.replicate n none) (vs.map some ++ List.replicate n none) M
  | [], _, _, n, h => by
    obtain ⟨e1, e2⟩ := h
    subst e1 e2
    show RepS K A H (List.replicate n none) (List.replicate n none) []
    induction n with
    | zero => exact ⟨rfl, rfl⟩
    | succ n ih => exact ⟨none, _, [], [], rfl, rfl, rfl, ih⟩
  | z :: zs, _, _, n, ⟨w, ws, f1, f2, e, e2, h, t⟩ => by
    subst e e2
    exact ⟨some w, _, f1, f2, rfl, rfl, ⟨w, rfl, h⟩, RepS.start n t⟩
theorem RepS.muts : ∀ {ms : List Bool} {ρ : Ro} {σ : L2.St} {ow : List Addr} {vs : List V} {ys : List KD}, RepS K A H ρ σ ow → mutsOf ms ρ = some ys → ms.length = vs.length →
    (∀ i : Nat, ms[i]? = some true → ∃ v, vs[i]? = some v ∧ σ[i]? = some (some v)) → ∃ M', VRs K A H ys (sel ms vs) M' ∧ M'.Sublist ow
  | [], _, _, _, vs, ys, _, h, hl, _ => by
    have : ys = [] := (Option.some.inj h).symm
    subst this
    exact ⟨[], ⟨by cases vs <;> rfl, rfl⟩, List.nil_sublist _⟩
  | true :: ms, [], _, _, _, _, _, h, _, _ => by cases h
  | true :: ms, none :: ρ, _, _, _, _, _, h, _, _ => by cases h
  | false :: ms, [], _, _, _, _, _, h, _, _ => by cases h
  | true :: ms, some kd :: ρ, _, _, [], _, _, _, hl, _ => by cases hl
  | true :: ms, some kd :: ρ, _, _, v :: vs, ys, ⟨x, σ', f, g, e, e2, ⟨w, ew, hw⟩, r⟩, h, hl, hs => by
    subst e e2 ew
    have h' : (mutsOf ms ρ).map (kd :: ·) = some ys := h
    cases q : mutsOf ms ρ with
    | none => rw [q] at h'; cases h'
    | some ys' =>
      rw [q] at h'
      have e3 : kd :: ys' = ys := Option.some.inj h'
      subst e3
      obtain ⟨v', ev, es⟩ := hs 0 rfl
      have e4 : v = v' := Option.some.inj ev
      have e5 : w = v' := Option.some.inj (Option.some.inj es)
      subst e4 e5
      obtain ⟨M', rM, sub⟩ := RepS.muts r q (by simpa using hl) fun i hi => by
        obtain ⟨u, e1, e2⟩ := hs (i + 1) (by simpa using hi)
        exact ⟨u, by simpa using e1, by simpa using e2⟩
      exact ⟨f ++ M', ⟨w, _, f, M', rfl, rfl, hw, rM⟩, (List.Sublist.refl f).append sub⟩
  | false :: ms, s :: ρ, _, _, [], _, _, _, hl, _ => by cases hl
  | false :: ms, s :: ρ, _, _, v :: vs, ys, ⟨x, σ', f, g, e, e2, hs0, r⟩, h, hl, hs => by
    subst e e2
    obtain ⟨M', rM, sub⟩ := RepS.muts (ms := ms) r h (by simpa using hl) fun i hi => by
      obtain ⟨u, e1, e2⟩ := hs (i + 1) (by simpa using hi)
      exact ⟨u, by simpa using e1, by simpa using e2⟩
    exact ⟨M', rM, sub.trans (List.sublist_append_right f g)⟩
theorem mem_prOf {ms : List Bool} {i : Nat} (h : ms[i]? = some true) : i ∈ prOf ms := by
  unfold prOf
  refine List.mem_filter.mpr ⟨List.mem_range.mpr (List.getElem?_eq_some_iff.mp h).1, ?_⟩
  rw [h]; rfl
theorem body_ok {t : TS} {f : SF} {N : List Str} {ms : List Bool} {E : XK} {vs : List V} {Q : VK} {n : Nat} (s : SSound K E (prOf ms) t f) (hn : N.length - vs.length = n) (hm : ms.length = vs.length) (hsp : spOf K vs.length ms (cfOf n ms f) vs H Q E) :
    t { nx := fun _ H' => Q .non H', rt := Q } (start N vs) H := by
  obtain ⟨_, zs, A, M, Q0, X0, r, nd, dis, tr, hc, hq, hx⟩ := hsp
  have rs : RepS K A H (zs.map some ++ List.replicate n none) (start N vs) M := by
    unfold L2.start
    rw [hn]
    exact RepS.start n r
  have good : Good K A H (zs.map some ++ List.replicate n none) (start N vs) M := ⟨rs, nd, dis, tr⟩
  have slot : ∀ i : Nat, ms[i]? = some true → ∃ v, vs[i]? = some v ∧ (start N vs)[i]? = some (some v) := fun i hi => by
    have hl : i < vs.length := by rw [← hm]; exact (List.getElem?_eq_some_iff.mp hi).1
    refine ⟨vs[i], List.getElem?_eq_getElem hl, ?_⟩
    unfold L2.start
    rw [List.getElem?_append_left (by rw [List.length_map]; exact hl), List.getElem?_map, List.getElem?_eq_getElem hl]
    rfl
  have fin : ∀ {ρ' : Ro} {σ' : L2.St} {H' : Hp} {fp ow' : List Addr} {A' : Addr → Prop} {ys : List KD}, mutsOf ms ρ' = some ys → Stp H M A H' (fp ++ ow') A' → Good K A' H' ρ' σ' ow' → (fp ++ ow').Nodup → (∀ a ∈ fp, ¬ A' a) →
      (∀ i ∈ prOf ms, σ'[i]? = (start N vs)[i]?) → ∃ M', Ret K H M A ms vs H' A' M' ys fp := fun {ρ' σ' H' fp ow' A' ys} e st g nd' dis' p => by
    obtain ⟨M', rM, sub⟩ := g.rep.muts e hm fun i hi => by
      obtain ⟨v, e1, e2⟩ := slot i hi
      exact ⟨v, e1, (p i (mem_prOf hi)).trans e2⟩
    have sub2 : (fp ++ M').Sublist (fp ++ ow') := (List.Sublist.refl fp).append sub
    refine ⟨M', st.sub fun a h => sub2.subset h, rM, List.Nodup.sublist sub2 nd', fun a h => ?_, g.tr⟩
    rcases List.mem_append.mp h with h | h
    · exact dis' a h
    · exact g.dis a (sub.subset h)
  refine s (start N vs) H A _ M _ _ good hc (fun ρ' σ' H' ow' A' h st g p => ?_) (fun z ρ' v σ' H' fp ow' A' h st g o p => ?_) (fun C ρ' σ' H' ow' A' h st g p => ?_)
  · dsimp only at h
    split at h
    · rename_i ys e
      obtain ⟨M', rt⟩ := fin (fp := []) e st g g.nd (fun a h => (nomatch h)) p
      exact hq _ _ .non H' [] M' A' h rt ⟨rfl, rfl⟩
    · exact h.elim
  · dsimp only at h
    split at h
    · rename_i ys e
      obtain ⟨M', rt⟩ := fin e st g o.nd o.dis p
      exact hq _ _ v H' fp M' A' h rt o.rep
    · exact h.elim
  · dsimp only at h
    split at h
    · rename_i ys e
      obtain ⟨M', rt⟩ := fin (fp := []) e st g g.nd (fun a h => (nomatch h)) p
      exact hx C _ H' M' A' h rt
    · exact h.elim
end
section
variable {P : Program} {w : World} {K : Frg} {mg : Str → Option Value} {base : Heap}
end

def pFn (c : CF) (g : PAF) : PF := fun ρ P => g ρ fun zs => c (zs.map fun z => (z.1.rdk, z.2)) (fun z _ => P z) (fun _ _ => False)
section
variable {K : Frg} {A B F : Addr → Prop} {H H' : Hp}
theorem VR.view {z : KD} {v : V} {f : List Addr} (h : VR K A H z v f) (m : ∀ a, A a → B a) (s : ∀ a ∈ f, B a) : VR K B H (z.1.rdk, z.2) v [] := by
  obtain ⟨k, d⟩ := z
  have r : RA K B H d v := h.ra m s
  cases k with
  | fl => exact ⟨rfl, h.2⟩
  | rd => exact ⟨rfl, r⟩
  | ow => exact ⟨rfl, r⟩
  | sh => exact ⟨rfl, r, h.2⟩
  | sa => exact ⟨rfl, r, h.2.2⟩
theorem VRs.view (m : ∀ a, A a → B a) : ∀ {zs : List KD} {vs : List V} {f : List Addr}, VRs K A H zs vs f → (∀ a ∈ f, B a) → VRs K B H (zs.map fun z => (z.1.rdk, z.2)) vs []
  | [], _, _, h, _ => ⟨h.1, rfl⟩
  | z :: zs, _, _, ⟨w, ws, f1, f2, e, e2, h, t⟩, s => ⟨w, ws, [], [], e, rfl, h.view m fun a q => s a (by rw [e2]; exact List.mem_append_left _ q), VRs.view m t fun a q => s a (by rw [e2]; exact List.mem_append_right _ q)⟩
theorem VRs.monoT (m : ∀ a o, H a = some o → A a → B a) : ∀ {zs : List KD} {vs : List V} {f : List Addr}, VRs K A H zs vs f → VRs K B H zs vs f
  | [], _, _, h => h
  | z :: zs, _, _, ⟨w, ws, f1, f2, e, e2, h, t⟩ => ⟨w, ws, f1, f2, e, e2, h.monoT m, VRs.monoT m t⟩
theorem sel_none {α : Type} : ∀ {ms : List Bool} {l : List α}, ms.all (!·) = true → sel ms l = []
  | [], l, _ => by cases l <;> rfl
  | true :: ms, _, h => by cases h
  | false :: ms, [], _ => rfl
  | false :: ms, x :: xs, h => sel_none (ms := ms) (l := xs) (by simpa using h)
theorem fn_core {c : CF} {zs : List KD} {vs : List V} {n : Nat} {ms : List Bool} {H0 : Hp} {ow : List Addr} {Q : VK} {P : KD → Prop} {E : XK} {ρ : Ro} {σ : L2.St} (g : Good K A H0 ρ σ ow) (s : Same H0 H) (pr : PRs K (BB A ow) (Fre H0) H vs zs) (hl : vs.length = n)
    (hc : c (zs.map fun z => (z.1.rdk, z.2)) (fun z _ => P z) (fun _ _ => False)) (q : ∀ z v H', P z → Same H0 H' → PR K (BB A ow) (Fre H0) H' v z → Q v H') : spOf K n ms c vs H Q E := by
  obtain ⟨fp, r, nd, hF⟩ := pr
  refine ⟨hl, _, fun a => Or2 (BB A ow) (Fre H0) a ∧ ∃ o, H a = some o, [], _, _, (r.monoT fun a o e h => ⟨h, o, e⟩).view (fun a h => h) (fun a h => ⟨.inr (hF a h), let ⟨o, e, _⟩ := r.mu a h; ⟨o, e⟩⟩), List.nodup_nil, fun a h => (nomatch h), fun a h => h.2, hc, fun z ys v H' fp' M' A' hz rt rv => ?_, fun C ys H' M' A' hx _ => hx.elim⟩
  have s' : Same H H' := fun a o e => rt.stp.same a o e (by simp)
  refine q z v H' hz (s.trans s') ⟨fp', rv.mono fun a h => ?_, (List.nodup_append.mp rt.nd).1, fun a h => ?_⟩
  · rcases rt.stp.fr a h with h | h | h
    · exact h.1
    · cases h
    · exact .inr (s.free h)
  · rcases rt.stp.own a (by simp [h]) with h | h
    · cases h
    · exact s.free h
end
section
variable {X : Cx} {CX : CXT} {k n m : Nat} {f C : Addr} {fd : FuncData} {ps : List Str} {c : CF} {ms : List Bool} {E : XK} {x : Str} {p pos : Pos} {e : Expr} {es : List Expr} {g : PAF}
end

inductive AV where
  | v (z : KD) | pl (i : Nat)
def AVs (K : Frg) (A : Addr → Prop) (H : Hp) (σ : L2.St) : List AV → List V → List Addr → Prop
  | [], vs, f => vs = [] ∧ f = []
  | .v z :: r, vs, f => ∃ w ws f1 f2, vs = w :: ws ∧ f = f1 ++ f2 ∧ VR K A H z w f1 ∧ AVs K A H σ r ws f2
  | .pl i :: r, vs, f => ∃ w ws, vs = w :: ws ∧ σ[i]? = some (some w) ∧ AVs K A H σ r ws f
abbrev AEF := Ro → (List AV → Ro → Prop) → (Str → Ro → Prop) → Prop
def AESound (K : Frg) (E : XK) (n : Nat) (t : TA) (f : AEF) : Prop := ∀ (σ : L2.St) (H : Hp) (A : Addr → Prop) (ρ : Ro) (ow : List Addr) (Q : List V → Hp → Prop) (P : List AV → Ro → Prop) (PX : Str → Ro → Prop), Good K A H ρ σ ow → f ρ P PX →
  (∀ avs ρ' vs H' fp ow' A', avs.length = n → P avs ρ' → Stp H ow A H' (fp ++ ow') A' → Good K A' H' ρ' σ ow' → AVs K A' H' σ avs vs fp → (fp ++ ow').Nodup → (∀ a ∈ fp, ¬ A' a) → Q vs H') →
  (∀ C ρ' H' ow' A', PX C ρ' → Stp H ow A H' ow' A' → Good K A' H' ρ' σ ow' → E (.ref (He.ga K C)) none H') → t σ H Q
structure DAE (X : Cx) (E : XK) (es : List Expr) (n : Nat) (f : AEF) : Prop where
  run : ∃ t, PA X es t ∧ AESound X.K E n t f
section
variable {K : Frg} {A B : Addr → Prop} {H H' : Hp} {σ : L2.St}
theorem AVs.len : ∀ {avs : List AV} {vs : List V} {f : List Addr}, AVs K A H σ avs vs f → vs.length = avs.length
  | [], _, _, h => by rw [h.1]; rfl
  | .v z :: r, _, _, ⟨w, ws, f1, f2, e, _, _, t⟩ => by rw [e, List.length_cons, List.length_cons, AVs.len t]
  | .pl i :: r, _, _, ⟨w, ws, e, _, t⟩ => by rw [e, List.length_cons, List.length_cons, AVs.len t]
theorem AVs.mono (m : ∀ a, A a → B a) : ∀ {avs : List AV} {vs : List V} {f : List Addr}, AVs K A H σ avs vs f → AVs K B H σ avs vs f
  | [], _, _, h => h
  | .v z :: r, _, _, ⟨w, ws, f1, f2, e, e2, h, t⟩ => ⟨w, ws, f1, f2, e, e2, h.mono m, AVs.mono m t⟩
  | .pl i :: r, _, _, ⟨w, ws, e, h, t⟩ => ⟨w, ws, e, h, AVs.mono m t⟩
def grab : List AV → Ro → Option (List KD × Ro)
  | [], ρ => some ([], ρ)
  | .v z :: r, ρ => (grab r ρ).map fun q => (z :: q.1, q.2)
  | .pl i :: r, ρ => match ρ[i]? with
    | some (some kd) => (grab r (ρ.set i none)).map fun q => (kd :: q.1, q.2)
    | _ => none
def putB : List Bool → List AV → List KD → Ro → Option Ro
  | true :: ms, .v _ :: r, _ :: ys, ρ => putB ms r ys ρ
  | true :: ms, .pl i :: r, y :: ys, ρ => putB ms r ys (ρ.set i (some y))
  | false :: ms, .v _ :: r, ys, ρ => putB ms r ys ρ
  | [], [], [], ρ => some ρ
  | _, _, _, _ => none
theorem grab_ok : ∀ {avs : List AV} {ρ ρ2 : Ro} {zs : List KD} {vs : List V} {fp ow : List Addr}, grab avs ρ = some (zs, ρ2) → Good K A H ρ σ ow → AVs K A H σ avs vs fp → (fp ++ ow).Nodup → (∀ a ∈ fp, ¬ A a) →
    ∃ M ow2, VRs K A H zs vs M ∧ Good K A H ρ2 σ ow2 ∧ (M ++ ow2).Nodup ∧ (∀ a ∈ M, ¬ A a) ∧ ∀ a ∈ M ++ ow2, a ∈ fp ++ ow
  | [], ρ, ρ2, zs, vs, fp, ow, h, g, r, nd, dis => by
    obtain ⟨e1, e2⟩ := r
    cases h
    subst e1 e2
    exact ⟨[], ow, ⟨rfl, rfl⟩, g, by simpa using nd, fun a h => (nomatch h), fun a h => by simpa using h⟩
  | .v z :: r', ρ, ρ2, zs, vs, fp, ow, h, g, ⟨w, ws, f1, f2, e, e2, hv, t⟩, nd, dis => by
    subst e e2
    have h' : (grab r' ρ).map (fun q => (z :: q.1, q.2)) = some (zs, ρ2) := h
    cases q : grab r' ρ with
    | none => rw [q] at h'; cases h'
    | some p =>
      obtain ⟨zs', ρ2'⟩ := p
      rw [q] at h'
      cases h'
      obtain ⟨n1, n2, n3⟩ := List.nodup_append.mp nd
      obtain ⟨m1, m2, m3⟩ := List.nodup_append.mp n1
      obtain ⟨M, ow2, r1, g2, nd2, dis2, sub⟩ := grab_ok q g t (List.nodup_append.mpr ⟨m2, n2, fun a ha b hb => n3 a (by simp [ha]) b hb⟩) fun a h => dis a (by simp [h])
      refine ⟨f1 ++ M, ow2, ⟨w, ws, f1, M, rfl, rfl, hv, r1⟩, g2, ?_, fun a h => ?_, fun a h => ?_⟩
      · rw [List.append_assoc]
        refine List.nodup_append.mpr ⟨m1, nd2, fun a ha b hb e => ?_⟩
        subst e
        rcases List.mem_append.mp (sub a hb) with z | z
        · exact m3 a ha a z rfl
        · exact n3 a (by simp [ha]) a z rfl
      · rcases List.mem_append.mp h with h | h
        · exact dis a (by simp [h])
        · exact dis2 a h
      · rw [List.append_assoc] at h
        rcases List.mem_append.mp h with h | h
        · simp [h]
        · rcases List.mem_append.mp (sub a h) with z | z <;> simp [z]
  | .pl i :: r', ρ, ρ2, zs, vs, fp, ow, h, g, ⟨w, ws, e, hs, t⟩, nd, dis => by
    subst e
    unfold grab at h
    cases q0 : ρ[i]? with
    | none => rw [q0] at h; cases h
    | some sl =>
      rw [q0] at h
      cases sl with
      | none => cases h
      | some kd =>
        dsimp only at h
        cases q : grab r' (ρ.set i none) with
        | none => rw [q] at h; cases h
        | some p =>
          obtain ⟨zs', ρ2'⟩ := p
          rw [q] at h
          cases h
          obtain ⟨v, fi, ow', hv, g', o, subi⟩ := g.move q0
          rw [hs] at hv
          have ev : w = v := Option.some.inj (Option.some.inj hv)
          subst ev
          obtain ⟨n1, n2, n3⟩ := List.nodup_append.mp nd
          have g'nd := g'.nd
          obtain ⟨M, ow2, r1, g2, nd2, dis2, sub⟩ := grab_ok q g' t (List.nodup_append.mpr ⟨n1, g'nd, fun a ha b hb => n3 a ha b (subi b (by simp [hb]))⟩) dis
          obtain ⟨k1, k2, k3⟩ := List.nodup_append.mp o.nd
          refine ⟨fi ++ M, ow2, ⟨w, ws, fi, M, rfl, rfl, o.rep, r1⟩, g2, ?_, fun a h => ?_, fun a h => ?_⟩
          · rw [List.append_assoc]
            refine List.nodup_append.mpr ⟨k1, nd2, fun a ha b hb e => ?_⟩
            subst e
            rcases List.mem_append.mp (sub a hb) with z | z
            · exact n3 a z a (subi a (by simp [ha])) rfl
            · exact k3 a ha a z rfl
          · rcases List.mem_append.mp h with h | h
            · exact o.dis a h
            · exact dis2 a h
          · rw [List.append_assoc] at h
            rcases List.mem_append.mp h with h | h
            · simp [subi a (by simp [h])]
            · rcases List.mem_append.mp (sub a h) with z | z
              · simp [z]
              · simp [subi a (by simp [z])]
theorem putB_ok {A' : Addr → Prop} {H1 : Hp} : ∀ {ms : List Bool} {avs : List AV} {ys : List KD} {ρ ρ3 : Ro} {vs : List V} {fp M ow : List Addr}, putB ms avs ys ρ = some ρ3 → AVs K A H1 σ avs vs fp → VRs K A' H' ys (sel ms vs) M → Good K A' H' ρ σ ow →
    (M ++ ow).Nodup → (∀ a ∈ M, ¬ A' a) → ∃ ow3, Good K A' H' ρ3 σ ow3 ∧ ∀ a ∈ ow3, a ∈ M ++ ow
  | [], [], [], ρ, ρ3, vs, fp, M, ow, h, _, _, g, _, _ => by cases h; exact ⟨ow, g, fun a h => by simp [h]⟩
  | [], [], _ :: _, _, _, _, _, _, _, h, _, _, _, _, _ => by cases h
  | [], _ :: _, _, _, _, _, _, _, _, h, _, _, _, _, _ => by cases h
  | true :: _, [], _, _, _, _, _, _, _, h, _, _, _, _, _ => by cases h
  | false :: _, [], _, _, _, _, _, _, _, h, _, _, _, _, _ => by cases h
  | false :: _, .pl _ :: _, _, _, _, _, _, _, _, h, _, _, _, _, _ => by cases h
  | true :: _, .v _ :: _, [], _, _, _, _, _, _, h, _, _, _, _, _ => by cases h
  | true :: _, .pl _ :: _, [], _, _, _, _, _, _, h, _, _, _, _, _ => by cases h
  | false :: ms, .v z :: r, ys, ρ, ρ3, vs, fp, M, ow, h, ⟨w, ws, f1, f2, e, e2, hv, t⟩, rM, g, nd, dis => by
    subst e e2
    exact putB_ok (ms := ms) h t rM g nd dis
  | true :: ms, .v z :: r, y :: ys, ρ, ρ3, vs, fp, M, ow, h, ⟨w, ws, f1, f2, e, e2, hv, t⟩, rM, g, nd, dis => by
    subst e e2
    obtain ⟨w', ws', g1, g2, e3, e4, hy, rM'⟩ := rM
    cases e3
    subst e4
    rw [List.append_assoc] at nd
    obtain ⟨_, n2, _⟩ := List.nodup_append.mp nd
    obtain ⟨ow3, g3, sub⟩ := putB_ok (ms := ms) h t rM' g n2 fun a h => dis a (by simp [h])
    exact ⟨ow3, g3, fun a h => by have := sub a h; simp at this ⊢; rcases this with z | z <;> simp [z]⟩
  | true :: ms, .pl i :: r, y :: ys, ρ, ρ3, vs, fp, M, ow, h, ⟨w, ws, e, hs, t⟩, rM, g, nd, dis => by
    subst e
    obtain ⟨w', ws', g1, g2, e3, e4, hy, rM'⟩ := rM
    cases e3
    subst e4
    rw [List.append_assoc] at nd
    obtain ⟨n1, n2, n3⟩ := List.nodup_append.mp nd
    obtain ⟨m1, m2, m3⟩ := List.nodup_append.mp n2
    obtain ⟨ow1, gp, sub1⟩ := g.put (i := i) (kd := y) (v := w) (fp := g1) ⟨hy, List.nodup_append.mpr ⟨n1, m2, fun a ha b hb => n3 a ha b (by simp [hb])⟩, fun a h => dis a (by simp [h])⟩
    rw [set_same hs] at gp
    obtain ⟨ow3, g3, sub⟩ := putB_ok (ms := ms) (ρ := ρ.set i (some y)) h t rM' gp (List.nodup_append.mpr ⟨m1, gp.nd, fun a ha b hb e => by
      subst e
      rcases sub1 a hb with z | z
      · exact m3 a ha a z rfl
      · exact n3 a z a (by simp [ha]) rfl⟩) fun a h => dis a (by simp [h])
    refine ⟨ow3, g3, fun a h => ?_⟩
    rcases List.mem_append.mp (sub a h) with z | z
    · simp [z]
    · rcases sub1 a z with z | z <;> simp [z]
def eFn (ms : List Bool) (c : CF) (f : AEF) : EF := fun ρ P PX => f ρ (fun avs ρ1 => match grab avs ρ1 with
  | some (zs, ρ2) => c zs (fun z ys => match putB ms avs ys ρ2 with | some ρ3 => P z ρ3 | none => False) (fun C ys => match putB ms avs ys ρ2 with | some ρ3 => PX C ρ3 | none => False)
  | none => False) PX
theorem efn_core {E : XK} {n : Nat} {ms : List Bool} {c : CF} {avs : List AV} {ρ ρ2 : Ro} {zs : List KD} {vs : List V} {fp ow ow0 : List Addr} {H0 : Hp} {A0 : Addr → Prop} {Q : VK} {P : KD → Ro → Prop} {PX : Str → Ro → Prop}
    (hg : grab avs ρ = some (zs, ρ2)) (st : Stp H0 ow0 A0 H (fp ++ ow) A) (g : Good K A H ρ σ ow) (r : AVs K A H σ avs vs fp) (nd : (fp ++ ow).Nodup) (dis : ∀ a ∈ fp, ¬ A a) (hl : vs.length = n)
    (hc : c zs (fun z ys => match putB ms avs ys ρ2 with | some ρ3 => P z ρ3 | none => False) (fun C ys => match putB ms avs ys ρ2 with | some ρ3 => PX C ρ3 | none => False))
    (q : ∀ z ρ' v H' fp ow' A', P z ρ' → Stp H0 ow0 A0 H' (fp ++ ow') A' → Good K A' H' ρ' σ ow' → Own K A' H' z v fp ow' → Q v H')
    (qx : ∀ C ρ' H' ow' A', PX C ρ' → Stp H0 ow0 A0 H' ow' A' → Good K A' H' ρ' σ ow' → E (.ref (He.ga K C)) none H') : spOf K n ms c vs H Q E := by
  obtain ⟨M, ow2, rz, g2, nd2, disM, sub⟩ := grab_ok hg g r nd dis
  obtain ⟨k1, k2, k3⟩ := List.nodup_append.mp nd2
  have back : ∀ {ys : List KD} {ρ3 : Ro} {H' : Hp} {fp' M' : List Addr} {A' : Addr → Prop}, putB ms avs ys ρ2 = some ρ3 → Ret K H M A ms vs H' A' M' ys fp' → ∃ ow3, Good K A' H' ρ3 σ ow3 ∧ (∀ a ∈ ow3, a ∈ M' ++ ow2) ∧ Stp H0 ow0 A0 H' (fp' ++ ow3) A' ∧ (∀ a ∈ fp', a ∉ ow3) := fun {ys ρ3 H' fp' M' A'} e rt => by
    have keep : KeepF A ow2 H H' := fun a o e h => rt.stp.same a o e fun z => by
      rcases h with h | h | h
      · exact k3 a z a h rfl
      · exact disM a z h
      · obtain ⟨u, e', m⟩ := rz.mu a z
        rw [e] at e'; cases e'
        exact m.notImm h
    have trk : ∀ a, a ∈ ow2 → ∃ o, H a = some o := fun a h => let ⟨o, e, _⟩ := g2.rep.mu a h; ⟨o, e⟩
    have disA : ∀ a, a ∈ ow2 → ¬ A' a := fun a h z => by
      rcases rt.stp.fr a z with z | z | z
      · exact g2.dis a h z
      · exact k3 a z a h rfl
      · obtain ⟨o, e⟩ := trk a h
        rw [z] at e; cases e
    have g2' : Good K A' H' ρ2 σ ow2 := ⟨(g2.rep.keep keep).mono rt.stp.up, g2.nd, disA, rt.tr⟩
    obtain ⟨f1, f2, f3⟩ := List.nodup_append.mp rt.nd
    have notow2 : ∀ a, a ∈ fp' ++ M' → a ∉ ow2 := fun a h z => by
      rcases rt.stp.own a h with y | y
      · exact k3 a y a z rfl
      · obtain ⟨o, e⟩ := trk a z
        rw [y] at e; cases e
    obtain ⟨ow3, g3, sub3⟩ := putB_ok e r rt.muts g2' (List.nodup_append.mpr ⟨f2, g2.nd, fun a ha b hb e => notow2 a (by simp [ha]) (by rw [e]; exact hb)⟩) fun a h => rt.dis a (by simp [h])
    refine ⟨ow3, g3, sub3, ⟨fun a o e n => ?_, fun a h => ?_, fun a h => rt.stp.up a (st.up a h), fun a h => ?_⟩, fun a ha z => ?_⟩
    · have e1 := st.same a o e n
      refine rt.stp.same a o e1 fun z => ?_
      rcases st.own a (sub a (by simp [z])) with y | y
      · exact n y
      · rw [e] at y; cases y
    · have : a ∈ M ∨ H a = none ∨ a ∈ ow2 := by
        rcases List.mem_append.mp h with h | h
        · rcases rt.stp.own a (by simp [h]) with y | y
          · exact .inl y
          · exact .inr (.inl y)
        · rcases List.mem_append.mp (sub3 a h) with h | h
          · rcases rt.stp.own a (by simp [h]) with y | y
            · exact .inl y
            · exact .inr (.inl y)
          · exact .inr (.inr h)
      rcases this with y | y | y
      · exact st.own a (sub a (by simp [y]))
      · exact st.none y
      · exact st.own a (sub a (by simp [y]))
    · rcases rt.stp.fr a h with y | y | y
      · exact st.fr a y
      · exact .inr (st.own a (sub a (by simp [y])))
      · exact .inr (st.none y)
    · rcases List.mem_append.mp (sub3 a z) with y | y
      · exact f3 a ha a y rfl
      · exact notow2 a (by simp [ha]) y
  refine ⟨hl, zs, A, M, _, _, rz, k1, disM, g.tr, hc, fun z ys v H' fp' M' A' hz rt rv => ?_, fun C ys H' M' A' hz rt => ?_⟩
  · split at hz
    · rename_i ρ3 e
      obtain ⟨ow3, g3, sub3, st3, nin⟩ := back e rt
      obtain ⟨f1, f2, f3⟩ := List.nodup_append.mp rt.nd
      exact q z ρ3 v H' fp' ow3 A' hz st3 g3 ⟨rv, List.nodup_append.mpr ⟨f1, g3.nd, fun a ha b hb e => nin a ha (by rw [e]; exact hb)⟩, fun a h => rt.dis a (by simp [h])⟩
    · exact hz.elim
  · split at hz
    · rename_i ρ3 e
      obtain ⟨ow3, g3, sub3, st3, nin⟩ := back e rt
      exact qx C ρ3 H' ow3 A' hz st3 g3
    · exact hz.elim
end
section
variable {X : Cx} {E : XK} {pos : Pos} {e : Expr} {es : List Expr} {n : Nat} {g : AEF}
theorem dae_nil : DAE X E [] 0 (fun ρ P _ => P [] ρ) :=
  ⟨_, pa_nil, fun σ H A ρ ow Q P PX g h q _ => q [] ρ [] H [] ow A rfl h Stp.refl g ⟨rfl, rfl⟩ g.nd fun a h => (nomatch h)⟩
theorem dae_pl (i : Nat) {x : Str} (t : DAE X E es n g) (hN : X.N[i]? = some x := by rfl) (hv : Vis X.env.scope x := by first | exact Or.inl rfl | exact Or.inr (Or.inl rfl) | exact Or.inr (Or.inr rfl)) (hd : (x == ("__debug__" : Str)) = false := by decide)
    (hcd : (x == ("__classdict__" : Str)) = false := by decide) (hs : starEach (.Name x pos :: es) X.env = (false, eval (.Name x pos) X.env) :: starEach es X.env := by rfl) :
    DAE X E (.Name x pos :: es) (n + 1) (fun ρ P PX => (∃ kd, ρ[i]? = some (some kd)) ∧ g ρ (fun avs ρ' => P (.pl i :: avs) ρ') PX) := by
  obtain ⟨tb, eb, sb⟩ := t.run
  refine ⟨_, pa_cons (pe_var hN hv hd hcd) eb hs, fun σ H A ρ ow Q P PX gd h q qx => ?_⟩
  obtain ⟨⟨kd, e⟩, h⟩ := h
  obtain ⟨v, f, hv, _⟩ := gd.slot e
  refine ⟨v, hv, ?_⟩
  exact sb σ H A ρ ow _ _ _ gd h (fun avs ρ' vs H' fp ow' A' hn hp st g' r nd dis => q _ ρ' _ H' fp ow' A' (by rw [List.length_cons, hn]) hp st g' ⟨v, vs, rfl, hv, r⟩ nd dis) qx
theorem dae_e {f : EF} (h : DE X E e f) (t : DAE X E es n g) (hs : starEach (e :: es) X.env = (false, eval e X.env) :: starEach es X.env := by rfl) :
    DAE X E (e :: es) (n + 1) (fun ρ P PX => f ρ (fun z ρ1 => g ρ1 (fun avs ρ2 => P (.v z :: avs) ρ2) PX) PX) := by
  obtain ⟨ta, ea, sa⟩ := h.run
  obtain ⟨tb, eb, sb⟩ := t.run
  refine ⟨_, pa_cons ea eb hs, fun σ H A ρ ow Q P PX gd h q qx => ?_⟩
  refine sa σ H A ρ ow _ _ _ gd h (fun z ρ1 v H1 fp ow1 A1 h1 st1 g1 o1 => ?_) qx
  have st1' : Stp H ow A H1 ow1 A1 := st1.sub fun a h => by simp [h]
  obtain ⟨n1, n2, n3⟩ := List.nodup_append.mp o1.nd
  refine sb σ H1 A1 ρ1 ow1 _ _ _ g1 h1 (fun avs ρ2 vs H2 fp2 ow2 A2 hn hp st2 g2 r nd dis => ?_) (fun C ρ2 H2 ow2 A2 hx st2 g2 => qx C ρ2 H2 ow2 A2 hx (st1'.trans st2) g2)
  have trk : ∀ a ∈ fp, ∃ o, H1 a = some o := fun a h => let ⟨o, e, _⟩ := o1.rep.mu a h; ⟨o, e⟩
  have kp : KeepF A1 fp H1 H2 := fun a o e h => by
    rcases h with h | h
    · exact st2.same a o e fun z => n3 a h a z rfl
    · exact g1.keepA st2 a o e h
  have notin : ∀ a ∈ fp, a ∉ fp2 ++ ow2 := fun a h z => by
    rcases st2.own a z with y | y
    · exact n3 a h a y rfl
    · obtain ⟨o, e⟩ := trk a h
      rw [y] at e; cases e
  refine q _ ρ2 (v :: vs) H2 (fp ++ fp2) ow2 A2 (by rw [List.length_cons, hn]) hp ?_ g2 ⟨v, vs, fp, fp2, rfl, rfl, (o1.rep.keep kp).mono st2.up, r⟩ ?_ fun a h => ?_
  · have st := st1'.trans st2
    refine ⟨st.same, fun a h => ?_, st.up, st.fr⟩
    rw [List.append_assoc] at h
    rcases List.mem_append.mp h with h | h
    · exact st1.own a (by simp [h])
    · exact st.own a h
  · rw [List.append_assoc]
    exact List.nodup_append.mpr ⟨n1, nd, fun a ha b hb e => notin a ha (by rw [e]; exact hb)⟩
  · rcases List.mem_append.mp h with h | h
    · intro z
      rcases st2.fr a z with y | y | y
      · exact o1.dis a h y
      · exact n3 a h a y rfl
      · obtain ⟨o, e⟩ := trk a h
        rw [y] at e; cases e
    · exact dis a h
variable {CX : CXT} {k m : Nat} {f : Addr} {fd : FuncData} {ps : List Str} {c : CF} {ms : List Bool} {x : Str} {p : Pos}
end
end DL

namespace DL
open PySem PySem.Spec PyProof.Rows L2

section
variable {K : Frg} {A A0 : Addr → Prop} {H H' H0 : Hp} {ρ : Ro} {σ : L2.St} {ow ow0 fp : List Addr}
theorem PR.fin {u : V} {z : KD} (st : Stp H0 ow0 A0 H (fp ++ ow) A) (g : Good K A H ρ σ ow) (nd : (fp ++ ow).Nodup) (dis : ∀ a ∈ fp, ¬ A a) (s : Same H H') (p : PR K A (fun a => a ∈ fp ∨ H a = none) H' u z) :
    ∃ f A', Stp H0 ow0 A0 H' (f ++ ow) A' ∧ Good K A' H' ρ σ ow ∧ Own K A' H' z u f ow := by
  obtain ⟨f, r, n, hF⟩ := p
  obtain ⟨n1, n2, n3⟩ := List.nodup_append.mp nd
  have trk : ∀ a ∈ ow, ∃ o, H a = some o := fun a h => let ⟨o, e, _⟩ := g.rep.mu a h; ⟨o, e⟩
  have nin : ∀ a, (a ∈ fp ∨ H a = none) → a ∉ ow := fun a h z => by
    rcases h with h | h
    · exact n3 a h a z rfl
    · obtain ⟨o, e⟩ := trk a z
      rw [h] at e; cases e
  have nA : ∀ a, (a ∈ fp ∨ H a = none) → ¬ A a := fun a h z => by
    rcases h with h | h
    · exact dis a h z
    · obtain ⟨o, e⟩ := g.tr a z
      rw [h] at e; cases e
  have org : ∀ a, (a ∈ fp ∨ H a = none) → a ∈ ow0 ∨ H0 a = none := fun a h => by
    rcases h with h | h
    · exact st.own a (by simp [h])
    · exact st.none h
  by_cases hk : z.1 = .fl ∨ z.1 = .sh ∨ z.1 = .ow
  · refine ⟨f, A, ⟨fun a o e m => s a o (st.same a o e m), fun a h => ?_, st.up, st.fr⟩, g.same s, ⟨?_, List.nodup_append.mpr ⟨n, n2, fun a ha b hb e => nin a (hF a ha) (by rw [e]; exact hb)⟩, fun a h => nA a (hF a h)⟩⟩
    · rcases List.mem_append.mp h with h | h
      · exact org a (hF a h)
      · exact st.own a (by simp [h])
    · obtain ⟨k, d⟩ := z
      rcases hk with rfl | rfl | rfl <;> exact r
  · have e : f = [] := by
      obtain ⟨k, d⟩ := z
      cases k with
      | fl => exact r.1
      | rd => exact r.1
      | sa => exact r.1
      | sh => exact absurd (.inr (.inl rfl)) hk
      | ow => exact absurd (.inr (.inr rfl)) hk
    subst e
    refine ⟨[], fun a => A a ∨ ((a ∈ fp ∨ H a = none) ∧ ∃ o, H' a = some o), ⟨fun a o e m => s a o (st.same a o e m), fun a h => st.own a (by simp at h; simp [h]), fun a h => .inl (st.up a h), fun a h => ?_⟩, ?_, ⟨r.monoT fun a o e h => ?_, by simpa using n2, fun a h => (nomatch h)⟩⟩
    · rcases h with h | h
      · exact st.fr a h
      · exact .inr (org a h.1)
    · refine ⟨(g.rep.keep (KeepF.of_same s)).mono fun _ h => .inl h, n2, fun a h z => ?_, fun a h => ?_⟩
      · rcases z with z | z
        · exact g.dis a h z
        · exact nin a z.1 h
      · rcases h with h | h
        · obtain ⟨o, e⟩ := g.tr a h; exact ⟨o, s a o e⟩
        · exact h.2
    · rcases h with h | h
      · exact .inl h
      · exact .inr ⟨h, o, e⟩
def valsOf : List AV → Option (List KD)
  | [] => some []
  | .v z :: r => (valsOf r).map (z :: ·)
  | .pl _ :: _ => none
theorem AVs.vals : ∀ {avs : List AV} {vs : List V} {f : List Addr} {zs : List KD}, AVs K A H σ avs vs f → valsOf avs = some zs → VRs K A H zs vs f
  | [], _, _, _, h, e => by cases e; exact h
  | .v z :: r, _, _, zs, ⟨w, ws, f1, f2, e, e2, h, t⟩, q => by
    have q' : (valsOf r).map (z :: ·) = some zs := q
    cases q0 : valsOf r with
    | none => rw [q0] at q'; cases q'
    | some zs' =>
      rw [q0] at q'
      cases q'
      exact ⟨w, ws, f1, f2, e, e2, h, AVs.vals t q0⟩
  | .pl i :: r, _, _, _, _, q => by cases q
theorem VRs.prs {zs : List KD} {vs : List V} (r : VRs K A H zs vs fp) (nd : fp.Nodup) : PRs K A (fun a => a ∈ fp ∨ H a = none) H vs zs := ⟨fp, r.mono fun _ h => .inl h, nd, fun _ h => .inl h⟩
end

theorem ae_nil {K : Frg} {E : XK} : AESound K E 0 tNil (fun ρ P _ => P [] ρ) := fun σ H A ρ ow Q P PX g h q _ => q [] ρ [] H [] ow A rfl h Stp.refl g ⟨rfl, rfl⟩ g.nd fun a h => (nomatch h)
theorem ae_cons {K : Frg} {E : XK} {n : Nat} {ta : TE} {tb : TA} {f : EF} {g : AEF} (sa : ESound K E ta f) (sb : AESound K E n tb g) :
    AESound K E (n + 1) (tCons ta tb) (fun ρ P PX => f ρ (fun z ρ1 => g ρ1 (fun avs ρ2 => P (.v z :: avs) ρ2) PX) PX) := by
  intro σ H A ρ ow Q P PX gd h q qx
  refine sa σ H A ρ ow _ _ _ gd h (fun z ρ1 v H1 fp ow1 A1 h1 st1 g1 o1 => ?_) qx
  have st1' : Stp H ow A H1 ow1 A1 := st1.sub fun a h => by simp [h]
  obtain ⟨n1, n2, n3⟩ := List.nodup_append.mp o1.nd
  refine sb σ H1 A1 ρ1 ow1 _ _ _ g1 h1 (fun avs ρ2 vs H2 fp2 ow2 A2 hn hp st2 g2 r nd dis => ?_) (fun C ρ2 H2 ow2 A2 hx st2 g2 => qx C ρ2 H2 ow2 A2 hx (st1'.trans st2) g2)
  have trk : ∀ a ∈ fp, ∃ o, H1 a = some o := fun a h => let ⟨o, e, _⟩ := o1.rep.mu a h; ⟨o, e⟩
  have kp : KeepF A1 fp H1 H2 := fun a o e h => by
    rcases h with h | h
    · exact st2.same a o e fun z => n3 a h a z rfl
    · exact g1.keepA st2 a o e h
  have notin : ∀ a ∈ fp, a ∉ fp2 ++ ow2 := fun a h z => by
    rcases st2.own a z with y | y
    · exact n3 a h a y rfl
    · obtain ⟨o, e⟩ := trk a h
      rw [y] at e; cases e
  refine q _ ρ2 (v :: vs) H2 (fp ++ fp2) ow2 A2 (by rw [List.length_cons, hn]) hp ?_ g2 ⟨v, vs, fp, fp2, rfl, rfl, (o1.rep.keep kp).mono st2.up, r⟩ ?_ fun a h => ?_
  · have st := st1'.trans st2
    refine ⟨st.same, fun a h => ?_, st.up, st.fr⟩
    rw [List.append_assoc] at h
    rcases List.mem_append.mp h with h | h
    · exact st1.own a (by simp [h])
    · exact st.own a h
  · rw [List.append_assoc]
    exact List.nodup_append.mpr ⟨n1, nd, fun a ha b hb e => notin a ha (by rw [e]; exact hb)⟩
  · rcases List.mem_append.mp h with h | h
    · intro z
      rcases st2.fr a z with y | y | y
      · exact o1.dis a h y
      · exact n3 a h a y rfl
      · obtain ⟨o, e⟩ := trk a h
        rw [y] at e; cases e
    · exact dis a h

def eOp (o : KD → KD → (KD → Prop) → Prop) (fa fb : EF) : EF := fun ρ P PX => fa ρ (fun x ρ1 => fb ρ1 (fun y ρ2 => o x y fun z => P z ρ2) PX) PX
def eCallB (o : List KD → (KD → Prop) → Prop) (g : AEF) : EF := fun ρ P PX => g ρ (fun avs ρ1 => match valsOf avs with | some zs => o zs fun z => P z ρ1 | none => False) PX
def eTup (g : AEF) : EF := fun ρ P PX => g ρ (fun avs ρ1 => match valsOf avs with | some zs => P (jT zs, .tup (zs.map (·.2))) ρ1 | none => False) PX
def eLst (g : AEF) : EF := fun ρ P PX => g ρ (fun avs ρ1 => match valsOf avs with | some zs => P (jL zs, .lst (zs.map (·.2))) ρ1 | none => False) PX
def eTest (f : EF) : TEF := fun ρ P PX => f ρ (fun z ρ1 => match z.2 with | .bl b => P b ρ1 | _ => False) PX
def teAnd (f g : TEF) : TEF := fun ρ P PX => f ρ (fun b ρ1 => if b = true then g ρ1 P PX else P false ρ1) PX
def teOr (f g : TEF) : TEF := fun ρ P PX => f ρ (fun b ρ1 => if b = true then P true ρ1 else g ρ1 P PX) PX
def teNot (f : TEF) : TEF := fun ρ P PX => f ρ (fun b ρ1 => P (!b) ρ1) PX
section
variable {K : Frg} {E : XK} {fa fb : EF} {ta tb : TE}
theorem es_op {r : R2} {o : KD → KD → (KD → Prop) → Prop} (hr : OpS K r o) (sa : ESound K E ta fa) (sb : ESound K E tb fb) : ESound K E (tOp r ta tb) (eOp o fa fb) := by
  intro σ H A ρ ow Q P PX gd h q qx
  have s2 := ae_cons sa (ae_cons sb ae_nil)
  have := s2 σ H A ρ ow (fun vs H2 => match vs with | [x, y] => r x y H2 Q | _ => False) (fun avs ρ2 => match avs with | [.v x, .v y] => o x y fun z => P z ρ2 | _ => False) PX gd h (fun avs ρ2 vs H2 fp ow2 A2 hn hp st g2 rr nd dis => ?_) qx
  · exact this
  · split at hp
    · rename_i x y
      have rz : VRs K A2 H2 [x, y] vs fp := rr.vals rfl
      obtain ⟨v, w, ev, px, py⟩ := (rz.prs (List.nodup_append.mp nd).1).get2
      subst ev
      refine hr A2 _ H2 v w x y _ Q px py (fun a h => .inr h) hp fun z u H3 hz s3 p3 => ?_
      obtain ⟨f, A3, st3, g3, o3⟩ := p3.fin st g2 nd dis s3
      exact q z ρ2 u H3 f ow2 A3 hz st3 g3 o3
    · exact hp.elim
theorem es_call {n : Nat} {r : List V → Hp → VK → Prop} {o : List KD → (KD → Prop) → Prop} {t : TA} {g : AEF} (hr : CallS K r o) (s : AESound K E n t g) : ESound K E (tCB r t) (eCallB o g) := by
  intro σ H A ρ ow Q P PX gd h q qx
  refine s σ H A ρ ow _ _ _ gd h (fun avs ρ2 vs H2 fp ow2 A2 hn hp st g2 rr nd dis => ?_) qx
  split at hp
  · rename_i zs e
    have rz := rr.vals e
    refine hr A2 _ H2 vs zs _ Q (rz.prs (List.nodup_append.mp nd).1) (fun a h => .inr h) hp fun z u H3 hz s3 p3 => ?_
    obtain ⟨f, A3, st3, g3, o3⟩ := p3.fin st g2 nd dis s3
    exact q z ρ2 u H3 f ow2 A3 hz st3 g3 o3
  · exact hp.elim
theorem es_test {f : EF} (s : ESound K E ta f) : TESound K E (tTest ta) (eTest f) := by
  intro σ H A ρ ow Q P PX gd h q qx
  refine s σ H A ρ ow _ _ _ gd h (fun z ρ1 v H1 fp ow1 A1 h1 st1 g1 o1 => ?_) qx
  obtain ⟨k, d⟩ := z
  have r : RA K (fun _ => True) H1 d v := o1.rep.ra (fun _ _ => trivial) (fun _ _ => trivial)
  cases d <;> first
    | exact h1.elim
    | exact ⟨_, r, q _ ρ1 H1 ow1 A1 h1 (st1.sub fun a h => by simp [h]) g1⟩
variable {t u : TT} {f g : TEF}
theorem tes_and (s : TESound K E t f) (s' : TESound K E u g) : TESound K E (L2.tAnd t u) (teAnd f g) := by
  intro σ H A ρ ow Q P PX gd h q qx
  refine s σ H A ρ ow _ _ _ gd h (fun b ρ1 H1 ow1 A1 hb st1 g1 => ?_) qx
  cases b with
  | true => exact s' σ H1 A1 ρ1 ow1 _ _ _ g1 hb (fun b ρ2 H2 ow2 A2 hb st2 g2 => q b ρ2 H2 ow2 A2 hb (st1.trans st2) g2) (fun C ρ2 H2 ow2 A2 hb st2 g2 => qx C ρ2 H2 ow2 A2 hb (st1.trans st2) g2)
  | false => exact q false ρ1 H1 ow1 A1 hb st1 g1
theorem tes_or (s : TESound K E t f) (s' : TESound K E u g) : TESound K E (L2.tOr t u) (teOr f g) := by
  intro σ H A ρ ow Q P PX gd h q qx
  refine s σ H A ρ ow _ _ _ gd h (fun b ρ1 H1 ow1 A1 hb st1 g1 => ?_) qx
  cases b with
  | false => exact s' σ H1 A1 ρ1 ow1 _ _ _ g1 hb (fun b ρ2 H2 ow2 A2 hb st2 g2 => q b ρ2 H2 ow2 A2 hb (st1.trans st2) g2) (fun C ρ2 H2 ow2 A2 hb st2 g2 => qx C ρ2 H2 ow2 A2 hb (st1.trans st2) g2)
  | true => exact q true ρ1 H1 ow1 A1 hb st1 g1
theorem tes_not (s : TESound K E t f) : TESound K E (L2.tNot t) (teNot f) := by
  intro σ H A ρ ow Q P PX gd h q qx
  exact s σ H A ρ ow _ _ _ gd h (fun b ρ1 H1 ow1 A1 hb st1 g1 => q _ ρ1 H1 ow1 A1 hb st1 g1) qx
end
section
variable {X : Cx} {E : XK} {pos : Pos} {a b c e : Expr} {es : List Expr} {fa fb : EF} {n : Nat} {g : AEF}
theorem de_op {op : Operator} {r : R2} {o : KD → KD → (KD → Prop) → Prop} (ho : OpR X (binaryOp op) r) (hr : OpS X.K r o) (ha : DE X E a fa) (hb : DE X E b fb) : DE X E (.BinOp a op b pos) (eOp o fa fb) := by
  obtain ⟨ta, ea, sa⟩ := ha.run
  obtain ⟨tb, eb, sb⟩ := hb.run
  exact ⟨_, pe_op ho ea eb, es_op hr sa sb⟩
theorem dte_cmp {op : CmpOp} {r : R2} {o : KD → KD → (KD → Prop) → Prop} (ho : OpR X (compareOp op) r) (hr : OpS X.K r o) (ha : DE X E a fa) (hb : DE X E b fb) (hm : behindInMarks op b = false) : DTE X E (.Compare a [op] [b] pos) (eTest (eOp o fa fb)) := by
  obtain ⟨ta, ea, sa⟩ := ha.run
  obtain ⟨tb, eb, sb⟩ := hb.run
  exact ⟨_, pt_cmpR ho ea eb hm, es_test (es_op hr sa sb)⟩
theorem dte_val (h : DE X E e fa) (he : ∀ whole, isTrue e X.env whole = (do let v ← whole; standAt e.pos; holding [v] (truthy v)) := by intro _; rfl) : DTE X E e (eTest fa) := by
  obtain ⟨t, pe, s⟩ := h.run
  exact ⟨_, pt_val pe he, es_test s⟩
structure DWE (X : Cx) (E : XK) (e : Expr) (f : TEF) : Prop where
  run : ∃ t, PW X e t ∧ TESound X.K E t f
variable {ta tb : TEF} {rest : List Expr}
theorem DWE.dt (h : DWE X E e ta) : DTE X E e ta := let ⟨t, a, b⟩ := h.run; ⟨t, a.pt, b⟩
theorem dwe_and1 (h : DTE X E a ta) : DWE X E (.BoolOp .And [a] pos) ta := let ⟨_, e, s⟩ := h.run; ⟨_, pw_and1 e, s⟩
theorem dwe_or1 (h : DTE X E a ta) : DWE X E (.BoolOp .Or [a] pos) ta := let ⟨_, e, s⟩ := h.run; ⟨_, pw_or1 e, s⟩
theorem dwe_and (h : DTE X E a ta) (h' : DWE X E (.BoolOp .And (b :: rest) pos) tb) : DWE X E (.BoolOp .And (a :: b :: rest) pos) (teAnd ta tb) := let ⟨_, e, s⟩ := h.run; let ⟨_, e', s'⟩ := h'.run; ⟨_, pw_and e e', tes_and s s'⟩
theorem dwe_or (h : DTE X E a ta) (h' : DWE X E (.BoolOp .Or (b :: rest) pos) tb) : DWE X E (.BoolOp .Or (a :: b :: rest) pos) (teOr ta tb) := let ⟨_, e, s⟩ := h.run; let ⟨_, e', s'⟩ := h'.run; ⟨_, pw_or e e', tes_or s s'⟩
theorem dte_not (h : DTE X E a ta) : DTE X E (.UnaryOp .Not a pos) (teNot ta) := let ⟨_, e, s⟩ := h.run; ⟨_, pt_not e, tes_not s⟩
theorem de_tup {k} (h : DAE X E es n g) (hn : n ≤ 1000 := by decide) : DE X E (.Tuple es k pos) (eTup g) := by
  obtain ⟨ta, ea, sa⟩ := h.run
  refine ⟨_, pe_tup ea, fun σ H A ρ ow Q P PX gd h q qx => ?_⟩
  refine sa σ H A ρ ow _ _ _ gd h (fun avs ρ2 vs H2 fp ow2 A2 hz hp st g2 rr nd dis => ⟨by rw [rr.len, hz, sizeLine_eq]; omega, fun p hp' => ?_⟩) qx
  split at hp
  · rename_i zs e
    have rz := (rr.vals e).prs (List.nodup_append.mp nd).1
    obtain ⟨f, A3, st3, g3, o3⟩ := (pr_tupJ rz hp').fin st g2 nd dis (same_upd hp')
    exact q _ ρ2 _ _ f ow2 A3 hp st3 g3 o3
  · exact hp.elim
theorem de_lst (h : DAE X E es n g) (hn : n ≤ 1000 := by decide) : DE X E (.List es pos) (eLst g) := by
  obtain ⟨ta, ea, sa⟩ := h.run
  refine ⟨_, pe_lst ea, fun σ H A ρ ow Q P PX gd h q qx => ?_⟩
  refine sa σ H A ρ ow _ _ _ gd h (fun avs ρ2 vs H2 fp ow2 A2 hz hp st g2 rr nd dis => ⟨by rw [rr.len, hz, sizeLine_eq]; omega, fun p hp' => ?_⟩) qx
  split at hp
  · rename_i zs e
    have rz := (rr.vals e).prs (List.nodup_append.mp nd).1
    obtain ⟨f, A3, st3, g3, o3⟩ := (pr_lstJ rz hp' (.inr hp')).fin st g2 nd dis (same_upd hp')
    exact q _ ρ2 _ _ f ow2 A3 hp st3 g3 o3
  · exact hp.elim
variable {r : List V → Hp → VK → Prop} {o : List KD → (KD → Prop) → Prop} {x : Str} {p : Pos}
theorem de_callB {id : String} (hc : CallR X (.builtin id) r) (hr : CallS X.K r o) (hg : Gl X x) (hm : X.mg x = none) (hv : bootBuiltins x = some (.builtin id)) (ha : DAE X E (e :: es) n g) (hn : x ≠ "__name__" := by decide) (hdb : (x == ("__debug__" : Str)) = false := by decide)
    (he : starEach (e :: es) X.env = (false, eval e X.env) :: starEach es X.env := by rfl) (hpl : (backTo pos (starEach es X.env)).any (·.1) = false := by rfl) : DE X E (.Call (.Name x p) (e :: es) [] pos) (eCallB o g) := by
  obtain ⟨t, ea, sa⟩ := ha.run
  exact ⟨_, pe_callB hc hg hm hv ea hn hdb he hpl, es_call hr sa⟩
end
end DL

namespace DL
open PySem PySem.Spec PyProof.Rows L2

def PlAt (K : Frg) (A : Addr → Prop) (H : Hp) (ρ : Ro) (σ : L2.St) (ow : List Addr) (i : Nat) (k : Kd) (e : D) (rb : D → D) (w : V) : Prop :=
  ∃ d v0 g1 fs g2 fe, ow = g1 ++ (fs ++ g2) ∧ σ[i]? = some (some v0) ∧ Zip K No H d v0 fs rb e w fe ∧ (k = .sh → Shal K H e w ∧ rb = id ∧ w = v0) ∧
    ∀ (H' : Hp) (A' : Addr → Prop) (kd' : KD) (fs' : List Addr), (∀ a, A a → A' a) → KeepF A (g1 ++ g2) H H' → VR K A' H' kd' v0 fs' → RepS K A' H' (ρ.set i (some kd')) σ (g1 ++ (fs' ++ g2))
abbrev PLF := Ro → (Nat → Kd → D → (D → D) → Prop) → Prop
def PLSound (K : Frg) (t : TE) (pl : PLF) : Prop := ∀ (σ : L2.St) (H : Hp) (A : Addr → Prop) (ρ : Ro) (ow : List Addr) (Q : VK) (P : Nat → Kd → D → (D → D) → Prop), Good K A H ρ σ ow → pl ρ P →
  (∀ i k e rb v H', P i k e rb → Same H H' → PlAt K A H' ρ σ ow i k e rb v → Q v H') → t σ H Q
structure DPl (X : Cx) (e : Expr) (pl : PLF) : Prop where
  run : ∃ t, PE X e t ∧ PLSound X.K t pl
section
variable {K : Frg} {A : Addr → Prop} {H H' : Hp} {ρ : Ro} {σ : L2.St} {ow : List Addr} {i : Nat} {k : Kd} {e : D} {rb : D → D} {w : V}
theorem PlAt.same (s : Same H H') (p : PlAt K A H ρ σ ow i k e rb w) : PlAt K A H' ρ σ ow i k e rb w := by
  obtain ⟨d, v0, g1, fs, g2, fe, e1, e2, z, hs, put⟩ := p
  exact ⟨d, v0, g1, fs, g2, fe, e1, e2, z.keep (KeepF.of_same s), fun h => let ⟨a, b⟩ := hs h; ⟨a.same s, b⟩, fun H'' A' kd' fs' m kp r => put H'' A' kd' fs' m (keepF_trans (KeepF.of_same s) kp) r⟩
theorem PlAt.root {d : D} {kd : KD} (g : Good K A H ρ σ ow) (h : ρ[i]? = some (some kd)) (hk : kd.1 = .sh ∨ kd.1 = .ow) : ∃ v, σ[i]? = some (some v) ∧ PlAt K A H ρ σ ow i kd.1 kd.2 id v := by
  obtain ⟨x, f1, f2, f3, hx, e2, ⟨v, ev, r⟩, put⟩ := g.rep.split h
  subst ev
  refine ⟨v, hx, kd.2, v, f1, f2, f3, f2, e2, hx, ?_, fun e => ?_, fun H' A' kd' fs' m kp r' => ?_⟩
  · obtain ⟨k, d⟩ := kd
    rcases hk with rfl | rfl
    · exact Zip.root r.1
    · exact Zip.root r
  · obtain ⟨k, d⟩ := kd
    dsimp only at e
    subst e
    exact ⟨r.2, rfl, rfl⟩
  · have := put H' A' (some kd') (some v) fs' m kp ⟨v, rfl, r'⟩
    rwa [set_same hx] at this
theorem PlAt.mut {fa : List Addr} (g : Good K A H ρ σ ow) (p : PlAt K A H ρ σ ow i k e rb w) (hnd : (fa ++ ow).Nodup) (hda : ∀ a ∈ fa, ¬ A a) :
    ∃ fe, R K No H e w fe ∧ (fa ++ fe).Nodup ∧ (∀ a ∈ fe, a ∈ ow) ∧ (k = .sh → Shal K H e w) ∧ ∀ (e' : D) (k' : Kd) (fz : List Addr) (z : KD) (zv : V) (H' : Hp) (fe' : List Addr), (∀ a o, H a = some o → a ∉ fe → H' a = some o) → R K No H' e' w fe' → (k' = .ow ∨ (k' = .sh ∧ k = .sh ∧ Shal K H' e' w)) → VR K A H' z zv fz → (fz ++ fe').Nodup →
      (∀ a ∈ fz ++ fe', a ∈ fe ∨ a ∈ fa ∨ H a = none) → ∃ ow', Stp H (fa ++ ow) A H' (fz ++ ow') A ∧ Good K A H' (ρ.set i (some (k', rb e'))) σ ow' ∧ Own K A H' z zv fz ow' := by
  obtain ⟨d, v0, g1, fs, g2, fe, e1, e2, ⟨f1, f2, ef, r, reb⟩, hs, put⟩ := p
  subst e1 ef
  have gnd := g.nd
  obtain ⟨n1, n2, n3⟩ := List.nodup_append.mp hnd
  refine ⟨fe, r, List.nodup_append.mpr ⟨n1, ?_, fun a ha b hb => n3 a ha b (by simp [hb])⟩, fun a h => by simp [h], fun h => (hs h).1, fun e' k' fz z zv H' fe' hk r' hk' rz nd' hsub => ?_⟩
  · have a1 := (List.nodup_append.mp (List.nodup_append.mp gnd).2.1).1
    exact (List.nodup_append.mp (List.nodup_append.mp a1).2.1).1
  -- the addresses beside fe
  have side : ∀ a, a ∈ g1 ∨ a ∈ f1 ∨ a ∈ f2 ∨ a ∈ g2 → a ∉ fe ∧ a ∉ fa ∧ ∃ o, H a = some o := fun a h => by
    have inow : a ∈ g1 ++ (f1 ++ (fe ++ f2) ++ g2) := by simp only [List.mem_append]; rcases h with h | h | h | h <;> simp [h]
    refine ⟨fun z => ?_, fun z => n3 a z a inow rfl, let ⟨o, e, _⟩ := g.rep.mu a inow; ⟨o, e⟩⟩
    have b1 := List.nodup_append.mp gnd
    have b2 := List.nodup_append.mp b1.2.1
    have b3 := List.nodup_append.mp b2.1
    have b4 := List.nodup_append.mp b3.2.1
    rcases h with h | h | h | h
    · exact b1.2.2 a h a (by simp [z]) rfl
    · exact b3.2.2 a h a (by simp [z]) rfl
    · exact b4.2.2 a z a h rfl
    · exact b2.2.2 a (by simp [z]) a h rfl
  have keepO : ∀ a o, H a = some o → (a ∈ g1 ∨ a ∈ f1 ∨ a ∈ f2 ∨ a ∈ g2 ∨ A a ∨ Imm o) → H' a = some o := fun a o e h => hk a o e fun z => by
    rcases h with h | h | h | h | h | h
    · exact (side a (.inl h)).1 z
    · exact (side a (.inr (.inl h))).1 z
    · exact (side a (.inr (.inr (.inl h)))).1 z
    · exact (side a (.inr (.inr (.inr h)))).1 z
    · exact g.dis a (by simp [z]) h
    · obtain ⟨u, e', m⟩ := R.mu _ _ _ r a z
      rw [e] at e'; cases e'
      exact m.notImm h
  have whole : R K No H' (rb e') v0 (f1 ++ (fe' ++ f2)) := reb H' No e' fe' (fun _ h => h) (fun a o e h => keepO a o e (by
    rcases h with h | h | h
    · rcases List.mem_append.mp h with h | h <;> simp [h]
    · exact h.elim
    · simp [h])) r'
  have vr : VR K A H' (k', rb e') v0 (f1 ++ (fe' ++ f2)) := by
    rcases hk' with rfl | ⟨rfl, hk1, hsh⟩
    · exact whole
    · obtain ⟨_, hrb, hw⟩ := hs hk1
      refine ⟨whole, ?_⟩
      rw [hrb, ← hw]
      exact hsh
  have rep := put H' A (k', rb e') _ (fun _ h => h) (fun a o e h => keepO a o e (by
    rcases h with h | h | h
    · rcases List.mem_append.mp h with h | h <;> simp [h]
    · simp [h]
    · simp [h])) vr
  have news : ∀ a, a ∈ fz ++ fe' → a ∉ g1 ∧ a ∉ f1 ∧ a ∉ f2 ∧ a ∉ g2 := fun a h => by
    have key : ¬ (a ∈ g1 ∨ a ∈ f1 ∨ a ∈ f2 ∨ a ∈ g2) := fun z => by
      obtain ⟨s1, s2, o, s3⟩ := side a z
      rcases hsub a h with y | y | y
      · exact s1 y
      · exact s2 y
      · rw [s3] at y; cases y
    exact ⟨fun z => key (.inl z), fun z => key (.inr (.inl z)), fun z => key (.inr (.inr (.inl z))), fun z => key (.inr (.inr (.inr z)))⟩
  have nA : ∀ a, a ∈ fz ++ fe' → ¬ A a := fun a h z => by
    rcases hsub a h with y | y | y
    · exact g.dis a (by simp [y]) z
    · exact hda a y z
    · obtain ⟨o, e⟩ := g.tr a z
      rw [y] at e; cases e
  have ndow : (g1 ++ (f1 ++ (fe' ++ f2) ++ g2)).Nodup := by
    have b1 := List.nodup_append.mp gnd
    have b2 := List.nodup_append.mp b1.2.1
    have b3 := List.nodup_append.mp b2.1
    have b4 := List.nodup_append.mp b3.2.1
    have c := List.nodup_append.mp nd'
    refine List.nodup_append.mpr ⟨b1.1, List.nodup_append.mpr ⟨List.nodup_append.mpr ⟨b3.1, List.nodup_append.mpr ⟨c.2.1, b4.2.1, fun a ha b hb e => ?_⟩, fun a ha b hb e => ?_⟩, b2.2.1, fun a ha b hb e => ?_⟩, fun a ha b hb e => ?_⟩
    · subst e; exact (news a (by simp [ha])).2.2.1 hb
    · subst e
      rcases List.mem_append.mp hb with hb | hb
      · exact (news a (by simp [hb])).2.1 ha
      · exact b3.2.2 a ha a (by simp [hb]) rfl
    · subst e
      rcases List.mem_append.mp ha with ha | ha
      · exact b2.2.2 a (by simp [ha]) a hb rfl
      · rcases List.mem_append.mp ha with ha | ha
        · exact (news a (by simp [ha])).2.2.2 hb
        · exact b2.2.2 a (by simp [ha]) a hb rfl
    · subst e
      rcases List.mem_append.mp hb with hb | hb
      · rcases List.mem_append.mp hb with hb | hb
        · exact b1.2.2 a ha a (by simp [hb]) rfl
        · rcases List.mem_append.mp hb with hb | hb
          · exact (news a (by simp [hb])).1 ha
          · exact b1.2.2 a ha a (by simp [hb]) rfl
      · exact b1.2.2 a ha a (by simp [hb]) rfl
  have mem : ∀ a, a ∈ g1 ++ (f1 ++ (fe' ++ f2) ++ g2) → a ∈ fe' ∨ (a ∈ g1 ∨ a ∈ f1 ∨ a ∈ f2 ∨ a ∈ g2) := fun a h => by
    simp only [List.mem_append] at h
    rcases h with h | (h | h | h) | h <;> simp [h]
  refine ⟨g1 ++ (f1 ++ (fe' ++ f2) ++ g2), ⟨fun a o e n => hk a o e fun z => n (by simp [z]), fun a h => ?_, fun _ h => h, fun _ h => .inl h⟩, ⟨rep, ndow, fun a h z => ?_, fun a h => ?_⟩, ⟨rz, List.nodup_append.mpr ⟨(List.nodup_append.mp nd').1, ndow, fun a ha b hb e => ?_⟩, fun a h => nA a (by simp [h])⟩⟩
  · have : a ∈ fz ++ fe' ∨ (a ∈ g1 ∨ a ∈ f1 ∨ a ∈ f2 ∨ a ∈ g2) := by
      rcases List.mem_append.mp h with h | h
      · exact .inl (by simp [h])
      · rcases mem a h with h | h
        · exact .inl (by simp [h])
        · exact .inr h
    rcases this with h | h
    · rcases hsub a h with y | y | y
      · exact .inl (by simp [y])
      · exact .inl (by simp [y])
      · exact .inr y
    · exact .inl (by simp only [List.mem_append]; rcases h with h | h | h | h <;> simp [h])
  · rcases mem a h with h | h
    · exact nA a (by simp [h]) z
    · exact g.dis a (by simp only [List.mem_append]; rcases h with h | h | h | h <;> simp [h]) z
  · obtain ⟨o, e⟩ := g.tr a h
    exact ⟨o, keepO a o e (by simp [h])⟩
  · subst e
    rcases mem a hb with y | y
    · exact (List.nodup_append.mp nd').2.2 a ha a y rfl
    · obtain ⟨s1, s2, s3, s4⟩ := news a (by simp [ha])
      rcases y with y | y | y | y
      · exact s1 y
      · exact s2 y
      · exact s3 y
      · exact s4 y
end
def plVar (i : Nat) : PLF := fun ρ P => match ρ[i]? with
  | some (some (k, d)) => (match k with
    | .sh => P i .sh d id
    | .ow => P i .ow d id
    | _ => False)
  | _ => False
def plIx (pl : PLF) (f : PF) : PLF := fun ρ P => pl ρ fun i k e rb => f ρ fun y => match e, y.2 with
  | .lst ds, .int j => (match ixN ds.length j with
    | some n => (match ds[n]? with | some c => P i .ow c (fun c' => rb (.lst (ds.set n c'))) | none => False)
    | none => False)
  | .tup ds, .int j => (match ixN ds.length j with
    | some n => (match ds[n]? with | some c => P i .ow c (fun c' => rb (.tup (ds.set n c'))) | none => False)
    | none => False)
  | _, _ => False
section
variable {X : Cx} {pos : Pos}
theorem dpl_var (i : Nat) {x : Str} (hN : X.N[i]? = some x := by rfl) (hv : Vis X.env.scope x := by first | exact Or.inl rfl | exact Or.inr (Or.inl rfl) | exact Or.inr (Or.inr rfl)) (hd : (x == ("__debug__" : Str)) = false := by decide)
    (hcd : (x == ("__classdict__" : Str)) = false := by decide) : DPl X (.Name x pos) (plVar i) := by
  refine ⟨_, pe_var hN hv hd hcd, fun σ H A ρ ow Q P g h q => ?_⟩
  unfold plVar at h
  cases e : ρ[i]? with
  | none => rw [e] at h; exact h.elim
  | some s =>
    rw [e] at h
    cases s with
    | none => exact h.elim
    | some kd =>
      obtain ⟨k, d⟩ := kd
      cases k with
      | sh =>
        obtain ⟨v, hv, p⟩ := PlAt.root (d := d) g e (.inl rfl)
        exact ⟨v, hv, q _ _ _ _ v H h (Same.refl H) p⟩
      | ow =>
        obtain ⟨v, hv, p⟩ := PlAt.root (d := d) g e (.inr rfl)
        exact ⟨v, hv, q _ _ _ _ v H h (Same.refl H) p⟩
      | _ => exact h.elim
theorem dpl_ix {a b : Expr} {pl : PLF} {f : PF} (ha : DPl X a pl) (hb : DP X b f) (hs : PlainIx b := by exact fun _ _ => rfl) : DPl X (.Subscript a b pos) (plIx pl f) := by
  obtain ⟨ta, ea, sa⟩ := ha.run
  obtain ⟨tb, eb, sb⟩ := hb.run
  refine ⟨_, pe_ix ix_seq ea eb hs, fun σ H A ρ ow Q P g h q => ?_⟩
  refine sa σ H A ρ ow _ _ g h fun i k e rb v H1 h1 s1 p1 => ?_
  refine sb σ H1 A ρ ow _ _ (g.same s1) h1 fun y w H2 h2 s2 p2 => ?_
  have p3 := p1.same s2
  obtain ⟨ky, dy⟩ := y
  have ry := p2.ra
  obtain ⟨d, v0, g1, fs, g2, fe, e1, e2, z, hsh, put⟩ := p3
  split at h2
  · rename_i ds j q1
    dsimp only at q1
    subst q1
    obtain rfl : w = .int j := ry
    split at h2
    · rename_i n hn
      split at h2
      · rename_i c hc
        obtain ⟨p, vs, w', fc, ev, hp, hl, hw, z'⟩ := z.step_lst hc
        subst ev
        refine .inl ⟨p, vs, j, w', rfl, rfl, .of hp, ?_, q i .ow c _ w' H2 h2 (s1.trans s2) ⟨d, v0, g1, fs, g2, fc, e1, e2, z', (fun h => nomatch h), put⟩⟩
        unfold L2.atI
        rw [hl, hn]
        exact hw
      · exact h2.elim
    · exact h2.elim
  · rename_i ds j q1
    dsimp only at q1
    subst q1
    obtain rfl : w = .int j := ry
    split at h2
    · rename_i n hn
      split at h2
      · rename_i c hc
        obtain ⟨p, vs, w', fc, ev, hp, hl, hw, z'⟩ := z.step_tup hc
        subst ev
        refine .inr (.inl ⟨p, vs, j, w', rfl, rfl, hp, ?_, q i .ow c _ w' H2 h2 (s1.trans s2) ⟨d, v0, g1, fs, g2, fc, e1, e2, z', (fun h => nomatch h), put⟩⟩)
        unfold L2.atI
        rw [hl, hn]
        exact hw
      · exact h2.elim
    · exact h2.elim
  · exact h2.elim
end
def nk (k z : Kd) : Kd := match k, z with
  | .sh, .fl => .sh
  | _, _ => .ow
def ownK : Kd → Bool
  | .fl => true
  | .sh => true
  | .ow => true
  | _ => false
def stIx (e : D) (y z : KD) (k : Kd) (P : Kd → D → Prop) : Prop := ownK z.1 = true ∧ match e, y.2 with
  | .lst ds, .int j => (match ixN ds.length j with
    | some n => P (nk k z.1) (.lst (ds.set n z.2))
    | none => False)
  | _, _ => False
def sStIx (fe : EF) (pl : PLF) (fi : PF) : SF := fun D ρ => fe ρ (fun z ρ1 => pl ρ1 fun i k e rb => fi ρ1 fun y => stIx e y z k fun k' e' => D.nx (ρ1.set i (some (k', rb e')))) D.ex
section
variable {K : Frg} {A : Addr → Prop} {H : Hp}
theorem VR.rown {z : KD} {v : V} {f : List Addr} (h : VR K A H z v f) (hk : ownK z.1 = true) : R K No H z.2 v f := by
  obtain ⟨k, d⟩ := z
  cases k with
  | fl => exact h.r (.inl rfl)
  | sh => exact h.r (.inr (.inl rfl))
  | ow => exact h.r (.inr (.inr rfl))
  | _ => cases hk
theorem KeepF.upd {p : Addr} {o : HO} {fp : List Addr} {B : Addr → Prop} (hp : p ∉ fp) (hB : ¬ B p) (hi : ∀ u, H p = some u → ¬ Imm u) : KeepF B fp H (upd H p o) := fun a u e h => by
  rw [upd_ne]
  · exact e
  · intro z
    subst z
    rcases h with h | h | h
    · exact hp h
    · exact hB h
    · exact hi u e h
theorem ixN_lt {n : Nat} {j : Int} {m : Nat} (h : ixN n j = some m) : m < n := (ixN_seq h).2.1
theorem list_set {ds : List D} {w : V} {fe fa : List Addr} {n : Nat} {z : D} {zv : V} (r : R K No H (.lst ds) w fe) (rz : R K No H z zv fa) (nd : (fa ++ fe).Nodup) (hn : n < ds.length) :
    ∃ p vs fe', w = .ref p ∧ H p = some (.lst vs) ∧ vs.length = ds.length ∧ p ∈ fe ∧ R K No (upd H p (.lst (vs.set n zv))) (.lst (ds.set n z)) w fe' ∧ fe'.Nodup ∧ (∀ a ∈ fe', a ∈ fe ∨ a ∈ fa) := by
  obtain ⟨p, vs, fps, rfl, rfl, hp, rs⟩ := r
  have hd : ds[n]? = some ds[n] := List.getElem?_eq_getElem hn
  obtain ⟨w0, h1, ho, h3, hw, e3, r1, r2, r3⟩ := Rs.split rs hd
  subst e3
  obtain ⟨n1, n2, n3⟩ := List.nodup_append.mp nd
  obtain ⟨m1, m2⟩ := List.nodup_cons.mp n2
  have nf : p ∉ fa := fun q => n3 p q p (by simp) rfl
  have mu : ∀ u, H p = some u → ¬ Imm u := fun u e => by rw [hp] at e; cases e; exact fun z => z
  have np : p ∉ h1 ∧ p ∉ ho ∧ p ∉ h3 := by
    simp only [List.mem_append, not_or] at m1
    exact m1
  refine ⟨p, vs, p :: (h1 ++ (fa ++ h3)), rfl, hp, rs.len, by simp, ⟨p, vs.set n zv, _, rfl, rfl, upd_same, Rs.put hd hw (Rs.keep _ _ _ (KeepF.upd np.1 (fun z => z) mu) r1) (R.keep _ _ _ (KeepF.upd nf (fun z => z) mu) rz) (Rs.keep _ _ _ (KeepF.upd np.2.2 (fun z => z) mu) r3)⟩, ?_, fun a h => ?_⟩
  · obtain ⟨k1, k2, k3⟩ := List.nodup_append.mp m2
    obtain ⟨l1, l2, l3⟩ := List.nodup_append.mp k2
    refine List.nodup_cons.mpr ⟨by simp [np.1, nf, np.2.2], List.nodup_append.mpr ⟨k1, List.nodup_append.mpr ⟨n1, l2, fun a ha b hb => n3 a ha b (by simp [hb])⟩, fun a ha b hb e => ?_⟩⟩
    subst e
    rcases List.mem_append.mp hb with hb | hb
    · exact n3 a hb a (by simp [ha]) rfl
    · exact k3 a ha a (by simp [hb]) rfl
  · simp only [List.mem_cons, List.mem_append] at h ⊢
    rcases h with h | h | h | h <;> simp [h]
theorem shal_set {ds : List D} {p : Addr} {vs : List V} {n : Nat} {z : D} {zv : V} (h : Shal K H (.lst ds) (.ref p)) (hp : H p = some (.lst vs)) (rz : RA K No H z zv) : Shal K (upd H p (.lst (vs.set n zv))) (.lst (ds.set n z)) (.ref p) := by
  obtain ⟨p', vs', e, hp', r⟩ := h
  cases e
  rw [hp] at hp'; cases hp'
  refine ⟨p, _, rfl, upd_same, RAs.keep (fun a u e h => ?_) _ _ (r.set rz)⟩
  rw [upd_ne]
  · exact e
  · intro z
    subst z
    rcases h with h | h
    · exact h
    · rw [hp] at e; cases e; exact h
end
section
variable {X : Cx} {E : XK} {pr : List Nat} {pos : Pos}
theorem ds_stIx {o ix e : Expr} {p2 : Pos} {fe : EF} {pl : PLF} {fi : PF} (he : DE X E e fe) (ho : DPl X o pl) (hi : DP X ix fi) (hs : swapsWithSole [.Subscript o ix p2] e pos.line X.env = pure false := by rfl) (hw : swappedStores [.Subscript o ix p2] e X.env = pure none := by rfl)
    (h1 : (assignEach [.Subscript o ix p2] X.env).map (·.2) = [assign (.Subscript o ix p2) X.env] := by rfl) (hg : ∀ v, assign (.Subscript o ix p2) X.env v = (do
      let ov ← holding [v] (eval o X.env)
      let iv ← holding [v, ov] (eval ix X.env)
      standAt p2
      holding [v, ov, iv] (setItem ov iv v)
      release [v, ov, iv] []) := by intro _; rfl) : DS X E pr (.Assign [.Subscript o ix p2] e pos) (sStIx fe pl fi) := by
  obtain ⟨te, ee, se⟩ := he.run
  obtain ⟨to, eo, so⟩ := ho.run
  obtain ⟨ti, ei, si⟩ := hi.run
  refine ⟨_, ps_asg ee (pg_sub eo ei set_list hg) hs hw h1, fun σ H A ρ ow T D gd h nx rt ex => ?_⟩
  refine se σ H A ρ ow _ _ _ gd h (fun z ρ1 v H1 fp ow1 A1 h1 st1 g1 o1 => ?_) fun C ρ1 H1 ow1 A1 h1 st1 g1 => ex C ρ1 σ H1 ow1 A1 h1 st1 g1 fun _ _ => rfl
  refine so σ H1 A1 ρ1 ow1 _ _ g1 h1 fun i k e rb w H2 h2 s2 p2 => ?_
  refine si σ H2 A1 ρ1 ow1 _ _ (g1.same s2) h2 fun y yv H3 h3 s3 p3 => ?_
  have s := s2.trans s3
  obtain ⟨hk, h3⟩ := h3
  split at h3
  · rename_i ds j q1
    obtain ⟨ky, dy⟩ := y
    dsimp only at q1
    subst q1
    obtain rfl : yv = .int j := p3.ra
    split at h3
    · rename_i n hn
      have o3 : VR X.K A1 H3 z v fp := o1.rep.same s
      obtain ⟨fe0, r, nd, _, hsh, mtt⟩ := (p2.same s3).mut (g1.same s) o1.nd o1.dis
      obtain ⟨p, vs, fe', ew, hp, hl, hpf, r', nd', sub⟩ := list_set r (o3.rown hk) nd (ixN_lt hn)
      subst ew
      have hk' : nk k z.1 = .ow ∨ (nk k z.1 = .sh ∧ k = .sh ∧ Shal X.K (upd H3 p (.lst (vs.set n v))) (.lst (ds.set n z.2)) (.ref p)) := by
        obtain ⟨kz, dz⟩ := z
        cases k <;> cases kz <;> first
          | exact .inl rfl
          | exact .inr ⟨rfl, rfl, shal_set (hsh rfl) hp o3.2⟩
      obtain ⟨ow', st', g', _⟩ := mtt (.lst (ds.set n z.2)) (nk k z.1) [] (.fl, .non) .non _ fe' (fun a o e n => by rw [upd_ne (fun z => n (by rw [z]; exact hpf))]; exact e) r' hk' ⟨rfl, rfl⟩ nd' fun a h => (sub a (by simpa using h)).elim .inl fun z => .inr (.inl z)
      refine ⟨p, vs, j, n, rfl, rfl, hp, by rw [hl]; exact hn, ?_⟩
      refine nx _ σ _ ow' A1 h3 ?_ g' fun _ _ => rfl
      have stA : Stp H ow A H3 (fp ++ ow1) A1 := (st1.trans (Stp.of_same s))
      exact stA.trans (st'.sub fun a h => by simp [h])
    · exact h3.elim
  · exact h3.elim
end

abbrev MOF := Kd → D → List KD → (KD → Kd → D → Prop) → Prop
def MSound (K : Frg) (r : V → List V → Hp → VK → Prop) (op : MOF) : Prop := ∀ (H : Hp) (A : Addr → Prop) (w : V) (vs : List V) (zs : List KD) (k : Kd) (e : D) (fe fa : List Addr) (P : KD → Kd → D → Prop) (Q : VK), R K No H e w fe → (k = .sh → Shal K H e w) → VRs K A H zs vs fa → (fa ++ fe).Nodup → op k e zs P →
  (∀ z k' e' v H' fz fe', P z k' e' → ownK z.1 = true → (∀ a o, H a = some o → a ∉ fe → H' a = some o) → R K No H' e' w fe' → (k' = .ow ∨ (k' = .sh ∧ k = .sh ∧ Shal K H' e' w)) → VR K A H' z v fz → (fz ++ fe').Nodup → (∀ a ∈ fz ++ fe', a ∈ fe ∨ a ∈ fa ∨ H a = none) → Q v H') → r w vs H Q
def mAppend : MOF := fun k e zs P => match e, zs with
  | .lst ds, [z] => ownK z.1 = true ∧ ds.length < 10000000 ∧ P (.fl, .non) (nk k z.1) (.lst (ds ++ [z.2]))
  | _, _ => False
def mPop : MOF := fun k e zs P => match e, zs with
  | .lst ds, [] => (match ds.getLast? with
    | some d => P (kmv (if k = .sh then .fl else .ow) d) (nk k .fl) (.lst ds.dropLast)
    | none => False)
  | _, _ => False
def mPopAt : MOF := fun k e zs P => match e, zs with
  | .lst ds, [(_, .int j)] => (match ixN ds.length j with
    | some n => (match ds[n]? with
      | some d => P (kmv (if k = .sh then .fl else .ow) d) (nk k .fl) (.lst (ds.eraseIdx n))
      | none => False)
    | none => False)
  | _, _ => False
def mExtend : MOF := fun k e zs P => match e, zs with
  | .lst ds, [(kz, .lst es)] => (kz = .sh ∨ kz = .sa ∨ kz = .ow) ∧ ds.length + es.length ≤ 10000000 ∧ P (.fl, .non) (nk k (if kz = .ow then .ow else .fl)) (.lst (ds ++ es))
  | _, _ => False
end DL

namespace DL
open PySem PySem.Spec PyProof.Rows L2
section
variable {K : Frg} {A : Addr → Prop} {H : Hp}
theorem lst_mu {p : Addr} {vs : List V} (hp : H p = some (.lst vs)) : ∀ u, H p = some u → ¬ Imm u := fun u e => by rw [hp] at e; cases e; exact fun z => z
theorem upd_out {p : Addr} {o : HO} {fe : List Addr} (hp : p ∈ fe) : ∀ a u, H a = some u → a ∉ fe → (upd H p o) a = some u := fun a u e n => by
  rw [upd_ne (fun z => n (by rw [z]; exact hp))]
  exact e
theorem keep_upd {p : Addr} {vs : List V} {o : HO} (hp : H p = some (.lst vs)) : Keep No H (upd H p o) := fun a u e h => by
  rw [upd_ne]
  · exact e
  · intro z
    subst z
    rcases h with h | h
    · exact h
    · rw [hp] at e; cases e; exact h
theorem shal_upd {p : Addr} {vs ws : List V} {ds : List D} (hp : H p = some (.lst vs)) (r : RAs K No H ds ws) : Shal K (upd H p (.lst ws)) (.lst ds) (.ref p) := ⟨p, ws, rfl, upd_same, RAs.keep (keep_upd hp) _ _ r⟩
theorem shal_at {p : Addr} {vs : List V} {ds : List D} (h : Shal K H (.lst ds) (.ref p)) (hp : H p = some (.lst vs)) : RAs K No H ds vs := by
  obtain ⟨p', vs', e, hp', r⟩ := h
  cases e
  rw [hp] at hp'; cases hp'
  exact r
theorem nk_cases (k z : Kd) : nk k z = .ow ∨ (nk k z = .sh ∧ k = .sh ∧ z = .fl) := by cases k <;> cases z <;> first | exact .inl rfl | exact .inr ⟨rfl, rfl, rfl⟩
theorem kmv_own (k : Kd) (d : D) : ownK (kmv (if k = .sh then .fl else .ow) d).1 = true := by
  by_cases h : k = .sh
  · rw [if_pos h]; cases d <;> rfl
  · rw [if_neg h]; cases d <;> rfl
theorem ms_append : MSound K rAppend mAppend := by
  intro H A w vs zs k e fe fa P Q r hsh rz nd h q
  unfold mAppend at h
  split at h
  · rename_i ds z
    obtain ⟨hk, hl, hP⟩ := h
    obtain ⟨p, xs, fps, rfl, rfl, hp, rs⟩ := r
    obtain ⟨y, ws, f1, f2, rfl, rfl, hz, e3, e4⟩ := rz
    subst e3 e4
    rw [List.append_nil] at nd
    obtain ⟨n1, n2, n3⟩ := List.nodup_append.mp nd
    obtain ⟨m1, m2⟩ := List.nodup_cons.mp n2
    have nf : p ∉ f1 := fun z => n3 p z p (by simp) rfl
    refine ⟨p, xs, y, rfl, rfl, hp, by rw [rs.len, sizeLine_eq]; omega, ?_⟩
    refine q _ _ _ .non _ [] (p :: (fps ++ f1)) hP rfl (upd_out (by simp)) ⟨p, _, _, rfl, rfl, upd_same, (Rs.keep _ _ _ (KeepF.upd m1 (fun z => z) (lst_mu hp)) rs).append (.one (R.keep _ _ _ (KeepF.upd nf (fun z => z) (lst_mu hp)) (hz.rown hk)))⟩ ?_ ⟨rfl, rfl⟩ ?_ fun a h => ?_
    · rcases nk_cases k z.1 with e | ⟨e1, e2, e3⟩
      · exact .inl e
      · obtain ⟨kz, dz⟩ := z
        dsimp only at e3
        subst e3
        exact .inr ⟨e1, e2, shal_upd hp ((shal_at (hsh e2) hp).append (.one hz.2))⟩
    · refine List.nodup_cons.mpr ⟨by simp [m1, nf], List.nodup_append.mpr ⟨m2, n1, fun a ha b hb e => n3 b hb a (by simp [ha]) e.symm⟩⟩
    · simp only [List.nil_append, List.append_nil, List.mem_cons, List.mem_append] at h ⊢
      rcases h with h | h | h <;> simp [h]
  · exact h.elim
theorem take_out {ds : List D} {p : Addr} {xs : List V} {fps : List Addr} {k : Kd} {n : Nat} {d : D} (hp : H p = some (.lst xs)) (rs : Rs K No H ds xs fps) (nd : (p :: fps).Nodup) (hsh : k = .sh → Shal K H (.lst ds) (.ref p)) (hk : k = .sh ∨ k = .ow) (hd : ds[n]? = some d) :
    ∃ y fz fps', xs[n]? = some y ∧ VR K A (upd H p (.lst (xs.eraseIdx n))) (kmv (if k = .sh then .fl else .ow) d) y fz ∧ R K No (upd H p (.lst (xs.eraseIdx n))) (.lst (ds.eraseIdx n)) (.ref p) (p :: fps') ∧
      (nk k .fl = .ow ∨ (nk k .fl = .sh ∧ k = .sh ∧ Shal K (upd H p (.lst (xs.eraseIdx n))) (.lst (ds.eraseIdx n)) (.ref p))) ∧ (fz ++ (p :: fps')).Nodup ∧ ∀ a ∈ fz ++ (p :: fps'), a ∈ p :: fps := by
  obtain ⟨y, f1, f2, f3, hy, e, r1, r2, r3⟩ := Rs.split rs hd
  subst e
  obtain ⟨m1, m2⟩ := List.nodup_cons.mp nd
  simp only [List.mem_append, not_or] at m1
  have kp : ∀ {f : List Addr}, p ∉ f → KeepF No f H (upd H p (.lst (xs.eraseIdx n))) := fun h => KeepF.upd h (fun z => z) (lst_mu hp)
  obtain ⟨k1, k2, k3⟩ := List.nodup_append.mp m2
  obtain ⟨l1, l2, l3⟩ := List.nodup_append.mp k2
  refine ⟨y, f2, f1 ++ f3, hy, ?_, ⟨p, _, _, rfl, rfl, upd_same, ?_⟩, ?_, ?_, fun a h => ?_⟩
  · rcases hk with rfl | rfl
    · obtain ⟨y', hy', ry⟩ := (shal_at (hsh rfl) hp).get hd
      rw [hy] at hy'; cases hy'
      have e2 : f2 = [] := R.nil0 _ _ _ ry r2
      subst e2
      exact (RA.keep (keep_upd hp) _ _ ry).kmv0
    · exact (R.keep _ _ _ (kp m1.2.1) r2).kmv
  · rw [List.eraseIdx_eq_take_drop_succ, List.eraseIdx_eq_take_drop_succ]
    have q1 := Rs.keep _ _ _ (kp m1.1) r1
    have q3 := Rs.keep _ _ _ (kp m1.2.2) r3
    rw [List.eraseIdx_eq_take_drop_succ] at q1 q3
    exact q1.append q3
  · rcases nk_cases k .fl with e | ⟨e1, e2, e3⟩
    · exact .inl e
    · exact .inr ⟨e1, e2, shal_upd hp ((shal_at (hsh e2) hp).eraseIdx n)⟩
  · refine List.nodup_append.mpr ⟨l1, List.nodup_cons.mpr ⟨by simp [m1.1, m1.2.2], List.nodup_append.mpr ⟨k1, l2, fun a ha b hb => k3 a ha b (by simp [hb])⟩⟩, fun a ha b hb e => ?_⟩
    subst e
    rcases List.mem_cons.mp hb with hb | hb
    · rw [hb] at ha; exact m1.2.1 ha
    · rcases List.mem_append.mp hb with hb | hb
      · exact k3 a hb a (by simp [ha]) rfl
      · exact l3 a ha a hb rfl
  · simp only [List.mem_append, List.mem_cons] at h ⊢
    rcases h with h | h | h | h <;> simp [h]
theorem ms_popAt : MSound K rPopAt (fun k e zs P => (k = .sh ∨ k = .ow) ∧ (match e with | .lst ds => ds.length ≤ 10000000 | _ => False) ∧ mPopAt k e zs P) := by
  intro H A w vs zs k e fe fa P Q r hsh rz nd h q
  obtain ⟨hk, hl, h⟩ := h
  unfold mPopAt at h
  split at h
  · rename_i ds _ j
    split at h
    · rename_i n hn
      split at h
      · rename_i d hd
        obtain ⟨p, xs, fps, rfl, rfl, hp, rs⟩ := r
        obtain ⟨y, ws, f1, f2, rfl, rfl, hz, e3, e4⟩ := rz
        subst e3 e4
        have hy : y = .int j := hz.ra (B := fun _ => True) (fun _ _ => trivial) (fun _ _ => trivial)
        subst hy
        obtain ⟨n1, n2, n3⟩ := List.nodup_append.mp nd
        obtain ⟨y, fz, fps', hy, v1, r1, s1, nd1, sub⟩ := take_out (A := A) hp rs n2 hsh hk hd
        obtain ⟨q1, q2, q3, q4⟩ := ixN_seq hn
        have hl' : ds.length ≤ 10000000 := hl
        refine ⟨p, xs, j, n, y, rfl, rfl, hp, by omega, by omega, by rw [rs.len]; exact q1, hy, ?_⟩
        exact q _ _ _ y _ fz _ h (kmv_own k d) (upd_out (by simp)) r1 s1 v1 nd1 fun a h => .inl (sub a h)
      · exact h.elim
    · exact h.elim
  · exact h.elim
theorem eraseIdx_last {α : Type} (l : List α) : l.eraseIdx (l.length - 1) = l.dropLast := by
  rw [List.eraseIdx_eq_take_drop_succ, List.dropLast_eq_take]
  cases l with
  | nil => rfl
  | cons a r => simp
theorem ms_pop : MSound K rPop (fun k e zs P => (k = .sh ∨ k = .ow) ∧ mPop k e zs P) := by
  intro H A w vs zs k e fe fa P Q r hsh rz nd h q
  obtain ⟨hk, h⟩ := h
  unfold mPop at h
  split at h
  · rename_i ds
    split at h
    · rename_i d hd
      obtain ⟨p, xs, fps, rfl, rfl, hp, rs⟩ := r
      obtain ⟨e3, e4⟩ := rz
      subst e3 e4
      rw [List.getLast?_eq_getElem?] at hd
      rw [List.nil_append] at nd
      obtain ⟨y, fz, fps', hy, v1, r1, s1, nd1, sub⟩ := take_out (A := A) hp rs nd hsh hk hd
      rw [eraseIdx_last] at r1 s1
      rw [← rs.len, eraseIdx_last] at r1 s1 v1
      refine ⟨p, xs, y, rfl, rfl, hp, by rw [rs.len]; exact hy, ?_⟩
      exact q _ _ _ y _ fz _ h (kmv_own k d) (upd_out (by simp)) r1 s1 v1 nd1 fun a h => .inl (sub a h)
    · exact h.elim
  · exact h.elim
def mRemove : MOF := fun k e zs P => match e, zs with
  | .lst ds, [(_, .int x)] => ∃ (ns : List Int) (j : Nat), ds = ns.map .int ∧ ns[j]? = some x ∧ (∀ m : Nat, m < j → ns[m]? ≠ some x) ∧ P (.fl, .non) (nk k .fl) (.lst ((ns.eraseIdx j).map .int))
  | _, _ => False
theorem RAs.ints : ∀ {ns : List Int} {vs : List V}, RAs K A H (ns.map .int) vs → vs = ns.map V.int
  | [], _, h => h
  | n :: ns, _, ⟨w, ws, e, h, t⟩ => by
    subst e
    rw [show w = V.int n from h, RAs.ints t]
    rfl
theorem Rs.ints : ∀ {ns : List Int} {vs : List V} {f : List Addr}, Rs K A H (ns.map .int) vs f → vs = ns.map V.int ∧ f = []
  | [], _, _, h => h
  | n :: ns, _, _, ⟨w, ws, f1, f2, e, e2, h, t⟩ => by
    obtain ⟨a, b⟩ := Rs.ints t
    subst e e2 a b
    rw [h.1, show w = V.int n from h.2]
    exact ⟨rfl, rfl⟩
theorem RAs.of_ints : ∀ (ns : List Int), RAs K A H (ns.map .int) (ns.map V.int)
  | [] => .nil
  | n :: ns => .cons rfl (RAs.of_ints ns)
end
def isL : D → Bool
  | .lst _ => true
  | _ => false
def eMthR (op : MOF) (i : Nat) (g : AEF) : EF := fun ρ P PX => (match ρ[i]? with | some (some (_, .lst _)) => True | _ => False) ∧ g ρ (fun avs ρ1 => match valsOf avs with
  | some zs => (match ρ1[i]? with
    | some (some (.sh, d)) => op .sh d zs fun z k' e' => P z (ρ1.set i (some (k', e')))
    | some (some (.ow, d)) => op .ow d zs fun z k' e' => P z (ρ1.set i (some (k', e')))
    | _ => False)
  | none => False) PX
def eMthP (op : MOF) (pl : PLF) (g : PAF) : EF := fun ρ P _ => pl ρ fun i k e rb => isL e = true ∧ g ρ fun zs => op k e zs fun z k' e' => P z (ρ.set i (some (k', rb e')))
section
variable {X : Cx} {E : XK} {o e : Expr} {es : List Expr} {n : Nat} {name : Str} {apos cpos : Pos} {id : String} {r : V → List V → Hp → VK → Prop} {op : MOF}
theorem tyL {K : Frg} {H : Hp} {d : D} {v : V} {f : List Addr} (h : R K No H d v f) (e : isL d = true) : tyV K "list" v H := by
  cases d <;> first
    | (cases e; done)
    | (obtain ⟨p, vs, _, e1, _, hp, _⟩ := h; rw [e1]; exact .inl ⟨rfl, _, .of hp⟩)
theorem VR.own_any {K : Frg} {A B : Addr → Prop} {H : Hp} {z : KD} {v : V} {f : List Addr} (h : VR K A H z v f) (e : ownK z.1 = true) : VR K B H z v f := by
  obtain ⟨k, d⟩ := z
  cases k <;> first
    | exact h
    | cases e
theorem mth_fin {K : Frg} {A A0 B : Addr → Prop} {H H0 : Hp} {ρ : Ro} {σ : L2.St} {ow ow0 fp : List Addr} {i : Nat} {k : Kd} {d : D} {rb : D → D} {w : V} {vs : List V} {zs : List KD} {P : KD → Ro → Prop} {Q : VK} (hm : MSound K r op) (st : Stp H0 ow0 A0 H (fp ++ ow) A) (g : Good K A H ρ σ ow) (pl : PlAt K A H ρ σ ow i k d rb w)
    (rz : VRs K B H zs vs fp) (nd : (fp ++ ow).Nodup) (dis : ∀ a ∈ fp, ¬ A a) (h : op k d zs fun z k' e' => P z (ρ.set i (some (k', rb e'))))
    (q : ∀ z ρ' v H' fp ow' A', P z ρ' → Stp H0 ow0 A0 H' (fp ++ ow') A' → Good K A' H' ρ' σ ow' → Own K A' H' z v fp ow' → Q v H') : r w vs H Q := by
  obtain ⟨fe, re, nde, _, hsh, mtt⟩ := pl.mut g nd dis
  refine hm H B w vs zs k d fe fp _ Q re hsh rz nde h fun z k' e' v H' fz fe' hP ho hk r' hk' vz ndz sub => ?_
  obtain ⟨ow', st', g', o'⟩ := mtt e' k' fz z v H' fe' hk r' hk' (vz.own_any ho) ndz sub
  exact q z _ v H' fz ow' A hP (st.trans st') g' o'
variable {g : AEF}
theorem es_mthR {K : Frg} {i : Nat} {t : TA} (hm : MSound K r op) (s : AESound K E n t g) : ESound K E (tBM K "list" r (tVar i) t) (eMthR op i g) := by
  intro σ H A ρ ow Q P PX gd h q qx
  obtain ⟨h0, h⟩ := h
  split at h0
  · rename_i k ds e0
    obtain ⟨v, f, hv, rv, _, sub⟩ := gd.slot e0
    refine ⟨v, hv, ?_, ?_⟩
    · have ra : RA K (fun _ => True) H (.lst ds) v := rv.ra (fun _ _ => trivial) (fun _ _ => trivial)
      obtain ⟨p, vs, ev, _, hp, _⟩ := ra
      rw [ev]
      exact .inl ⟨rfl, _, .of hp⟩
    · refine s σ H A ρ ow _ _ _ gd h (fun avs ρ1 vs H1 fp ow1 A1 hn h1 st1 g1 rr nd dis => ?_) qx
      split at h1
      · rename_i zs ez
        split at h1
        · rename_i d e1
          obtain ⟨v', hv', pl⟩ := PlAt.root (d := d) g1 e1 (.inl rfl)
          rw [hv] at hv'
          cases hv'
          exact mth_fin hm st1 g1 pl (rr.vals ez) nd dis h1 q
        · rename_i d e1
          obtain ⟨v', hv', pl⟩ := PlAt.root (d := d) g1 e1 (.inr rfl)
          rw [hv] at hv'
          cases hv'
          exact mth_fin hm st1 g1 pl (rr.vals ez) nd dis h1 q
        · exact h1.elim
      · exact h1.elim
  · exact h0.elim
theorem es_mthP {K : Frg} {to : TE} {t : TA} {pl : PLF} {gp : PAF} (hm : MSound K r op) (so : PLSound K to pl) (s : ASound K n t gp) : ESound K E (tBM K "list" r to t) (eMthP op pl gp) := by
  intro σ H A ρ ow Q P PX gd h q qx
  refine so σ H A ρ ow _ _ gd h fun i k e rb w H1 h1 s1 p1 => ?_
  obtain ⟨hl, h1⟩ := h1
  refine ⟨?_, ?_⟩
  · obtain ⟨d, v0, g1, fs, g2, fe, _, _, ⟨_, _, _, re, _⟩, _⟩ := p1
    exact tyL re hl
  · refine s σ H1 A ρ ow _ _ (gd.same s1) h1 fun zs vs H2 hn h2 s2 pr => ?_
    obtain ⟨fp, rz, nd, hF⟩ := pr
    have s12 := s1.trans s2
    refine mth_fin hm (ow0 := ow) (A0 := A) (H0 := H) ⟨fun a o e _ => s12 a o e, fun a h => ?_, fun _ h => h, fun _ h => .inl h⟩ (gd.same s12) (p1.same s2) rz (List.nodup_append.mpr ⟨nd, gd.nd, fun a ha b hb e => ?_⟩) (fun a h z => ?_) h2 q
    · rcases List.mem_append.mp h with h | h
      · exact .inr (s1.free (hF a h))
      · exact .inl h
    · subst e
      obtain ⟨o, e, _⟩ := gd.rep.mu a hb
      rw [s1.free (hF a ha)] at e; cases e
    · obtain ⟨o, e⟩ := gd.tr a z
      rw [s1.free (hF a h)] at e; cases e
section
variable {g : AEF} {gp : PAF} {pl : PLF}
theorem de_mthR (pa : PlainAttrs "list") (slot : PySem.Slot "list" name id) (hty : typeOf (.builtin id) = pure (.type "method_descriptor")) (hm : MtM X id r) (hs : MSound X.K r op) (i : Nat) {x : Str} {px : Pos} (ha : DAE X E (e :: es) n g)
    (hN : X.N[i]? = some x := by rfl) (hv : Vis X.env.scope x := by first | exact Or.inl rfl | exact Or.inr (Or.inl rfl) | exact Or.inr (Or.inr rfl)) (hd : (x == ("__debug__" : Str)) = false := by decide) (hcd : (x == ("__classdict__" : Str)) = false := by decide)
    (hbase : attributeBase (.Name x px) name X.env (eval (.Name x px) X.env) = eval (.Name x px) X.env := by rfl)
    (hfew : ((backTo cpos (starEach (e :: es) X.env)).all (fun x => !x.1) && (backToKw cpos (keywordEach [] X.env)).all (fun x => x.1.isSome)
      && decide ((e :: es).length + ([] : List Keyword).length + (if ([] : List Keyword).isEmpty then 0 else 1) < 30)) = true := by rfl)
    (hline : (apos.endLine == cpos.line) = true := by rfl) (hst : starEach (e :: es) X.env = (false, eval e X.env) :: starEach es X.env := by rfl) (hplain : (backTo cpos (starEach es X.env)).any (·.1) = false := by rfl) :
    DE X E (.Call (.Attribute (.Name x px) name apos) (e :: es) [] cpos) (eMthR op i g) := by
  obtain ⟨t, ea, sa⟩ := ha.run
  exact ⟨_, pe_bm pa slot hty hm (pe_var hN hv hd hcd) ea hbase hfew hline hst hplain, es_mthR hs sa⟩
theorem de_mthP (pa : PlainAttrs "list") (slot : PySem.Slot "list" name id) (hty : typeOf (.builtin id) = pure (.type "method_descriptor")) (hm : MtM X id r) (hs : MSound X.K r op) (ho : DPl X o pl) (ha : DA X (e :: es) n gp)
    (hbase : attributeBase o name X.env (eval o X.env) = eval o X.env := by rfl)
    (hfew : ((backTo cpos (starEach (e :: es) X.env)).all (fun x => !x.1) && (backToKw cpos (keywordEach [] X.env)).all (fun x => x.1.isSome)
      && decide ((e :: es).length + ([] : List Keyword).length + (if ([] : List Keyword).isEmpty then 0 else 1) < 30)) = true := by rfl)
    (hline : (apos.endLine == cpos.line) = true := by rfl) (hst : starEach (e :: es) X.env = (false, eval e X.env) :: starEach es X.env := by rfl) (hplain : (backTo cpos (starEach es X.env)).any (·.1) = false := by rfl) :
    DE X E (.Call (.Attribute o name apos) (e :: es) [] cpos) (eMthP op pl gp) := by
  obtain ⟨t, ea, sa⟩ := ha.run
  obtain ⟨to, eo, so⟩ := ho.run
  exact ⟨_, pe_bm pa slot hty hm eo ea hbase hfew hline hst hplain, es_mthP hs so sa⟩
theorem de_mth0 (pa : PlainAttrs "list") (slot : PySem.Slot "list" name id) (hty : typeOf (.builtin id) = pure (.type "method_descriptor")) (hm : MtM X id r) (hs : MSound X.K r op) (ho : DPl X o pl)
    (hbase : attributeBase o name X.env (eval o X.env) = eval o X.env := by rfl) (hline : (apos.endLine == cpos.line) = true := by rfl) :
    DE X E (.Call (.Attribute o name apos) [] [] cpos) (eMthP op pl fun _ P => P []) := by
  obtain ⟨to, eo, so⟩ := ho.run
  refine ⟨_, pe_bm0 pa slot hty hm eo hbase hline, ?_⟩
  have s0 : ASound X.K 0 tNil (fun _ P => P []) := fun σ H A ρ ow Q P g h q => q [] [] H rfl h (Same.refl H) .nil
  intro σ H A ρ ow Q P PX gd h q qx
  exact es_mthP (E := E) hs so s0 σ H A ρ ow Q P PX gd h q qx
end
end
end DL

namespace DL
open PySem PySem.Spec PyProof.Rows L2
def tE (K : Frg) (f : EF) : TE := fun σ H Q => ∃ A ρ ow P, Good K A H ρ σ ow ∧ f ρ P (fun _ _ => False) ∧ ∀ z ρ' v H' fp ow' A', P z ρ' → Stp H ow A H' (fp ++ ow') A' → Good K A' H' ρ' σ ow' → Own K A' H' z v fp ow' → Q v H'
theorem DE.can {X : Cx} {E : XK} {e : Expr} {f : EF} (h : DE X E e f) : PE X e (tE X.K f) := by
  obtain ⟨t, pe, s⟩ := h.run
  refine ⟨fun pins st σ H Q I hq => ?_⟩
  obtain ⟨A, ρ, ow, P, g, hf, q⟩ := hq
  exact pe.run pins st σ H Q I (s σ H A ρ ow Q P _ g hf q fun _ _ _ _ _ h => h.elim)
def compE (step : KD → Ro → (Option KD → Ro → Prop) → Prop) : List KD → Ro → List KD → (List KD → Ro → Prop) → Prop
  | [], ρ, acc, P => P acc ρ
  | z :: zs, ρ, acc, P => step z ρ fun r ρ' => match r with
    | some y => compE step zs ρ' (acc ++ [y]) P
    | none => compE step zs ρ' acc P
def stepE (is : List Nat) (g : GF) (tt : PTF) (fe : EF) : KD → Ro → (Option KD → Ro → Prop) → Prop := fun z ρ Q => g z ρ fun ρ1 => tt ρ1 fun b => if b = true then fe ρ1 (fun y ρ2 => Q (some y) (wipeR ρ2 is)) (fun _ _ => False) else Q none (wipeR ρ1 is)
def eLc (src : IF) (is : List Nat) (g : GF) (tt : PTF) (fe : EF) : EF := fun ρ P _ => src (rdOnly ρ) fun zs => zs.length ≤ 10000000 ∧ compE (stepE is g tt fe) zs (wipeR ρ is) [] fun ys ρ' => P (jL ys, .lst (ys.map (·.2))) ρ'
section
variable {K : Frg} {A : Addr → Prop} {H : Hp} {σ τ : L2.St}
theorem RepS.congr : ∀ {ρ : Ro} {σ τ : L2.St} {ow : List Addr}, RepS K A H ρ τ ow → σ.length = τ.length → (∀ (i : Nat) kd, ρ[i]? = some (some kd) → σ[i]? = τ[i]?) → RepS K A H ρ σ ow
  | [], σ, τ, ow, h, hl, _ => by
    obtain ⟨e1, e2⟩ := h
    subst e1
    exact ⟨List.eq_nil_of_length_eq_zero hl, e2⟩
  | s :: ρ, [], τ, ow, ⟨x, τ', f, g, e, e2, h, r⟩, hl, hs => by subst e; cases hl
  | s :: ρ, y :: σ, τ, ow, ⟨x, τ', f, g, e, e2, h, r⟩, hl, hs => by
    subst e e2
    refine ⟨y, σ, f, g, rfl, rfl, ?_, RepS.congr r (by simpa using hl) fun i kd hi => by simpa using hs (i + 1) kd (by simpa using hi)⟩
    cases s with
    | none => exact h
    | some kd =>
      have : y = x := by simpa using hs 0 kd rfl
      rw [this]; exact h
theorem wipeR_get (ρ : Ro) (j : Nat) : ∀ vs : List Nat, (wipeR ρ vs)[j]? = if j ∈ vs ∧ j < ρ.length then some none else ρ[j]?
  | [] => by simp [wipeR]
  | v :: vs => by
    have hl : (wipeR ρ vs).length = ρ.length := by
      have : ∀ is : List Nat, (wipeR ρ is).length = ρ.length := by
        intro is
        induction is with
        | nil => rfl
        | cons a r ih => show ((wipeR ρ r).set a none).length = _; rw [List.length_set, ih]
      exact this vs
    show ((wipeR ρ vs).set v none)[j]? = _
    by_cases hv : v = j
    · subst hv
      by_cases hl' : v < ρ.length
      · rw [List.getElem?_set_self (by rw [hl]; exact hl'), if_pos ⟨List.mem_cons_self, hl'⟩]
      · rw [List.set_eq_of_length_le (by rw [hl]; omega), wipeR_get ρ v vs, if_neg (fun z => hl' z.2), if_neg (fun z => hl' z.2)]
    · rw [List.getElem?_set_ne hv, wipeR_get ρ j vs]
      have : j ∈ v :: vs ↔ j ∈ vs := by simp [Ne.symm hv]
      simp only [this]
theorem wipeR_len (ρ : Ro) : ∀ is : List Nat, (wipeR ρ is).length = ρ.length
  | [] => rfl
  | a :: r => by show ((wipeR ρ r).set a none).length = _; rw [List.length_set, wipeR_len ρ r]
theorem wipeR_idem (ρ : Ro) (vs : List Nat) : wipeR (wipeR ρ vs) vs = wipeR ρ vs := by
  apply List.ext_getElem?
  intro j
  rw [wipeR_get, wipeR_get, wipeR_len]
  by_cases hj : j ∈ vs ∧ j < ρ.length
  · rw [if_pos hj, if_pos hj]
  · rw [if_neg hj]
theorem Good.set0 {ρ : Ro} {ow : List Addr} {i : Nat} (g : Good K A H ρ σ ow) : ∃ ow', Good K A H (ρ.set i none) σ ow' ∧ ∀ a ∈ ow', a ∈ ow := by
  cases e : ρ[i]? with
  | none =>
    rw [List.set_eq_of_length_le (List.getElem?_eq_none_iff.mp e)]
    exact ⟨ow, g, fun _ h => h⟩
  | some s =>
    cases s with
    | none => rw [set_same e]; exact ⟨ow, g, fun _ h => h⟩
    | some kd =>
      obtain ⟨v, fp, ow', _, g', _, sub⟩ := g.move e
      exact ⟨ow', g', fun a h => sub a (by simp [h])⟩
theorem Good.wipeR {ρ : Ro} {ow : List Addr} (g : Good K A H ρ σ ow) : ∀ is : List Nat, ∃ ow', Good K A H (wipeR ρ is) σ ow' ∧ ∀ a ∈ ow', a ∈ ow
  | [] => ⟨ow, g, fun _ h => h⟩
  | i :: is => by
    obtain ⟨ow1, g1, s1⟩ := Good.wipeR g is
    obtain ⟨ow2, g2, s2⟩ := g1.set0 (i := i)
    exact ⟨ow2, g2, fun a h => s1 a (s2 a h)⟩
theorem Good.congr {ρ : Ro} {ow : List Addr} (g : Good K A H ρ τ ow) (hl : σ.length = τ.length) (hs : ∀ (i : Nat) kd, ρ[i]? = some (some kd) → σ[i]? = τ[i]?) : Good K A H ρ σ ow := ⟨g.rep.congr hl hs, g.nd, g.dis, g.tr⟩
theorem es_lc {E : XK} {wi : TI} {src : IF} {is : List Nat} {g : GF} {tt : PTF} {fe : EF} (hs : ISound K wi src) : ESound K E (tLc wi (tG K is g) (tT K tt) (tE K fe) is) (eLc src is g tt fe) := by
  intro σ H A ρ ow Q P PX gd h q _
  refine hs σ H A (rdOnly ρ) [] _ _ (fun a => a ∈ ow) gd.rdOnly (fun a z => ⟨fun h => ?_, gd.rep.mu a z⟩) h fun zs J H1 hz s1 wk => ?_
  · rcases h with h | h
    · exact gd.dis a z h
    · cases h
  obtain ⟨hlen, hc⟩ := hz
  obtain ⟨G, Y, walk, hG, hY⟩ := wk
  intro D hD
  have hD0 : H D = none := s1.free hD
  -- what was read for the source is frozen
  let A1 : Addr → Prop := fun a => A a ∨ Fre2 H H1 a
  have g1 : Good K A1 H1 ρ σ ow := gd.freeze s1
  have nA1 : ¬ A1 D := fun z => by
    rcases z with z | z
    · obtain ⟨o, e⟩ := gd.tr D z; rw [hD0] at e; cases e
    · obtain ⟨_, o, e⟩ := z; rw [hD] at e; cases e
  have nowD : D ∉ ow := fun z => by
    obtain ⟨o, e, _⟩ := gd.rep.mu D z; rw [hD0] at e; cases e
  obtain ⟨ow1, g1w, sub1⟩ := g1.wipeR is
  have g1w' : Good K A1 H1 (DL.wipeR ρ is) (wipe σ is) ow1 := g1w.congr (wipe_length σ is) fun i kd hi => by
    rw [wipeR_get] at hi
    rw [wipe_get]
    by_cases hj : i ∈ is ∧ i < ρ.length
    · rw [if_pos hj] at hi; cases hi
    · have : ¬ (i ∈ is ∧ i < σ.length) := fun z => hj ⟨z.1, by rw [← gd.rep.len]; exact z.2⟩
      rw [if_neg this]
  let P' : List KD → Ro → Prop := fun ys ρ' => P (jL ys, .lst (ys.map (·.2))) ρ'
  let step := stepE is g tt fe
  -- the new list is beside all that
  have updD : ∀ {Hx : Hp} {o : HO} {a : Addr} {u : HO}, a ≠ D → Hx a = some u → (upd Hx D o) a = some u := fun n e => by rw [upd_ne n]; exact e
  refine lc_it walk (fun i Hc => ∃ ρ' ow' A' acc accV fp, Good K A' Hc ρ' (wipe σ is) ow' ∧ Hc D = some (.lst accV) ∧ VRs K A' Hc acc accV fp ∧ (fp ++ ow').Nodup ∧ (∀ a ∈ fp, ¬ A' a) ∧ D ∉ fp ∧ D ∉ ow' ∧ ¬ A' D ∧
    Stp H1 ow A1 Hc (fp ++ ow') A' ∧ compE step (zs.drop i) ρ' acc P' ∧ acc.length ≤ i ∧ DL.wipeR ρ' is = ρ') ?_ ?_ ?_ ?_
  · refine ⟨_, ow1, A1, [], [], [], g1w'.same (same_upd hD), upd_same, ⟨rfl, rfl⟩, g1w'.nd, fun a h => (nomatch h), by simp, fun z => nowD (sub1 D z), nA1, ⟨fun a o e _ => same_upd hD a o e, fun a h => .inl (sub1 a (by simpa using h)), fun _ h => h, fun _ h => .inl h⟩, hc, Nat.le_refl _, wipeR_idem ρ is⟩
  · rintro i H2 _ ⟨ρ', ow', A', acc, accV, fp, g', _, _, _, _, _, _, _, st, _⟩
    exact hG H2 fun a o e n => st.same a o e n
  · rintro i x H2 H3 hi ⟨ρ', ow', A', acc, accV, fp, g', hDv, r, nd, dis, nf, no, nA, st, hcomp, hl, hw⟩ y
    have hzi : zs[i]? = some zs[i] := List.getElem?_eq_getElem hi
    obtain ⟨s3, vz⟩ := hY i H2 x H3 zs[i] hzi (fun a o e n => st.same a o e n) y
    rw [List.drop_eq_getElem_cons hi] at hcomp
    have hstep : step zs[i] ρ' fun r ρ2 => match r with
      | some y => compE step (zs.drop (i + 1)) ρ2 (acc ++ [y]) P'
      | none => compE step (zs.drop (i + 1)) ρ2 acc P' := hcomp
    have hD3 : H3 D = some (.lst accV) := s3 _ _ hDv
    have vb : VR K A' H3 zs[i] x [] := vz.mono fun a h => by
      rcases h with (h | h) | h
      · exact st.up a (.inl h)
      · cases h
      · exact st.up a (.inr h)
    have ndow := (List.nodup_append.mp nd).2.1
    refine ⟨zs[i], [], A', ρ', ow', _, g'.same s3, ⟨vb, by simpa using ndow, fun a h => (nomatch h)⟩, hstep, fun ρ1 σ1 owA h1 gA subA w1 => ⟨w1.trans (wipe_idem σ is), ?_⟩⟩
    have subA' : ∀ a ∈ owA, a ∈ ow' := fun a h => (subA a h).elim id fun z => nomatch z
    have hl1 : σ1.length = σ.length := by rw [← wipe_length σ1 is, w1, wipe_length, wipe_length]
    -- back from the block's slots
    have back : ∀ {ρ2 : Ro} {Hx : Hp} {Ax : Addr → Prop} {owx : List Addr}, Good K Ax Hx ρ2 σ1 owx → ∃ owy, Good K Ax Hx (DL.wipeR ρ2 is) (wipe σ is) owy ∧ ∀ a ∈ owy, a ∈ owx := fun {ρ2 Hx Ax owx} gx => by
      obtain ⟨owy, gy, suby⟩ := gx.wipeR is
      refine ⟨owy, gy.congr (by rw [wipe_length]; exact hl1.symm) fun j kd hj => ?_, suby⟩
      rw [wipeR_get] at hj
      have hn : ¬ (j ∈ is ∧ j < ρ2.length) := fun z => by rw [if_pos z] at hj; cases hj
      have e : (wipe σ1 is)[j]? = (wipe (wipe σ is) is)[j]? := by rw [w1]
      rw [wipe_idem, wipe_get, wipe_get] at e
      have l2 : ρ2.length = σ1.length := gx.rep.len.symm
      rw [wipe_get]
      rw [if_neg (fun z => hn ⟨z.1, by rw [l2]; exact z.2⟩)] at e
      exact e.symm
    refine ⟨A', ρ1, owA, _, gA, h1, fun b H4 h2 s4 => ?_⟩
    have st4 : Stp H1 ow A1 H4 (fp ++ ow') A' := (st.trans (Stp.of_same (s3.trans s4)))
    have r4 := (r.same s3).same s4
    have hD4 : H4 D = some (.lst accV) := s4 _ _ hD3
    cases b with
    | false =>
      rw [if_neg Bool.false_ne_true] at h2
      refine iteF ?_
      obtain ⟨owy, gy, suby⟩ := back (gA.same s4)
      have sb : ∀ a ∈ owy, a ∈ ow' := fun a h => subA' a (suby a h)
      exact ⟨_, owy, A', acc, accV, fp, gy, hD4, r4, List.nodup_append.mpr ⟨(List.nodup_append.mp nd).1, gy.nd, fun a ha b hb => (List.nodup_append.mp nd).2.2 a ha b (sb b hb)⟩, dis, nf, fun z => no (sb D z), nA, st4.sub fun a h => by rcases List.mem_append.mp h with h | h <;> simp [h, sb], h2, by omega, wipeR_idem _ is⟩
    | true =>
      rw [if_pos rfl] at h2
      refine iteT ?_
      refine ⟨A', ρ1, owA, _, gA.same s4, h2, fun z ρ2 v H5 f5 ow5 A5 h3 st5 g5 o5 => ?_⟩
      have nowA : D ∉ owA := fun z => no (subA' D z)
      have hD5 : H5 D = some (.lst accV) := st5.same _ _ hD4 nowA
      obtain ⟨owy, gy, suby⟩ := back g5
      obtain ⟨d1, d2, d3⟩ := List.nodup_append.mp nd
      -- the items made so far stay
      have trk : ∀ a ∈ fp, ∃ o, H4 a = some o := fun a h => let ⟨o, e, _⟩ := r4.mu a h; ⟨o, e⟩
      have nfA : ∀ a ∈ fp, a ∉ owA := fun a h z => d3 a h a (subA' a z) rfl
      have r5 : VRs K A5 H5 acc accV fp := (VRs.keepF (fun a o e h => by
        rcases h with h | h
        · exact st5.same a o e (nfA a h)
        · exact (gA.same s4).keepA st5 a o e h) r4).mono st5.up
      have nfp5 : ∀ a ∈ fp, a ∉ f5 ++ ow5 := fun a h z => by
        rcases st5.own a z with y | y
        · exact nfA a h y
        · obtain ⟨o, e⟩ := trk a h; rw [y] at e; cases e
      have nA5 : ∀ a, (∃ o, H4 a = some o) → a ∉ owA → ¬ A' a → ¬ A5 a := fun a t n1 n2 z => by
        rcases st5.fr a z with y | y | y
        · exact n2 y
        · exact n1 y
        · obtain ⟨o, e⟩ := t; rw [y] at e; cases e
      have nD5 : D ∉ f5 ++ ow5 := fun z => by
        rcases st5.own D z with y | y
        · exact nowA y
        · rw [hD4] at y; cases y
      have nAD5 : ¬ A5 D := nA5 D ⟨_, hD4⟩ nowA nA
      have all := r5.append (VRs.one o5.rep)
      have stAll : Stp H1 ow A1 H5 ((fp ++ f5) ++ ow5) A5 := by
        have stA : Stp H1 ow A1 H4 owA A' := st4.sub fun a h => by simp [subA' a h]
        have stT := stA.trans st5
        refine ⟨stT.same, fun a h => ?_, stT.up, stT.fr⟩
        rw [List.append_assoc] at h
        rcases List.mem_append.mp h with h | h
        · exact st4.own a (by simp [h])
        · exact stT.own a h
      have hkeep : ∀ a u, H5 a = some u → a ≠ D → (upd H5 D (.lst (accV ++ [v]))) a = some u := fun a u e n => updD n e
      refine ⟨accV, hD5, ?_, _, owy, A5, acc ++ [z], accV ++ [v], fp ++ f5, ?_, upd_same, ?_, ?_, fun a h => ?_, ?_, fun z => nD5 (by simp [suby D z]), nAD5, ?_, h3, ?_, wipeR_idem _ is⟩
      · rw [r.len, sizeLine_eq]
        have := hi
        omega
      · exact ⟨gy.rep.keep fun a u e h => hkeep a u e fun z => by
          subst z
          rcases h with h | h | h
          · exact nD5 (by simp [suby _ h])
          · exact nAD5 h
          · rw [hD5] at e; cases e; exact h, gy.nd, gy.dis, fun a h => by
          obtain ⟨o, e⟩ := gy.tr a h
          exact ⟨o, hkeep a o e fun z => nAD5 (by rw [← z]; exact h)⟩⟩
      · exact VRs.keepF (fun a u e h => hkeep a u e fun z => by
          subst z
          rcases h with h | h | h
          · rcases List.mem_append.mp h with h | h
            · exact nf h
            · exact nD5 (by simp [h])
          · exact nAD5 h
          · rw [hD5] at e; cases e; exact h) all
      · rw [List.append_assoc]
        obtain ⟨e1, e2, e3⟩ := List.nodup_append.mp o5.nd
        refine List.nodup_append.mpr ⟨d1, List.nodup_append.mpr ⟨e1, gy.nd, fun a ha b hb => e3 a ha b (suby b hb)⟩, fun a ha b hb e => ?_⟩
        subst e
        refine nfp5 a ha ?_
        rcases List.mem_append.mp hb with hb | hb
        · simp [hb]
        · simp [suby a hb]
      · rcases List.mem_append.mp h with h | h
        · exact nA5 a (trk a h) (nfA a h) (dis a h)
        · exact o5.dis a h
      · intro z
        rcases List.mem_append.mp z with z | z
        · exact nf z
        · exact nD5 (by simp [z])
      · refine ⟨fun a o e n => hkeep a o (stAll.same a o e n) (fun z => by rw [z, hD] at e; cases e), fun a h => stAll.own a (by rcases List.mem_append.mp h with h | h <;> simp only [List.mem_append] at h ⊢ <;> first | exact .inl h | exact .inr (suby a h)), stAll.up, stAll.fr⟩
      · rw [List.length_append]
        show acc.length + 1 ≤ i + 1
        omega
  · rintro H2 ⟨ρ', ow', A', acc, accV, fp, g', hDv, r, nd, dis, nf, no, nA, st, hcomp, hl, hw⟩
    rw [List.drop_eq_nil_of_le (Nat.le_refl _)] at hcomp
    have hP : P (jL acc, .lst (acc.map (·.2))) ρ' := hcomp
    have gσ : Good K A' H2 ρ' σ ow' := g'.congr (wipe_length σ is).symm fun j kd hj => by
      rw [← hw, wipeR_get] at hj
      have hn : ¬ (j ∈ is ∧ j < ρ'.length) := fun z => by rw [if_pos z] at hj; cases hj
      have l2 : ρ'.length = σ.length := by rw [← g'.rep.len, wipe_length]
      rw [wipe_get, if_neg fun z => hn ⟨z.1, by rw [l2]; exact z.2⟩]
    have stH : Stp H ow A H2 ((D :: fp) ++ ow') A' := by
      have s0 : Stp H ow A H1 ow A1 := Stp.freeze s1
      have sT := s0.trans st
      refine ⟨sT.same, fun a h => ?_, sT.up, sT.fr⟩
      rcases List.mem_cons.mp h with h | h
      · rw [h]; exact .inr hD0
      · exact sT.own a h
    have ndD : ((D :: fp) ++ ow').Nodup := List.nodup_cons.mpr ⟨by simp [nf, no], nd⟩
    have disD : ∀ a ∈ D :: fp, ¬ A' a := fun a h => by
      rcases List.mem_cons.mp h with h | h
      · rw [h]; exact nA
      · exact dis a h
    have pr : PR K A' (fun a => a ∈ D :: fp ∨ H2 a = none) H2 (.ref D) (jL acc, .lst (acc.map (·.2))) := by
      have rO : VRs K (Or2 A' (fun a => a ∈ D :: fp ∨ H2 a = none)) H2 acc accV fp := r.mono fun a h => .inl h
      have d1 := (List.nodup_append.mp nd).1
      rcases jT_cases acc with e | e | e
      · have e' : jL acc = .sh := by unfold jL; rw [e]
        rw [e']
        exact ⟨[D], ⟨⟨D, accV, [], rfl, rfl, hDv, Rs.of0 _ _ (rO.fl e).2⟩, D, accV, rfl, hDv, (rO.fl e).2⟩, by simp, fun a q => by rw [List.mem_singleton.mp q]; exact .inl (by simp)⟩
      · have e' : jL acc = .ow := by unfold jL; rw [e]
        rw [e']
        exact ⟨D :: fp, ⟨D, accV, fp, rfl, rfl, hDv, rO.ow (by rw [e]; decide)⟩, List.nodup_cons.mpr ⟨nf, d1⟩, fun a q => .inl q⟩
      · have e' : jL acc = .rd := by unfold jL; rw [e]
        rw [e']
        exact .rd ⟨D, accV, rfl, .inr (.inl (by simp)), hDv, rO.ra (fun _ h => h) fun a q => .inr (.inl (by simp [q]))⟩
    obtain ⟨f, A3, st3, g3, o3⟩ := pr.fin stH gσ ndD disD (Same.refl H2)
    exact q _ ρ' _ H2 f ow' A3 hP st3 g3 o3
end
section
variable {X : Cx} {E : XK} {pos : Pos} {pr : List Nat}
theorem de_lc {elt tg iter : Expr} {ifs : List Expr} {scope : Scope} {own : List (Str × Nat)} {is : List Nat} {src : IF} {g : GF} {tt : PTF} {fe : EF} {E' : XK} (hc : X.calm = true) (hN : X.N.Nodup) (hi : DI X tg iter src) (ok : BlkOk X.N X.env.scope scope own)
    (hg : ∀ (s : Shared) (H : Hp) (C : Addr) (cl : List (Str × Addr)) (fp : List Addr), DG (X.blk s H scope (compEnvC scope cl C X.env) fp) tg is g) (ht : ∀ (s : Shared) (H : Hp) (C : Addr) (cl : List (Str × Addr)) (fp : List Addr), DTs (X.blk s H scope (compEnvC scope cl C X.env) fp) ifs tt)
    (he : ∀ (s : Shared) (H : Hp) (C : Addr) (cl : List (Str × Addr)) (fp : List Addr), DE (X.blk s H scope (compEnvC scope cl C X.env) fp) E' elt fe) (his : own.map (·.2) = is := by rfl) (hs : ∀ x, foldedSetIterable iter X.env x = pure x := by intro _; rfl) :
    DE X E (.ListComp elt [⟨tg, iter, ifs, 0⟩] scope pos) (eLc src is g tt fe) := by
  obtain ⟨t, e, s⟩ := hi.run
  subst his
  exact ⟨_, pe_lc (te := tE X.K fe) (g := tG X.K (own.map (·.2)) g) (tt := tT X.K tt) hc hN e ok (fun s H C cl fp => (hg s H C cl fp).can) (fun s H C cl fp => (ht s H C cl fp).run) (fun s H C cl fp => (he s H C cl fp).can) hs, es_lc s⟩
end
end DL

namespace DL
open PySem PySem.Spec PyProof.Rows L2
section
variable {K : Frg} {A B F : Addr → Prop} {H : Hp}
def oLen : List KD → (KD → Prop) → Prop := fun zs P => match zs with
  | [(_, .tup ds)] => P (.fl, .int ds.length)
  | [(_, .lst ds)] => P (.fl, .int ds.length)
  | [(_, .kst ds)] => P (.fl, .int ds.length)
  | [(_, .str z)] => z.length ≤ 10000000 ∧ P (.fl, .int z.length)
  | _ => False
theorem cs_len : CallS K (fun xs H Q => ∃ x n, xs = [x] ∧ LenV K x H n ∧ Q (.int n) H) oLen := by
  intro B F H vs xs P Q pr hF h q
  have go : ∀ (k : Kd) (d : D) (ds : List D), xs = [(k, d)] → d.seq = some ds → P (.fl, .int ds.length) → ∃ x n, vs = [x] ∧ LenV K x H n ∧ Q (.int n) H := fun k d ds e e2 hP => by
    subst e
    obtain ⟨v, ev, p⟩ := pr.get1
    obtain ⟨a, us, ea, t, r⟩ := p.ra.seq e2
    subst ev ea
    refine ⟨_, ds.length, rfl, ?_, q _ _ H hP (Same.refl H) .int⟩
    rcases t with t | t
    · exact .inl ⟨us, t, r.len.symm⟩
    · exact .inr ⟨us, t, r.len.symm⟩
  unfold oLen at h
  split at h
  · exact go _ _ _ rfl rfl h
  · exact go _ _ _ rfl rfl h
  · exact go _ _ _ rfl rfl h
  · rename_i k z
    obtain ⟨v, ev, p⟩ := pr.get1
    have e : v = .str z := p.ra
    subst ev e
    exact ⟨_, z.length, rfl, ⟨sz7 h.1, rfl⟩, q _ _ H h.2 (Same.refl H) .int⟩
  · exact h.elim
def oList : List KD → (KD → Prop) → Prop := fun zs P => match zs with
  | [(k, .tup ds)] => P (kL k, .lst ds)
  | [(k, .lst ds)] => P (kL k, .lst ds)
  | [(k, .kst ds)] => P (kL k, .lst ds)
  | _ => False
theorem cs_list : CallS K (fun xs H Q => ∃ p ys, xs = [.ref p] ∧ (SqL K H p ys ∨ SqT K H p ys) ∧ ∀ l, H l = none → Q (.ref l) (upd H l (.lst ys))) oList := by
  intro B F H vs xs P Q pr hF h q
  have go : ∀ (k : Kd) (d : D) (ds : List D), xs = [(k, d)] → d.seq = some ds → P (kL k, .lst ds) → ∃ p ys, vs = [.ref p] ∧ (SqL K H p ys ∨ SqT K H p ys) ∧ ∀ l, H l = none → Q (.ref l) (upd H l (.lst ys)) := fun k d ds e e2 hP => by
    subst e
    obtain ⟨v, ev, p⟩ := pr.get1
    obtain ⟨a, us, ea, t, r⟩ := p.seq e2
    subst ev ea
    exact ⟨a, us, rfl, t, fun l hl => q _ _ _ hP (same_upd hl) (pr_lst r hl (hF l hl))⟩
  unfold oList at h
  split at h
  · exact go _ _ _ rfl rfl h
  · exact go _ _ _ rfl rfl h
  · exact go _ _ _ rfl rfl h
  · exact h.elim
def oTuple : List KD → (KD → Prop) → Prop := fun zs P => match zs with
  | [(k, .tup ds)] => P (kT k, .tup ds)
  | [(k, .lst ds)] => P (kT k, .tup ds)
  | [(k, .kst ds)] => P (kT k, .tup ds)
  | _ => False
theorem cs_tuple : CallS K (fun xs H Q => ∃ p ys, xs = [.ref p] ∧ ((SqL K H p ys ∧ ∀ l, H l = none → Q (.ref l) (upd H l (.tup ys))) ∨ (SqT K H p ys ∧ Q (.ref p) H))) oTuple := by
  intro B F H vs xs P Q pr hF h q
  have go : ∀ (k : Kd) (d : D) (ds : List D), xs = [(k, d)] → d.seq = some ds → P (kT k, .tup ds) → ∃ p ys, vs = [.ref p] ∧ ((SqL K H p ys ∧ ∀ l, H l = none → Q (.ref l) (upd H l (.tup ys))) ∨ (SqT K H p ys ∧ Q (.ref p) H)) := fun k d ds e e2 hP => by
    subst e
    obtain ⟨v, ev, p⟩ := pr.get1
    obtain ⟨a, us, ea, t, r⟩ := p.seq e2
    subst ev ea
    refine ⟨a, us, rfl, ?_⟩
    rcases t with t | t
    · exact .inl ⟨t, fun l hl => q _ _ _ hP (same_upd hl) (pr_tup r hl)⟩
    · refine .inr ⟨t, q _ _ H hP (Same.refl H) ?_⟩
      unfold kT
      rcases el_cases k with e' | e'
      · rw [e']; exact .fl ⟨a, us, rfl, t, r.elno e'⟩
      · rw [e']; exact .rd ⟨a, us, rfl, t, r.elor⟩
  unfold oTuple at h
  split at h
  · exact go _ _ _ rfl rfl h
  · exact go _ _ _ rfl rfl h
  · exact go _ _ _ rfl rfl h
  · exact h.elim
def oInt : List KD → (KD → Prop) → Prop := fun zs P => match zs with
  | [(_, .int i)] => P (.fl, .int i)
  | [(_, .bl b)] => P (.fl, .int (if b = true then 1 else 0))
  | _ => False
theorem cs_int : CallS K (fun xs H Q => (∃ i, xs = [.int i] ∧ Q (.int i) H) ∨ ∃ k, xs = [.bl k] ∧ Q (.int (if k then 1 else 0)) H) oInt := by
  intro B F H vs xs P Q pr hF h q
  unfold oInt at h
  split at h
  · rename_i k i
    obtain ⟨v, ev, p⟩ := pr.get1
    have e : v = .int i := p.ra
    subst ev e
    exact .inl ⟨i, rfl, q _ _ H h (Same.refl H) .int⟩
  · rename_i k i
    obtain ⟨v, ev, p⟩ := pr.get1
    have e : v = .bl i := p.ra
    subst ev e
    exact .inr ⟨i, rfl, q _ _ H h (Same.refl H) .int⟩
  · exact h.elim
def oAbs : List KD → (KD → Prop) → Prop := fun zs P => match zs with
  | [(_, .int i)] => P (.fl, .int (if i < 0 then -i else i))
  | _ => False
theorem cs_abs : CallS K (fun xs H Q => ∃ i, xs = [.int i] ∧ Q (.int (if i < 0 then -i else i)) H) oAbs := by
  intro B F H vs xs P Q pr hF h q
  unfold oAbs at h
  split at h
  · rename_i k i
    obtain ⟨v, ev, p⟩ := pr.get1
    have e : v = .int i := p.ra
    subst ev e
    exact ⟨i, rfl, q _ _ H h (Same.refl H) .int⟩
  · exact h.elim
def oMax2 : List KD → (KD → Prop) → Prop := fun zs P => match zs with
  | [(_, .int i), (_, .int j)] => P (.fl, .int (if j > i then j else i))
  | _ => False
def oMin2 : List KD → (KD → Prop) → Prop := fun zs P => match zs with
  | [(_, .int i), (_, .int j)] => P (.fl, .int (if j < i then j else i))
  | _ => False
def oSum : List KD → (KD → Prop) → Prop := fun zs P => match zs with
  | [(_, .lst ds)] => ∃ ns : List Int, ds = ns.map .int ∧ P (.fl, .int ns.sum)
  | _ => False
theorem pr_ints {k : Kd} {ns : List Int} {v : V} (p : PR K B F H v (k, .lst (ns.map .int))) : ∃ a, v = .ref a ∧ SqL K H a (ns.map V.int) := by
  obtain ⟨a, us, ea, t, r⟩ := p.lstT
  rw [RAs.ints r.elor] at t
  exact ⟨a, ea, .of t⟩
theorem cs_sum : CallS K (rSum K) oSum := by
  intro B F H vs xs P Q pr hF h q
  unfold oSum at h
  split at h
  · rename_i k ds
    obtain ⟨ns, rfl, hP⟩ := h
    obtain ⟨v, ev, p⟩ := pr.get1
    obtain ⟨a, ea, t⟩ := pr_ints p
    subst ev ea
    exact ⟨a, ns, rfl, t, q _ _ H hP (Same.refl H) .int⟩
  · exact h.elim
def oAll : List KD → (KD → Prop) → Prop := fun zs P => match zs with
  | [(_, .lst ds)] => ∃ bs : List Bool, ds = bs.map .bl ∧ P (.fl, .bl (bs.all id))
  | _ => False
theorem RAs.bools : ∀ {ns : List Bool} {vs : List V}, RAs K A H (ns.map .bl) vs → vs = ns.map V.bl
  | [], _, h => h
  | n :: ns, _, ⟨w, ws, e, h, t⟩ => by
    subst e
    rw [show w = V.bl n from h, RAs.bools t]
    rfl
theorem pr_bools {k : Kd} {ns : List Bool} {v : V} (p : PR K B F H v (k, .lst (ns.map .bl))) : ∃ a, v = .ref a ∧ SqL K H a (ns.map V.bl) := by
  obtain ⟨a, us, ea, t, r⟩ := p.lstT
  rw [RAs.bools r.elor] at t
  exact ⟨a, ea, .of t⟩
theorem cs_all : CallS K (rAll K) oAll := by
  intro B F H vs xs P Q pr hF h q
  unfold oAll at h
  split at h
  · rename_i k ds
    obtain ⟨ns, rfl, hP⟩ := h
    obtain ⟨v, ev, p⟩ := pr.get1
    obtain ⟨a, ea, t⟩ := pr_bools p
    subst ev ea
    exact ⟨a, ns, rfl, t, q _ _ H hP (Same.refl H) .bl⟩
  · exact h.elim
def oStr : List KD → (KD → Prop) → Prop := fun zs P => match zs with
  | [(_, .int i)] => i.natAbs.log2 < 1920 ∧ P (.fl, .str (toString i))
  | _ => False
theorem cs_str : CallS K (fun xs H Q => ∃ i, xs = [.int i] ∧ i.natAbs.log2 < 1920 ∧ Q (.str (toString i)) H) oStr := by
  intro B F H vs xs P Q pr hF h q
  unfold oStr at h
  split at h
  · rename_i k i
    obtain ⟨v, ev, p⟩ := pr.get1
    have e : v = .int i := p.ra
    subst ev e
    exact ⟨i, rfl, h.1, q _ _ H h.2 (Same.refl H) .str⟩
  · exact h.elim
end
inductive Bt where
  | int | bool | str | tup | lst | dct
def Bt.nm : Bt → String
  | .int => "int"
  | .bool => "bool"
  | .str => "str"
  | .tup => "tuple"
  | .lst => "list"
  | .dct => "dict"
def isBt : Bt → D → Option Bool
  | .int, .int _ => some true
  | .int, .bl _ => some true
  | .int, .str _ => some false
  | .int, .non => some false
  | .int, .tup _ => some false
  | .int, .lst _ => some false
  | .bool, .int _ => some false
  | .bool, .bl _ => some true
  | .bool, .str _ => some false
  | .bool, .non => some false
  | .bool, .tup _ => some false
  | .bool, .lst _ => some false
  | .str, .int _ => some false
  | .str, .bl _ => some false
  | .str, .str _ => some true
  | .str, .non => some false
  | .str, .tup _ => some false
  | .str, .lst _ => some false
  | .tup, .int _ => some false
  | .tup, .bl _ => some false
  | .tup, .str _ => some false
  | .tup, .non => some false
  | .tup, .tup _ => some true
  | .tup, .lst _ => some false
  | .lst, .int _ => some false
  | .lst, .bl _ => some false
  | .lst, .str _ => some false
  | .lst, .non => some false
  | .lst, .tup _ => some false
  | .lst, .lst _ => some true
  | _, _ => none
def D.tyn : D → String
  | .non => "NoneType"
  | .bl _ => "bool"
  | .int _ => "int"
  | .str _ => "str"
  | .tup _ => "tuple"
  | .lst _ => "list"
  | _ => ""
theorem isBt_ok : ∀ {b : Bt} {d : D} {r : Bool}, isBt b d = some r → kitB d.tyn b.nm = some r := by
  intro b d r h
  cases b <;> cases d <;> first
    | (cases h; done)
    | (have e : r = _ := (Option.some.inj h).symm
       subst e
       show kitB _ _ = some _
       dsimp only [D.tyn, Bt.nm]
       decide +kernel)
theorem RA.tyx {K : Frg} {A : Addr → Prop} {H : Hp} {b : Bt} {d : D} {v : V} {r : Bool} (h : RA K A H d v) (e : isBt b d = some r) : TyX K H v (.type d.tyn) := by
  cases d with
  | non => rw [show v = _ from h]; exact .base .non
  | bl b => rw [show v = _ from h]; exact .base (.bl b)
  | int b => rw [show v = _ from h]; exact .base (.int b)
  | str b => rw [show v = _ from h]; exact .base (.str b)
  | tup ds =>
    obtain ⟨p, vs, ev, t, _⟩ := h
    rw [ev]
    rcases t with (t | ⟨o, t⟩) | ⟨o, its, n, hk, hc, _⟩
    · exact .base (.tup t)
    · exact .fTuple t
    · exact .kTuple hk hc
  | lst ds =>
    obtain ⟨p, vs, ev, _, t, _⟩ := h
    rw [ev]
    exact .base (.lst t)
  | _ => cases b <;> cases e
def pIsI (b : Bt) (f : PF) : PF := fun ρ P => f ρ fun z => match isBt b z.2 with
  | some r => P (.fl, .bl r)
  | none => False
section
variable {X : Cx} {pos : Pos} {e : Expr} {f : PF} {E : XK}
theorem dp_isI (b : Bt) {p p2 : Pos} {x : Str} (h : DP X e f) (hg : Gl X "isinstance") (hm : X.mg "isinstance" = none) (hg2 : Gl X x) (hm2 : X.mg x = none) (hv2 : bootBuiltins x = some (.type b.nm))
    (hs : starEach [e, .Name x p2] X.env = (false, eval e X.env) :: starEach [.Name x p2] X.env := by rfl) (hs2 : starEach [.Name x p2] X.env = (false, eval (.Name x p2) X.env) :: starEach [] X.env := by rfl)
    (hpl : (backTo pos (starEach [.Name x p2] X.env)).any (·.1) = false := by rfl) (hn : x ≠ "__name__" := by decide) (hd : (x == ("__debug__" : Str)) = false := by decide) :
    DP X (.Call (.Name "isinstance" p) [e, .Name x p2] [] pos) (pIsI b f) := by
  obtain ⟨t, pe, s⟩ := h.run
  refine ⟨_, pe_callB call_isi hg hm boot_isinstance (pa_cons pe (pa_cons (pe_bltn (v := .ty b.nm) hg2 hm2 hv2 rfl hn hd) pa_nil hs2) hs) (by decide) (by decide) hs hpl, fun σ H A ρ ow Q P g hf q => ?_⟩
  refine s σ H A ρ ow _ _ g hf fun z v H1 h1 s1 p1 => ?_
  cases er : isBt b z.2 with
  | none => rw [er] at h1; exact h1.elim
  | some r =>
    rw [er] at h1
    refine ⟨v, .ty b.nm, .type z.2.tyn, .type b.nm, r, rfl, ?_, p1.ra.tyx er, kit_ty (isBt_ok er), q _ _ H1 h1 s1 .bl⟩
    constructor
def pLR1 (f : PF) : PF := fun ρ P => f ρ fun z => match z.2 with
  | .int n => n ≤ 1000000 ∧ -1000000 ≤ n ∧ P (.sh, .lst ((List.range n.toNat).map fun i : Nat => .int i))
  | _ => False
def pTR1 (f : PF) : PF := fun ρ P => f ρ fun z => match z.2 with
  | .int n => n ≤ 1000000 ∧ -1000000 ≤ n ∧ P (.fl, .tup ((List.range n.toNat).map fun i : Nat => .int i))
  | _ => False
theorem rg_map (n : Int) : rgV 0 n = ((List.range n.toNat).map fun i : Nat => (i : Int)).map V.int := by
  unfold rgV
  rw [List.map_map]
  simp
theorem rg_D (n : Nat) : ((List.range n).map fun i : Nat => D.int i) = ((List.range n).map fun i : Nat => (i : Int)).map D.int := by
  rw [List.map_map]; rfl
theorem dp_listRg1 {p p2 pos2 : Pos} (h : DP X e f) (hc : X.calm = true) (hg : Gl X "list") (hm : X.mg "list" = none) (hg2 : Gl X "range") (hm2 : X.mg "range" = none) (na : starEach [e] X.env = (false, eval e X.env) :: starEach [] X.env := by rfl)
    (na2 : starEach [.Call (.Name "range" p2) [e] [] pos2] X.env = (false, eval (.Call (.Name "range" p2) [e] [] pos2) X.env) :: starEach [] X.env := by rfl) : DP X (.Call (.Name "list" p) [.Call (.Name "range" p2) [e] [] pos2] [] pos) (pLR1 f) := by
  obtain ⟨t, pe, s⟩ := h.run
  refine ⟨_, pe_listRg hc hg hm (prg_1 hg2 hm2 pe na) na2, fun σ H A ρ ow Q P g hf q => ?_⟩
  refine s σ H A ρ ow _ _ g hf fun z v H1 h1 s1 p1 => ?_
  obtain ⟨k, d⟩ := z
  cases d with
  | int n =>
    obtain ⟨h2, h3, h4⟩ := h1
    obtain rfl : v = .int n := p1.ra
    refine ⟨n, rfl, ⟨by omega, by omega, by omega, by omega, by omega⟩, fun l hl => ?_⟩
    refine q _ _ _ h4 (s1.trans (same_upd hl)) ?_
    have r : RAs X.K (Kd.sh.elA (BB A ow) (Fre H)) H1 ((List.range n.toNat).map fun i : Nat => D.int i) (rgV 0 n) := by
      rw [rg_map, rg_D]
      exact RAs.of_ints _
    exact pr_lst r hl (s1.free hl)
  | _ => exact h1.elim
theorem dp_tupRg1 {p p2 pos2 : Pos} (h : DP X e f) (hc : X.calm = true) (hg : Gl X "tuple") (hm : X.mg "tuple" = none) (hg2 : Gl X "range") (hm2 : X.mg "range" = none) (na : starEach [e] X.env = (false, eval e X.env) :: starEach [] X.env := by rfl)
    (na2 : starEach [.Call (.Name "range" p2) [e] [] pos2] X.env = (false, eval (.Call (.Name "range" p2) [e] [] pos2) X.env) :: starEach [] X.env := by rfl) : DP X (.Call (.Name "tuple" p) [.Call (.Name "range" p2) [e] [] pos2] [] pos) (pTR1 f) := by
  obtain ⟨t, pe, s⟩ := h.run
  refine ⟨_, pe_tupRg hc hg hm (prg_1 hg2 hm2 pe na) na2, fun σ H A ρ ow Q P g hf q => ?_⟩
  refine s σ H A ρ ow _ _ g hf fun z v H1 h1 s1 p1 => ?_
  obtain ⟨k, d⟩ := z
  cases d with
  | int n =>
    obtain ⟨h2, h3, h4⟩ := h1
    obtain rfl : v = .int n := p1.ra
    refine ⟨n, rfl, ⟨by omega, by omega, by omega, by omega, by omega⟩, fun l hl => ?_⟩
    refine q _ _ _ h4 (s1.trans (same_upd hl)) ?_
    have r : RAs X.K (Kd.fl.elA (BB A ow) (Fre H)) H1 ((List.range n.toNat).map fun i : Nat => D.int i) (rgV 0 n) := by
      rw [rg_map, rg_D]
      exact RAs.of_ints _
    exact pr_tup (k := .fl) r hl
  | _ => exact h1.elim
end
end DL

namespace DL
open PySem PySem.Spec PyProof.Rows L2
abbrev gNil : PAF := fun _ P => P []
abbrev gCons (f : PF) (g : PAF) : PAF := fun ρ P => f ρ fun z => g ρ fun zs => P (z :: zs)
abbrev aNil : AEF := fun ρ P _ => P [] ρ
abbrev aPl (i : Nat) (g : AEF) : AEF := fun ρ P PX => (∃ kd, ρ[i]? = some (some kd)) ∧ g ρ (fun avs ρ' => P (.pl i :: avs) ρ') PX
abbrev aE (f : EF) (g : AEF) : AEF := fun ρ P PX => f ρ (fun z ρ1 => g ρ1 (fun avs ρ2 => P (.v z :: avs) ρ2) PX) PX
abbrev tNilP : PTF := fun _ P => P true
abbrev tNilG : GsF := fun zs ρ P => zs = [] ∧ P ρ
abbrev tConsG (g : GF) (gs : GsF) : GsF := fun zs ρ P => match zs with
  | z :: r => g z ρ fun ρ1 => gs r ρ1 P
  | [] => False
abbrev qPopAt : MOF := fun k e zs P => (k = .sh ∨ k = .ow) ∧ (match e with | .lst ds => ds.length ≤ 10000000 | _ => False) ∧ mPopAt k e zs P
abbrev qPop : MOF := fun k e zs P => (k = .sh ∨ k = .ow) ∧ mPop k e zs P
theorem bt_len : bootBuiltins "len" = some (.builtin "len") := by decide +kernel
theorem bt_list : bootBuiltins "list" = some (.type "list") := by decide +kernel
theorem bt_tuple : bootBuiltins "tuple" = some (.type "tuple") := by decide +kernel
theorem bt_int : bootBuiltins "int" = some (.type "int") := by decide +kernel
theorem bt_bool : bootBuiltins "bool" = some (.type "bool") := by decide +kernel
theorem bt_str : bootBuiltins "str" = some (.type "str") := by decide +kernel
theorem bt_abs : bootBuiltins "abs" = some (.builtin "abs") := by decide +kernel
theorem bt_sum : bootBuiltins "sum" = some (.builtin "sum") := by decide +kernel
theorem bt_max : bootBuiltins "max" = some (.builtin "max") := by decide +kernel
theorem bt_all : bootBuiltins "all" = some (.builtin "all") := by decide +kernel
end DL

namespace DL
open PySem PySem.Spec PyProof.Rows L2
theorem ifb {p q : Prop} {b : Bool} (h1 : b = true → p) (h2 : b = false → q) : if b = true then p else q := by
  cases b
  · exact h2 rfl
  · exact h1 rfl
theorem ifd {c : Prop} [Decidable c] {p q : Prop} (h1 : c → p) (h2 : ¬c → q) : if decide c = true then p else q :=
  ifb (fun h => h1 (of_decide_eq_true h)) fun h => h2 (of_decide_eq_false h)
theorem ifdn {c : Prop} [Decidable c] {p q : Prop} (h1 : ¬c → p) (h2 : c → q) : if (!decide c) = true then p else q :=
  ifb (fun h => h1 (of_decide_eq_false (by cases e : decide c with | true => rw [e] at h; cases h | false => rfl))) fun h => h2 (of_decide_eq_true (by cases e : decide c with | false => rw [e] at h; cases h | true => rfl))
theorem forD_at {g : GF} {body : SF} {D : DEnds} (I : Nat → Ro → Prop) : ∀ (zs : List KD) (i0 : Nat) (ρ : Ro), I i0 ρ →
    (∀ (i : Nat) z ρ (N : Ro → Prop), zs[i]? = some z → I (i0 + i) ρ → (∀ ρ', I (i0 + i + 1) ρ' → N ρ') → g z ρ fun ρ1 => body { D with nx := N } ρ1) →
    (∀ ρ, I (i0 + zs.length) ρ → D.nx ρ) → forD g body D zs ρ
  | [], i0, ρ, h, _, e => e ρ h
  | z :: zs, i0, ρ, h, s, e => s 0 z ρ _ rfl h fun ρ' h' => forD_at I zs (i0 + 1) ρ' h' (fun i z ρ N hz hi hn => by
      have e1 : i0 + 1 + i = i0 + (i + 1) := by omega
      rw [e1] at hi hn
      exact s (i + 1) z ρ N hz hi hn) fun ρ hi => by
      have e1 : i0 + 1 + zs.length = i0 + (zs.length + 1) := by omega
      rw [e1] at hi
      exact e ρ hi
theorem for_ind {g : GF} {body : SF} {D : DEnds} {zs : List KD} {ρ : Ro} (I : Nat → Ro → Prop) (h0 : I 0 ρ)
    (hs : ∀ (i : Nat) z ρ (N : Ro → Prop), zs[i]? = some z → I i ρ → (∀ ρ', I (i + 1) ρ' → N ρ') → g z ρ fun ρ1 => body { D with nx := N } ρ1) (he : ∀ ρ, I zs.length ρ → D.nx ρ) : forD g body D zs ρ :=
  forD_at I zs 0 ρ h0 (fun i z ρ N hz hi hn => hs i z ρ N hz (by rw [Nat.zero_add] at hi; exact hi) (by rw [Nat.zero_add] at hn; exact hn)) fun ρ h => he ρ (by rw [Nat.zero_add] at h; exact h)
theorem range_get {lo : Int} {n i : Nat} {z : KD} (h : (rangeD lo n)[i]? = some z) : i < n ∧ z = (.fl, .int (lo + i)) := by
  refine ⟨?_, rangeD_get h⟩
  have := (List.getElem?_eq_some_iff.mp h).1
  unfold rangeD at this
  rw [List.length_map, List.length_range] at this
  exact this
theorem range_len {lo : Int} {n : Nat} : (rangeD lo n).length = n := by unfold rangeD; rw [List.length_map, List.length_range]
theorem for_range {g : GF} {body : SF} {D : DEnds} {lo : Int} {n : Nat} {ρ : Ro} (I : Nat → Ro → Prop) (h0 : I 0 ρ)
    (hs : ∀ (i : Nat) ρ (N : Ro → Prop), i < n → I i ρ → (∀ ρ', I (i + 1) ρ' → N ρ') → g (.fl, .int (lo + i)) ρ fun ρ1 => body { D with nx := N } ρ1) (he : ∀ ρ, I n ρ → D.nx ρ) : forD g body D (rangeD lo n) ρ :=
  for_ind I h0 (fun i z ρ N hz hi hn => by obtain ⟨a, rfl⟩ := range_get hz; exact hs i ρ N a hi hn) fun ρ h => he ρ (by rw [range_len] at h; exact h)
theorem for_range0 {g : GF} {body : SF} {D : DEnds} {n : Nat} {ρ : Ro} (I : Nat → Ro → Prop) (h0 : I 0 ρ)
    (hs : ∀ (i : Nat) ρ (N : Ro → Prop), i < n → I i ρ → (∀ ρ', I (i + 1) ρ' → N ρ') → g (.fl, .int i) ρ fun ρ1 => body { D with nx := N } ρ1) (he : ∀ ρ, I n ρ → D.nx ρ) : forD g body D (rangeD 0 n) ρ :=
  for_range I h0 (fun i ρ N hi h hn => by rw [Int.zero_add]; exact hs i ρ N hi h hn) he
theorem compL_at {step : KD → (Option KD → Prop) → Prop} {P : List KD → Prop} (I : Nat → List KD → Prop) : ∀ (zs : List KD) (i0 : Nat) (acc : List KD), I i0 acc →
    (∀ (i : Nat) z acc (N : Option KD → Prop), zs[i]? = some z → I (i0 + i) acc → (∀ y, I (i0 + i + 1) (acc ++ [y]) → N (some y)) → (I (i0 + i + 1) acc → N none) → step z N) →
    (∀ acc, I (i0 + zs.length) acc → P acc) → compL step zs acc P
  | [], i0, acc, h, _, e => e acc h
  | z :: zs, i0, acc, h, s, e => by
    have rec_ : ∀ acc', I (i0 + 0 + 1) acc' → compL step zs acc' P := fun acc' h' => compL_at I zs (i0 + 1) acc' h' (fun i z acc N hz hi hn h0 => by
      have e1 : i0 + 1 + i = i0 + (i + 1) := by omega
      rw [e1] at hi hn h0
      exact s (i + 1) z acc N hz hi hn h0) fun acc hi => by
      have e1 : i0 + 1 + zs.length = i0 + (zs.length + 1) := by omega
      rw [e1] at hi
      exact e acc hi
    exact s 0 z acc _ rfl h (fun y hy => rec_ _ hy) fun hy => rec_ _ hy
theorem comp_ind {step : KD → (Option KD → Prop) → Prop} {P : List KD → Prop} {zs : List KD} (I : Nat → List KD → Prop) (h0 : I 0 [])
    (hs : ∀ (i : Nat) z acc (N : Option KD → Prop), zs[i]? = some z → I i acc → (∀ y, I (i + 1) (acc ++ [y]) → N (some y)) → (I (i + 1) acc → N none) → step z N) (he : ∀ acc, I zs.length acc → P acc) : compL step zs [] P :=
  compL_at I zs 0 [] h0 (fun i z acc N hz hi hn h => hs i z acc N hz (by rw [Nat.zero_add] at hi; exact hi) (by rw [Nat.zero_add] at hn; exact hn) (by rw [Nat.zero_add] at h; exact h)) fun ρ h => he ρ (by rw [Nat.zero_add] at h; exact h)
theorem take_succ_map {α β : Type} {zs : List α} {f : α → β} {i : Nat} {z : α} (h : zs[i]? = some z) : (zs.take (i + 1)).map f = (zs.take i).map f ++ [f z] := by
  rw [List.take_add_one, h, List.map_append]; rfl
theorem comp_map {step : KD → (Option KD → Prop) → Prop} {P : List KD → Prop} {zs : List KD} (f : KD → KD) (hs : ∀ (i : Nat) z (N : Option KD → Prop), zs[i]? = some z → N (some (f z)) → step z N) (he : P (zs.map f)) : compL step zs [] P := by
  refine comp_ind (fun i acc => acc = (zs.take i).map f) rfl (fun i z acc N hz hi hn _ => ?_) fun acc h => ?_
  · refine hs i z N hz (hn _ ?_)
    rw [hi, take_succ_map hz]
  · rw [h, List.take_length]; exact he
theorem comp_range {step : KD → (Option KD → Prop) → Prop} {P : List KD → Prop} {lo : Int} {n : Nat} (f : Nat → KD) (hs : ∀ (i : Nat) (N : Option KD → Prop), i < n → N (some (f i)) → step (.fl, .int (lo + i)) N) (he : P ((List.range n).map f)) : compL step (rangeD lo n) [] P := by
  refine comp_ind (fun i acc => acc = (List.range i).map f) rfl (fun i z acc N hz hi hn _ => ?_) fun acc h => ?_
  · obtain ⟨a, rfl⟩ := range_get hz
    refine hs i N a (hn _ ?_)
    rw [hi, List.range_succ, List.map_append]; rfl
  · rw [h, range_len]; exact he
theorem comp_range0 {step : KD → (Option KD → Prop) → Prop} {P : List KD → Prop} {n : Nat} (f : Nat → KD) (hs : ∀ (i : Nat) (N : Option KD → Prop), i < n → N (some (f i)) → step (.fl, .int i) N) (he : P ((List.range n).map f)) : compL step (rangeD 0 n) [] P :=
  comp_range f (fun i N hi h => by rw [Int.zero_add]; exact hs i N hi h) he
theorem compE_at {step : KD → Ro → (Option KD → Ro → Prop) → Prop} {P : List KD → Ro → Prop} (I : Nat → Ro → List KD → Prop) : ∀ (zs : List KD) (i0 : Nat) (ρ : Ro) (acc : List KD), I i0 ρ acc →
    (∀ (i : Nat) z ρ acc (N : Option KD → Ro → Prop), zs[i]? = some z → I (i0 + i) ρ acc → (∀ y ρ', I (i0 + i + 1) ρ' (acc ++ [y]) → N (some y) ρ') → (∀ ρ', I (i0 + i + 1) ρ' acc → N none ρ') → step z ρ N) →
    (∀ ρ acc, I (i0 + zs.length) ρ acc → P acc ρ) → compE step zs ρ acc P
  | [], i0, ρ, acc, h, _, e => e ρ acc h
  | z :: zs, i0, ρ, acc, h, s, e => by
    have rec_ : ∀ ρ' acc', I (i0 + 0 + 1) ρ' acc' → compE step zs ρ' acc' P := fun ρ' acc' h' => compE_at I zs (i0 + 1) ρ' acc' h' (fun i z ρ acc N hz hi hn h0 => by
      have e1 : i0 + 1 + i = i0 + (i + 1) := by omega
      rw [e1] at hi hn h0
      exact s (i + 1) z ρ acc N hz hi hn h0) fun ρ acc hi => by
      have e1 : i0 + 1 + zs.length = i0 + (zs.length + 1) := by omega
      rw [e1] at hi
      exact e ρ acc hi
    exact s 0 z ρ acc _ rfl h (fun y ρ' hy => rec_ ρ' _ hy) fun ρ' hy => rec_ ρ' _ hy
theorem compE_ind {step : KD → Ro → (Option KD → Ro → Prop) → Prop} {P : List KD → Ro → Prop} {zs : List KD} {ρ : Ro} (I : Nat → Ro → List KD → Prop) (h0 : I 0 ρ [])
    (hs : ∀ (i : Nat) z ρ acc (N : Option KD → Ro → Prop), zs[i]? = some z → I i ρ acc → (∀ y ρ', I (i + 1) ρ' (acc ++ [y]) → N (some y) ρ') → (∀ ρ', I (i + 1) ρ' acc → N none ρ') → step z ρ N) (he : ∀ ρ acc, I zs.length ρ acc → P acc ρ) : compE step zs ρ [] P :=
  compE_at I zs 0 ρ [] h0 (fun i z ρ acc N hz hi hn h => hs i z ρ acc N hz (by rw [Nat.zero_add] at hi; exact hi) (by rw [Nat.zero_add] at hn; exact hn) (by rw [Nat.zero_add] at h; exact h)) fun ρ acc h => he ρ acc (by rw [Nat.zero_add] at h; exact h)
theorem ix_tup {k k' : Kd} {ds : List D} {i : Int} {d : D} {P : KD → Prop} (h : atI ds i = some d) (p : P (kel k d)) : oIx (k, .tup ds) (k', .int i) P := by
  show (match atI ds i with | some d => P (kel k d) | none => False)
  rw [h]; exact p
theorem ix_lst {k k' : Kd} {ds : List D} {i : Int} {d : D} {P : KD → Prop} (h : atI ds i = some d) (p : P (kel k d)) : oIx (k, .lst ds) (k', .int i) P := by
  show (match atI ds i with | some d => P (kel k d) | none => False)
  rw [h]; exact p
theorem ix_kst {k k' : Kd} {ds : List D} {i : Int} {d : D} {P : KD → Prop} (h : atI ds i = some d) (p : P (kel k d)) : oIx (k, .kst ds) (k', .int i) P := by
  show (match atI ds i with | some d => P (kel k d) | none => False)
  rw [h]; exact p
abbrev tabl {α : Type} (n : Nat) (f : Nat → α) : List α := (List.range n).map f
theorem tabl_get {α : Type} {n : Nat} {f : Nat → α} {i : Nat} (h : i < n) : (tabl n f)[i]? = some (f i) := by
  rw [List.getElem?_map, List.getElem?_range h]; rfl
theorem tabl_at {α : Type} {n : Nat} {f : Nat → α} {i : Nat} (h : i < n) : L2.atI (tabl n f) (i : Int) = some (f i) := atI_nat (tabl_get h)
theorem tabl_len {α : Type} {n : Nat} {f : Nat → α} : (tabl n f).length = n := by rw [List.length_map, List.length_range]
theorem ixN_ok {n : Nat} {i : Nat} (h : i < n) : ixN n (i : Int) = some i := by
  unfold ixN
  rw [if_pos (by omega), if_pos (by omega)]; simp
def sumR (n : Nat) (f : Nat → Int) : Int := (tabl n f).sum
theorem sumR_zero (f : Nat → Int) : sumR 0 f = 0 := rfl
theorem sumR_succ (n : Nat) (f : Nat → Int) : sumR (n + 1) f = sumR n f + f n := by
  unfold sumR tabl
  rw [List.range_succ, List.map_append, List.sum_append]
  simp
theorem sumR_congr {n : Nat} {f g : Nat → Int} (h : ∀ i, i < n → f i = g i) : sumR n f = sumR n g := by
  induction n with
  | zero => rfl
  | succ n ih => rw [sumR_succ, sumR_succ, ih fun i hi => h i (Nat.lt_succ_of_lt hi), h n (Nat.lt_succ_self n)]
theorem sumR_add {n : Nat} {f g : Nat → Int} : sumR n (fun i => f i + g i) = sumR n f + sumR n g := by
  induction n with
  | zero => rfl
  | succ n ih => rw [sumR_succ, sumR_succ, sumR_succ, ih]; omega
theorem law_in {K : PySem.W.Frag} {c : CF} {H : Hp} {a : Addr} {ns : List Int} (hO : Only H) (hS : SqL K H a (ns.map V.int)) (h : c [(.fl, .kst (ns.map .int))] (fun z _ => z = (.fl, .bl true)) (fun _ _ => False)) :
    spOf K 1 [false] c [.ref a] H (fun v _ => v = .bl true) fun _ _ _ => False := by
  refine ⟨rfl, [(.fl, .kst (ns.map .int))], No, [], _, _, ?_, List.nodup_nil, fun a h => (nomatch h), fun _ h => h.elim, h, fun z ys v H' fp M' A' hz _ r => ?_, fun C ys H' M' A' hx _ => hx⟩
  · refine VRs.one ⟨rfl, a, ns.map V.int, rfl, ?_, RAs.of_ints ns⟩
    rcases hS with hS | hS
    · rcases hS with hS | ⟨o, hS⟩
      · rcases hO a with z | ⟨o, xs, z⟩
        · rw [z] at hS; cases hS
        · rw [z] at hS; cases hS
      · exact .inl (.inr ⟨o, lockd_mk hS⟩)
    · exact .inr hS
  · subst hz
    exact r.2
end DL

namespace DL
open PySem PySem.Spec PyProof.Rows L2
theorem hidE {α : Type _} (a : α) : ∃ b, b = a := ⟨a, rfl⟩
@[irreducible] noncomputable def hid {α : Type _} (a : α) : α := Classical.choose (hidE a)
theorem hid_eq {α : Type _} (a : α) : hid a = a := by unfold hid; exact Classical.choose_spec (hidE a)
noncomputable section
@[irreducible] def xIx : KD → KD → (KD → Prop) → Prop := hid oIx
@[irreducible] def kR1 (j : Int) (P : List KD → Prop) : Prop := hid (-1000000000000 ≤ j ∧ j ≤ 1000000000000 ∧ P (rangeD 0 j.toNat))
@[irreducible] def kR2 (i j : Int) (P : List KD → Prop) : Prop := hid ((-1000000000000 ≤ i ∧ i ≤ 1000000000000 ∧ -1000000000000 ≤ j ∧ j ≤ 1000000000000) ∧ P (rangeD i (j - i).toNat))
@[irreducible] def kLc (step : KD → (Option KD → Prop) → Prop) (zs : List KD) (P : KD → Prop) : Prop := hid (zs.length ≤ 10000000 ∧ compL step zs [] fun ys => P (jL ys, .lst (ys.map (·.2))))
@[irreducible] def kLcE (step : KD → Ro → (Option KD → Ro → Prop) → Prop) (zs : List KD) (ρ : Ro) (P : KD → Ro → Prop) : Prop := hid (zs.length ≤ 10000000 ∧ compE step zs ρ [] fun ys ρ' => P (jL ys, .lst (ys.map (·.2))) ρ')
@[irreducible] def kFor (g : GF) (body : SF) (D : DEnds) (zs : List KD) (ρ : Ro) : Prop := hid (forD g body D zs ρ)
@[irreducible] def sWhileX (t : TEF) (body : SF) : SF := hid (sWhile t body)
@[irreducible] def kPl (e j : D) (P : D → (D → D) → Prop) : Prop := hid (match e, j with
  | .lst ds, .int j => (match ixN ds.length j with
    | some n => (match ds[n]? with | some c => P c (fun c' => .lst (ds.set n c')) | none => False)
    | none => False)
  | .tup ds, .int j => (match ixN ds.length j with
    | some n => (match ds[n]? with | some c => P c (fun c' => .tup (ds.set n c')) | none => False)
    | none => False)
  | _, _ => False)
@[irreducible] def kSt : D → KD → KD → Kd → (Kd → D → Prop) → Prop := hid stIx
@[irreducible] def xPopAt : MOF := hid qPopAt
@[irreducible] def xPop : MOF := hid qPop
@[irreducible] def xExtend : MOF := hid mExtend
@[irreducible] def xRemove : MOF := hid mRemove
@[irreducible] def kLR (n : Int) (P : KD → Prop) : Prop := hid (n ≤ 1000000 ∧ -1000000 ≤ n ∧ P (.sh, .lst ((List.range n.toNat).map fun i : Nat => .int i)))
@[irreducible] def kTR (n : Int) (P : KD → Prop) : Prop := hid (n ≤ 1000000 ∧ -1000000 ≤ n ∧ P (.fl, .tup ((List.range n.toNat).map fun i : Nat => .int i)))
theorem xIx_eq : xIx = oIx := by unfold xIx; simp only [hid_eq]; try rfl
def jR1 (f : PAF) : IF := fun ρ P => f ρ fun zs => match zs with
  | [(_, .int j)] => kR1 j P
  | _ => False
theorem jR1_eq : jR1 = iR1 := by unfold jR1 kR1; simp only [hid_eq]; try rfl
def jR2 (f : PAF) : IF := fun ρ P => f ρ fun zs => match zs with
  | [(_, .int i), (_, .int j)] => kR2 i j P
  | _ => False
theorem jR2_eq : jR2 = iR2 := by unfold jR2 kR2; simp only [hid_eq]; try rfl
def pLcX (src : IF) (is : List Nat) (g : GF) (tt : PTF) (fe : PF) : PF := fun ρ P => src ρ fun zs =>
  kLc (fun z Q => g z (wipeR (rdAll ρ) is) fun ρ1 => tt ρ1 fun b => if b = true then fe ρ1 fun y => Q (some y) else Q none) zs P
theorem pLcX_eq : pLcX = pLc := by unfold pLcX kLc; simp only [hid_eq]; try rfl
def eLcX (src : IF) (is : List Nat) (g : GF) (tt : PTF) (fe : EF) : EF := fun ρ P _ => src (rdOnly ρ) fun zs => kLcE (stepE is g tt fe) zs (wipeR ρ is) P
theorem eLcX_eq : eLcX = eLc := by unfold eLcX kLcE; simp only [hid_eq]; try rfl
def sForX (src : IF) (g : GF) (body : SF) : SF := fun D ρ => src (rdOnly ρ) fun zs => kFor g body D zs ρ
theorem sForX_eq : sForX = sFor := by unfold sForX kFor; simp only [hid_eq]; try rfl
def plIxX (pl : PLF) (f : PF) : PLF := fun ρ P => pl ρ fun i k e rb => f ρ fun y => kPl e y.2 fun c r => P i .ow c fun c' => rb (r c')
theorem plIxX_eq : plIxX = plIx := by
  unfold plIxX kPl plIx
  funext pl f ρ P
  simp only [hid_eq]
  all_goals (
    refine congrArg _ (funext fun i => funext fun k => funext fun e => funext fun rb => congrArg _ (funext fun y => ?_))
    obtain ⟨ky, dy⟩ := y
    cases e <;> cases dy <;> rfl)
def sStIxX (fe : EF) (pl : PLF) (fi : PF) : SF := fun D ρ => fe ρ (fun z ρ1 => pl ρ1 fun i k e rb => fi ρ1 fun y => kSt e y z k fun k' e' => D.nx (ρ1.set i (some (k', rb e')))) D.ex
theorem sStIxX_eq : sStIxX = sStIx := by unfold sStIxX kSt; simp only [hid_eq]; try rfl
def pLR1X (f : PF) : PF := fun ρ P => f ρ fun z => match z.2 with
  | .int n => kLR n P
  | _ => False
theorem pLR1X_eq : pLR1X = pLR1 := by unfold pLR1X kLR; simp only [hid_eq]; try rfl
def pTR1X (f : PF) : PF := fun ρ P => f ρ fun z => match z.2 with
  | .int n => kTR n P
  | _ => False
theorem pTR1X_eq : pTR1X = pTR1 := by unfold pTR1X kTR; simp only [hid_eq]; try rfl
theorem xPopAt_eq : xPopAt = qPopAt := by unfold xPopAt; simp only [hid_eq]; try rfl
theorem xPop_eq : xPop = qPop := by unfold xPop; simp only [hid_eq]; try rfl
section
variable {K : Frg}
theorem xs_popAt : MSound K rPopAt xPopAt := xPopAt_eq ▸ ms_popAt
theorem xs_pop : MSound K rPop xPop := xPop_eq ▸ ms_pop
end
theorem DP.as {X : Cx} {e : Expr} {f g : PF} (e2 : g = f) (h : DP X e f) : DP X e g := e2 ▸ h
theorem DE.as {X : Cx} {E : XK} {e : Expr} {f g : EF} (e2 : g = f) (h : DE X E e f) : DE X E e g := e2 ▸ h
theorem DS.as {X : Cx} {E : XK} {pr : List Nat} {e : Stmt} {f g : SF} (e2 : g = f) (h : DS X E pr e f) : DS X E pr e g := e2 ▸ h
theorem DI.as {X : Cx} {tg e : Expr} {f g : IF} (e2 : g = f) (h : DI X tg e f) : DI X tg e g := e2 ▸ h
theorem DPl.as {X : Cx} {e : Expr} {f g : PLF} (e2 : g = f) (h : DPl X e f) : DPl X e g := e2 ▸ h
theorem eqIx (a b : PF) : pOp xIx a b = pOp oIx a b := by rw [xIx_eq]
theorem eqSetLc (i : Nat) (src : IF) (is : List Nat) (g : GF) (tt : PTF) (fe : PF) : sSet i (eP (pLcX src is g tt fe)) = sSet i (eP (pLc src is g tt fe)) := by rw [pLcX_eq]
theorem eq1 {α β : Type _} {f g : α → β} (h : f = g) (a : α) : f a = g a := by rw [h]
theorem eq2 {α β γ : Type _} {f g : α → β → γ} (h : f = g) (a : α) (b : β) : f a b = g a b := by rw [h]
theorem eq3 {α β γ δ : Type _} {f g : α → β → γ → δ} (h : f = g) (a : α) (b : β) (c : γ) : f a b c = g a b c := by rw [h]
theorem eq5 {α β γ δ ε ζ : Type _} {f g : α → β → γ → δ → ε → ζ} (h : f = g) (a : α) (b : β) (c : γ) (d : δ) (e : ε) : f a b c d e = g a b c d e := by rw [h]
theorem go_ix {k k' : Kd} {d0 : D} {ds : List D} {i : Int} {d : D} {P : KD → Prop} (hs : d0.seq = some ds) (h : atI ds i = some d) (p : P (kel k d)) : xIx (k, d0) (k', .int i) P := by
  rw [xIx_eq]
  cases d0 <;> cases hs
  · exact ix_tup h p
  · exact ix_lst h p
  · exact ix_kst h p
theorem go_tab {k k' : Kd} {n i : Nat} {f : Nat → D} {P : KD → Prop} (h : i < n) (p : P (kel k (f i))) : xIx (k, .tup (tabl n f)) (k', .int i) P := go_ix rfl (tabl_at h) p
theorem go_tabl {k k' : Kd} {n i : Nat} {f : Nat → D} {P : KD → Prop} (h : i < n) (p : P (kel k (f i))) : xIx (k, .lst (tabl n f)) (k', .int i) P := go_ix rfl (tabl_at h) p
theorem go_R1 {j : Int} {n : Nat} {P : List KD → Prop} (hj : j = n) (hn : n ≤ 1000000000) (p : P (rangeD 0 n)) : kR1 j P := by
  unfold kR1; rw [hid_eq]
  subst hj
  refine ⟨by omega, by omega, ?_⟩
  rw [Int.toNat_natCast]; exact p
theorem go_R2 {i j : Int} {n : Nat} {P : List KD → Prop} (hj : j - i = n) (h0 : -1000000000000 ≤ i ∧ i ≤ 1000000000000 ∧ -1000000000000 ≤ j ∧ j ≤ 1000000000000) (p : P (rangeD i n)) : kR2 i j P := by
  unfold kR2; rw [hid_eq]
  refine ⟨h0, ?_⟩
  rw [hj, Int.toNat_natCast]; exact p
theorem jT_fl : ∀ {zs : List KD}, (∀ z ∈ zs, z.1 = .fl) → jT zs = .fl
  | [], _ => rfl
  | z :: zs, h => by
    show jn z.1 (jT zs) = .fl
    rw [h z (List.mem_cons_self ..), jT_fl fun y hy => h y (List.mem_cons_of_mem _ hy)]; rfl
theorem jL_fl {zs : List KD} (h : ∀ z ∈ zs, z.1 = .fl) : jL zs = .sh := by unfold jL; rw [jT_fl h]
theorem jL_flm {α : Type} {zs : List α} {f : α → D} : jL (zs.map fun z => ((.fl, f z) : KD)) = .sh := jL_fl fun z hz => by
  obtain ⟨a, _, rfl⟩ := List.mem_map.mp hz; rfl
theorem snd_flm {α : Type} {k : Kd} {zs : List α} {f : α → D} : (zs.map fun z => ((k, f z) : KD)).map (·.2) = zs.map f := by rw [List.map_map]; rfl
theorem go_Lc0 {step : KD → (Option KD → Prop) → Prop} {n : Nat} {P : KD → Prop} (f : Nat → D) (hn : n ≤ 10000000) (hs : ∀ (i : Nat) (N : Option KD → Prop), i < n → N (some (.fl, f i)) → step (.fl, .int i) N) (h : P (.sh, .lst (tabl n f))) : kLc step (rangeD 0 n) P := by
  unfold kLc; rw [hid_eq]
  refine ⟨by rw [range_len]; exact hn, comp_range0 (fun i => (.fl, f i)) hs ?_⟩
  rw [jL_flm, snd_flm]; exact h
theorem go_Lc {step : KD → (Option KD → Prop) → Prop} {zs : List KD} {P : KD → Prop} (f : KD → D) (hn : zs.length ≤ 10000000) (hs : ∀ (i : Nat) z (N : Option KD → Prop), zs[i]? = some z → N (some (.fl, f z)) → step z N) (h : P (.sh, .lst (zs.map f))) : kLc step zs P := by
  unfold kLc; rw [hid_eq]
  refine ⟨hn, comp_map (fun z => (.fl, f z)) hs ?_⟩
  rw [jL_flm, snd_flm]; exact h
theorem go_LcT {step : KD → (Option KD → Prop) → Prop} {n : Nat} {k : Kd} {g : Nat → D} {P : KD → Prop} (f : Nat → D) (hn : n ≤ 10000000) (hs : ∀ (i : Nat) (N : Option KD → Prop), i < n → N (some (.fl, f i)) → step (kel k (g i)) N) (h : P (.sh, .lst (tabl n f))) : kLc step ((tabl n g).map (kel k)) P := by
  unfold kLc; rw [hid_eq]
  rw [List.map_map]
  refine ⟨by rw [List.length_map, List.length_range]; exact hn, comp_ind (fun i acc => acc = (List.range i).map fun j => (.fl, f j)) rfl (fun i z acc N hz hi hN _ => ?_) fun acc h2 => ?_⟩
  · have hi' : i < n := by
      have := (List.getElem?_eq_some_iff.mp hz).1
      rw [List.length_map, List.length_range] at this; exact this
    rw [List.getElem?_map, List.getElem?_range hi'] at hz
    have e : kel k (g i) = z := Option.some.inj hz
    subst e
    refine hs i N hi' (hN _ ?_)
    rw [hi, List.range_succ, List.map_append]; rfl
  · rw [List.length_map, List.length_range] at h2
    rw [h2, jL_flm, snd_flm]; exact h
theorem go_For {g : GF} {body : SF} {D : DEnds} {zs : List KD} {ρ : Ro} (I : Nat → Ro → Prop) (h0 : I 0 ρ)
    (hs : ∀ (i : Nat) z ρ (N : Ro → Prop), zs[i]? = some z → I i ρ → (∀ ρ', I (i + 1) ρ' → N ρ') → g z ρ fun ρ1 => body { D with nx := N } ρ1) (he : ∀ ρ, I zs.length ρ → D.nx ρ) : kFor g body D zs ρ := by
  unfold kFor; rw [hid_eq]; exact for_ind I h0 hs he
theorem go_For0 {g : GF} {body : SF} {D : DEnds} {n : Nat} {ρ : Ro} (I : Nat → Ro → Prop) (h0 : I 0 ρ)
    (hs : ∀ (i : Nat) ρ (N : Ro → Prop), i < n → I i ρ → (∀ ρ', I (i + 1) ρ' → N ρ') → g (.fl, .int i) ρ fun ρ1 => body { D with nx := N } ρ1) (he : ∀ ρ, I n ρ → D.nx ρ) : kFor g body D (rangeD 0 n) ρ := by
  unfold kFor; rw [hid_eq]; exact for_range0 I h0 hs he
theorem go_LcE {step : KD → Ro → (Option KD → Ro → Prop) → Prop} {zs : List KD} {ρ : Ro} {P : KD → Ro → Prop} (I : Nat → Ro → List KD → Prop) (hn : zs.length ≤ 10000000) (h0 : I 0 ρ [])
    (hs : ∀ (i : Nat) z ρ acc (N : Option KD → Ro → Prop), zs[i]? = some z → I i ρ acc → (∀ y ρ', I (i + 1) ρ' (acc ++ [y]) → N (some y) ρ') → (∀ ρ', I (i + 1) ρ' acc → N none ρ') → step z ρ N) (he : ∀ ρ acc, I zs.length ρ acc → P (jL acc, .lst (acc.map (·.2))) ρ) : kLcE step zs ρ P := by
  unfold kLcE; rw [hid_eq]; exact ⟨hn, compE_ind I h0 hs fun ρ acc h => he ρ acc h⟩
theorem tabl_congr {α : Type} {n : Nat} {f g : Nat → α} (h : ∀ i, i < n → f i = g i) : tabl n f = tabl n g := List.map_congr_left fun i hi => h i (List.mem_range.mp hi)
theorem go_pl {d0 : D} {i : Int} {j : Nat} {ds : List D} {c : D} {P : D → (D → D) → Prop} (hd : d0 = .lst ds) (hj : ixN ds.length i = some j) (hc : ds[j]? = some c) (p : P c fun c' => .lst (ds.set j c')) : kPl d0 (.int i) P := by
  subst hd
  unfold kPl; rw [hid_eq]
  show (match ixN ds.length i with
    | some n => (match ds[n]? with | some c => P c (fun c' => .lst (ds.set n c')) | none => False)
    | none => False)
  rw [hj]
  show (match ds[j]? with | some c => P c (fun c' => .lst (ds.set j c')) | none => False)
  rw [hc]; exact p
theorem go_st {ds : List D} {k' : Kd} {i : Int} {j : Nat} {z : KD} {k : Kd} {P : Kd → D → Prop} (hz : ownK z.1 = true) (hj : ixN ds.length i = some j) (p : P (nk k z.1) (.lst (ds.set j z.2))) : kSt (.lst ds) (k', .int i) z k P := by
  unfold kSt; rw [hid_eq]
  refine ⟨hz, ?_⟩
  show (match ixN ds.length i with
    | some n => P (nk k z.1) (.lst (ds.set n z.2))
    | none => False)
  rw [hj]; exact p
theorem set_tabl {α : Type} {n j : Nat} {f : Nat → α} {x : α} : (tabl n f).set j x = tabl n fun i => if i = j then x else f i := by
  refine List.ext_getElem? fun i => ?_
  by_cases hi : i < n
  · rw [tabl_get hi]
    by_cases e : i = j
    · subst e
      rw [List.getElem?_set_self (by rw [tabl_len]; exact hi), if_pos rfl]
    · rw [List.getElem?_set_ne (fun h => e h.symm), tabl_get hi, if_neg e]
  · rw [List.getElem?_eq_none (by rw [List.length_set, tabl_len]; omega), List.getElem?_eq_none (by rw [tabl_len]; omega)]
theorem go_stT {n : Nat} {f : Nat → D} {k' : Kd} {j : Nat} {z : KD} {k : Kd} {P : Kd → D → Prop} (hz : ownK z.1 = true) (hj : j < n) (p : P (nk k z.1) (.lst (tabl n fun i => if i = j then z.2 else f i))) : kSt (.lst (tabl n f)) (k', .int j) z k P :=
  go_st hz (by rw [tabl_len]; exact ixN_ok hj) (by rw [set_tabl]; exact p)
theorem go_popAt {k k' : Kd} {ds : List D} {i : Int} {j : Nat} {d : D} {P : KD → Kd → D → Prop} (hk : k = .sh ∨ k = .ow) (hn : ds.length ≤ 10000000) (hj : ixN ds.length i = some j) (hd : ds[j]? = some d) (p : P (kmv (if k = .sh then .fl else .ow) d) (nk k .fl) (.lst (ds.eraseIdx j))) : xPopAt k (.lst ds) [(k', .int i)] P := by
  unfold xPopAt; rw [hid_eq]
  refine ⟨hk, hn, ?_⟩
  show (match ixN ds.length i with
    | some n => (match ds[n]? with
      | some d => P (kmv (if k = .sh then .fl else .ow) d) (nk k .fl) (.lst (ds.eraseIdx n))
      | none => False)
    | none => False)
  rw [hj]
  show (match ds[j]? with
      | some d => P (kmv (if k = .sh then .fl else .ow) d) (nk k .fl) (.lst (ds.eraseIdx j))
      | none => False)
  rw [hd]; exact p
theorem go_pop {k : Kd} {ds : List D} {d : D} {P : KD → Kd → D → Prop} (hk : k = .sh ∨ k = .ow) (hd : ds.getLast? = some d) (p : P (kmv (if k = .sh then .fl else .ow) d) (nk k .fl) (.lst ds.dropLast)) : xPop k (.lst ds) [] P := by
  unfold xPop; rw [hid_eq]
  refine ⟨hk, ?_⟩
  show (match ds.getLast? with
    | some d => P (kmv (if k = .sh then .fl else .ow) d) (nk k .fl) (.lst ds.dropLast)
    | none => False)
  rw [hd]; exact p
theorem go_extend {k kz : Kd} {ds es : List D} {P : KD → Kd → D → Prop} (hk : kz = .sh ∨ kz = .sa ∨ kz = .ow) (hn : ds.length + es.length ≤ 10000000) (p : P (.fl, .non) (nk k (if kz = .ow then .ow else .fl)) (.lst (ds ++ es))) : xExtend k (.lst ds) [(kz, .lst es)] P := by
  unfold xExtend; rw [hid_eq]; exact ⟨hk, hn, p⟩
theorem go_LR {n : Nat} {i : Int} {P : KD → Prop} (hi : i = n) (hn : n ≤ 1000000) (p : P (.sh, .lst (tabl n fun i : Nat => .int i))) : kLR i P := by
  subst hi
  unfold kLR; rw [hid_eq]
  refine ⟨by omega, by omega, ?_⟩
  rw [Int.toNat_natCast]; exact p
theorem go_TR {n : Nat} {i : Int} {P : KD → Prop} (hi : i = n) (hn : n ≤ 1000000) (p : P (.fl, .tup (tabl n fun i : Nat => .int i))) : kTR i P := by
  subst hi
  unfold kTR; rw [hid_eq]
  refine ⟨by omega, by omega, ?_⟩
  rw [Int.toNat_natCast]; exact p
end
end DL

namespace DL
open PySem PySem.Spec PyProof.Rows L2
noncomputable section
section
variable {X : Cx} {E : XK} {pos : Pos} {a b : Expr} {fa fb : EF}
theorem de_ix (ha : DE X E a fa) (hb : DE X E b fb) (hs : PlainIx b := by exact fun _ _ => rfl) : DE X E (.Subscript a b pos) (eOp xIx fa fb) := by
  rw [xIx_eq]
  obtain ⟨ta, ea, sa⟩ := ha.run
  obtain ⟨tb, eb, sb⟩ := hb.run
  exact ⟨_, pe_ix ix_seq ea eb hs, es_op os_ix sa sb⟩
end
theorem go_tabE {k k' : Kd} {n i : Nat} {f : Nat → D} {d : D} {P : KD → Prop} (h : i < n) (e : f i = d) (p : P (kel k d)) : xIx (k, .tup (tabl n f)) (k', .int i) P := by
  subst e; exact go_tab h p
theorem go_ForL {α : Type} {L : List α} {F : α → DL.D} {k : Kd} {g : GF} {body : SF} {D : DEnds} {ρ : Ro} (I : Nat → Ro → Prop) (h0 : I 0 ρ)
    (hs : ∀ (i : Nat) a ρ (N : Ro → Prop), L[i]? = some a → I i ρ → (∀ ρ', I (i + 1) ρ' → N ρ') → g (kel k (F a)) ρ fun ρ1 => body { D with nx := N } ρ1) (he : ∀ ρ, I L.length ρ → D.nx ρ) : kFor g body D ((L.map F).map (kel k)) ρ := by
  refine go_For I h0 (fun i z ρ N hz hi hN => ?_) fun ρ h => he ρ (by rw [List.length_map, List.length_map] at h; exact h)
  rw [List.map_map, List.getElem?_map] at hz
  cases e : L[i]? with
  | none => rw [e] at hz; cases hz
  | some a =>
    rw [e] at hz
    have e2 : kel k (F a) = z := Option.some.inj hz
    subst e2
    exact hs i a ρ N e hi hN
theorem go_LcL {α : Type} {L : List α} {G : α → D} {k : Kd} {step : KD → (Option KD → Prop) → Prop} {P : KD → Prop} (f : α → D) (hn : L.length ≤ 10000000)
    (hs : ∀ (i : Nat) a (N : Option KD → Prop), L[i]? = some a → N (some (.fl, f a)) → step (kel k (G a)) N) (h : P (.sh, .lst (L.map f))) : kLc step ((L.map G).map (kel k)) P := by
  unfold kLc; rw [hid_eq]
  refine ⟨by rw [List.length_map, List.length_map]; exact hn, comp_ind (fun i acc => acc = (L.take i).map fun a => (.fl, f a)) rfl (fun i z acc N hz hi hN _ => ?_) fun acc h2 => ?_⟩
  · rw [List.map_map, List.getElem?_map] at hz
    cases e : L[i]? with
    | none => rw [e] at hz; cases hz
    | some a =>
      rw [e] at hz
      have e2 : kel k (G a) = z := Option.some.inj hz
      subst e2
      refine hs i a N e (hN _ ?_)
      rw [hi, take_succ_map e]
  · rw [List.length_map, List.length_map, List.take_length] at h2
    rw [h2, jL_flm, snd_flm]; exact h
theorem go_LcF0 {step : KD → (Option KD → Prop) → Prop} {n : Nat} {P : KD → Prop} (s : Nat → Bool) (f : Nat → D) (hn : n ≤ 10000000)
    (hs : ∀ (i : Nat) (N : Option KD → Prop), i < n → (s i = true → N (some (.fl, f i))) → (s i = false → N none) → step (.fl, .int i) N) (h : P (.sh, .lst (((List.range n).filter s).map f))) : kLc step (rangeD 0 n) P := by
  unfold kLc; rw [hid_eq]
  refine ⟨by rw [range_len]; exact hn, comp_ind (fun i acc => acc = ((List.range i).filter s).map fun j => (.fl, f j)) rfl (fun i z acc N hz hi hN hN0 => ?_) fun acc h2 => ?_⟩
  · obtain ⟨hi', rfl⟩ := range_get hz
    rw [Int.zero_add]
    refine hs i N hi' (fun e => hN _ ?_) fun e => hN0 ?_
    · rw [hi, List.range_succ, List.filter_append, List.map_append]
      show _ = _ ++ List.map _ (List.filter s [i])
      rw [List.filter_cons_of_pos e]; rfl
    · rw [hi, List.range_succ, List.filter_append, List.map_append]
      show _ = _ ++ List.map _ (List.filter s [i])
      rw [List.filter_cons_of_neg (by rw [e]; decide)]; exact (List.append_nil _).symm
  · rw [range_len] at h2
    rw [h2, jL_flm, snd_flm]; exact h
theorem go_sumL {α : Type} {k : Kd} {L : List α} {g : α → Int} {P : KD → Prop} (p : P (.fl, .int (L.map g).sum)) : oSum [(k, .lst (L.map fun a => .int (g a)))] P := ⟨L.map g, by rw [List.map_map]; rfl, p⟩
theorem take_sum {α : Type} {L : List α} {f : α → Int} {i : Nat} {a : α} (h : L[i]? = some a) : ((L.take (i + 1)).map f).sum = ((L.take i).map f).sum + f a := by
  rw [take_succ_map h, List.sum_append]; simp
theorem filter_sum (n : Nat) (s : Nat → Bool) (f : Nat → Int) : (((List.range n).filter s).map f).sum = sumR n fun i => if s i = true then f i else 0 := by
  induction n with
  | zero => rfl
  | succ n ih =>
    rw [List.range_succ, List.filter_append, List.map_append, List.sum_append, ih, sumR_succ]
    cases e : s n
    · rw [List.filter_cons_of_neg (by rw [e]; decide)]; simp
    · rw [List.filter_cons_of_pos e]; simp
theorem go_ixC {k k' : Kd} {d0 : D} {ds : List D} {i : Int} {P : KD → Prop} (C : D → Prop) (hs : d0.seq = some ds) (h : ∃ d, atI ds i = some d ∧ C d) (p : ∀ d, C d → P (kel k d)) : xIx (k, d0) (k', .int i) P := by
  obtain ⟨d, e, c⟩ := h
  exact go_ix hs e (p d c)
end
end DL

namespace DL
open PySem PySem.Spec PyProof.Rows L2
open AutoSeq1 (wpAny_loadPart')
theorem enum_newT (l : Addr) (its : Array Value) (n : Nat) (dct : Option Addr) (sl : Array (Option Value)) :
    Meets (Builtin.«enumerate.__new__» ⟨[.type "enumerate", .ref l], []⟩) (fun _ R s => s.heap.get? l = some { cls := .type "tuple", dict := dct, data := .seq its n, slots := sl } ∧
      R (.ok (.ret (.ref (s.heap.push { cls := .type "tuple_iterator", data := .fields #[.ref l, .int 0 0] }).objs.size)))
        { s with heap := (s.heap.push { cls := .type "tuple_iterator", data := .fields #[.ref l, .int 0 0] }).push { cls := .type "enumerate", data := .fields #[.none, .bool false, .ref s.heap.objs.size, rawInt 0, .none, .none] } }) := by
  refine .of_wp fun prog w A R st h => ?_
  obtain ⟨hp, g, d, tk, os⟩ := st
  obtain ⟨hl, h⟩ := h
  have hsub := sub_enumerate
  have hT : Heap.IsTuple (Shared.heap ⟨hp, g, d, tk, os⟩) l its := ⟨_, hl, rfl, n, rfl⟩
  wp_walk using wpAny_loadPart' hl
  refine wpAny_stack_any fun st2 => wpAny_pure ?_
  split
  · rename_i c _ _ _ _ _
    cases (c == Value.type "enumerate") <;> (wp_walk using wpAny_loadPart' hl, wpAny_pyIter_tuple hT; exact ⟨_, rfl, h⟩)
  · wp_walk using wpAny_loadPart' hl, wpAny_pyIter_tuple hT
    exact ⟨_, rfl, h⟩
section
variable {prog : Program} {w : World} {A : Around} {E : Value → Shared → Prop} {s : Shared}
theorem call_enumT {l : Addr} {its : Array Value} {Q : Value → Shared → Prop} (hL : s.heap.IsTuple l its)
    (h : ∀ h', IsEnum h' (s.heap.objs.size + 1) s.heap.objs.size 0 .none → h'.IsTupleIter s.heap.objs.size l 0 →
      (∀ b o, s.heap.get? b = some o → h'.get? b = some o) → Q (.ref (s.heap.objs.size + 1)) { s with heap := h' }) : wpAny (model prog w) A (call (.type "enumerate") [.ref l]) Q E s := by
  obtain ⟨⟨c, dct, dt, sl⟩, hl, hc, n, hd⟩ := hL
  have hc2 : c = .type "tuple" := hc
  have hd2 : dt = .seq its n := hd
  subst hc2 hd2
  refine callType_new F.called_enumerate (by decide) (F.typeCall_enumerate_1 _) (F.newCall_enumerate_1 _) (fun obj => F.args_object_init_2 obj _) F.entry_enumerate_new (enum_newT l its n dct sl) ⟨hl, ?_⟩
  have hz : (s.heap.push { cls := .type "tuple_iterator", data := .fields #[.ref l, .int 0 0] }).objs.size = s.heap.objs.size + 1 := by rw [Heap.size_push]
  show _ ∧ _
  rw [hz]
  have he : IsEnum ((s.heap.push { cls := .type "tuple_iterator", data := .fields #[.ref l, .int 0 0] }).push { cls := .type "enumerate", data := .fields #[.none, .bool false, .ref s.heap.objs.size, rawInt 0, .none, .none] })
      (s.heap.objs.size + 1) s.heap.objs.size 0 .none := by
    have q := Heap.get?_push_size (s.heap.push { cls := .type "tuple_iterator", data := .fields #[.ref l, .int 0 0] }) (o := { cls := .type "enumerate", data := .fields #[.none, .bool false, .ref s.heap.objs.size, rawInt 0, .none, .none] }) rfl
    rw [hz] at q; exact q
  exact ⟨⟨_, he, rfl⟩, h _ he ⟨_, Heap.get?_push_of_some _ (Heap.get?_push_size _ rfl), rfl, rfl⟩ fun b o x => Heap.get?_push_of_some _ (Heap.get?_push_of_some _ x)⟩
theorem pyNext_enumT_end {e it l : Addr} {i : Nat} {its : Array Value} {old : Value} {Q : Option Value → Shared → Prop} (hh : A.handled = none) (he : IsEnum s.heap e it i old) (hit : s.heap.IsTupleIter it l i) (hl : s.heap.IsTuple l its) (hx : its[i]? = none)
    (hQ : ∀ h', Heap.ExtBut it s.heap h' → Q none { s with heap := h' }) : wpAny (model prog w) A (pyNext (.ref e)) Q E s := by
  have hT : s.TypeIs (.ref e) "enumerate" := ⟨_, he, rfl⟩
  unfold pyNext
  refine wpAny_bind (wpAny_attempt (wpAny_callSpecial?_slot (name := Str.ofString "__next__") hT F.slot_enumerate_next (wpAny_call_entry F.slot_enumerate_next hT F.entry_enumerate_next ?_ (F.args_enumerate_next_1 _))))
  show wpAny _ _ (field (.ref e) 2 >>= _) _ _ _
  refine wpAny_bind (wpAny_field he rfl (x := .ref it) rfl (wpAny_bind (wpAny_nextOf_tuple_end hh hit hl hx fun h' x he' hx' => ?_)))
  obtain ⟨o, ho, hc⟩ := hx'
  exact wpAny_bind (wpAny_isInstance (T := "StopIteration") (b := true) ⟨o, ho, hc⟩ isSubtype_stop (wpAny_pure (hQ _ he')))
end
def IteT (K : PySem.W.Frag) (a : Addr) : It :=
  ⟨fun i H => ∃ (xs : List V) (x : V), SqT K H a xs ∧ xs[i]? = some x, fun i H v H' => ∃ T x, v = .ref T ∧ H T = none ∧ H' = upd H T (.tup [.int (i : Nat), x]) ∧ ∀ xs, SqT K H a xs → xs[i]? = some x, fun i H => ∃ xs : List V, SqT K H a xs ∧ xs.length ≤ i⟩
theorem turn_enumT {P : Program} {w : World} {K : PySem.W.Frag} {elts : List Expr} {kk : Nat} {tpos : Pos} (a e it : Addr) :
    Turn P w K (.Tuple elts kk tpos) (IteT K a) [e, it] e (fun i h => (∃ old, IsEnum h e it ((i : Nat) : Int) old) ∧ h.IsTupleIter it a i ∧ e ≠ it) where
  mem := by simp
  obj := fun i h st b hb => by
    obtain ⟨⟨old, he⟩, ⟨o, ho, hc, hd⟩, _⟩ := st
    rcases (by simpa using hb : b = e ∨ b = it) with z | z
    · rw [z]; exact ⟨_, he, fun v q => nomatch q⟩
    · rw [z]; exact ⟨o, ho, fun v q => by rw [hd] at q; cases q⟩
  keep := fun i h h' st k => ⟨⟨st.1.choose, k e (by simp) _ st.1.choose_spec⟩, st.2.1.at fun o q => k it (by simp) o q, st.2.2⟩
  item := by
    intro X hP hw hK hc i pins s σ H E I hf st hg
    subst hP hw hK
    obtain ⟨⟨old, he⟩, hit, hne⟩ := st
    obtain ⟨xs, x, hq, hx⟩ := hg
    obtain ⟨its, rv, p, hz⟩ := I.tuple hq
    obtain ⟨u, hu, ru⟩ := rv.get hx
    have hi : i < its.toArray.size := by rw [List.size_toArray]; exact (List.getElem?_eq_some_iff.mp hu).1
    have pT : s.heap.IsTuple a its.toArray := p
    have hai : a ≠ it := fun q => by
      obtain ⟨o, ho, hcl, _⟩ := pT
      obtain ⟨o2, ho2, hc2, _⟩ := hit
      rw [q, ho2] at ho
      cases ho
      rw [hc2] at hcl
      injection hcl with q2
      exact absurd q2 (by decide)
    have hae : e ≠ a := fun q => by
      obtain ⟨o, ho, hcl, _⟩ := pT
      rw [← q, he] at ho
      cases ho
      injection hcl with q2
      exact absurd q2 (by decide)
    have hel : e < s.heap.objs.size := Heap.lt_size he
    have hil : it < s.heap.objs.size := by obtain ⟨_, q, _⟩ := hit; exact Heap.lt_size q
    refine wpAny_pyNext_enum_itemD (Draws.tuple (show X.A.in1.handled = none from I.ok.hd hc) it a hai its.toArray) he ⟨hit, pT⟩ hi hne (by simp [hne, hae]) fun v h' tk hv ho hit' hT hsz hk => ?_
    have ev : v = u := by
      have q : its.toArray[i]? = some u := by simpa using hu
      rw [q] at hv; exact (Option.some.inj hv).symm
    subst ev
    refine ⟨_, rfl, wpAny_letOwnedTupleGo_enum (s := { s with heap := h', toks := tk + 1 }) ho fun h'' he' sb => ?_⟩
    have hT2 : h''.get? s.heap.objs.size = some { cls := .type "tuple", data := .seq #[.int i tk, v] } := (sb.2 _ (Nat.ne_of_gt hel)).trans hT
    have new : ObjOk X.prog X.w (upd H s.heap.objs.size (.tup [.int (i : Nat), x])) h'' s.heap.objs.size (.tup [.int (i : Nat), x]) := ⟨by show 2 ≤ sizeLine; decide, [.int i tk, v], .cons ⟨_, rfl⟩ (.cons ru .nil), ⟨_, hT2, rfl, _, rfl⟩⟩
    have I1 : Inv X pins σ (upd H s.heap.objs.size (.tup [.int (i : Nat), x])) { s with heap := h'', toks := tk + 1 } :=
      I.turnedNew (ch := [e, it]) (fun b ob hb q => (sb.2 b (fun z => hb (by simp [z]))).trans (hk b ob (fun z => hb (by simp [z])) (fun z => hb (by simp [z])) q)) hf (Nat.le_refl _) new
    refine ⟨.ref s.heap.objs.size, _, I1, rfl, ⟨_, x, rfl, I.hok.fresh (Nat.le_refl _), rfl, fun ys hy => by rw [I.tuple_inj hy hq]; exact hx⟩, ⟨⟨v, ?_⟩, hit'.1.at fun o q => (sb.2 it (Ne.symm hne)).trans q, hne⟩, fun b hb => ?_⟩
    · rw [show ((i + 1 : Nat) : Int) = (i : Int) + 1 by omega]; exact he'
    · have hb' : b < s.heap.objs.size := by
        rcases (by simpa using hb : b = e ∨ b = it) with z | z
        · rw [z]; exact hel
        · rw [z]; exact hil
      rw [upd_ne (Nat.ne_of_lt hb')]
      exact (hf b hb).1
  done := by
    intro X hP hw hK hc i pins s σ H E I hf st hg
    subst hP hw hK
    obtain ⟨⟨old, he⟩, hit, hne⟩ := st
    obtain ⟨xs, hq, hx⟩ := hg
    obtain ⟨its, rv, p, hz⟩ := I.tuple hq
    obtain ⟨f0, f1, f2, f3, f4, f5⟩ := hf it (by simp)
    have hl := rv.length
    exact pyNext_enumT_end (I.ok.hd hc) he hit (show s.heap.IsTuple a its.toArray from p) (by simp; omega) fun h' eb => ⟨rfl, I.turned (t' := s.toks) (fun b o hb q => eb b o hb q) f0 f1 f3 f4 f5⟩
  self := fun A i s Q E st h => wpAny_pyIter_enum st.1.choose_spec h
def iEnumT (K : PySem.W.Frag) (ta : TA) : TI := fun σ H R => ta σ H fun vs H1 => ∃ a xs, vs = [.ref a] ∧ ((SqL K H1 a xs ∧ R (Ite K a) H1) ∨ (SqT K H1 a xs ∧ R (IteT K a) H1))
theorem pi_enumA {X : Cx} {e : Expr} {ta : TA} {p pos tpos : Pos} {elts : List Expr} {kk : Nat} (hg : Gl X "enumerate") (hm : X.mg "enumerate" = none) (ha : PA X [e] ta) (hs : starEach [e] X.env = [(false, eval e X.env)] := by rfl) :
    PI X (.Tuple elts kk tpos) (.Call (.Name "enumerate" p) [e] [] pos) (iEnumT X.K ta) := by
  refine ⟨fun pins s σ H R I h => ?_⟩
  refine Call_ (ld_blt I hg hm boot_enumerate (PyProof.Rows.callWith_type1 (thn (ha.run pos pins s σ H _ I h) fun us s1 ⟨vs, H1, I1, r1, q1⟩ => ?_) hs rfl))
  obtain ⟨a, xs, ex, q1⟩ := q1
  subst ex
  cases r1 with
  | cons r rr =>
    cases rr
    cases r
    have fresh2 : ∀ b ∈ [s1.heap.objs.size + 1, s1.heap.objs.size], FpOk X pins H1 b := fun b hb => by
      have hle : s1.heap.objs.size ≤ b := by
        rcases (by simpa using hb : b = s1.heap.objs.size + 1 ∨ b = s1.heap.objs.size) with z | z
        · rw [z]; exact Nat.le_succ _
        · rw [z]; exact Nat.le_refl _
      exact I1.fpOk hle (I1.hok.fresh hle)
    rcases q1 with ⟨hq, q⟩ | ⟨hq, q⟩
    · obtain ⟨its, rv, p', hz⟩ := I1.list hq
      refine call_enumerate_list p'.isList fun h' he hit hsz hk => wpAny_pyIter_enum he ?_
      exact ⟨s1.heap.objs.size + 1, [s1.heap.objs.size + 1, s1.heap.objs.size], _, _, H1, rfl, I1.kept (t' := s1.toks) hk, turn_enum a (s1.heap.objs.size + 1) s1.heap.objs.size, ⟨⟨.none, he⟩, hit, Nat.succ_ne_self _⟩, fresh2, q⟩
    · obtain ⟨its, rv, p', hz⟩ := I1.tuple hq
      refine call_enumT (show s1.heap.IsTuple a its.toArray from p') fun h' he hit hk => wpAny_pyIter_enum he ?_
      exact ⟨s1.heap.objs.size + 1, [s1.heap.objs.size + 1, s1.heap.objs.size], _, _, H1, rfl, I1.kept (t' := s1.toks) hk, turn_enumT a (s1.heap.objs.size + 1) s1.heap.objs.size, ⟨⟨.none, he⟩, hit, Nat.succ_ne_self _⟩, fresh2, q⟩
theorem walk_enumT {K : PySem.W.Frag} {a : Addr} {xs : List V} : Walk (IteT K a) xs.length (fun H => SqT K H a xs) (YPair (fun i => some (.int (i : Nat))) (fun i => xs[i]?)) := by
  refine ⟨fun i _ hi q => ⟨xs, xs[i], q, by simp [hi]⟩, fun _ q => ⟨xs, q, Nat.le_refl _⟩, fun i H v H' _ q y => ?_⟩
  obtain ⟨T, x, h1, h2, h3, h4⟩ := y
  exact ⟨T, .int (i : Nat), x, h1, h2, h3, rfl, h4 xs q⟩
section
variable {K : Frg} {B : Addr → Prop} {H H' : Hp} {Z : Addr → Prop}
theorem OkZ.refl : OkZ Z H H := fun _ _ h _ => h
theorem seq_src {k : Kd} {d : D} {ds : List D} {v : V} (hz : ∀ a, Z a → ¬ B a ∧ ∃ o, H a = some o ∧ Mu o) (s : Same H H') (p : PR K B (Fre2 H H') H' v (k, d)) (e : d.seq = some ds) :
    ∃ q vs, v = .ref q ∧ RAs K (k.elA B (Fre2 H H')) H' ds vs ∧ ((∀ H2, OkZ Z H' H2 → SqL K H2 q vs) ∨ (∀ H2, OkZ Z H' H2 → SqT K H2 q vs)) := by
  cases d with
  | lst es =>
    cases e
    obtain ⟨q, vs, ev, t, a, r⟩ := p.lp
    exact ⟨q, vs, ev, r, .inl fun H2 ok => .of (ok q _ t (zFre fre2 hz s q _ t (.inl a)))⟩
  | tup es =>
    cases e
    obtain ⟨q, vs, ev, t, r⟩ := p.tupT
    exact ⟨q, vs, ev, r, .inr fun H2 ok => SqT.keep (ok.keep (fre2 (H := H')) hz s) t⟩
  | kst es =>
    cases e
    obtain ⟨q, vs, ev, t, r⟩ := p.kstT
    exact ⟨q, vs, ev, r, .inl fun H2 ok => kst_seq (kst_keep (ok.keep (fre2 (H := H')) hz s) t)⟩
  | _ => cases e
def pairK (k k' : Kd) : Kd := match k.el, k'.el with
  | .fl, .fl => .fl
  | _, _ => .rd
theorem pair_VR {k k' : Kd} {F : Addr → Prop} {T : Addr} {x y : V} {d d' : D} {H2 : Hp} (h1 : RA K (k.elA B F) H2 d x) (h2 : RA K (k'.elA B F) H2 d' y) (hT : H2 T = none) :
    Same H2 (upd H2 T (.tup [x, y])) ∧ VR K (Or2 B F) (upd H2 T (.tup [x, y])) (pairK k k', .tup [d, d']) (.ref T) [] := by
  have sm : Same H2 (upd H2 T (.tup [x, y])) := same_upd hT
  refine ⟨sm, ?_⟩
  have t : SqT K (upd H2 T (.tup [x, y])) T [x, y] := .inl (.inl upd_same)
  rcases el_cases k with e | e <;> rcases el_cases k' with e' | e'
  · have a1 : RA K No H2 d x := by cases k <;> first | exact h1 | cases e
    have a2 : RA K No H2 d' y := by cases k' <;> first | exact h2 | cases e'
    rw [show pairK k k' = .fl by unfold pairK; rw [e, e']]
    exact ⟨rfl, T, [x, y], rfl, t, .cons (a1.same sm) (.one (a2.same sm))⟩
  all_goals (
    have a1 : RA K (Or2 B F) H2 d x := by cases k <;> first | exact h1 | exact h1.no
    have a2 : RA K (Or2 B F) H2 d' y := by cases k' <;> first | exact h2 | exact h2.no
    rw [show pairK k k' = .rd by unfold pairK; rw [e, e']]
    exact ⟨rfl, T, [x, y], rfl, t, .cons (a1.same sm) (.one (a2.same sm))⟩)
def enumD (k : Kd) (ds : List D) : List KD := ds.mapIdx fun i d => (k.el, .tup [.int i, d])
theorem enumD_len {k : Kd} {ds : List D} : (enumD k ds).length = ds.length := List.length_mapIdx
theorem enumD_get {k : Kd} {ds : List D} {i : Nat} {d : D} (h : ds[i]? = some d) : (enumD k ds)[i]? = some (k.el, .tup [.int i, d]) := by
  unfold enumD; rw [List.getElem?_mapIdx, h]; rfl
theorem enumD_of {k : Kd} {ds : List D} {i : Nat} {z : KD} (h : (enumD k ds)[i]? = some z) : ∃ d, ds[i]? = some d ∧ z = (k.el, .tup [.int i, d]) := by
  unfold enumD at h
  rw [List.getElem?_mapIdx] at h
  cases e : ds[i]? with
  | none => rw [e] at h; cases h
  | some d => rw [e] at h; exact ⟨d, rfl, (Option.some.inj h).symm⟩
theorem pairK_fl (k : Kd) : pairK .fl k = k.el := by cases k <;> rfl
theorem walks_pair {J : It} {n : Nat} {G : Hp → Prop} {xs ys : Nat → Option V} {zs : List KD} {k k' : Kd} {F : Addr → Prop} (hw : Walk J n G (YPair xs ys)) (hn : zs.length = n) (hg : ∀ H2, OkZ Z H' H2 → G H2)
    (hi : ∀ i z, zs[i]? = some z → ∃ d d', z = (pairK k k', .tup [d, d']) ∧ ∀ x y, xs i = some x → ys i = some y → ∀ H2, OkZ Z H' H2 → RA K (k.elA B F) H2 d x ∧ RA K (k'.elA B F) H2 d' y) : Walks K J (OkZ Z H') (Or2 B F) zs := by
  subst hn
  refine ⟨_, _, hw, hg, fun i H2 x H3 z hzz ok y => ?_⟩
  obtain ⟨d, d', rfl, f⟩ := hi i z hzz
  obtain ⟨T, x, y, rfl, hT, rfl, ex, ey⟩ := y
  obtain ⟨a1, a2⟩ := f x y ex ey H2 ok
  exact pair_VR a1 a2 hT
end
def iEn (f : PAF) : IF := fun ρ P => f ρ fun zs => match zs with
  | [(k, d)] => (match d.seq with
    | some ds => P (enumD k ds)
    | none => False)
  | _ => False
section
variable {X : Cx}
theorem di_enum {a : Expr} {f : PAF} {p pos tpos : Pos} {elts : List Expr} {kk : Nat} (hg : Gl X "enumerate") (hm : X.mg "enumerate" = none) (ha : DA X [a] 1 f) (hs : starEach [a] X.env = [(false, eval a X.env)] := by rfl) :
    DI X (.Tuple elts kk tpos) (.Call (.Name "enumerate" p) [a] [] pos) (iEn f) := by
  obtain ⟨t, e, s⟩ := ha.run
  refine ⟨_, pi_enumA hg hm e hs, fun σ H A ρ ow R P Z g hz h q => ?_⟩
  refine s σ H A ρ ow _ _ g h fun zs vs H1 _ hh s1 p1 => ?_
  split at hh
  · rename_i k d _
    obtain ⟨v, ev, p2⟩ := p1.get1
    subst ev
    cases e2 : d.seq with
    | none => rw [e2] at hh; exact hh.elim
    | some ds =>
      rw [e2] at hh
      obtain ⟨y, vs, rfl, r, t⟩ := seq_src hz s1 p2.tr e2
      have key : ∀ i z, (enumD k ds)[i]? = some z → ∃ d d', z = (pairK .fl k, .tup [d, d']) ∧ ∀ x y, (some (V.int (i : Nat)) : Option V) = some x → vs[i]? = some y → ∀ H2, OkZ Z H1 H2 → RA X.K (Kd.fl.elA (BB A ow) (Fre2 H H1)) H2 d x ∧ RA X.K (k.elA (BB A ow) (Fre2 H H1)) H2 d' y := fun i z hzz => by
        obtain ⟨d, hd, rfl⟩ := enumD_of hzz
        refine ⟨.int i, d, by rw [pairK_fl], fun x y hx hy H2 ok => ⟨?_, ?_⟩⟩
        · cases hx; rfl
        · obtain ⟨w, hw, rw'⟩ := (elA_keeps (ok.keep (fre2 (H := H1)) hz s1) r).get hd
          rw [hy] at hw
          cases hw
          exact rw'
      have hl : (enumD k ds).length = vs.length := by rw [enumD_len, r.len]
      rcases t with t | t
      · exact ⟨y, vs, rfl, .inl ⟨t H1 .refl, q _ _ H1 hh s1 (walks_pair (k := .fl) (k' := k) walk_enum hl t key)⟩⟩
      · exact ⟨y, vs, rfl, .inr ⟨t H1 .refl, q _ _ H1 hh s1 (walks_pair (k := .fl) (k' := k) walk_enumT hl t key)⟩⟩
  · exact hh.elim
end
end DL

namespace DL
open PySem PySem.Spec PyProof.Rows L2
noncomputable section
def sPar (i j : Nat) (g : AEF) : SF := fun D ρ => g ρ (fun avs ρ1 => match avs with
  | [.v a, .v b] => D.nx ((ρ1.set i (some a)).set j (some b))
  | _ => False) D.ex
def sSwap (f : PF) (pl1 : PLF) (f1 : PF) (pl2 : PLF) (f2 : PF) : SF := fun D ρ => f ρ fun z => match z with
  | (.fl, .tup [a, b]) => pl1 ρ fun i k e rb => f1 ρ fun y => kSt e y (.fl, a) k fun k' e' =>
      pl2 (ρ.set i (some (k', rb e'))) fun i2 k2 e2 rb2 => f2 (ρ.set i (some (k', rb e'))) fun y2 => kSt e2 y2 (.fl, b) k2 fun k2' e2' => D.nx ((ρ.set i (some (k', rb e'))).set i2 (some (k2', rb2 e2')))
  | _ => False
section
variable {X : Cx} {E : XK} {pr : List Nat} {pos : Pos}
theorem ds_par (i j : Nat) {x y : Str} {a b : Expr} {g : AEF} {px py pt : Pos} {kt k2 pt2} (hc : X.calm = true) (hN : X.N.Nodup) (ha : DAE X E [a, b] 2 g) (hpi : i ∉ pr := by decide) (hpj : j ∉ pr := by decide) (hij : i ≠ j := by decide) (hi : X.N[i]? = some x := by rfl) (hj : X.N[j]? = some y := by rfl)
    (hx : X.env.scope.names.lookup x = some .local := by rfl) (hy : X.env.scope.names.lookup y = some .local := by rfl)
    (hw : swappedStores [.Tuple [.Name x px, .Name y py] kt pt] (.Tuple [a, b] k2 pt2) X.env = pure (some [x, y]) := by rfl)
    (hs : swapsWithSole [.Tuple [.Name x px, .Name y py] kt pt] (.Tuple [a, b] k2 pt2) pos.line X.env = pure false := by rfl) : DS X E pr (.Assign [.Tuple [.Name x px, .Name y py] kt pt] (.Tuple [a, b] k2 pt2) pos) (sPar i j g) := by
  obtain ⟨ta, ea, sa⟩ := ha.run
  refine ⟨_, ps_par hc hN hi hj hij hx hy ea hw hs, fun σ H A ρ ow T D gd h nx rt ex => ?_⟩
  refine sa σ H A ρ ow _ _ _ gd h (fun avs ρ1 vs H1 fp ow1 A1 hl h1 st1 g1 r nd dis => ?_) fun C ρ1 H1 ow1 A1 h1 st1 g1 => ex C ρ1 σ H1 ow1 A1 h1 st1 g1 fun _ _ => rfl
  split at h1
  · rename_i za zb
    obtain ⟨v, ws, f1, f2, rfl, rfl, r1, w, ws', f3, f4, rfl, rfl, r2, rfl, rfl⟩ := r
    rw [List.append_nil] at nd dis st1
    have nd2 := nd
    rw [List.append_assoc] at nd2
    obtain ⟨n1, n2, n3⟩ := List.nodup_append.mp nd2
    obtain ⟨ow2, g2, s2⟩ := g1.put (i := i) ⟨r1, (List.nodup_append.mpr ⟨n1, (List.nodup_append.mp n2).2.1, fun a ha b hb => n3 a ha b (List.mem_append_right _ hb)⟩), fun a ha => dis a (List.mem_append_left _ ha)⟩
    have hnd : (f3 ++ ow2).Nodup := List.nodup_append.mpr ⟨(List.nodup_append.mp n2).1, g2.nd, fun a ha b hb => by
      rcases s2 b hb with z | z
      · exact (List.nodup_append.mp n2).2.2 a ha b z
      · exact fun e => n3 b z a (List.mem_append_left _ ha) e.symm⟩
    obtain ⟨ow3, g3, s3⟩ := g2.put (i := j) ⟨r2, hnd, fun a ha => dis a (List.mem_append_right _ ha)⟩
    refine ⟨v, w, rfl, nx _ _ H1 ow3 A1 h1 (st1.sub fun a ha => ?_) g3 fun k hk => ?_⟩
    · rcases s3 a ha with z | z
      · rcases s2 a z with z | z
        · exact List.mem_append_right _ z
        · exact List.mem_append_left _ (List.mem_append_left _ z)
      · exact List.mem_append_left _ (List.mem_append_right _ z)
    · rw [set_ne_pr hpj k hk, set_ne_pr hpi k hk]
  · exact h1.elim
theorem gsub_ok {K : Frg} {to ti : TE} {pl : PLF} {fi : PF} {A1 : Addr → Prop} {H1 : Hp} {ρ1 : Ro} {σ : L2.St} {ow1 : List Addr} {z : KD} {v : V} {P : Ro → Prop} {Q : L2.St → Hp → Prop} (so : PLSound K to pl) (si : PSound K ti fi)
    (g1 : Good K A1 H1 ρ1 σ ow1) (o1 : VR K A1 H1 z v []) (h : pl ρ1 fun i k e rb => fi ρ1 fun y => kSt e y z k fun k' e' => P (ρ1.set i (some (k', rb e'))))
    (q : ∀ ρ' H' ow', P ρ' → Good K A1 H' ρ' σ ow' → Stp H1 ow1 A1 H' ow' A1 → Q σ H') : gSub to ti rSetL v σ H1 Q := by
  refine so σ H1 A1 ρ1 ow1 _ _ g1 h fun i k e rb w H2 h2 s2 p2 => ?_
  refine si σ H2 A1 ρ1 ow1 _ _ (g1.same s2) h2 fun y yv H3 h3 s3 p3 => ?_
  have s := s2.trans s3
  unfold kSt at h3
  rw [hid_eq] at h3
  obtain ⟨hk, h3⟩ := h3
  split at h3
  · rename_i ds j q1
    obtain ⟨ky, dy⟩ := y
    dsimp only at q1
    subst q1
    obtain rfl : yv = .int j := p3.ra
    split at h3
    · rename_i n hn
      have o3 : VR K A1 H3 z v [] := o1.same s
      obtain ⟨fe0, r, nd, _, hsh, mtt⟩ := (p2.same s3).mut (fa := []) (g1.same s) (g1.same s).nd fun a h => nomatch h
      obtain ⟨p, vs, fe', ew, hp, hl, hpf, r', nd', sub⟩ := list_set r (o3.rown hk) nd (ixN_lt hn)
      subst ew
      have hk' : nk k z.1 = .ow ∨ (nk k z.1 = .sh ∧ k = .sh ∧ Shal K (upd H3 p (.lst (vs.set n v))) (.lst (ds.set n z.2)) (.ref p)) := by
        obtain ⟨kz, dz⟩ := z
        cases k <;> cases kz <;> first
          | exact .inl rfl
          | exact .inr ⟨rfl, rfl, shal_set (hsh rfl) hp o3.2⟩
      obtain ⟨ow', st', g', _⟩ := mtt (.lst (ds.set n z.2)) (nk k z.1) [] (.fl, .non) .non _ fe' (fun a o e n => by rw [upd_ne (fun z => n (by rw [z]; exact hpf))]; exact e) r' hk' ⟨rfl, rfl⟩ nd' fun a h => (sub a (by simpa using h)).elim .inl fun z => .inr (.inl z)
      refine ⟨p, vs, j, n, rfl, rfl, hp, by rw [hl]; exact hn, ?_⟩
      exact q _ _ ow' h3 g' ((Stp.of_same s).trans (st'.sub fun a h => by simpa using h))
    · exact h3.elim
  · exact h3.elim
theorem ds_swap {o1 i1 o2 i2 : Expr} {es : List Expr} {p1 p2 pt pt2 : Pos} {kt kt2 : Nat} {f : PF} {pl1 pl2 : PLF} {f1 f2 : PF} (hc : X.calm = true) (he : DP X (.Tuple es kt2 pt2) f) (ho1 : DPl X o1 pl1) (hi1 : DP X i1 f1) (ho2 : DPl X o2 pl2) (hi2 : DP X i2 f2)
    (hs : swapsWithSole [.Tuple [.Subscript o1 i1 p1, .Subscript o2 i2 p2] kt pt] (.Tuple es kt2 pt2) pos.line X.env = pure false := by rfl) (hw : swappedStores [.Tuple [.Subscript o1 i1 p1, .Subscript o2 i2 p2] kt pt] (.Tuple es kt2 pt2) X.env = pure none := by rfl)
    (h1 : (assignEach [.Tuple [.Subscript o1 i1 p1, .Subscript o2 i2 p2] kt pt] X.env).map (·.2) = [assign (.Tuple [.Subscript o1 i1 p1, .Subscript o2 i2 p2] kt pt) X.env] := by rfl)
    (hn : (assignEach [.Subscript o1 i1 p1, .Subscript o2 i2 p2] X.env).length = 2 := by rfl) (hst : (assignEach [.Subscript o1 i1 p1, .Subscript o2 i2 p2] X.env).findIdx? (·.1) = none := by rfl)
    (ha1 : (assignEach [.Subscript o1 i1 p1, .Subscript o2 i2 p2] X.env).map (·.2) = assign (.Subscript o1 i1 p1) X.env :: (assignEach [.Subscript o2 i2 p2] X.env).map (·.2) := by rfl)
    (ha2 : (assignEach [.Subscript o2 i2 p2] X.env).map (·.2) = assign (.Subscript o2 i2 p2) X.env :: (assignEach [] X.env).map (·.2) := by rfl)
    (hg1 : ∀ v, assign (.Subscript o1 i1 p1) X.env v = (do
      let a ← holding [v] (eval o1 X.env)
      let b ← holding [v, a] (eval i1 X.env)
      standAt p1
      holding [v, a, b] (setItem a b v)
      release [v, a, b] []) := by intro _; rfl)
    (hg2 : ∀ v, assign (.Subscript o2 i2 p2) X.env v = (do
      let a ← holding [v] (eval o2 X.env)
      let b ← holding [v, a] (eval i2 X.env)
      standAt p2
      holding [v, a, b] (setItem a b v)
      release [v, a, b] []) := by intro _; rfl) :
    DS X E pr (.Assign [.Tuple [.Subscript o1 i1 p1, .Subscript o2 i2 p2] kt pt] (.Tuple es kt2 pt2) pos) (sSwap f pl1 f1 pl2 f2) := by
  obtain ⟨te, ee, se⟩ := he.run
  obtain ⟨to1, eo1, so1⟩ := ho1.run
  obtain ⟨ti1, ei1, si1⟩ := hi1.run
  obtain ⟨to2, eo2, so2⟩ := ho2.run
  obtain ⟨ti2, ei2, si2⟩ := hi2.run
  refine ⟨_, ps_asg ee (pg_tup hc (pgs_cons (pg_sub eo1 ei1 set_list hg1) (pgs_cons (pg_sub eo2 ei2 set_list hg2) pgs_nil ha2) ha1) hn hst) hs hw h1, fun σ H A ρ ow T D gd h nx rt ex => ?_⟩
  refine se σ H A ρ ow _ _ gd h fun z v H1 hz s1 pz => ?_
  split at hz
  · rename_i a b
    obtain ⟨q, vs, rfl, t, r⟩ := pz.tupT
    obtain ⟨x, r1, rfl, rx, y, r2, rfl, ry, r3⟩ := r
    have r3' : r2 = [] := r3
    subst r3'
    refine ⟨q, [x, y], rfl, t, rfl, x, [y], rfl, ?_⟩
    have gd1 := gd.same s1
    refine gsub_ok (K := X.K) (z := (.fl, a)) (P := fun ρ' => pl2 ρ' fun i2 k2 e2 rb2 => f2 ρ' fun y2 => kSt e2 y2 (.fl, b) k2 fun k2' e2' => D.nx (ρ'.set i2 (some (k2', rb2 e2')))) so1 si1 gd1 ⟨rfl, rx⟩ hz fun ρ2 H2 ow2 hz2 g2 st2 => ?_
    refine ⟨y, [], rfl, ?_⟩
    have ky : Keep A H1 H2 := gd1.keepA st2
    refine gsub_ok (K := X.K) (z := (.fl, b)) (P := D.nx) so2 si2 g2 ⟨rfl, RA.keep ky.no _ _ ry⟩ hz2 fun ρ3 H3 ow3 hz3 g3 st3 => ?_
    exact ⟨rfl, nx _ σ H3 ow3 A hz3 ((Stp.of_same s1).trans (st2.trans st3)) g3 fun _ _ => rfl⟩
  · exact hz.elim
end
def kO : Nat → Kd
  | 0 => .sh
  | _ + 1 => .ow
theorem kO_ow {n : Nat} (h : 1 ≤ n) : kO n = .ow := by
  cases n with
  | zero => omega
  | succ n => rfl
theorem jT_ow : ∀ {zs : List KD}, (∀ z ∈ zs, z.1 = .sh ∨ z.1 = .ow) → zs ≠ [] → jT zs = .ow
  | [], _, h => absurd rfl h
  | [z], h, _ => by
    show jn z.1 .fl = .ow
    rcases h z (List.mem_singleton.mpr rfl) with e | e <;> rw [e] <;> rfl
  | z :: y :: zs, h, _ => by
    show jn z.1 (jT (y :: zs)) = .ow
    rw [jT_ow (zs := y :: zs) (fun w hw => h w (List.mem_cons_of_mem _ hw)) (by simp)]
    rcases h z (List.mem_cons_self ..) with e | e <;> rw [e] <;> rfl
theorem jL_sh {n : Nat} {f : Nat → D} : jL ((List.range n).map fun i => ((.sh, f i) : KD)) = kO n := by
  cases n with
  | zero => rfl
  | succ n =>
    unfold jL
    rw [jT_ow (fun z hz => by obtain ⟨a, _, rfl⟩ := List.mem_map.mp hz; exact .inl rfl) (by rw [List.range_succ]; simp)]
    rfl
theorem go_LcS0 {step : KD → (Option KD → Prop) → Prop} {n : Nat} {P : KD → Prop} (f : Nat → D) (hn : n ≤ 10000000) (hs : ∀ (i : Nat) (N : Option KD → Prop), i < n → N (some (.sh, f i)) → step (.fl, .int i) N) (h : P (kO n, .lst (tabl n f))) : kLc step (rangeD 0 n) P := by
  unfold kLc; rw [hid_eq]
  refine ⟨by rw [range_len]; exact hn, comp_range0 (fun i => (.sh, f i)) hs ?_⟩
  rw [jL_sh, snd_flm]; exact h
theorem go_LcST {step : KD → (Option KD → Prop) → Prop} {n : Nat} {k : Kd} {g : Nat → D} {P : KD → Prop} (f : Nat → D) (hn : n ≤ 10000000) (hs : ∀ (i : Nat) (N : Option KD → Prop), i < n → N (some (.sh, f i)) → step (kel k (g i)) N) (h : P (kO n, .lst (tabl n f))) : kLc step ((tabl n g).map (kel k)) P := by
  unfold kLc; rw [hid_eq]
  rw [List.map_map]
  refine ⟨by rw [List.length_map, List.length_range]; exact hn, comp_ind (fun i acc => acc = (List.range i).map fun j => (.sh, f j)) rfl (fun i z acc N hz hi hN _ => ?_) fun acc h2 => ?_⟩
  · have hi' : i < n := by
      have := (List.getElem?_eq_some_iff.mp hz).1
      rw [List.length_map, List.length_range] at this; exact this
    rw [List.getElem?_map, List.getElem?_range hi'] at hz
    have e : kel k (g i) = z := Option.some.inj hz
    subst e
    refine hs i N hi' (hN _ ?_)
    rw [hi, List.range_succ, List.map_append]; rfl
  · rw [List.length_map, List.length_range] at h2
    rw [h2, jL_sh, snd_flm]; exact h
theorem enumD_tabl {k : Kd} {n i : Nat} {f : Nat → D} (h : i < n) : (enumD k (tabl n f))[i]? = some (k.el, .tup [.int i, f i]) := enumD_get (tabl_get h)
theorem go_ForEn {g : GF} {body : SF} {D : DEnds} {n : Nat} {k : Kd} {f : Nat → DL.D} {ρ : Ro} (I : Nat → Ro → Prop) (h0 : I 0 ρ)
    (hs : ∀ (i : Nat) ρ (N : Ro → Prop), i < n → I i ρ → (∀ ρ', I (i + 1) ρ' → N ρ') → g (k.el, .tup [.int i, f i]) ρ fun ρ1 => body { D with nx := N } ρ1) (he : ∀ ρ, I n ρ → D.nx ρ) : kFor g body D (enumD k (tabl n f)) ρ := by
  refine go_For I h0 (fun i z ρ N hz hi hN => ?_) fun ρ h => he ρ (by rw [enumD_len, tabl_len] at h; exact h)
  have hi' : i < n := by
    have := (List.getElem?_eq_some_iff.mp hz).1
    rw [enumD_len, tabl_len] at this; exact this
  rw [enumD_tabl hi'] at hz
  cases hz
  exact hs i ρ N hi' hi hN
theorem RA.no_flat {K : Frg} {A : Addr → Prop} {H : Hp} {d : D} {v : V} (h : RA K A H d v) (e : d.flat1 = true) : RA K No H d v := by
  cases d <;> first | exact h | cases e
theorem RAs.no_flat {K : Frg} {A : Addr → Prop} {H : Hp} : ∀ {ds : List D} {vs : List V}, RAs K A H ds vs → ds.all D.flat1 = true → RAs K No H ds vs
  | [], _, h, _ => h
  | d :: ds, _, ⟨w, ws, e, h, t⟩, c => by
    rw [List.all_cons, Bool.and_eq_true] at c
    exact ⟨w, ws, e, h.no_flat c.1, RAs.no_flat t c.2⟩
def oTupleF : List KD → (KD → Prop) → Prop := fun zs P => match zs with
  | [(_, d)] => (match d.seq with
    | some ds => ds.all D.flat1 = true ∧ P (.fl, .tup ds)
    | none => False)
  | _ => False
def oListF : List KD → (KD → Prop) → Prop := fun zs P => match zs with
  | [(_, d)] => (match d.seq with
    | some ds => ds.all D.flat1 = true ∧ P (.sh, .lst ds)
    | none => False)
  | _ => False
section
variable {K : Frg}
theorem cs_tupleF : CallS K (fun xs H Q => ∃ p ys, xs = [.ref p] ∧ ((SqL K H p ys ∧ ∀ l, H l = none → Q (.ref l) (upd H l (.tup ys))) ∨ (SqT K H p ys ∧ Q (.ref p) H))) oTupleF := by
  intro B F H vs xs P Q pr hF h q
  unfold oTupleF at h
  split at h
  · rename_i k d
    obtain ⟨v, ev, p⟩ := pr.get1
    cases e : d.seq with
    | none => rw [e] at h; exact h.elim
    | some ds =>
      rw [e] at h
      obtain ⟨c, hP⟩ := h
      obtain ⟨a, us, ea, t, r⟩ := p.seq e
      subst ev ea
      refine ⟨a, us, rfl, ?_⟩
      have r0 : RAs K No H ds us := RAs.no_flat (RAs.elor (B := B) (F := F) r) c
      rcases t with t | t
      · exact .inl ⟨t, fun l hl => q _ _ _ hP (same_upd hl) (pr_tup (k := .fl) r0 hl)⟩
      · exact .inr ⟨t, q _ _ H hP (Same.refl H) (.fl ⟨a, us, rfl, t, r0⟩)⟩
  · exact h.elim
theorem cs_listF : CallS K (fun xs H Q => ∃ p ys, xs = [.ref p] ∧ (SqL K H p ys ∨ SqT K H p ys) ∧ ∀ l, H l = none → Q (.ref l) (upd H l (.lst ys))) oListF := by
  intro B F H vs xs P Q pr hF h q
  unfold oListF at h
  split at h
  · rename_i k d
    obtain ⟨v, ev, p⟩ := pr.get1
    cases e : d.seq with
    | none => rw [e] at h; exact h.elim
    | some ds =>
      rw [e] at h
      obtain ⟨c, hP⟩ := h
      obtain ⟨a, us, ea, t, r⟩ := p.seq e
      subst ev ea
      have r0 : RAs K No H ds us := RAs.no_flat (RAs.elor (B := B) (F := F) r) c
      exact ⟨a, us, rfl, t, fun l hl => q _ _ _ hP (same_upd hl) (pr_lst (k := .fl) r0 hl (hF l hl))⟩
  · exact h.elim
end
theorem flat_ints {n : Nat} {f : Nat → Int} : (tabl n fun i => D.int (f i)).all D.flat1 = true :=
  List.all_eq_true.mpr fun d hd => by
    obtain ⟨i, _, rfl⟩ := List.mem_map.mp hd; rfl
end
end DL

namespace DL
open PySem PySem.Spec PyProof.Rows L2
noncomputable section
@[irreducible] def kNext (f : SF) (D : DEnds) (ρ : Ro) : Prop := hid (f D ρ)
def sBar (f : SF) : SF := fun D ρ => kNext f D ρ
theorem sBar_eq (f : SF) : sBar f = f := by
  unfold sBar kNext
  simp only [hid_eq]
theorem ds_bar {X : Cx} {E : XK} {pr : List Nat} {st : List Stmt} {f : SF} (h : DSs X E pr st f) : DSs X E pr st (sBar f) := (sBar_eq f).symm ▸ h
theorem go_next {f : SF} {D : DEnds} {ρ : Ro} (h : f D ρ) : kNext f D ρ := by
  unfold kNext; rw [hid_eq]; exact h
end
end DL

namespace DL
open PySem PySem.Spec PyProof.Rows L2
noncomputable section
def sForE (fe : EF) (g : GF) (body : SF) : SF := fun D ρ => fe ρ (fun z ρ1 => match z.2.seq with
  | some ds => kFor g body D (ds.map (kel z.1.rdk)) ρ1
  | none => False) D.ex
section
variable {X : Cx} {E : XK} {pr : List Nat} {pos : Pos}
def tForJ (g : TG) (tb : TS) (T : Ends) (J : It) (σ : L2.St) (H1 : Hp) : Prop :=
  ∃ W : Nat → Nat → L2.St → Hp → Prop, (∃ m, W 0 m σ H1) ∧ ∀ (i m : Nat) (σ : L2.St) (H : Hp), W i m σ H → J.stop i H ∧ T.nx σ H ∨ J.go i H ∧ ∃ N : L2.St → Hp → Prop, (∀ (σ' : L2.St) (H' : Hp), N σ' H' → ∃ m', m' < m ∧ W (i + 1) m' σ' H') ∧
    ∀ (x : V) (H' : Hp), J.yld i H x H' → g x σ H' fun σ2 H2 => tb { nx := N, rt := T.rt, bk := T.nx, ct := N } σ2 H2
theorem kFor_eq (g : GF) (f : SF) (D : DEnds) (zs : List KD) (ρ : Ro) : kFor g f D zs ρ = forD g f D zs ρ := by unfold kFor; rw [hid_eq]
theorem for_core {K : Frg} {tgT : TG} {is : List Nat} {g : GF} {tb : TS} {f : SF} {A B : Addr → Prop} {H0 H1 : Hp} {σ : L2.St} {ρ : Ro} {ow ow0 : List Addr} {T : Ends} {D : DEnds} {zs : List KD} {J : It} {A0 : Addr → Prop}
    (sg : GSound K is tgT g) (sb : SSound K E pr tb f) (hpr : (is.all fun i => !pr.contains i) = true) (gd : Good K A H1 ρ σ ow) (st0 : Stp H0 ow0 A0 H1 ow A)
    (wk : Walks K J (OkZ (fun a => a ∈ ow) H1) B zs) (hB : ∀ a, B a → A a) (hz : forD g f D zs ρ)
    (nx : ∀ ρ' σ' H' ow' A', D.nx ρ' → Stp H0 ow0 A0 H' ow' A' → Good K A' H' ρ' σ' ow' → (∀ i ∈ pr, σ'[i]? = σ[i]?) → T.nx σ' H')
    (rt : ∀ z ρ' v σ' H' fp ow' A', D.rt z ρ' → Stp H0 ow0 A0 H' (fp ++ ow') A' → Good K A' H' ρ' σ' ow' → Own K A' H' z v fp ow' → (∀ i ∈ pr, σ'[i]? = σ[i]?) → T.rt v H')
    (ex : ∀ C ρ' σ' H' ow' A', D.ex C ρ' → Stp H0 ow0 A0 H' ow' A' → Good K A' H' ρ' σ' ow' → (∀ i ∈ pr, σ'[i]? = σ[i]?) → E (.ref (He.ga K C)) none H') :
    tForJ tgT tb T J σ H1 := by
  obtain ⟨G, Y, walk, hG, hY⟩ := wk
  refine for_it walk (fun i σ' H' => ∃ ρ' ow' A', Good K A' H' ρ' σ' ow' ∧ Stp H1 ow A H' ow' A' ∧ forD g f D (zs.drop i) ρ' ∧ ∀ j ∈ pr, σ'[j]? = σ[j]?) ⟨ρ, ow, _, gd, Stp.refl, hz, fun _ _ => rfl⟩ ?_ ?_ ?_
  · rintro i σ' H' _ ⟨ρ', ow', A', _, st, _⟩
    exact hG H' fun a o e n => st.same a o e n
  · rintro i x σ' H' H2 hi ⟨ρ', ow', A', g', st, hf, hpr'⟩ y
    have hzi : zs[i]? = some zs[i] := List.getElem?_eq_getElem hi
    obtain ⟨s2, vz⟩ := hY i H' x H2 zs[i] hzi (fun a o e n => st.same a o e n) y
    rw [List.drop_eq_getElem_cons hi] at hf
    have hstep : g zs[i] ρ' fun ρ1 => f { D with nx := fun ρ' => forD g f D (zs.drop (i + 1)) ρ' } ρ1 := hf
    have vA : VR K A' H2 zs[i] x [] := vz.mono fun a h => st.up a (hB a h)
    refine sg x zs[i] [] σ' H2 A' ρ' ow' _ _ (g'.same s2) ⟨vA, by simpa using g'.nd, fun a h => (nomatch h)⟩ hstep fun ρ1 σ1 ow1 h1 g1' sub1 w1 => ?_
    have st1 : Stp H1 ow A H2 ow1 A' := (st.trans (Stp.of_same s2)).sub fun a h => by
      rcases sub1 a h with h | h
      · exact h
      · cases h
    have pr1 : ∀ j ∈ pr, σ1[j]? = σ[j]? := fun j hj => by
      have hl : σ1.length = σ'.length := by rw [← wipe_length σ1 is, w1, wipe_length]
      have e : (wipe σ1 is)[j]? = (wipe σ' is)[j]? := by rw [w1]
      have nj : j ∉ is := fun z => by
        have := List.all_eq_true.mp hpr j z
        simp [hj] at this
      rw [wipe_get, wipe_get, if_neg (fun z => nj z.1), if_neg (fun z => nj z.1)] at e
      exact e.trans (hpr' j hj)
    refine sb σ1 H2 A' ρ1 ow1 _ _ g1' h1 (fun ρ3 σ3 H3 ow3 A3 h3 st3 g3 p3 => ⟨ρ3, ow3, A3, g3, st1.trans st3, h3, fun j hj => (p3 j hj).trans (pr1 j hj)⟩) (fun z ρ3 v σ3 H3 fp ow3 A3 h3 st3 g3 o3 p3 => ?_) (fun C ρ3 σ3 H3 ow3 A3 h3 st3 g3 p3 => ?_)
    · exact rt z ρ3 v σ3 H3 fp ow3 A3 h3 (st0.trans (st1.trans st3)) g3 o3 fun j hj => (p3 j hj).trans (pr1 j hj)
    · exact ex C ρ3 σ3 H3 ow3 A3 h3 (st0.trans (st1.trans st3)) g3 fun j hj => (p3 j hj).trans (pr1 j hj)
  · rintro σ' H' ⟨ρ', ow', A', g', st, hf, hpr'⟩
    rw [List.drop_eq_nil_of_le (Nat.le_refl _)] at hf
    exact nx ρ' σ' H' ow' A' hf (st0.trans st) g' hpr'
theorem ds_forE {tg iter : Expr} {body : List Stmt} {fe : EF} {is : List Nat} {g : GF} {f : SF} (hp : PassesOwn (model X.prog X.w) X.A X.env X.xe) (hc : X.calm = true) (hi : DE X E iter fe) (hg : DG X tg is g) (hb : DSs X E pr body f) (hpr : (is.all fun i => !pr.contains i) = true := by rfl)
    (hs : ∀ x, foldedSetIterable iter X.env x = pure x := by intro _; rfl) : DS X E pr (.For tg iter body [] pos) (sForE fe g f) := by
  obtain ⟨te, pe, se⟩ := hi.run
  obtain ⟨tg', pg, sg⟩ := hg.run
  obtain ⟨tb, pb, sb⟩ := hb.run
  refine ⟨_, ps_for hp hc (pi_seq pe) pg pb hs, fun σ H A ρ ow T D gd h nx rt ex => ?_⟩
  refine se σ H A ρ ow _ _ _ gd h (fun z ρ1 v H1 fp ow1 A1 h1 st1 g1 o1 => ?_) (fun C ρ1 H1 ow1 A1 h1 st1 g1 => ex C ρ1 σ H1 ow1 A1 h1 st1 g1 fun _ _ => rfl)
  have gA : Good X.K (fun a => A1 a ∨ a ∈ fp) H1 ρ1 σ ow1 := ⟨g1.rep.mono fun _ h => .inl h, g1.nd, (fun a h z => by
      rcases z with z | z
      · exact g1.dis a h z
      · exact (List.nodup_append.mp o1.nd).2.2 a z a h rfl), (fun a h => by
      rcases h with h | h
      · exact g1.tr a h
      · obtain ⟨o', e', _⟩ := o1.rep.mu a h; exact ⟨o', e'⟩)⟩
  have vA : VR X.K (fun a => A1 a ∨ a ∈ fp) H1 (z.1.rdk, z.2) v [] := o1.rep.rdk2 fun _ h => h
  have st : Stp H ow A H1 ow1 (fun a => A1 a ∨ a ∈ fp) := st1.trans ⟨fun _ _ e _ => e, fun a h => .inl (List.mem_append_right _ h), fun _ h => .inl h, fun a h => h.elim .inl fun h => .inr (.inl (List.mem_append_left _ h))⟩
  have pz : PR X.K (fun a => A1 a ∨ a ∈ fp) No H1 v (z.1.rdk, z.2) := ⟨[], vA.mono fun _ h => .inl h, List.nodup_nil, fun a h => (nomatch h)⟩
  have hF : ∀ a, No a → H1 a = none := fun _ h => h.elim
  have hZ : ∀ a, a ∈ ow1 → ¬ (fun a => A1 a ∨ a ∈ fp) a ∧ ∃ o, H1 a = some o ∧ Mu o := fun a h => ⟨gA.dis a h, gA.rep.mu a h⟩
  have core : ∀ (J : It) (ds : List DL.D), z.2.seq = some ds → Walks X.K J (OkZ (fun a => a ∈ ow1) H1) (Or2 (fun a => A1 a ∨ a ∈ fp) No) (ds.map (kel z.1.rdk)) → tForJ tg' tb T J σ H1 := fun J ds e wk => by
    rw [e] at h1
    dsimp only at h1
    rw [kFor_eq] at h1
    exact for_core sg sb hpr gA st wk (fun a h => h.elim id fun z => z.elim) h1 nx rt ex
  obtain ⟨k, d⟩ := z
  cases d with
  | lst ds =>
    obtain ⟨p, vs, ev, t, a, r⟩ := pz.lp
    refine ⟨p, ev, .inl ⟨⟨vs, .of t⟩, core _ ds rfl (walks_lst hF hZ (Same.refl H1) (fun H2 ok => .of (ok p _ t ?_)) r)⟩⟩
    exact zFre hF hZ (Same.refl H1) p _ t (.inl a)
  | tup ds =>
    obtain ⟨p, vs, ev, t, r⟩ := pz.tupT
    exact ⟨p, ev, .inr ⟨⟨vs, t⟩, core _ ds rfl (walks_tup hF hZ (Same.refl H1) t r)⟩⟩
  | kst ds =>
    obtain ⟨p, vs, ev, t, r⟩ := pz.kstT
    exact ⟨p, ev, .inl ⟨⟨vs, kst_seq t⟩, core _ ds rfl (walks_lst hF hZ (Same.refl H1) (fun H2 ok => kst_seq (kst_keep (ok.keep hF hZ (Same.refl H1)) t)) r)⟩⟩
  | _ => exact h1.elim
end
end
end DL

namespace DL
open PySem PySem.Spec PyProof PyProof.Rows L2
structure RoomG (k : Nat) (A : Around) : Prop where
  room : Room k A
  free : A.guards = some []
theorem RoomG.mono {j k : Nat} {A : Around} (h : RoomG k A) (l : j ≤ k) : RoomG j A := ⟨h.room.mono l, h.free⟩
theorem RoomG.units {k : Nat} {A : Around} (h : RoomG k A) : A.units + 64 < cLine := h.room.units
theorem RoomG.deeper {k : Nat} {A : Around} (h : RoomG (k + 1) A) (env : Env) : RoomG k (A.deeper env) := ⟨h.room.deeper env, h.free⟩
structure GOk (P : Program) (w : World) (K : PySem.W.Frag) (mg : Str → Option Value) (base : Heap) (CX : CXT) (k : Nat) (f : Addr) (ps : List Str) (sp : Sp) : Prop where
  len : ∀ (vs : List V) (H : Hp) (Q : VK) (E : XK), sp vs H Q E → vs.length = ps.length
  run : ∀ (A : Around) (outer : List Env) (s : Shared) (H : Hp) (us : List Value) (vs : List V) (Q : VK) (E : XK), RoomG k A → Env0 P w K mg base A outer s H → Vals vs us → sp vs H Q E →
    codeAny (model P w) A (.call (.ref f) { pos := us }) (CR CX outer P w H s Q E) s
theorem GOk.mono {P : Program} {w : World} {K : PySem.W.Frag} {mg : Str → Option Value} {base : Heap} {CX : CXT} {j k : Nat} {f : Addr} {ps : List Str} {sp : Sp} (h : GOk P w K mg base CX j f ps sp) (l : j ≤ k) : GOk P w K mg base CX k f ps sp :=
  ⟨h.len, fun A outer s H us vs Q E hr => h.run A outer s H us vs Q E (hr.mono l)⟩
abbrev BndG (x qual : Str) (params : Arguments) (body : List Stmt) (scope : Scope) (ps : List Str) : Prop := ∀ (kV doc pm : Value) (an : Option Addr) (cdv ct : Value) (us : List Value), us.length = ps.length →
  bindArgs (PySem.W.fnOf x qual params body scope .none kV doc pm an cdv ct) ⟨us, []⟩ = pure (ps.zip us)
theorem gok_of {P : Program} {w : World} {K : PySem.W.Frag} {mg : Str → Option Value} {base : Heap} {x qual : Str} {params : Arguments} {body : List Stmt} {scope : Scope} {f : Addr} {fd : FuncData} {CX : CXT} {N ps : List Str} {k : Nat} {sp : Sp}
    (F : FunD K x qual params body scope [] [] f fd) (B : BndG x qual params body scope ps) (S : FnScope N ps scope) (hl : ∀ (vs : List V) (H : Hp) (Q : VK) (E : XK), sp vs H Q E → vs.length = ps.length)
    (hb : ∀ (cdv : Value) (A : Around) (outer : List Env) (s : Shared) (H : Hp) (vs : List V) (Q : VK) (E : XK), RoomG k (A.deeper (envOfC qual scope s.heap.objs.size f cdv)) → sp vs H Q E →
      ∃ t, PSs (cxOf CX P w K mg base N qual scope f cdv A outer s H E) body t ∧ t { nx := fun _ H' => Q V.non H', rt := Q } (L2.start N vs) H) :
    GOk P w K mg base CX (k + 1) f ps sp := by
  refine ⟨hl, fun A outer s H us vs Q E hr E0 hv h => ?_⟩
  obtain ⟨oc, od, dV, kV, doc, pm, an, cdv, ct, osl, efd, hlk, hcd, hdv, _⟩ := F.ex
  have edv : dV = .none := by
    rcases hdv with ⟨_, e⟩ | ⟨e, _⟩
    · exact e
    · exact absurd rfl e
  subst edv efd
  have keep : ∀ b o, base.get? b = some o → s.heap.get? b = some o := fun b o e => (E0.bs b o e).1
  have kin : K.In s.heap := E0.mod.kin.keeps keep
  have lenV : us.length = ps.length := by rw [← hl vs H Q E h, hv.length]
  obtain ⟨t, pt, st⟩ := hb cdv A outer s H vs Q E (hr.deeper _) h
  refine codeAny_call_cells (o := ⟨oc, od, _, osl⟩) (fd := PySem.W.fnOf x qual params body scope .none kV doc pm an cdv ct) (body := body) (binds := ps.zip us) hr.room.depth (kin f _ hlk) rfl (E0.mod.nolimit.keeps keep) (PySem.W.codeRec_of kin hcd) rfl
    (B kV doc pm an cdv ct us lenV) rfl (fun y hy => ?_) (fun s1 hin => ?_) S.co S.gen S.kind
  · have hp := List.of_mem_zip (a := y.1) (b := y.2) hy
    rcases S.par y.1 hp.1 with e | e
    · exact .inl e
    · exact .inr ⟨e, PySem.W.cellsFrom_some _ _ _ (.inl e)⟩
  · have I : L2.Inv (cxOf CX P w K mg base N qual scope f cdv A outer s H E) [] (L2.start N vs) H s1 := inv_start S hr.room.hd E0 (hl vs H Q E h) hv hin
    refine wpAny_mono (pt.run [] s1 _ H _ I st) (fun fl s' hq => ?_) fun e s' hq => hq
    match fl, hq with
    | .next, ⟨σ', H', I', q⟩ => exact ⟨.non, H', I'.os, I'.bare, I'.base, I'.hok, rfl, q⟩
    | .brk, ⟨σ', H', I', q⟩ => exact q.elim
    | .cont, ⟨σ', H', I', q⟩ => exact q.elim
    | .ret u, ⟨v, σ', H', I', r, q⟩ => exact ⟨v, H', I'.os, I'.bare, I'.base, I'.hok, r, q⟩
theorem run_gok {X : Cx} {CX : CXT} {k : Nat} {f : Addr} {ps : List Str} {sp : Sp} {E : XK} {pins : List (Addr × Obj)} {σ : L2.St} {H : Hp} {s : Shared} {Q : VK} {us : List Value} {vs : List V}
    (F : GOk X.prog X.w X.K X.mg X.base CX k f ps sp) (hr : RoomG k X.A) (hx : Passes CX X E) (I : L2.Inv X pins σ H s) (r : Vals vs us) (h : sp vs H Q E) : wpAny (model X.prog X.w) X.A (call (.ref f) us) (EP X pins σ Q) X.xe s := by
  refine wpAny_call (codeAny_mono (F.run X.A X.stack s H us vs Q E hr I.env0 r h) fun rs s' hq => ?_)
  match rs, hq with
  | .error e, hq => exact hx pins σ H s e s' I hq
  | .ok .next, hq => exact hq.elim
  | .ok .brk, hq => exact hq.elim
  | .ok .cont, hq => exact hq.elim
  | .ok (.ret u), hq => exact I.after hq
theorem pe_gok {X : Cx} {CX : CXT} {k : Nat} {f : Addr} {ps : List Str} {sp : Sp} {E : XK} {x : Str} {p pos : Pos} {e : Expr} {es : List Expr} {t : TA}
    (F : GOk X.prog X.w X.K X.mg X.base CX k f ps sp) (hr : RoomG k X.A) (hg : Gl X x) (hm : X.mg x = some (.ref f)) (hk : PySem.W.keepIn X.K (.ref f) = true) (hx : Passes CX X E) (ha : PA X (e :: es) t)
    (hdb : (x == ("__debug__" : Str)) = false) (he : starEach (e :: es) X.env = (false, eval e X.env) :: starEach es X.env) (hpl : (backTo pos (starEach es X.env)).any (·.1) = false) :
    PE X (.Call (.Name x p) (e :: es) [] pos) (tCall sp [] E t) :=
  ⟨fun pins s σ H Q I h => wpAny_Call_Name_kw (ld_glob I hg hm (PySem.W.callWith_K I.ok.mod.kin hk (thn (ha.run pos pins s σ H (fun vs H1 => sp (vs ++ []) H1 Q E) I h) fun us s1 ⟨vs, H1, I1, r, q⟩ =>
    ⟨I1.kIn, run_gok F hr hx I1 r (by have q : sp (vs ++ []) H1 Q E := q; rw [List.append_nil] at q; exact q)⟩) he hpl) hdb)⟩
theorem cf_okG {P : Program} {w : World} {K : Frg} {mg : Str → Option Value} {base : Heap} {x qual : Str} {params : Arguments} {body : List Stmt} {scope : Scope} {f : Addr} {fd : FuncData} {N ps : List Str} {k n : Nat} {ms : List Bool} {sem : SF} (F : FunD K x qual params body scope [] [] f fd) (B : BndG x qual params body scope ps) (S : FnScope N ps scope) (hm : ms.length = ps.length) (hn : N.length - ps.length = n)
    (hb : ∀ (cdv : Value) (A : Around) (outer : List Env) (s : Shared) (H : Hp) (E : XK), RoomG k (A.deeper (envOfC qual scope s.heap.objs.size f cdv)) → DSs (cxOf CX0 P w K mg base N qual scope f cdv A outer s H E).nox E (prOf ms) body sem) :
    GOk P w K mg base CX0 (k + 1) f ps (spOf K ps.length ms (cfOf n ms sem)) := by
  refine gok_of F B S (fun vs H Q E h => h.1) (fun cdv A outer s H vs Q E hr h => ?_)
  obtain ⟨t, pt, st⟩ := (hb cdv A outer s H E hr).run
  have hl : vs.length = ps.length := h.1
  have st' : SSound K E (prOf ms) t sem := st
  rw [← hl] at h
  exact ⟨t, pt.nox, body_ok st' (by rw [hl]; exact hn) (by rw [hl]; exact hm) h⟩
theorem cf_okXG {P : Program} {w : World} {K : Frg} {mg : Str → Option Value} {base : Heap} {x qual : Str} {params : Arguments} {body : List Stmt} {scope : Scope} {f : Addr} {fd : FuncData} {N ps : List Str} {k n : Nat} {ms : List Bool} {sem : SF} (F : FunD K x qual params body scope [] [] f fd) (B : BndG x qual params body scope ps) (S : FnScope N ps scope) (hm : ms.length = ps.length) (hn : N.length - ps.length = n)
    (hb : ∀ (cdv : Value) (A : Around) (outer : List Env) (s : Shared) (H : Hp) (E : XK), RoomG k (A.deeper (envOfC qual scope s.heap.objs.size f cdv)) → DSs (cxOf (L2.CX P w) P w K mg base N qual scope f cdv A outer s H E) E (prOf ms) body sem) :
    GOk P w K mg base (L2.CX P w) (k + 1) f ps (spOf K ps.length ms (cfOf n ms sem)) := by
  refine gok_of F B S (fun vs H Q E h => h.1) (fun cdv A outer s H vs Q E hr h => ?_)
  obtain ⟨t, pt, st⟩ := (hb cdv A outer s H E hr).run
  have hl : vs.length = ps.length := h.1
  have st' : SSound K E (prOf ms) t sem := st
  rw [← hl] at h
  exact ⟨t, pt, body_ok st' (by rw [hl]; exact hn) (by rw [hl]; exact hm) h⟩
section
variable {X : Cx} {CX : CXT} {k n m : Nat} {f C : Addr} {ps : List Str} {c : CF} {ms : List Bool} {E : XK} {x : Str} {p pos : Pos} {e : Expr} {es : List Expr}
theorem dp_callG {g : PAF} (F : GOk X.prog X.w X.K X.mg X.base CX k f ps (spOf X.K n ms c)) (hr : RoomG k X.A) (hg : Gl X x) (hm : X.mg x = some (.ref f)) (hk : PySem.W.keepIn X.K (.ref f) = true) (hx : Passes CX X E) (ha : DA X (e :: es) n g)
    (hdb : (x == ("__debug__" : Str)) = false := by decide) (he : starEach (e :: es) X.env = (false, eval e X.env) :: starEach es X.env := by rfl) (hpl : (backTo pos (starEach es X.env)).any (·.1) = false := by rfl) :
    DP X (.Call (.Name x p) (e :: es) [] pos) (pFn c g) := by
  obtain ⟨t, ea, sa⟩ := ha.run
  refine ⟨_, pe_gok F hr hg hm hk hx ea hdb he hpl, fun σ H A ρ ow Q P gd h q => ?_⟩
  refine sa σ H A ρ ow _ _ gd h fun zs vs H1 hn hz s1 p1 => ?_
  rw [List.append_nil]
  exact fn_core gd s1 p1 (by obtain ⟨_, r, _⟩ := p1; rw [r.len, hn]) hz q
theorem de_callG {g : AEF} (F : GOk X.prog X.w X.K X.mg X.base CX k f ps (spOf X.K n ms c)) (hr : RoomG k X.A) (hg : Gl X x) (hm : X.mg x = some (.ref f)) (hk : PySem.W.keepIn X.K (.ref f) = true) (hx : Passes CX X E) (ha : DAE X E (e :: es) n g)
    (hdb : (x == ("__debug__" : Str)) = false := by decide) (he : starEach (e :: es) X.env = (false, eval e X.env) :: starEach es X.env := by rfl) (hpl : (backTo pos (starEach es X.env)).any (·.1) = false := by rfl) :
    DE X E (.Call (.Name x p) (e :: es) [] pos) (eFn ms c g) := by
  obtain ⟨t, ea, sa⟩ := ha.run
  refine ⟨_, pe_gok F hr hg hm hk hx ea hdb he hpl, fun σ H A ρ ow Q P PX gd h q qx => ?_⟩
  refine sa σ H A ρ ow _ _ _ gd h (fun avs ρ1 vs H1 fp ow1 A1 hn hz st1 g1 r nd dis => ?_) qx
  split at hz
  · rename_i zs ρ2 e
    rw [List.append_nil]
    exact efn_core e st1 g1 r nd dis (by rw [r.len, hn]) hz q qx
  · exact hz.elim
end
theorem law_callG {P : Program} {w : World} {K : Frg} {mg mb : Str → Option Value} {CX : CXT} {k : Nat} {fa a : Addr} {x : Str} {sp : Sp} {s1 : Shared} {vs : List Value} {ns : List Int} (KX : K.In s1.heap) (hns : s1.heap.Ns mainGlobals mg) (hb : s1.heap.Ns builtinsNs mb)
    (hbb : ∀ (x : Str), x ≠ ("__name__" : Str) → mb x = bootBuiltins x) (hlim : s1.heap.NoLimit) (hg : s1.gens = #[]) (ha : s1.heap.get? a = some { cls := .type "list", data := .seq vs.toArray }) (hi : IntsAre vs ns) (hl : ns.length ≤ sizeLine) (hr : Room k callerA)
    (F : ∀ base : Heap, K.In base → base.Ns mainGlobals mg → GOk P w K mg base CX k fa [x] sp)
    (hsp : ∀ H : Hp, Only H → SqL K H a (ns.map V.int) → sp [.ref a] H (fun v _ => v = .bl true) fun _ _ _ => False) (hCX : ∀ (H : Hp) (e : Value) (s' : Shared), CX [] H s1 (fun _ _ _ => False) e s' → False) :
    codeAny (model P w) callerA (.call (.ref fa) { pos := [.ref a] }) (fun r s' => r = .ok (.ret (.bool true)) ∧ OldK s1.heap s'.heap ∧ s'.os = s1.os ∧ AllBare s'.gens) s1 := by
  have core : ∀ H : Hp, Only H → SqL K H a (ns.map V.int) → HOk P w H s1.heap → (∀ b, H b ≠ none → b = a) → (H a ≠ none → K.lookup a = none) →
      codeAny (model P w) callerA (.call (.ref fa) { pos := [.ref a] }) (fun r s' => r = .ok (.ret (.bool true)) ∧ OldK s1.heap s'.heap ∧ s'.os = s1.os ∧ AllBare s'.gens) s1 := fun H hO hS hok hA hK => by
    have isN : ∀ b, b ≠ a → H b = none := fun b h => by
      cases e : H b with
      | none => rfl
      | some u => exact absurd (hA b (by rw [e]; simp)) h
    have dictN : ∀ b o es ep, s1.heap.get? b = some o → o.data = .dict es ep → H b = none := fun b o es ep e d => isN b fun eb => by
      subst eb; rw [ha] at e; cases e; cases d
    have nsK : ∀ {b : Addr} {m : Str → Option Value}, s1.heap.Ns b m → (hidT s1.heap H).Ns b m := fun ⟨o, es, ep, e, d, r⟩ => ⟨o, es, ep, hidT_get e (dictN _ o es ep e d), d, r⟩
    have kb : K.In (hidT s1.heap H) := fun b o e => hidT_get (KX b o e) (by
      by_cases eb : b = a
      · subst eb
        cases e2 : H b with
        | none => rfl
        | some u => have := hK (by rw [e2]; simp); rw [this] at e; cases e
      · exact isN b eb)
    have hM : L2.Mod K mg (hidT s1.heap H) := ⟨kb, nsK hns, ⟨mb, nsK hb, hbb⟩, let ⟨mc, h1, h2⟩ := hlim; ⟨mc, nsK h1, h2⟩⟩
    have e0 : Env0 P w K mg (hidT s1.heap H) callerA [] s1 H := ⟨rfl, hM, fun b o e => of_hidT e, Nat.le_of_eq (hidT_size s1.heap H), trivial, fun b h => (nomatch h), hok, AllBare.of_eq hg⟩
    refine codeAny_mono ((F (hidT s1.heap H) kb (nsK hns)).run callerA [] s1 H [.ref a] [.ref a] _ _ ⟨hr, rfl⟩ e0 (Paired.cons rfl Paired.nil) (hsp H hO hS)) fun r s' h => ?_
    match r, h with
    | .error e, h => exact (hCX H e s' h).elim
    | .ok .next, h => exact h.elim
    | .ok .brk, h => exact h.elim
    | .ok .cont, h => exact h.elim
    | .ok (.ret u), ⟨v, H', os, bare, un, hok', r', q⟩ =>
      subst q
      have eu : u = .bool true := r'
      subst eu
      refine ⟨rfl, OldK.of_keep fun b o e => ?_, os, bare⟩
      by_cases eb : H b = none
      · exact un.keep b o e eb (fun z => nomatch z) (fun z => nomatch z)
      · rcases hO b with z | ⟨ob, xs, z⟩
        · exact absurd z eb
        · have o1 := hok b _ z
          have o2 := hok' b _ (un.frzs b ob _ z)
          have e1 : s1.heap.get? b = some ob := o1.1
          have e2 : s'.heap.get? b = some ob := o2.1
          rw [e1] at e; cases e
          exact e2
  have rv := vals_ints hi
  cases hk : K.lookup a with
  | none =>
    refine core (fun b => if b = a then some (.frz { cls := .type "list", data := .seq vs.toArray } (.lst (ns.map V.int))) else none) (fun b => ?_) (.inl (.inr ⟨_, if_pos rfl⟩)) (fun b u (z : (if b = a then some (.frz { cls := .type "list", data := .seq vs.toArray } (.lst (ns.map V.int))) else none) = some u) => ?_) (fun b z => ?_) fun _ => hk
    · by_cases eb : b = a
      · exact .inr ⟨_, _, if_pos eb⟩
      · exact .inl (if_neg eb)
    · by_cases eb : b = a
      · rw [if_pos eb] at z; cases z
        subst eb
        exact ⟨ha, by rw [List.length_map]; exact hl, vs, 0, rv, ha⟩
      · rw [if_neg eb] at z; cases z
    · by_cases eb : b = a
      · exact eb
      · exact absurd (if_neg eb) z
  | some o =>
    have e := KX a o hk
    rw [ha] at e; cases e
    exact core (fun _ => none) (fun _ => .inl rfl) (.inr ⟨_, vs.toArray, 0, hk, rfl, rfl, rfl, by rw [List.size_toArray, hi.length]; exact hl, rv⟩) (fun b u z => nomatch z) (fun b z => absurd rfl z) fun z => absurd rfl z
theorem walk_ofG {l : PySem.W.OpenLaw} {n k : Nat} {q : Program} {loose : List Str} {XP : (Str → Option Value) → Heap → Prop} {YP : World → Heap → Prop} {d : DefRec} {CX : World → CXT} {x : Str} (hn : l.most = some n) (hn2 : n ≤ sizeLine) (hdf : d.params.defaults = []) (hr : Room k callerA)
    (F : ∀ (w : World) (mg : Str → Option Value) (fa : Addr) (h : Heap), YP w h → h.Ns mainGlobals mg → mg d.name = some (.ref fa) →
      ∃ (K : Frg) (sp : Sp), K.In h ∧ (∀ (H : Hp) (a : Addr) (ns : List Int), ns.length ≤ n → Only H → SqL K H a (ns.map V.int) → sp [.ref a] H (fun v _ => v = .bl true) fun _ _ _ => False) ∧ ∀ base : Heap, K.In base → base.Ns mainGlobals mg → GOk l.prog w K mg base (CX w) k fa [x] sp)
    (hCX : ∀ (w : World) (H : Hp) (s : Shared) (e : Value) (s' : Shared), CX w [] H s (fun _ _ _ => False) e s' → False) :
    PySem.W.WalkO q loose XP YP l.row.toRowW d [] fun f vs => call f vs :=
  Att.attach_call hn hdf fun w s0 s1 mg mb fa o pm cd doc a vs ns G Y ho hd hcd hmg hobj hints hlen hg => by
    obtain ⟨K, sp, KX, hsp, hF⟩ := F w mg fa s1.heap Y G.T.g hmg
    exact law_callG KX G.T.g G.T.b G.T.builtins G.T.nolimit hg hobj hints (Nat.le_trans hlen hn2) hr hF (fun H hO hS => hsp H a ns hlen hO hS) fun H e s' => hCX w H s1 e s'
end DL

namespace DL
open PySem PySem.Spec PyProof PyProof.Rows L2
mutual
def D.wR : D → Bool
  | .non => true
  | .bl _ => true
  | .int i => decide (i.natAbs < 10 ^ 70)
  | .str x => decide (x = "cut") || decide (x = "lay")
  | .tup ds => D.wRs ds
  | .lst ds => D.wRs ds
  | .kst ds => D.wRs ds
  | _ => false
def D.wRs : List D → Bool
  | [] => true
  | d :: ds => d.wR && D.wRs ds
end
mutual
def D.sR : D → Nat
  | .non => 4
  | .bl _ => 5
  | .int _ => 71
  | .str _ => 8
  | .tup ds => D.sRs ds + 3
  | .lst ds => D.sRs ds + 3
  | .kst ds => D.sRs ds + 3
  | _ => 0
def D.sRs : List D → Nat
  | [] => 0
  | d :: ds => d.sR + 2 + D.sRs ds
end
mutual
def D.hR : D → Nat
  | .tup ds => D.hRs ds + 1
  | .lst ds => D.hRs ds + 1
  | .kst ds => D.hRs ds + 1
  | _ => 1
def D.hRs : List D → Nat
  | [] => 0
  | d :: ds => max d.hR (D.hRs ds)
end
theorem shown_int_len {i : Int} (h : i.natAbs < 10 ^ 70) : (PyData.int i).shown.length ≤ 71 := by
  rw [PyData.shown_int, PySem.ofString_length]
  cases i with
  | ofNat n =>
    show (Nat.repr n).length ≤ 71
    exact Nat.le_trans ((Nat.length_repr_le_iff (by decide)).mpr h) (by decide)
  | negSucc n =>
    show ("-" ++ Nat.repr (n + 1)).length ≤ 71
    rw [String.length_append]
    have := (Nat.length_repr_le_iff (n := n + 1) (k := 70) (by decide)).mpr h
    have e : ("-" : String).length = 1 := rfl
    omega
theorem log_ok {n : Nat} (h : n < 10 ^ 70) : n.log2 < 1920 := by
  by_cases e : n = 0
  · subst e; decide
  · exact (Nat.log2_lt e).mpr (Nat.lt_of_lt_of_le h (by decide +kernel))
mutual
theorem D.wR_ok : ∀ d : D, d.wR = true → d.toP.showable = true ∧ d.toP.hasDict = false ∧ d.toP.canLay0 = true ∧ d.toP.shown.length ≤ d.sR ∧ d.toP.depth ≤ d.hR
  | .non, _ => ⟨rfl, rfl, rfl, by decide, by decide⟩
  | .bl b, _ => ⟨rfl, rfl, rfl, by cases b <;> decide, by cases b <;> decide⟩
  | .int i, h => ⟨decide_eq_true (log_ok (of_decide_eq_true h)), rfl, rfl, shown_int_len (of_decide_eq_true h), Nat.le_of_lt (Nat.lt_succ_of_le (Nat.zero_le _))⟩
  | .tup ds, h => by
    obtain ⟨a, b, c, e, f⟩ := D.wRs_ok ds h
    exact ⟨a, b, c, Nat.le_trans (tupleText_len_le _) (Nat.add_le_add_right e 3), Nat.succ_le_succ f⟩
  | .lst ds, h => by
    obtain ⟨a, b, c, e, f⟩ := D.wRs_ok ds h
    exact ⟨a, b, c, Nat.le_trans (listText_len_le _) (Nat.add_le_add_right e 3), Nat.succ_le_succ f⟩
  | .str x, h => by
    have h' : x = "cut" ∨ x = "lay" := by
      rcases (Bool.or_eq_true _ _).mp (show (decide (x = "cut") || decide (x = "lay")) = true from h) with h | h
      · exact .inl (of_decide_eq_true h)
      · exact .inr (of_decide_eq_true h)
    rcases h' with rfl | rfl
    · exact ⟨rfl, rfl, by decide +kernel, by decide +kernel, by decide⟩
    · exact ⟨rfl, rfl, by decide +kernel, by decide +kernel, by decide⟩
  | .kst ds, h => by
    obtain ⟨a, b, c, e, f⟩ := D.wRs_ok ds h
    exact ⟨a, b, c, Nat.le_trans (listText_len_le _) (Nat.add_le_add_right e 3), Nat.succ_le_succ f⟩
  | .dcT _ _, h => by cases h
  | .dcK _ _, h => by cases h
  | .obj _ _ _, h => by cases h
  | .fn _, h => by cases h
  | .ad _, h => by cases h
  | .lsA _ _, h => by cases h
  | .key _, h => by cases h
  | .tpx _, h => by cases h
  | .exn _, h => by cases h
  | .lkT _, h => by cases h
  | .any, h => by cases h
  | .frz _, h => by cases h
theorem D.wRs_ok : ∀ ds : List D, D.wRs ds = true → PyData.showableAll (D.toPs ds) = true ∧ PyData.hasDictAll (D.toPs ds) = false ∧ PyData.canLayAll0 (D.toPs ds) = true ∧ ((PyData.shownAll (D.toPs ds)).map (·.length)).sum + 2 * (PyData.shownAll (D.toPs ds)).length ≤ D.sRs ds ∧ PyData.depthAll (D.toPs ds) ≤ D.hRs ds
  | [], _ => ⟨rfl, rfl, rfl, Nat.le_refl _, Nat.le_refl _⟩
  | d :: ds, h => by
    have h' := Bool.and_eq_true_iff.mp (show (d.wR && D.wRs ds) = true from h)
    obtain ⟨a, b, c, e, f⟩ := D.wR_ok d h'.1
    obtain ⟨a', b', c', e', f'⟩ := D.wRs_ok ds h'.2
    refine ⟨?_, ?_, ?_, ?_, ?_⟩
    · show (d.toP.showable && PyData.showableAll (D.toPs ds)) = true
      rw [a, a']; rfl
    · show (d.toP.hasDict || PyData.hasDictAll (D.toPs ds)) = false
      rw [b, b']; rfl
    · show (d.toP.canLay0 && PyData.canLayAll0 (D.toPs ds)) = true
      rw [c, c']; rfl
    · show (List.map (·.length) (d.toP.shown :: PyData.shownAll (D.toPs ds))).sum + 2 * (d.toP.shown :: PyData.shownAll (D.toPs ds)).length ≤ d.sR + 2 + D.sRs ds
      rw [List.map_cons, List.sum_cons, List.length_cons]
      omega
    · show max d.toP.depth (PyData.depthAll (D.toPs ds)) ≤ max d.hR (D.hRs ds)
      omega
end
def D.okR (d : D) : Prop := (∃ ds, d.seq = some ds) ∧ d.wR = true ∧ d.sR ≤ 10000000 ∧ d.hR ≤ 50
noncomputable section
def oRepr : List KD → (KD → Prop) → Prop := fun zs P => match zs with
  | [(_, d)] => d.okR ∧ P (.fl, .str d.toP.shown)
  | _ => False
mutual
def _root_.DL.D.imm : D → Bool
  | .non => true
  | .bl _ => true
  | .int _ => true
  | .str _ => true
  | .tup ds => D.imms ds
  | .kst ds => D.imms ds
  | .fn _ => true
  | .ad _ => true
  | .key _ => true
  | .tpx _ => true
  | .exn _ => true
  | .lkT _ => true
  | _ => false
def _root_.DL.D.imms : List D → Bool
  | [] => true
  | d :: ds => d.imm && D.imms ds
end
mutual
theorem RA.imm_no {K : Frg} {A : Addr → Prop} {H : Hp} : ∀ (d : D) (v : V), RA K A H d v → d.imm = true → RA K No H d v
  | .non, _, h, _ => h
  | .bl _, _, h, _ => h
  | .int _, _, h, _ => h
  | .str _, _, h, _ => h
  | .tup ds, _, ⟨p, vs, e, t, r⟩, c => ⟨p, vs, e, t, RAs.imm_no ds vs r c⟩
  | .kst ds, _, ⟨p, vs, e, t, r⟩, c => ⟨p, vs, e, t, RAs.imm_no ds vs r c⟩
  | .lst _, _, _, c => by cases c
  | .dcT _ _, _, _, c => by cases c
  | .dcK _ _, _, _, c => by cases c
  | .obj _ _ _, _, _, c => by cases c
  | .fn _, _, h, _ => h
  | .ad _, _, h, _ => h
  | .lsA _ _, _, _, c => by cases c
  | .key _, _, h, _ => h
  | .tpx _, _, h, _ => h
  | .exn _, _, h, _ => h
  | .lkT _, _, h, _ => h
  | .any, _, _, c => by cases c
  | .frz _, _, _, c => by cases c
theorem RAs.imm_no {K : Frg} {A : Addr → Prop} {H : Hp} : ∀ (ds : List D) (vs : List V), RAs K A H ds vs → D.imms ds = true → RAs K No H ds vs
  | [], _, h, _ => h
  | d :: ds, _, ⟨w, ws, e, h, t⟩, c => by
    have c' := Bool.and_eq_true_iff.mp (show (d.imm && D.imms ds) = true from c)
    exact ⟨w, ws, e, RA.imm_no d w h c'.1, RAs.imm_no ds ws t c'.2⟩
end
def pFlat (f : PF) : PF := fun ρ P => f ρ fun z => z.2.imm = true ∧ P (.fl, z.2)
theorem dp_flat {X : Cx} {e : Expr} {f : PF} (h : DP X e f) : DP X e (pFlat f) := by
  obtain ⟨t, a, s⟩ := h.run
  refine ⟨t, a, fun σ H A ρ ow Q P g hh q => ?_⟩
  exact s σ H A ρ ow Q _ g hh fun z v H1 hz s1 p1 => q (.fl, z.2) v H1 hz.2 s1 (.fl (RA.imm_no _ _ p1.ra hz.1))
theorem imms_all : ∀ {ds : List D}, (∀ d ∈ ds, d.imm = true) → D.imms ds = true
  | [], _ => rfl
  | d :: ds, h => by
    show (d.imm && D.imms ds) = true
    rw [h d (List.mem_cons_self ..), imms_all fun e he => h e (List.mem_cons_of_mem _ he)]; rfl
theorem imm_tab {n : Nat} {f : Nat → D} (h : ∀ i, i < n → (f i).imm = true) : (D.tup (tabl n f)).imm = true := imms_all fun d hd => by
  obtain ⟨i, hi, rfl⟩ := List.mem_map.mp hd
  exact h i (List.mem_range.mp hi)
end
end DL

namespace DL
open PySem PySem.Spec PyProof PyProof.Rows L2
mutual
def D.cL : D → Bool
  | .non => true
  | .bl _ => true
  | .int _ => true
  | .tup ds => D.cLs ds
  | .lst ds => D.cLs ds
  | .kst ds => D.cLs ds
  | .tpx _ => true
  | .key _ => true
  | _ => false
def D.cLs : List D → Bool
  | [] => true
  | d :: ds => d.cL && D.cLs ds
end
mutual
def D.hL : D → Nat
  | .tup ds => D.hLs ds + 1
  | .lst ds => D.hLs ds + 1
  | .kst ds => D.hLs ds + 1
  | .tpx _ => 2
  | .key _ => 2
  | _ => 1
def D.hLs : List D → Nat
  | [] => 0
  | d :: ds => max d.hL (D.hLs ds)
end
theorem pints_ok : ∀ ns : List Int, PyData.canLayAll0 (ns.map PyData.int) = true ∧ PyData.depthAll (ns.map PyData.int) ≤ 1 ∧ PyData.eqvAll (ns.map PyData.int) (ns.map PyData.int) = true
  | [] => ⟨rfl, by decide, rfl⟩
  | i :: ns => by
    obtain ⟨a, b, c⟩ := pints_ok ns
    refine ⟨?_, ?_, ?_⟩
    · show ((PyData.int i).canLay0 && PyData.canLayAll0 (ns.map PyData.int)) = true
      rw [a]; rfl
    · have h1 : (PyData.int i).depth ≤ 1 := Nat.le_of_lt (Nat.lt_succ_of_le (Nat.zero_le _))
      show max (PyData.int i).depth (PyData.depthAll (ns.map PyData.int)) ≤ 1
      omega
    · show (PyData.eqv (.int i) (.int i) && PyData.eqvAll (ns.map PyData.int) (ns.map PyData.int)) = true
      have e : PyData.eqv (.int i) (.int i) = true := (PyData.eqv.eq_5 i i).trans (by simp)
      rw [c, e]; rfl
mutual
theorem D.cL_ok : ∀ d : D, d.cL = true → d.toP.canLay0 = true ∧ d.toP.depth ≤ d.hL ∧ PyData.eqv d.toP d.toP = true
  | .non, _ => ⟨rfl, by decide, rfl⟩
  | .bl b, _ => ⟨rfl, by cases b <;> decide, by cases b <;> rfl⟩
  | .int i, h => ⟨rfl, Nat.le_of_lt (Nat.lt_succ_of_le (Nat.zero_le _)), (PyData.eqv.eq_5 i i).trans (by simp)⟩
  | .tup ds, h => by
    obtain ⟨a, b, c⟩ := D.cLs_ok ds h
    exact ⟨a, Nat.succ_le_succ b, c⟩
  | .lst ds, h => by
    obtain ⟨a, b, c⟩ := D.cLs_ok ds h
    exact ⟨a, Nat.succ_le_succ b, c⟩
  | .kst ds, h => by
    obtain ⟨a, b, c⟩ := D.cLs_ok ds h
    exact ⟨a, Nat.succ_le_succ b, c⟩
  | .str _, h => by cases h
  | .dcT _ _, h => by cases h
  | .dcK _ _, h => by cases h
  | .obj _ _ _, h => by cases h
  | .fn _, h => by cases h
  | .ad _, h => by cases h
  | .lsA _ _, h => by cases h
  | .key ns, _ => by
    obtain ⟨a, b, c⟩ := pints_ok ns
    exact ⟨a, Nat.succ_le_succ b, c⟩
  | .exn _, h => by cases h
  | .tpx ns, _ => by
    obtain ⟨a, b, c⟩ := pints_ok ns
    exact ⟨a, Nat.succ_le_succ b, c⟩
  | .lkT _, h => by cases h
  | .any, h => by cases h
  | .frz _, h => by cases h
theorem D.cLs_ok : ∀ ds : List D, D.cLs ds = true → PyData.canLayAll0 (D.toPs ds) = true ∧ PyData.depthAll (D.toPs ds) ≤ D.hLs ds ∧ PyData.eqvAll (D.toPs ds) (D.toPs ds) = true
  | [], _ => ⟨rfl, Nat.le_refl _, rfl⟩
  | d :: ds, h => by
    have h' := Bool.and_eq_true_iff.mp (show (d.cL && D.cLs ds) = true from h)
    obtain ⟨a, b, c⟩ := D.cL_ok d h'.1
    obtain ⟨a', b', c'⟩ := D.cLs_ok ds h'.2
    refine ⟨?_, ?_, ?_⟩
    · show (d.toP.canLay0 && PyData.canLayAll0 (D.toPs ds)) = true
      rw [a, a']; rfl
    · show max d.toP.depth (PyData.depthAll (D.toPs ds)) ≤ max d.hL (D.hLs ds)
      omega
    · show (PyData.eqv d.toP d.toP && PyData.eqvAll (D.toPs ds) (D.toPs ds)) = true
      rw [c, c']; rfl
end
theorem cL_okE {d : D} (h : d.cL = true) (h2 : d.hL ≤ 60) : d.okE := by
  obtain ⟨a, b, _⟩ := D.cL_ok d h
  show (d.toP.canLay0 && decide (d.toP.depth ≤ 64)) = true
  rw [a, decide_eq_true (by omega)]; rfl
theorem cLs_all : ∀ {ds : List D}, (∀ d ∈ ds, d.cL = true) → D.cLs ds = true
  | [], _ => rfl
  | d :: ds, h => by
    show (d.cL && D.cLs ds) = true
    rw [h d (List.mem_cons_self ..), cLs_all fun e he => h e (List.mem_cons_of_mem _ he)]; rfl
theorem hLs_all {c : Nat} : ∀ {ds : List D}, (∀ d ∈ ds, d.hL ≤ c) → D.hLs ds ≤ c
  | [], _ => Nat.zero_le _
  | d :: ds, h => by
    show max d.hL (D.hLs ds) ≤ c
    have h1 := h d (List.mem_cons_self ..)
    have h2 := hLs_all (c := c) fun e he => h e (List.mem_cons_of_mem _ he)
    omega
theorem cLs_tabl {n : Nat} {f : Nat → D} (h : ∀ i, i < n → (f i).cL = true) : D.cLs (tabl n f) = true := cLs_all fun d hd => by
  obtain ⟨i, hi, rfl⟩ := List.mem_map.mp hd
  exact h i (List.mem_range.mp hi)
theorem hLs_tabl {n c : Nat} {f : Nat → D} (h : ∀ i, i < n → (f i).hL ≤ c) : D.hLs (tabl n f) ≤ c := hLs_all fun d hd => by
  obtain ⟨i, hi, rfl⟩ := List.mem_map.mp hd
  exact h i (List.mem_range.mp hi)
end DL

namespace DL
open PySem PySem.Spec PyProof PyProof.Rows L2
noncomputable section
def zipD (k k' : Kd) (ds es : List D) : List KD := List.zipWith (fun d e => (pairK k k', .tup [d, e])) ds es
def iZp (f : PAF) : IF := fun ρ P => f ρ fun zs => match zs with
  | [(k, .lst ds), (k', .lst es)] => P (zipD k k' ds es)
  | _ => False
theorem zipD_of {k k' : Kd} {ds es : List D} {i : Nat} {z : KD} (h : (zipD k k' ds es)[i]? = some z) : ∃ d e, ds[i]? = some d ∧ es[i]? = some e ∧ z = (pairK k k', .tup [d, e]) := by
  unfold zipD at h
  rw [List.getElem?_zipWith] at h
  cases e1 : ds[i]? with
  | none => rw [e1] at h; cases h
  | some d =>
    cases e2 : es[i]? with
    | none => rw [e1, e2] at h; cases h
    | some e => rw [e1, e2] at h; exact ⟨d, e, rfl, rfl, (Option.some.inj h).symm⟩
theorem zipD_len {k k' : Kd} {ds es : List D} : (zipD k k' ds es).length = min ds.length es.length := List.length_zipWith
theorem di_zip {X : Cx} {a b : Expr} {f : PAF} {p pos tpos : Pos} {elts : List Expr} {kk : Nat} (hg : Gl X "zip") (hm : X.mg "zip" = none) (ha : DA X [a, b] 2 f) (hs : starEach [a, b] X.env = (false, eval a X.env) :: starEach [b] X.env := by rfl) (hpl : (backTo pos (starEach [b] X.env)).any (·.1) = false := by rfl) :
    DI X (.Tuple elts kk tpos) (.Call (.Name "zip" p) [a, b] [] pos) (iZp f) := by
  obtain ⟨t, e, s⟩ := ha.run
  refine ⟨_, pi_zip hg hm e hs hpl, fun σ H A ρ ow R P Z g hz h q => ?_⟩
  refine s σ H A ρ ow _ _ g h fun zs vs H1 _ hh s1 p1 => ?_
  split at hh
  · rename_i k ds k' es _
    obtain ⟨v, w, ev, p2, p3⟩ := p1.get2
    subst ev
    obtain ⟨y, vs, rfl, t, a2, r⟩ := p2.tr.lp
    obtain ⟨y', vs', rfl, t', a3, r'⟩ := p3.tr.lp
    have key : ∀ i z, (zipD k k' ds es)[i]? = some z → ∃ d d', z = (pairK k k', D.tup [d, d']) ∧ ∀ x y, vs[i]? = some x → vs'[i]? = some y → ∀ H2, OkZ Z H1 H2 → RA X.K (k.elA (BB A ow) (Fre2 H H1)) H2 d x ∧ RA X.K (k'.elA (BB A ow) (Fre2 H H1)) H2 d' y := fun i z hzz => by
      obtain ⟨d, e, hd, he, rfl⟩ := zipD_of hzz
      refine ⟨d, e, rfl, fun x y hx hy H2 ok => ⟨?_, ?_⟩⟩
      · obtain ⟨w, hw, rw'⟩ := (elA_keeps (ok.keep (fre2 (H := H1)) hz s1) r).get hd
        rw [hx] at hw
        cases hw
        exact rw'
      · obtain ⟨w, hw, rw'⟩ := (elA_keeps (ok.keep (fre2 (H := H1)) hz s1) r').get he
        rw [hy] at hw
        cases hw
        exact rw'
    have hl : (zipD k k' ds es).length = min vs.length vs'.length := by rw [zipD_len, r.len, r'.len]
    exact ⟨y, y', vs, vs', rfl, .of t, .of t', q _ _ H1 hh s1 (walks_pair (k := k) (k' := k') (walk_zip (K := X.K) (n := (zipD k k' ds es).length) hl) rfl (fun H2 ok => ⟨.of (ok y _ t (zFre fre2 hz s1 y _ t (.inl a2))), .of (ok y' _ t' (zFre fre2 hz s1 y' _ t' (.inl a3)))⟩) key)⟩
  · exact hh.elim
end
end DL

namespace DL
open PySem PySem.Spec PyProof PyProof.Rows L2
noncomputable section
def oFld (C : Str) (NS : List Str) (j : Nat) (z : KD) (P : KD → Prop) : Prop := match z.2 with
  | .obj C' ns ds => C' = C ∧ ns = NS ∧ (match ds[j]? with | some d => P (kel .rd d) | none => False)
  | _ => False
@[irreducible] def xFld (C : Str) (NS : List Str) (j : Nat) (z : KD) (P : KD → Prop) : Prop := hid (oFld C NS j z P)
theorem go_fld {C : Str} {NS : List Str} {j : Nat} {z : KD} {ds : List D} {d : D} {P : KD → Prop} (hz : z.2 = .obj C NS ds) (hd : ds[j]? = some d) (p : P (kel .rd d)) : xFld C NS j z P := by
  unfold xFld; rw [hid_eq]
  unfold oFld
  rw [hz]
  dsimp only
  rw [hd]
  exact ⟨rfl, rfl, p⟩
def pFld (C : Str) (NS : List Str) (j : Nat) (fa : PF) : PF := fun ρ P => fa ρ fun z => xFld C NS j z P
theorem lookup_at {NS : List Str} : ∀ {fs : List (Str × V)} {j : Nat} {f : Str} {w : V}, fs.map (·.1) = NS → NS.Nodup → NS[j]? = some f → (fs.map (·.2))[j]? = some w → fs.lookup f = some w := by
  intro fs
  induction fs generalizing NS with
  | nil => intro j f w e _ h _; subst e; cases h
  | cons a fs ih =>
    intro j f w e hn hf hw
    subst e
    obtain ⟨x, y⟩ := a
    have hn' := List.nodup_cons.mp hn
    cases j with
    | zero =>
      cases hf; cases hw
      rw [List.lookup_cons]
      simp
    | succ j =>
      have hf' : (fs.map (·.1))[j]? = some f := hf
      have hne : (f == x) = false := by
        rw [beq_eq_false_iff_ne]
        intro z
        subst z
        exact hn'.1 (List.mem_of_getElem? hf')
      rw [List.lookup_cons, hne]
      exact ih rfl hn'.2 hf' hw
theorem lookup_none {f : Str} : ∀ {fs : List (Str × V)}, f ∉ fs.map (·.1) → fs.lookup f = none
  | [], _ => rfl
  | (x, y) :: fs, h => by
    have h' : f ≠ x ∧ f ∉ fs.map (·.1) := by
      rw [List.map_cons, List.mem_cons, not_or] at h; exact h
    rw [List.lookup_cons, beq_eq_false_iff_ne.mpr h'.1]
    exact lookup_none h'.2
theorem putF_at {NS : List Str} : ∀ {fs : List (Str × V)} {j : Nat} {f : Str} {y : V}, fs.map (·.1) = NS → NS.Nodup → NS[j]? = some f → (putF f y fs).map (·.1) = NS ∧ (putF f y fs).map (·.2) = (fs.map (·.2)).set j y := by
  intro fs
  induction fs generalizing NS with
  | nil => intro j f y e _ h; subst e; cases h
  | cons a fs ih =>
    intro j f y e hn hf
    subst e
    obtain ⟨x, v⟩ := a
    have hn' := List.nodup_cons.mp hn
    cases j with
    | zero =>
      cases hf
      have e : putF x y ((x, v) :: fs) = (x, y) :: fs := by
        show (if x = x then (x, y) :: fs else (x, v) :: putF x y fs) = _
        rw [if_pos rfl]
      rw [e]
      exact ⟨rfl, rfl⟩
    | succ j =>
      have hf' : (fs.map (·.1))[j]? = some f := hf
      have hne : ¬ x = f := fun z => hn'.1 (z ▸ List.mem_of_getElem? hf')
      have e : putF f y ((x, v) :: fs) = (x, v) :: putF f y fs := by
        show (if x = f then (x, y) :: fs else (x, v) :: putF f y fs) = _
        rw [if_neg hne]
      obtain ⟨h1, h2⟩ := ih (y := y) rfl hn'.2 hf'
      rw [e]
      exact ⟨congrArg (x :: ·) h1, congrArg (v :: ·) h2⟩
theorem putF_new {f : Str} {y : V} : ∀ {fs : List (Str × V)}, f ∉ fs.map (·.1) → putF f y fs = fs ++ [(f, y)]
  | [], _ => rfl
  | (x, v) :: fs, h => by
    have h' : f ≠ x ∧ f ∉ fs.map (·.1) := by
      rw [List.map_cons, List.mem_cons, not_or] at h; exact h
    show (if x = f then (x, y) :: fs else (x, v) :: putF f y fs) = _
    rw [if_neg fun z => h'.1 z.symm, putF_new h'.2]; rfl
section
variable {X : Cx} {pos : Pos}
theorem dp_fld {e : Expr} {f : Str} {fa : PF} {C : Str} {NS : List Str} {j : Nat} (c : Cls X.K (He.ga X.K C)) (na : NoAttr X.K (He.ga X.K C) f) (hn : NS.Nodup) (hj : NS[j]? = some f) (ha : DP X e fa)
    (hb : attributeBase e f X.env (eval e X.env) = eval e X.env := by rfl) : DP X (.Attribute e f pos) (pFld C NS j fa) := by
  obtain ⟨t, ea, sa⟩ := ha.run
  refine ⟨_, pe_fld ea hb, fun σ H A ρ ow Q P g h q => ?_⟩
  refine sa σ H A ρ ow _ _ g h fun z v H1 hz s1 p1 => ?_
  unfold xFld at hz
  rw [hid_eq] at hz
  unfold oFld at hz
  split at hz
  · rename_i C' ns ds e1
    obtain ⟨ec, en, hz⟩ := hz
    subst ec en
    have ra := p1.ra
    rw [e1] at ra
    obtain ⟨p, dx, fs, rfl, a, hp, en, r⟩ := ra
    split at hz
    · rename_i d hd
      obtain ⟨w, hw, rw'⟩ := r.get hd
      exact ⟨p, _, dx, fs, w, rfl, hp, c, na, lookup_at en hn hj hw, q _ w H1 hz s1 (pr_kel (k := .rd) rw')⟩
    · exact hz.elim
  · exact hz.elim
def oFldP (C : Str) (NS : List Str) (j : Nat) (i : Nat) (e : D) (rb : D → D) (P : Nat → Kd → D → (D → D) → Prop) : Prop := match e with
  | .obj C' ns ds => C' = C ∧ ns = NS ∧ (match ds[j]? with | some d => P i .ow d (fun c' => rb (.obj C NS (ds.set j c'))) | none => False)
  | _ => False
@[irreducible] def xFldP (C : Str) (NS : List Str) (j : Nat) (i : Nat) (e : D) (rb : D → D) (P : Nat → Kd → D → (D → D) → Prop) : Prop := hid (oFldP C NS j i e rb P)
def plFld (C : Str) (NS : List Str) (j : Nat) (pl : PLF) : PLF := fun ρ P => pl ρ fun i _ e rb => xFldP C NS j i e rb P
theorem go_fldP {C : Str} {NS : List Str} {j i : Nat} {e : D} {rb : D → D} {ds : List D} {d : D} {P : Nat → Kd → D → (D → D) → Prop} (hz : e = .obj C NS ds) (hd : ds[j]? = some d) (p : P i .ow d (fun c' => rb (.obj C NS (ds.set j c')))) : xFldP C NS j i e rb P := by
  subst hz
  unfold xFldP; rw [hid_eq]
  unfold oFldP
  dsimp only
  rw [hd]
  exact ⟨rfl, rfl, p⟩
theorem dpl_fld {e : Expr} {f : Str} {pl : PLF} {C : Str} {NS : List Str} {j : Nat} (c : Cls X.K (He.ga X.K C)) (na : NoAttr X.K (He.ga X.K C) f) (hn : NS.Nodup) (hj : NS[j]? = some f) (ha : DPl X e pl)
    (hb : attributeBase e f X.env (eval e X.env) = eval e X.env := by rfl) : DPl X (.Attribute e f pos) (plFld C NS j pl) := by
  obtain ⟨ta, ea, sa⟩ := ha.run
  refine ⟨_, pe_fld ea hb, fun σ H A ρ ow Q P g h q => ?_⟩
  refine sa σ H A ρ ow _ _ g h fun i k e rb v H1 h1 s1 p1 => ?_
  unfold xFldP at h1
  rw [hid_eq] at h1
  unfold oFldP at h1
  split at h1
  · rename_i C' ns ds
    obtain ⟨ec, en, h1⟩ := h1
    subst ec en
    obtain ⟨d, v0, g1, fs, g2, fe, e1, e2, z, hsh, put⟩ := p1
    split at h1
    · rename_i d' hd
      obtain ⟨p, dx, fs', w', fc, rfl, hp, en, hw, z'⟩ := z.step_obj hd
      exact ⟨p, _, dx, fs', w', rfl, hp, c, na, lookup_at en hn hj hw, q i .ow _ _ w' H1 h1 s1 ⟨d, v0, g1, fs, g2, fc, e1, e2, z', (fun h => nomatch h), put⟩⟩
    · exact h1.elim
  · exact h1.elim
end
section
variable {K : Frg} {A : Addr → Prop} {H : Hp}
theorem obj_set {C : Str} {NS : List Str} {ds : List D} {w : V} {fe fa : List Addr} {j : Nat} {f : Str} {z : D} {zv : V} (r : R K No H (.obj C NS ds) w fe) (rz : R K No H z zv fa) (nd : (fa ++ fe).Nodup) (hN : NS.Nodup) (hj : NS[j]? = some f) (hn : j < ds.length) :
    ∃ p dx fs fe', w = .ref p ∧ H p = some (.ins (He.ga K C) dx fs) ∧ fs.map (·.1) = NS ∧ p ∈ fe ∧ R K No (upd H p (.ins (He.ga K C) dx (putF f zv fs))) (.obj C NS (ds.set j z)) w fe' ∧ fe'.Nodup ∧ (∀ a ∈ fe', a ∈ fe ∨ a ∈ fa) := by
  obtain ⟨p, dx, fs, fps, rfl, rfl, hp, en, rs⟩ := r
  have hd : ds[j]? = some ds[j] := List.getElem?_eq_getElem hn
  obtain ⟨w0, h1, ho, h3, hw, e3, r1, r2, r3⟩ := Rs.split rs hd
  subst e3
  obtain ⟨n1, n2, n3⟩ := List.nodup_append.mp nd
  obtain ⟨m1, m2⟩ := List.nodup_cons.mp n2
  have nf : p ∉ fa := fun q => n3 p q p (by simp) rfl
  have mu : ∀ u, H p = some u → ¬ Imm u := fun u e => by rw [hp] at e; cases e; exact fun z => z
  have np : p ∉ h1 ∧ p ∉ ho ∧ p ∉ h3 := by
    simp only [List.mem_append, not_or] at m1
    exact m1
  obtain ⟨q1, q2⟩ := putF_at (y := zv) en hN hj
  refine ⟨p, dx, fs, p :: (h1 ++ (fa ++ h3)), rfl, hp, en, by simp, ⟨p, dx, putF f zv fs, _, rfl, rfl, upd_same, q1, by
    rw [q2]
    exact Rs.put hd hw (Rs.keep _ _ _ (KeepF.upd np.1 (fun z => z) mu) r1) (R.keep _ _ _ (KeepF.upd nf (fun z => z) mu) rz) (Rs.keep _ _ _ (KeepF.upd np.2.2 (fun z => z) mu) r3)⟩, ?_, fun a h => ?_⟩
  · obtain ⟨k1, k2, k3⟩ := List.nodup_append.mp m2
    obtain ⟨l1, l2, l3⟩ := List.nodup_append.mp k2
    refine List.nodup_cons.mpr ⟨by simp [np.1, nf, np.2.2], List.nodup_append.mpr ⟨k1, List.nodup_append.mpr ⟨n1, l2, fun a ha b hb => n3 a ha b (by simp [hb])⟩, fun a ha b hb e => ?_⟩⟩
    subst e
    rcases List.mem_append.mp hb with hb | hb
    · exact n3 a hb a (by simp [ha]) rfl
    · exact k3 a ha a (by simp [hb]) rfl
  · simp only [List.mem_cons, List.mem_append] at h ⊢
    rcases h with h | h | h | h <;> simp [h]
theorem obj_new {C : Str} {NS : List Str} {ds : List D} {w : V} {fe fa : List Addr} {f : Str} {z : D} {zv : V} (r : R K No H (.obj C NS ds) w fe) (rz : R K No H z zv fa) (nd : (fa ++ fe).Nodup) (hN : f ∉ NS) :
    ∃ p dx fs fe', w = .ref p ∧ H p = some (.ins (He.ga K C) dx fs) ∧ fs.map (·.1) = NS ∧ p ∈ fe ∧ R K No (upd H p (.ins (He.ga K C) dx (putF f zv fs))) (.obj C (NS ++ [f]) (ds ++ [z])) w fe' ∧ fe'.Nodup ∧ (∀ a ∈ fe', a ∈ fe ∨ a ∈ fa) := by
  obtain ⟨p, dx, fs, fps, rfl, rfl, hp, en, rs⟩ := r
  obtain ⟨n1, n2, n3⟩ := List.nodup_append.mp nd
  obtain ⟨m1, m2⟩ := List.nodup_cons.mp n2
  have nf : p ∉ fa := fun q => n3 p q p (by simp) rfl
  have mu : ∀ u, H p = some u → ¬ Imm u := fun u e => by rw [hp] at e; cases e; exact fun z => z
  have e1 : putF f zv fs = fs ++ [(f, zv)] := putF_new (by rw [en]; exact hN)
  refine ⟨p, dx, fs, p :: (fps ++ fa), rfl, hp, en, by simp, ⟨p, dx, putF f zv fs, _, rfl, rfl, upd_same, by rw [e1, List.map_append, en]; rfl, by
    rw [e1, List.map_append]
    exact (Rs.keep _ _ _ (KeepF.upd m1 (fun z => z) mu) rs).append (Rs.one (R.keep _ _ _ (KeepF.upd nf (fun z => z) mu) rz))⟩, ?_, fun a h => ?_⟩
  · refine List.nodup_cons.mpr ⟨by simp [m1, nf], List.nodup_append.mpr ⟨m2, n1, fun a ha b hb e => n3 b hb a (by simp [ha]) e.symm⟩⟩
  · simp only [List.mem_cons, List.mem_append] at h ⊢
    rcases h with h | h | h <;> simp [h]
end
end
end DL

namespace DL
open PySem PySem.Spec PyProof PyProof.Rows L2
noncomputable section
def oFldS (C : Str) (NS : List Str) (j : Nat) (e : D) (z : KD) (P : D → Prop) : Prop := ownK z.1 = true ∧ match e with
  | .obj C' ns ds => C' = C ∧ ns = NS ∧ j < ds.length ∧ P (.obj C NS (ds.set j z.2))
  | _ => False
@[irreducible] def xFldS (C : Str) (NS : List Str) (j : Nat) (e : D) (z : KD) (P : D → Prop) : Prop := hid (oFldS C NS j e z P)
theorem go_fldS {C : Str} {NS : List Str} {j : Nat} {e : D} {z : KD} {ds : List D} {P : D → Prop} (hz : e = .obj C NS ds) (hk : ownK z.1 = true) (hj : j < ds.length) (p : P (.obj C NS (ds.set j z.2))) : xFldS C NS j e z P := by
  subst hz
  unfold xFldS; rw [hid_eq]
  exact ⟨hk, rfl, rfl, hj, p⟩
def oFldN (C : Str) (NS : List Str) (f : Str) (e : D) (z : KD) (P : D → Prop) : Prop := ownK z.1 = true ∧ match e with
  | .obj C' ns ds => C' = C ∧ ns = NS ∧ P (.obj C (NS ++ [f]) (ds ++ [z.2]))
  | _ => False
@[irreducible] def xFldN (C : Str) (NS : List Str) (f : Str) (e : D) (z : KD) (P : D → Prop) : Prop := hid (oFldN C NS f e z P)
theorem go_fldN {C : Str} {NS : List Str} {f : Str} {e : D} {z : KD} {ds : List D} {P : D → Prop} (hz : e = .obj C NS ds) (hk : ownK z.1 = true) (p : P (.obj C (NS ++ [f]) (ds ++ [z.2]))) : xFldN C NS f e z P := by
  subst hz
  unfold xFldN; rw [hid_eq]
  exact ⟨hk, rfl, rfl, p⟩
def sFldS (C : Str) (NS : List Str) (j : Nat) (fe : EF) (pl : PLF) : SF := fun D ρ => fe ρ (fun z ρ1 => pl ρ1 fun i _ e rb => xFldS C NS j e z fun e' => D.nx (ρ1.set i (some (.ow, rb e')))) D.ex
def sFldN (C : Str) (NS : List Str) (f : Str) (fe : EF) (pl : PLF) : SF := fun D ρ => fe ρ (fun z ρ1 => pl ρ1 fun i _ e rb => xFldN C NS f e z fun e' => D.nx (ρ1.set i (some (.ow, rb e')))) D.ex
section
variable {X : Cx} {E : XK} {pr : List Nat} {pos pos' : Pos} {o value : Expr} {f : Str} {C : Str} {NS : List Str} {j : Nat} {fe : EF} {pl : PLF}
theorem ds_fldS (c : Cls X.K (He.ga X.K C)) (na : NoAttr X.K (He.ga X.K C) f) (hn : NS.Nodup) (hj : NS[j]? = some f) (hlen : NS.length < 1000) (he : DE X E value fe) (ho : DPl X o pl) (hs : swapsWith value (some (.Attribute o f pos')) pos.line X.env = pure false := by rfl) :
    DS X E pr (.Assign [.Attribute o f pos'] value pos) (sFldS C NS j fe pl) := by
  obtain ⟨te, ee, se⟩ := he.run
  obtain ⟨to, eo, so⟩ := ho.run
  refine ⟨_, ps_fld eo ee hs, fun σ H A ρ ow T D gd h nx rt ex => ?_⟩
  refine se σ H A ρ ow _ _ _ gd h (fun z ρ1 v H1 fp ow1 A1 h1 st1 g1 o1 => ?_) fun C ρ1 H1 ow1 A1 h1 st1 g1 => ex C ρ1 σ H1 ow1 A1 h1 st1 g1 fun _ _ => rfl
  refine so σ H1 A1 ρ1 ow1 _ _ g1 h1 fun i k e rb w H2 h2 s2 p2 => ?_
  unfold xFldS at h2
  rw [hid_eq] at h2
  obtain ⟨hk, h2⟩ := h2
  split at h2
  · rename_i C' ns ds
    obtain ⟨ec, en, hl, h2⟩ := h2
    subst ec en
    have o2 : VR X.K A1 H2 z v fp := o1.rep.same s2
    obtain ⟨fe0, r, nd, _, hsh, mtt⟩ := p2.mut (g1.same s2) o1.nd o1.dis
    obtain ⟨p, dx, fs, fe', ew, hp, em, hpf, r', nd', sub⟩ := obj_set (zv := v) r (o2.rown hk) nd hn hj hl
    subst ew
    obtain ⟨ow', st', g', _⟩ := mtt (.obj C' ns (ds.set j z.2)) .ow [] (.fl, .non) .non _ fe' (fun a o e n => by rw [upd_ne (fun z => n (by rw [z]; exact hpf))]; exact e) r' (.inl rfl) ⟨rfl, rfl⟩ nd' fun a h => (sub a (by simpa using h)).elim .inl fun z => .inr (.inl z)
    refine ⟨p, _, dx, fs, rfl, hp, c, na, by rw [← List.length_map (·.1), em]; exact hlen, ?_⟩
    refine nx _ σ _ ow' A1 h2 ?_ g' fun _ _ => rfl
    have stA : Stp H ow A H2 (fp ++ ow1) A1 := (st1.trans (Stp.of_same s2))
    exact stA.trans (st'.sub fun a h => by simp [h])
  · exact h2.elim
theorem ds_fldN (c : Cls X.K (He.ga X.K C)) (na : NoAttr X.K (He.ga X.K C) f) (hn : f ∉ NS) (hlen : NS.length < 1000) (he : DE X E value fe) (ho : DPl X o pl) (hs : swapsWith value (some (.Attribute o f pos')) pos.line X.env = pure false := by rfl) :
    DS X E pr (.Assign [.Attribute o f pos'] value pos) (sFldN C NS f fe pl) := by
  obtain ⟨te, ee, se⟩ := he.run
  obtain ⟨to, eo, so⟩ := ho.run
  refine ⟨_, ps_fld eo ee hs, fun σ H A ρ ow T D gd h nx rt ex => ?_⟩
  refine se σ H A ρ ow _ _ _ gd h (fun z ρ1 v H1 fp ow1 A1 h1 st1 g1 o1 => ?_) fun C ρ1 H1 ow1 A1 h1 st1 g1 => ex C ρ1 σ H1 ow1 A1 h1 st1 g1 fun _ _ => rfl
  refine so σ H1 A1 ρ1 ow1 _ _ g1 h1 fun i k e rb w H2 h2 s2 p2 => ?_
  unfold xFldN at h2
  rw [hid_eq] at h2
  obtain ⟨hk, h2⟩ := h2
  split at h2
  · rename_i C' ns ds
    obtain ⟨ec, en, h2⟩ := h2
    subst ec en
    have o2 : VR X.K A1 H2 z v fp := o1.rep.same s2
    obtain ⟨fe0, r, nd, _, hsh, mtt⟩ := p2.mut (g1.same s2) o1.nd o1.dis
    obtain ⟨p, dx, fs, fe', ew, hp, em, hpf, r', nd', sub⟩ := obj_new (zv := v) r (o2.rown hk) nd hn
    subst ew
    obtain ⟨ow', st', g', _⟩ := mtt (.obj C' (ns ++ [f]) (ds ++ [z.2])) .ow [] (.fl, .non) .non _ fe' (fun a o e n => by rw [upd_ne (fun z => n (by rw [z]; exact hpf))]; exact e) r' (.inl rfl) ⟨rfl, rfl⟩ nd' fun a h => (sub a (by simpa using h)).elim .inl fun z => .inr (.inl z)
    refine ⟨p, _, dx, fs, rfl, hp, c, na, by rw [← List.length_map (·.1), em]; exact hlen, ?_⟩
    refine nx _ σ _ ow' A1 h2 ?_ g' fun _ _ => rfl
    have stA : Stp H ow A H2 (fp ++ ow1) A1 := (st1.trans (Stp.of_same s2))
    exact stA.trans (st'.sub fun a h => by simp [h])
  · exact h2.elim
end
end
end DL

namespace DL
open PySem PySem.Spec PyProof PyProof.Rows L2
theorem RoomG.make {k : Nat} {A : Around} (h : RoomG (k + 1) A) (C : Addr) (us : List Value) : RoomG k (A.under (Code.builtin "type.__call__" { pos := Value.ref C :: us })) := ⟨h.room.make C us [], by
  unfold Around.under
  dsimp only
  rw [h.free]
  rfl⟩
theorem pe_methG {X : Cx} {CX : CXT} {k : Nat} {f C : Addr} {ps : List Str} {sp : Sp} {E : XK} {m : Str} {pos apos : Pos} {e o : Expr} {es : List Expr} {ta : TE} {t : TA} {pl : Sem Bool} (he : PE X o ta) (c : Cls X.K C) (hm : Meth X.K C m f) (F : GOk X.prog X.w X.K X.mg X.base CX k f ps sp) (hr : RoomG k X.A)
    (hx : Passes CX X E) (ha : PA X (e :: es) t) (hst : starEach (e :: es) X.env = (false, eval e X.env) :: starEach es X.env) (hpl : (backTo pos (starEach es X.env)).any (·.1) = false)
    (ht : eval (.Call (.Attribute o m apos) (e :: es) [] pos) X.env = (do
      let ov ← eval o X.env
      standAt apos.atName
      let (f, first) ← holding [ov] (getMethod ov m pl)
      callWith pos f first (backTo pos (starEach (e :: es) X.env)) (backToKw pos (keywordEach [] X.env)))) : PE X (.Call (.Attribute o m apos) (e :: es) [] pos) (tMeth C m sp [] E ta t) := by
  refine ⟨fun pins s σ H Q I h => W.methodCall_KW (thn (he.run pins s σ H _ I h) fun u s1 ⟨x, H1, I1, rx, a, dx, fs, ex, ea, l, q⟩ => ?_) ht⟩
  subst ex
  have rx : u = .ref a := rx
  subst rx
  refine getmeth_ok I1 ea c hm l (W.callWith_K I.ok.mod.kin hm.kp (thn (ha.run pos pins s1 σ H1 (fun vs H2 => sp (V.ref a :: (vs ++ [])) H2 Q E) I1 q) fun us s2 ⟨vs, H2, I2, r, q2⟩ => ?_) hst hpl)
  have q2 : sp (V.ref a :: (vs ++ [])) H2 Q E := q2
  rw [List.append_nil] at q2
  exact ⟨I2.kIn, run_gok F hr hx I2 (show Vals (V.ref a :: vs) (Value.ref a :: us) from Paired.cons (show L2.RelV (V.ref a) (Value.ref a) from rfl) r) q2⟩
theorem pe_meth0G {X : Cx} {CX : CXT} {k : Nat} {f C : Addr} {ps : List Str} {sp : Sp} {E : XK} {m : Str} {pos apos : Pos} {o : Expr} {ta : TE} {pl : Sem Bool} (he : PE X o ta) (c : Cls X.K C) (hm : Meth X.K C m f) (F : GOk X.prog X.w X.K X.mg X.base CX k f ps sp) (hr : RoomG k X.A)
    (hx : Passes CX X E)
    (ht : eval (.Call (.Attribute o m apos) [] [] pos) X.env = (do
      let ov ← eval o X.env
      standAt apos.atName
      let (f, first) ← holding [ov] (getMethod ov m pl)
      callWith pos f first (backTo pos (starEach [] X.env)) (backToKw pos (keywordEach [] X.env)))) : PE X (.Call (.Attribute o m apos) [] [] pos) (tMeth C m sp [] E ta tNil) := by
  refine ⟨fun pins s σ H Q I h => W.methodCall_KW (thn (he.run pins s σ H _ I h) fun u s1 ⟨x, H1, I1, rx, a, dx, fs, ex, ea, l, q⟩ => ?_) ht⟩
  subst ex
  have rx : u = .ref a := rx
  subst rx
  have q : sp (V.ref a :: ([] ++ [])) H1 Q E := q
  exact getmeth_ok I1 ea c hm l (W.callWith_K0 I1.kIn hm.kp (run_gok F hr hx I1 (show Vals [V.ref a] [Value.ref a] from Paired.cons (show L2.RelV (V.ref a) (Value.ref a) from rfl) Paired.nil) q))
theorem run_makeG {X : Cx} {CX : CXT} {k : Nat} {f C : Addr} {ps : List Str} {sp : Sp} {E : XK} {pins : List (Addr × Obj)} {σ : L2.St} {H : Hp} {s : Shared} {Q : VK} {us : List Value} {vs : List V} (M : Mk X.K C f) (F : GOk X.prog X.w X.K X.mg X.base CX k f ps sp) (hr : RoomG (k + 1) X.A)
    (hx : Passes CX X E) (I : L2.Inv X pins σ H s) (r : Vals vs us) (h : ∀ x dx : Addr, H x = none → H dx = none → dx ≠ x → sp (.ref x :: vs) (upd (upd H dx (.own x)) x (.ins C dx [])) (fun v H2 => v = .non ∧ Q (.ref x) H2) E) :
    wpAny (model X.prog X.w) X.A (call (.ref C) us) (EP X pins σ Q) X.xe s := by
  have hq := h (s.heap.objs.size + 1) s.heap.objs.size (I.hok.fresh (Nat.le_succ _)) (I.hok.fresh (Nat.le_refl _)) (Nat.ne_of_lt (Nat.lt_succ_self _))
  have I2 := I.made (C := C)
  refine wpAny_call (make_map I.kIn M.makes M.init (beq_iff_eq.mp M.fn) (codeAny_mono (F.run _ X.stack _ _ (.ref (s.heap.objs.size + 1) :: us) _ _ E (hr.make C us) (I2.env0.make C us []) (show Vals (V.ref (s.heap.objs.size + 1) :: vs) (Value.ref (s.heap.objs.size + 1) :: us) from Paired.cons (show L2.RelV (V.ref (s.heap.objs.size + 1)) (Value.ref (s.heap.objs.size + 1)) from rfl) r) hq) fun rs s' hq' => ?_))
  match rs, hq' with
  | .error e, hq' => exact hx pins σ _ _ e s' I2 hq'
  | .ok .next, hq' => exact hq'.elim
  | .ok .brk, hq' => exact hq'.elim
  | .ok .cont, hq' => exact hq'.elim
  | .ok (.ret u), hq' =>
    obtain ⟨v, H', I3, rv, ev, q3⟩ := I2.after hq'
    subst ev
    exact ⟨rv, .ref (s.heap.objs.size + 1), H', I3, rfl, q3⟩
theorem pe_makeG {X : Cx} {CX : CXT} {k : Nat} {f C : Addr} {ps : List Str} {sp : Sp} {E : XK} {x : Str} {p pos : Pos} {e : Expr} {es : List Expr} {t : TA} (M : Mk X.K C f) (F : GOk X.prog X.w X.K X.mg X.base CX k f ps sp) (hr : RoomG (k + 1) X.A) (hg : Gl X x) (hm : X.mg x = some (.ref C)) (hx : Passes CX X E) (ha : PA X (e :: es) t)
    (hdb : (x == ("__debug__" : Str)) = false) (he : starEach (e :: es) X.env = (false, eval e X.env) :: starEach es X.env) (hpl : (backTo pos (starEach es X.env)).any (·.1) = false) :
    PE X (.Call (.Name x p) (e :: es) [] pos) (tMake C sp [] E t) :=
  ⟨fun pins s σ H Q I h => wpAny_Call_Name_kw (ld_glob I hg hm (W.callWith_K I.ok.mod.kin M.kp (thn (ha.run pos pins s σ H _ I h) fun us s1 ⟨vs, H1, I1, r, q⟩ =>
    ⟨I1.kIn, run_makeG M F hr hx I1 r fun x dx h1 h2 h3 => by have := q x dx h1 h2 h3; rwa [List.append_nil] at this⟩) he hpl) hdb)⟩
noncomputable section
def pMeth (C : Str) (NS : List Str) (c : CF) (fo : PF) (g : PAF) : PF := fun ρ P => fo ρ fun z => (∃ ds, z.2 = .obj C NS ds) ∧ g ρ fun zs => c ((z :: zs).map fun z => (z.1.rdk, z.2)) (fun z _ => P z) (fun _ _ => False)
def eMeth (i : Nat) (C : Str) (NS : List Str) (ms : List Bool) (c : CF) (g : AEF) : EF := fun ρ P PX => (∃ ds, ρ[i]? = some (some (.ow, .obj C NS ds))) ∧ eFn ms c (aPl i g) ρ P PX
section
variable {X : Cx} {CX : CXT} {E : XK} {k n : Nat} {f : Addr} {ps : List Str} {c : CF} {ms : List Bool} {m : Str} {pos apos : Pos} {o e : Expr} {es : List Expr} {C : Str} {NS : List Str} {pl : Sem Bool}
theorem prs_cons {K : Frg} {B : Addr → Prop} {H0 H1 H2 : Hp} {v : V} {vs : List V} {z : KD} {zs : List KD} (s1 : Same H0 H1) (s2 : Same H1 H2) (p1 : PR K B (Fre H0) H1 v z) (p2 : PRs K B (Fre H1) H2 vs zs) : PRs K B (Fre H0) H2 (v :: vs) (z :: zs) := by
  obtain ⟨f1, a1, b1, c1⟩ := p1
  obtain ⟨f2, a2, b2, c2⟩ := p2
  refine ⟨f1 ++ f2, ⟨v, vs, f1, f2, rfl, rfl, a1.same s2, a2.mono fun a z => z.imp id (s1.fre a)⟩, List.nodup_append.mpr ⟨b1, b2, fun a ha b hb e => ?_⟩, fun a z => ?_⟩
  · subst e
    obtain ⟨o, e, _⟩ := a1.mu a ha
    rw [show H1 a = none from c2 a hb] at e; cases e
  · rcases List.mem_append.mp z with z | z
    · exact c1 a z
    · exact s1.fre a (c2 a z)
theorem dp_meth0 {fo : PF} (c' : Cls X.K (He.ga X.K C)) (hm : Meth X.K (He.ga X.K C) m f) (hn : m ∉ NS) (F : GOk X.prog X.w X.K X.mg X.base CX k f ps (spOf X.K 1 ms c)) (hr : RoomG k X.A) (hx : Passes CX X E) (ho : DP X o fo)
    (ht : eval (.Call (.Attribute o m apos) [] [] pos) X.env = (do
      let ov ← eval o X.env
      standAt apos.atName
      let (f, first) ← holding [ov] (getMethod ov m pl)
      callWith pos f first (backTo pos (starEach [] X.env)) (backToKw pos (keywordEach [] X.env))) := by rfl) : DP X (.Call (.Attribute o m apos) [] [] pos) (pMeth C NS c fo fun _ P => P []) := by
  obtain ⟨to, eo, so⟩ := ho.run
  refine ⟨_, pe_meth0G eo c' hm F hr hx ht, fun σ H A ρ ow Q P gd h q => ?_⟩
  refine so σ H A ρ ow _ _ gd h fun z v H1 hz s1 p1 => ?_
  obtain ⟨⟨ds, ez⟩, hz⟩ := hz
  have ra := p1.ra
  rw [ez] at ra
  obtain ⟨p, dx, fs, rfl, ap, hp, en, r⟩ := ra
  refine ⟨p, dx, fs, rfl, hp, lookup_none (by rw [en]; exact hn), ?_⟩
  exact fn_core gd s1 (prs_cons s1 (Same.refl H1) p1 .nil) rfl hz q
theorem de_meth (i : Nat) {x : Str} {px : Pos} {g : AEF} (c' : Cls X.K (He.ga X.K C)) (hm : Meth X.K (He.ga X.K C) m f) (hn : m ∉ NS) (F : GOk X.prog X.w X.K X.mg X.base CX k f ps (spOf X.K (n + 1) ms c)) (hr : RoomG k X.A) (hx : Passes CX X E) (ha : DAE X E (e :: es) n g)
    (hN : X.N[i]? = some x := by rfl) (hv : Vis X.env.scope x := by first | exact Or.inl rfl | exact Or.inr (Or.inl rfl) | exact Or.inr (Or.inr rfl)) (hd : (x == ("__debug__" : Str)) = false := by decide) (hcd : (x == ("__classdict__" : Str)) = false := by decide)
    (hst : starEach (e :: es) X.env = (false, eval e X.env) :: starEach es X.env := by rfl) (hpl : (backTo pos (starEach es X.env)).any (·.1) = false := by rfl)
    (ht : eval (.Call (.Attribute (.Name x px) m apos) (e :: es) [] pos) X.env = (do
      let ov ← eval (.Name x px) X.env
      standAt apos.atName
      let (f, first) ← holding [ov] (getMethod ov m pl)
      callWith pos f first (backTo pos (starEach (e :: es) X.env)) (backToKw pos (keywordEach [] X.env))) := by rfl) : DE X E (.Call (.Attribute (.Name x px) m apos) (e :: es) [] pos) (eMeth i C NS ms c g) := by
  obtain ⟨t, ea, sa⟩ := ha.run
  refine ⟨_, pe_methG (pe_var hN hv hd hcd) c' hm F hr hx ea hst hpl ht, fun σ H A ρ ow Q P PX gd h q qx => ?_⟩
  obtain ⟨⟨ds, e0⟩, h⟩ := h
  obtain ⟨_, h⟩ := h
  obtain ⟨v, fv, hv', vr⟩ := gd.slot e0
  have vr : R X.K No H (.obj C NS ds) v fv := vr.1
  obtain ⟨p, dx, fs, fps, ev, _, hp, en, _⟩ := vr
  subst ev
  refine ⟨.ref p, hv', p, dx, fs, rfl, hp, lookup_none (by rw [en]; exact hn), ?_⟩
  refine sa σ H A ρ ow _ _ _ gd h (fun avs ρ1 vs H1 fp ow1 A1 hl hz st1 g1 r nd dis => ?_) qx
  rw [List.append_nil]
  dsimp only at hz
  split at hz
  · rename_i zs ρ2 e1
    exact efn_core (avs := .pl i :: avs) e1 st1 g1 ⟨.ref p, vs, rfl, hv', r⟩ nd dis (by rw [List.length_cons, r.len, hl]) hz q qx
  · exact hz.elim
end
end
end DL

namespace DL
open PySem PySem.Spec PyProof PyProof.Rows L2
noncomputable section
theorem VRs.same' {K : Frg} {A : Addr → Prop} {H H' : Hp} (s : Same H H') : ∀ {zs : List KD} {vs : List V} {f : List Addr}, VRs K A H zs vs f → VRs K A H' zs vs f
  | [], _, _, h => h
  | z :: zs, _, _, ⟨w, ws, f1, f2, e, e2, h, t⟩ => ⟨w, ws, f1, f2, e, e2, h.same s, VRs.same' s t⟩
section
variable {X : Cx} {CX : CXT} {E : XK} {k n : Nat} {f : Addr} {ps : List Str} {c : CF} {ms : List Bool} {x : Str} {p pos : Pos} {e : Expr} {es : List Expr} {C : Str} {g : PAF}
end
end
end DL

namespace DL
open PySem PySem.Spec PyProof PyProof.Rows L2
noncomputable section
def sNever : SF := fun _ _ => False
def pLenSet (f : PF) : PF := fun ρ P => f ρ fun z => match z with
  | (_, .lst ds) => ∃ ns : List Int, ds = ns.map .int ∧ ns.Nodup ∧ ns.length ≤ 4000 ∧ P (.fl, .int ns.length)
  | _ => False
section
variable {X : Cx} {E : XK} {pr : List Nat} {pos : Pos}
theorem dp_gint {x : Str} {i : Int} {p : Pos} (hg : Gl X x) (hm : ∃ t, X.mg x = some (.int i t)) (hd : (x == ("__debug__" : Str)) = false := by decide) : DP X (.Name x p) (pC (.int i)) := by
  obtain ⟨t, hm⟩ := hm
  exact dp_c (v := .int i) (pe_glob (v := .int i) hg hm ⟨t, rfl⟩ hd) fun _ _ => rfl
theorem dp_lenSet {a : Expr} {p p2 q : Pos} {f : PF} (hc : X.calm = true) (hg : Gl X "len") (hm : X.mg "len" = none) (hg2 : Gl X "set") (hm2 : X.mg "set" = none) (ha : DP X a f)
    (na : starEach [a] X.env = (false, eval a X.env) :: starEach [] X.env := by rfl) : DP X (.Call (.Name "len" p) [.Call (.Name "set" p2) [a] [] q] [] pos) (pLenSet f) := by
  obtain ⟨t, ea, sa⟩ := ha.run
  refine ⟨_, RZ.pe_lenSetI hg hm hg2 hm2 ea hc na, fun σ H A ρ ow Q P gd h q => ?_⟩
  refine sa σ H A ρ ow _ _ gd h fun z v H1 hz s1 p1 => ?_
  split at hz
  · rename_i k ds
    obtain ⟨ns, e, nd, hl, hP⟩ := hz
    subst e
    obtain ⟨l, us, ev, t, r⟩ := p1.lstT
    subst ev
    have eu : us = ns.map V.int := r.ints
    subst eu
    exact ⟨l, ns, rfl, .of t, nd, hl, q _ _ H1 hP s1 (.fl rfl)⟩
  · exact hz.elim
def gFld (K : PySem.W.Frag) (to : TE) (f : Str) : TG := fun v σ H Q => to σ H fun x H1 => ∃ a C dx fs, x = .ref a ∧ H1 a = some (.ins C dx fs) ∧ Cls K C ∧ NoAttr K C f ∧ fs.length < 1000 ∧ Q σ (upd H1 a (.ins C dx (putF f v fs)))
theorem pg_fld {o : Expr} {f : Str} {to : TE} {p : Pos} (ho : PE X o to) : PG X (.Attribute o f p) (gFld X.K to f) := by
  refine ⟨fun pins s σ H v u Q I r h => ?_⟩
  rw [assign_Attribute]
  refine wpAny_bind (wpAny_holding (thn (ho.run pins s σ H _ I h) fun ov s1 ⟨x, H1, I1, r1, a, C, dx, fs, ex, ea, c, n, l, q1⟩ => ?_))
  subst ex
  obtain rfl : ov = Value.ref a := r1
  refine wpAny_bind (wpAny_standAt (wpAny_bind (wpAny_holding (setattr_ok I1 ea c n l r fun s3 I3 => ?_))))
  exact wpAny_release ⟨σ, _, I3, q1⟩
theorem gfld_ok {K : Frg} {to : TE} {pl : PLF} {A1 : Addr → Prop} {H1 : Hp} {ρ1 : Ro} {σ : L2.St} {ow1 : List Addr} {d : D} {v : V} {P : Ro → Prop} {Q : L2.St → Hp → Prop} {C f : Str} {NS : List Str} {j : Nat} (so : PLSound K to pl)
    (c : Cls K (He.ga K C)) (na : NoAttr K (He.ga K C) f) (hn : NS.Nodup) (hj : NS[j]? = some f) (hlen : NS.length < 1000)
    (g1 : Good K A1 H1 ρ1 σ ow1) (o1 : RA K No H1 d v) (h : pl ρ1 fun i k e rb => xFldS C NS j e (.fl, d) fun e' => P (ρ1.set i (some (.ow, rb e'))))
    (q : ∀ ρ' H' ow', P ρ' → Good K A1 H' ρ' σ ow' → Stp H1 ow1 A1 H' ow' A1 → Q σ H') : gFld K to f v σ H1 Q := by
  refine so σ H1 A1 ρ1 ow1 _ _ g1 h fun i k e rb w H2 h2 s2 p2 => ?_
  unfold xFldS at h2
  rw [hid_eq] at h2
  obtain ⟨hk, h2⟩ := h2
  split at h2
  · rename_i C' ns ds
    obtain ⟨ec, en, hl, h2⟩ := h2
    subst ec en
    have o2 : R K No H2 d v [] := R.of0 _ _ (o1.same s2)
    obtain ⟨fe0, r, nd, _, hsh, mtt⟩ := p2.mut (fa := []) (g1.same s2) (g1.same s2).nd fun a h => nomatch h
    obtain ⟨p, dx, fs, fe', ew, hp, em, hpf, r', nd', sub⟩ := obj_set (zv := v) r o2 nd hn hj hl
    subst ew
    obtain ⟨ow', st', g', _⟩ := mtt (.obj C' ns (ds.set j d)) .ow [] (.fl, .non) .non _ fe' (fun a o e n => by rw [upd_ne (fun z => n (by rw [z]; exact hpf))]; exact e) r' (.inl rfl) ⟨rfl, rfl⟩ nd' fun a h => (sub a (by simpa using h)).elim .inl fun z => .inr (.inl z)
    refine ⟨p, _, dx, fs, rfl, hp, c, na, by rw [← List.length_map (·.1), em]; exact hlen, ?_⟩
    exact q _ _ ow' h2 g' ((Stp.of_same s2).trans (st'.sub fun a h => by simpa using h))
  · exact h2.elim
def oTwo (z : KD) (P : D → D → Prop) : Prop := match z.2 with
  | .tup [a, b] => a.imm = true ∧ b.imm = true ∧ P a b
  | _ => False
@[irreducible] def xTwo (z : KD) (P : D → D → Prop) : Prop := hid (oTwo z P)
theorem go_two {z : KD} {a b : D} {P : D → D → Prop} (hz : z.2 = .tup [a, b]) (ha : a.imm = true) (hb : b.imm = true) (p : P a b) : xTwo z P := by
  unfold xTwo; rw [hid_eq]; unfold oTwo; rw [hz]; exact ⟨ha, hb, p⟩
def sFldP (C : Str) (NS : List Str) (j1 j2 : Nat) (fe : EF) (pl1 pl2 : PLF) : SF := fun D ρ => fe ρ (fun z ρ1 => xTwo z fun a b => pl1 ρ1 fun i _ e rb => xFldS C NS j1 e (.fl, a) fun e' =>
  pl2 (ρ1.set i (some (.ow, rb e'))) fun i2 _ e2 rb2 => xFldS C NS j2 e2 (.fl, b) fun e2' => D.nx ((ρ1.set i (some (.ow, rb e'))).set i2 (some (.ow, rb2 e2')))) D.ex
theorem ds_fldP {o1 o2 e : Expr} {f1 f2 : Str} {p1 p2 pt : Pos} {kt : Nat} {C : Str} {NS : List Str} {j1 j2 : Nat} {fe : EF} {pl1 pl2 : PLF} (hc : X.calm = true) (c : Cls X.K (He.ga X.K C)) (na1 : NoAttr X.K (He.ga X.K C) f1) (na2 : NoAttr X.K (He.ga X.K C) f2) (hn : NS.Nodup) (hj1 : NS[j1]? = some f1) (hj2 : NS[j2]? = some f2) (hlen : NS.length < 1000)
    (he : DE X E e fe) (ho1 : DPl X o1 pl1) (ho2 : DPl X o2 pl2)
    (hs : swapsWithSole [.Tuple [.Attribute o1 f1 p1, .Attribute o2 f2 p2] kt pt] e pos.line X.env = pure false := by rfl) (hw : swappedStores [.Tuple [.Attribute o1 f1 p1, .Attribute o2 f2 p2] kt pt] e X.env = pure none := by rfl)
    (h1 : (assignEach [.Tuple [.Attribute o1 f1 p1, .Attribute o2 f2 p2] kt pt] X.env).map (·.2) = [assign (.Tuple [.Attribute o1 f1 p1, .Attribute o2 f2 p2] kt pt) X.env] := by rfl)
    (hn2 : (assignEach [.Attribute o1 f1 p1, .Attribute o2 f2 p2] X.env).length = 2 := by rfl) (hst : (assignEach [.Attribute o1 f1 p1, .Attribute o2 f2 p2] X.env).findIdx? (·.1) = none := by rfl)
    (ha1 : (assignEach [.Attribute o1 f1 p1, .Attribute o2 f2 p2] X.env).map (·.2) = assign (.Attribute o1 f1 p1) X.env :: (assignEach [.Attribute o2 f2 p2] X.env).map (·.2) := by rfl)
    (ha2 : (assignEach [.Attribute o2 f2 p2] X.env).map (·.2) = assign (.Attribute o2 f2 p2) X.env :: (assignEach [] X.env).map (·.2) := by rfl) :
    DS X E pr (.Assign [.Tuple [.Attribute o1 f1 p1, .Attribute o2 f2 p2] kt pt] e pos) (sFldP C NS j1 j2 fe pl1 pl2) := by
  obtain ⟨te, ee, se⟩ := he.run
  obtain ⟨to1, eo1, so1⟩ := ho1.run
  obtain ⟨to2, eo2, so2⟩ := ho2.run
  refine ⟨_, ps_asg ee (pg_tup hc (pgs_cons (pg_fld eo1) (pgs_cons (pg_fld eo2) pgs_nil ha2) ha1) hn2 hst) hs hw h1, fun σ H A ρ ow T D gd h nx rt ex => ?_⟩
  refine se σ H A ρ ow _ _ _ gd h (fun z ρ1 v H1 fp ow1 A1 hz st1 g1 o1 => ?_) fun C ρ1 H1 ow1 A1 h1 st1 g1 => ex C ρ1 σ H1 ow1 A1 h1 st1 g1 fun _ _ => rfl
  unfold xTwo at hz
  rw [hid_eq] at hz
  unfold oTwo at hz
  split at hz
  · rename_i a b ez
    obtain ⟨ia, ib, hz⟩ := hz
    have ra : RA X.K (fun _ => True) H1 z.2 v := o1.rep.ra (fun _ _ => trivial) fun _ _ => trivial
    rw [ez] at ra
    obtain ⟨q, vs, rfl, t, x, ws, rfl, rx, y, ws2, rfl, ry, e0⟩ := ra
    have e0 : ws2 = [] := e0
    subst e0
    have rx' := RA.imm_no _ _ rx ia
    have ry' := RA.imm_no _ _ ry ib
    refine ⟨q, [x, y], rfl, t, rfl, x, [y], rfl, ?_⟩
    refine gfld_ok (P := fun ρ' => pl2 ρ' fun i2 _ e2 rb2 => xFldS C NS j2 e2 (.fl, b) fun e2' => D.nx (ρ'.set i2 (some (.ow, rb2 e2')))) so1 c na1 hn hj1 hlen g1 rx' hz fun ρ2 H2 ow2 hz2 g2 st2 => ?_
    refine ⟨y, [], rfl, ?_⟩
    have ky : Keep A1 H1 H2 := g1.keepA st2
    refine gfld_ok (P := D.nx) so2 c na2 hn hj2 hlen g2 (RA.keep ky.no _ _ ry') hz2 fun ρ3 H3 ow3 hz3 g3 st3 => ?_
    exact ⟨rfl, nx _ σ H3 ow3 A1 hz3 ((st1.sub (ow0 := ow1) fun a h => by simp [h]).trans (st2.trans st3)) g3 fun _ _ => rfl⟩
  · exact hz.elim
end
theorem AVs.vrs {K : Frg} {A : Addr → Prop} {H : Hp} {σ : L2.St} : ∀ {zs : List KD} {vs : List V} {f : List Addr}, AVs K A H σ (zs.map .v) vs f → VRs K A H zs vs f
  | [], _, _, h => h
  | z :: zs, _, _, ⟨w, ws, f1, f2, e, e2, h, t⟩ => ⟨w, ws, f1, f2, e, e2, h, AVs.vrs t⟩
section
variable {X : Cx} {CX : CXT} {E : XK} {k n : Nat} {f : Addr} {ps : List Str} {c : CF} {ms : List Bool} {x : Str} {p pos : Pos} {e : Expr} {es : List Expr} {C : Str} {g : AEF}
end
end
end DL

namespace DL
open PySem PySem.Spec PyProof PyProof.Rows L2
noncomputable section
def sForR (src : IF) (g : GF) (body : SF) : SF := fun D ρ => src ρ fun zs => kFor g body D zs ρ
section
variable {X : Cx} {E : XK} {pr : List Nat} {pos : Pos} {tg : Expr} {body : List Stmt} {is : List Nat} {g : GF} {f : SF}
theorem ds_forR1 {a : Expr} {fa : PAF} {p pos' : Pos} (hp : PassesOwn (model X.prog X.w) X.A X.env X.xe) (hc : X.calm = true) (hgl : Gl X "range") (hm : X.mg "range" = none) (ha : DA X [a] 1 fa) (hg : DG X tg is g) (hb : DSs X E pr body f) (hpr : (is.all fun i => !pr.contains i) = true := by rfl)
    (hs1 : starEach [a] X.env = [(false, eval a X.env)] := by rfl) (hs : ∀ x, foldedSetIterable (.Call (.Name "range" p) [a] [] pos') X.env x = pure x := by intro _; rfl) : DS X E pr (.For tg (.Call (.Name "range" p) [a] [] pos') body [] pos) (sForR (jR1 fa) g f) := by
  obtain ⟨t, e, s⟩ := ha.run
  obtain ⟨tg', pg, sg⟩ := hg.run
  obtain ⟨tb, pb, sb⟩ := hb.run
  refine ⟨_, ps_for hp hc (pi_range1 hgl hm e hs1) pg pb hs, fun σ H A ρ ow T D gd h nx rt ex => ?_⟩
  refine s σ H A ρ ow _ _ gd h fun zs vs H1 _ hh s1 p1 => ?_
  split at hh
  · unfold kR1 at hh
    rw [hid_eq] at hh
    obtain ⟨h1, h2, h3⟩ := hh
    obtain ⟨v, ev, p2⟩ := p1.get1
    obtain rfl : v = .int _ := p2.ra
    refine ⟨_, ev, by omega, by omega, ?_⟩
    rw [kFor_eq] at h3
    exact for_core sg sb hpr (gd.same s1) (Stp.of_same s1) (B := A) walks_range (fun _ h => h) h3 nx rt ex
  · exact hh.elim
theorem ds_forR2 {a b : Expr} {fa : PAF} {p pos' : Pos} (hp : PassesOwn (model X.prog X.w) X.A X.env X.xe) (hc : X.calm = true) (hgl : Gl X "range") (hm : X.mg "range" = none) (ha : DA X [a, b] 2 fa) (hg : DG X tg is g) (hb : DSs X E pr body f) (hpr : (is.all fun i => !pr.contains i) = true := by rfl)
    (hs1 : starEach [a, b] X.env = [(false, eval a X.env), (false, eval b X.env)] := by rfl) (hs2 : starEach [b] X.env = [(false, eval b X.env)] := by rfl) (hs : ∀ x, foldedSetIterable (.Call (.Name "range" p) [a, b] [] pos') X.env x = pure x := by intro _; rfl) : DS X E pr (.For tg (.Call (.Name "range" p) [a, b] [] pos') body [] pos) (sForR (jR2 fa) g f) := by
  obtain ⟨t, e, s⟩ := ha.run
  obtain ⟨tg', pg, sg⟩ := hg.run
  obtain ⟨tb, pb, sb⟩ := hb.run
  refine ⟨_, ps_for hp hc (pi_range2 hgl hm e hs1 hs2) pg pb hs, fun σ H A ρ ow T D gd h nx rt ex => ?_⟩
  refine s σ H A ρ ow _ _ gd h fun zs vs H1 _ hh s1 p1 => ?_
  split at hh
  · unfold kR2 at hh
    rw [hid_eq] at hh
    obtain ⟨⟨h1, h2, h3, h4⟩, h5⟩ := hh
    obtain ⟨v, w, ev, p2, p3⟩ := p1.get2
    obtain rfl : v = .int _ := p2.ra
    obtain rfl : w = .int _ := p3.ra
    refine ⟨_, _, ev, ⟨by omega, by omega, by omega, by omega⟩, ?_⟩
    rw [kFor_eq] at h5
    exact for_core sg sb hpr (gd.same s1) (Stp.of_same s1) (B := A) walks_range (fun _ h => h) h5 nx rt ex
  · exact hh.elim
end
end
end DL

namespace DL
open PySem PySem.Spec PyProof PyProof.Rows L2
noncomputable section
structure ExF (K : Frg) (mg : Str → Option Value) (C : Str) : Prop where
  g : mg C = some (.ref (He.ga K C))
  e : PySem.W.excIn K (He.ga K C) He.veBase "ValueError.__new__" = true ∧ PySem.W.keepIn K (.ref (He.ga K C)) = true ∧ PySem.W.subIn K (.ref (He.ga K C)) (.type "BaseException") = some true ∧ PySem.W.typeIn K (.ref (He.ga K C)) = some (.type "type")
def sRaise (C : Str) : SF := fun D ρ => D.ex C ρ
theorem ds_raise {X : Cx} {E : XK} {pr : List Nat} {C m : Str} {j : Nat} {p p2 pos pos' : Pos} (hc : X.calm = true) (tk : Takes X (fun cls d _ H => E cls d H)) (hg : Gl X C) (f : ExF X.K X.mg C) (hdb : (C == ("__debug__" : Str)) = false := by decide) :
    DS X E pr (.Raise (some (.Call (.Name C p) [.Constant (.str m) j p2] [] pos)) none pos') (sRaise C) :=
  ⟨_, ps_raise hc tk (pmk_own PySem.F.excBase_ValueError f.e.1 f.g f.e.2.1 (raises_own f.e.2.2.1 f.e.2.2.2) hg hdb), fun σ H A ρ ow T D gd h nx rt ex => ex C ρ σ H ow A h Stp.refl gd fun _ _ => rfl⟩
def cfN (n : Nat) (ms : List Bool) (f : SF) : CF := fun zs Q _ => cfOf n ms f zs Q fun _ _ => False
theorem cf_okN {P : Program} {w : World} {K : Frg} {mg : Str → Option Value} {base : Heap} {x qual : Str} {params : Arguments} {body : List Stmt} {scope : Scope} {f : Addr} {fd : FuncData} {N ps : List Str} {k n : Nat} {ms : List Bool} {sem : SF} (F : FunD K x qual params body scope [] [] f fd) (B : BndG x qual params body scope ps) (S : FnScope N ps scope) (hm : ms.length = ps.length) (hn : N.length - ps.length = n)
    (hb : ∀ (cdv : Value) (A : Around) (outer : List Env) (s : Shared) (H : Hp) (E : XK), RoomG k (A.deeper (envOfC qual scope s.heap.objs.size f cdv)) → DSs (cxOf CX0 P w K mg base N qual scope f cdv A outer s H E).nox E0 (prOf ms) body sem) :
    GOk P w K mg base CX0 (k + 1) f ps (spOf K ps.length ms (cfN n ms sem)) := by
  refine gok_of F B S (fun vs H Q E h => h.1) (fun cdv A outer s H vs Q E hr h => ?_)
  obtain ⟨t, pt, st⟩ := (hb cdv A outer s H E hr).run
  have hl : vs.length = ps.length := h.1
  have st' : SSound K E0 (prOf ms) t sem := st
  obtain ⟨h1, zs, A1, M, Q0, X0, r, nd, dis, tr, hc, hq, hx⟩ := h
  have h2 : spOf K vs.length ms (cfOf n ms sem) vs H Q E0 := ⟨rfl, zs, A1, M, Q0, fun _ _ => False, r, nd, dis, tr, hc, hq, fun _ _ _ _ _ x => x.elim⟩
  exact ⟨t, pt.nox, body_ok st' (by rw [hl]; exact hn) (by rw [hl]; exact hm) h2⟩
theorem run_gokS {X : Cx} {CX : CXT} {k : Nat} {f : Addr} {ps : List Str} {sp : Sp} {E : XK} {pins : List (Addr × Obj)} {σ : L2.St} {H : Hp} {s : Shared} {Q : VK} {us : List Value} {vs : List V}
    (F : GOk X.prog X.w X.K X.mg X.base CX k f ps sp) (hr : RoomG k X.A) (hx : PassesAt CX X σ E) (I : L2.Inv X pins σ H s) (r : Vals vs us) (h : sp vs H Q E) : wpAny (model X.prog X.w) X.A (call (.ref f) us) (EP X pins σ Q) X.xe s := by
  refine wpAny_call (codeAny_mono (F.run X.A X.stack s H us vs Q E hr I.env0 r h) fun rs s' hq => ?_)
  match rs, hq with
  | .error e, hq => exact hx pins H s e s' I hq
  | .ok .next, hq => exact hq.elim
  | .ok .brk, hq => exact hq.elim
  | .ok .cont, hq => exact hq.elim
  | .ok (.ret u), hq => exact I.after hq
section
variable {X : Cx} {E : XK} {a b : Expr} {rest : List Expr} {pos : Pos} {fa fb : EF}
theorem Own.bl {K : Frg} {A : Addr → Prop} {H : Hp} {b : Bool} {ow : List Addr} (nd : ow.Nodup) : Own K A H (.fl, .bl b) (.bl b) [] ow := ⟨⟨rfl, rfl⟩, nd, fun _ h => nomatch h⟩
end
def sForRE (fe : EF) (g : GF) (body : SF) : SF := fun D ρ => fe ρ (fun z ρ1 => match z.2 with
  | .int j => kR1 j fun zs => kFor g body D zs ρ1
  | _ => False) D.ex
theorem ds_forRE {X : Cx} {E : XK} {pr : List Nat} {pos : Pos} {tg : Expr} {body : List Stmt} {is : List Nat} {g : GF} {f : SF} {a : Expr} {fe : EF} {p pos' : Pos} (hp : PassesOwn (model X.prog X.w) X.A X.env X.xe) (hc : X.calm = true) (hgl : Gl X "range") (hm : X.mg "range" = none) (ha : DE X E a fe) (hg : DG X tg is g) (hb : DSs X E pr body f) (hpr : (is.all fun i => !pr.contains i) = true := by rfl)
    (hs0 : starEach [a] X.env = (false, eval a X.env) :: starEach [] X.env := by rfl)    (hs1 : starEach [a] X.env = [(false, eval a X.env)] := by rfl) (hs : ∀ x, foldedSetIterable (.Call (.Name "range" p) [a] [] pos') X.env x = pure x := by intro _; rfl) : DS X E pr (.For tg (.Call (.Name "range" p) [a] [] pos') body [] pos) (sForRE fe g f) := by
  obtain ⟨t, e, s⟩ := ha.run
  obtain ⟨tg', pg, sg⟩ := hg.run
  obtain ⟨tb, pb, sb⟩ := hb.run
  refine ⟨_, ps_for hp hc (pi_range1 hgl hm (pa_cons e pa_nil hs0) hs1) pg pb hs, fun σ H A ρ ow T D gd h nx rt ex => ?_⟩
  refine s σ H A ρ ow _ _ _ gd h (fun z ρ1 v H1 fp ow1 A1 hh st1 g1 o1 => ?_) fun C ρ1 H1 ow1 A1 h1 st1 g1 => ex C ρ1 σ H1 ow1 A1 h1 st1 g1 fun _ _ => rfl
  have ra : RA X.K (fun _ => True) H1 z.2 v := o1.rep.ra (fun _ _ => trivial) fun _ _ => trivial
  split at hh
  · rename_i j ez
    unfold kR1 at hh
    rw [hid_eq] at hh
    obtain ⟨h1, h2, h3⟩ := hh
    rw [ez] at ra
    obtain rfl : v = .int _ := ra
    refine ⟨_, rfl, by omega, by omega, ?_⟩
    rw [kFor_eq] at h3
    exact for_core sg sb hpr g1 (st1.sub fun a h => by simp [h]) (B := A1) walks_range (fun _ h => h) h3 nx rt ex
  · exact hh.elim
end
end DL

namespace DL
open PySem PySem.Spec PyProof PyProof.Rows L2
noncomputable section
theorem dp_gfn {X : Cx} {x : Str} {f : Addr} {p : Pos} (hg : Gl X x) (hm : X.mg x = some (.ref f)) (ef : f = He.ga X.K x) (hd : (x == ("__debug__" : Str)) = false := by decide) : DP X (.Name x p) (pC (.fn x)) := by
  subst ef
  exact dp_c (v := .ref (He.ga X.K x)) (pe_glob (v := .ref _) hg hm rfl hd) fun _ _ => rfl
end
end DL

namespace DL
open PySem PySem.Spec PyProof PyProof.Rows L2
def SqB (b : Bool) (K : PySem.W.Frag) (H : Hp) (a : Addr) (xs : List V) : Prop := match b with | true => SqL K H a xs | false => SqT K H a xs
def HpB (b : Bool) (h : Heap) (a : Addr) (its : Array Value) : Prop := match b with | true => h.IsList a its | false => h.IsTuple a its
def ItB (b : Bool) (h : Heap) (it a : Addr) (i : Nat) : Prop := match b with | true => h.IsListIter it a i | false => h.IsTupleIter it a i
def obB (b : Bool) (a : Addr) : Obj := match b with | true => { cls := .type "list_iterator", data := .fields #[.ref a, .int 0 0] } | false => { cls := .type "tuple_iterator", data := .fields #[.ref a, .int 0 0] }
section
variable {b : Bool} {h h' : Heap} {it a : Addr} {i : Nat} {its : Array Value}
theorem ItB.at_ (x : ItB b h it a i) (e : ∀ o, h.get? it = some o → h'.get? it = some o) : ItB b h' it a i := by
  cases b with
  | true => exact Heap.IsListIter.at x e
  | false => exact Heap.IsTupleIter.at x e
theorem ItB.obj (x : ItB b h it a i) : ∃ o, h.get? it = some o ∧ ∀ v, o.data ≠ .cell v := by
  cases b with
  | true => obtain ⟨o, e, _, d⟩ := x; exact ⟨o, e, fun v q => by rw [d] at q; cases q⟩
  | false => obtain ⟨o, e, _, d⟩ := x; exact ⟨o, e, fun v q => by rw [d] at q; cases q⟩
theorem HpB.ne (x : HpB b h a its) (y : ItB b h it a i) : a ≠ it := fun q => by
  cases b with
  | true =>
    obtain ⟨o, ho, hcl, _⟩ := x
    obtain ⟨o2, ho2, hc2, _⟩ := y
    rw [q, ho2] at ho
    cases ho
    rw [hc2] at hcl
    injection hcl with q2
    exact absurd q2 (by decide)
  | false =>
    obtain ⟨o, ho, hcl, _⟩ := x
    obtain ⟨o2, ho2, hc2, _⟩ := y
    rw [q, ho2] at ho
    cases ho
    rw [hc2] at hcl
    injection hcl with q2
    exact absurd q2 (by decide)
theorem HpB.lt (x : HpB b h a its) : a < h.objs.size := by
  cases b with
  | true => obtain ⟨o, ho, _⟩ := x; exact Heap.lt_size ho
  | false => obtain ⟨o, ho, _⟩ := x; exact Heap.lt_size ho
theorem draws_B {prog : Program} {w : World} {A : Around} (hh : A.handled = none) (hne : a ≠ it) : Draws prog w A it [it, a] its.size (fun i v => its[i]? = some v) (fun i h => ItB b h it a i ∧ HpB b h a its) := by
  cases b with
  | true => exact Draws.list hh it a hne its
  | false => exact Draws.tuple hh it a hne its
theorem begins_B : Begins (.ref a) (obB b a) fun h => HpB b h a its := by
  cases b with
  | true => exact begins_list a its
  | false => exact begins_tuple a its
theorem itB_new (e : h.get? it = some (obB b a)) : ItB b h it a 0 := by
  cases b with
  | true => exact ⟨_, e, rfl, rfl⟩
  | false => exact ⟨_, e, rfl, rfl⟩
end
section
variable {X : Cx} {pins : List (Addr × Obj)} {σ : L2.St} {H : Hp} {s : Shared} {b : Bool} {a : Addr} {xs ys : List V}
theorem inv_B (I : L2.Inv X pins σ H s) (h : SqB b X.K H a xs) : ∃ its : List Value, Vals xs its ∧ HpB b s.heap a its.toArray := by
  cases b with
  | true => obtain ⟨its, r, p, _⟩ := I.list h; exact ⟨its, r, p.isList⟩
  | false => obtain ⟨its, r, p, _⟩ := I.tuple h; exact ⟨its, r, p⟩
theorem inj_B (I : L2.Inv X pins σ H s) (h : SqB b X.K H a xs) (h' : SqB b X.K H a ys) : xs = ys := by
  cases b with
  | true => exact I.list_inj h h'
  | false => exact I.tuple_inj h h'
end
def ItzB (b1 b2 : Bool) (K : PySem.W.Frag) (a b : Addr) : It :=
  ⟨fun i H => ∃ (xs ys : List V) (x y : V), SqB b1 K H a xs ∧ SqB b2 K H b ys ∧ xs[i]? = some x ∧ ys[i]? = some y,
    fun i H v H' => ∃ T x y, v = .ref T ∧ H T = none ∧ H' = upd H T (.tup [x, y]) ∧ (∀ xs, SqB b1 K H a xs → xs[i]? = some x) ∧ ∀ ys, SqB b2 K H b ys → ys[i]? = some y,
    fun i H => ∃ xs ys : List V, SqB b1 K H a xs ∧ SqB b2 K H b ys ∧ i ≤ xs.length ∧ i ≤ ys.length ∧ (xs.length = i ∨ ys.length = i)⟩
theorem turn_zipB {b1 b2 : Bool} {P : Program} {w : World} {K : PySem.W.Frag} {elts : List Expr} {kk : Nat} {tpos : Pos} {a b z TI TO i1 i2 : Addr} (D : ZipSep2 z TI TO i1 i2 [i1, a] [i2, b]) :
    Turn P w K (.Tuple elts kk tpos) (ItzB b1 b2 K a b) [z, TI, TO, i1, i2] z (fun i h => IsZip h z TI TO .none ∧ IsTupOf2 h TI (.ref i1) (.ref i2) ∧ (∃ x y, IsTupOf2 h TO x y) ∧ ItB b1 h i1 a i ∧ ItB b2 h i2 b i) where
  mem := by simp
  obj := fun i h st c hc => by
    obtain ⟨hz, hTI, ⟨x, y, hTO⟩, h1, h2⟩ := st
    have e' : c = z ∨ c = TI ∨ c = TO ∨ c = i1 ∨ c = i2 := by simpa using hc
    rcases e' with q | q | q | q | q
    · rw [q]; exact ⟨_, hz, fun v q => nomatch q⟩
    · rw [q]; exact ⟨_, hTI, fun v q => nomatch q⟩
    · rw [q]; exact ⟨_, hTO, fun v q => nomatch q⟩
    · rw [q]; exact h1.obj
    · rw [q]; exact h2.obj
  keep := fun i h h' st k => by
    obtain ⟨hz, hTI, ⟨x, y, hTO⟩, h1, h2⟩ := st
    exact ⟨k z (by simp) _ hz, k TI (by simp) _ hTI, ⟨x, y, k TO (by simp) _ hTO⟩, h1.at_ fun o q => k i1 (by simp) o q, h2.at_ fun o q => k i2 (by simp) o q⟩
  item := by
    intro X hP hw hK hc i pins s σ H E I hf st hg
    subst hP hw hK
    obtain ⟨hz, hTI, ⟨x0, y0, hTO⟩, h1, h2⟩ := st
    obtain ⟨xs, ys, x, y, hqx, hqy, hx, hy⟩ := hg
    obtain ⟨its, rv, p⟩ := inv_B I hqx
    obtain ⟨its2, rv2, p2⟩ := inv_B I hqy
    obtain ⟨u, hu, ru⟩ := rv.get hx
    obtain ⟨u2, hu2, ru2⟩ := rv2.get hy
    have hzl : z < s.heap.objs.size := Heap.lt_size hz
    have hcm : X.A.in1.handled = none := I.ok.hd hc
    refine wpAny_pyNext_zipD2_item D (draws_B (b := b1) (its := its.toArray) hcm (p.ne h1)) (draws_B (b := b2) (its := its2.toArray) hcm (p2.ne h2)) hz hTI hTO ⟨h1, p⟩ ⟨h2, p2⟩ (by rw [List.size_toArray]; exact (List.getElem?_eq_some_iff.mp hu).1) (by rw [List.size_toArray]; exact (List.getElem?_eq_some_iff.mp hu2).1) fun v1 v2 h' tk e1 e2 z' TO' h1' h2' hT hsz hk => ?_
    have ev1 : v1 = u := by
      have q : its.toArray[i]? = some u := by simpa using hu
      rw [q] at e1; exact (Option.some.inj e1).symm
    have ev2 : v2 = u2 := by
      have q : its2.toArray[i]? = some u2 := by simpa using hu2
      rw [q] at e2; exact (Option.some.inj e2).symm
    subst ev1 ev2
    refine ⟨_, rfl, wpAny_letOwnedTupleGo_zip (s := { s with heap := h', toks := tk }) z' fun h'' z'' sb => ?_⟩
    have hT2 : h''.get? s.heap.objs.size = some { cls := .type "tuple", data := .seq #[v1, v2] } := (sb.2 _ (Nat.ne_of_gt hzl)).trans hT
    have new : ObjOk X.prog X.w (upd H s.heap.objs.size (.tup [x, y])) h'' s.heap.objs.size (.tup [x, y]) :=
      ⟨by show 2 ≤ sizeLine; decide, [v1, v2], .cons ru (.cons ru2 .nil), ⟨_, hT2, rfl, _, rfl⟩⟩
    have I1 : Inv X pins σ (upd H s.heap.objs.size (.tup [x, y])) { s with heap := h'', toks := tk } :=
      I.turnedNew (ch := [z, TI, TO, i1, i2]) (fun c o hb q => (sb.2 c (fun q' => hb (by simp [q']))).trans (hk c o (fun q' => hb (by simp [q'])) (fun q' => hb (by simp [q'])) (fun q' => hb (by simp [q'])) (fun q' => hb (by simp [q'])) q)) hf (Nat.le_refl _) new
    refine ⟨.ref s.heap.objs.size, _, I1, rfl, ⟨_, x, y, rfl, I.hok.fresh (Nat.le_refl _), rfl, fun l hl => by rw [inj_B I hl hqx]; exact hx, fun l hl => by rw [inj_B I hl hqy]; exact hy⟩, ⟨z'', ?_, ⟨v1, v2, ?_⟩, ?_, ?_⟩, fun c hcm => ?_⟩
    · exact (sb.2 _ D.TIz).trans (hk _ _ D.TIz D.TITO D.TIi1 D.TIi2 hTI)
    · exact (sb.2 _ D.TOz).trans TO'
    · exact h1'.1.at_ fun o q => (sb.2 _ (Ne.symm D.zi1)).trans q
    · exact h2'.1.at_ fun o q => (sb.2 _ (Ne.symm D.zi2)).trans q
    · have hlt : c < s.heap.objs.size := by
        have e' : c = z ∨ c = TI ∨ c = TO ∨ c = i1 ∨ c = i2 := by simpa using hcm
        rcases e' with q | q | q | q | q
        · rw [q]; exact hzl
        · rw [q]; exact Heap.lt_size hTI
        · rw [q]; exact Heap.lt_size hTO
        · rw [q]; obtain ⟨_, e1, _⟩ := h1.obj; exact Heap.lt_size e1
        · rw [q]; obtain ⟨_, e2, _⟩ := h2.obj; exact Heap.lt_size e2
      rw [upd_ne (Nat.ne_of_lt hlt)]
      exact (hf c hcm).1
  done := by
    intro X hP hw hK hc i pins s σ H E I hf st hg
    subst hP hw hK
    obtain ⟨hz, hTI, ⟨x0, y0, hTO⟩, h1, h2⟩ := st
    obtain ⟨xs, ys, hqx, hqy, hl1, hl2, hend⟩ := hg
    obtain ⟨its, rv, p⟩ := inv_B I hqx
    obtain ⟨its2, rv2, p2⟩ := inv_B I hqy
    have l1 := rv.length
    have l2 := rv2.length
    have hcm : X.A.in1.handled = none := I.ok.hd hc
    exact wpAny_pyNext_zipD2_end D (draws_B (b := b1) (its := its.toArray) hcm (p.ne h1)) (draws_B (b := b2) (its := its2.toArray) hcm (p2.ne h2)) hz hTI hTO ⟨h1, p⟩ ⟨h2, p2⟩ (by rw [List.size_toArray]; omega) (by rw [List.size_toArray]; omega) (by rw [List.size_toArray, List.size_toArray]; omega) fun h' tk hk => ⟨rfl, I.turnedL (t' := tk) (ch := [z, TI, TO, i1, i2]) (fun c o hb q =>
      hk c o (fun q' => hb (by simp [q'])) (fun q' => hb (by simp [q'])) (fun q' => hb (by simp [q'])) (fun q' => hb (by simp [q'])) q) hf⟩
  self := fun A i s Q E st h => wpAny_pyIter_zip st.1 h
def iZipB (K : PySem.W.Frag) (ta : TA) : TI := fun σ H R => ta σ H fun vs H1 => ∃ b1 b2 a b xs ys, vs = [.ref a, .ref b] ∧ SqB b1 K H1 a xs ∧ SqB b2 K H1 b ys ∧ R (ItzB b1 b2 K a b) H1
theorem pi_zipB {X : Cx} {e e2 : Expr} {ta : TA} {p pos tpos : Pos} {elts : List Expr} {kk : Nat} (hg : Gl X "zip") (hm : X.mg "zip" = none) (ha : PA X [e, e2] ta)
    (hs : starEach [e, e2] X.env = (false, eval e X.env) :: starEach [e2] X.env := by rfl) (hpl : (backTo pos (starEach [e2] X.env)).any (·.1) = false := by rfl) :
    PI X (.Tuple elts kk tpos) (.Call (.Name "zip" p) [e, e2] [] pos) (iZipB X.K ta) := by
  refine ⟨fun pins s σ H R I h => ?_⟩
  refine Call_ (ld_blt I hg hm PyProof.Rows.boot_zip (PyProof.Rows.callWith_type1 (thn (ha.run pos pins s σ H _ I h) fun us s1 ⟨vs, H1, I1, r1, q1⟩ => ?_) hs hpl))
  obtain ⟨b1, b2, a, b, xs, ys, ex, hqx, hqy, q⟩ := q1
  subst ex
  cases r1 with
  | cons r rr =>
    cases rr with
    | cons r' rr =>
      cases rr
      cases r
      cases r'
      obtain ⟨its, rv, p1⟩ := inv_B I1 hqx
      obtain ⟨its2, rv2, p2⟩ := inv_B I1 hqy
      refine zip_begins2 (begins_B (b := b1) (a := a) (its := its.toArray)) (begins_B (b := b2) (a := b) (its := its2.toArray)) p1 p2 fun h' hz hTI hTO h1 h2 hsz hk => wpAny_pyIter_zip hz ?_
      have I2 : Inv X pins σ H1 { s1 with heap := h' } := I1.kept (t' := s1.toks) hk
      refine ⟨s1.heap.objs.size + 4, [s1.heap.objs.size + 4, s1.heap.objs.size + 2, s1.heap.objs.size + 3, s1.heap.objs.size, s1.heap.objs.size + 1], _, _, H1, rfl, I2,
        turn_zipB (zip_sep2 (N := s1.heap.objs.size) (fp1 := [a]) (fp2 := [b]) (fun c hc => by rw [List.mem_singleton.mp hc]; exact p1.lt) fun c hc => by rw [List.mem_singleton.mp hc]; exact p2.lt), ⟨hz, hTI, ⟨_, _, hTO⟩, itB_new h1, itB_new h2⟩, fun c hcm => ?_, q⟩
      have e' : c = s1.heap.objs.size + 4 ∨ c = s1.heap.objs.size + 2 ∨ c = s1.heap.objs.size + 3 ∨ c = s1.heap.objs.size ∨ c = s1.heap.objs.size + 1 := by simpa using hcm
      have hle : s1.heap.objs.size ≤ c := by
        rcases e' with z | z | z | z | z
        · rw [z]; exact Nat.le_add_right _ _
        · rw [z]; exact Nat.le_add_right _ _
        · rw [z]; exact Nat.le_add_right _ _
        · rw [z]; exact Nat.le_refl _
        · rw [z]; exact Nat.le_add_right _ _
      exact I1.fpOk hle (I1.hok.fresh hle)
theorem walk_zipB {b1 b2 : Bool} {K : PySem.W.Frag} {a b : Addr} {xs ys : List V} {n : Nat} (hn : n = min xs.length ys.length) : Walk (ItzB b1 b2 K a b) n (fun H => SqB b1 K H a xs ∧ SqB b2 K H b ys) (YPair (fun i => xs[i]?) (fun i => ys[i]?)) := by
  refine ⟨fun i _ hi q => ⟨xs, ys, xs[i]'(by omega), ys[i]'(by omega), q.1, q.2, List.getElem?_eq_getElem _, List.getElem?_eq_getElem _⟩, fun _ q => ⟨xs, ys, q.1, q.2, by omega, by omega, by omega⟩, fun i H v H' _ q y => ?_⟩
  obtain ⟨T, x, y, h1, h2, h3, h4, h5⟩ := y
  exact ⟨T, x, y, h1, h2, h3, h4 xs q.1, h5 ys q.2⟩
noncomputable section
def iZpB (f : PAF) : IF := fun ρ P => f ρ fun zs => match zs with
  | [(k, d), (k', e)] => (match d.seq, e.seq with
    | some ds, some es => P (zipD k k' ds es)
    | _, _ => False)
  | _ => False
theorem di_zipB {X : Cx} {a b : Expr} {f : PAF} {p pos tpos : Pos} {elts : List Expr} {kk : Nat} (hg : Gl X "zip") (hm : X.mg "zip" = none) (ha : DA X [a, b] 2 f) (hs : starEach [a, b] X.env = (false, eval a X.env) :: starEach [b] X.env := by rfl) (hpl : (backTo pos (starEach [b] X.env)).any (·.1) = false := by rfl) :
    DI X (.Tuple elts kk tpos) (.Call (.Name "zip" p) [a, b] [] pos) (iZpB f) := by
  obtain ⟨t, e, s⟩ := ha.run
  refine ⟨_, pi_zipB hg hm e hs hpl, fun σ H A ρ ow R P Z g hz h q => ?_⟩
  refine s σ H A ρ ow _ _ g h fun zs vs H1 _ hh s1 p1 => ?_
  split at hh
  · rename_i k d k' d' _
    obtain ⟨v, w, ev, p2, p3⟩ := p1.get2
    subst ev
    cases e1 : d.seq with
    | none => rw [e1] at hh; exact hh.elim
    | some ds =>
      cases e2 : d'.seq with
      | none => rw [e1, e2] at hh; exact hh.elim
      | some es =>
        rw [e1, e2] at hh
        obtain ⟨y, vs, rfl, r, t⟩ := seq_src hz s1 p2.tr e1
        obtain ⟨y', vs', rfl, r', t'⟩ := seq_src hz s1 p3.tr e2
        have key : ∀ i z, (zipD k k' ds es)[i]? = some z → ∃ d d', z = (pairK k k', D.tup [d, d']) ∧ ∀ x y, vs[i]? = some x → vs'[i]? = some y → ∀ H2, OkZ Z H1 H2 → RA X.K (k.elA (BB A ow) (Fre2 H H1)) H2 d x ∧ RA X.K (k'.elA (BB A ow) (Fre2 H H1)) H2 d' y := fun i z hzz => by
          obtain ⟨d, e, hd, he, rfl⟩ := zipD_of hzz
          refine ⟨d, e, rfl, fun x y hx hy H2 ok => ⟨?_, ?_⟩⟩
          · obtain ⟨w, hw, rw'⟩ := (elA_keeps (ok.keep (fre2 (H := H1)) hz s1) r).get hd
            rw [hx] at hw
            cases hw
            exact rw'
          · obtain ⟨w, hw, rw'⟩ := (elA_keeps (ok.keep (fre2 (H := H1)) hz s1) r').get he
            rw [hy] at hw
            cases hw
            exact rw'
        have hl : (zipD k k' ds es).length = min vs.length vs'.length := by rw [zipD_len, r.len, r'.len]
        have side : ∀ {q : Addr} {us : List V}, ((∀ H2, OkZ Z H1 H2 → SqL X.K H2 q us) ∨ (∀ H2, OkZ Z H1 H2 → SqT X.K H2 q us)) → ∃ b : Bool, ∀ H2, OkZ Z H1 H2 → SqB b X.K H2 q us := fun h => by
          rcases h with h | h
          · exact ⟨true, h⟩
          · exact ⟨false, h⟩
        obtain ⟨b1, t⟩ := side t
        obtain ⟨b2, t'⟩ := side t'
        exact ⟨b1, b2, y, y', vs, vs', rfl, t H1 .refl, t' H1 .refl, q _ _ H1 hh s1 (walks_pair (k := k) (k' := k') (walk_zipB (K := X.K) (n := (zipD k k' ds es).length) hl) rfl (fun H2 ok => ⟨t H2 ok, t' H2 ok⟩) key)⟩
  · exact hh.elim
end
end DL

namespace DL
open PySem PySem.Spec PyProof PyProof.Rows L2
theorem lstB_ok {K : PySem.W.Frag} {ls : List (Str × List He.Dv)} (h : ls.all (lstB K) = true) (i : Nat) {x : Str} {vs : List He.Dv} (e : ls[i]? = some (x, vs) := by rfl) : SqL K (fun _ => none) (He.ga K x) (vs.map (He.Dv.v K)) := by
  have h1 := List.all_eq_true.mp h (x, vs) (List.mem_of_getElem? e)
  unfold lstB at h1
  split at h1
  · rename_i c its n sl q
    have h2 := Bool.and_eq_true_iff.mp h1
    have h3 := Bool.and_eq_true_iff.mp h2.2
    have ec : c = "list" := of_decide_eq_true h2.1
    subst ec
    exact .inr ⟨_, its, n, q, rfl, rfl, rfl, by have := of_decide_eq_true h3.1; rw [sizeLine_eq]; omega, He.relAll_ok h3.2⟩
  · cases h1
noncomputable section
theorem RAs.of_strs {K : Frg} {A : Addr → Prop} {H : Hp} : ∀ ys : List Str, RAs K A H (ys.map .str) (ys.map V.str)
  | [] => .nil
  | y :: ys => .cons rfl (RAs.of_strs ys)
theorem RAs.strs {K : Frg} {A : Addr → Prop} {H : Hp} : ∀ {ys : List Str} {vs : List V}, RAs K A H (ys.map .str) vs → vs = ys.map V.str
  | [], _, h => h
  | y :: ys, _, ⟨w, ws, e, h, r⟩ => by
    have h : w = .str y := h
    rw [e, h, RAs.strs r]; rfl
theorem dp_glst {X : Cx} {x : Str} {ys : List Str} {p : Pos} (hg : Gl X x) (hm : X.mg x = some (.ref (He.ga X.K x))) (l : SqL X.K (fun _ => none) (He.ga X.K x) (ys.map V.str)) (hd : (x == ("__debug__" : Str)) = false := by decide) : DP X (.Name x p) (pC (.kst (ys.map .str))) := by
  refine dp_c (v := .ref (He.ga X.K x)) (pe_glob (v := .ref _) hg hm rfl hd) fun A H => ⟨_, _, rfl, ?_, RAs.of_strs ys⟩
  rcases l with l | l
  · rcases l with l | ⟨o, l⟩ <;> cases l
  · exact .inr l
def pJoin (fo fe : PF) : PF := fun ρ P => fo ρ fun x => match x.2 with
  | .str a => fe ρ fun y => ∃ ys : List Str, y.2.seq = some (ys.map .str) ∧ (ys.map (·.length)).sum + ys.length * a.length ≤ 16777216 ∧ P (.fl, .str (Txt.join a ys))
  | _ => False
theorem dp_join {X : Cx} {o e : Expr} {fo fe : PF} {apos pos : Pos} (ho : DP X o fo) (he : DP X e fe) (hs : starEach [e] X.env = [(false, eval e X.env)] := by rfl) (hbase : attributeBase o "join" X.env (eval o X.env) = eval o X.env := by rfl) (hline : (apos.endLine == pos.line) = true := by rfl) :
    DP X (.Call (.Attribute o "join" apos) [e] [] pos) (pJoin fo fe) := by
  obtain ⟨to, eo, so⟩ := ho.run
  obtain ⟨te, ee, se⟩ := he.run
  refine ⟨_, pe_join eo ee hs hbase hline, fun σ H A ρ ow Q P g h q => ?_⟩
  refine so σ H A ρ ow _ _ g h fun x v H1 hx s1 p1 => ?_
  split at hx
  · rename_i a ex
    have r1 := p1.ra
    rw [ex] at r1
    obtain rfl : v = .str a := r1
    refine ⟨⟨a, rfl⟩, ?_⟩
    refine se σ H1 A ρ ow _ _ (g.same s1) hx fun y w H2 hy s2 p2 => ?_
    obtain ⟨ys, ey, hl, hP⟩ := hy
    obtain ⟨q', us, rfl, t, r⟩ := p2.seq ey
    have eu : us = ys.map V.str := r.strs
    subst eu
    exact ⟨a, q', ys, rfl, rfl, t, hl, q _ _ H2 hP (s1.trans s2) .str⟩
  · exact hx.elim
end
end DL

namespace DL
open PySem PySem.Spec PyProof PyProof.Rows L2
noncomputable section
theorem dp_gstr {X : Cx} {x z : Str} {p : Pos} (hg : Gl X x) (hm : ∃ t, X.mg x = some (.str z t)) (hd : (x == ("__debug__" : Str)) = false := by decide) : DP X (.Name x p) (pC (.str z)) := by
  obtain ⟨t, hm⟩ := hm
  exact dp_c (v := .str z) (pe_glob (v := .str z) hg hm ⟨t, rfl⟩ hd) fun _ _ => rfl
def pSplit (fo fe : PF) : PF := fun ρ P => fo ρ fun x => match x.2 with
  | .str a => fe ρ fun y => match y.2 with
    | .str b => (b.length == 0) = false ∧ a.length + 2 ≤ 10000000 ∧ P (.sh, .lst ((Txt.split a b).map .str))
    | _ => False
  | _ => False
theorem dp_split {X : Cx} {o e : Expr} {fo fe : PF} {apos pos : Pos} (ho : DP X o fo) (he : DP X e fe) (hs : starEach [e] X.env = [(false, eval e X.env)] := by rfl) (hbase : attributeBase o "split" X.env (eval o X.env) = eval o X.env := by rfl) (hline : (apos.endLine == pos.line) = true := by rfl) :
    DP X (.Call (.Attribute o "split" apos) [e] [] pos) (pSplit fo fe) := by
  obtain ⟨to, eo, so⟩ := ho.run
  obtain ⟨te, ee, se⟩ := he.run
  refine ⟨_, pe_split eo ee hs hbase hline, fun σ H A ρ ow Q P g h q => ?_⟩
  refine so σ H A ρ ow _ _ g h fun x v H1 hx s1 p1 => ?_
  split at hx
  · rename_i a ex
    have r1 := p1.ra
    rw [ex] at r1
    obtain rfl : v = .str a := r1
    refine ⟨⟨a, rfl⟩, ?_⟩
    refine se σ H1 A ρ ow _ _ (g.same s1) hx fun y w H2 hy s2 p2 => ?_
    split at hy
    · rename_i b ey
      obtain ⟨h1, h2, hP⟩ := hy
      have r2 := p2.ra
      rw [ey] at r2
      obtain rfl : w = .str b := r2
      refine ⟨a, b, rfl, rfl, h1, by rw [sizeLine_eq]; omega, fun l hl => ?_⟩
      exact q _ _ _ hP ((s1.trans s2).trans (same_upd hl)) (pr_lst (k := .fl) (RAs.of_strs _) hl ((s1.trans s2).free hl))
    · exact hy.elim
  · exact hx.elim
def oIntS : List KD → (KD → Prop) → Prop := fun zs P => match zs with
  | [(_, .str a)] => ∃ n, PySem.intText? a = some n ∧ a.length ≤ 640 ∧ P (.fl, .int n)
  | _ => False
theorem cs_intS {K : Frg} : CallS K (fun xs H Q => ∃ a n, xs = [.str a] ∧ PySem.intText? a = some n ∧ a.length ≤ 640 ∧ Q (.int n) H) oIntS := by
  intro B F H vs xs P Q pr hF h q
  unfold oIntS at h
  split at h
  · rename_i k a
    obtain ⟨n, h1, h2, hP⟩ := h
    obtain ⟨v, ev, p⟩ := pr.get1
    have e : v = .str a := p.ra
    subst ev e
    exact ⟨a, n, rfl, h1, h2, q _ _ H hP (Same.refl H) .int⟩
  · exact h.elim
def pIndex (fo fe : PF) : PF := fun ρ P => fo ρ fun x => (∃ ds, x.2 = .lst ds ∨ x.2 = .kst ds) ∧ fe ρ fun y => ∃ ds j d, x.2.seq = some ds ∧ y.2.flat1 = true ∧ ds.all D.flat1 = true ∧ ds[j]? = some d ∧ eqD1 d y.2 = true ∧ (∀ (m : Nat) d', m < j → ds[m]? = some d' → eqD1 d' y.2 = false) ∧ P (.fl, .int (j : Nat))
theorem dp_index {X : Cx} {o e : Expr} {fo fe : PF} {apos cpos : Pos} (ho : DP X o fo) (he : DP X e fe)
    (hbase : attributeBase o "index" X.env (eval o X.env) = eval o X.env := by rfl)
    (hfew : ((backTo cpos (starEach [e] X.env)).all (fun x => !x.1) && (backToKw cpos (keywordEach [] X.env)).all (fun x => x.1.isSome)
      && decide ([e].length + ([] : List Keyword).length + (if ([] : List Keyword).isEmpty then 0 else 1) < 30)) = true := by rfl)
    (hline : (apos.endLine == cpos.line) = true := by rfl) (hst : starEach [e] X.env = (false, eval e X.env) :: starEach [] X.env := by rfl) (hplain : (backTo cpos (starEach [] X.env)).any (·.1) = false := by rfl) :
    DP X (.Call (.Attribute o "index" apos) [e] [] cpos) (pIndex fo fe) := by
  obtain ⟨to, eo, so⟩ := ho.run
  obtain ⟨te, ee, se⟩ := he.run
  refine ⟨_, pe_bm PySem.F.plainAttrs_list PySem.F.slot_list_index PySem.F.type_list_index mt_index eo (pa_cons ee pa_nil hst) hbase hfew hline hst hplain, fun σ H A ρ ow Q P g h q => ?_⟩
  refine so σ H A ρ ow _ _ g h fun x v H1 hx s1 p1 => ?_
  obtain ⟨⟨ds0, hk⟩, hx⟩ := hx
  have hl : ∃ l us, v = .ref l ∧ SqL X.K H1 l us ∧ RAs X.K (fun a => BB A ow a ∨ Fre H a ∨ True) H1 ds0 us := by
    obtain ⟨k, d⟩ := x
    rcases hk with hk | hk
    · dsimp only at hk
      subst hk
      obtain ⟨l, us, ev, t, r⟩ := p1.lstT
      exact ⟨l, us, ev, .of t, RAs.mono (fun _ _ => .inr (.inr trivial)) _ _ r⟩
    · dsimp only at hk
      subst hk
      obtain ⟨l, us, ev, t, r⟩ := p1.kstT
      exact ⟨l, us, ev, kst_seq t, RAs.mono (fun _ _ => .inr (.inr trivial)) _ _ r⟩
  have hseq : x.2.seq = some ds0 := by
    rcases hk with hk | hk <;> rw [hk] <;> rfl
  obtain ⟨l, us, ev, t, r⟩ := hl
  subst ev
  refine ⟨.inl ⟨rfl, us, t⟩, ?_⟩
  refine se σ H1 A ρ ow _ _ (g.same s1) hx fun y w H2 hy s2 p2 => ?_
  obtain ⟨ds, j, d, e1, h1, h2, h3, h4, h5, hP⟩ := hy
  rw [hseq] at e1
  cases e1
  have t2 : SqL X.K H2 l us := by
    rcases t with t | t
    · exact .inl (Rd.same s2 t)
    · exact .inr t
  have r2 := RAs.same s2 r
  obtain ⟨w', hw, rw'⟩ := r2.get h3
  have ry : RA X.K (fun a => BB A ow a ∨ Fre H a ∨ True) H2 y.2 w := RA.mono (fun _ _ => .inr (.inr trivial)) _ _ p2.ra
  have fd : ∀ {d : D}, d ∈ ds0 → d.flat1 = true := fun hd => List.all_eq_true.mp h2 _ hd
  refine ⟨l, us, w, j, w', rfl, rfl, t2, RA.flat1 ry h1, RAs.flat1 r2 h2, hw, by rw [RA.eq1 rw' ry (fd (List.mem_of_getElem? h3)) h1]; exact h4, fun m z' hm hz => ?_, q _ _ H2 hP (s1.trans s2) .int⟩
  obtain ⟨d', hd', rd'⟩ := r2.getV hz
  rw [RA.eq1 rd' ry (fd (List.mem_of_getElem? hd')) h1]
  exact h5 m d' hm hd'
end
end DL

namespace DL
open PySem PySem.Spec PyProof PyProof.Rows L2
noncomputable section
def signsD (x : Str) : List KD := x.cps.toList.map fun c => (.fl, .str ⟨#[c]⟩)
theorem walks_str {K : Frg} {A : Addr → Prop} {Ok : Hp → Prop} {x : Str} : Walks K (Its x) Ok A (signsD x) := by
  have hl : (signsD x).length = x.cps.size := by unfold signsD; rw [List.length_map]; rfl
  refine ⟨fun _ => True, fun i H v H' => H' = H ∧ ∃ c, x.cps[i]? = some c ∧ v = .str ⟨#[c]⟩, ⟨fun i _ hi _ => by rw [hl] at hi; exact hi, fun _ _ => by rw [hl]; exact Nat.le_refl _, fun i H v H' _ _ y => y⟩, fun _ _ => trivial, fun i H v H2 z hz _ y => ?_⟩
  obtain ⟨e, c, hc, ev⟩ := y
  subst e ev
  have e2 : z = (.fl, .str ⟨#[c]⟩) := by
    unfold signsD at hz
    rw [List.getElem?_map] at hz
    have hc' : x.cps.toList[i]? = some c := by rw [Array.getElem?_toList]; exact hc
    rw [hc'] at hz
    exact (Option.some.inj hz).symm
  subst e2
  exact ⟨Same.refl _, rfl, rfl⟩
def iSt (f : PF) : IF := fun ρ P => f ρ fun z => match z.2 with
  | .str x => P (signsD x)
  | _ => False
theorem di_str {X : Cx} {tg e : Expr} {f : PF} (he : DP X e f) : DI X tg e (iSt f) := by
  obtain ⟨t, a, s⟩ := he.run
  refine ⟨_, pi_str a, fun σ H A ρ ow R P Z g hz h q => ?_⟩
  refine s σ H A ρ ow _ _ g h fun z v H1 hh s1 p1 => ?_
  split at hh
  · rename_i x ex
    have r := p1.ra
    rw [ex] at r
    exact ⟨x, r, q _ _ H1 hh s1 walks_str⟩
  · exact hh.elim
theorem jL_ow {zs : List KD} (h : ∀ z ∈ zs, z.1 = .sh ∨ z.1 = .ow) (hn : zs ≠ []) : jL zs = .ow := by
  unfold jL
  rw [jT_ow h hn]
end
end DL

namespace DL
open PySem PySem.Spec PyProof PyProof.Rows L2
noncomputable section
theorem valV_at {ks : List Key} : ∀ {kvs : List (Key × V)} {j : Nat} {k : Key} {w : V}, kvs.map (·.1) = ks → ks.Nodup → ks[j]? = some k → (kvs.map (·.2))[j]? = some w → valV kvs k = some w := by
  intro kvs
  induction kvs generalizing ks with
  | nil => intro j f w e _ h _; subst e; cases h
  | cons a fs ih =>
    intro j f w e hn hf hw
    subst e
    obtain ⟨x, y⟩ := a
    have hn' := List.nodup_cons.mp hn
    cases j with
    | zero =>
      cases hf; cases hw
      exact valV_pos (p := (x, y)) rfl
    | succ j =>
      have hf' : (fs.map (·.1))[j]? = some f := hf
      have hne : ¬ x = f := fun z => hn'.1 (z ▸ List.mem_of_getElem? hf')
      rw [valV_neg (p := (x, y)) hne]
      exact ih rfl hn'.2 hf' hw
theorem putK_at {ks : List Key} {kvs : List (Key × V)} {j : Nat} {k : Key} {y : V} (e : kvs.map (·.1) = ks) (hn : ks.Nodup) (hj : ks[j]? = some k) : (putK kvs k y).map (·.1) = ks ∧ (putK kvs k y).map (·.2) = (kvs.map (·.2)).set j y := by
  have hany : (kvs.any fun kv => decide (kv.1 = k)) = true := by
    subst e
    rw [List.getElem?_map] at hj
    cases q : kvs[j]? with
    | none => rw [q] at hj; cases hj
    | some p =>
      rw [q] at hj
      exact List.any_eq_true.mpr ⟨p, List.mem_of_getElem? q, decide_eq_true (Option.some.inj hj)⟩
  unfold putK
  rw [if_pos hany]
  clear hany
  subst e
  induction kvs generalizing j with
  | nil => cases hj
  | cons a fs ih =>
    obtain ⟨x, v⟩ := a
    have hn' := List.nodup_cons.mp hn
    have rest : ∀ {l : List (Key × V)} {k : Key}, k ∉ l.map (·.1) → l.map (fun kv => if kv.1 = k then (kv.1, y) else kv) = l := fun {l k} h => by
      induction l with
      | nil => rfl
      | cons b l ih2 =>
        have h' : k ≠ b.1 ∧ k ∉ l.map (·.1) := by rw [List.map_cons, List.mem_cons, not_or] at h; exact h
        rw [List.map_cons, if_neg (fun z => h'.1 z.symm), ih2 h'.2]
    cases j with
    | zero =>
      cases hj
      rw [List.map_cons, if_pos rfl, rest hn'.1]
      exact ⟨rfl, rfl⟩
    | succ j =>
      have hj' : (fs.map (·.1))[j]? = some k := hj
      have hne : ¬ x = k := fun z => hn'.1 (z ▸ List.mem_of_getElem? hj')
      obtain ⟨h1, h2⟩ := ih hn'.2 hj'
      rw [List.map_cons, if_neg hne]
      exact ⟨congrArg (x :: ·) h1, congrArg (v :: ·) h2⟩
def oKey (k : Key) (z : KD) (P : KD → Prop) : Prop := match z.2 with
  | .dcK ks ds => ∃ (j : Nat) (d : D), ks.Nodup ∧ ks[j]? = some k ∧ ds[j]? = some d ∧ P (kel .rd d)
  | _ => False
@[irreducible] def xKey (k : Key) (z : KD) (P : KD → Prop) : Prop := hid (oKey k z P)
theorem go_key {k : Key} {z : KD} {ks : List Key} {ds : List D} {j : Nat} {d : D} {P : KD → Prop} (hz : z.2 = .dcK ks ds) (hn : ks.Nodup) (hk : ks[j]? = some k) (hd : ds[j]? = some d) (p : P (kel .rd d)) : xKey k z P := by
  unfold xKey; rw [hid_eq]
  unfold oKey
  rw [hz]
  exact ⟨j, d, hn, hk, hd, p⟩
def pKey (k : Str) (fa : PF) : PF := fun ρ P => fa ρ fun z => xKey (.inr k) z P
section
variable {X : Cx} {pos ip : Pos}
theorem dp_key {o : Expr} {k : Str} {jj} {fa : PF} (hu : X.A.units + 64 < cLine) (ha : DP X o fa) (hs : NoSl (.Constant (.str k) jj ip) := by exact fun _ _ => rfl) : DP X (.Subscript o (.Constant (.str k) jj ip) pos) (pKey k fa) := by
  obtain ⟨t, ea, sa⟩ := ha.run
  refine ⟨_, pe_dget (by omega) ea (pe_str (x := k)) hs, fun σ H A ρ ow Q P g h q => ?_⟩
  refine sa σ H A ρ ow _ _ g h fun z v H1 hz s1 p1 => ?_
  unfold xKey at hz
  rw [hid_eq] at hz
  unfold oKey at hz
  split at hz
  · rename_i ks ds e1
    obtain ⟨j, d, hn, hk, hd, hz⟩ := hz
    have ra := p1.ra
    rw [e1] at ra
    obtain ⟨p, kvs, rfl, a, hp, en, r⟩ := ra
    obtain ⟨w, hw, rw'⟩ := r.get hd
    exact ⟨p, w, rfl, .inl ⟨kvs, .inr k, hp, rfl, (valV_at en hn hk hw).symm⟩, q _ w H1 hz s1 (pr_kel (k := .rd) rw')⟩
  · exact hz.elim
def oKeyP (k : Key) (i : Nat) (e : D) (rb : D → D) (P : Nat → Kd → D → (D → D) → Prop) : Prop := match e with
  | .dcK ks ds => ∃ (j : Nat) (d : D), ks.Nodup ∧ ks[j]? = some k ∧ ds[j]? = some d ∧ P i .ow d (fun c' => rb (.dcK ks (ds.set j c')))
  | _ => False
@[irreducible] def xKeyP (k : Key) (i : Nat) (e : D) (rb : D → D) (P : Nat → Kd → D → (D → D) → Prop) : Prop := hid (oKeyP k i e rb P)
def plKey (k : Str) (pl : PLF) : PLF := fun ρ P => pl ρ fun i _ e rb => xKeyP (.inr k) i e rb P
theorem go_keyP {k : Key} {i : Nat} {e : D} {rb : D → D} {ks : List Key} {ds : List D} {j : Nat} {d : D} {P : Nat → Kd → D → (D → D) → Prop} (hz : e = .dcK ks ds) (hn : ks.Nodup) (hk : ks[j]? = some k) (hd : ds[j]? = some d) (p : P i .ow d (fun c' => rb (.dcK ks (ds.set j c')))) : xKeyP k i e rb P := by
  subst hz
  unfold xKeyP; rw [hid_eq]
  exact ⟨j, d, hn, hk, hd, p⟩
theorem dpl_key {o : Expr} {k : Str} {jj} {pl : PLF} (hu : X.A.units + 64 < cLine) (ha : DPl X o pl) (hs : NoSl (.Constant (.str k) jj ip) := by exact fun _ _ => rfl) : DPl X (.Subscript o (.Constant (.str k) jj ip) pos) (plKey k pl) := by
  obtain ⟨ta, ea, sa⟩ := ha.run
  refine ⟨_, pe_dget (by omega) ea (pe_str (x := k)) hs, fun σ H A ρ ow Q P g h q => ?_⟩
  refine sa σ H A ρ ow _ _ g h fun i kd e rb v H1 h1 s1 p1 => ?_
  unfold xKeyP at h1
  rw [hid_eq] at h1
  unfold oKeyP at h1
  split at h1
  · rename_i ks ds
    obtain ⟨j, d', hn, hk, hd, h1⟩ := h1
    obtain ⟨d, v0, g1, fs, g2, fe, e1, e2, z, hsh, put⟩ := p1
    obtain ⟨p, kvs, w', fc, rfl, hp, en, hw, z'⟩ := z.step_dcK hd
    exact ⟨p, w', rfl, .inl ⟨kvs, .inr k, .inl hp, rfl, (valV_at en hn hk hw).symm⟩, q i .ow _ _ w' H1 h1 s1 ⟨d, v0, g1, fs, g2, fc, e1, e2, z', (fun h => nomatch h), put⟩⟩
  · exact h1.elim
end
section
variable {K : Frg} {H : Hp}
theorem dcK_set {ks : List Key} {ds : List D} {w : V} {fe fa : List Addr} {j : Nat} {k : Key} {z : D} {zv : V} (r : R K No H (.dcK ks ds) w fe) (rz : R K No H z zv fa) (nd : (fa ++ fe).Nodup) (hN : ks.Nodup) (hj : ks[j]? = some k) (hn : j < ds.length) :
    ∃ p kvs fe', w = .ref p ∧ H p = some (.dK kvs) ∧ kvs.map (·.1) = ks ∧ p ∈ fe ∧ R K No (upd H p (.dK (putK kvs k zv))) (.dcK ks (ds.set j z)) w fe' ∧ fe'.Nodup ∧ (∀ a ∈ fe', a ∈ fe ∨ a ∈ fa) := by
  obtain ⟨p, fs, fps, rfl, rfl, hp, en, rs⟩ := r
  have hd : ds[j]? = some ds[j] := List.getElem?_eq_getElem hn
  obtain ⟨w0, h1, ho, h3, hw, e3, r1, r2, r3⟩ := Rs.split rs hd
  subst e3
  obtain ⟨n1, n2, n3⟩ := List.nodup_append.mp nd
  obtain ⟨m1, m2⟩ := List.nodup_cons.mp n2
  have nf : p ∉ fa := fun q => n3 p q p (by simp) rfl
  have mu : ∀ u, H p = some u → ¬ Imm u := fun u e => by rw [hp] at e; cases e; exact fun z => z
  have np : p ∉ h1 ∧ p ∉ ho ∧ p ∉ h3 := by
    simp only [List.mem_append, not_or] at m1
    exact m1
  obtain ⟨q1, q2⟩ := putK_at (y := zv) en hN hj
  refine ⟨p, fs, p :: (h1 ++ (fa ++ h3)), rfl, hp, en, by simp, ⟨p, putK fs k zv, _, rfl, rfl, upd_same, q1, by
    rw [q2]
    exact Rs.put hd hw (Rs.keep _ _ _ (KeepF.upd np.1 (fun z => z) mu) r1) (R.keep _ _ _ (KeepF.upd nf (fun z => z) mu) rz) (Rs.keep _ _ _ (KeepF.upd np.2.2 (fun z => z) mu) r3)⟩, ?_, fun a h => ?_⟩
  · obtain ⟨k1, k2, k3⟩ := List.nodup_append.mp m2
    obtain ⟨l1, l2, l3⟩ := List.nodup_append.mp k2
    refine List.nodup_cons.mpr ⟨by simp [np.1, nf, np.2.2], List.nodup_append.mpr ⟨k1, List.nodup_append.mpr ⟨n1, l2, fun a ha b hb => n3 a ha b (by simp [hb])⟩, fun a ha b hb e => ?_⟩⟩
    subst e
    rcases List.mem_append.mp hb with hb | hb
    · exact n3 a hb a (by simp [ha]) rfl
    · exact k3 a ha a (by simp [hb]) rfl
  · simp only [List.mem_cons, List.mem_append] at h ⊢
    rcases h with h | h | h | h <;> simp [h]
end
def oKeyS (k : Key) (e : D) (z : D) (P : D → Prop) : Prop := match e with
  | .dcK ks ds => ∃ (j : Nat), ks.Nodup ∧ ks.length < 1000 ∧ ks[j]? = some k ∧ j < ds.length ∧ P (.dcK ks (ds.set j z))
  | _ => False
@[irreducible] def xKeyS (k : Key) (e : D) (z : D) (P : D → Prop) : Prop := hid (oKeyS k e z P)
theorem go_keyS {k : Key} {e z : D} {ks : List Key} {ds : List D} {j : Nat} {P : D → Prop} (hz : e = .dcK ks ds) (hn : ks.Nodup) (hl : ks.length < 1000) (hk : ks[j]? = some k) (hj : j < ds.length) (p : P (.dcK ks (ds.set j z))) : xKeyS k e z P := by
  subst hz
  unfold xKeyS; rw [hid_eq]
  exact ⟨j, hn, hl, hk, hj, p⟩
def oTwoO (z : KD) (P : D → D → Prop) : Prop := ownK z.1 = true ∧ match z.2 with
  | .tup [a, b] => P a b
  | _ => False
@[irreducible] def xTwoO (z : KD) (P : D → D → Prop) : Prop := hid (oTwoO z P)
theorem go_twoO {z : KD} {a b : D} {P : D → D → Prop} (hz : z.2 = .tup [a, b]) (hk : ownK z.1 = true) (p : P a b) : xTwoO z P := by
  unfold xTwoO; rw [hid_eq]; unfold oTwoO; rw [hz]; exact ⟨hk, p⟩
def sKeyP (k1 k2 : Str) (fe : EF) (pl1 pl2 : PLF) : SF := fun D ρ => fe ρ (fun z ρ1 => xTwoO z fun a b => pl1 ρ1 fun i _ e rb => xKeyS (.inr k1) e a fun e' =>
  pl2 (ρ1.set i (some (.ow, rb e'))) fun i2 _ e2 rb2 => xKeyS (.inr k2) e2 b fun e2' => D.nx ((ρ1.set i (some (.ow, rb e'))).set i2 (some (.ow, rb2 e2')))) D.ex
theorem gkey_ok {K : Frg} {to : TE} {pl : PLF} {A1 : Addr → Prop} {H1 : Hp} {ρ1 : Ro} {σ : L2.St} {ow1 fa fb : List Addr} {d b : D} {v vb : V} {P : Ro → Prop} {Q : L2.St → Hp → Prop} {k : Str} (so : PLSound K to pl)
    (g1 : Good K A1 H1 ρ1 σ ow1) (o1 : R K No H1 d v fa) (ob : R K No H1 b vb fb) (nd : ((fa ++ fb) ++ ow1).Nodup) (dis : ∀ a ∈ fa ++ fb, ¬ A1 a) (h : pl ρ1 fun i _ e rb => xKeyS (.inr k) e d fun e' => P (ρ1.set i (some (.ow, rb e'))))
    (q : ∀ ρ' H' ow', P ρ' → Good K A1 H' ρ' σ ow' → Stp H1 ((fa ++ fb) ++ ow1) A1 H' (fb ++ ow') A1 → Own K A1 H' (.ow, b) vb fb ow' → Q σ H') : gSub to (tC (.str k)) rSetD v σ H1 Q := by
  refine so σ H1 A1 ρ1 ow1 _ _ g1 h fun i kd e rb w H2 h2 s2 p2 => ?_
  unfold xKeyS at h2
  rw [hid_eq] at h2
  unfold oKeyS at h2
  split at h2
  · rename_i ks ds
    obtain ⟨j, hN, hlen, hj, hl, h2⟩ := h2
    have o2 : R K No H2 d v fa := R.keep _ _ _ (KeepF.of_same s2) o1
    have ob2 : R K No H2 b vb fb := R.keep _ _ _ (KeepF.of_same s2) ob
    obtain ⟨fe0, r, nd0, hin, hsh, mtt⟩ := p2.mut (fa := fa ++ fb) (g1.same s2) nd dis
    obtain ⟨n1, n2, n3⟩ := List.nodup_append.mp nd0
    obtain ⟨m1, m2, m3⟩ := List.nodup_append.mp n1
    obtain ⟨p, kvs, fe', ew, hp, em, hpf, r', nd', sub⟩ := dcK_set (zv := v) r o2 (List.nodup_append.mpr ⟨m1, n2, fun a ha b hb => n3 a (by simp [ha]) b hb⟩) hN hj hl
    subst ew
    have pb : p ∉ fb := fun z => n3 p (by simp [z]) p hpf rfl
    have mu : ∀ u, H2 p = some u → ¬ Imm u := fun u e => by rw [hp] at e; cases e; exact fun z => z
    have ob3 : R K No (upd H2 p (.dK (putK kvs (.inr k) v))) b vb fb := R.keep _ _ _ (KeepF.upd pb (fun z => z) mu) ob2
    obtain ⟨ow', st', g', o'⟩ := mtt (.dcK ks (ds.set j d)) .ow fb (.ow, b) vb _ fe' (fun a o e n => by rw [upd_ne (fun z => n (by rw [z]; exact hpf))]; exact e) r' (.inl rfl) ob3 (List.nodup_append.mpr ⟨m2, nd', fun a ha b hb e => by
      subst e
      rcases sub a hb with z | z
      · exact n3 a (by simp [ha]) a z rfl
      · exact m3 a z a ha rfl⟩) fun a h => by
        rcases List.mem_append.mp h with h | h
        · exact .inr (.inl (by simp [h]))
        · exact (sub a h).elim .inl fun z => .inr (.inl (by simp [z]))
    refine ⟨p, _, rfl, .inl ⟨kvs, .inr k, hp, rfl, ?_, rfl⟩, ?_⟩
    · rw [← List.length_map (·.1), em, sizeLine_eq]; omega
    · exact q _ _ ow' h2 g' ((Stp.of_same s2).trans st') o'
  · exact h2.elim
section
variable {X : Cx} {E : XK} {pr : List Nat} {pos : Pos}
theorem ds_keyP {o1 o2 e : Expr} {k1 k2 : Str} {j1 j2} {i1 i2 p1 p2 pt : Pos} {kt : Nat} {fe : EF} {pl1 pl2 : PLF} (hc : X.calm = true) (hu : X.A.units + 64 < cLine)
    (he : DE X E e fe) (ho1 : DPl X o1 pl1) (ho2 : DPl X o2 pl2)
    (hs : swapsWithSole [.Tuple [.Subscript o1 (.Constant (.str k1) j1 i1) p1, .Subscript o2 (.Constant (.str k2) j2 i2) p2] kt pt] e pos.line X.env = pure false := by rfl) (hw : swappedStores [.Tuple [.Subscript o1 (.Constant (.str k1) j1 i1) p1, .Subscript o2 (.Constant (.str k2) j2 i2) p2] kt pt] e X.env = pure none := by rfl)
    (h1 : (assignEach [.Tuple [.Subscript o1 (.Constant (.str k1) j1 i1) p1, .Subscript o2 (.Constant (.str k2) j2 i2) p2] kt pt] X.env).map (·.2) = [assign (.Tuple [.Subscript o1 (.Constant (.str k1) j1 i1) p1, .Subscript o2 (.Constant (.str k2) j2 i2) p2] kt pt) X.env] := by rfl)
    (hn2 : (assignEach [.Subscript o1 (.Constant (.str k1) j1 i1) p1, .Subscript o2 (.Constant (.str k2) j2 i2) p2] X.env).length = 2 := by rfl) (hst : (assignEach [.Subscript o1 (.Constant (.str k1) j1 i1) p1, .Subscript o2 (.Constant (.str k2) j2 i2) p2] X.env).findIdx? (·.1) = none := by rfl)
    (ha1 : (assignEach [.Subscript o1 (.Constant (.str k1) j1 i1) p1, .Subscript o2 (.Constant (.str k2) j2 i2) p2] X.env).map (·.2) = assign (.Subscript o1 (.Constant (.str k1) j1 i1) p1) X.env :: (assignEach [.Subscript o2 (.Constant (.str k2) j2 i2) p2] X.env).map (·.2) := by rfl)
    (ha2 : (assignEach [.Subscript o2 (.Constant (.str k2) j2 i2) p2] X.env).map (·.2) = assign (.Subscript o2 (.Constant (.str k2) j2 i2) p2) X.env :: (assignEach [] X.env).map (·.2) := by rfl) :
    DS X E pr (.Assign [.Tuple [.Subscript o1 (.Constant (.str k1) j1 i1) p1, .Subscript o2 (.Constant (.str k2) j2 i2) p2] kt pt] e pos) (sKeyP k1 k2 fe pl1 pl2) := by
  obtain ⟨te, ee, se⟩ := he.run
  obtain ⟨to1, eo1, so1⟩ := ho1.run
  obtain ⟨to2, eo2, so2⟩ := ho2.run
  refine ⟨_, ps_asg ee (pg_tup hc (pgs_cons (pg_sub eo1 (pe_str (x := k1)) (set_dict (by omega))) (pgs_cons (pg_sub eo2 (pe_str (x := k2)) (set_dict (by omega))) pgs_nil ha2) ha1) hn2 hst) hs hw h1, fun σ H A ρ ow T D gd h nx rt ex => ?_⟩
  refine se σ H A ρ ow _ _ _ gd h (fun z ρ1 v H1 fp ow1 A1 hz st1 g1 o1 => ?_) fun C ρ1 H1 ow1 A1 h1 st1 g1 => ex C ρ1 σ H1 ow1 A1 h1 st1 g1 fun _ _ => rfl
  unfold xTwoO at hz
  rw [hid_eq] at hz
  unfold oTwoO at hz
  obtain ⟨hk, hz⟩ := hz
  split at hz
  · rename_i a b ez
    have r0 : R X.K No H1 z.2 v fp := o1.rep.rown hk
    rw [ez] at r0
    obtain ⟨q, vs, rfl, t, x, ws, fa, f2, rfl, ef, rx, y, ws2, fb, f3, rfl, ef2, ry, e0, e00⟩ := r0
    subst e0 e00 ef2 ef
    have nd := o1.nd
    have dis := o1.dis
    rw [List.append_nil] at nd dis st1
    refine ⟨q, [x, y], rfl, t, rfl, x, [y], rfl, ?_⟩
    refine gkey_ok (P := fun ρ' => pl2 ρ' fun i2 _ e2 rb2 => xKeyS (.inr k2) e2 b fun e2' => D.nx (ρ'.set i2 (some (.ow, rb2 e2')))) so1 g1 rx ry nd dis hz fun ρ2 H2 ow2 hz2 g2 st2 o2 => ?_
    refine ⟨y, [], rfl, ?_⟩
    have nd2 := o2.nd
    refine gkey_ok (fb := []) (b := .non) (vb := .non) (P := D.nx) so2 g2 o2.rep ⟨rfl, rfl⟩ (by rw [List.append_nil]; exact nd2) (by rw [List.append_nil]; exact o2.dis) hz2 fun ρ3 H3 ow3 hz3 g3 st3 _ => ?_
    rw [List.append_nil] at st3
    exact ⟨rfl, nx _ σ H3 ow3 A1 hz3 (st1.trans (st2.trans st3)) g3 fun _ _ => rfl⟩
  · exact hz.elim
end
end
end DL

namespace DL
open PySem PySem.Spec PyProof PyProof.Rows L2
noncomputable section
section
variable {K : Frg} {A : Addr → Prop} {H : Hp} {ρ : Ro} {σ : L2.St} {ow : List Addr} {i x : Nat} {k : Kd} {e : D} {rb : D → D} {w : V}
theorem R.full : ∀ {d : D} {v : V} {fp : List Addr}, R K No H d v fp → fp ≠ [] → v ≠ .non := fun {d v fp} h n => by
  cases d <;> first
    | exact absurd h.1 n
    | (obtain ⟨p, _, _, _, ev, _⟩ := h; rw [show v = _ from ev]; exact fun z => nomatch z)
    | (obtain ⟨p, _, _, ev, _⟩ := h; rw [show v = _ from ev]; exact fun z => nomatch z)
    | (obtain ⟨p, _, ev, _⟩ := h; rw [show v = _ from ev]; exact fun z => nomatch z)
theorem isL_full {e : D} {w : V} {fe : List Addr} (h : R K No H e w fe) (l : isL e = true) : fe ≠ [] := by
  cases e <;> first
    | (cases l; done)
    | (obtain ⟨p, vs, fps, _, e2, _⟩ := h; rw [e2]; exact fun z => nomatch z)
theorem bor_in (gd : Good K A H ρ σ ow) (p : PlAt K A H ρ σ ow i k e rb w) (l : isL e = true) (hix : i ≠ x) :
    ∃ ow1, Good K A H ((ρ.set i (some (.fl, .any))).set x (some (.ow, e))) (σ.set x (some w)) ow1 ∧ ∀ (σ' : L2.St) (H' : Hp) (fz ow' : List Addr) (A' : Addr → Prop) (ρ' : Ro) (e' : D) (z : KD) (zv : V), Stp H ow1 A H' (fz ++ ow') A' → Good K A' H' ρ' σ' ow' → Own K A' H' z zv fz ow' →
      ρ'[x]? = some (some (.ow, e')) → σ'[i]? = (σ.set x (some w))[i]? → σ'[x]? = (σ.set x (some w))[x]? → x < σ.length → ∃ ow2, Good K A' H' ((ρ'.set x none).set i (some (.ow, rb e'))) σ' ow2 ∧ Stp H ow A H' (fz ++ ow2) A' ∧ Own K A' H' z zv fz ow2 := by
  obtain ⟨d, v0, g1, fs, g2, fe, e1, e2, ⟨f1, f2, ef, r, reb⟩, hs, put⟩ := p
  subst e1 ef
  have gnd := gd.nd
  have r0 : R K No H (rb e) v0 (f1 ++ (fe ++ f2)) := reb H No e fe (fun _ h => h) (fun a o e _ => e) r
  have hv0 : v0 ≠ .non := r0.full fun z => by
    have := isL_full r l
    simp only [List.append_eq_nil_iff] at z
    exact this z.2.1
  have rep1 : RepS K A H (ρ.set i (some (.fl, .any))) σ (g1 ++ ([] ++ g2)) := put H A (.fl, .any) [] (fun _ h => h) (fun a o e _ => e) ⟨rfl, hv0⟩
  rw [List.nil_append] at rep1
  have b1 := List.nodup_append.mp gnd
  have b2 := List.nodup_append.mp b1.2.1
  have b3 := List.nodup_append.mp b2.1
  have b4 := List.nodup_append.mp b3.2.1
  have good1 : Good K A H (ρ.set i (some (.fl, .any))) σ (g1 ++ g2) := ⟨rep1, List.nodup_append.mpr ⟨b1.1, b2.2.1, fun a ha b hb => b1.2.2 a ha b (by simp [hb])⟩, fun a h => gd.dis a (by rcases List.mem_append.mp h with h | h <;> simp [h]), gd.tr⟩
  have own1 : Own K A H (.ow, e) w fe (g1 ++ g2) := ⟨r, List.nodup_append.mpr ⟨b4.1, good1.nd, fun a ha b hb e => by
    subst e
    rcases List.mem_append.mp hb with h | h
    · exact b1.2.2 a h a (by simp [ha]) rfl
    · exact b2.2.2 a (by simp [ha]) a h rfl⟩, fun a h => gd.dis a (by simp [h])⟩
  obtain ⟨ow1, good2, sub1⟩ := good1.put (i := x) own1
  refine ⟨ow1, good2, fun σ' H' fz ow' A' ρ' e' z zv st g' oz hx hi hw hlt => ?_⟩
  have inow : ∀ a ∈ ow1, a ∈ g1 ++ (f1 ++ (fe ++ f2) ++ g2) := fun a h => by
    rcases sub1 a h with h | h
    · rcases List.mem_append.mp h with h | h <;> simp [h]
    · simp [h]
  -- what stands beside the list
  have side : ∀ a, a ∈ f1 ++ f2 → a ∉ ow1 ∧ (∃ o, H a = some o) ∧ ¬ A a := fun a h => by
    have hin : a ∈ g1 ++ (f1 ++ (fe ++ f2) ++ g2) := by rcases List.mem_append.mp h with h | h <;> simp [h]
    refine ⟨fun z => ?_, let ⟨o, e, _⟩ := gd.rep.mu a hin; ⟨o, e⟩, gd.dis a hin⟩
    rcases sub1 a z with y | y
    · rcases List.mem_append.mp y with y | y
      · exact b1.2.2 a y a (by rcases List.mem_append.mp h with h | h <;> simp [h]) rfl
      · exact b2.2.2 a (by rcases List.mem_append.mp h with h | h <;> simp [h]) a y rfl
    · rcases List.mem_append.mp h with h | h
      · exact b3.2.2 a h a (by simp [y]) rfl
      · exact b4.2.2 a y a h rfl
  have kp : KeepF No (f1 ++ f2) H H' := fun a o ea h => st.same a o ea fun z => by
    rcases h with h | h | h
    · exact (side a h).1 z
    · exact h
    · obtain ⟨u, e', m⟩ := good2.rep.mu a z
      rw [ea] at e'; cases e'
      exact m.notImm h
  obtain ⟨w', fe', ow'', hw', g'', o'', sub''⟩ := g'.move hx
  rw [List.getElem?_set_self hlt] at hw
  rw [hw] at hw'
  cases hw'
  have whole : R K No H' (rb e') v0 (f1 ++ (fe' ++ f2)) := reb H' No e' fe' (fun _ h => h) kp o''.rep
  have org : ∀ a, a ∈ fz ++ ow' → a ∈ ow1 ∨ H a = none := st.own
  have far : ∀ a, a ∈ f1 ++ f2 → a ∉ fz ++ ow' := fun a h z => by
    obtain ⟨s1, ⟨o, s2⟩, _⟩ := side a h
    rcases org a z with y | y
    · exact s1 y
    · rw [s2] at y; cases y
  obtain ⟨k1, k2, k3⟩ := List.nodup_append.mp o''.nd
  have c1 : ∀ a ∈ fe', a ∈ fz ++ ow' := fun a h => by simp [sub'' a (by simp [h])]
  have c2 : ∀ a ∈ ow'', a ∈ fz ++ ow' := fun a h => by simp [sub'' a (by simp [h])]
  have own2 : Own K A' H' (.ow, rb e') v0 (f1 ++ (fe' ++ f2)) ow'' := by
    refine ⟨whole, ?_, fun a h z => ?_⟩
    · refine List.nodup_append.mpr ⟨List.nodup_append.mpr ⟨b3.1, List.nodup_append.mpr ⟨k1, b4.2.1, fun a ha b hb e => ?_⟩, fun a ha b hb e => ?_⟩, k2, fun a ha b hb e => ?_⟩
      · subst e; exact far a (by simp [hb]) (c1 a ha)
      · subst e
        rcases List.mem_append.mp hb with hb | hb
        · exact far a (by simp [ha]) (c1 a hb)
        · exact b3.2.2 a ha a (by simp [hb]) rfl
      · subst e
        simp only [List.mem_append] at ha
        rcases ha with ha | ha | ha
        · exact far a (by simp [ha]) (c2 a hb)
        · exact k3 a ha a hb rfl
        · exact far a (by simp [ha]) (c2 a hb)
    · simp only [List.mem_append] at h
      have aux : a ∈ f1 ++ f2 → False := fun h => by
        obtain ⟨s1, ⟨o, s2⟩, s3⟩ := side a h
        rcases st.fr a z with y | y | y
        · exact s3 y
        · exact s1 y
        · rw [s2] at y; cases y
      rcases h with h | h | h
      · exact aux (by simp [h])
      · exact o''.dis a h z
      · exact aux (by simp [h])
  obtain ⟨ow2, g2', sub2⟩ := g''.put (i := i) own2
  have es : σ'.set i (some v0) = σ' := set_same (by rw [hi, List.getElem?_set_ne (fun z => hix z.symm)]; exact e2)
  rw [es] at g2'
  obtain ⟨z1, z2, z3⟩ := List.nodup_append.mp oz.nd
  have c3 : ∀ a ∈ ow2, a ∉ fz := fun a h z => by
    rcases sub2 a h with h | h
    · exact z3 a z a (sub'' a (by simp [h])) rfl
    · simp only [List.mem_append] at h
      rcases h with h | h | h
      · exact far a (by simp [h]) (by simp [z])
      · exact z3 a z a (sub'' a (by simp [h])) rfl
      · exact far a (by simp [h]) (by simp [z])
  refine ⟨ow2, g2', ⟨fun a o ea h => st.same a o ea fun z => h (inow a z), fun a h => ?_, st.up, fun a h => ?_⟩, ⟨oz.rep, List.nodup_append.mpr ⟨z1, g2'.nd, fun a ha b hb e => c3 b hb (e ▸ ha)⟩, oz.dis⟩⟩
  · have up : a ∈ fz ++ ow' → a ∈ g1 ++ (f1 ++ (fe ++ f2) ++ g2) ∨ H a = none := fun h => (org a h).elim (fun z => .inl (inow a z)) .inr
    rcases List.mem_append.mp h with h | h
    · exact up (by simp [h])
    · rcases sub2 a h with h | h
      · exact up (c2 a h)
      · simp only [List.mem_append] at h
        rcases h with h | h | h
        · exact .inl (by simp [h])
        · exact up (c1 a h)
        · exact .inl (by simp [h])
  · rcases st.fr a h with y | y | y
    · exact .inl y
    · exact .inr (.inl (inow a y))
    · exact .inr (.inr y)
end
def borBack (i x : Nat) (rb : D → D) (ρ : Ro) (P : Ro → Prop) : Prop := match ρ[x]? with
  | some (some (.ow, e')) => P ((ρ.set x none).set i (some (.ow, rb e')))
  | _ => False
def sBor (i x : Nat) (pl : PLF) (f : SF) : SF := fun D ρ => x < ρ.length ∧ pl ρ fun i' _ e rb => i' = i ∧ isL e = true ∧ f
  { nx := fun ρ' => borBack i x rb ρ' D.nx
    rt := fun z ρ' => borBack i x rb ρ' (D.rt z)
    ex := fun C ρ' => borBack i x rb ρ' (D.ex C) } ((ρ.set i (some (.fl, .any))).set x (some (.ow, e)))
section
variable {X : Cx} {E : XK} {pr : List Nat} {pos : Pos}
theorem borBack_of {i x : Nat} {rb : D → D} {ρ : Ro} {P : Ro → Prop} (h : borBack i x rb ρ P) : ∃ e', ρ[x]? = some (some (.ow, e')) ∧ P ((ρ.set x none).set i (some (.ow, rb e'))) := by
  unfold borBack at h
  split at h
  · rename_i e' q; exact ⟨e', q, h⟩
  · exact h.elim
theorem dss_bor (i x : Nat) {y : Str} {pos' : Pos} {o : Expr} {rest : List Stmt} {pl : PLF} {f : SF} (hN : X.N.Nodup) (ho : DPl X o pl) (hr : DSs X E (i :: x :: pr) rest f) (hp : x ∉ pr := by decide) (hix : i ≠ x := by decide) (hi : X.N[x]? = some y := by rfl) (hx : Loc X.env.scope y := by first | exact Or.inl rfl | exact Or.inr rfl)
    (hs : swapsWith o (some (.Name y pos')) pos.line X.env = pure false := by rfl) (hf : X.fn y = true ∨ X.env.scope.names.lookup y = some .local := by first | exact .inl rfl | exact .inr rfl) : DSs X E pr (.Assign [.Name y pos'] o pos :: rest) (sBor i x pl f) := by
  obtain ⟨to, eo, so⟩ := ho.run
  obtain ⟨t, a, s⟩ := hr.run
  refine ⟨_, pss_cons (ps_set hN hi hx eo hs hf) a, fun σ H A ρ ow T D gd h nx rt ex => ?_⟩
  obtain ⟨hlt, h⟩ := h
  have hlt' : x < σ.length := by rw [gd.rep.len]; exact hlt
  refine so σ H A ρ ow _ _ gd h fun i' k e rb w H1 h1 s1 p1 => ?_
  obtain ⟨ei, hl, h1⟩ := h1
  subst ei
  obtain ⟨ow1, g1, back⟩ := bor_in (x := x) (gd.same s1) p1 hl hix
  have prs : ∀ {σ' : L2.St}, (∀ j ∈ i' :: x :: pr, σ'[j]? = (σ.set x (some w))[j]?) → ∀ j ∈ pr, σ'[j]? = σ[j]? := fun {σ'} h j hj => by
    rw [h j (by simp [hj]), List.getElem?_set_ne fun z => hp (by rw [z]; exact hj)]
  refine s (σ.set x (some w)) H1 A _ ow1 { T with nx := T.nx } _ g1 h1 (fun ρ' σ' H' ow' A' hb st g p => ?_) (fun z ρ' v σ' H' fp ow' A' hb st g oz p => ?_) fun C ρ' σ' H' ow' A' hb st g p => ?_
  · obtain ⟨e', q, hb⟩ := borBack_of hb
    obtain ⟨ow2, g2, st2, _⟩ := back σ' H' [] ow' A' ρ' e' (.fl, .non) .non st g ⟨⟨rfl, rfl⟩, g.nd, fun a h => nomatch h⟩ q (p i' (by simp)) (p x (by simp)) hlt'
    exact nx _ σ' H' ow2 A' hb ((Stp.of_same s1).trans st2) g2 (prs p)
  · obtain ⟨e', q, hb⟩ := borBack_of hb
    obtain ⟨ow2, g2, st2, oz2⟩ := back σ' H' fp ow' A' ρ' e' z v st g oz q (p i' (by simp)) (p x (by simp)) hlt'
    exact rt z _ v σ' H' fp ow2 A' hb ((Stp.of_same s1).trans st2) g2 oz2 (prs p)
  · obtain ⟨e', q, hb⟩ := borBack_of hb
    obtain ⟨ow2, g2, st2, _⟩ := back σ' H' [] ow' A' ρ' e' (.fl, .non) .non st g ⟨⟨rfl, rfl⟩, g.nd, fun a h => nomatch h⟩ q (p i' (by simp)) (p x (by simp)) hlt'
    exact ex C _ σ' H' ow2 A' hb ((Stp.of_same s1).trans st2) g2 (prs p)
end
theorem mergeK_all : ∀ {more kvs : List (Key × V)}, ((kvs ++ more).map (·.1)).Nodup → mergeK kvs more = kvs ++ more
  | [], kvs, _ => by rw [List.append_nil]; rfl
  | p :: more, kvs, h => by
    have hp : (kvs.any fun kv => decide (kv.1 = p.1)) = false := by
      rw [Bool.eq_false_iff]
      intro z
      obtain ⟨q, hq, e⟩ := List.any_eq_true.mp z
      have e := of_decide_eq_true e
      rw [List.map_append] at h
      exact (List.nodup_append.mp h).2.2 q.1 (List.mem_map_of_mem hq) p.1 (by simp) e
    have e1 : putK kvs p.1 p.2 = kvs ++ [p] := by
      unfold putK
      rw [if_neg (by rw [hp]; exact Bool.false_ne_true)]
    show mergeK (putK kvs p.1 p.2) more = _
    rw [e1, mergeK_all (by rw [List.append_assoc]; exact h), List.append_assoc]; rfl
structure PKs (X : Cx) (pos : Pos) (keys : List (Option Expr)) (values : List Expr) (ks : List Str) (t : TA) : Prop where
  run : ∃ trs, PPs X pos keys values trs ∧ tPairs trs = fun σ H Q => t σ H fun vs H' => Q ((ks.map V.str).zip vs) H'
def kvsOf : List Str → List V → List (Key × V)
  | k :: ks, v :: vs => (.inr k, v) :: kvsOf ks vs
  | _, _ => []
theorem kvs_zip : ∀ {ks : List Str} {vs : List V}, (ks.map V.str).zip vs = (kvsOf ks vs).map fun kv => (kV kv.1, kv.2)
  | [], vs => by cases vs <;> rfl
  | k :: ks, [] => rfl
  | k :: ks, v :: vs => congrArg (_ :: ·) (kvs_zip (ks := ks) (vs := vs))
theorem kvs_keys : ∀ {ks : List Str} {vs : List V}, vs.length = ks.length → (kvsOf ks vs).map (·.1) = ks.map .inr
  | [], vs, _ => by cases vs <;> rfl
  | k :: ks, [], h => by cases h
  | k :: ks, v :: vs, h => congrArg (_ :: ·) (kvs_keys (Nat.succ.inj h))
theorem kvs_vals : ∀ {ks : List Str} {vs : List V}, vs.length = ks.length → (kvsOf ks vs).map (·.2) = vs
  | [], [], _ => rfl
  | [], _ :: _, h => by cases h
  | k :: ks, [], h => by cases h
  | k :: ks, v :: vs, h => congrArg (_ :: ·) (kvs_vals (Nat.succ.inj h))
def eDsp (ks : List Str) (g : AEF) : EF := fun ρ P PX => g ρ (fun avs ρ1 => match valsOf avs with | some zs => zs.all (fun z => ownK z.1) = true ∧ P (.ow, .dcK (ks.map .inr) (zs.map (·.2))) ρ1 | none => False) PX
theorem VRs.rs {K : Frg} {A : Addr → Prop} {H : Hp} : ∀ {zs : List KD} {vs : List V} {fp : List Addr}, VRs K A H zs vs fp → zs.all (fun z => ownK z.1) = true → Rs K No H (zs.map (·.2)) vs fp
  | [], _, _, h, _ => h
  | z :: zs, _, _, ⟨w, ws, f1, f2, e, e2, h, t⟩, c => by
    have c' := Bool.and_eq_true_iff.mp (show (ownK z.1 && zs.all fun z => ownK z.1) = true from c)
    exact ⟨w, ws, f1, f2, e, e2, VR.rown h c'.1, VRs.rs t c'.2⟩
section
variable {X : Cx} {E : XK} {pos : Pos}
structure DPK (X : Cx) (E : XK) (pos : Pos) (keys : List (Option Expr)) (values : List Expr) (ks : List Str) (n : Nat) (g : AEF) : Prop where
  run : ∃ t, PKs X pos keys values ks t ∧ AESound X.K E n t g
theorem dpk_nil : DPK X E pos [] [] [] 0 aNil := ⟨tNil, ⟨[], pps_nil, rfl⟩, ae_nil⟩
theorem dpk_cons {k : Str} {j} {ip : Pos} {keys : List (Option Expr)} {v : Expr} {values : List Expr} {ks : List Str} {n : Nat} {f : EF} {g : AEF} (hv : DE X E v f) (hr : DPK X E pos keys values ks n g) :
    DPK X E pos (some (.Constant (.str k) j ip) :: keys) (v :: values) (k :: ks) (n + 1) (aE f g) := by
  obtain ⟨tv, ev, sv⟩ := hv.run
  obtain ⟨t, ⟨trs, er, tr⟩, sr⟩ := hr.run
  refine ⟨tCons tv t, ⟨(tC (.str k), tv) :: trs, pps_cons (pe_str (x := k)) ev er, ?_⟩, ae_cons sv sr⟩
  funext σ H Q
  show (tv σ H fun y H2 => tPairs trs σ H2 fun ps H3 => Q ((.str k, y) :: ps) H3) = _
  rw [tr]
  rfl
theorem de_dsp {keys : List (Option Expr)} {values : List Expr} {ks : List Str} {n : Nat} {g : AEF} (h : DPK X E pos keys values ks n g) (hn : ks.Nodup := by decide +kernel) (hall : keys.all (·.isSome) = true := by rfl) (hl : keys.length = values.length := by rfl) (h0 : keys ≠ [] := by exact fun z => nomatch z) (h15 : keys.length ≤ 15 := by decide) (hk : ks.length = n := by rfl) (hk2 : n ≤ 15 := by decide) :
    DE X E (.Dict keys values pos) (eDsp ks g) := by
  obtain ⟨t, ⟨trs, er, tr⟩, sr⟩ := h.run
  refine ⟨_, pe_disp er hall hl h0 h15, fun σ H A ρ ow Q P PX gd h q qx p hp => ?_⟩
  rw [tr]
  have s0 : Same H (upd H p (.dK [])) := same_upd hp
  refine sr σ (upd H p (.dK [])) A ρ ow _ _ _ (gd.same s0) h (fun avs ρ2 vs H2 fp ow2 A2 hz hP st g2 rr nd dis => ?_) fun C ρ2 H2 ow2 A2 hx st g2 => ?_
  · have pow : p ∉ ow := fun z => by
      obtain ⟨o, e, _⟩ := gd.rep.mu p z
      rw [hp] at e; cases e
    have hp2 : H2 p = some (.dK []) := st.same p _ upd_same pow
    have tp : (upd H p (.dK [])) p = some (.dK []) := upd_same
    have pfp : p ∉ fp ++ ow2 := fun z => by
      rcases st.own p z with y | y
      · exact pow y
      · rw [tp] at y; cases y
    have pA : ¬ A2 p := fun z => by
      rcases st.fr p z with y | y | y
      · obtain ⟨o, e⟩ := gd.tr p y
        rw [hp] at e; cases e
      · exact pow y
      · rw [tp] at y; cases y
    split at hP
    · rename_i zs ez
      obtain ⟨hown, hP⟩ := hP
      have rz := rr.vals ez
      have lvs : vs.length = ks.length := by rw [rr.len, hz, hk]
      have mm : mergeK [] (kvsOf ks vs) = kvsOf ks vs := mergeK_all (by
        rw [List.nil_append, kvs_keys lvs]
        exact hn.map _ fun a b h e => h (Sum.inr.inj e))
      refine ⟨hp2, kvsOf ks vs, kvs_zip, ?_, ?_⟩
      · have : (kvsOf ks vs).length = ks.length := by
          have := congrArg List.length (kvs_keys lvs)
          simpa using this
        omega
      · rw [mm]
        have mu : ∀ u, H2 p = some u → ¬ Imm u := fun u e => by rw [hp2] at e; cases e; exact fun z => z
        have pf : p ∉ fp := fun z => pfp (by simp [z])
        have po : p ∉ ow2 := fun z => pfp (by simp [z])
        have rs : Rs X.K No (upd H2 p (.dK (kvsOf ks vs))) (zs.map (·.2)) vs fp := Rs.keep _ _ _ (KeepF.upd pf (fun z => z) mu) (rz.rs hown)
        have whole : R X.K No (upd H2 p (.dK (kvsOf ks vs))) (.dcK (ks.map .inr) (zs.map (·.2))) (.ref p) (p :: fp) := ⟨p, kvsOf ks vs, fp, rfl, rfl, upd_same, kvs_keys lvs, by rw [kvs_vals lvs]; exact rs⟩
        have kA : KeepF A2 ow2 H2 (upd H2 p (.dK (kvsOf ks vs))) := KeepF.upd po pA mu
        refine q _ ρ2 _ _ (p :: fp) ow2 A2 hP ⟨fun a o e n => ?_, fun a h => ?_, st.up, fun a h => ?_⟩ ⟨RepS.keep kA g2.rep, g2.nd, g2.dis, fun a h => ?_⟩ ⟨whole, ?_, fun a h => ?_⟩
        · have ne : a ≠ p := fun z => by rw [z, hp] at e; cases e
          rw [upd_ne ne]
          exact st.same a o (by rw [upd_ne ne]; exact e) n
        · rcases List.mem_append.mp h with h | h
          · rcases List.mem_cons.mp h with h | h
            · rw [h]; exact .inr hp
            · exact (st.own a (by simp [h])).imp id s0.free
          · exact (st.own a (by simp [h])).imp id s0.free
        · rcases st.fr a h with y | y | y
          · exact .inl y
          · exact .inr (.inl y)
          · exact .inr (.inr (s0.free y))
        · obtain ⟨o, e⟩ := g2.tr a h
          by_cases z : a = p
          · rw [z]; exact ⟨_, upd_same⟩
          · exact ⟨o, by rw [upd_ne z]; exact e⟩
        · exact List.nodup_cons.mpr ⟨pfp, nd⟩
        · rcases List.mem_cons.mp h with h | h
          · rw [h]; exact pA
          · exact dis a h
    · exact hP.elim
  · refine qx C ρ2 H2 ow2 A2 hx ⟨fun a o e n => st.same a o (s0 a o e) n, fun a h => ?_, st.up, fun a h => ?_⟩ g2
    · exact (st.own a h).imp id s0.free
    · rcases st.fr a h with y | y | y
      · exact .inl y
      · exact .inr (.inl y)
      · exact .inr (.inr (s0.free y))
end
def eAppMv (pl : PLF) (j : Nat) (f : PF) : EF := fun ρ P _ => match ρ[j]? with
  | some (some kd) => ownK kd.1 = true ∧ pl (ρ.set j none) fun i k e rb => isL e = true ∧ f (ρ.set j none) fun z => ownK z.1 = true ∧ (match e with
    | .lst ds => ds.length < 10000000 ∧ P (.fl, .non) ((ρ.set j none).set i (some (nk k .ow, rb (.lst (ds ++ [.tup [kd.2, z.2]])))))
    | _ => False)
  | _ => False
section
variable {X : Cx} {E : XK} {pos cpos apos px tpos : Pos}
theorem de_appMv (j : Nat) {o e2 : Expr} {x : Str} {kt : Nat} {name : Str} {id : String} {r : V → List V → Hp → VK → Prop} {pl : PLF} {f : PF} (pa : PlainAttrs "list") (slot : PySem.Slot "list" name id) (hty : typeOf (.builtin id) = pure (.type "method_descriptor")) (hm : MtM X id r) (hs : MSound X.K r mAppend) (ho : DPl X o pl) (hf : DP X e2 f)
    (hN : X.N[j]? = some x := by rfl) (hv : Vis X.env.scope x := by first | exact Or.inl rfl | exact Or.inr (Or.inl rfl) | exact Or.inr (Or.inr rfl)) (hd : (x == ("__debug__" : Str)) = false := by decide) (hcd : (x == ("__classdict__" : Str)) = false := by decide)
    (hbase : attributeBase o name X.env (eval o X.env) = eval o X.env := by rfl)
    (hfew : ((backTo cpos (starEach [.Tuple [.Name x px, e2] kt tpos] X.env)).all (fun x => !x.1) && (backToKw cpos (keywordEach [] X.env)).all (fun x => x.1.isSome)
      && decide (([.Tuple [.Name x px, e2] kt tpos] : List Expr).length + ([] : List Keyword).length + (if ([] : List Keyword).isEmpty then 0 else 1) < 30)) = true := by rfl)
    (hline : (apos.endLine == cpos.line) = true := by rfl) (hst : starEach [.Tuple [.Name x px, e2] kt tpos] X.env = (false, eval (.Tuple [.Name x px, e2] kt tpos) X.env) :: starEach [] X.env := by rfl) (hplain : (backTo cpos (starEach [] X.env)).any (·.1) = false := by rfl) (hst2 : starEach [e2] X.env = (false, eval e2 X.env) :: starEach [] X.env := by rfl) :
    DE X E (.Call (.Attribute o name apos) [.Tuple [.Name x px, e2] kt tpos] [] cpos) (eAppMv pl j f) := by
  obtain ⟨to, eo, so⟩ := ho.run
  obtain ⟨t2, ee, s2⟩ := hf.run
  refine ⟨_, pe_bm pa slot hty hm eo (pa_cons (pe_tup (pa_cons (pe_var hN hv hd hcd) (pa_cons ee pa_nil hst2))) pa_nil) hbase hfew hline hst hplain, fun σ H A ρ ow Q P PX gd h q qx => ?_⟩
  unfold eAppMv at h
  split at h
  · rename_i kd ej
    obtain ⟨hown, h⟩ := h
    obtain ⟨v, fp, ow', hvj, g', oj, sub⟩ := gd.move ej
    refine so σ H A (ρ.set j none) ow' _ _ g' h fun i k e rb w H1 h1 s1 p1 => ?_
    obtain ⟨hl, h1⟩ := h1
    refine ⟨?_, ?_⟩
    · obtain ⟨d, v0, g1, fs, g2, fe, _, _, ⟨_, _, _, re, _⟩, _⟩ := p1
      exact tyL re hl
    refine ⟨v, hvj, ?_⟩
    refine s2 σ H1 A (ρ.set j none) ow' _ _ (g'.same s1) h1 fun z u H2 hz s2' pz => ?_
    obtain ⟨hzo, hz⟩ := hz
    refine ⟨by rw [sizeLine_eq, List.length_cons, List.length_cons, List.length_nil]; omega, fun p hp => ?_⟩
    split at hz
    · rename_i ds
      obtain ⟨hlen, hz⟩ := hz
      obtain ⟨fz, rz, ndz, hFz⟩ := pz
      have s12 := s1.trans s2'
      have s3 : Same H2 (upd H2 p (.tup [v, u])) := same_upd hp
      have s13 := s12.trans s3
      have rk : R X.K No (upd H2 p (.tup [v, u])) kd.2 v fp := R.keep _ _ _ (KeepF.of_same s13) (oj.rep.rown hown)
      have rz' : R X.K No (upd H2 p (.tup [v, u])) z.2 u fz := R.keep _ _ _ (KeepF.of_same s3) (rz.rown hzo)
      have rt : R X.K No (upd H2 p (.tup [v, u])) (.tup [kd.2, z.2]) (.ref p) (fp ++ fz) := ⟨p, [v, u], rfl, .inl (.inl upd_same), Rs.cons rk (Rs.one rz')⟩
      have trk : ∀ a ∈ fp ++ ow', ∃ o, H a = some o := fun a h => let ⟨o, e, _⟩ := gd.rep.mu a (sub a h); ⟨o, e⟩
      have fzn : ∀ a ∈ fz, H a = none := fun a h => s1.free (hFz a h)
      obtain ⟨n1, n2, n3⟩ := List.nodup_append.mp oj.nd
      have fz' : ∀ a ∈ fz, a ∉ fp ++ ow' := fun a h y => by
        obtain ⟨o, e⟩ := trk a y
        rw [fzn a h] at e; cases e
      refine mth_fin (B := No) (fp := fp ++ fz) (vs := [.ref p]) (zs := [(.ow, .tup [kd.2, z.2])]) (P := P) hs (ow0 := ow) (A0 := A) (H0 := H) ⟨fun a o e n => s13 a o e, fun a h => ?_, fun _ h => h, fun _ h => .inl h⟩ (g'.same s13) (p1.same (s2'.trans s3)) ⟨.ref p, [], fp ++ fz, [], rfl, (List.append_nil _).symm, rt, rfl, rfl⟩ ?_ (fun a h y => ?_) ⟨rfl, hlen, hz⟩ q
      · simp only [List.mem_append] at h
        rcases h with (h | h) | h
        · exact .inl (sub a (by simp [h]))
        · exact .inr (fzn a h)
        · exact .inl (sub a (by simp [h]))
      · refine List.nodup_append.mpr ⟨List.nodup_append.mpr ⟨n1, ndz, fun a ha b hb e => fz' b hb (by rw [← e]; simp [ha])⟩, n2, fun a ha b hb e => ?_⟩
        subst e
        rcases List.mem_append.mp ha with h | h
        · exact n3 a h a hb rfl
        · exact fz' a h (by simp [hb])
      · rcases List.mem_append.mp h with h | h
        · exact oj.dis a h y
        · obtain ⟨o, e⟩ := gd.tr a y
          rw [fzn a h] at e; cases e
    · exact hz.elim
  · exact h.elim
end
end
end DL

namespace DL
open PySem PySem.Spec PyProof PyProof.Rows L2
noncomputable section
def cln1 : Sl → Sl
  | some (.rd, _) => none
  | some (.sa, _) => none
  | s => s
def cln (ρ : Ro) : Ro := ρ.map cln1
theorem cln_rep {K : Frg} {A B : Addr → Prop} {H : Hp} : ∀ {ρ : Ro} {σ : L2.St} {ow : List Addr}, RepS K A H ρ σ ow → RepS K B H (cln ρ) σ ow
  | [], _, _, h => h
  | s :: ρ, _, _, ⟨x, σ', f, g, e, e2, h, r⟩ => by
    refine ⟨x, σ', f, g, e, e2, ?_, cln_rep r⟩
    match s, h with
    | none, h => exact h
    | some (.fl, d), h => exact h
    | some (.sh, d), h => exact h
    | some (.ow, d), h => exact h
    | some (.rd, d), ⟨v, _, h⟩ => exact h.1
    | some (.sa, d), ⟨v, _, h⟩ => exact h.1
def vwBack (i : Nat) (d : D) (ρ : Ro) (P : Ro → Prop) : Prop := P ((cln ρ).set i (some (.ow, d)))
def sVw (i : Nat) (f : SF) : SF := fun D ρ => match ρ[i]? with
  | some (some (.ow, d)) => f
    { nx := fun ρ' => vwBack i d ρ' D.nx
      rt := fun z ρ' => ownK z.1 = true ∧ vwBack i d ρ' (D.rt z)
      ex := fun C ρ' => vwBack i d ρ' (D.ex C) } (ρ.set i (some (.rd, d)))
  | _ => False
theorem vw_in {K : Frg} {A : Addr → Prop} {H : Hp} {ρ : Ro} {σ : L2.St} {ow : List Addr} {i : Nat} {d : D} (gd : Good K A H ρ σ ow) (e : ρ[i]? = some (some (.ow, d))) :
    ∃ A1 ow1, Good K A1 H (ρ.set i (some (.rd, d))) σ ow1 ∧ ∀ (σ' : L2.St) (H' : Hp) (fz ow' : List Addr) (A' : Addr → Prop) (ρ' : Ro) (z : KD) (zv : V), Stp H ow1 A1 H' (fz ++ ow') A' → Good K A' H' ρ' σ' ow' → Own K A' H' z zv fz ow' → ownK z.1 = true → σ'[i]? = σ[i]? →
      ∃ A2 ow2, Good K A2 H' ((cln ρ').set i (some (.ow, d))) σ' ow2 ∧ Stp H ow A H' (fz ++ ow2) A2 ∧ Own K A2 H' z zv fz ow2 := by
  obtain ⟨v, fs, ow0, hv, g0, o0, sub⟩ := gd.move e
  obtain ⟨n1, n2, n3⟩ := List.nodup_append.mp o0.nd
  have trk : ∀ a ∈ fs, ∃ o, H a = some o := fun a h => let ⟨o, e, _⟩ := gd.rep.mu a (sub a (by simp [h])); ⟨o, e⟩
  have g1 : Good K (fun a => A a ∨ a ∈ fs) H (ρ.set i none) σ ow0 := ⟨g0.rep.mono fun _ h => .inl h, g0.nd, fun a h z => by
    rcases z with z | z
    · exact g0.dis a h z
    · exact n3 a z a h rfl, fun a h => by
    rcases h with h | h
    · exact g0.tr a h
    · exact trk a h⟩
  have r0 : R K No H d v fs := o0.rep
  have o1 : Own K (fun a => A a ∨ a ∈ fs) H (.rd, d) v [] ow0 := ⟨⟨rfl, o0.rep.ra (fun a h => .inl h) fun a h => .inr h⟩, by simpa using g0.nd, fun a h => nomatch h⟩
  obtain ⟨ow1, g2, sub1⟩ := g1.put (i := i) o1
  have es : σ.set i (some v) = σ := set_same hv
  rw [es, List.set_set] at g2
  have in1 : ∀ a ∈ ow1, a ∈ ow0 := fun a h => (sub1 a h).elim id fun z => nomatch z
  refine ⟨_, ow1, g2, fun σ' H' fz ow' A' ρ' z zv st g' oz hk hi => ?_⟩
  have far : ∀ a ∈ fs, a ∉ fz ++ ow' := fun a h z => by
    rcases st.own a z with y | y
    · exact n3 a h a (in1 a y) rfl
    · obtain ⟨o, e⟩ := trk a h
      rw [y] at e; cases e
  have kp : KeepF No fs H H' := fun a o ea h => st.same a o ea fun z => by
    rcases h with h | h | h
    · exact n3 a h a (in1 a z) rfl
    · exact h
    · obtain ⟨u, e', m⟩ := g2.rep.mu a z
      rw [ea] at e'; cases e'
      exact m.notImm h
  have g3 : Good K (fun a => A' a ∧ a ∉ fs) H' (cln ρ') σ' ow' := ⟨cln_rep g'.rep, g'.nd, fun a h y => g'.dis a h y.1, fun a h => g'.tr a h.1⟩
  have o3 : Own K (fun a => A' a ∧ a ∉ fs) H' (.ow, d) v fs ow' := ⟨R.keep _ _ _ kp r0, List.nodup_append.mpr ⟨n1, g'.nd, fun a ha b hb e => far a ha (by rw [e]; simp [hb])⟩, fun a h y => y.2 h⟩
  obtain ⟨ow2, g4, sub4⟩ := g3.put (i := i) o3
  have es2 : σ'.set i (some v) = σ' := set_same (by rw [hi]; exact hv)
  rw [es2] at g4
  obtain ⟨z1, z2, z3⟩ := List.nodup_append.mp oz.nd
  refine ⟨_, ow2, g4, ⟨fun a o ea h => st.same a o ea fun y => h (sub a (by simp [in1 a y])), fun a h => ?_, fun a h => ⟨st.up a (.inl h), fun y => gd.dis a (sub a (by simp [y])) h⟩, fun a h => ?_⟩, ⟨VR.own_any oz.rep hk, List.nodup_append.mpr ⟨z1, g4.nd, fun a ha b hb e => ?_⟩, fun a h y => oz.dis a h y.1⟩⟩
  · have up : a ∈ fz ++ ow' → a ∈ ow ∨ H a = none := fun h => (st.own a h).imp (fun y => sub a (by simp [in1 a y])) id
    rcases List.mem_append.mp h with h | h
    · exact up (by simp [h])
    · rcases sub4 a h with h | h
      · exact up (by simp [h])
      · exact .inl (sub a (by simp [h]))
  · rcases st.fr a h.1 with y | y | y
    · exact .inl (y.resolve_right h.2)
    · exact .inr (.inl (sub a (by simp [in1 a y])))
    · exact .inr (.inr y)
  · subst e
    rcases sub4 a hb with h | h
    · exact z3 a ha a h rfl
    · exact far a h (by simp [ha])
section
variable {X : Cx} {E : XK} {pr : List Nat} {st : Stmt} {f : SF}
theorem ds_vw (i : Nat) (h : DS X E (i :: pr) st f) : DS X E pr st (sVw i f) := by
  obtain ⟨t, a, s⟩ := h.run
  refine ⟨t, a, fun σ H A ρ ow T D gd h nx rt ex => ?_⟩
  unfold sVw at h
  split at h
  · rename_i d e
    obtain ⟨A1, ow1, g1, back⟩ := vw_in gd e
    refine s σ H A1 _ ow1 T _ g1 h (fun ρ' σ' H' ow' A' hb st g p => ?_) (fun z ρ' v σ' H' fp ow' A' hb st g oz p => ?_) fun C ρ' σ' H' ow' A' hb st g p => ?_
    · obtain ⟨A2, ow2, g2, st2, _⟩ := back σ' H' [] ow' A' ρ' (.fl, .non) .non st g ⟨⟨rfl, rfl⟩, g.nd, fun a h => nomatch h⟩ rfl (p i (by simp))
      exact nx _ σ' H' ow2 A2 hb st2 g2 fun j hj => p j (by simp [hj])
    · obtain ⟨hk, hb⟩ := hb
      obtain ⟨A2, ow2, g2, st2, oz2⟩ := back σ' H' fp ow' A' ρ' z v st g oz hk (p i (by simp))
      exact rt z _ v σ' H' fp ow2 A2 hb st2 g2 oz2 fun j hj => p j (by simp [hj])
    · obtain ⟨A2, ow2, g2, st2, _⟩ := back σ' H' [] ow' A' ρ' (.fl, .non) .non st g ⟨⟨rfl, rfl⟩, g.nd, fun a h => nomatch h⟩ rfl (p i (by simp))
      exact ex C _ σ' H' ow2 A2 hb st2 g2 fun j hj => p j (by simp [hj])
  · exact h.elim
end
end
end DL

namespace DL
open PySem PySem.Spec PyProof PyProof.Rows L2
noncomputable section
def eFnP (c : CF) (pl : PLF) (g : PAF) : EF := fun ρ P _ => pl ρ fun i _ e rb => g ρ fun zs => zs.all (fun z => decide (z.1 = .fl)) = true ∧ c ((.ow, e) :: zs) (fun z ys => ownK z.1 = true ∧ match ys with | [(.ow, e')] => P z (ρ.set i (some (.ow, rb e'))) | _ => False) fun _ _ => False
theorem VRs.fls {K : Frg} {A B : Addr → Prop} {H : Hp} : ∀ {zs : List KD} {vs : List V} {fp : List Addr}, VRs K A H zs vs fp → zs.all (fun z => decide (z.1 = .fl)) = true → VRs K B H zs vs []
  | [], _, _, h, _ => ⟨h.1, rfl⟩
  | z :: zs, _, _, ⟨w, ws, f1, f2, e, e2, h, t⟩, c => by
    have c' := Bool.and_eq_true_iff.mp (show (decide (z.1 = .fl) && zs.all fun z => decide (z.1 = .fl)) = true from c)
    obtain ⟨k, d⟩ := z
    have hk : k = .fl := of_decide_eq_true c'.1
    subst hk
    exact ⟨w, ws, [], [], e, rfl, ⟨rfl, h.2⟩, VRs.fls t c'.2⟩
section
variable {X : Cx} {E : XK} {CX : CXT} {k m : Nat} {f : Addr} {ps : List Str} {c : CF} {ms : List Bool} {x : Str} {p pos : Pos} {e : Expr} {es : List Expr} {g : PAF} {pl : PLF}
theorem de_callP (F : GOk X.prog X.w X.K X.mg X.base CX k f ps (spOf X.K (m + 1) (true :: ms) c)) (hr : RoomG k X.A) (hg : Gl X x) (hm : X.mg x = some (.ref f)) (hk : PySem.W.keepIn X.K (.ref f) = true) (hx : Passes CX X E) (hms : ms.all (!·) = true) (ho : DPl X e pl) (ha : DA X es m g)
    (hdb : (x == ("__debug__" : Str)) = false := by decide) (he : starEach (e :: es) X.env = (false, eval e X.env) :: starEach es X.env := by rfl) (hpl : (backTo pos (starEach es X.env)).any (·.1) = false := by rfl) :
    DE X E (.Call (.Name x p) (e :: es) [] pos) (eFnP c pl g) := by
  obtain ⟨to, eo, so⟩ := ho.run
  obtain ⟨t, ea, sa⟩ := ha.run
  refine ⟨_, pe_gok F hr hg hm hk hx (pa_cons eo ea he) hdb he hpl, fun σ H A ρ ow Q P PX gd h q qx => ?_⟩
  refine so σ H A ρ ow _ _ gd h fun i k e rb w H1 h1 s1 p1 => ?_
  refine sa σ H1 A ρ ow _ _ (gd.same s1) h1 fun zs vs H2 hn hz s2 pr => ?_
  show spOf X.K (m + 1) (true :: ms) c ((w :: vs) ++ []) H2 Q E
  rw [List.append_nil]
  obtain ⟨hfl, hc⟩ := hz
  obtain ⟨fp, rz, _, _⟩ := pr
  have s12 := s1.trans s2
  have g2 := gd.same s12
  obtain ⟨fe, re, nde, hin, _, mtt⟩ := (p1.same s2).mut (fa := []) g2 (by simpa using gd.nd) fun a h => nomatch h
  refine ⟨by rw [List.length_cons, rz.len, hn], (.ow, e) :: zs, A, fe, _, _, ⟨w, vs, fe, [], rfl, (List.append_nil _).symm, re, rz.fls hfl⟩, by simpa using nde, fun a h => g2.dis a (hin a h), g2.tr, hc, fun z ys v H' fp' M' A' hz rt rv => ?_, fun C ys H' M' A' hx _ => hx.elim⟩
  obtain ⟨hk, hz⟩ := hz
  split at hz
  · rename_i e'
    have hmu := rt.muts
    have es : sel (true :: ms) (w :: vs) = w :: sel ms vs := rfl
    rw [es, sel_none hms] at hmu
    obtain ⟨w', ws, f1, f2, ew, ef, hr1, e1, e2⟩ := hmu
    cases ew
    subst e2
    rw [List.append_nil] at ef
    subst ef
    obtain ⟨ow', st', g', o'⟩ := mtt e' .ow fp' z v H' M' rt.stp.same hr1 (.inl rfl) (VR.own_any rv hk) rt.nd fun a h => (rt.stp.own a h).imp id .inr
    exact q z _ v H' fp' ow' A hz ((Stp.of_same s12).trans (st'.sub fun a h => h)) g' o'
  · exact hz.elim
end
end
end DL

namespace DL
open PySem PySem.Spec PyProof PyProof.Rows L2
noncomputable section
section
variable {X : Cx} {pos : Pos} {a : Expr} {fa : PF}
end
end
end DL

namespace DL
open PySem PySem.Spec PyProof PyProof.Rows L2
noncomputable section
section
variable {X : Cx} {E : XK} {pr : List Nat} {st : Stmt} {f : SF}
end
end
end DL

namespace DL
open PySem PySem.Spec PyProof PyProof.Rows L2
noncomputable section
def D.wk : D → D
  | .key ns => .tup (ns.map .int)
  | .tpx ns => .tup (ns.map .int)
  | d => d
section
variable {K : Frg} {A B F : Addr → Prop} {H : Hp}
theorem RA.wk {d : D} {v : V} (h : RA K A H d v) : RA K A H d.wk v := by
  cases d with
  | key ns =>
    obtain ⟨p, e, t⟩ := h
    exact ⟨p, _, e, .inl (.inl t), RAs.of_ints _⟩
  | tpx ns =>
    obtain ⟨p, o, e, t, _⟩ := h
    exact ⟨p, _, e, .inl (.inr ⟨o, t⟩), RAs.of_ints _⟩
  | _ => exact h
theorem VR.wk {k : Kd} {d : D} {v : V} {f : List Addr} (h : VR K A H (k, d) v f) : VR K A H (k, d.wk) v f := by
  cases d with
  | key ns =>
    cases k with
    | fl => exact ⟨h.1, RA.wk h.2⟩
    | rd => exact ⟨h.1, RA.wk h.2⟩
    | sa => exact h.2.2.elim
    | sh => exact h.2.elim
    | ow => obtain ⟨e, h⟩ := h; subst e; exact R.of0 _ _ (RA.wk h)
  | tpx ns =>
    cases k with
    | fl => exact ⟨h.1, RA.wk h.2⟩
    | rd => exact ⟨h.1, RA.wk h.2⟩
    | sa => exact h.2.2.elim
    | sh => exact h.2.elim
    | ow => obtain ⟨e, h⟩ := h; subst e; exact R.of0 _ _ (RA.wk h)
  | _ => exact h
theorem PR.wk {z : KD} {v : V} (h : PR K B F H v z) : PR K B F H v (z.1, z.2.wk) := let ⟨fp, a, b, c⟩ := h; ⟨fp, VR.wk a, b, c⟩
end
section
variable {X : Cx} {o e : Expr} {es : List Expr} {to : TE} {t : TA} {name : Str} {apos cpos : Pos} {id : String} {r : V → List V → Hp → VK → Prop}
end

section
variable {prog : Program} {w : World} {A : Around} {E : Value → Shared → Prop} {s : Shared} {l : Addr} {xs : Array (Int × Tok)} {its : List Value} {ns : List Int} {Q : Value → Shared → Prop}
theorem iter_intTup (hl : s.heap.IsTuple l (intItems xs))
    (h : ∀ s₂ : Shared, s₂ = { s with heap := s.heap.push { cls := .type "tuple_iterator", data := .fields #[.ref l, .int 0 0] } } →
      (s₂.heap.IsTupleIter s.heap.objs.size l 0 ∧ s₂.heap.IsTuple l (intItems xs)) → (∀ b ∈ [s.heap.objs.size, l], b < s₂.heap.objs.size) → l ≠ s.heap.objs.size → Q (.ref s.heap.objs.size) s₂) :
    wpAny (model prog w) A (pyIter (.ref l)) Q E s := by
  have hlt : l < s.heap.objs.size := by obtain ⟨_, e, _⟩ := hl; exact Heap.lt_size e
  refine wpAny_pyIter_tuple hl (h _ rfl ⟨⟨_, Heap.get?_push_size _ rfl, rfl, rfl⟩, hl.push _⟩ (fun b hb => ?_) (Nat.ne_of_lt hlt))
  show b < (s.heap.push _).objs.size
  rw [Heap.size_push]
  rcases List.mem_cons.mp hb with rfl | hb
  · exact Nat.lt_succ_self _
  · rcases List.mem_cons.mp hb with rfl | hb
    · exact Nat.lt_succ_of_lt hlt
    · cases hb
theorem oldT {h' : Heap} (hk : ∀ b o, b ∉ [s.heap.objs.size] → (s.heap.push { cls := .type "tuple_iterator", data := .fields #[.ref l, .int 0 0] }).get? b = some o → h'.get? b = some o) :
    ∀ b o, s.heap.get? b = some o → h'.get? b = some o := fun b o e => by
  refine hk b o (fun hm => ?_) (Heap.get?_push_of_some _ e)
  rcases List.mem_cons.mp hm with e1 | hm
  · exact absurd (e1 ▸ Heap.lt_size e) (Nat.lt_irrefl _)
  · cases hm
theorem max_rawT (hh : A.handled = none) (hl : s.heap.IsTuple l its.toArray) (hi : IntsAre its ns) (hne : 0 < ns.length)
    (h : ∀ h' tk M t', (∀ b o, s.heap.get? b = some o → h'.get? b = some o) → M ∈ ns → (∀ a, a ∈ ns → a ≤ M) → Q (.int M t') { s with heap := h', toks := tk }) : wpAny (model prog w) A (call (.builtin "max") [.ref l]) Q E s := by
  obtain ⟨xs, e⟩ := hi.allInts.items
  have hn : numsOf (intItems xs).toList = ns := by rw [← e]; exact hi.numsOf
  rw [nums_intItems] at hn
  subst hn
  rw [e] at hl
  have hsz : 0 < xs.size := by simpa using hne
  refine call_max_walk (iter_intTup hl fun s₂ e st hfp hlI => ?_)
  subst e
  refine ⟨_, _, _, _, _, _, _, rfl, Walks.tuple (A := A.in1) hh _ l hlI (intItems xs), st, hfp, by simpa [intItems] using hsz, CmpOf.ints_gt (numAt xs) (fun _ _ => intItems_at), fun v h' tk hP hk => ?_⟩
  have hv : (intItems xs)[argBest (fun i j => decide (numAt xs i > numAt xs j)) (xs.size - 1)]? = some v := by simpa [intItems] using hP
  obtain ⟨t, rfl⟩ := intItems_at hv
  obtain ⟨h1, h2⟩ := argBest_gt (numAt xs) (xs.size - 1)
  refine h h' tk _ t (oldT hk) ?_ fun a ha => ?_
  · rw [numAt_eq]; exact PySem.getD_mem (by rw [List.length_map, Array.length_toList]; omega)
  · obtain ⟨j, hj, rfl⟩ := mem_getD ha
    rw [List.length_map, Array.length_toList] at hj
    rw [← numAt_eq]; exact h2 j (by omega)
end
def rMaxT (K : Frg) : List V → Hp → VK → Prop := fun vs H Q => ∃ (a : Addr) (ns : List Int), vs = [V.ref a] ∧ SqT K H a (ns.map V.int) ∧ 0 < ns.length ∧ ∀ m, m ∈ ns → (∀ y, y ∈ ns → y ≤ m) → Q (.int m) H
theorem cr_maxT {X : Cx} (hc : X.calm = true) : CallR X (.builtin "max") (rMaxT X.K) := by
  intro pins s σ H vs us Q I r h
  obtain ⟨a, ns, rfl, hs, hne, q⟩ := h
  obtain ⟨its, rv, hl, _⟩ := I.tuple hs
  rw [Vals.ref1 r]
  exact max_rawT (I.ok.hd hc) hl rv.ints hne fun h' tk m t' hk h1 h2 => ⟨.int _, H, I.kept hk, ⟨_, rfl⟩, q m h1 h2⟩
def oMaxT : List KD → (KD → Prop) → Prop := fun zs P => match zs with
  | [(_, .tup ds)] => ∃ ns : List Int, ds = ns.map .int ∧ 0 < ns.length ∧ ∀ m, m ∈ ns → (∀ y, y ∈ ns → y ≤ m) → P (.fl, .int m)
  | _ => False
theorem pr_intsT {K : Frg} {B F : Addr → Prop} {H : Hp} {k : Kd} {ns : List Int} {v : V} (p : PR K B F H v (k, .tup (ns.map .int))) : ∃ a, v = .ref a ∧ SqT K H a (ns.map V.int) := by
  obtain ⟨a, us, ea, t, r⟩ := p.tupT
  rw [RAs.ints r.elor] at t
  exact ⟨a, ea, t⟩
theorem cs_maxT {K : Frg} : CallS K (rMaxT K) oMaxT := by
  intro B F H vs xs P Q pr hF h q
  unfold oMaxT at h
  split at h
  · rename_i k ds
    obtain ⟨ns, rfl, hl, hP⟩ := h
    obtain ⟨v, ev, p⟩ := pr.get1
    obtain ⟨a, ea, t⟩ := pr_intsT p
    subst ev ea
    exact ⟨a, ns, rfl, t, hl, fun m h1 h2 => q _ _ H (hP m h1 h2) (Same.refl H) .int⟩
  · exact h.elim
end
end DL

namespace DL
open PySem PySem.Spec PyProof PyProof.Rows L2
noncomputable section
abbrev TD := List (List Int × Int)
abbrev lowK (k : List Int) : List Key := k.map Sum.inl
def lowT (kvs : TD) : List (List Key × V) := kvs.map fun x => (lowK x.1, V.int x.2)
def dtD (kvs : TD) : D := .dcT (kvs.map fun x => lowK x.1) (kvs.map fun x => .int x.2)
def look (kvs : TD) (k : List Int) : Option Int := (kvs.find? fun x => decide (x.1 = k)).map (·.2)
def putI (kvs : TD) (k : List Int) (i : Int) : TD := if (kvs.any fun x => decide (x.1 = k)) = true then kvs.map (fun x => if x.1 = k then (x.1, i) else x) else kvs ++ [(k, i)]
theorem low_eq {kvs : TD} : ∀ {kv2 : List (List Key × V)}, kv2.map (·.1) = (kvs.map fun x => lowK x.1) → kv2.map (·.2) = (kvs.map fun x => V.int x.2) → kv2 = lowT kvs := by
  induction kvs with
  | nil => intro kv2 h _; exact List.map_eq_nil_iff.mp h
  | cons x kvs ih =>
    intro kv2 h1 h2
    cases kv2 with
    | nil => cases h1
    | cons y r =>
      obtain ⟨a, b⟩ := y
      rw [List.map_cons, List.map_cons] at h1 h2
      have a1 := (List.cons.inj h1).1
      have a2 := (List.cons.inj h2).1
      dsimp only at a1 a2
      rw [ih (List.cons.inj h1).2 (List.cons.inj h2).2, a1, a2]; rfl
section
variable {K : Frg} {A B F : Addr → Prop} {H : Hp} {kvs : TD} {v : V} {fp : List Addr}
theorem RAs.intv : ∀ {kvs : TD} {vs : List V}, RAs K A H (kvs.map fun x => .int x.2) vs → vs = kvs.map fun x => V.int x.2
  | [], _, h => h
  | x :: kvs, _, ⟨w, ws, e, h, t⟩ => by
    have e1 : w = V.int x.2 := h
    rw [e, e1, RAs.intv (kvs := kvs) t]; rfl
theorem RAs.of_intv : ∀ {kvs : TD}, RAs K A H (kvs.map fun x => .int x.2) (kvs.map fun x => V.int x.2)
  | [] => rfl
  | x :: kvs => ⟨_, _, rfl, rfl, RAs.of_intv (kvs := kvs)⟩
theorem RA.dt (h : RA K A H (dtD kvs) v) : ∃ p, v = .ref p ∧ A p ∧ Rd H p (.dT (lowT kvs)) := by
  obtain ⟨p, k2, e, a, t, e1, r⟩ := h
  refine ⟨p, e, a, ?_⟩
  rw [← low_eq e1 (RAs.intv r)]; exact t
theorem R.dt (h : R K A H (dtD kvs) v fp) : ∃ p, v = .ref p ∧ fp = [p] ∧ H p = some (.dT (lowT kvs)) := by
  obtain ⟨p, k2, fps, e, e2, t, e1, r⟩ := h
  have z : RAs K (fun _ => True) H (kvs.map fun x => .int x.2) (k2.map (·.2)) := Rs.ra (fun _ _ => trivial) _ _ _ (fun _ _ => trivial) r
  have e3 : fps = [] := Rs.nil0 (K := K) (A := A) (H := H) (H' := H) _ fps ⟨_, RAs.of_intv⟩ ⟨_, r⟩
  subst e3
  exact ⟨p, e, e2, by rw [← low_eq e1 (RAs.intv z)]; exact t⟩
end
def isT (d : D) (kvs : TD) : Prop := d = dtD kvs ∨ d = .lkT kvs
theorem RA.isT {K : Frg} {A : Addr → Prop} {H : Hp} {d : D} {kvs : TD} {v : V} (e : isT d kvs) (h : RA K A H d v) : ∃ p, v = .ref p ∧ Rd H p (.dT (lowT kvs)) := by
  rcases e with e | e
  · subst e
    obtain ⟨p, e, _, t⟩ := RA.dt h
    exact ⟨p, e, t⟩
  · subst e
    obtain ⟨p, o, e, t⟩ := h
    exact ⟨p, e, .inr ⟨o, t⟩⟩
def oGetK (x y : KD) (P : KD → Prop) : Prop := ∃ kvs ns i, isT x.2 kvs ∧ y.2 = .key ns ∧ look kvs ns = some i ∧ P (.fl, .int i)
@[irreducible] def xGetK (x y : KD) (P : KD → Prop) : Prop := hid (oGetK x y P)
def oIsT (x : KD) (P : TD → Prop) : Prop := ∃ kvs, isT x.2 kvs ∧ P kvs
@[irreducible] def xIsT (x : KD) (P : TD → Prop) : Prop := hid (oIsT x P)
def oGet2K (kvs : TD) (y z : KD) (P : KD → Prop) : Prop := ∃ ns j, y.2 = .key ns ∧ z.2 = .int j ∧ P (.fl, .int ((look kvs ns).getD j))
@[irreducible] def xGet2K (kvs : TD) (y z : KD) (P : KD → Prop) : Prop := hid (oGet2K kvs y z P)
section
variable {X : Cx} {pos ip : Pos}
end
def oPutK (e : D) (y z : KD) (P : D → Prop) : Prop := ∃ kvs ns i, e = dtD kvs ∧ y.2 = .key ns ∧ z.2 = .int i ∧ kvs.length < 10000000 ∧ P (dtD (putI kvs ns i))
@[irreducible] def xPutK (e : D) (y z : KD) (P : D → Prop) : Prop := hid (oPutK e y z P)
section
variable {X : Cx} {E : XK} {pr : List Nat} {pos : Pos}
def oLck (sl : Option Sl) (P : TD → Prop) : Prop := match sl with
  | some (some (.ow, d)) => ∃ kvs, d = dtD kvs ∧ P kvs
  | _ => False
@[irreducible] def xLck (sl : Option Sl) (P : TD → Prop) : Prop := hid (oLck sl P)
end
end
end DL

namespace SrtO
open PySem PyProof.Rows Srt
section
variable {prog : Program} {w : World} {A : Around} {E : Value → Shared → Prop} {s : Shared}
end
end SrtO
namespace DL
open PySem PySem.Spec PyProof PyProof.Rows L2
noncomputable section
end
end DL
namespace DL
open PySem PySem.Spec PyProof PyProof.Rows L2
noncomputable section
section
variable {X : Cx} {e : Expr} {f : PF} {pos : Pos}
end
end
end DL

namespace DL
open PySem PySem.Spec PyProof PyProof.Rows L2
section
variable {X : Cx} {o : Expr} {p pos apos mpos : Pos} {td : TE}
end
noncomputable section
def oMinK (x : KD) (P : KD → Prop) : Prop := ∃ kvs, isT x.2 kvs ∧ kvs ≠ [] ∧ ∀ m, m ∈ kvs.map (·.2) → (∀ j ∈ kvs.map (·.2), m ≤ j) → P (.fl, .int m)
@[irreducible] def xMinK (x : KD) (P : KD → Prop) : Prop := hid (oMinK x P)
end
end DL

namespace DL
open PySem PySem.Spec PyProof PyProof.Rows L2

noncomputable section
section
variable {X : Cx} {pos : Pos} {a : Expr} {fa : PF}
end
def oLkL (sl : Option Sl) (P : List D → Prop) : Prop := match sl with
  | some (some (k, .lst ds)) => (k = .sh ∨ k = .ow) ∧ D.imms ds = true ∧ P ds
  | _ => False
@[irreducible] def xLkL (sl : Option Sl) (P : List D → Prop) : Prop := hid (oLkL sl P)
section
variable {X : Cx} {E : XK} {pr : List Nat}
end
end
end DL

namespace DL
open PySem PySem.Spec PyProof.Rows L2
noncomputable section
section
variable {X : Cx} {E : XK} {pr : List Nat} {pos : Pos}
end
end
end DL

namespace DL
open PySem PySem.Spec PyProof.Rows L2
open PySem.W (AlikeAll alike dataLt minD reads_keeps readsAll_len iter_listW iter_tupleW cmpIn_lt moved_old argBest_fold alikeAll dataLt_ints dataLt_tuple rowLt)
noncomputable section
section
variable {prog : Program} {w : World} {A : Around} {E : Value → Shared → Prop} {s : Shared}
end
abbrev tI (ns : List Int) : D := .tup (ns.map .int)
abbrev pI (ns : List Int) : PyData := .tuple (ns.map .int)
end
end DL

namespace DL
open PySem PySem.Spec PyProof.Rows L2
noncomputable section
section
variable {K : Frg} {A : Addr → Prop} {H : Hp}
def RsF (K : Frg) (A : Addr → Prop) (H : Hp) (ds : List D) (vs : List V) (fs : List (List Addr)) : Prop := vs.length = ds.length ∧ fs.length = ds.length ∧ ∀ (i : Nat) d v f, ds[i]? = some d → vs[i]? = some v → fs[i]? = some f → R K A H d v f
def swpL {α : Type} (l : List α) (m k : Nat) (x y : α) : List α := (l.set m y).set k x
theorem swpL_get {α : Type} {l : List α} {m k i : Nat} {x y z : α} (hm : l[m]? = some x) (hk : l[k]? = some y) (h : (swpL l m k x y)[i]? = some z) : (i = k ∧ z = x) ∨ (i ≠ k ∧ i = m ∧ z = y) ∨ (i ≠ k ∧ i ≠ m ∧ l[i]? = some z) := by
  have lm := (List.getElem?_eq_some_iff.mp hm).1
  have lk := (List.getElem?_eq_some_iff.mp hk).1
  unfold swpL at h
  rw [List.getElem?_set] at h
  by_cases e : k = i
  · rw [if_pos e, if_pos (by rw [List.length_set]; omega)] at h
    exact .inl ⟨e.symm, (Option.some.inj h).symm⟩
  · rw [if_neg e, List.getElem?_set] at h
    by_cases e2 : m = i
    · rw [if_pos e2, if_pos (by omega)] at h
      exact .inr (.inl ⟨fun z => e z.symm, e2.symm, (Option.some.inj h).symm⟩)
    · rw [if_neg e2] at h
      exact .inr (.inr ⟨fun z => e z.symm, fun z => e2 z.symm, h⟩)
theorem swpL_len {α : Type} {l : List α} {m k : Nat} {x y : α} : (swpL l m k x y).length = l.length := by unfold swpL; rw [List.length_set, List.length_set]
theorem RsF.swap {ds : List D} {vs : List V} {fs : List (List Addr)} {m k : Nat} {dm dk : D} {vm vk : V} {fm fk : List Addr} (h : RsF K A H ds vs fs) (d1 : ds[m]? = some dm) (d2 : ds[k]? = some dk) (v1 : vs[m]? = some vm) (v2 : vs[k]? = some vk) (f1 : fs[m]? = some fm) (f2 : fs[k]? = some fk) :
    RsF K A H (swpL ds m k dm dk) (swpL vs m k vm vk) (swpL fs m k fm fk) := by
  obtain ⟨h1, h2, h3⟩ := h
  refine ⟨by rw [swpL_len, swpL_len, h1], by rw [swpL_len, swpL_len, h2], fun i d v f a b c => ?_⟩
  rcases swpL_get d1 d2 a with ⟨e, rfl⟩ | ⟨e, e', rfl⟩ | ⟨e, e', a⟩
  · rcases swpL_get v1 v2 b with ⟨_, rfl⟩ | ⟨n, _, _⟩ | ⟨n, _, _⟩
    · rcases swpL_get f1 f2 c with ⟨_, rfl⟩ | ⟨n, _, _⟩ | ⟨n, _, _⟩
      · exact h3 m _ _ _ d1 v1 f1
      · exact absurd e n
      · exact absurd e n
    · exact absurd e n
    · exact absurd e n
  · rcases swpL_get v1 v2 b with ⟨n, _⟩ | ⟨_, _, rfl⟩ | ⟨_, n, _⟩
    · exact absurd n e
    · rcases swpL_get f1 f2 c with ⟨n, _⟩ | ⟨_, _, rfl⟩ | ⟨_, n, _⟩
      · exact absurd n e
      · exact h3 k _ _ _ d2 v2 f2
      · exact absurd e' n
    · exact absurd e' n
  · rcases swpL_get v1 v2 b with ⟨n, _⟩ | ⟨_, n, _⟩ | ⟨_, _, b⟩
    · exact absurd n e
    · exact absurd n e'
    · rcases swpL_get f1 f2 c with ⟨n, _⟩ | ⟨_, n, _⟩ | ⟨_, _, c⟩
      · exact absurd n e
      · exact absurd n e'
      · exact h3 i _ _ _ a b c
end
def sSwR (x i j : Nat) : SF := fun D ρ => match ρ[x]?, ρ[i]?, ρ[j]? with
  | some (some (.ow, .lst ds)), some (some (_, .int a)), some (some (_, .int b)) => ∃ m k u w, ixN ds.length a = some m ∧ ixN ds.length b = some k ∧ ds[m]? = some u ∧ ds[k]? = some w ∧ D.nx (ρ.set x (some (.ow, .lst (swpL ds m k u w))))
  | _, _, _ => False
@[irreducible] def sSwRX (x i j : Nat) : SF := fun D ρ => hid (sSwR x i j D ρ)
section
variable {X : Cx} {E : XK} {pr : List Nat} {pos : Pos}
end
end
end DL

namespace DL
open PySem PySem.Spec PyProof.Rows L2
open PySem.W (AlikeAll minD)
noncomputable section
section
variable {X : Cx} {pos : Pos} {a : Expr} {fa : PF}
end
end
end DL

namespace HT
open PySem PySem.Spec PyProof.Rows
section
variable {prog : Program} {w : World} {A : Around} {E : Value → Shared → Prop} {s : Shared}
end
end HT
namespace DL
open PySem PySem.Spec PyProof.Rows L2
noncomputable section
section
variable {X : Cx} {pos : Pos} {a : Expr} {fa : PF}
end
end
end DL

namespace DL
open PySem PySem.Spec PyProof.Rows L2
noncomputable section
end
end DL

namespace DL
open PySem PySem.Spec PyProof PyProof.Rows L2
noncomputable section
def SSoundW (K : Frg) (W : WX) (pr : List Nat) (t : TS) (f : SF) : Prop := ∀ (σ : L2.St) (H : Hp) (A : Addr → Prop) (ρ : Ro) (ow : List Addr) (T : Ends) (D : DEnds), Good K A H ρ σ ow → f D ρ →
  (∀ ρ' σ' H' ow' A', D.nx ρ' → Stp H ow A H' ow' A' → Good K A' H' ρ' σ' ow' → (∀ i ∈ pr, σ'[i]? = σ[i]?) → T.nx σ' H') →
  (∀ z ρ' v σ' H' fp ow' A', D.rt z ρ' → Stp H ow A H' (fp ++ ow') A' → Good K A' H' ρ' σ' ow' → Own K A' H' z v fp ow' → (∀ i ∈ pr, σ'[i]? = σ[i]?) → T.rt v H') →
  (∀ C ρ' σ' H' ow' A', D.ex C ρ' → Stp H ow A H' ow' A' → Good K A' H' ρ' σ' ow' → (∀ i ∈ pr, σ'[i]? = σ[i]?) → W (.ref (He.ga K C)) none σ' H') → t T σ H
structure DB (X : Cx) (W : WX) (pr : List Nat) (st : List Stmt) (f : SF) : Prop where
  run : ∃ t, PSs X st t ∧ SSoundW X.K W pr t f
def eFnX (ms : List Bool) (c : CF) (f : AEF) : EF := fun ρ P PX => f ρ (fun avs ρ1 => match grab avs ρ1 with
  | some (zs, ρ2) => c zs (fun z ys => match putB ms avs ys ρ2 with | some ρ3 => P z ρ3 | none => False) (fun C ys => match putB ms avs ys ρ2 with | some ρ3 => PX C ρ3 | none => False)
  | none => False) fun _ _ => False
section
variable {X : Cx} {W : WX} {pr : List Nat}
end
theorem Good.non {K : Frg} {A : Addr → Prop} {H : Hp} {ρ : Ro} {σ : L2.St} {ow : List Addr} {i : Nat} {x : Option V} (g : Good K A H ρ σ ow) : ∃ ow', Good K A H (ρ.set i none) (σ.set i x) ow' ∧ ∀ a ∈ ow', a ∈ ow := by
  cases e : ρ[i]? with
  | none =>
    have h1 : ρ.length ≤ i := List.getElem?_eq_none_iff.mp e
    have h2 : σ.length ≤ i := by rw [g.rep.len]; exact h1
    rw [List.set_eq_of_length_le h1, List.set_eq_of_length_le h2]
    exact ⟨ow, g, fun a h => h⟩
  | some s =>
    obtain ⟨y, f1, f2, f3, hx, e2, _, put⟩ := g.rep.split e
    have nd := g.nd
    subst e2
    refine ⟨f1 ++ ([] ++ f3), ⟨put H A none x [] (fun _ h => h) (fun a o e _ => e) rfl, ?_, fun a h => ?_, g.tr⟩, fun a h => ?_⟩
    · obtain ⟨m1, m2, m3⟩ := List.nodup_append.mp nd
      obtain ⟨_, m5, m6⟩ := List.nodup_append.mp m2
      exact List.nodup_append.mpr ⟨m1, m5, fun a ha b hb => m3 a ha b (by simp at hb; simp [hb])⟩
    · refine g.dis a ?_
      rcases List.mem_append.mp h with h | h
      · simp [h]
      · simp at h; simp [h]
    · rcases List.mem_append.mp h with h | h
      · simp [h]
      · simp at h; simp [h]
def pIsX (tab : List (Str × Bool)) (f : PF) : PF := fun ρ P => f ρ fun z => match z.2 with
  | .exn C => ∃ b, (C, b) ∈ tab ∧ P (.fl, .bl b)
  | _ => False
section
variable {X : Cx} {e : Expr} {f : PF} {p p2 pos : Pos} {x : Str} {tab : List (Str × Bool)}
end
theorem XF.exc_ok {K : PySem.W.Frag} {C : Str} (h : (XF.exc C).ok K = true) : ExcC K (He.ga K C) := by
  obtain ⟨h1, h⟩ := Bool.and_eq_true_iff.mp h
  obtain ⟨h2, h⟩ := Bool.and_eq_true_iff.mp h
  obtain ⟨h3, h⟩ := Bool.and_eq_true_iff.mp h
  obtain ⟨h4, h⟩ := Bool.and_eq_true_iff.mp h
  obtain ⟨h5, h⟩ := Bool.and_eq_true_iff.mp h
  obtain ⟨h6, h⟩ := Bool.and_eq_true_iff.mp h
  obtain ⟨h7, h8⟩ := Bool.and_eq_true_iff.mp h
  exact ⟨of_decide_eq_true h1, of_decide_eq_true h2, of_decide_eq_true h3, h4, of_decide_eq_true h5, of_decide_eq_true h6, of_decide_eq_true h7, of_decide_eq_true h8⟩
theorem dss_false {X : Cx} {E : XK} {pr : List Nat} {st : List Stmt} : DSs X E pr st fun _ _ => False := ⟨fun _ _ _ => False, ⟨fun _ _ _ _ _ _ h => h.elim⟩, fun _ _ _ _ _ _ _ _ h _ _ _ => h⟩
end
end DL

namespace DL
open PySem PySem.Spec PyProof PyProof.Rows L2
noncomputable section
end
end DL

namespace DL
open PySem PySem.Spec PyProof PyProof.Rows L2
noncomputable section
mutual
def D.cnt : D → Nat
  | .tup ds => D.cnts ds
  | .lst ds => D.cnts ds + 1
  | _ => 0
def D.cnts : List D → Nat
  | [] => 0
  | d :: ds => D.cnt d + D.cnts ds
end
mutual
def D.trkOk : D → Bool
  | .tup ds => D.trkOks ds
  | .lst ds => D.trkOks ds
  | .dcT _ _ => false
  | .dcK _ _ => false
  | .obj _ _ _ => false
  | .lsA _ _ => false
  | .frz _ => false
  | _ => true
def D.trkOks : List D → Bool
  | [] => true
  | d :: ds => D.trkOk d && D.trkOks ds
end
mutual
def D.trk : D → List Addr → D
  | .tup ds, fp => .tup (D.trks ds fp)
  | .lst ds, fp => .lsA (fp.headD 0) (D.trks ds fp.tail)
  | d, _ => d
def D.trks : List D → List Addr → List D
  | [], _ => []
  | d :: ds, fp => D.trk d (fp.take (D.cnt d)) :: D.trks ds (fp.drop (D.cnt d))
end
section
variable {K : Frg} {A B : Addr → Prop} {H : Hp}
mutual
theorem R.cnt : ∀ (d : D) (v : V) (fp : List Addr), R K A H d v fp → D.trkOk d = true → fp.length = D.cnt d
  | .tup ds, _, fp, ⟨p, vs, e, t, r⟩, c => Rs.cnt ds vs fp r c
  | .lst ds, _, fp, ⟨p, vs, fps, e, e2, t, r⟩, c => by rw [e2]; exact congrArg (· + 1) (Rs.cnt ds vs fps r c)
  | .non, _, _, h, _ => by rw [h.1]; rfl
  | .bl _, _, _, h, _ => by rw [h.1]; rfl
  | .int _, _, _, h, _ => by rw [h.1]; rfl
  | .str _, _, _, h, _ => by rw [h.1]; rfl
  | .fn _, _, _, h, _ => by rw [h.1]; rfl
  | .ad _, _, _, h, _ => by rw [h.1]; rfl
  | .key _, _, _, h, _ => by rw [h.1]; rfl
  | .tpx _, _, _, h, _ => by rw [h.1]; rfl
  | .exn _, _, _, h, _ => by rw [h.1]; rfl
  | .lkT _, _, _, h, _ => by rw [h.1]; rfl
  | .any, _, _, h, _ => by rw [h.1]; rfl
  | .kst _, _, _, h, _ => by rw [h.1]; rfl
  | .dcT _ _, _, _, _, c => by cases c
  | .dcK _ _, _, _, _, c => by cases c
  | .obj _ _ _, _, _, _, c => by cases c
  | .lsA _ _, _, _, _, c => by cases c
  | .frz _, _, _, _, c => by cases c
theorem Rs.cnt : ∀ (ds : List D) (vs : List V) (fp : List Addr), Rs K A H ds vs fp → D.trkOks ds = true → fp.length = D.cnts ds
  | [], _, _, h, _ => by rw [h.2]; rfl
  | d :: ds, _, _, ⟨w, ws, f1, f2, e, e2, h, t⟩, c => by
    have c' := Bool.and_eq_true_iff.mp (show (D.trkOk d && D.trkOks ds) = true from c)
    rw [e2, List.length_append, R.cnt d w f1 h c'.1, Rs.cnt ds ws f2 t c'.2]; rfl
end
mutual
theorem R.trk (m : ∀ a, A a → B a) : ∀ (d : D) (v : V) (fp : List Addr), R K A H d v fp → D.trkOk d = true → (∀ a ∈ fp, B a) → RA K B H (D.trk d fp) v
  | .tup ds, _, fp, ⟨p, vs, e, t, r⟩, c, hB => ⟨p, vs, e, t, Rs.trk m ds vs fp r c hB⟩
  | .lst ds, _, fp, ⟨p, vs, fps, e, e2, t, r⟩, c, hB => by
    subst e2
    exact ⟨e, hB p (by simp), vs, t, Rs.trk m ds vs fps r c fun a h => hB a (by simp [h])⟩
  | .non, _, _, h, _, _ => RA.no h.2
  | .bl _, _, _, h, _, _ => RA.no h.2
  | .int _, _, _, h, _, _ => RA.no h.2
  | .str _, _, _, h, _, _ => RA.no h.2
  | .fn _, _, _, h, _, _ => RA.no h.2
  | .ad _, _, _, h, _, _ => RA.no h.2
  | .key _, _, _, h, _, _ => RA.no h.2
  | .tpx _, _, _, h, _, _ => RA.no h.2
  | .exn _, _, _, h, _, _ => RA.no h.2
  | .lkT _, _, _, h, _, _ => RA.no h.2
  | .any, _, _, h, _, _ => RA.no h.2
  | .kst _, _, _, h, _, _ => RA.no h.2
  | .dcT _ _, _, _, _, c, _ => by cases c
  | .dcK _ _, _, _, _, c, _ => by cases c
  | .obj _ _ _, _, _, _, c, _ => by cases c
  | .lsA _ _, _, _, _, c, _ => by cases c
  | .frz _, _, _, _, c, _ => by cases c
theorem Rs.trk (m : ∀ a, A a → B a) : ∀ (ds : List D) (vs : List V) (fp : List Addr), Rs K A H ds vs fp → D.trkOks ds = true → (∀ a ∈ fp, B a) → RAs K B H (D.trks ds fp) vs
  | [], _, _, h, _, _ => h.1
  | d :: ds, _, _, ⟨w, ws, f1, f2, e, e2, h, t⟩, c, hB => by
    have c' := Bool.and_eq_true_iff.mp (show (D.trkOk d && D.trkOks ds) = true from c)
    subst e e2
    have l1 := R.cnt d w f1 h c'.1
    refine ⟨w, ws, rfl, ?_, ?_⟩
    · rw [← l1, List.take_left' rfl]
      exact R.trk m d w f1 h c'.1 fun a h => hB a (by simp [h])
    · rw [← l1, List.drop_left' rfl]
      exact Rs.trk m ds ws f2 t c'.2 fun a h => hB a (by simp [h])
end
end
section
variable {X : Cx} {e : Expr} {f : PF}
end
section
variable {X : Cx} {E : XK} {pr : List Nat} {pos : Pos} {e : Expr} {f : PF}
end
def stB (i x : Nat) (body : SF) (D : DEnds) (N : Nat) : Nat → Ro → Prop
  | 0, ρ => D.nx ρ
  | m + 1, ρ => ∃ (ds : List DL.D) (e : DL.D), ρ[i]? = some (some (.ow, .lst ds)) ∧ ds.length = N ∧ ds[N - (m + 1)]? = some e ∧ x < ρ.length ∧
    body { nx := fun ρ' => ∃ e', ρ'[x]? = some (some (.ow, e')) ∧ stB i x body D N m ((ρ'.set x none).set i (some (.ow, .lst (ds.set (N - (m + 1)) e')))), rt := fun _ _ => False, ex := fun _ _ => False } ((ρ.set i none).set x (some (.ow, e)))
@[irreducible] def kForB (i x : Nat) (body : SF) (D : DEnds) (N : Nat) (ρ : Ro) : Prop := hid (stB i x body D N N ρ)
section
variable {X : Cx} {E : XK} {pr : List Nat} {pos : Pos}
end
theorem passX {X : Cx} {E : XK} (tk : Takes X (fun cls d _ H => E cls d H)) : Passes (L2.CX X.prog X.w) X E := fun pins σ H s e s' I c => passAt tk σ pins H s e s' I c
end
end DL

namespace DL
open PySem PySem.Spec PyProof PyProof.Rows L2
noncomputable section
theorem Rs.imms {K : Frg} {A : Addr → Prop} {H : Hp} {ds : List D} {vs : List V} {fp : List Addr} (h : Rs K A H ds vs fp) (hi : D.imms ds = true) : fp = [] ∧ RAs K No H ds vs := by
  have r : RAs K (fun a => A a ∨ a ∈ fp) H ds vs := Rs.ra (B := fun a => A a ∨ a ∈ fp) (fun _ h => .inl h) ds vs fp (fun a h => .inr h) h
  have r0 := RAs.imm_no ds vs r hi
  exact ⟨Rs.nil0 ds fp ⟨vs, r0⟩ ⟨vs, h⟩, r0⟩
section
variable {X : Cx} {E : XK}
end
section
variable {X : Cx} {E : XK} {pr : List Nat} {epos apos cpos apos2 cpos2 : Pos} {o1 o2 : Expr} {g1 g2 : PF}
end
section
variable {X : Cx} {E : XK} {o e : Expr} {apos cpos : Pos}
end
end
end DL

namespace DL
open PySem PySem.Spec PyProof PyProof.Rows L2
noncomputable section
section
variable {X : Cx} {P : Program} {w : World} {K : Frg} {mg : Str → Option Value} {base : Heap}
end
section
variable {X : Cx} {E : XK} {pr : List Nat}
end
end
end DL

namespace DL
open PySem PySem.Spec PyProof PyProof.Rows L2
noncomputable section
section
variable {X : Cx} {E : XK} {pr : List Nat} {pos : Pos}
end
def pNum (f : PF) (ρ : Ro) (P : Int → Prop) : Prop := f ρ fun z => match z.2 with
  | .int i => P i
  | _ => False
section
variable {X : Cx} {a b c d k x : Expr} {fa fb fc fd fk fx : PF} {dp apos cpos : Pos}
end
end
end DL

namespace DL
open PySem PySem.Spec PyProof PyProof.Rows L2
open PySem.W (EachIs)
noncomputable section
theorem RAs.pairs {K : Frg} {H : Hp} : ∀ (L : List (V × List Int)), (∀ p ∈ L, RA K No H (tI p.2) p.1) → RAs K No H ((L.map (·.2)).map tI) (L.map (·.1))
  | [], _ => .nil
  | p :: L, h => .cons (h p (List.mem_cons_self ..)) (RAs.pairs L fun q hq => h q (List.mem_cons_of_mem _ hq))
end
end DL

namespace DL
open PySem PySem.Spec PyProof PyProof.Rows L2
open PySem.W (iter_listW)
noncomputable section
section
variable {prog : Program} {w : World} {A : Around} {E : Value → Shared → Prop} {s : Shared}
end
section
variable {prog : Program} {w : World} {A : Around} {R : Result → Shared → Prop} {I : Addr} {fp wr : List Addr} {G : Array GenState → Array GenState → Prop} {n : Nat} {P : Nat → Value → Prop} {St : Nat → Shared → Prop}
end
section
variable {prog : Program} {w : World} {A : Around} {E : Value → Shared → Prop} {s : Shared}
end
end
end DL

namespace DL
open PySem PySem.Spec PyProof PyProof.Rows L2
noncomputable section
section
variable {K : Frg} {A A2 : Addr → Prop} {H H2 : Hp} {ρ : Ro} {σ : L2.St} {ow ow2 fp : List Addr} {d : D} {v : V}
theorem Own.frame (o : Own K A H (.ow, d) v fp ow) (mu : ∀ a ∈ ow, ∃ u, H a = some u ∧ ¬ Imm u) (ex : ∀ a ∈ fp, ∃ u, H a = some u) (st : Stp H ow A H2 ow2 A2) (nd2 : ow2.Nodup) : Own K A2 H2 (.ow, d) v fp ow2 ∧ KeepF No fp H H2 := by
  obtain ⟨n1, n2, n3⟩ := List.nodup_append.mp o.nd
  have kp : KeepF No fp H H2 := fun a u ea h => st.same a u ea fun z => by
    rcases h with h | h | h
    · exact n3 a h a z rfl
    · exact h
    · obtain ⟨u', e', m⟩ := mu a z
      rw [ea] at e'; cases e'
      exact m h
  refine ⟨⟨R.keep _ _ _ kp (show R K No H d v fp from o.rep), List.nodup_append.mpr ⟨n1, nd2, fun a ha b hb e => ?_⟩, fun a h z => ?_⟩, kp⟩
  · subst e
    rcases st.own a hb with y | y
    · exact n3 a ha a y rfl
    · obtain ⟨u, e⟩ := ex a ha
      rw [y] at e; cases e
  · rcases st.fr a z with y | y | y
    · exact o.dis a h y
    · exact n3 a h a y rfl
    · obtain ⟨u, e⟩ := ex a h
      rw [y] at e; cases e
end
section
variable {X : Cx} {E : XK} {pr : List Nat} {pos : Pos}
end
end
end DL

namespace DL
open PySem PySem.Spec PyProof PyProof.Rows L2
noncomputable section
mutual
def _root_.DL.D.wkD : D → D
  | .tup ds => .tup (D.wkDs ds)
  | .key ns => .tup (ns.map .int)
  | .tpx ns => .tup (ns.map .int)
  | d => d
def _root_.DL.D.wkDs : List D → List D
  | [] => []
  | d :: ds => d.wkD :: D.wkDs ds
end
section
variable {K : Frg} {A B F : Addr → Prop} {H : Hp}
mutual
theorem RA.wkD : ∀ (d : D) (v : V), RA K A H d v → RA K A H d.wkD v
  | .tup ds, _, ⟨p, vs, e, t, r⟩ => ⟨p, vs, e, t, RAs.wkD ds vs r⟩
  | .key ns, _, ⟨p, e, t⟩ => ⟨p, _, e, .inl (.inl t), RAs.of_ints _⟩
  | .tpx ns, _, ⟨p, o, e, t, _⟩ => ⟨p, _, e, .inl (.inr ⟨o, t⟩), RAs.of_ints _⟩
  | .non, _, h => h
  | .bl _, _, h => h
  | .int _, _, h => h
  | .str _, _, h => h
  | .lst _, _, h => h
  | .kst _, _, h => h
  | .dcT _ _, _, h => h
  | .dcK _ _, _, h => h
  | .obj _ _ _, _, h => h
  | .frz _, _, h => h
  | .fn _, _, h => h
  | .ad _, _, h => h
  | .lsA _ _, _, h => h
  | .exn _, _, h => h
  | .lkT _, _, h => h
  | .any, _, h => h
theorem RAs.wkD : ∀ (ds : List D) (vs : List V), RAs K A H ds vs → RAs K A H (D.wkDs ds) vs
  | [], _, h => h
  | d :: ds, _, ⟨w, ws, e, h, t⟩ => ⟨w, ws, e, RA.wkD d w h, RAs.wkD ds ws t⟩
end
end
section
variable {X : Cx} {pos : Pos}
end
abbrev NK := Int × List Int
abbrev nkD (x : NK) : D := .tup [.int x.1, .key x.2]
abbrev nkP (x : NK) : PyData := .tuple [.int x.1, pI x.2]
theorem RA.nk {K : Frg} {A : Addr → Prop} {H : Hp} {x : NK} {v : V} (h : RA K A H (nkD x) v) : Dp K H v (nkP x) ∧ RA K No H (nkD x) v := by
  have h2 : RA K No H (nkD x) v := RA.imm_no _ _ h rfl
  exact ⟨RA.dp (nkD x) v h (by
    show (PyData.canLay0 (.tuple [.int x.1, .tuple (x.2.map .int)])) = true
    have := (pints_ok x.2).1
    simp only [PyData.canLay0, PyData.canLayAll0, this]; rfl), h2⟩
theorem RAs.nk {K : Frg} {A : Addr → Prop} {H : Hp} : ∀ {ps : List NK} {us : List V}, RAs K A H (ps.map nkD) us → DpAll K H us (ps.map nkP) ∧ ∀ p ∈ us.zip ps, RA K No H (nkD p.2) p.1
  | [], _, h => by rw [show _ = [] from h]; exact ⟨.nil, fun p hp => nomatch hp⟩
  | x :: ps, _, ⟨w, ws, e, h, t⟩ => by
    subst e
    obtain ⟨t1, t2⟩ := RAs.nk t
    refine ⟨.cons h.nk.1 t1, fun p hp => ?_⟩
    rw [List.zip_cons_cons] at hp
    rcases List.mem_cons.mp hp with rfl | hp
    · exact h.nk.2
    · exact t2 p hp
def oInT (neg : Bool) (y x : KD) (P : KD → Prop) : Prop := ∃ kvs ns, isT x.2 kvs ∧ y.2 = .key ns ∧ P (.fl, .bl (if neg then !(look kvs ns).isSome else (look kvs ns).isSome))
@[irreducible] def xInT (neg : Bool) (y x : KD) (P : KD → Prop) : Prop := hid (oInT neg y x P)
section
variable {X : Cx} {pos : Pos} {o k : Expr} {fo fk : PF}
end
end
end DL

namespace DL
open PySem PySem.Spec PyProof PyProof.Rows L2
noncomputable section
def seT (ks : List (List Int)) : List (List Key × V) := ks.map fun k => (lowK k, V.bl true)
def seD (ks : List (List Int)) : D := .dcT (ks.map lowK) (ks.map fun _ => .bl true)
def putS (ks : List (List Int)) (k : List Int) : List (List Int) := if k ∈ ks then ks else ks ++ [k]
theorem se_eq {ks : List (List Int)} : ∀ {kv2 : List (List Key × V)}, kv2.map (·.1) = ks.map lowK → kv2.map (·.2) = (ks.map fun _ => V.bl true) → kv2 = seT ks := by
  induction ks with
  | nil => intro kv2 h _; exact List.map_eq_nil_iff.mp h
  | cons x ks ih =>
    intro kv2 h1 h2
    cases kv2 with
    | nil => cases h1
    | cons y r =>
      obtain ⟨a, b⟩ := y
      rw [List.map_cons, List.map_cons] at h1 h2
      have a1 := (List.cons.inj h1).1
      have a2 := (List.cons.inj h2).1
      dsimp only at a1 a2
      rw [ih (List.cons.inj h1).2 (List.cons.inj h2).2, a1, a2]; rfl
section
variable {K : Frg} {A B F : Addr → Prop} {H : Hp} {ks : List (List Int)} {v : V} {fp : List Addr}
theorem RAs.truev : ∀ {ks : List (List Int)} {vs : List V}, RAs K A H (ks.map fun _ => .bl true) vs → vs = ks.map fun _ => V.bl true
  | [], _, h => h
  | x :: ks, _, ⟨w, ws, e, h, t⟩ => by
    have e1 : w = V.bl true := h
    rw [e, e1, RAs.truev (ks := ks) t]; rfl
theorem RAs.of_truev : ∀ {ks : List (List Int)}, RAs K A H (ks.map fun _ => .bl true) (ks.map fun _ => V.bl true)
  | [] => rfl
  | x :: ks => ⟨_, _, rfl, rfl, RAs.of_truev (ks := ks)⟩
theorem RA.se (h : RA K A H (seD ks) v) : ∃ p, v = .ref p ∧ A p ∧ Rd H p (.dT (seT ks)) := by
  obtain ⟨p, k2, e, a, t, e1, r⟩ := h
  refine ⟨p, e, a, ?_⟩
  rw [← se_eq e1 (RAs.truev r)]; exact t
theorem R.se (h : R K A H (seD ks) v fp) : ∃ p, v = .ref p ∧ fp = [p] ∧ H p = some (.dT (seT ks)) := by
  obtain ⟨p, k2, fps, e, e2, t, e1, r⟩ := h
  have z : RAs K (fun _ => True) H (ks.map fun _ => .bl true) (k2.map (·.2)) := Rs.ra (fun _ _ => trivial) _ _ _ (fun _ _ => trivial) r
  have e3 : fps = [] := Rs.nil0 (K := K) (A := A) (H := H) (H' := H) _ fps ⟨_, RAs.of_truev⟩ ⟨_, r⟩
  subst e3
  exact ⟨p, e, e2, by rw [← se_eq e1 (RAs.truev z)]; exact t⟩
end
section
variable {X : Cx} {pos : Pos}
def oInSe (neg : Bool) (y x : KD) (P : KD → Prop) : Prop := ∃ ks ns, x.2 = seD ks ∧ y.2 = .key ns ∧ P (.fl, .bl (if neg then !decide (ns ∈ ks) else decide (ns ∈ ks)))
@[irreducible] def xInSe (neg : Bool) (y x : KD) (P : KD → Prop) : Prop := hid (oInSe neg y x P)
end
def oPutS (e : D) (y z : KD) (P : D → Prop) : Prop := ∃ ks ns, e = seD ks ∧ y.2 = .key ns ∧ z.2 = .bl true ∧ ks.length < 10000000 ∧ P (seD (putS ks ns))
@[irreducible] def xPutS (e : D) (y z : KD) (P : D → Prop) : Prop := hid (oPutS e y z P)
section
variable {X : Cx} {E : XK} {pr : List Nat} {pos : Pos}
end
end
end DL

namespace DL
open PySem PySem.Spec PyProof PyProof.Rows L2
noncomputable section
def flK (a b c d : Int) : List (Key × V) := mergeK [] [((.inl a : Key), V.int b), (.inl c, V.int d)]
def flD (a b c d : Int) : D := if a = c then .dcK [.inl a] [.int d] else .dcK [.inl a, .inl c] [.int b, .int d]
theorem flK_eq (a b c d : Int) : flK a b c d = if a = c then [(.inl a, V.int d)] else [(.inl a, V.int b), (.inl c, V.int d)] := by
  show putK (putK [] _ _) _ _ = _
  have e2 : putK ([] : List (Key × V)) (.inl a) (V.int b) = [(.inl a, V.int b)] := rfl
  rw [e2]
  unfold putK
  by_cases h : a = c
  · subst h; simp
  · rw [if_neg h, if_neg (by simp [h])]; rfl
section
variable {K : Frg} {A B F : Addr → Prop} {H : Hp}
theorem pair_ext {α β : Type} : ∀ {l m : List (α × β)}, l.map (·.1) = m.map (·.1) → l.map (·.2) = m.map (·.2) → l = m
  | [], [], _, _ => rfl
  | [], _ :: _, h, _ => nomatch h
  | _ :: _, [], h, _ => nomatch h
  | (a, b) :: l, (c, d) :: m, h, h' => by
    rw [List.map_cons, List.map_cons] at h h'
    have e1 := (List.cons.inj h).1
    have e2 := (List.cons.inj h').1
    dsimp only at e1 e2
    rw [e1, e2, pair_ext (List.cons.inj h).2 (List.cons.inj h').2]
theorem RA.fl {a b c d : Int} {v : V} (h : RA K A H (flD a b c d) v) : ∃ p, v = .ref p ∧ Rd H p (.dK (flK a b c d)) := by
  rw [flK_eq]
  unfold flD at h
  by_cases e : a = c
  · rw [if_pos e] at h ⊢
    obtain ⟨p, kvs, e1, _, t, e2, r⟩ := h
    have e3 := RAs.ints (ns := [d]) r
    have e4 : kvs = [((.inl a : Key), V.int d)] := pair_ext e2 e3
    exact ⟨p, e1, e4 ▸ t⟩
  · rw [if_neg e] at h ⊢
    obtain ⟨p, kvs, e1, _, t, e2, r⟩ := h
    have e3 := RAs.ints (ns := [b, d]) r
    have e4 : kvs = [((.inl a : Key), V.int b), (.inl c, V.int d)] := pair_ext e2 e3
    exact ⟨p, e1, e4 ▸ t⟩
end
def oGetFl (x : KD) (P : Int → Int → Int → Int → Prop) : Prop := ∃ a b c d, x.2 = flD a b c d ∧ P a b c d
@[irreducible] def xGetFl (x : KD) (P : Int → Int → Int → Int → Prop) : Prop := hid (oGetFl x P)
section
variable {X : Cx} {a b c d k x o : Expr} {fa fb fc fd fk fx fo : PF} {dp apos cpos : Pos}
end
end
end DL

namespace PySem.W
open PySem PySem.Calls PyProof.Rows PySem.Spec PyProof
section
variable {M : Model} {A : Around} {s : Shared}
end
section
variable {prog : Program} {w : World} {A : Around} {E : Value → Shared → Prop} {s : Shared}
end
end PySem.W

namespace PySem.W
open PySem PySem.Calls PyProof.Rows PyProof.V PySem.Spec
section
variable {prog : Program} {w : World} {K : Type} [DecidableEq K] {knd : HeapKind prog w K} {A : Around} {E : Value → Shared → Prop} {s : Shared}
inductive HitsH {K : Type} [DecidableEq K] (prog : Program) (w : World) (A : Around) (s : Shared) (kb : List (K × Addr × Value)) : List (K × Addr × Value) → Bool → Prop
  | nil : HitsH prog w A s kb [] true
  | miss {k : K} {v : Addr × Value} {r : List (K × Addr × Value)} : atKey kb k = none → HitsH prog w A s kb ((k, v) :: r) false
  | hit {k : K} {v y : Addr × Value} {r : List (K × Addr × Value)} {e b : Bool} : atKey kb k = some y → SeqAt.EqP prog w A s v.2 y.2 e → HitsH prog w A s kb r b → HitsH prog w A s kb ((k, v) :: r) (e && b)
end
end PySem.W
namespace DL
open PySem PySem.Spec PyProof PyProof.Rows L2
section
variable {prog : Program} {w : World} {A : Around} {s : Shared} {H : Hp}
end
section
variable {X : Cx}
end
end DL

namespace PySem.W
open PySem PySem.Calls PyProof.Rows PySem.Spec PyProof
section
variable {prog : Program} {w : World} {A : Around} {E : Value → Shared → Prop} {s : Shared} {β : Type}
end
end PySem.W
namespace DL
open PySem PySem.Spec PyProof PyProof.Rows L2
open PySem.W (EachIs)
noncomputable section
end
end DL

namespace PySem.W
open PySem PySem.Calls PyProof.Rows PySem.Spec PyProof
section
variable {prog : Program} {w : World} {K : Type} [DecidableEq K] {knd : HeapKind prog w K} {A : Around} {E : Value → Shared → Prop} {s : Shared}
end
end PySem.W
namespace DL
open PySem PySem.Spec PyProof PyProof.Rows L2
open PySem.W (EachIs)
noncomputable section
section
variable {X : Cx}
end
end
end DL

namespace DL
open PySem PySem.Spec PyProof PyProof.Rows L2
noncomputable section
def eMakeX (C : Str) (c : CF) (g : AEF) : EF := fun ρ P PX => g ρ (fun avs ρ1 => ∃ zs : List KD, avs = zs.map .v ∧ c ((.ow, .obj C [] []) :: zs) (fun z ys => z = (.fl, .non) ∧ match ys with | [y] => P y ρ1 | _ => False) (fun C' _ => PX C' ρ1)) PX
theorem emake_coreX {K : Frg} {E : XK} {A0 A1 : Addr → Prop} {H0 H1 : Hp} {ow0 ow1 fp : List Addr} {ρ1 : Ro} {σ : L2.St} {C : Str} {c : CF} {zs : List KD} {vs : List V} {n : Nat} {x dx : Addr} {Q : VK} {P : KD → Ro → Prop} {PX : Str → Ro → Prop} {ms : List Bool} (st : Stp H0 ow0 A0 H1 (fp ++ ow1) A1) (g : Good K A1 H1 ρ1 σ ow1) (r : VRs K A1 H1 zs vs fp) (nd : (fp ++ ow1).Nodup) (dis : ∀ a ∈ fp, ¬ A1 a) (hl : vs.length = n) (hm : ms.all (!·) = true)
    (hx : H1 x = none) (hdx : H1 dx = none) (hne : dx ≠ x)
    (hc : c ((.ow, .obj C [] []) :: zs) (fun z ys => z = (.fl, .non) ∧ match ys with | [y] => P y ρ1 | _ => False) (fun C _ => PX C ρ1))
    (qx : ∀ C ρ' H' ow' A', PX C ρ' → Stp H0 ow0 A0 H' ow' A' → Good K A' H' ρ' σ ow' → E (.ref (He.ga K C)) none H')
    (q : ∀ z ρ' v H' fp ow' A', P z ρ' → Stp H0 ow0 A0 H' (fp ++ ow') A' → Good K A' H' ρ' σ ow' → Own K A' H' z v fp ow' → Q v H') :
    spOf K (n + 1) (true :: ms) c (.ref x :: vs) (upd (upd H1 dx (.own x)) x (.ins (He.ga K C) dx [])) (fun v H2 => v = .non ∧ Q (.ref x) H2) E := by
  have sm : Same H1 (upd (upd H1 dx (.own x)) x (.ins (He.ga K C) dx [])) := fun a o e => by
    rw [upd_ne (fun z => by rw [z, hx] at e; cases e), upd_ne (fun z => by rw [z, hdx] at e; cases e)]
    exact e
  have xfp : x ∉ fp := fun z => by
    obtain ⟨o, e, _⟩ := r.mu x z
    rw [hx] at e; cases e
  have n1 := (List.nodup_append.mp nd).1
  have n2 := (List.nodup_append.mp nd).2.1
  have n3 := (List.nodup_append.mp nd).2.2
  refine ⟨by rw [List.length_cons, hl], (.ow, .obj C [] []) :: zs, A1, x :: fp, _, _, ⟨.ref x, vs, [x], fp, rfl, rfl, (show R K No _ (.obj C [] []) (.ref x) [x] from ⟨x, dx, [], [], rfl, rfl, upd_same, rfl, Rs.nil⟩), VRs.same' sm r⟩, List.nodup_cons.mpr ⟨xfp, n1⟩, fun a h z => ?_, fun a h => ?_, hc, fun z ys v H' fp' M' A' hz rt rv => ?_, fun C' ys H' M' A' hX rt => ?_⟩
  · rcases List.mem_cons.mp h with h | h
    · subst h
      obtain ⟨o, e⟩ := g.tr _ z
      rw [hx] at e; cases e
    · exact dis a h z
  · obtain ⟨o, e⟩ := g.tr a h
    exact ⟨o, sm a o e⟩
  · obtain ⟨ez, hz⟩ := hz
    subst ez
    obtain ⟨rfl, rv⟩ := rv
    refine ⟨rv, ?_⟩
    match ys, hz, rt with
    | [y], hz, rt =>
      have hsel : sel (true :: ms) (V.ref x :: vs) = [V.ref x] := by
        show V.ref x :: sel ms vs = _
        rw [sel_none hm]
      have rm := rt.muts
      rw [hsel] at rm
      obtain ⟨w, ws, f1, f2, e1, e2, rw1, e3, e4⟩ := rm
      cases e1
      subst e4
      have e2 : M' = f1 := by rw [e2, List.append_nil]
      subst e2
      have trk : ∀ a, a ∈ ow1 → ∃ o, H1 a = some o := fun a h => let ⟨o, e, _⟩ := g.rep.mu a h; ⟨o, e⟩
      have xow : x ∉ ow1 := fun z => by
        obtain ⟨o, e⟩ := trk x z
        rw [hx] at e; cases e
      have same' : ∀ a o, H1 a = some o → a ∉ fp → H' a = some o := fun a o e n => rt.stp.same a o (sm a o e) fun z => by
        rcases List.mem_cons.mp z with z | z
        · subst z; rw [hx] at e; cases e
        · exact n z
      have keep : KeepF A1 ow1 H1 H' := fun a o e h => same' a o e fun z => by
        rcases h with h | h | h
        · exact n3 a z a h rfl
        · exact dis a z h
        · obtain ⟨u, e', m⟩ := r.mu a z
          rw [e] at e'; cases e'
          exact m.notImm h
      have hn : ∀ a, (upd (upd H1 dx (.own x)) x (.ins (He.ga K C) dx [])) a = none → H1 a = none := fun a h => by
        cases e : H1 a with
        | none => rfl
        | some o => rw [sm a o e] at h; cases h
      have disA : ∀ a, a ∈ ow1 → ¬ A' a := fun a h z => by
        rcases rt.stp.fr a z with z | z | z
        · exact g.dis a h z
        · rcases List.mem_cons.mp z with z | z
          · subst z; exact xow h
          · exact n3 a z a h rfl
        · obtain ⟨o, e⟩ := trk a h
          rw [hn a z] at e; cases e
      have g2 : Good K A' H' ρ1 σ ow1 := ⟨(g.rep.keep keep).mono rt.stp.up, g.nd, disA, rt.tr⟩
      have ownM : ∀ a, a ∈ M' → a ∈ fp ∨ H1 a = none := fun a h => by
        rcases rt.stp.own a (by simp [h]) with y | y
        · rcases List.mem_cons.mp y with y | y
          · subst y; exact .inr hx
          · exact .inl y
        · exact .inr (hn a y)
      have ndM : (M' ++ ow1).Nodup := List.nodup_append.mpr ⟨by simpa using rt.nd, n2, fun a ha b hb e => by
        subst e
        rcases ownM a ha with y | y
        · exact n3 a y a hb rfl
        · obtain ⟨o, e⟩ := trk a hb
          rw [y] at e; cases e⟩
      refine q y ρ1 (.ref x) H' M' ow1 A' hz ⟨fun a o e n => ?_, fun a h => ?_, fun a h => rt.stp.up a (st.up a h), fun a h => ?_⟩ g2 ⟨rw1, ndM, fun a h => rt.dis a (by simp [h])⟩
      · refine same' a o (st.same a o e n) fun z => ?_
        rcases st.own a (by simp [z]) with y | y
        · exact n y
        · rw [e] at y; cases y
      · rcases List.mem_append.mp h with h | h
        · rcases ownM a h with y | y
          · exact st.own a (by simp [y])
          · exact st.none y
        · exact st.own a (by simp [h])
      · rcases rt.stp.fr a h with y | y | y
        · exact st.fr a y
        · rcases List.mem_cons.mp y with y | y
          · subst y; exact .inr (st.none hx)
          · exact .inr (st.own a (by simp [y]))
        · exact .inr (st.none (hn a y))
  · have trk : ∀ a, a ∈ ow1 → ∃ o, H1 a = some o := fun a h => let ⟨o, e, _⟩ := g.rep.mu a h; ⟨o, e⟩
    have xow : x ∉ ow1 := fun z => by
      obtain ⟨o, e⟩ := trk x z
      rw [hx] at e; cases e
    have same' : ∀ a o, H1 a = some o → a ∉ fp → H' a = some o := fun a o e n => rt.stp.same a o (sm a o e) fun z => by
      rcases List.mem_cons.mp z with z | z
      · subst z; rw [hx] at e; cases e
      · exact n z
    have keep : KeepF A1 ow1 H1 H' := fun a o e h => same' a o e fun z => by
      rcases h with h | h | h
      · exact n3 a z a h rfl
      · exact dis a z h
      · obtain ⟨u, e', m⟩ := r.mu a z
        rw [e] at e'; cases e'
        exact m.notImm h
    have hn : ∀ a, (upd (upd H1 dx (.own x)) x (.ins (He.ga K C) dx [])) a = none → H1 a = none := fun a h => by
      cases e : H1 a with
      | none => rfl
      | some o => rw [sm a o e] at h; cases h
    have disA : ∀ a, a ∈ ow1 → ¬ A' a := fun a h z => by
      rcases rt.stp.fr a z with z | z | z
      · exact g.dis a h z
      · rcases List.mem_cons.mp z with z | z
        · subst z; exact xow h
        · exact n3 a z a h rfl
      · obtain ⟨o, e⟩ := trk a h
        rw [hn a z] at e; cases e
    have g2 : Good K A' H' ρ1 σ ow1 := ⟨(g.rep.keep keep).mono rt.stp.up, g.nd, disA, rt.tr⟩
    refine qx C' ρ1 H' ow1 A' hX ⟨fun a o e n => ?_, fun a h => st.own a (by simp [h]), fun a h => rt.stp.up a (st.up a h), fun a h => ?_⟩ g2
    · refine same' a o (st.same a o e n) fun z => ?_
      rcases st.own a (by simp [z]) with y | y
      · exact n y
      · rw [e] at y; cases y
    · rcases rt.stp.fr a h with y | y | y
      · exact st.fr a y
      · rcases List.mem_cons.mp y with y | y
        · subst y; exact .inr (st.none hx)
        · exact .inr (st.own a (by simp [y]))
      · exact .inr (st.none (hn a y))
section
variable {X : Cx} {CX : CXT} {E : XK} {k n : Nat} {f : Addr} {ps : List Str} {c : CF} {ms : List Bool} {x : Str} {p pos : Pos} {e : Expr} {es : List Expr} {C : Str} {g : AEF}
theorem de_makeX (M : Mk X.K (He.ga X.K C) f) (F : GOk X.prog X.w X.K X.mg X.base CX k f ps (spOf X.K (n + 1) (true :: ms) c)) (hms : ms.all (!·) = true) (hr : RoomG (k + 1) X.A) (hg : Gl X x) (hm : X.mg x = some (.ref (He.ga X.K C))) (hx : Passes CX X E) (ha : DAE X E (e :: es) n g)
    (hdb : (x == ("__debug__" : Str)) = false := by decide) (he : starEach (e :: es) X.env = (false, eval e X.env) :: starEach es X.env := by rfl) (hpl : (backTo pos (starEach es X.env)).any (·.1) = false := by rfl) :
    DE X E (.Call (.Name x p) (e :: es) [] pos) (eMakeX C c g) := by
  obtain ⟨t, ea, sa⟩ := ha.run
  refine ⟨_, pe_makeG M F hr hg hm hx ea hdb he hpl, fun σ H A ρ ow Q P PX gd h q qx => ?_⟩
  refine sa σ H A ρ ow _ _ _ gd h (fun avs ρ1 vs H1 fp ow1 A1 hn hz st1 g1 r nd dis => ?_) qx
  obtain ⟨zs, ez, hz⟩ := hz
  subst ez
  intro x dx h1 h2 h3
  rw [List.append_nil]
  exact emake_coreX st1 g1 r.vrs nd dis (by rw [r.len, hn]) hms h1 h2 h3 hz qx q
end
end
end DL

namespace DL
open PySem PySem.Spec PyProof PyProof.Rows L2
noncomputable section
theorem VR.key {K : Frg} {A : Addr → Prop} {H : Hp} {kz : Kd} {ns : List Int} {v : V} {f : List Addr} (h : VR K A H (kz, .key ns) v f) : ∃ b, v = .ref b ∧ H b = some (.tup (ns.map V.int)) :=
  (h.ra (B := fun _ => True) (fun _ _ => trivial) (fun _ _ => trivial) : RA K (fun _ => True) H (.key ns) v)
section
variable {X : Cx} {E : XK} {o e : Expr} {es : List Expr} {n : Nat} {name : Str} {apos cpos : Pos} {id : String} {r : V → List V → Hp → VK → Prop} {op : MOF}
variable {pl : PLF} {gp : PAF}
end
end
end DL

namespace DL
open PySem PySem.Spec PyProof PyProof.Rows L2
noncomputable section
section
variable {X : Cx} {E : XK} {pos : Pos}
end
end
end DL

namespace DL
open PySem PySem.Spec PyProof PyProof.Rows L2
open PySem.W (EachIs)
noncomputable section
end
end DL

namespace DL
open PySem PySem.Spec PyProof PyProof.Rows L2
noncomputable section
section
variable {K : Frg} {A B : Addr → Prop} {H H' : Hp}
theorem RepS.snoc : ∀ {ρ : Ro} {σ : L2.St} {ow : List Addr} {s : Sl} {x : Option V} {f : List Addr}, RepS K A H ρ σ ow → Slot K A H s x f → RepS K A H (ρ ++ [s]) (σ ++ [x]) (ow ++ f)
  | [], _, _, s, x, f, h, r => by
    obtain ⟨e1, e2⟩ := h
    subst e1 e2
    exact ⟨x, [], f, [], rfl, (List.append_nil f).symm, r, rfl, rfl⟩
  | t :: ρ, _, _, s, x, f, ⟨y, σ', g1, g2, e, e2, h, h'⟩, r => by
    subst e e2
    exact ⟨y, σ' ++ [x], g1, g2 ++ f, rfl, List.append_assoc .., h, RepS.snoc h' r⟩
theorem RepS.unsnoc : ∀ {ρ : Ro} {σ : L2.St} {ow : List Addr} {s : Sl} {x : Option V}, RepS K A H (ρ ++ [s]) (σ ++ [x]) ow → ∃ f g, ow = f ++ g ∧ RepS K A H ρ σ f ∧ Slot K A H s x g
  | [], σ, ow, s, x, h => by
    obtain ⟨y, σ', f, g, e, e2, h1, h2, h3⟩ := h
    subst h2 h3
    cases σ with
    | nil =>
      cases e
      exact ⟨[], f, by rw [e2, List.append_nil]; rfl, ⟨rfl, rfl⟩, h1⟩
    | cons a b =>
      have := congrArg List.length e
      simp at this
  | t :: ρ, σ, ow, s, x, h => by
    obtain ⟨y, σ', f, g, e, e2, h1, h2⟩ := h
    cases σ with
    | nil =>
      cases e
      have := h2.len
      simp at this
    | cons a b =>
      cases e
      obtain ⟨f', g', e3, h3, h4⟩ := RepS.unsnoc h2
      exact ⟨f ++ f', g', by rw [e2, e3, List.append_assoc], ⟨_, _, f, f', rfl, rfl, h1, h3⟩, h4⟩
theorem AVs.snoc {x : Option V} : ∀ {avs : List AV} {σ : L2.St} {vs : List V} {f : List Addr}, AVs K A H σ avs vs f → AVs K A H (σ ++ [x]) avs vs f
  | [], _, _, _, h => h
  | .v z :: r, _, _, _, ⟨w, ws, f1, f2, e, e2, h, t⟩ => ⟨w, ws, f1, f2, e, e2, h, AVs.snoc t⟩
  | .pl i :: r, σ, _, _, ⟨w, ws, e, h, t⟩ => ⟨w, ws, e, by rw [List.getElem?_append_left (List.getElem?_eq_some_iff.mp h).1]; exact h, AVs.snoc t⟩
def preV (σ : L2.St) : List Nat → List V → Prop
  | [], vs => vs = []
  | j :: r, vs => ∃ v ws, vs = v :: ws ∧ σ[j]? = some (some v) ∧ preV σ r ws
theorem preV.avs {σ : L2.St} {avs : List AV} {ws : List V} {f : List Addr} (t : AVs K A H σ avs ws f) : ∀ {pre : List Nat} {vs : List V}, preV σ pre vs → AVs K A H σ (pre.map .pl ++ avs) (vs ++ ws) f
  | [], _, h => by subst h; exact t
  | j :: r, _, ⟨v, us, e, h, h'⟩ => by subst e; exact ⟨v, us ++ ws, rfl, h, preV.avs t h'⟩
theorem preV.snoc {x : Option V} {σ : L2.St} : ∀ {pre : List Nat} {vs : List V}, preV σ pre vs → preV (σ ++ [x]) pre vs
  | [], _, h => h
  | j :: r, _, ⟨v, us, e, h, h'⟩ => ⟨v, us, e, by rw [List.getElem?_append_left (List.getElem?_eq_some_iff.mp h).1]; exact h, preV.snoc h'⟩
end
def isOb : D → Bool
  | .obj _ _ _ => true
  | .lst _ => true
  | .dcT _ _ => true
  | .dcK _ _ => true
  | _ => false
theorem isOb_full {K : Frg} {H : Hp} : ∀ {e : D} {w : V} {fe : List Addr}, R K No H e w fe → isOb e = true → fe ≠ []
  | .obj _ _ _, _, _, ⟨_, _, _, _, _, e, _⟩, _ => by rw [e]; exact fun z => nomatch z
  | .lst _, _, _, ⟨_, _, _, _, e, _⟩, _ => by rw [e]; exact fun z => nomatch z
  | .dcT _ _, _, _, ⟨_, _, _, _, e, _⟩, _ => by rw [e]; exact fun z => nomatch z
  | .dcK _ _, _, _, ⟨_, _, _, _, e, _⟩, _ => by rw [e]; exact fun z => nomatch z
  | .non, _, _, _, l => nomatch l
  | .bl _, _, _, _, l => nomatch l
  | .int _, _, _, _, l => nomatch l
  | .str _, _, _, _, l => nomatch l
  | .tup _, _, _, _, l => nomatch l
  | .kst _, _, _, _, l => nomatch l
  | .frz _, _, _, _, l => nomatch l
  | .fn _, _, _, _, l => nomatch l
  | .ad _, _, _, _, l => nomatch l
  | .lsA _ _, _, _, _, l => nomatch l
  | .key _, _, _, _, l => nomatch l
  | .tpx _, _, _, _, l => nomatch l
  | .exn _, _, _, _, l => nomatch l
  | .lkT _, _, _, _, l => nomatch l
  | .any, _, _, _, l => nomatch l
theorem hold_out {K : Frg} {A : Addr → Prop} {H : Hp} {ρ : Ro} {σ : L2.St} {ow : List Addr} {i : Nat} {k : Kd} {e : D} {rb : D → D} {w : V} (g : Good K A H ρ σ ow) (p : PlAt K A H ρ σ ow i k e rb w) (ho : isOb e = true) :
    ∃ v0 f1 fe f2 ow1, σ[i]? = some (some v0) ∧ R K No H e w fe ∧ Good K A H (ρ.set i (some (.fl, .any))) σ ow1 ∧ (∀ a ∈ ow1, a ∈ ow) ∧ (∀ a, a ∈ f1 ++ (fe ++ f2) → a ∈ ow ∧ a ∉ ow1) ∧ (f1 ++ (fe ++ f2)).Nodup ∧
      ∀ (H' : Hp) (e' : D) (fe' : List Addr), KeepF No (f1 ++ f2) H H' → R K No H' e' w fe' → R K No H' (rb e') v0 (f1 ++ (fe' ++ f2)) := by
  obtain ⟨d, v0, g1, fs, g2, fe, e1, e2, ⟨f1, f2, ef, r, reb⟩, hs, put⟩ := p
  subst e1 ef
  have whole := reb H No e fe (fun _ h => h) (KeepF.of_same (Same.refl H)) r
  have hw : v0 ≠ .non := R.full whole fun z => isOb_full r ho (by
    have := (List.append_eq_nil_iff.mp z).2
    exact (List.append_eq_nil_iff.mp this).1)
  have rep := put H A (.fl, .any) [] (fun _ h => h) (KeepF.of_same (Same.refl H)) ⟨rfl, hw⟩
  obtain ⟨n1, n2, n3⟩ := List.nodup_append.mp g.nd
  obtain ⟨m1, m2, m3⟩ := List.nodup_append.mp n2
  refine ⟨v0, f1, fe, f2, g1 ++ ([] ++ g2), e2, r, ⟨rep, List.nodup_append.mpr ⟨n1, m2, fun a ha b hb => n3 a ha b (by simp at hb; simp [hb])⟩, fun a h => g.dis a (by simp at h; rcases h with h | h <;> simp [h]), g.tr⟩, fun a h => by simp at h; rcases h with h | h <;> simp [h], fun a h => ⟨by simp at h; rcases h with h | h | h <;> simp [h], fun z => ?_⟩, m1, fun H' e' fe' kp re => reb H' No e' fe' (fun _ h => h) kp re⟩
  simp only [List.nil_append] at z
  rcases List.mem_append.mp z with z | z
  · exact n3 a z a (by simp only [List.mem_append] at h ⊢; exact .inl h) rfl
  · exact m3 a h a z rfl
def hBack (i : Nat) (rb : D → D) (ρ : Ro) (P : Ro → Prop) : Prop := match ρ.getLast? with
  | some (some (.ow, e')) => P (ρ.dropLast.set i (some (.ow, rb e')))
  | _ => False
def eHold (ms : List Bool) (c : CF) (pre : List Nat) (pl : PLF) (post : AEF) : EF := fun ρ P PX => pl ρ fun i _ e rb => isOb e = true ∧ post (ρ.set i (some (.fl, .any))) (fun avs ρ1 =>
    match grab (pre.map .pl ++ (.pl ρ1.length :: avs)) (ρ1 ++ [some (.ow, e)]) with
    | some (zs, ρ2) => c zs (fun z ys => match putB ms (pre.map .pl ++ (.pl ρ1.length :: avs)) ys ρ2 with | some ρ3 => hBack i rb ρ3 (P z) | none => False) (fun C ys => match putB ms (pre.map .pl ++ (.pl ρ1.length :: avs)) ys ρ2 with | some ρ3 => hBack i rb ρ3 (PX C) | none => False)
    | none => False) (fun C ρ1 => PX C (ρ1.set i (some (.ow, rb e))))
theorem hold_call {K : Frg} {E : XK} {m n : Nat} {ms : List Bool} {c : CF} {pre : List Nat} {post : AEF} {t : TA} {A : Addr → Prop} {H H1 : Hp} {ρ : Ro} {σ : L2.St} {ow : List Addr} {i : Nat} {k : Kd} {e : D} {rb : D → D} {w : V} {pv : List V} {Q : VK} {P : KD → Ro → Prop} {PX : Str → Ro → Prop}
    (sa : AESound K E m t post) (gd : Good K A H ρ σ ow) (s1 : Same H H1) (p1 : PlAt K A H1 ρ σ ow i k e rb w) (hpv : preV σ pre pv) (hn : n = pv.length + (m + 1)) (ho : isOb e = true)
    (h1 : post (ρ.set i (some (.fl, .any))) (fun avs ρ1 =>
      match grab (pre.map .pl ++ (.pl ρ1.length :: avs)) (ρ1 ++ [some (.ow, e)]) with
      | some (zs, ρ2) => c zs (fun z ys => match putB ms (pre.map .pl ++ (.pl ρ1.length :: avs)) ys ρ2 with | some ρ3 => hBack i rb ρ3 (P z) | none => False) (fun C ys => match putB ms (pre.map .pl ++ (.pl ρ1.length :: avs)) ys ρ2 with | some ρ3 => hBack i rb ρ3 (PX C) | none => False)
      | none => False) (fun C ρ1 => PX C (ρ1.set i (some (.ow, rb e)))))
    (q : ∀ z ρ' v H' fp ow' A', P z ρ' → Stp H ow A H' (fp ++ ow') A' → Good K A' H' ρ' σ ow' → Own K A' H' z v fp ow' → Q v H')
    (qx : ∀ C ρ' H' ow' A', PX C ρ' → Stp H ow A H' ow' A' → Good K A' H' ρ' σ ow' → E (.ref (He.ga K C)) none H') :
    t σ H1 fun vs H2 => spOf K n ms c (pv ++ w :: vs) H2 Q E := by
  have g1 := gd.same s1
  obtain ⟨v0, f1, fe, f2, ow1, hv0, re, g2, sub1, fin, fnd, reb⟩ := hold_out g1 p1 ho
  have trk : ∀ a ∈ f1 ++ (fe ++ f2), ∃ o, H1 a = some o ∧ Mu o := fun a h => g1.rep.mu a (fin a h).1
  have nA : ∀ a ∈ f1 ++ (fe ++ f2), ¬ A a := fun a h => g1.dis a (fin a h).1
  obtain ⟨m1, m2, m3⟩ := List.nodup_append.mp fnd
  obtain ⟨k1, k2, k3⟩ := List.nodup_append.mp m2
  -- back at the place
  have back : ∀ {H' : Hp} {A' : Addr → Prop} {ρ' : Ro} {ow' fz : List Addr} {e' : D} {fe' : List Addr}, Stp H1 (ow1 ++ fe) A H' (fz ++ (ow' ++ fe')) A' → Good K A' H' ρ' σ ow' → R K No H' e' w fe' → (fz ++ (ow' ++ fe')).Nodup → (∀ a ∈ fz ++ (ow' ++ fe'), ¬ A' a) →
      ∃ owF, Good K A' H' (ρ'.set i (some (.ow, rb e'))) σ owF ∧ Stp H ow A H' (fz ++ owF) A' ∧ (fz ++ owF).Nodup := fun {H' A' ρ' ow' fz e' fe'} st g' re' nd' dis' => by
    have off : ∀ a, a ∈ f1 ∨ a ∈ f2 → a ∉ ow1 ++ fe ∧ a ∈ f1 ++ (fe ++ f2) := fun a h => by
      have hin : a ∈ f1 ++ (fe ++ f2) := by rcases h with h | h <;> simp [h]
      refine ⟨fun z => ?_, hin⟩
      rcases List.mem_append.mp z with z | z
      · exact (fin a hin).2 z
      · rcases h with h | h
        · exact m3 a h a (by simp [z]) rfl
        · exact k3 a z a h rfl
    have kp : KeepF No (f1 ++ f2) H1 H' := fun a o ea h => st.same a o ea fun z => by
      rcases h with h | h | h
      · exact (off a (by simpa using h)).1 z
      · exact h
      · have : ∃ u, H1 a = some u ∧ Mu u := by
          rcases List.mem_append.mp z with z | z
          · exact g2.rep.mu a z
          · exact trk a (by simp [z])
        obtain ⟨u, e', m⟩ := this
        rw [ea] at e'; cases e'
        exact m.notImm h
    have rw' := reb H' e' fe' kp re'
    have far : ∀ a, a ∈ f1 ∨ a ∈ f2 → a ∉ fz ++ (ow' ++ fe') := fun a h z => by
      obtain ⟨o1, o2⟩ := off a h
      rcases st.own a z with y | y
      · exact o1 y
      · obtain ⟨o, e, _⟩ := trk a o2
        rw [y] at e; cases e
    have farA : ∀ a, a ∈ f1 ∨ a ∈ f2 → ¬ A' a := fun a h z => by
      obtain ⟨o1, o2⟩ := off a h
      rcases st.fr a z with y | y | y
      · exact nA a o2 y
      · exact o1 y
      · obtain ⟨o, e, _⟩ := trk a o2
        rw [y] at e; cases e
    obtain ⟨a1, a2, a3⟩ := List.nodup_append.mp nd'
    obtain ⟨b1, b2, b3⟩ := List.nodup_append.mp a2
    have o : Own K A' H' (.ow, rb e') v0 (f1 ++ (fe' ++ f2)) ow' := by
      refine ⟨rw', List.nodup_append.mpr ⟨List.nodup_append.mpr ⟨m1, List.nodup_append.mpr ⟨b2, k2, fun a ha b hb e => ?_⟩, fun a ha b hb e => ?_⟩, b1, fun a ha b hb e => ?_⟩, fun a ha z => ?_⟩
      · subst e; exact far a (.inr hb) (by simp [ha])
      · subst e
        rcases List.mem_append.mp hb with hb | hb
        · exact far a (.inl ha) (by simp [hb])
        · exact m3 a ha a (by simp [hb]) rfl
      · subst e
        simp only [List.mem_append] at ha
        rcases ha with ha | ha | ha
        · exact far a (.inl ha) (by simp [hb])
        · exact b3 a hb a ha rfl
        · exact far a (.inr ha) (by simp [hb])
      · simp only [List.mem_append] at ha
        rcases ha with ha | ha | ha
        · exact farA a (.inl ha) z
        · exact dis' a (by simp [ha]) z
        · exact farA a (.inr ha) z
    obtain ⟨owF, gF, subF⟩ := g'.put (i := i) o
    rw [set_same hv0] at gF
    have memF : ∀ a ∈ owF, a ∈ ow' ++ fe' ∨ a ∈ f1 ∨ a ∈ f2 := fun a h => by
      rcases subF a h with z | z
      · exact .inl (by simp [z])
      · simp only [List.mem_append] at z
        rcases z with z | z | z
        · exact .inr (.inl z)
        · exact .inl (by simp [z])
        · exact .inr (.inr z)
    refine ⟨owF, gF, ⟨fun a o ea hna => st.same a o (s1 a o ea) fun z => hna ?_, fun a h => ?_, st.up, fun a h => ?_⟩, List.nodup_append.mpr ⟨a1, gF.nd, fun a ha b hb e => ?_⟩⟩
    · rcases List.mem_append.mp z with z | z
      · exact sub1 a z
      · exact (fin a (by simp [z])).1
    · have key : a ∈ fz ++ (ow' ++ fe') ∨ a ∈ f1 ∨ a ∈ f2 := by
        rcases List.mem_append.mp h with h | h
        · exact .inl (by simp [h])
        · rcases memF a h with y | y
          · exact .inl (by simp only [List.mem_append] at y ⊢; exact .inr y)
          · exact .inr y
      rcases key with y | y
      · rcases st.own a y with y | y
        · rcases List.mem_append.mp y with y | y
          · exact .inl (sub1 a y)
          · exact .inl (fin a (by simp [y])).1
        · exact .inr (s1.fre a y)
      · exact .inl (fin a (off a y).2).1
    · rcases st.fr a h with y | y | y
      · exact .inl y
      · rcases List.mem_append.mp y with y | y
        · exact .inr (.inl (sub1 a y))
        · exact .inr (.inl (fin a (by simp [y])).1)
      · exact .inr (.inr (s1.fre a y))
    · subst e
      rcases memF a hb with y | y
      · exact a3 a ha a y rfl
      · exact far a y (by simp [ha])
  have ndow : (ow1 ++ fe).Nodup := List.nodup_append.mpr ⟨g2.nd, k1, fun a ha b hb e => by subst e; exact (fin a (by simp [hb])).2 ha⟩
  -- what holds behind the others' effects
  have frame : ∀ {H2 : Hp} {A2 : Addr → Prop} {fp ow2 : List Addr} {ρ1 : Ro}, Stp H1 ow1 A H2 (fp ++ ow2) A2 → Good K A2 H2 ρ1 σ ow2 → (fp ++ ow2).Nodup → (∀ a ∈ fp, ¬ A2 a) →
      R K No H2 e w fe ∧ Stp H1 (ow1 ++ fe) A H2 (fp ++ (ow2 ++ fe)) A2 ∧ (fp ++ (ow2 ++ fe)).Nodup ∧ (∀ a ∈ fp ++ (ow2 ++ fe), ¬ A2 a) := fun {H2 A2 fp ow2 ρ1} st g3 nd dis => by
    have kp : KeepF No fe H1 H2 := fun a o ea h => st.same a o ea fun z => by
      rcases h with h | h | h
      · exact (fin a (by simp [h])).2 z
      · exact h
      · obtain ⟨u, e', m⟩ := g2.rep.mu a z
        rw [ea] at e'; cases e'
        exact m.notImm h
    have far : ∀ a ∈ fe, a ∉ fp ++ ow2 := fun a h z => by
      rcases st.own a z with y | y
      · exact (fin a (by simp [h])).2 y
      · obtain ⟨o, e, _⟩ := trk a (by simp [h])
        rw [y] at e; cases e
    obtain ⟨a1, a2, a3⟩ := List.nodup_append.mp nd
    refine ⟨R.keep _ _ _ kp re, ⟨fun a o ea hna => st.same a o ea fun z => hna (by simp [z]), fun a h => ?_, st.up, fun a h => ?_⟩, List.nodup_append.mpr ⟨a1, List.nodup_append.mpr ⟨a2, k1, fun a ha b hb e => ?_⟩, fun a ha b hb e => ?_⟩, fun a h z => ?_⟩
    · simp only [List.mem_append] at h
      rcases h with h | h | h
      · exact (st.own a (by simp [h])).imp (fun z => by simp [z]) id
      · exact (st.own a (by simp [h])).imp (fun z => by simp [z]) id
      · exact .inl (by simp [h])
    · exact (st.fr a h).imp id fun y => y.imp (fun z => by simp [z]) id
    · subst e; exact far a hb (by simp [ha])
    · subst e
      rcases List.mem_append.mp hb with hb | hb
      · exact a3 a ha a hb rfl
      · exact far a hb (by simp [ha])
    · simp only [List.mem_append] at h
      rcases h with h | h | h
      · exact dis a h z
      · exact g3.dis a h z
      · rcases st.fr a z with y | y | y
        · exact nA a (by simp [h]) y
        · exact (fin a (by simp [h])).2 y
        · obtain ⟨o, e, _⟩ := trk a (by simp [h])
          rw [y] at e; cases e
  refine sa σ H1 A _ ow1 _ _ _ g2 h1 (fun avs ρ1 vs H2 fp ow2 A2 hl hz st2 g3 r nd dis => ?_) fun C ρ1 H2 ow2 A2 hX st2 g3 => ?_
  · obtain ⟨re2, st3, nd3, dis3⟩ := frame st2 g3 nd dis
    have lσ : σ.length = ρ1.length := g3.rep.len
    have gg : Good K A2 H2 (ρ1 ++ [some (.ow, e)]) (σ ++ [some w]) (ow2 ++ fe) := ⟨g3.rep.snoc ⟨w, rfl, re2⟩, (List.nodup_append.mp nd3).2.1, fun a h => dis3 a (by simp only [List.mem_append] at h ⊢; exact .inr h), g3.tr⟩
    have ra : AVs K A2 H2 (σ ++ [some w]) (pre.map .pl ++ (.pl ρ1.length :: avs)) (pv ++ (w :: vs)) fp := preV.avs (avs := .pl ρ1.length :: avs) (ws := w :: vs) ⟨w, vs, rfl, by rw [← lσ]; simp, r.snoc⟩ hpv.snoc
    split at hz
    · rename_i zs ρ2 e1
      refine efn_core (σ := σ ++ [some w]) (P := fun z ρ3 => hBack i rb ρ3 (P z)) (PX := fun C ρ3 => hBack i rb ρ3 (PX C)) e1 st3 gg ra nd3 (fun a h => dis3 a (by simp [h])) (by rw [List.length_append, List.length_cons, r.len, hl, hn]) hz (fun z ρ' v H' fz ow' A' hP st g' o => ?_) fun C ρ' H' ow' A' hP st g' => ?_
      · unfold hBack at hP
        split at hP
        · rename_i e' eL
          have eρ : ρ' = ρ'.dropLast ++ [some (.ow, e')] := by
            have hne : ρ' ≠ [] := fun z => by rw [z] at eL; cases eL
            have := List.dropLast_concat_getLast hne
            rw [List.getLast?_eq_some_getLast hne] at eL
            rw [← Option.some.inj eL]
            exact this.symm
          have g'' := g'.rep
          rw [eρ] at g''
          obtain ⟨f, fe', eo, rr, w', ew, re'⟩ := g''.unsnoc
          cases ew
          subst eo
          have nda := o.nd
          have disa : ∀ a ∈ fz ++ (f ++ fe'), ¬ A' a := fun a h => by
            rcases List.mem_append.mp h with h | h
            · exact o.dis a h
            · exact g'.dis a h
          obtain ⟨owF, gF, stF, ndF⟩ := back st ⟨rr, (List.nodup_append.mp (List.nodup_append.mp nda).2.1).1, fun a h => g'.dis a (by simp [h]), g'.tr⟩ re' nda disa
          exact q z _ v H' fz owF A' hP stF gF ⟨o.rep, ndF, o.dis⟩
        · exact hP.elim
      · unfold hBack at hP
        split at hP
        · rename_i e' eL
          have eρ : ρ' = ρ'.dropLast ++ [some (.ow, e')] := by
            have hne : ρ' ≠ [] := fun z => by rw [z] at eL; cases eL
            have := List.dropLast_concat_getLast hne
            rw [List.getLast?_eq_some_getLast hne] at eL
            rw [← Option.some.inj eL]
            exact this.symm
          have g'' := g'.rep
          rw [eρ] at g''
          obtain ⟨f, fe', eo, rr, w', ew, re'⟩ := g''.unsnoc
          cases ew
          subst eo
          obtain ⟨owF, gF, stF, ndF⟩ := back (fz := []) st ⟨rr, (List.nodup_append.mp g'.nd).1, fun a h => g'.dis a (by simp [h]), g'.tr⟩ re' g'.nd g'.dis
          exact qx C _ H' owF A' hP stF gF
        · exact hP.elim
    · exact hz.elim
  · obtain ⟨re2, st3, nd3, dis3⟩ := frame (fp := []) st2 g3 (by simpa using g3.nd) fun a h => nomatch h
    obtain ⟨owF, gF, stF, ndF⟩ := back (fz := []) st3 g3 re2 nd3 dis3
    exact qx C _ H2 owF A2 hX stF gF
section
variable {X : Cx} {E : XK} {CX : CXT} {k m n : Nat} {f : Addr} {ps : List Str} {c : CF} {ms : List Bool} {x : Str} {p pos apos : Pos} {e o : Expr} {es : List Expr} {post : AEF} {pl : PLF} {C : Str} {NS : List Str} {plA : Sem Bool} {mth : Str}
theorem de_holdF (F : GOk X.prog X.w X.K X.mg X.base CX k f ps (spOf X.K (m + 1) ms c)) (hr : RoomG k X.A) (hg : Gl X x) (hm : X.mg x = some (.ref f)) (hk : PySem.W.keepIn X.K (.ref f) = true) (hx : Passes CX X E) (ho : DPl X e pl) (ha : DAE X E es m post)
    (hdb : (x == ("__debug__" : Str)) = false := by decide) (he : starEach (e :: es) X.env = (false, eval e X.env) :: starEach es X.env := by rfl) (hpl : (backTo pos (starEach es X.env)).any (·.1) = false := by rfl) :
    DE X E (.Call (.Name x p) (e :: es) [] pos) (eHold ms c [] pl post) := by
  obtain ⟨to, eo, so⟩ := ho.run
  obtain ⟨t, ea, sa⟩ := ha.run
  refine ⟨_, pe_gok F hr hg hm hk hx (pa_cons eo ea he) hdb he hpl, fun σ H A ρ ow Q P PX gd h q qx => ?_⟩
  refine so σ H A ρ ow _ _ gd h fun i k e rb w H1 h1 s1 p1 => ?_
  obtain ⟨hb, h1⟩ := h1
  have := hold_call (n := m + 1) (pre := []) (pv := []) (E := E) (Q := Q) sa gd s1 p1 rfl (by simp) hb h1 q qx
  simp only [List.nil_append, List.append_nil] at this ⊢
  exact this
theorem de_holdF1 (j : Nat) {y : Str} {py : Pos} (F : GOk X.prog X.w X.K X.mg X.base CX k f ps (spOf X.K (m + 2) ms c)) (hr : RoomG k X.A) (hg : Gl X x) (hm : X.mg x = some (.ref f)) (hk : PySem.W.keepIn X.K (.ref f) = true) (hx : Passes CX X E) (ho : DPl X e pl) (ha : DAE X E es m post)
    (hN : X.N[j]? = some y := by rfl) (hv : Vis X.env.scope y := by first | exact Or.inl rfl | exact Or.inr (Or.inl rfl) | exact Or.inr (Or.inr rfl)) (hd : (y == ("__debug__" : Str)) = false := by decide) (hcd : (y == ("__classdict__" : Str)) = false := by decide)
    (hdb : (x == ("__debug__" : Str)) = false := by decide) (hs : starEach (.Name y py :: e :: es) X.env = (false, eval (.Name y py) X.env) :: starEach (e :: es) X.env := by rfl) (he : starEach (e :: es) X.env = (false, eval e X.env) :: starEach es X.env := by rfl) (hpl : (backTo pos (starEach (e :: es) X.env)).any (·.1) = false := by rfl) :
    DE X E (.Call (.Name x p) (.Name y py :: e :: es) [] pos) (fun ρ P PX => (∃ kd, ρ[j]? = some (some kd)) ∧ eHold ms c [j] pl post ρ P PX) := by
  obtain ⟨to, eo, so⟩ := ho.run
  obtain ⟨t, ea, sa⟩ := ha.run
  refine ⟨_, pe_gok F hr hg hm hk hx (pa_cons (pe_var hN hv hd hcd) (pa_cons eo ea he) hs) hdb hs hpl, fun σ H A ρ ow Q P PX gd h q qx => ?_⟩
  obtain ⟨⟨kd, e0⟩, h⟩ := h
  obtain ⟨v, fv, hv', _⟩ := gd.slot e0
  refine ⟨v, hv', ?_⟩
  refine so σ H A ρ ow _ _ gd h fun i k e rb w H1 h1 s1 p1 => ?_
  obtain ⟨hb, h1⟩ := h1
  have := hold_call (n := m + 2) (pre := [j]) (pv := [v]) (E := E) (Q := Q) sa gd s1 p1 ⟨v, [], rfl, hv', rfl⟩ (by simp; omega) hb h1 q qx
  simp only [List.singleton_append, List.append_nil] at this ⊢
  exact this
def isC (C : Str) (NS : List Str) (e : D) : Prop := ∃ ds, e = .obj C NS ds
def eHoldM (C : Str) (NS : List Str) (ms : List Bool) (c : CF) (pl : PLF) (post : AEF) : EF := fun ρ P PX => eHold ms c [] (fun ρ R => pl ρ fun i k e rb => isC C NS e ∧ R i k e rb) post ρ P PX
theorem de_holdM (c' : Cls X.K (He.ga X.K C)) (hm : Meth X.K (He.ga X.K C) mth f) (hn : mth ∉ NS) (F : GOk X.prog X.w X.K X.mg X.base CX k f ps (spOf X.K (m + 1) ms c)) (hr : RoomG k X.A) (hx : Passes CX X E) (ho : DPl X o pl) (ha : DAE X E (e :: es) m post)
    (hst : starEach (e :: es) X.env = (false, eval e X.env) :: starEach es X.env := by rfl) (hpl : (backTo pos (starEach es X.env)).any (·.1) = false := by rfl)
    (ht : eval (.Call (.Attribute o mth apos) (e :: es) [] pos) X.env = (do
      let ov ← eval o X.env
      standAt apos.atName
      let (f, first) ← holding [ov] (getMethod ov mth plA)
      callWith pos f first (backTo pos (starEach (e :: es) X.env)) (backToKw pos (keywordEach [] X.env))) := by rfl) : DE X E (.Call (.Attribute o mth apos) (e :: es) [] pos) (eHoldM C NS ms c pl post) := by
  obtain ⟨to, eo, so⟩ := ho.run
  obtain ⟨t, ea, sa⟩ := ha.run
  refine ⟨_, pe_methG eo c' hm F hr hx ea hst hpl ht, fun σ H A ρ ow Q P PX gd h q qx => ?_⟩
  refine so σ H A ρ ow _ _ gd h fun i k e rb w H1 h1 s1 p1 => ?_
  obtain ⟨⟨ds, ee⟩, hb, h1⟩ := h1
  obtain ⟨v0, f1, fe, f2, ow1, hv0, re, g2, sub1, fin, fnd, reb⟩ := hold_out (gd.same s1) p1 hb
  rw [ee] at re
  obtain ⟨pp, dx, fs, fps, ew, _, hp, en, _⟩ := re
  subst ew
  refine ⟨pp, dx, fs, rfl, hp, lookup_none (by rw [en]; exact hn), ?_⟩
  have := hold_call (n := m + 1) (pre := []) (pv := []) (E := E) (Q := Q) sa gd s1 p1 rfl (by simp) hb h1 q qx
  simp only [List.nil_append, List.append_nil] at this ⊢
  exact this
theorem de_holdM0 (c' : Cls X.K (He.ga X.K C)) (hm : Meth X.K (He.ga X.K C) mth f) (hn : mth ∉ NS) (F : GOk X.prog X.w X.K X.mg X.base CX k f ps (spOf X.K 1 ms c)) (hr : RoomG k X.A) (hx : Passes CX X E) (ho : DPl X o pl)
    (ht : eval (.Call (.Attribute o mth apos) [] [] pos) X.env = (do
      let ov ← eval o X.env
      standAt apos.atName
      let (f, first) ← holding [ov] (getMethod ov mth plA)
      callWith pos f first (backTo pos (starEach [] X.env)) (backToKw pos (keywordEach [] X.env))) := by rfl) : DE X E (.Call (.Attribute o mth apos) [] [] pos) (eHoldM C NS ms c pl aNil) := by
  obtain ⟨to, eo, so⟩ := ho.run
  refine ⟨_, pe_meth0G eo c' hm F hr hx ht, fun σ H A ρ ow Q P PX gd h q qx => ?_⟩
  refine so σ H A ρ ow _ _ gd h fun i k e rb w H1 h1 s1 p1 => ?_
  obtain ⟨⟨ds, ee⟩, hb, h1⟩ := h1
  obtain ⟨v0, f1, fe, f2, ow1, hv0, re, g2, sub1, fin, fnd, reb⟩ := hold_out (gd.same s1) p1 hb
  rw [ee] at re
  obtain ⟨pp, dx, fs, fps, ew, _, hp, en, _⟩ := re
  subst ew
  refine ⟨pp, dx, fs, rfl, hp, lookup_none (by rw [en]; exact hn), ?_⟩
  have := hold_call (n := 1) (m := 0) (pre := []) (pv := []) (E := E) (Q := Q) (ae_nil (K := X.K) (E := E)) gd s1 p1 rfl (by simp) hb h1 q qx
  exact this
end
end
end DL

namespace DL
open PySem PySem.Spec PyProof PyProof.Rows L2
noncomputable section
def sTryH (subs : List Str) (i : Nat) (f fs : SF) : SF := fun D ρ => f { nx := D.nx, rt := fun _ _ => False, ex := fun C ρ' => (C ∈ subs ∧ i < ρ'.length ∧ fs { nx := fun ρ'' => D.nx (ρ''.set i none), rt := fun _ _ => False, ex := fun _ _ => False } (ρ'.set i (some (.fl, .exn C)))) } ρ
def sTryN (subs : List Str) (f fs : SF) : SF := fun D ρ => f { nx := D.nx, rt := fun _ _ => False, ex := fun C ρ' => C ∈ subs ∧ fs D ρ' } ρ
theorem ds_tryN {X : Cx} {E : XK} {pr : List Nat} {CN : Str} {subs : List Str} {np pos pos' : Pos} {body suite : List Stmt} {b₀ : Stmt} {f fs : SF}
    (hcn : Gl X CN) (hmg : X.mg CN = some (.ref (He.ga X.K CN))) (hsub : ∀ C ∈ subs, PySem.W.exmOne X.K (.ref (He.ga X.K C)) (.ref (He.ga X.K CN)) = some true)
    (hb : ∀ (W : WX) (pn : List (Addr × Obj)) (xe : Value → Shared → Prop), Takes (X.tr pn xe) W → DB (X.tr pn xe) W pr body f)
    (hsu : ∀ (a : Addr) (oe : Obj) (pn : List (Addr × Obj)), DSs (X.suite a ((a, oe) :: pn)) E pr (b₀ :: suite) fs)
    (hs : X.stack = X.env :: X.outer := by rfl) (hf : X.env.frame = some X.env.locals := by rfl) (hdb : (CN == ("__debug__" : Str)) = false := by decide) :
    DS X E pr (.Try body [.ExceptHandler (some (.Name CN np)) none (b₀ :: suite) pos'] [] [] pos) (sTryN subs f fs) := by
  refine ⟨_, ps_try_only (tb := fun W D σ H => ∀ (pn : List (Addr × Obj)) (xe : Value → Shared → Prop) (tk : Takes (X.tr pn xe) W), Classical.choose (hb W pn xe tk).run D σ H) (ts := fun a _ _ D σ H => ∀ (oe : Obj) (pn : List (Addr × Obj)), Classical.choose (hsu a oe pn).run D σ H) (Wout := fun _ _ _ _ => False) hs hf ⟨hcn, hdb, .inl hmg⟩ takes0
    (fun W pn xe tk _ => ⟨fun pins s σ H D I h => (Classical.choose_spec (hb W pn xe tk).run).1.run pins s σ H D I (h pn xe tk)⟩)
    (fun a oe cls d pn _ _ => ⟨fun pins s σ H D I h => (Classical.choose_spec (hsu a oe pn).run).1.run pins s σ H D I (h oe pn)⟩), fun σ H A ρ ow T D gd h nx rt ex => ?_⟩
  intro pn xe tk
  refine (Classical.choose_spec (hb _ pn xe tk).run).2 σ H A ρ ow T _ gd h nx (fun _ _ _ _ _ _ _ _ h => h.elim) fun C ρ' σ' H' ow' A' hC st g hp => ?_
  obtain ⟨hC, hD⟩ := hC
  refine ⟨true, hsub C hC, fun _ a _ oe pn => ?_, fun z => nomatch z⟩
  exact (Classical.choose_spec (hsu a oe pn).run).2 σ' H' A' ρ' ow' T D g hD (fun ρ2 σ2 H2 ow2 A2 h2 st2 g2 p2 => nx ρ2 σ2 H2 ow2 A2 h2 (st.trans st2) g2 fun i hi => (p2 i hi).trans (hp i hi))
    (fun z ρ2 v σ2 H2 fp ow2 A2 h2 st2 g2 o2 p2 => rt z ρ2 v σ2 H2 fp ow2 A2 h2 (st.trans st2) g2 o2 fun i hi => (p2 i hi).trans (hp i hi)) fun C ρ2 σ2 H2 ow2 A2 h2 st2 g2 p2 => ex C ρ2 σ2 H2 ow2 A2 h2 (st.trans st2) g2 fun i hi => (p2 i hi).trans (hp i hi)
def ESoundW (K : Frg) (W : WX) (t : TE) (f : EF) : Prop := ∀ (σ : L2.St) (H : Hp) (A : Addr → Prop) (ρ : Ro) (ow : List Addr) (Q : VK) (P : KD → Ro → Prop) (PX : Str → Ro → Prop), Good K A H ρ σ ow → f ρ P PX →
  (∀ z ρ' v H' fp ow' A', P z ρ' → Stp H ow A H' (fp ++ ow') A' → Good K A' H' ρ' σ ow' → Own K A' H' z v fp ow' → Q v H') →
  (∀ C ρ' H' ow' A', PX C ρ' → Stp H ow A H' ow' A' → Good K A' H' ρ' σ ow' → W (.ref (He.ga K C)) none σ H') → t σ H Q
structure DEW (X : Cx) (W : WX) (e : Expr) (f : EF) : Prop where
  run : ∃ t, PE X e t ∧ ESoundW X.K W t f
section
variable {X : Cx} {W : WX} {pr : List Nat} {k n : Nat} {f : Addr} {ps : List Str} {ms : List Bool} {c : CF} {g : AEF} {x m : Str} {p pos epos apos : Pos} {e : Expr} {es : List Expr} {C : Str} {NS : List Str} {pl : Sem Bool} {ef : EF}
theorem db_expr (he : DEW X W e ef) (hsw : swapsWith e none epos.line X.env = pure false := by rfl) : DB X W pr [.Expr e epos] (sExpr ef) := by
  obtain ⟨t, pe, s⟩ := he.run
  refine ⟨_, pss_one (ps_expr pe hsw), fun σ H A ρ ow T D gd h nx rt ex => ?_⟩
  exact s σ H A ρ ow _ _ _ gd h (fun z ρ' v H' fp ow' A' hp st g o => nx ρ' σ H' ow' A' hp (st.sub fun a h => by simp [h]) g fun _ _ => rfl) fun C ρ' H' ow' A' hp st g => ex C ρ' σ H' ow' A' hp st g fun _ _ => rfl
def tMethSA (C : Addr) (m : Str) (sp : Sp) (E : L2.St → XK) (ta : TE) (t : TA) : TE := fun σ H Q => ta σ H fun x H1 => ∃ a dx fs, x = .ref a ∧ H1 a = some (.ins C dx fs) ∧ fs.lookup m = none ∧ t σ H1 fun vs H2 => sp (x :: vs) H2 Q (E σ)
theorem pe_methGS {CX : CXT} {C : Addr} {sp : Sp} {E : L2.St → XK} {o : Expr} {ta : TE} {t : TA} (he : PE X o ta) (c : Cls X.K C) (hm : Meth X.K C m f) (F : GOk X.prog X.w X.K X.mg X.base CX k f ps sp) (hr : RoomG k X.A)
    (hx : ∀ σ, PassesAt CX X σ (E σ)) (ha : PA X (e :: es) t) (hst : starEach (e :: es) X.env = (false, eval e X.env) :: starEach es X.env) (hpl : (backTo pos (starEach es X.env)).any (·.1) = false)
    (ht : eval (.Call (.Attribute o m apos) (e :: es) [] pos) X.env = (do
      let ov ← eval o X.env
      standAt apos.atName
      let (f, first) ← holding [ov] (getMethod ov m pl)
      callWith pos f first (backTo pos (starEach (e :: es) X.env)) (backToKw pos (keywordEach [] X.env)))) : PE X (.Call (.Attribute o m apos) (e :: es) [] pos) (tMethSA C m sp E ta t) := by
  refine ⟨fun pins s σ H Q I h => W.methodCall_KW (thn (he.run pins s σ H _ I h) fun u s1 ⟨x, H1, I1, rx, a, dx, fs, ex, ea, l, q⟩ => ?_) ht⟩
  subst ex
  have rx : u = .ref a := rx
  subst rx
  refine getmeth_ok I1 ea c hm l (W.callWith_K I.ok.mod.kin hm.kp (thn (ha.run pos pins s1 σ H1 (fun vs H2 => sp (V.ref a :: vs) H2 Q (E σ)) I1 q) fun us s2 ⟨vs, H2, I2, r, q2⟩ => ?_) hst hpl)
  exact ⟨I2.kIn, run_gokS F hr (hx σ) I2 (show Vals (V.ref a :: vs) (Value.ref a :: us) from Paired.cons (show L2.RelV (V.ref a) (Value.ref a) from rfl) r) q2⟩
def eMethX (i : Nat) (C : Str) (NS : List Str) (ms : List Bool) (c : CF) (g : AEF) : EF := fun ρ P PX => (∃ ds, ρ[i]? = some (some (.ow, .obj C NS ds))) ∧ eFnX ms c (aPl i g) ρ P PX
theorem dew_meth (i : Nat) {px : Pos} (c' : Cls X.K (He.ga X.K C)) (hm : Meth X.K (He.ga X.K C) m f) (hn : m ∉ NS) (F : GOk X.prog X.w X.K X.mg X.base (L2.CX X.prog X.w) k f ps (spOf X.K (n + 1) ms c)) (hr : RoomG k X.A) (tk : Takes X W) (ha : DAE X (fun _ _ _ => False) (e :: es) n g)
    (hN : X.N[i]? = some x := by rfl) (hv : Vis X.env.scope x := by first | exact Or.inl rfl | exact Or.inr (Or.inl rfl) | exact Or.inr (Or.inr rfl)) (hd : (x == ("__debug__" : Str)) = false := by decide) (hcd : (x == ("__classdict__" : Str)) = false := by decide)
    (hst : starEach (e :: es) X.env = (false, eval e X.env) :: starEach es X.env := by rfl) (hpl : (backTo pos (starEach es X.env)).any (·.1) = false := by rfl)
    (ht : eval (.Call (.Attribute (.Name x px) m apos) (e :: es) [] pos) X.env = (do
      let ov ← eval (.Name x px) X.env
      standAt apos.atName
      let (f, first) ← holding [ov] (getMethod ov m pl)
      callWith pos f first (backTo pos (starEach (e :: es) X.env)) (backToKw pos (keywordEach [] X.env))) := by rfl) : DEW X W (.Call (.Attribute (.Name x px) m apos) (e :: es) [] pos) (eMethX i C NS ms c g) := by
  obtain ⟨t, ea, sa⟩ := ha.run
  refine ⟨_, pe_methGS (pe_var hN hv hd hcd) c' hm F hr (E := WE W) (passAt tk) ea hst hpl ht, fun σ H A ρ ow Q P PX gd h q qx => ?_⟩
  obtain ⟨⟨ds, e0⟩, h⟩ := h
  obtain ⟨_, h⟩ := h
  obtain ⟨v, fv, hv', vr⟩ := gd.slot e0
  have vr : R X.K No H (.obj C NS ds) v fv := vr.1
  obtain ⟨p, dx, fs, fps, ev, _, hp, en, _⟩ := vr
  subst ev
  refine ⟨.ref p, hv', p, dx, fs, rfl, hp, lookup_none (by rw [en]; exact hn), ?_⟩
  refine sa σ H A ρ ow _ _ _ gd h (fun avs ρ1 vs H1 fp ow1 A1 hl hz st1 g1 r nd dis => ?_) fun _ _ _ _ _ h _ _ => h.elim
  dsimp only at hz
  split at hz
  · rename_i zs ρ2 e1
    exact efn_core (E := WE W σ) (avs := .pl i :: avs) e1 st1 g1 ⟨.ref p, vs, rfl, hv', r⟩ nd dis (by rw [List.length_cons, r.len, hl]) hz q qx
  · exact hz.elim
end
section
variable {X : Cx} {CX : CXT} {E : XK} {k : Nat} {f : Addr} {ps : List Str} {c : CF} {x : Str} {p pos : Pos} {C : Str}
theorem pe_make0G {C : Addr} {sp : Sp} (M : Mk X.K C f) (F : GOk X.prog X.w X.K X.mg X.base CX k f ps sp) (hr : RoomG (k + 1) X.A) (hg : Gl X x) (hm : X.mg x = some (.ref C)) (hx : Passes CX X E)
    (hdb : (x == ("__debug__" : Str)) = false) : PE X (.Call (.Name x p) [] [] pos) (tMake C sp [] E tNil) := by
  refine ⟨fun pins s σ H Q I h => ?_⟩
  refine wpAny_Call_Name_kw (ld_glob I hg hm ?_ hdb)
  exact PySem.W.callWith_K0 I.kIn M.kp (run_makeG (us := []) (vs := []) M F hr hx I .nil h)
theorem de_make0 (M : Mk X.K (He.ga X.K C) f) (F : GOk X.prog X.w X.K X.mg X.base CX k f ps (spOf X.K 1 [true] c)) (hr : RoomG (k + 1) X.A) (hg : Gl X x) (hm : X.mg x = some (.ref (He.ga X.K C))) (hx : Passes CX X E)
    (hdb : (x == ("__debug__" : Str)) = false := by decide) : DE X E (.Call (.Name x p) [] [] pos) (eMakeX C c aNil) := by
  refine ⟨_, pe_make0G M F hr hg hm hx hdb, fun σ H A ρ ow Q P PX gd h q qx => ?_⟩
  obtain ⟨zs, ez, hz⟩ := h
  cases zs with
  | cons a b => cases ez
  | nil =>
    intro x dx h1 h2 h3
    exact emake_coreX (zs := []) (vs := []) (fp := []) (ms := []) (n := 0) Stp.refl gd ⟨rfl, rfl⟩ (by simpa using gd.nd) (fun a h => nomatch h) rfl rfl h1 h2 h3 hz qx q
end
end
end DL

namespace DL
open PySem PySem.Spec PyProof PyProof.Rows L2
noncomputable section
structure TabK (K : PySem.W.Frag) (w : World) (x : Str) (kvs : List (Str × Int)) : Prop where
  d : ∃ es n, KDict K w (He.ga K x) es n
  no : ∀ z, kvs.lookup z = none → PySem.W.nsIn K (He.ga K x) z = some none
  yes : ∀ z i, kvs.lookup z = some i → ∃ t, PySem.W.nsIn K (He.ga K x) z = some (some (.int i t))
theorem find_kv {z : Str} : ∀ {l : List DictEntry} {kvs : List (Str × Int)}, l.map kvOf = kvs.map some →
    (kvs.lookup z = none → l.find? (·.key.isStr z) = none ∧ l.any (·.refKey) = false) ∧ (∀ i, kvs.lookup z = some i → ∃ e t, l.find? (·.key.isStr z) = some e ∧ e.val = .int i t)
  | [], [], _ => ⟨fun _ => ⟨rfl, rfl⟩, fun i h => nomatch h⟩
  | [], _ :: _, h => by cases h
  | _ :: _, [], h => by cases h
  | e :: l, (x, j) :: kvs, h => by
    have h1 : kvOf e :: l.map kvOf = some (x, j) :: kvs.map some := h
    injection h1 with h2 h3
    obtain ⟨ih1, ih2⟩ := find_kv (z := z) h3
    obtain ⟨hash, key, val⟩ := e
    unfold kvOf at h2
    dsimp only at h2
    split at h2
    · rename_i y t i t'
      obtain ⟨e3, e4⟩ := Prod.mk.inj (Option.some.inj h2)
      subst e3 e4
      by_cases c : z = y
      · subst c
        refine ⟨fun h => ?_, fun i' h => ?_⟩
        · rw [List.lookup_cons] at h
          simp at h
        · rw [List.lookup_cons] at h
          simp at h
          subst h
          refine ⟨{ hash := hash, key := .str z t, val := .int i t' }, t', ?_, rfl⟩
          rw [List.find?_cons_of_pos]
          show (z == z) = true
          simp
      · have hf : (l.find? (·.key.isStr z)) = (({ key := .str y t, val := .int i t', hash := hash } : DictEntry) :: l).find? (·.key.isStr z) := by
          rw [List.find?_cons_of_neg]
          show ¬ (y == z) = true
          simp
          exact fun h => c h.symm
        have hl : kvs.lookup z = ((y, i) :: kvs).lookup z := by
          rw [List.lookup_cons]
          have : (z == y) = false := by simp [c]
          rw [this]
        rw [← hl, ← hf]
        refine ⟨fun h => ⟨(ih1 h).1, ?_⟩, ih2⟩
        rw [List.any_cons, (ih1 h).2]; rfl
    · cases h2
theorem tabK_of {K : PySem.W.Frag} {w : World} {x : Str} {kvs : List (Str × Int)} (h1 : dvB K (x, kvs) = true) (h2 : ∃ es n, KDict K w (He.ga K x) es n) : TabK K w x kvs := by
  obtain ⟨es, n, D⟩ := h2
  unfold dvB at h1
  dsimp only at h1
  rw [D.at_] at h1
  dsimp only at h1
  have e := of_decide_eq_true h1
  refine ⟨⟨es, n, D⟩, fun z hz => ?_, fun z i hz => ?_⟩
  · obtain ⟨a, b⟩ := (find_kv (z := z) e).1 hz
    unfold PySem.W.nsIn
    rw [D.at_]
    dsimp only
    rw [a]
    dsimp only
    rw [b]; rfl
  · obtain ⟨en, t, a, b⟩ := (find_kv (z := z) e).2 i hz
    refine ⟨t, ?_⟩
    unfold PySem.W.nsIn
    rw [D.at_]
    dsimp only
    rw [a]
    dsimp only
    rw [b]
theorem tab_ok {fa : List He.Fa} {fn : List He.DefD} {ls : List (Str × List He.Dv)} {xs : List XF} {ds : TbL} {w : World} {K : PySem.W.Frag} (h : saysY fa fn ls xs ds w K) (i : Nat) {x : Str} {kvs : List (Str × Int)} (e : ds[i]? = some (x, kvs) := by rfl) : TabK K w x kvs := by
  obtain ⟨h1, h2⟩ := h
  have h3 := (Bool.and_eq_true_iff.mp h1).2
  refine tabK_of (List.all_eq_true.mp h3 (x, kvs) (List.mem_of_getElem? e)) ?_
  have e2 : (tbW ds K)[i]? = (tbV ds w)[i]? := by rw [h2]
  unfold tbW tbV at e2
  rw [List.getElem?_map, List.getElem?_map, e] at e2
  exact He.dicW_ok (Option.some.inj e2)
def oTab (x : Str) (kvs : List (Str × Int)) (neg : Bool) : KD → KD → (KD → Prop) → Prop := fun a b P => match a.2, b.2 with
  | .str z, .fn y => y = x ∧ P (.fl, .bl (if neg then !(kvs.lookup z).isSome else (kvs.lookup z).isSome))
  | _, _ => False
theorem ns_lookup {K : PySem.W.Frag} {w : World} {x : Str} {kvs : List (Str × Int)} (T : TabK K w x kvs) (z : Str) : ∃ r, PySem.W.nsIn K (He.ga K x) z = some r ∧ r.isSome = (kvs.lookup z).isSome := by
  cases e : kvs.lookup z with
  | none => exact ⟨none, T.no z e, rfl⟩
  | some i =>
    obtain ⟨t, h⟩ := T.yes z i e
    exact ⟨_, h, rfl⟩
section
variable {X : Cx} {x : Str} {kvs : List (Str × Int)}
abbrev rTab (K : PySem.W.Frag) (x : Str) (neg : Bool) : R2 := fun a b H Q => ∃ (z : Str) (r : Option Value), a = .str z ∧ b = .ref (He.ga K x) ∧ PySem.W.nsIn K (He.ga K x) z = some r ∧ Q (.bl (if neg then !r.isSome else r.isSome)) H
theorem op_tabNotIn (T : TabK X.K X.w x kvs) : OpR X (compareOp .NotIn) (rTab X.K x true) := by
  obtain ⟨es, n, D⟩ := T.d
  exact op_notIn_kd D
theorem os_tab {neg : Bool} (T : TabK X.K X.w x kvs) : OpS X.K (rTab X.K x neg) (oTab x kvs neg) := by
  intro B F H v w a b P Q px py hF h q
  obtain ⟨k, d⟩ := a
  obtain ⟨k', d'⟩ := b
  unfold oTab at h
  split at h
  · rename_i z y e1 e2
    dsimp only at e1 e2
    subst e1 e2
    obtain ⟨ey, h⟩ := h
    subst ey
    obtain ⟨r, hr, er⟩ := ns_lookup T z
    exact ⟨z, r, px.ra, py.ra, hr, by rw [er]; exact q _ _ H h (Same.refl H) .bl⟩
  · exact h.elim
end
section
variable {X : Cx} {o e f : Expr} {td ty tx : TE} {apos cpos : Pos} {d : Addr} {es : Array DictEntry} {n : Nat}
def tKGet2 (K : PySem.W.Frag) (d : Addr) (td ty tx : TE) : TE := fun σ H Q => td σ H fun x H1 => x = .ref d ∧ ty σ H1 fun y H2 => tx σ H2 fun z H3 => ∃ s : Str, y = .str s ∧ ((∃ i t, PySem.W.nsIn K d s = some (some (.int i t)) ∧ Q (.int i) H3) ∨ (PySem.W.nsIn K d s = some none ∧ Q z H3))
theorem pe_kdget2 (D : KDict X.K X.w d es n) (ho : PE X o td) (he : PE X e ty) (hf : PE X f tx) (m : M2 X o "get" apos e f cpos) : PE X (.Call (.Attribute o "get" apos) [e, f] [] cpos) (tKGet2 X.K d td ty tx) := by
  refine ⟨fun pins s σ H Q I h => ?_⟩
  refine wpAny_Call_method m.base m.few m.line PySem.F.plainAttrs_dict PySem.F.slot_dict_get PySem.F.type_dict_get (thn (ho.run pins s σ H _ I h) fun u s1 ⟨x, H1, I1, rx, ex, q1⟩ => ?_)
  subst ex
  obtain rfl : u = Value.ref d := rx
  refine ⟨kd_type D I1, fun b q => ?_, ?_⟩
  · cases q
    exact ⟨_, I1.kIn _ _ D.at_, rfl⟩
  rw [m.trees]
  refine Calls.callWith_builtin rfl (Calls.evalArgs_plain (Calls.spliced_cons (thn (he.run pins s1 σ H1 _ I1 q1) fun iv s2 ⟨y, H2, I2, ry, q2⟩ =>
    Calls.spliced_cons (thn (hf.run pins s2 σ H2 _ I2 q2) fun fv s3 ⟨z, H3, I3, rz, sv, ey, q3⟩ => Calls.spliced_nil ?_))))
  subst ey
  obtain ⟨t, rfl⟩ := ry
  refine call_meetsIn PySem.F.slot_dict_get (kd_type D I3) PySem.F.entry_dict_get (PySem.F.args_dict_get_3 _ _ _) (meets_dict_get_default (PySem.strKind X.prog X.w) d (PySem.strKind_is X.prog X.w sv t) D.low fv) ⟨_, PySem.W.mapOf_K (prog := X.prog) I3.kIn D.at_ D.lit, ?_⟩
  rcases q3 with ⟨i, t', e1, q3⟩ | ⟨e1, q3⟩
  · rw [PySem.W.find_K D.at_ e1]
    exact ⟨.int i, H3, I3.tok _, ⟨t', rfl⟩, q3⟩
  · rw [PySem.W.find_K D.at_ e1]
    exact ⟨z, H3, I3.tok _, rz, q3⟩
end
def pTabG (x : Str) (kvs : List (Str × Int)) (fa fk fx : PF) : PF := fun ρ P => fa ρ fun a => a.2 = .fn x ∧ fk ρ fun k => (match k.2 with
  | .str s => pNum fx ρ fun i => P (.fl, .int ((kvs.lookup s).getD i))
  | _ => False)
theorem dp_tabG {X : Cx} {x : Str} {kvs : List (Str × Int)} {a k y : Expr} {fa fk fx : PF} {apos cpos : Pos} (T : TabK X.K X.w x kvs) (ha : DP X a fa) (hk : DP X k fk) (hx : DP X y fx) (m : M2 X a "get" apos k y cpos) : DP X (.Call (.Attribute a "get" apos) [k, y] [] cpos) (pTabG x kvs fa fk fx) := by
  obtain ⟨ta, ea, sa⟩ := ha.run
  obtain ⟨tk, ek, sk⟩ := hk.run
  obtain ⟨tx, ex, sx⟩ := hx.run
  obtain ⟨es, n, D⟩ := T.d
  refine ⟨_, pe_kdget2 D ea ek ex m, fun σ H A ρ ow Q P gd h q => ?_⟩
  refine sa σ H A ρ ow _ _ gd h fun za va H1 h1 s1 p1 => ?_
  obtain ⟨ez, h1⟩ := h1
  have ra := p1.ra
  rw [ez] at ra
  refine ⟨ra, ?_⟩
  refine sk σ H1 A ρ ow _ _ (gd.same s1) h1 fun zk vk H2 h2 s2 p2 => ?_
  have rk := p2.ra
  split at h2
  · rename_i s es'
    rw [es'] at rk
    obtain rfl : vk = .str s := rk
    refine sx σ H2 A ρ ow _ _ (gd.same (s1.trans s2)) h2 fun zx vx H3 h3 s3 p3 => ?_
    have rx := p3.ra
    split at h3
    · rename_i i ei
      rw [ei] at rx
      obtain rfl : vx = .int i := rx
      refine ⟨s, rfl, ?_⟩
      cases e : kvs.lookup s with
      | none =>
        rw [e] at h3
        exact .inr ⟨T.no s e, q _ _ H3 h3 ((s1.trans s2).trans s3) .int⟩
      | some j =>
        rw [e] at h3
        obtain ⟨t, ht⟩ := T.yes s j e
        exact .inl ⟨j, t, ht, q _ _ H3 h3 ((s1.trans s2).trans s3) .int⟩
    · exact h3.elim
  · exact h2.elim
def pGet1 (fa fb fk fx : PF) : PF := fun ρ P => pStr fa ρ fun a => pStr fb ρ fun b => pStr fk ρ fun k => pStr fx ρ fun x => P (.fl, .str (if k = a then b else x))
where pStr (f : PF) : Ro → (Str → Prop) → Prop := fun ρ P => f ρ fun z => match z.2 with
  | .str s => P s
  | _ => False
section
variable {X : Cx} {a b k x : Expr} {fa fb fk fx : PF} {dp apos cpos : Pos}
theorem dp_get1 (hu : X.A.units + 64 < cLine) (ha : DP X a fa) (hb : DP X b fb) (hk : DP X k fk) (hx : DP X x fx) (m : M2 X (.Dict [some a] [b] dp) "get" apos k x cpos) :
    DP X (.Call (.Attribute (.Dict [some a] [b] dp) "get" apos) [k, x] [] cpos) (pGet1 fa fb fk fx) := by
  obtain ⟨ta, ea, sa⟩ := ha.run
  obtain ⟨tb, eb, sb⟩ := hb.run
  obtain ⟨tk, ek, sk⟩ := hk.run
  obtain ⟨tx, ex, sx⟩ := hx.run
  refine ⟨_, pe_dget2 (by omega) (pe_disp (pps_cons ea eb pps_nil) rfl rfl (by simp) (show 1 ≤ 15 by decide)) ek ex m, fun σ H A ρ ow Q P gd h q p hp => ?_⟩
  have s0 : Same H (upd H p (.dK [])) := same_upd hp
  have one : ∀ {z : KD} {v : V} {H0 H' : Hp} {R : Str → Prop}, PR X.K (BB A ow) (Fre H0) H' v z → (match z.2 with | .str i => R i | _ => False) → ∃ i : Str, v = .str i ∧ R i := fun {z v H0 H' R} pr h => by
    have r := pr.ra
    split at h
    · rename_i i e
      rw [e] at r
      exact ⟨i, r, h⟩
    · exact h.elim
  refine sa σ _ A ρ ow _ _ (gd.same s0) h fun za va H1 h s1 p1 => ?_
  obtain ⟨a, rfl, h⟩ := one p1 h
  refine sb σ _ A ρ ow _ _ (gd.same (s0.trans s1)) h fun zb vb H2 h s2 p2 => ?_
  obtain ⟨b, rfl, h⟩ := one p2 h
  have s12 := s1.trans s2
  have hp2 : H2 p = some (.dK []) := s12 p _ upd_same
  have sH : ∀ o, Same H (upd H2 p o) := fun o y u e => by
    have ne : y ≠ p := fun z => by rw [z, hp] at e; cases e
    rw [upd_ne ne]
    exact (s0.trans s12) y u e
  refine ⟨hp2, [(.inr a, .str b)], rfl, by simp, p, rfl, .inl ⟨_, .inl upd_same⟩, ?_⟩
  refine sk σ _ A ρ ow _ _ (gd.same (sH _)) h fun zk vk H5 h s5 p5 => ?_
  obtain ⟨k, rfl, h⟩ := one p5 h
  refine sx σ _ A ρ ow _ _ (gd.same ((sH _).trans s5)) h fun zx vx H6 h s6 p6 => ?_
  obtain ⟨x, rfl, h⟩ := one p6 h
  refine ⟨_, .k (k := .inr k) ((s5.trans s6) p _ upd_same), ?_⟩
  have e : (valV (mergeK [] [((.inr a : Key), V.str b)]) (.inr k)).getD (.str x) = .str (if k = a then b else x) := by
    show (valV (putK [] _ _) _).getD _ = _
    have e2 : putK ([] : List (Key × V)) (.inr a) (V.str b) = [(.inr a, V.str b)] := rfl
    rw [e2]
    by_cases hk : k = a
    · subst hk; rw [if_pos rfl, valV_pos rfl]; rfl
    · rw [if_neg hk, valV_neg (fun z => hk (Sum.inr.inj z).symm)]; rfl
  rw [e]
  exact q _ _ _ h ((sH _).trans (s5.trans s6)) .str
end
end
end DL

namespace DL
open PySem PySem.Spec PyProof PyProof.Rows L2
noncomputable section
def eIxSR (i : Nat) (f : EF) : EF := fun ρ P PX => (∃ kd, ρ[i]? = some (some kd)) ∧ f ρ (fun y ρ1 => match ρ1[i]?, y.2 with
  | some (some (.rd, d)), .int j => xIx (.rd, d) (.fl, .int j) fun z => (z.1 = .fl ∨ z.1 = .rd) ∧ P z ρ1
  | _, _ => False) PX
theorem de_ixSR {X : Cx} {E : XK} {pos p : Pos} {b : Expr} (i : Nat) {x : Str} {f : EF} (hb : DE X E b f) (hN : X.N[i]? = some x := by rfl) (hv : Vis X.env.scope x := by first | exact Or.inl rfl | exact Or.inr (Or.inl rfl) | exact Or.inr (Or.inr rfl)) (hd : (x == ("__debug__" : Str)) = false := by decide)
    (hcd : (x == ("__classdict__" : Str)) = false := by decide) (hs : PlainIx b := by exact fun _ _ => rfl) : DE X E (.Subscript (.Name x p) b pos) (eIxSR i f) := by
  obtain ⟨tb, eb, sb⟩ := hb.run
  refine ⟨_, pe_ix ix_seq (pe_var hN hv hd hcd) eb hs, fun σ H A ρ ow Q P PX gd h q qx => ?_⟩
  obtain ⟨⟨kd, e⟩, h⟩ := h
  obtain ⟨v, f0, hv, _⟩ := gd.slot e
  refine ⟨v, hv, ?_⟩
  refine sb σ H A ρ ow _ _ _ gd h (fun y ρ1 w H1 fp ow1 A1 h1 st1 g1 o1 => ?_) qx
  obtain ⟨ky, dy⟩ := y
  have ry : RA X.K (fun _ => True) H1 dy w := o1.rep.ra (fun _ _ => trivial) fun _ _ => trivial
  split at h1
  · rename_i d j e1 e2
    dsimp only at e2
    subst e2
    obtain rfl : w = .int j := ry
    obtain ⟨v', f1, hv', r1, _, s1⟩ := g1.slot e1
    rw [hv] at hv'
    cases hv'
    have px : PR X.K (BB A1 []) (Fre H1) H1 v (.rd, d) := ⟨[], ⟨rfl, r1.2.mono fun _ h => .inl (.inl h)⟩, List.nodup_nil, fun _ h => nomatch h⟩
    have py : PR X.K (BB A1 []) (Fre H1) H1 (.int j) (.fl, .int j) := .int
    rw [xIx_eq] at h1
    refine os_ix _ _ H1 v (.int j) _ _ _ Q px py (fun a h => h) h1 fun z u H3 hz s3 p3 => ?_
    obtain ⟨fp3, A3, st3, g3, o3⟩ := p3.rdown g1 s3
    exact q z ρ1 u H3 fp3 ow1 A3 hz.2 ((st1.sub fun a h => by simp [h]).trans st3) g3 o3
  · exact h1.elim
end
end DL

namespace DL
open PySem PySem.Spec PyProof PyProof.Rows L2
noncomputable section
section
variable {X : Cx} {E : XK} {pr : List Nat} {pos : Pos}
end
end
end DL

namespace PA
open DL
theorem sumR_sub {n : Nat} {f g : Nat → Int} : sumR n (fun i => f i - g i) = sumR n f - sumR n g := by
  induction n with
  | zero => rfl
  | succ n ih => rw [sumR_succ, sumR_succ, sumR_succ, ih]; omega
theorem sumR_out {n a : Nat} (ha : a < n) (f : Nat → Int) : sumR n f = f a + sumR n fun i => if i = a then 0 else f i := by
  induction n with
  | zero => omega
  | succ n ih =>
    rw [sumR_succ, sumR_succ]
    by_cases e : a = n
    · subst e
      rw [if_pos rfl, sumR_congr (f := f) (g := fun i => if i = a then 0 else f i) fun i hi => by rw [if_neg (by omega)]]
      omega
    · rw [ih (by omega), if_neg (show ¬ n = a from fun h => e h.symm)]
      omega
def rest (n a b : Nat) (f : Nat → Int) : Int := sumR n fun i => if i ≠ a ∧ i ≠ b then f i else 0
theorem sumR_out2 {n a b : Nat} (ha : a < n) (hb : b < n) (hab : a ≠ b) (f : Nat → Int) : sumR n f = f a + f b + rest n a b f := by
  rw [sumR_out ha f, sumR_out hb fun i => if i = a then 0 else f i, if_neg (fun h => hab h.symm), ← Int.add_assoc]
  refine congrArg (f a + f b + ·) (sumR_congr fun i _ => ?_)
  by_cases e : i = a <;> by_cases e' : i = b <;> simp [e, e']
theorem rest_congr {n a b : Nat} {f g : Nat → Int} (h : ∀ i, i < n → i ≠ a → i ≠ b → f i = g i) : rest n a b f = rest n a b g := sumR_congr fun i hi => by
  by_cases c : i ≠ a ∧ i ≠ b
  · rw [if_pos c, if_pos c, h i hi c.1 c.2]
  · rw [if_neg c, if_neg c]
theorem rest_add {n a b : Nat} {f g : Nat → Int} : rest n a b (fun i => f i + g i) = rest n a b f + rest n a b g := by
  unfold rest
  rw [← sumR_add]
  refine sumR_congr fun i _ => ?_
  by_cases c : i ≠ a ∧ i ≠ b
  · rw [if_pos c, if_pos c, if_pos c]
  · rw [if_neg c, if_neg c, if_neg c]; rfl
theorem rest_sub {n a b : Nat} {f g : Nat → Int} : rest n a b (fun i => f i - g i) = rest n a b f - rest n a b g := by
  unfold rest
  rw [← sumR_sub]
  refine sumR_congr fun i _ => ?_
  by_cases c : i ≠ a ∧ i ≠ b
  · rw [if_pos c, if_pos c, if_pos c]
  · rw [if_neg c, if_neg c, if_neg c]; rfl
def swp (p : Nat → Nat) (a b : Nat) : Nat → Nat := fun i => if i = b then p a else if i = a then p b else p i
theorem swp_a {p : Nat → Nat} {a b : Nat} : swp p a b a = p b := by
  unfold swp
  by_cases e : a = b
  · rw [if_pos e, e]
  · rw [if_neg e, if_pos rfl]
theorem swp_b {p : Nat → Nat} {a b : Nat} : swp p a b b = p a := by unfold swp; rw [if_pos rfl]
theorem swp_o {p : Nat → Nat} {a b i : Nat} (h : i ≠ a) (h' : i ≠ b) : swp p a b i = p i := by unfold swp; rw [if_neg h', if_neg h]
theorem swp_self {p : Nat → Nat} {a : Nat} : swp p a a = p := by
  funext i
  by_cases e : i = a
  · rw [e, swp_a]
  · exact swp_o e e
theorem swp_lt {p : Nat → Nat} {a b n : Nat} (hp : ∀ i, i < n → p i < n) (ha : a < n) (hb : b < n) : ∀ i, i < n → swp p a b i < n := fun i hi => by
  unfold swp
  by_cases e : i = b
  · rw [if_pos e]; exact hp a ha
  · rw [if_neg e]
    by_cases e' : i = a
    · rw [if_pos e']; exact hp b hb
    · rw [if_neg e']; exact hp i hi
theorem swp_inj {p : Nat → Nat} {a b n : Nat} (hp : ∀ i j, i < n → j < n → p i = p j → i = j) (ha : a < n) (hb : b < n) : ∀ i j, i < n → j < n → swp p a b i = swp p a b j → i = j := fun i j hi hj e => by
  unfold swp at e
  by_cases e1 : i = b <;> by_cases e2 : j = b <;> by_cases e3 : i = a <;> by_cases e4 : j = a <;> simp only [e1, e2, e3, e4, if_true, if_false] at e ⊢ <;> first
    | (have := hp _ _ (by assumption) (by assumption) e; omega)
    | omega
    | (subst_vars; simp_all; first | done | (have := hp _ _ (by assumption) (by assumption) e; omega))
def costV (n : Nat) (F W C : Nat → Nat → Int) (p : Nat → Nat) : Int := sumR n fun i => C i (p i) + sumR n fun j => F i j * W (p i) (p j)
def besV (n : Nat) (F W C : Nat → Nat → Int) (p : Nat → Nat) (a b : Nat) : Int := C a (p a) + C b (p b) - C a (p b) - C b (p a) +
  sumR n fun k => if k ≠ a ∧ k ≠ b then (F a k - F b k) * (W (p a) (p k) - W (p b) (p k)) + (F k a - F k b) * (W (p k) (p a) - W (p k) (p b)) else 0
def savV (n : Nat) (F W C : Nat → Nat → Int) (p : Nat → Nat) (a b : Nat) : Int := if a = b then 0 else besV n F W C p a b + (F a b - F b a) * (W (p a) (p b) - W (p b) (p a))
theorem sav_eq {n : Nat} {F W C : Nat → Nat → Int} {p : Nat → Nat} {a b : Nat} (ha : a < n) (hb : b < n) (h0 : ∀ i, i < n → F i i = 0) :
    savV n F W C p a b = costV n F W C p - costV n F W C (swp p a b) := by
  unfold savV
  by_cases hab : a = b
  · subst hab
    rw [if_pos rfl, swp_self]; omega
  rw [if_neg hab]
  have row : ∀ (q : Nat → Nat) i, (sumR n fun j => F i j * W (q i) (q j)) = F i a * W (q i) (q a) + F i b * W (q i) (q b) + rest n a b fun j => F i j * W (q i) (q j) := fun q i => sumR_out2 ha hb hab _
  have cost : ∀ q : Nat → Nat, costV n F W C q = (C a (q a) + (sumR n fun j => F a j * W (q a) (q j))) + (C b (q b) + (sumR n fun j => F b j * W (q b) (q j))) + rest n a b fun i => C i (q i) + sumR n fun j => F i j * W (q i) (q j) := fun q => sumR_out2 ha hb hab _
  have hr : ∀ q q' : Nat → Nat, (∀ i, i ≠ a → i ≠ b → q' i = q i) → q' a = q b → q' b = q a →
      (rest n a b fun i => C i (q i) + sumR n fun j => F i j * W (q i) (q j)) - (rest n a b fun i => C i (q' i) + sumR n fun j => F i j * W (q' i) (q' j)) = rest n a b fun k => (F k a - F k b) * (W (q k) (q a) - W (q k) (q b)) := fun q q' hq qa qb => by
    rw [← rest_sub]
    refine rest_congr fun i hi h1 h2 => ?_
    have hi' : q' i = q i := hq i h1 h2
    have e1 := row q i
    have e2 := row q' i
    rw [hi', qa, qb] at e2
    have e3 : (rest n a b fun j => F i j * W (q i) (q' j)) = rest n a b fun j => F i j * W (q i) (q j) := rest_congr fun j _ j1 j2 => by rw [hq j j1 j2]
    rw [e3] at e2
    simp only [hi'] at e2 ⊢
    rw [e1, e2]
    simp only [Int.sub_mul, Int.mul_sub]
    omega
  have hr2 := hr p (swp p a b) (fun i h1 h2 => swp_o h1 h2) swp_a swp_b
  rw [cost p, cost (swp p a b), row p a, row p b, row (swp p a b) a, row (swp p a b) b, swp_a, swp_b, h0 a ha, h0 b hb]
  have ea : (rest n a b fun j => F a j * W (p b) (swp p a b j)) = rest n a b fun j => F a j * W (p b) (p j) := rest_congr fun j _ j1 j2 => by rw [swp_o j1 j2]
  have eb : (rest n a b fun j => F b j * W (p a) (swp p a b j)) = rest n a b fun j => F b j * W (p a) (p j) := rest_congr fun j _ j1 j2 => by rw [swp_o j1 j2]
  rw [ea, eb]
  have es : (sumR n fun k => if k ≠ a ∧ k ≠ b then (F a k - F b k) * (W (p a) (p k) - W (p b) (p k)) + (F k a - F k b) * (W (p k) (p a) - W (p k) (p b)) else 0) =
      ((rest n a b fun k => F a k * W (p a) (p k)) - (rest n a b fun k => F a k * W (p b) (p k))) - ((rest n a b fun k => F b k * W (p a) (p k)) - (rest n a b fun k => F b k * W (p b) (p k))) + rest n a b fun k => (F k a - F k b) * (W (p k) (p a) - W (p k) (p b)) := by
    rw [← rest_sub, ← rest_sub, ← rest_sub, ← rest_add]
    refine rest_congr (n := n) (a := a) (b := b) fun k _ _ _ => ?_
    simp only [Int.sub_mul, Int.mul_sub]
    omega
  unfold besV
  rw [es]
  simp only [Int.sub_mul, Int.mul_sub] at hr2 ⊢
  omega
theorem pigeon : ∀ (B : Nat) (l : List Nat), l.Nodup → (∀ x ∈ l, x < B) → l.length ≤ B
  | 0, [], _, _ => Nat.le_refl _
  | 0, x :: l, _, h => absurd (h x (List.mem_cons_self ..)) (Nat.not_lt_zero _)
  | B + 1, l, hn, h => by
    have h1 := pigeon B (l.erase B) (hn.erase B) fun x hx => by
      have hm := (hn.mem_erase_iff).mp hx
      have := h x hm.2
      omega
    have h2 : l.length ≤ (l.erase B).length + 1 := by
      by_cases c : B ∈ l
      · rw [List.length_erase_of_mem c]; omega
      · rw [List.erase_of_not_mem c]; omega
    omega
theorem nodup_tabl {n : Nat} {p : Nat → Nat} (hi : ∀ i j, i < n → j < n → p i = p j → i = j) : (tabl n p).Nodup := by
  refine List.pairwise_map.mpr ?_
  refine (List.nodup_range (n := n)).imp_of_mem fun {a b} ha hb hab e => hab (hi a b (List.mem_range.mp ha) (List.mem_range.mp hb) e)
theorem surj_of {n : Nat} {p : Nat → Nat} (hp : ∀ i, i < n → p i < n) (hi : ∀ i j, i < n → j < n → p i = p j → i = j) {v : Nat} (hv : v < n) : ∃ j, j < n ∧ p j = v := by
  refine Classical.byContradiction fun c => ?_
  have c' : ∀ j, j < n → p j ≠ v := fun j hj e => c ⟨j, hj, e⟩
  have h := pigeon n (v :: tabl n p) (List.nodup_cons.mpr ⟨fun z => by
      obtain ⟨j, hj, e⟩ := List.mem_map.mp z
      exact c' j (List.mem_range.mp hj) e, nodup_tabl hi⟩) fun x hx => by
    rcases List.mem_cons.mp hx with rfl | hx
    · exact hv
    · obtain ⟨j, hj, rfl⟩ := List.mem_map.mp hx
      exact hp j (List.mem_range.mp hj)
  rw [List.length_cons, tabl_len] at h
  omega
def code (b : Nat) (q : Nat → Nat) : Nat → Nat
  | 0 => 0
  | k + 1 => code b q k + q k * b ^ k
theorem code_lt {b : Nat} {q : Nat → Nat} : ∀ k, (∀ i, i < k → q i < b) → code b q k < b ^ k
  | 0, _ => Nat.one_pos
  | k + 1, h => by
    have h1 := code_lt (b := b) (q := q) k fun i hi => h i (by omega)
    have h2 : (q k + 1) * b ^ k ≤ b * b ^ k := Nat.mul_le_mul_right _ (h k (by omega))
    show code b q k + q k * b ^ k < b ^ (k + 1)
    rw [Nat.pow_succ, Nat.mul_comm (b ^ k) b]
    rw [Nat.add_mul, Nat.one_mul] at h2
    omega
theorem code_inj {b : Nat} {q q' : Nat → Nat} : ∀ k, (∀ i, i < k → q i < b) → (∀ i, i < k → q' i < b) → code b q k = code b q' k → ∀ i, i < k → q i = q' i
  | 0, _, _, _ => fun i hi => absurd hi (Nat.not_lt_zero _)
  | k + 1, h, h', e => by
    have h1 := code_lt (b := b) (q := q) k fun i hi => h i (by omega)
    have h2 := code_lt (b := b) (q := q') k fun i hi => h' i (by omega)
    have e : code b q k + q k * b ^ k = code b q' k + q' k * b ^ k := e
    have e1 : (code b q k + q k * b ^ k) / b ^ k = q k := by rw [Nat.add_mul_div_right _ _ (by omega), Nat.div_eq_of_lt h1, Nat.zero_add]
    have e2 : (code b q' k + q' k * b ^ k) / b ^ k = q' k := by rw [Nat.add_mul_div_right _ _ (by omega), Nat.div_eq_of_lt h2, Nat.zero_add]
    have e3 : q k = q' k := by rw [← e1, ← e2, e]
    rw [e3] at e
    intro i hi
    by_cases c : i = k
    · rw [c]; exact e3
    · exact code_inj k (fun i hi => h i (by omega)) (fun i hi => h' i (by omega)) (by omega) i (by omega)
theorem costV_congr {n : Nat} {F W C : Nat → Nat → Int} {p q : Nat → Nat} (h : ∀ i, i < n → p i = q i) : costV n F W C p = costV n F W C q := by
  unfold costV
  refine sumR_congr fun i hi => ?_
  rw [h i hi]
  exact congrArg (C i (q i) + ·) (sumR_congr fun j hj => by rw [h j hj])
theorem code_cost {n : Nat} {F W C : Nat → Nat → Int} {p q : Nat → Nat} (hp : ∀ i, i < n → p i < n) (hpi : ∀ i j, i < n → j < n → p i = p j → i = j) (hq : ∀ i, i < n → q i < n) (hqi : ∀ i j, i < n → j < n → q i = q j → i = j)
    (e : code n p (n - 1) = code n q (n - 1)) : costV n F W C p = costV n F W C q := by
  have h := code_inj (n - 1) (fun i hi => hp i (by omega)) (fun i hi => hq i (by omega)) e
  refine costV_congr fun i hi => ?_
  by_cases c : i < n - 1
  · exact h i c
  · obtain ⟨j, hj, ej⟩ := surj_of hq hqi (hp i hi)
    by_cases cj : j < n - 1
    · have := hpi j i (by omega) hi (by rw [h j cj, ej])
      omega
    · have : j = i := by omega
      rw [← ej, this]
end PA

namespace DCA
open PySem PySem.Spec PyProof.Rows L2 DL
noncomputable section
def sem__law_bag : SF :=
  (sSeq (sSet 1 (eP (pC (.int 314159265))))
    (sSeq (sForX (iSq (pVar 0)) (gNm 2) (sSet 1 (eP (pOp oMod (pOp oAdd (pOp oMul (pVar 1) (pC (.int 40014))) (pVar 2)) (pC (.int 2147483563))))))
    (sRet (eP (pLst (gCons (pCall oList (gCons (pVar 0) gNil)) (gCons (pC (.int 0)) (gCons (pVar 1) gNil))))))))
@[irreducible] def cf__law_bag : CF := hid (cfOf 2 [false] sem__law_bag)
theorem cf__law_bag_eq : cf__law_bag = cfOf 2 [false] sem__law_bag := by unfold cf__law_bag; rw [hid_eq]
def sem__law_dip : SF :=
  (sSeq (sIf (teP (tAnd (pTest (pOp oEq (pOp xIx (pVar 0) (pC (.int 1))) (pC (.int 0)))) (pTest (pOp oGt (pCall oLen (gCons (pOp xIx (pVar 0) (pC (.int 0))) gNil)) (pC (.int 0)))))) (sSeq (sSet 2 (eMthP xPopAt (plIxX (plVar 0) (pC (.int 0))) (gCons (pC (.int 0)) gNil)))
    (sSeq (sIf (teP (pTest (pOp oLt (pCall oAbs (gCons (pVar 2) gNil)) (pOp oPow (pC (.int 10)) (pC (.int 18)))))) (sRet (eP (pOp oMod (pVar 2) (pVar 1)))) sNil)
    (sStIxX (eP (pCall oAbs (gCons (pVar 2) gNil))) (plVar 0) (pC (.int 1))))) sNil)
    (sSeq (sIf (teP (pTest (pOp oGt (pOp xIx (pVar 0) (pC (.int 1))) (pC (.int 0))))) (sSeq (sSet 3 (eP (pOp oMod (pOp xIx (pVar 0) (pC (.int 1))) (pVar 1))))
    (sSeq (sStIxX (eP (pOp oFdiv (pOp xIx (pVar 0) (pC (.int 1))) (pVar 1))) (plVar 0) (pC (.int 1)))
    (sRet (eMv 3)))) sNil)
    (sSeq (sStIxX (eP (pOp oMod (pOp oAdd (pOp oMul (pOp xIx (pVar 0) (pC (.int 2))) (pOp xIx (pVar 0) (pC (.int 2)))) (pC (.int 40692))) (pC (.int 2147483563)))) (plVar 0) (pC (.int 2)))
    (sRet (eP (pOp oMod (pOp oFdiv (pOp xIx (pVar 0) (pC (.int 2))) (pC (.int 32))) (pVar 1)))))))
@[irreducible] def cf__law_dip : CF := hid (cfOf 2 [true, false] sem__law_dip)
theorem cf__law_dip_eq : cf__law_dip = cfOf 2 [true, false] sem__law_dip := by unfold cf__law_dip; rw [hid_eq]
def sem__law_entry : SF :=
  (sSeq (sIf (teP (pTest (pOp oEq (pVar 1) (pC (.int 0))))) (sRet (eFn [true, false] cf__law_dip (aPl 0 (aE (eP (pOp oAdd (pVar 2) (pC (.int 1)))) aNil)))) sNil)
    (sSeq (sIf (teP (pTest (pOp oEq (pVar 1) (pC (.int 1))))) (sRet (eFn [true, false] cf__law_dip (aPl 0 (aE (eP (pC (.int 4))) aNil)))) sNil)
    (sSeq (sIf (teP (pTest (pOp oEq (pVar 1) (pC (.int 2))))) (sRet (eOp oMul (eMv 2) (eFn [true, false] cf__law_dip (aPl 0 (aE (eP (pC (.int 2))) aNil))))) sNil)
    (sRet (eOp oMul (eFn [true, false] cf__law_dip (aPl 0 (aE (eP (pC (.int 40))) aNil))) (eCallB oInt (aE (eOp oEq (eFn [true, false] cf__law_dip (aPl 0 (aE (eP (pC (.int 3))) aNil))) (eP (pC (.int 0)))) aNil)))))))
@[irreducible] def cf__law_entry : CF := hid (cfOf 0 [true, false, false] sem__law_entry)
def sem__law_square : SF :=
  (sSeq (sSet 4 (eFn [true, false] cf__law_dip (aPl 0 (aE (eP (pC (.int 4))) aNil))))
    (sSeq (sSet 5 (eP (pLst gNil)))
    (sSeq (sForX (jR1 (gCons (pVar 1) gNil)) (gNm 6) (sSeq (sSet 7 (eLcX (jR1 (gCons (pVar 1) gNil)) [8] (gNm 8) tNilP (eFn [true, false, false] cf__law_entry (aPl 0 (aE (eMv 4) (aE (eMv 2) aNil))))))
    (sSeq (sStIxX (eP (pOp oMul (pOp xIx (pVar 7) (pVar 6)) (pCall oInt (gCons (pUn uNot (pVar 3)) gNil)))) (plVar 7) (pVar 6))
    (sExpr (eMthR mAppend 5 (aE (eP (pCall oTuple (gCons (pVar 7) gNil))) aNil))))))
    (sRet (eP (pCall oTuple (gCons (pVar 5) gNil)))))))
@[irreducible] def cf__law_square : CF := hid (cfOf 5 [true, false, false, false] sem__law_square)
def sem__law_job : SF :=
  (sSeq (sSet 2 (eOp oAdd (eP (pC (.int 1))) (eFn [true, false] cf__law_dip (aPl 0 (aE (eMv 1) aNil)))))
    (sSeq (sSet 3 (eFn [true, false, false, false] cf__law_square (aPl 0 (aE (eMv 2) (aE (eP (pC (.int 999))) (aE (eP (pC (.bl true))) aNil))))))
    (sSeq (sSet 4 (eFn [true, false, false, false] cf__law_square (aPl 0 (aE (eMv 2) (aE (eP (pC (.int 999))) (aE (eP (pC (.bl true))) aNil))))))
    (sRet (eTup (aE (eMv 3) (aE (eMv 4) (aE (eFn [true, false, false, false] cf__law_square (aPl 0 (aE (eMv 2) (aE (eP (pC (.int 1000000))) (aE (eP (pC (.bl false))) aNil))))) aNil))))))))
@[irreducible] def cf__law_job : CF := hid (cfOf 3 [true, false] sem__law_job)
def sem__law_other_job : SF :=
  (sSeq (sSet 2 (eP (pCall oList (gCons (pVar 1) gNil))))
    (sSeq (sForX (jR1 (gCons (pC (.int 2)) gNil)) (gNm 3) (sSeq (sSet 4 (eFn [true, false] cf__law_dip (aPl 0 (aE (eP (pC (.int 3))) aNil))))
    (sStIxX (eFn [true, false, false, false] cf__law_square (aPl 0 (aE (eP (pCall oLen (gCons (pOp xIx (pVar 1) (pC (.int 0))) gNil))) (aE (eP (pOp xIx (pLst (gCons (pC (.int 999)) (gCons (pC (.int 999)) (gCons (pC (.int 1000000)) gNil)))) (pVar 4))) (aE (eP (pOp oLt (pVar 4) (pC (.int 2)))) aNil))))) (plVar 2) (pVar 4))))
    (sRet (eP (pCall oTuple (gCons (pVar 2) gNil))))))
@[irreducible] def cf__law_other_job : CF := hid (cfOf 3 [true, false] sem__law_other_job)
def sem__law_order : SF :=
  (sSeq (sSet 2 (eP (pLR1X (pVar 1))))
    (sRet (eCallB oTuple (aE (eLcX (jR1 (gCons (pVar 1) gNil)) [3] (gNm 3) tNilP (eMthR xPopAt 2 (aE (eFn [true, false] cf__law_dip (aPl 0 (aE (eP (pCall oLen (gCons (pVar 2) gNil))) aNil))) aNil))) aNil))))
@[irreducible] def cf__law_order : CF := hid (cfOf 2 [true, false] sem__law_order)
def sem_fixed : SF :=
  (sSeq (sAsg (eMv 0) (gTu 3 (tConsG (gNm 2) (tConsG (gNm 3) (tConsG (gNm 4) tNilG)))))
    (sSeq (sSet 5 (eP (pLcX (jR1 (gCons (pCall oLen (gCons (pVar 1) gNil)) gNil)) [9] (gNm 9) (pTest (pOp oNotN (pOp xIx (pVar 1) (pVar 9)) (pC .non))) (pVar 9))))
    (sSeq (sSet 6 (eP (pCall oSum (gCons (pLcX (iSq (pVar 5)) [9] (gNm 9) tNilP (pOp xIx (pOp xIx (pVar 4) (pVar 9)) (pOp xIx (pVar 1) (pVar 9)))) gNil))))
    (sFrz 5 (sSeq (sForX (iSq (pVar 5)) (gNm 7) (sForX (iSq (pVar 5)) (gNm 8) (sSet 6 (eP (pOp oAdd (pVar 6) (pOp oMul (pOp xIx (pOp xIx (pVar 2) (pVar 7)) (pVar 8)) (pOp xIx (pOp xIx (pVar 3) (pOp xIx (pVar 1) (pVar 7))) (pOp xIx (pVar 1) (pVar 8)))))))))
    (sRet (eMv 6)))))))
@[irreducible] def cf_fixed : CF := hid (cfOf 8 [false, false] sem_fixed)
theorem cf_fixed_eq : cf_fixed = cfOf 8 [false, false] sem_fixed := by unfold cf_fixed; rw [hid_eq]
def sem_cost : SF :=
  (sRet (eP (pFn cf_fixed (gCons (pVar 0) (gCons (pVar 1) gNil)))))
@[irreducible] def cf_cost : CF := hid (cfOf 0 [false, false] sem_cost)
theorem cf_cost_eq : cf_cost = cfOf 0 [false, false] sem_cost := by unfold cf_cost; rw [hid_eq]
end
end DCA

namespace DCA
open PySem PySem.Spec PyProof.Rows L2 DL
theorem pos0 : (0 : Int) < 2147483563 := by decide
abbrev BagD (ns : List Int) (m x : Int) : D := .lst [.lst (ns.map .int), .int m, .int x]
def Bag (d : D) : Prop := ∃ ns m x, d = BagD ns m x ∧ 0 ≤ m ∧ 0 ≤ x ∧ x < 2147483563 ∧ ns.length ≤ 63
theorem bag_spec {ns : List Int} {Q X} (hn : ns.length ≤ 63) (h : ∀ d, Bag d → Q (.ow, d) []) : cf__law_bag [(.fl, .kst (ns.map .int))] Q X := by
  rw [cf__law_bag_eq]
  refine go_For (fun i ρ => ∃ x o, 0 ≤ x ∧ x < 2147483563 ∧ ρ = [some (.fl, .kst (ns.map .int)), some (.fl, .int x), o]) ⟨314159265, none, by decide, by decide, rfl⟩ (fun i z ρ N hz hI hN => ?_) fun ρ hI => ?_
  · obtain ⟨x, o, h0, h1, rfl⟩ := hI
    obtain ⟨c, rfl⟩ : ∃ c, z = (.fl, .int c) := by
      rw [List.map_map, List.getElem?_map] at hz
      cases e : ns[i]? with
      | none => rw [e] at hz; cases hz
      | some c => rw [e] at hz; exact ⟨c, (Option.some.inj hz).symm⟩
    refine ⟨.inl (by omega), ⟨pos0, hN _ ⟨_, _, ?_, ?_, rfl⟩⟩⟩
    · exact Int.emod_nonneg _ (by decide)
    · exact Int.emod_lt_of_pos _ (by decide)
  · obtain ⟨x, o, h0, h1, rfl⟩ := hI
    exact h _ ⟨ns, 0, x, rfl, by decide, h0, h1, hn⟩
theorem dip_tail {ns : List Int} {m x many : Int} {o : Sl} {De : DEnds} (h0 : 0 ≤ m) (h1 : 0 ≤ x) (h2 : x < 2147483563) (h3 : ns.length ≤ 63) (hm : 0 < many) (hm2 : many ≤ 1000000000000000000000000000000000000000000000000000000000000)
    (h : ∀ r d o o', 0 ≤ r → r < many → Bag d → De.rt (.fl, .int r) [some (.ow, d), some (.fl, .int many), o, o']) :
    (sSeq (sIf (teP (pTest (pOp oGt (pOp xIx (pVar 0) (pC (.int 1))) (pC (.int 0))))) (sSeq (sSet 3 (eP (pOp oMod (pOp xIx (pVar 0) (pC (.int 1))) (pVar 1))))
    (sSeq (sStIxX (eP (pOp oFdiv (pOp xIx (pVar 0) (pC (.int 1))) (pVar 1))) (plVar 0) (pC (.int 1)))
    (sRet (eMv 3)))) sNil)
    (sSeq (sStIxX (eP (pOp oMod (pOp oAdd (pOp oMul (pOp xIx (pVar 0) (pC (.int 2))) (pOp xIx (pVar 0) (pC (.int 2)))) (pC (.int 40692))) (pC (.int 2147483563)))) (plVar 0) (pC (.int 2)))
    (sRet (eP (pOp oMod (pOp oFdiv (pOp xIx (pVar 0) (pC (.int 2))) (pC (.int 32))) (pVar 1)))))) De [some (.ow, BagD ns m x), some (.fl, .int many), o, none] := by
  refine go_ix rfl rfl (ifd (fun hp => ?_) fun hp => ?_)
  · refine go_ix rfl rfl ⟨hm, go_ix rfl rfl ⟨⟨hm, by omega⟩, go_st rfl rfl ?_⟩⟩
    exact h _ _ _ _ (Int.emod_nonneg _ (by omega)) (Int.emod_lt_of_pos _ hm) ⟨ns, m / many, x, rfl, Int.ediv_nonneg h0 (by omega), h1, h2, h3⟩
  · refine go_ix rfl rfl (go_ix rfl rfl ⟨.inl (by omega), ⟨pos0, go_st rfl rfl (go_ix rfl rfl ⟨⟨by decide, by decide⟩, ⟨hm, ?_⟩⟩)⟩⟩)
    exact h _ _ _ _ (Int.emod_nonneg _ (by omega)) (Int.emod_lt_of_pos _ hm) ⟨ns, m, _, rfl, h0, Int.emod_nonneg _ (by decide), Int.emod_lt_of_pos _ (by decide), h3⟩
theorem dip_spec {d : D} {many : Int} {Q X} (hd : Bag d) (hm : 0 < many) (hm2 : many ≤ 1000000000000000000000000000000000000000000000000000000000000) (h : ∀ r d, 0 ≤ r → r < many → Bag d → Q (.fl, .int r) [(.ow, d)]) : cf__law_dip [(.ow, d), (.fl, .int many)] Q X := by
  rw [cf__law_dip_eq]
  obtain ⟨ns, m, x, rfl, h0, h1, h2, h3⟩ := hd
  refine go_ix rfl rfl (ifd (fun hp => go_ix rfl rfl (ifd (fun hq => ?_) fun hq => ?_)) fun hp => ?_)
  · cases ns with
    | nil => exact absurd hq (by simp)
    | cons c ns =>
      refine go_pl rfl rfl rfl ⟨rfl, go_popAt (j := 0) (.inr rfl) (by rw [List.length_map]; omega) (ixN_ok (i := 0) (by simp)) rfl ?_⟩
      refine ⟨⟨by decide, by decide, by decide⟩, ifd (fun hs => ⟨hm, ?_⟩) fun hs => go_st rfl rfl ?_⟩
      · exact h _ _ (Int.emod_nonneg _ (by omega)) (Int.emod_lt_of_pos _ hm) ⟨ns, m, x, rfl, h0, h1, h2, by rw [List.length_cons] at h3; omega⟩
      · exact dip_tail (ns := ns) (by split <;> omega) h1 h2 (by rw [List.length_cons] at h3; omega) hm hm2 fun r d _ _ a b c => h r d a b c
  · exact dip_tail h0 h1 h2 h3 hm hm2 fun r d _ _ a b c => h r d a b c
  · exact dip_tail h0 h1 h2 h3 hm hm2 fun r d _ _ a b c => h r d a b c
abbrev tabD (n : Nat) (f : Nat → Nat → Int) : D := .tup (tabl n fun i => .tup (tabl n fun j => .int (f i j)))
theorem dip_specN {d : D} {many : Int} {Q X} (hd : Bag d) (hm : 0 < many) (hm2 : many ≤ 1000000000000000000000000000000000000000000000000000000000000) (h : ∀ (r : Nat) d, (r : Int) < many → Bag d → Q (.fl, .int r) [(.ow, d)]) : cf__law_dip [(.ow, d), (.fl, .int many)] Q X :=
  dip_spec hd hm hm2 fun r d a b c => by
    obtain ⟨n, rfl⟩ := Int.eq_ofNat_of_zero_le a
    exact h n d b c
def Tab (n : Nat) (b : Int) (f : Nat → Nat → Int) : Prop := ∀ i j, i < n → j < n → 0 ≤ f i j ∧ f i j ≤ b
def Bare (n : Nat) (f : Nat → Nat → Int) : Prop := ∀ i, i < n → f i i = 0
abbrev jobD (n : Nat) (F W C : Nat → Nat → Int) : D := .tup [tabD n F, tabD n W, tabD n C]
theorem Tab.mono {n : Nat} {b c : Int} {f : Nat → Nat → Int} (h : Tab n b f) (hb : b ≤ c) : Tab n c f := fun i j hi hj => ⟨(h i j hi hj).1, Int.le_trans (h i j hi hj).2 hb⟩
structure Job (n : Nat) (F W C : Nat → Nat → Int) : Prop where
  f : Tab n 1000040 F
  w : Tab n 1000040 W
  c : Tab n 1000040 C
  f0 : Bare n F
  w0 : Bare n W
theorem Tab.mul {n : Nat} {f : Nat → Nat → Int} (h : Tab n 1000040 f) {i j : Nat} (hi : i < n) (hj : j < n) (x : Int) : CMul (f i j) x := .inl (by have := h i j hi hj; omega)
abbrev layD (n : Nat) (p : Nat → Nat) : D := .tup (tabl n fun i => .int (p i : Nat))
structure Perm (n : Nat) (p : Nat → Nat) : Prop where
  lt : ∀ i, i < n → p i < n
  inj : ∀ i j, i < n → j < n → p i = p j → i = j
def optD : Option Nat → D
  | some a => .int a
  | none => .non
abbrev partD (n : Nat) (q : Nat → Option Nat) : D := .tup (tabl n fun i => optD (q i))
structure Part (n : Nat) (q : Nat → Option Nat) : Prop where
  lt : ∀ i a, i < n → q i = some a → a < n
  inj : ∀ i j a, i < n → j < n → q i = some a → q j = some a → i = j
abbrev laidL (n : Nat) (q : Nat → Option Nat) : List Nat := (List.range n).filter fun i => (q i).isSome
def partV (n : Nat) (F W C : Nat → Nat → Int) (q : Nat → Option Nat) : Int :=
  ((laidL n q).map fun i => C i ((q i).getD 0)).sum + ((laidL n q).map fun i => ((laidL n q).map fun j => F i j * W ((q i).getD 0) ((q j).getD 0)).sum).sum
theorem laid_mem {n : Nat} {q : Nat → Option Nat} {k i : Nat} (h : (laidL n q)[k]? = some i) : i < n ∧ ∃ a, q i = some a := by
  have m := List.mem_of_getElem? h
  obtain ⟨m1, m2⟩ := List.mem_filter.mp m
  refine ⟨List.mem_range.mp m1, ?_⟩
  cases e : q i with
  | none => rw [e] at m2; cases m2
  | some a => exact ⟨a, rfl⟩
theorem laid_len (n : Nat) (q : Nat → Option Nat) : (laidL n q).length ≤ n := by
  have := List.length_filter_le (fun i => (q i).isSome) (List.range n)
  rw [List.length_range] at this; exact this
theorem fixedP_spec {n : Nat} {F W C : Nat → Nat → Int} {q : Nat → Option Nat} {kp : Kd} {Q X} (hn : n ≤ 1000) (hp : ∀ i a, i < n → q i = some a → a < n)
    (hF : Tab n 1000040 F) (h : Q (.fl, .int (partV n F W C q)) []) :
    cf_fixed [(.fl, jobD n F W C), (kp, partD n q)] Q X := by
  rw [cf_fixed_eq]
  refine ⟨rfl, rfl, go_R1 (n := n) (by rw [tabl_len]) (by omega) ?_⟩
  refine go_LcF0 (fun i => (q i).isSome) (fun i => .int i) (by omega) (fun i N hi h1 h0 => ?_) ?_
  · cases e : q i with
    | none => exact go_tabE (d := .non) hi (by rw [e]; rfl) ⟨rfl, h0 (by rw [e]; rfl)⟩
    | some a => exact go_tabE (d := .int a) hi (by rw [e]; rfl) ⟨rfl, h1 (by rw [e]; rfl)⟩
  have hle := laid_len n q
  refine go_LcL (fun i => .int (C i ((q i).getD 0))) (Nat.le_trans hle (by omega)) (fun k i N hk hN => ?_) (go_sumL ?_)
  · obtain ⟨hi, a, e⟩ := laid_mem hk
    rw [e] at hN
    exact go_tab hi (go_tabE (d := .int a) hi (by rw [e]; rfl) (go_tab (hp i a hi e) hN))
  refine go_ForL (fun k ρ => ∃ o t, ρ = [some (.fl, jobD n F W C), some (kp, partD n q), some (.fl, tabD n F), some (.fl, tabD n W), some (.fl, tabD n C), some (.sa, .lst ((laidL n q).map fun i : Nat => .int i)),
      some (.fl, .int (((laidL n q).map fun i => C i ((q i).getD 0)).sum + (((laidL n q).take k).map fun i => ((laidL n q).map fun j => F i j * W ((q i).getD 0) ((q j).getD 0)).sum).sum)), o, t, none])
    ⟨none, none, ?_⟩ (fun k i ρ N hk hI hN => ?_) fun ρ hI => ?_
  · show _ = [_, _, _, _, _, _, some (Kd.fl, D.int (_ + 0)), _, _, _]
    rw [Int.add_zero]; rfl
  · obtain ⟨o, t, rfl⟩ := hI
    obtain ⟨hi, a, e⟩ := laid_mem hk
    refine go_ForL (fun l ρ => ∃ t, ρ = [some (.fl, jobD n F W C), some (kp, partD n q), some (.fl, tabD n F), some (.fl, tabD n W), some (.fl, tabD n C), some (.sa, .lst ((laidL n q).map fun i : Nat => .int i)),
      some (.fl, .int (((laidL n q).map fun i => C i ((q i).getD 0)).sum + (((laidL n q).take k).map fun i => ((laidL n q).map fun j => F i j * W ((q i).getD 0) ((q j).getD 0)).sum).sum
        + (((laidL n q).take l).map fun j => F i j * W ((q i).getD 0) ((q j).getD 0)).sum)), some (.fl, .int i), t, none])
      ⟨t, ?_⟩ (fun l j ρ N hl hJ hN => ?_) fun ρ hJ => ?_
    · show _ = [_, _, _, _, _, _, some (Kd.fl, D.int (_ + 0)), _, _, _]
      rw [Int.add_zero]; rfl
    · obtain ⟨t, rfl⟩ := hJ
      obtain ⟨hj, b, e2⟩ := laid_mem hl
      have key := hN [some (.fl, jobD n F W C), some (kp, partD n q), some (.fl, tabD n F), some (.fl, tabD n W), some (.fl, tabD n C), some (.sa, .lst ((laidL n q).map fun i : Nat => .int i)),
        some (.fl, .int (((laidL n q).map fun i => C i ((q i).getD 0)).sum + (((laidL n q).take k).map fun i => ((laidL n q).map fun j => F i j * W ((q i).getD 0) ((q j).getD 0)).sum).sum
        + (((laidL n q).take l).map fun j => F i j * W ((q i).getD 0) ((q j).getD 0)).sum + F i j * W a b)), some (.fl, .int i), some (.fl, .int j), none] ⟨some (.fl, .int j), by
          rw [take_sum hl, e, e2, ← Int.add_assoc]; rfl⟩
      refine go_tab hi (go_tab hj (go_tabE (d := .int a) hi (by rw [e]; rfl) (go_tab (hp i a hi e) (go_tabE (d := .int b) hj (by rw [e2]; rfl) (go_tab (hp j b hj e2) ⟨hF.mul hi hj _, key⟩)))))
    · obtain ⟨t, rfl⟩ := hJ
      refine hN _ ⟨some (.fl, .int i), t, ?_⟩
      rw [List.take_length, take_sum hk, ← Int.add_assoc]
  · obtain ⟨o, t, rfl⟩ := hI
    rw [List.take_length]
    exact h
def fixedV (n : Nat) (F W C : Nat → Nat → Int) (p : Nat → Nat) : Int := sumR n (fun i => C i (p i)) + sumR n (fun i => sumR n fun j => F i j * W (p i) (p j))
theorem partV_eq (n : Nat) (F W C : Nat → Nat → Int) (q : Nat → Option Nat) : partV n F W C q = sumR n (fun i => if (q i).isSome = true then C i ((q i).getD 0) else 0) +
    sumR n fun i => if (q i).isSome = true then (sumR n fun j => if (q j).isSome = true then F i j * W ((q i).getD 0) ((q j).getD 0) else 0) else 0 := by
  unfold partV laidL
  rw [filter_sum, filter_sum]
  refine congrArg (_ + ·) (sumR_congr fun i hi => ?_)
  cases (q i).isSome
  · rfl
  · rw [if_pos rfl, if_pos rfl, filter_sum]
theorem partV_full (n : Nat) (F W C : Nat → Nat → Int) (p : Nat → Nat) : partV n F W C (fun i => some (p i)) = fixedV n F W C p := partV_eq n F W C _
theorem fixed_spec {n : Nat} {F W C : Nat → Nat → Int} {p : Nat → Nat} {kp : Kd} {Q X} (hn : n ≤ 1000) (hp : ∀ i, i < n → p i < n)
    (hF : Tab n 1000040 F) (h : Q (.fl, .int (fixedV n F W C p)) []) :
    cf_fixed [(.fl, jobD n F W C), (kp, layD n p)] Q X :=
  fixedP_spec (q := fun i => some (p i)) hn (fun i a hi e => by cases e; exact hp i hi) hF (by rw [partV_full]; exact h)
theorem cost_spec {n : Nat} {F W C : Nat → Nat → Int} {p : Nat → Nat} {kp : Kd} {Q X} (hn : n ≤ 1000) (hp : ∀ i, i < n → p i < n)
    (hF : Tab n 1000040 F) (h : Q (.fl, .int (fixedV n F W C p)) []) : cf_cost [(.fl, jobD n F W C), (kp, layD n p)] Q X := by
  rw [cf_cost_eq]
  exact fixed_spec hn hp hF h
end DCA

namespace DCB
open PySem PySem.Spec PyProof.Rows L2 DL
noncomputable section
def sem__law_tape : SF :=
  (sSeq (sSet 2 (eP (pC (.int 0))))
    (sSeq (sIf (teP (pTest (pOp oLt (pVar 1) (pCall oLen (gCons (pVar 0) gNil))))) (sSet 2 (eP (pCall oAbs (gCons (pOp xIx (pVar 0) (pVar 1)) gNil)))) (sIf (teP (pTest (pOp oGt (pCall oLen (gCons (pVar 0) gNil)) (pC (.int 0))))) (sSet 2 (eP (pOp oAdd (pOp oMod (pCall oAbs (gCons (pOp xIx (pVar 0) (pOp oMod (pVar 1) (pCall oLen (gCons (pVar 0) gNil)))) gNil)) (pOp oPow (pC (.int 10)) (pC (.int 9)))) (pOp oMul (pVar 1) (pC (.int 1000003)))))) sNil))
    (sRet (eP (pLst (gCons (pVar 2) (gCons (pOp oAdd (pOp oMod (pOp oAdd (pOp oMul (pVar 1) (pC (.int 7919))) (pVar 2)) (pC (.int 998244353))) (pC (.int 1))) gNil)))))))
@[irreducible] def cf__law_tape : CF := hid (cfOf 1 [false, false] sem__law_tape)
def sem__law_digit : SF :=
  (sSeq (sIf (teP (pTest (pOp oGt (pOp xIx (pVar 0) (pC (.int 0))) (pC (.int 0))))) (sSeq (sSet 2 (eP (pOp oMod (pOp xIx (pVar 0) (pC (.int 0))) (pVar 1))))
    (sSeq (sStIxX (eP (pOp oFdiv (pOp xIx (pVar 0) (pC (.int 0))) (pVar 1))) (plVar 0) (pC (.int 0)))
    (sRet (eMv 2)))) sNil)
    (sSeq (sStIxX (eP (pOp oMod (pOp oAdd (pOp oMul (pOp xIx (pVar 0) (pC (.int 1))) (pC (.int 48271))) (pC (.int 11))) (pC (.int 2147483647)))) (plVar 0) (pC (.int 1)))
    (sSeq (sSet 3 (eP (pOp oMod (pOp oMul (pOp xIx (pVar 0) (pC (.int 1))) (pC (.int 40692))) (pC (.int 2147483399)))))
    (sRet (eP (pOp oMod (pOp oAdd (pOp oMul (pOp oMod (pOp oMul (pOp xIx (pVar 0) (pC (.int 1))) (pOp xIx (pVar 0) (pC (.int 1)))) (pC (.int 2147483629))) (pC (.int 2147483399))) (pVar 3)) (pVar 1)))))))
@[irreducible] def cf__law_digit : CF := hid (cfOf 2 [true, false] sem__law_digit)
def sem__law_square : SF :=
  (sSeq (sSet 4 (eP (pLst gNil)))
    (sSeq (sForX (jR1 (gCons (pVar 1) gNil)) (gNm 5) (sSeq (sSet 6 (eP (pLst gNil)))
    (sSeq (sForX (jR1 (gCons (pVar 1) gNil)) (gNm 7) (sSeq (sSet 8 (eFn [true, false] cf__law_digit (aPl 0 (aE (eMv 2) aNil))))
    (sSeq (sIf (teAnd (teP (pTest (pVar 3))) (teOr (teP (pTest (pOp oEq (pVar 5) (pVar 7)))) (eTest (eOp oEq (eFn [true, false] cf__law_digit (aPl 0 (aE (eP (pC (.int 3))) aNil))) (eP (pC (.int 0))))))) (sSet 8 (eP (pC (.int 0)))) sNil)
    (sExpr (eMthR mAppend 6 (aE (eMv 8) aNil))))))
    (sExpr (eMthR mAppend 4 (aE (eMv 6) aNil))))))
    (sRet (eMv 4))))
@[irreducible] def cf__law_square : CF := hid (cfOf 5 [true, false, false, false] sem__law_square)
def sem__law_mirrored : SF :=
  (sRet (eP (pLcX (jR1 (gCons (pCall oLen (gCons (pVar 0) gNil)) gNil)) [1] (gNm 1) tNilP (pLcX (jR1 (gCons (pCall oLen (gCons (pVar 0) gNil)) gNil)) [2] (gNm 2) tNilP (pOp xIx (pOp xIx (pVar 0) (pCall oMin2 (gCons (pVar 1) (gCons (pVar 2) gNil)))) (pCall oMax2 (gCons (pVar 1) (gCons (pVar 2) gNil))))))))
@[irreducible] def cf__law_mirrored : CF := hid (cfOf 2 [false] sem__law_mirrored)
def sem__law_on_line : SF :=
  (sSeq (sSet 3 (eLcX (jR1 (gCons (pVar 1) gNil)) [4] (gNm 4) tNilP (eFn [true, false] cf__law_digit (aPl 0 (aE (eMv 2) aNil)))))
    (sFrz 3 (sRet (eP (pLcX (iSq (pVar 3)) [5] (gNm 5) tNilP (pLcX (iSq (pVar 3)) [6] (gNm 6) tNilP (pCall oAbs (gCons (pOp oSub (pVar 5) (pVar 6)) gNil))))))))
@[irreducible] def cf__law_on_line : CF := hid (cfOf 4 [true, false, false] sem__law_on_line)
def sem__law_tuples : SF :=
  (sRet (eP (pCall oTuple (gCons (pLcX (iSq (pVar 0)) [1] (gNm 1) tNilP (pCall oTupleF (gCons (pVar 1) gNil))) gNil))))
@[irreducible] def cf__law_tuples : CF := hid (cfOf 1 [false] sem__law_tuples)
def sem__law_flows : SF :=
  (sSeq (sSet 3 (eFn [true, false] cf__law_digit (aPl 0 (aE (eP (pC (.int 4))) aNil))))
    (sSeq (sSet 4 (eFn [true, false, false, false] cf__law_square (aPl 0 (aE (eMv 1) (aE (eMv 2) (aE (eP (pC (.bl true))) aNil))))))
    (sSeq (sIf (teP (pTest (pOp oEq (pVar 3) (pC (.int 0))))) (sRet (eP (pFn cf__law_mirrored (gCons (pVar 4) gNil)))) sNil)
    (sSeq (sIf (teP (pTest (pOp oEq (pVar 3) (pC (.int 1))))) (sSeq (sSet 5 (eFn [true, false] cf__law_digit (aPl 0 (aE (eMv 1) aNil))))
    (sForX (jR1 (gCons (pVar 1) gNil)) (gNm 6) (sForX (jR1 (gCons (pVar 1) gNil)) (gNm 7) (sIf (teP (tAnd (pTest (pOp oNe (pVar 6) (pVar 5))) (pTest (pOp oNe (pVar 7) (pVar 5))))) (sStIxX (eP (pC (.int 0))) (plIxX (plVar 4) (pVar 6)) (pVar 7)) sNil)))) sNil)
    (sRet (eMv 4))))))
@[irreducible] def cf__law_flows : CF := hid (cfOf 5 [true, false, false] sem__law_flows)
def sem__law_ways : SF :=
  (sSeq (sSet 3 (eFn [true, false] cf__law_digit (aPl 0 (aE (eP (pC (.int 4))) aNil))))
    (sSeq (sIf (teP (pTest (pOp oEq (pVar 3) (pC (.int 0))))) (sRet (eFn [true, false, false] cf__law_on_line (aPl 0 (aE (eMv 1) (aE (eMv 2) aNil))))) sNil)
    (sSeq (sSet 4 (eFn [true, false, false, false] cf__law_square (aPl 0 (aE (eMv 1) (aE (eMv 2) (aE (eP (pC (.bl true))) aNil))))))
    (sSeq (sIf (teP (pTest (pOp oEq (pVar 3) (pC (.int 1))))) (sRet (eP (pFn cf__law_mirrored (gCons (pVar 4) gNil)))) sNil)
    (sRet (eMv 4))))))
@[irreducible] def cf__law_ways : CF := hid (cfOf 2 [true, false, false] sem__law_ways)
def sem__law_job : SF :=
  (sSeq (sSet 2 (eOp oAdd (eP (pC (.int 1))) (eFn [true, false] cf__law_digit (aPl 0 (aE (eMv 1) aNil)))))
    (sSeq (sSet 3 (eFn [true, false, false] cf__law_flows (aPl 0 (aE (eMv 2) (aE (eOp xIx (eP (pLst (gCons (pC (.int 2)) (gCons (pC (.int 5)) (gCons (pC (.int 1000)) gNil))))) (eFn [true, false] cf__law_digit (aPl 0 (aE (eP (pC (.int 3))) aNil)))) aNil)))))
    (sBar (sSeq (sSet 4 (eFn [true, false, false] cf__law_ways (aPl 0 (aE (eMv 2) (aE (eOp xIx (eP (pLst (gCons (pC (.int 2)) (gCons (pC (.int 5)) (gCons (pC (.int 1000)) gNil))))) (eFn [true, false] cf__law_digit (aPl 0 (aE (eP (pC (.int 3))) aNil)))) aNil)))))
    (sBar (sSeq (sSet 5 (eFn [true, false, false, false] cf__law_square (aPl 0 (aE (eMv 2) (aE (eOp xIx (eP (pLst (gCons (pC (.int 1)) (gCons (pC (.int 9)) (gCons (pC (.int 1000001)) gNil))))) (eFn [true, false] cf__law_digit (aPl 0 (aE (eP (pC (.int 3))) aNil)))) (aE (eP (pC (.bl false))) aNil))))))
    (sBar (sRet (eP (pTup (gCons (pFn cf__law_tuples (gCons (pVar 3) gNil)) (gCons (pFn cf__law_tuples (gCons (pVar 4) gNil)) (gCons (pFn cf__law_tuples (gCons (pVar 5) gNil)) gNil)))))))))))))
@[irreducible] def cf__law_job : CF := hid (cfOf 4 [true, false] sem__law_job)
def sem__law_laying : SF :=
  (sSeq (sSet 2 (eP (pLR1X (pVar 1))))
    (sRet (eCallB oTuple (aE (eLcX (jR1 (gCons (pVar 1) gNil)) [3] (gNm 3) tNilP (eMthR xPopAt 2 (aE (eFn [true, false] cf__law_digit (aPl 0 (aE (eP (pCall oLen (gCons (pVar 2) gNil))) aNil))) aNil))) aNil))))
@[irreducible] def cf__law_laying : CF := hid (cfOf 2 [true, false] sem__law_laying)
def sem__law_cost : SF :=
  (sSeq (sAsg (eMv 0) (gTu 3 (tConsG (gNm 2) (tConsG (gNm 3) (tConsG (gNm 4) tNilG)))))
    (sSeq (sSet 5 (eP (pC (.int 0))))
    (sSeq (sForX (iEn (gCons (pVar 1) gNil)) (gTu 2 (tConsG (gNm 6) (tConsG (gNm 7) tNilG))) (sSeq (sSet 5 (eP (pOp oAdd (pVar 5) (pOp xIx (pOp xIx (pVar 4) (pVar 6)) (pVar 7)))))
    (sForX (iEn (gCons (pVar 1) gNil)) (gTu 2 (tConsG (gNm 8) (tConsG (gNm 9) tNilG))) (sSet 5 (eP (pOp oAdd (pVar 5) (pOp oMul (pOp xIx (pOp xIx (pVar 2) (pVar 6)) (pVar 8)) (pOp xIx (pOp xIx (pVar 3) (pVar 7)) (pVar 9)))))))))
    (sRet (eMv 5)))))
@[irreducible] def cf__law_cost : CF := hid (cfOf 8 [false, false] sem__law_cost)
theorem cf__law_cost_eq : cf__law_cost = cfOf 8 [false, false] sem__law_cost := by unfold cf__law_cost; rw [hid_eq]
def sem__law_layings : SF :=
  (sSeq (sSet 1 (eP (pLst (gCons (pTup gNil) gNil))))
    (sSeq (sForX (jR1 (gCons (pVar 0) gNil)) (gNm 2) (sSeq (sSet 3 (eP (pLst gNil)))
    (sFrz 1 (sSeq (sForX (iSq (pVar 1)) (gNm 4) (sExpr (eMthR xExtend 3 (aE (eP (pLcX (jR1 (gCons (pVar 0) gNil)) [5] (gNm 5) (pTest (pOp (oIn true) (pVar 5) (pVar 4))) (pOp oAdd (pVar 4) (pTup (gCons (pVar 5) gNil))))) aNil))))
    (sSet 1 (eMv 3))))))
    (sRet (eMv 1))))
@[irreducible] def cf__law_layings : CF := hid (cfOf 5 [false] sem__law_layings)
def sem__law_whole : SF :=
  (sRet (eP (pAndV (pIsI .int (pVar 0)) (pUn uNot (pIsI .bool (pVar 0))))))
@[irreducible] def cf__law_whole : CF := hid (cfOf 0 [false] sem__law_whole)
def sem__law_swapped : SF :=
  (sSeq (sSet 3 (eP (pCall oListF (gCons (pVar 0) gNil))))
    (sSeq (sSwap (pTup (gCons (pOp xIx (pVar 3) (pVar 2)) (gCons (pOp xIx (pVar 3) (pVar 1)) gNil))) (plVar 3) (pVar 1) (plVar 3) (pVar 2))
    (sRet (eP (pCall oTupleF (gCons (pVar 3) gNil))))))
@[irreducible] def cf__law_swapped : CF := hid (cfOf 1 [false, false, false] sem__law_swapped)
theorem cf__law_swapped_eq : cf__law_swapped = cfOf 1 [false, false, false] sem__law_swapped := by unfold cf__law_swapped; rw [hid_eq]
def sem_exchanged : SF :=
  (sSeq (sSet 3 (eP (pCall oListF (gCons (pVar 0) gNil))))
    (sSeq (sStIxX (eP (pOp xIx (pVar 0) (pVar 2))) (plVar 3) (pVar 1))
    (sSeq (sStIxX (eP (pOp xIx (pVar 0) (pVar 1))) (plVar 3) (pVar 2))
    (sRet (eP (pCall oTupleF (gCons (pVar 3) gNil)))))))
@[irreducible] def cf_exchanged : CF := hid (cfOf 1 [false, false, false] sem_exchanged)
theorem cf_exchanged_eq : cf_exchanged = cfOf 1 [false, false, false] sem_exchanged := by unfold cf_exchanged; rw [hid_eq]
def sem_beside_saved : SF :=
  (sSeq (sAsg (eMv 0) (gTu 3 (tConsG (gNm 4) (tConsG (gNm 5) (tConsG (gNm 6) tNilG)))))
    (sSeq (sPar 7 8 (aE (eP (pOp xIx (pVar 1) (pVar 2))) (aE (eP (pOp xIx (pVar 1) (pVar 3))) aNil)))
    (sSeq (sSet 9 (eP (pOp oSub (pOp oSub (pOp oAdd (pOp xIx (pOp xIx (pVar 6) (pVar 2)) (pVar 7)) (pOp xIx (pOp xIx (pVar 6) (pVar 3)) (pVar 8))) (pOp xIx (pOp xIx (pVar 6) (pVar 2)) (pVar 8))) (pOp xIx (pOp xIx (pVar 6) (pVar 3)) (pVar 7)))))
    (sSeq (sForX (iEn (gCons (pVar 1) gNil)) (gTu 2 (tConsG (gNm 10) (tConsG (gNm 11) tNilG))) (sIf (teP (tAnd (pTest (pOp oNe (pVar 10) (pVar 2))) (pTest (pOp oNe (pVar 10) (pVar 3))))) (sSeq (sSet 9 (eP (pOp oAdd (pVar 9) (pOp oMul (pOp oSub (pOp xIx (pOp xIx (pVar 4) (pVar 2)) (pVar 10)) (pOp xIx (pOp xIx (pVar 4) (pVar 3)) (pVar 10))) (pOp oSub (pOp xIx (pOp xIx (pVar 5) (pVar 7)) (pVar 11)) (pOp xIx (pOp xIx (pVar 5) (pVar 8)) (pVar 11)))))))
    (sSet 9 (eP (pOp oAdd (pVar 9) (pOp oMul (pOp oSub (pOp xIx (pOp xIx (pVar 4) (pVar 10)) (pVar 2)) (pOp xIx (pOp xIx (pVar 4) (pVar 10)) (pVar 3))) (pOp oSub (pOp xIx (pOp xIx (pVar 5) (pVar 11)) (pVar 7)) (pOp xIx (pOp xIx (pVar 5) (pVar 11)) (pVar 8)))))))) sNil))
    (sRet (eMv 9))))))
@[irreducible] def cf_beside_saved : CF := hid (cfOf 8 [false, false, false, false] sem_beside_saved)
theorem cf_beside_saved_eq : cf_beside_saved = cfOf 8 [false, false, false, false] sem_beside_saved := by unfold cf_beside_saved; rw [hid_eq]
def sem_saved : SF :=
  (sSeq (sIf (teP (pTest (pOp oEq (pVar 2) (pVar 3)))) (sRet (eP (pC (.int 0)))) sNil)
    (sSeq (sAsg (eMv 0) (gTu 3 (tConsG (gNm 4) (tConsG (gNm 5) (tConsG (gNm 6) tNilG)))))
    (sSeq (sPar 7 8 (aE (eP (pOp xIx (pVar 1) (pVar 2))) (aE (eP (pOp xIx (pVar 1) (pVar 3))) aNil)))
    (sSeq (sSet 9 (eP (pOp oMul (pOp oSub (pOp xIx (pOp xIx (pVar 4) (pVar 2)) (pVar 3)) (pOp xIx (pOp xIx (pVar 4) (pVar 3)) (pVar 2))) (pOp oSub (pOp xIx (pOp xIx (pVar 5) (pVar 7)) (pVar 8)) (pOp xIx (pOp xIx (pVar 5) (pVar 8)) (pVar 7))))))
    (sRet (eP (pOp oAdd (pFn cf_beside_saved (gCons (pVar 0) (gCons (pVar 1) (gCons (pVar 2) (gCons (pVar 3) gNil))))) (pVar 9))))))))
@[irreducible] def cf_saved : CF := hid (cfOf 6 [false, false, false, false] sem_saved)
theorem cf_saved_eq : cf_saved = cfOf 6 [false, false, false, false] sem_saved := by unfold cf_saved; rw [hid_eq]
end
end DCB

namespace DCB
open PySem PySem.Spec PyProof.Rows L2 DL PA
theorem pos2 : (0 : Int) < 2147483399 := by decide
abbrev sqL (n : Nat) (f : Nat → Nat → Int) : D := .lst (tabl n fun i => .lst (tabl n fun j => .int (f i j)))
abbrev tabD (n : Nat) (f : Nat → Nat → Int) : D := .tup (tabl n fun i => .tup (tabl n fun j => .int (f i j)))
def Tab (n : Nat) (b : Int) (f : Nat → Nat → Int) : Prop := ∀ i j, i < n → j < n → 0 ≤ f i j ∧ f i j ≤ b
def Bare (n : Nat) (f : Nat → Nat → Int) : Prop := ∀ i, i < n → f i i = 0
abbrev jobD (n : Nat) (F W C : Nat → Nat → Int) : D := .tup [tabD n F, tabD n W, tabD n C]
structure Job (n : Nat) (F W C : Nat → Nat → Int) : Prop where
  f : Tab n 999 F
  w : Tab n 999 W
  c : Tab n 1000000 C
  f0 : Bare n F
  w0 : Bare n W
theorem Tab.mono {n : Nat} {b c : Int} {f : Nat → Nat → Int} (h : Tab n b f) (hb : b ≤ c) : Tab n c f := fun i j hi hj => ⟨(h i j hi hj).1, Int.le_trans (h i j hi hj).2 hb⟩
abbrev layD (n : Nat) (p : Nat → Nat) : D := .tup (tabl n fun i => .int (p i : Nat))
structure Perm (n : Nat) (p : Nat → Nat) : Prop where
  lt : ∀ i, i < n → p i < n
  inj : ∀ i j, i < n → j < n → p i = p j → i = j
theorem Tab.mul {n : Nat} {b : Int} {f : Nat → Nat → Int} (h : Tab n b f) (hb : b ≤ 1000000000) {i j : Nat} (hi : i < n) (hj : j < n) (x : Int) : CMul (f i j) x := .inl (by have := h i j hi hj; omega)
theorem cost_spec {n : Nat} {F W C : Nat → Nat → Int} {p : Nat → Nat} {Q X} (hn : n ≤ 1000) (hp : ∀ i, i < n → p i < n) (hF : Tab n 999 F) (h : Q (.fl, .int (costV n F W C p)) []) : cf__law_cost [(.fl, jobD n F W C), (.fl, layD n p)] Q X := by
  rw [cf__law_cost_eq]
  refine ⟨rfl, rfl, ?_⟩
  refine go_ForEn (fun i ρ => ∃ a b c e, ρ = [some (.fl, jobD n F W C), some (.fl, layD n p), some (.fl, tabD n F), some (.fl, tabD n W), some (.fl, tabD n C), some (.fl, .int (sumR i fun i => C i (p i) + sumR n fun j => F i j * W (p i) (p j))), a, b, c, e])
    ⟨none, none, none, none, rfl⟩ (fun i ρ N hi hI hN => ?_) fun ρ hI => ?_
  · obtain ⟨a, b, c, e, rfl⟩ := hI
    refine ⟨rfl, rfl, go_tab hi (go_tab (hp i hi) ?_)⟩
    refine go_ForEn (fun j ρ => ∃ c e, ρ = [some (.fl, jobD n F W C), some (.fl, layD n p), some (.fl, tabD n F), some (.fl, tabD n W), some (.fl, tabD n C), some (.fl, .int ((sumR i fun i => C i (p i) + sumR n fun j => F i j * W (p i) (p j)) + C i (p i) + sumR j fun j => F i j * W (p i) (p j))), some (.fl, .int i), some (.fl, .int (p i)), c, e])
      ⟨c, e, ?_⟩ (fun j ρ N hj hJ hN => ?_) fun ρ hJ => ?_
    · rw [sumR_zero, Int.add_zero]; rfl
    · obtain ⟨c, e, rfl⟩ := hJ
      refine ⟨rfl, rfl, go_tab hi (go_tab hj (go_tab (hp i hi) (go_tab (hp j hj) ⟨hF.mul (by omega) hi hj _, hN _ ⟨some (.fl, .int j), some (.fl, .int (p j)), ?_⟩⟩)))⟩
      rw [sumR_succ j, ← Int.add_assoc]; rfl
    · obtain ⟨c, e, rfl⟩ := hJ
      refine hN _ ⟨some (.fl, .int i), some (.fl, .int (p i)), c, e, ?_⟩
      rw [sumR_succ i, ← Int.add_assoc]
  · obtain ⟨a, b, c, e, rfl⟩ := hI
    exact h
theorem swp_lay {n a b : Nat} {p : Nat → Nat} : (tabl n fun i => if i = b then D.int (p a) else if i = a then D.int (p b) else D.int (p i)) = tabl n fun i => D.int (swp p a b i : Nat) := tabl_congr fun i _ => by
  unfold swp
  by_cases e : i = b
  · rw [if_pos e, if_pos e]
  · rw [if_neg e, if_neg e]
    by_cases e' : i = a
    · rw [if_pos e', if_pos e']
    · rw [if_neg e', if_neg e']
theorem swp_perm {n a b : Nat} {p : Nat → Nat} (hp : Perm n p) (ha : a < n) (hb : b < n) : Perm n (swp p a b) := ⟨swp_lt hp.lt ha hb, swp_inj hp.inj ha hb⟩
theorem exchanged_spec {n a b : Nat} {p : Nat → Nat} {x y : Int} {Q X} (hx : x = a) (hy : y = b) (ha : a < n) (hb : b < n) (h : Q (.fl, layD n (swp p a b)) []) : cf_exchanged [(.fl, layD n p), (.fl, .int x), (.fl, .int y)] Q X := by
  subst hx hy
  rw [cf_exchanged_eq]
  refine ⟨flat_ints, go_tab hb (go_stT rfl ha (go_tab ha (go_stT rfl hb ?_)))⟩
  have h' : Q (.fl, .tup (tabl n fun i => if i = b then D.int (p a) else if i = a then D.int (p b) else D.int (p i))) [] := by rw [swp_lay]; exact h
  have hf : (tabl n fun i => if i = b then D.int (p a) else if i = a then D.int (p b) else D.int (p i)).all D.flat1 = true := by rw [swp_lay]; exact flat_ints
  exact ⟨hf, h'⟩
theorem swapped_spec {n a b : Nat} {p : Nat → Nat} {x y : Int} {Q X} (hx : x = a) (hy : y = b) (ha : a < n) (hb : b < n) (h : Q (.fl, layD n (swp p a b)) []) : cf__law_swapped [(.fl, layD n p), (.fl, .int x), (.fl, .int y)] Q X := by
  subst hx hy
  rw [cf__law_swapped_eq]
  refine ⟨flat_ints, go_tabl hb (go_tabl ha (go_stT rfl ha (go_stT rfl hb ?_)))⟩
  have h' : Q (.fl, .tup (tabl n fun i => if i = b then D.int (p a) else if i = a then D.int (p b) else D.int (p i))) [] := by rw [swp_lay]; exact h
  have hf : (tabl n fun i => if i = b then D.int (p a) else if i = a then D.int (p b) else D.int (p i)).all D.flat1 = true := by rw [swp_lay]; exact flat_ints
  exact ⟨hf, h'⟩
theorem mul999 {x y : Int} (h : -1998 ≤ x ∧ x ≤ 1998) : CMul x y := .inl (by omega)
theorem beside_spec {n a b : Nat} {F W C : Nat → Nat → Int} {p : Nat → Nat} {Q X} (ha : a < n) (hb : b < n) (hp : ∀ i, i < n → p i < n) (hF : Tab n 999 F) (h : Q (.fl, .int (besV n F W C p a b)) []) :
    cf_beside_saved [(.fl, jobD n F W C), (.fl, layD n p), (.fl, .int a), (.fl, .int b)] Q X := by
  rw [cf_beside_saved_eq]
  refine ⟨rfl, rfl, go_tab ha (go_tab hb (go_tab ha (go_tab (hp a ha) (go_tab hb (go_tab (hp b hb) (go_tab ha (go_tab (hp b hb) (go_tab hb (go_tab (hp a ha) ?_)))))))))⟩
  refine go_ForEn (fun k ρ => ∃ c e, ρ = [some (.fl, jobD n F W C), some (.fl, layD n p), some (.fl, .int a), some (.fl, .int b), some (.fl, tabD n F), some (.fl, tabD n W), some (.fl, tabD n C), some (.fl, .int (p a)), some (.fl, .int (p b)),
      some (.fl, .int (C a (p a) + C b (p b) - C a (p b) - C b (p a) + sumR k fun k => if k ≠ a ∧ k ≠ b then (F a k - F b k) * (W (p a) (p k) - W (p b) (p k)) + (F k a - F k b) * (W (p k) (p a) - W (p k) (p b)) else 0)), c, e])
    ⟨none, none, ?_⟩ (fun k ρ N hk hI hN => ?_) fun ρ hI => ?_
  · rw [sumR_zero, Int.add_zero]; rfl
  · obtain ⟨c, e, rfl⟩ := hI
    refine ⟨rfl, rfl, ifdn (fun h1 => ifdn (fun h2 => ?_) fun h2 => ?_) fun h1 => ?_⟩
    · have fb : ∀ i j i' j', i < n → j < n → i' < n → j' < n → -1998 ≤ F i j - F i' j' ∧ F i j - F i' j' ≤ 1998 := fun i j i' j' x y z w => by
        have := hF i j x y
        have := hF i' j' z w
        omega
      refine go_tab ha (go_tab hk (go_tab hb (go_tab hk (go_tab (hp a ha) (go_tab (hp k hk) (go_tab (hp b hb) (go_tab (hp k hk) ⟨mul999 (fb _ _ _ _ ha hk hb hk), ?_⟩)))))))
      refine go_tab hk (go_tab ha (go_tab hk (go_tab hb (go_tab (hp k hk) (go_tab (hp a ha) (go_tab (hp k hk) (go_tab (hp b hb) ⟨mul999 (fb _ _ _ _ hk ha hk hb), ?_⟩)))))))
      refine hN _ ⟨some (.fl, .int k), some (.fl, .int (p k)), ?_⟩
      rw [sumR_succ k, if_pos ⟨by omega, by omega⟩, ← Int.add_assoc, ← Int.add_assoc]; rfl
    · refine hN _ ⟨some (.fl, .int k), some (.fl, .int (p k)), ?_⟩
      rw [sumR_succ k, if_neg (by omega), Int.add_zero]; rfl
    · refine hN _ ⟨some (.fl, .int k), some (.fl, .int (p k)), ?_⟩
      rw [sumR_succ k, if_neg (by omega), Int.add_zero]; rfl
  · obtain ⟨c, e, rfl⟩ := hI
    exact h
theorem saved_spec {n a b : Nat} {F W C : Nat → Nat → Int} {p : Nat → Nat} {x y : Int} {Q X} (hx : x = a) (hy : y = b) (ha : a < n) (hb : b < n) (hp : ∀ i, i < n → p i < n) (hF : Tab n 999 F) (h : Q (.fl, .int (savV n F W C p a b)) []) :
    cf_saved [(.fl, jobD n F W C), (.fl, layD n p), (.fl, .int x), (.fl, .int y)] Q X := by
  subst hx hy
  rw [cf_saved_eq]
  unfold savV at h
  refine ifd (fun e => ?_) fun e => ?_
  · rw [if_pos (by omega)] at h
    exact h
  · rw [if_neg (by omega)] at h
    refine ⟨rfl, rfl, go_tab ha (go_tab hb ?_)⟩
    have f1 := hF a b ha hb
    have f2 := hF b a hb ha
    refine go_tab ha (go_tab hb (go_tab hb (go_tab ha (go_tab (hp a ha) (go_tab (hp b hb) (go_tab (hp b hb) (go_tab (hp a ha) ⟨mul999 (by omega), ?_⟩)))))))
    exact beside_spec ha hb hp hF h
end DCB

namespace DCC
open PySem PySem.Spec PyProof.Rows L2 DL
noncomputable section
def sem_pairs_of : SF :=
  (sSeq (sSet 1 (eP (pLst gNil)))
    (sSeq (sForX (jR1 (gCons (pVar 0) gNil)) (gNm 2) (sExpr (eMthR xExtend 1 (aE (eP (pLcX (jR2 (gCons (pOp oAdd (pVar 2) (pC (.int 1))) (gCons (pVar 0) gNil))) [3] (gNm 3) tNilP (pTup (gCons (pVar 2) (gCons (pVar 3) gNil))))) aNil))))
    (sRet (eMv 1))))
@[irreducible] def cf_pairs_of : CF := hid (cfOf 3 [false] sem_pairs_of)
theorem cf_pairs_of_eq : cf_pairs_of = cfOf 3 [false] sem_pairs_of := by unfold cf_pairs_of; rw [hid_eq]
def sem_best_exchange : SF :=
  (sSeq (sSet 2 (eP (pC .non)))
    (sSeq (sForX (iSq (pFn cf_pairs_of (gCons (pCall oLen (gCons (pVar 1) gNil)) gNil))) (gTu 2 (tConsG (gNm 3) (tConsG (gNm 4) tNilG))) (sSeq (sSet 5 (eP (pFn DCB.cf_saved (gCons (pVar 0) (gCons (pVar 1) (gCons (pVar 3) (gCons (pVar 4) gNil)))))))
    (sIf (teP (tAnd (pTest (pOp oGt (pVar 5) (pC (.int 0)))) (tOr (pTest (pOp oIsN (pVar 2) (pC .non))) (pTest (pOp oGt (pVar 5) (pOp xIx (pVar 2) (pC (.int 2)))))))) (sSet 2 (eP (pTup (gCons (pVar 3) (gCons (pVar 4) (gCons (pVar 5) gNil)))))) sNil)))
    (sRet (eMv 2))))
@[irreducible] def cf_best_exchange : CF := hid (cfOf 4 [false, false] sem_best_exchange)
theorem cf_best_exchange_eq : cf_best_exchange = cfOf 4 [false, false] sem_best_exchange := by unfold cf_best_exchange; rw [hid_eq]
def sem_is_still : SF :=
  (sRet (eP (pOp oIsN (pFn cf_best_exchange (gCons (pVar 0) (gCons (pVar 1) gNil))) (pC .non))))
@[irreducible] def cf_is_still : CF := hid (cfOf 0 [false, false] sem_is_still)
def sem_settled : SF :=
  (sSeq (sSet 2 (eP (pLst gNil)))
    (sSeq (sSet 3 (eP (pFn cf_best_exchange (gCons (pVar 0) (gCons (pVar 1) gNil)))))
    (sSeq (sWhileX (teP (pTest (pOp oNotN (pVar 3) (pC .non)))) (sSeq (sExpr (eMthR mAppend 2 (aE (eP (pSl (pVar 3) oNoP (oP (pC (.int 2))))) aNil)))
    (sSeq (sSet 1 (eP (pFn DCB.cf_exchanged (gCons (pVar 1) (gCons (pOp xIx (pVar 3) (pC (.int 0))) (gCons (pOp xIx (pVar 3) (pC (.int 1))) gNil))))))
    (sSet 3 (eP (pFn cf_best_exchange (gCons (pVar 0) (gCons (pVar 1) gNil))))))))
    (sRet (eTup (aE (eMv 2) (aE (eMv 1) aNil)))))))
@[irreducible] def cf_settled : CF := hid (cfOf 2 [false, false] sem_settled)
end
end DCC

namespace DCC
open PySem PySem.Spec PyProof.Rows L2 DL PA DCB
abbrev pd (x : Nat × Nat) : D := .tup [.int x.1, .int x.2]
def pairs (i n : Nat) : List (Nat × Nat) := (List.range i).flatMap fun a => tabl (n - (a + 1)) fun k => (a, a + 1 + k)
theorem pairs_succ (i n : Nat) : pairs (i + 1) n = pairs i n ++ tabl (n - (i + 1)) fun k => (i, i + 1 + k) := by
  unfold pairs
  rw [List.range_succ, List.flatMap_append]
  simp
theorem pairs_len (i n : Nat) : (pairs i n).length ≤ i * n := by
  induction i with
  | zero => exact Nat.zero_le _
  | succ i ih =>
    rw [pairs_succ, List.length_append, tabl_len, Nat.add_mul]
    omega
theorem mem_pairs {i n : Nat} {x : Nat × Nat} : x ∈ pairs i n ↔ x.1 < i ∧ x.1 < x.2 ∧ x.2 < n := by
  unfold pairs
  rw [List.mem_flatMap]
  constructor
  · rintro ⟨a, ha, hx⟩
    obtain ⟨k, hk, rfl⟩ := List.mem_map.mp hx
    have ha := List.mem_range.mp ha
    have hk := List.mem_range.mp hk
    exact ⟨ha, by show a < a + 1 + k; omega, by show a + 1 + k < n; omega⟩
  · rintro ⟨h1, h2, h3⟩
    refine ⟨x.1, List.mem_range.mpr h1, List.mem_map.mpr ⟨x.2 - (x.1 + 1), List.mem_range.mpr (by omega), ?_⟩⟩
    have e : x.1 + 1 + (x.2 - (x.1 + 1)) = x.2 := by omega
    rw [e]
theorem pairs_of_spec {n : Nat} {x : Int} {Q X} (hx : x = n) (hn : n ≤ 1000) (h : Q (.sh, .lst ((pairs n n).map pd)) []) : cf_pairs_of [(.fl, .int x)] Q X := by
  subst hx
  rw [cf_pairs_of_eq]
  refine go_R1 rfl (by omega) ?_
  refine go_For0 (fun i ρ => ∃ a b, ρ = [some (.fl, .int n), some (.sh, .lst ((pairs i n).map pd)), a, b]) ⟨none, none, rfl⟩ (fun i ρ N hi hI hN => ?_) fun ρ hI => ?_
  · obtain ⟨a, b, rfl⟩ := hI
    refine ⟨trivial, ?_⟩
    refine go_R2 (n := n - (i + 1)) (by omega) (by omega) ?_
    refine go_Lc (fun z => .tup [.int i, z.2]) (by rw [range_len]; omega) (fun k z N hz hN => ?_) ?_
    · obtain ⟨hk, rfl⟩ := range_get hz
      exact hN
    · have e : (rangeD ((i : Int) + 1) (n - (i + 1))).map (fun z => D.tup [.int i, z.2]) = (tabl (n - (i + 1)) fun k => (i, i + 1 + k)).map pd := by
        unfold rangeD tabl
        rw [List.map_map, List.map_map]
        refine List.map_congr_left fun k _ => ?_
        show D.tup [.int i, .int ((i : Int) + 1 + (k : Nat))] = D.tup [.int i, .int ((i + 1 + k : Nat) : Int)]
        have e : (i : Int) + 1 + (k : Nat) = ((i + 1 + k : Nat) : Int) := by omega
        rw [e]
      rw [e]
      refine go_extend (.inl rfl) ?_ ?_
      · rw [List.length_map, List.length_map, tabl_len]
        have := pairs_len i n
        have : i * n ≤ 1000 * 1000 := Nat.mul_le_mul (by omega) hn
        omega
      · rw [← List.map_append, ← pairs_succ]
        exact hN _ ⟨_, _, rfl⟩
  · obtain ⟨a, b, rfl⟩ := hI
    exact h
section
variable (n : Nat) (F W C : Nat → Nat → Int) (p : Nat → Nat)
def over (t : Int) : Option (Nat × Nat × Int) → Bool
  | none => true
  | some y => decide (t > y.2.2)
def bstep (r : Option (Nat × Nat × Int)) (x : Nat × Nat) : Option (Nat × Nat × Int) :=
  if savV n F W C p x.1 x.2 > 0 ∧ over (savV n F W C p x.1 x.2) r = true then some (x.1, x.2, savV n F W C p x.1 x.2) else r
def bestOf (l : List (Nat × Nat)) : Option (Nat × Nat × Int) := l.foldl (bstep n F W C p) none
def bestV : Option (Nat × Nat × Int) := bestOf n F W C p (pairs n n)
end
variable {n : Nat} {F W C : Nat → Nat → Int} {p : Nat → Nat}
theorem bestOf_snoc (l : List (Nat × Nat)) (x : Nat × Nat) : bestOf n F W C p (l ++ [x]) = bstep n F W C p (bestOf n F W C p l) x := by
  unfold bestOf
  rw [List.foldl_append]; rfl
def bestD : Option (Nat × Nat × Int) → D
  | none => .non
  | some y => .tup [.int y.1, .int y.2.1, .int y.2.2]
theorem best_spec {Q X} (hn : n ≤ 1000) (hp : ∀ i, i < n → p i < n) (hF : Tab n 999 F) (h : Q (.fl, bestD (bestV n F W C p)) []) : cf_best_exchange [(.fl, jobD n F W C), (.fl, layD n p)] Q X := by
  rw [cf_best_exchange_eq]
  refine pairs_of_spec (n := n) (congrArg Int.ofNat tabl_len) hn ?_
  refine go_For (fun i ρ => ∃ a b c, ρ = [some (.fl, jobD n F W C), some (.fl, layD n p), some (.fl, bestD (bestOf n F W C p ((pairs n n).take i))), a, b, c]) ⟨none, none, none, rfl⟩ (fun i z ρ N hz hI hN => ?_) fun ρ hI => ?_
  · obtain ⟨a, b, c, rfl⟩ := hI
    rw [List.map_map, List.getElem?_map] at hz
    cases e : (pairs n n)[i]? with
    | none => rw [e] at hz; cases hz
    | some x =>
      rw [e] at hz
      cases hz
      have hx := mem_pairs.mp (List.mem_of_getElem? e)
      have e1 : (pairs n n).take (i + 1) = (pairs n n).take i ++ [x] := by rw [List.take_add_one, e]; rfl
      rw [e1, bestOf_snoc] at hN
      refine ⟨rfl, rfl, saved_spec rfl rfl hx.1 hx.2.2 hp hF ?_⟩
      have fin : ∀ r, r = bstep n F W C p (bestOf n F W C p ((pairs n n).take i)) x → N [some (.fl, jobD n F W C), some (.fl, layD n p), some (.fl, bestD r), some (.fl, .int x.1), some (.fl, .int x.2), some (.fl, .int (savV n F W C p x.1 x.2))] := fun r hr => by
        subst hr
        exact hN _ ⟨_, _, _, rfl⟩
      unfold bstep at fin
      refine ifd (fun h1 => ?_) fun h1 => ?_
      · cases e2 : bestOf n F W C p ((pairs n n).take i) with
        | none =>
          rw [e2] at fin
          exact ⟨rfl, fin (some (x.1, x.2, savV n F W C p x.1 x.2)) (if_pos ⟨h1, rfl⟩).symm⟩
        | some y =>
          rw [e2] at fin
          refine ⟨rfl, go_ix rfl rfl (ifd (fun h2 => ?_) fun h2 => ?_)⟩
          · exact fin (some (x.1, x.2, savV n F W C p x.1 x.2)) (if_pos ⟨h1, decide_eq_true h2⟩).symm
          · exact fin (some y) (if_neg fun z => h2 (of_decide_eq_true z.2)).symm
      · exact fin _ (if_neg fun z => h1 z.1).symm
  · obtain ⟨a, b, c, rfl⟩ := hI
    rw [List.length_map, List.length_map, List.take_length]
    exact h
inductive Chain (n : Nat) (F W C : Nat → Nat → Int) (p : Nat → Nat) : List (Nat × Nat) → (Nat → Nat) → Prop
  | nil : Chain n F W C p [] p
  | snoc {l : List (Nat × Nat)} {q : Nat → Nat} {x : Nat × Nat} (h : Chain n F W C p l q) (h1 : x.1 < x.2) (h2 : x.2 < n) (h3 : 0 < savV n F W C q x.1 x.2) : Chain n F W C p (l ++ [x]) (swp q x.1 x.2)
def Past (n : Nat) (F W C : Nat → Nat → Int) (k : Nat) (q : Nat → Nat) : Prop :=
  ∃ cs : List Nat, cs.length = k ∧ cs.Nodup ∧ ∀ c ∈ cs, ∃ q', Perm n q' ∧ code n q' (n - 1) = c ∧ costV n F W C q < costV n F W C q'
theorem Past.next {n : Nat} {F W C : Nat → Nat → Int} {k : Nat} {q q2 : Nat → Nat} (h : Past n F W C k q) (hq : Perm n q) (hlt : costV n F W C q2 < costV n F W C q) : Past n F W C (k + 1) q2 := by
  obtain ⟨cs, hl, hd, hc⟩ := h
  refine ⟨code n q (n - 1) :: cs, by rw [List.length_cons, hl], List.nodup_cons.mpr ⟨fun z => ?_, hd⟩, fun c hcm => ?_⟩
  · obtain ⟨q', hq', e, h'⟩ := hc _ z
    have := code_cost (F := F) (W := W) (C := C) hq'.lt hq'.inj hq.lt hq.inj e
    omega
  · rcases List.mem_cons.mp hcm with rfl | hcm
    · exact ⟨q, hq, rfl, hlt⟩
    · obtain ⟨q', hq', e, h'⟩ := hc c hcm
      exact ⟨q', hq', e, Int.lt_trans hlt h'⟩
end DCC

namespace DCF
open PySem PySem.Spec PyProof.Rows L2 DL
noncomputable section
def sem_is_number : SF :=
  (sRet (eP (pAndV (pIsI .int (pVar 0)) (pAndV (pUn uNot (pIsI .bool (pVar 0))) (pChain oLe oLe (pC (.int 0)) (pVar 0) (pVar 1))))))
@[irreducible] def cf_is_number : CF := hid (cfOf 0 [false, false] sem_is_number)
theorem cf_is_number_eq : cf_is_number = cfOf 0 [false, false] sem_is_number := by unfold cf_is_number; rw [hid_eq]
def sem_is_row : SF :=
  (sRet (eP (pAndV (pIsI .tup (pVar 0)) (pAndV (pOp oEq (pCall oLen (gCons (pVar 0) gNil)) (pVar 1)) (pCall oAll (gCons (pLcX (iSq (pVar 0)) [3] (gNm 3) tNilP (pFn cf_is_number (gCons (pVar 3) (gCons (pVar 2) gNil)))) gNil))))))
@[irreducible] def cf_is_row : CF := hid (cfOf 1 [false, false, false] sem_is_row)
theorem cf_is_row_eq : cf_is_row = cfOf 1 [false, false, false] sem_is_row := by unfold cf_is_row; rw [hid_eq]
def sem_is_square : SF :=
  (sRet (eP (pAndV (pIsI .tup (pVar 0)) (pAndV (pOp oEq (pCall oLen (gCons (pVar 0) gNil)) (pVar 1)) (pCall oAll (gCons (pLcX (iSq (pVar 0)) [3] (gNm 3) tNilP (pFn cf_is_row (gCons (pVar 3) (gCons (pVar 1) (gCons (pVar 2) gNil))))) gNil))))))
@[irreducible] def cf_is_square : CF := hid (cfOf 1 [false, false, false] sem_is_square)
theorem cf_is_square_eq : cf_is_square = cfOf 1 [false, false, false] sem_is_square := by unfold cf_is_square; rw [hid_eq]
def sem_is_job : SF :=
  (sSeq (sIf (teP (tOr (tNot (pTest (pIsI .tup (pVar 0)))) (tOr (pTest (pOp oNe (pCall oLen (gCons (pVar 0) gNil)) (pC (.int 3)))) (tNot (pTest (pIsI .tup (pOp xIx (pVar 0) (pC (.int 0))))))))) (sRet (eP (pC (.bl false)))) sNil)
    (sSeq (sSet 1 (eP (pCall oLen (gCons (pOp xIx (pVar 0) (pC (.int 0))) gNil))))
    (sSeq (sIf (teP (tOr (tNot (pTest (pChain oLe oLe (pC (.int 1)) (pVar 1) (pC (.int 8))))) (tNot (pTest (pFn cf_is_square (gCons (pOp xIx (pVar 0) (pC (.int 0))) (gCons (pVar 1) (gCons (pC (.int 999)) gNil)))))))) (sRet (eP (pC (.bl false)))) sNil)
    (sSeq (sIf (teP (tOr (tNot (pTest (pFn cf_is_square (gCons (pOp xIx (pVar 0) (pC (.int 1))) (gCons (pVar 1) (gCons (pC (.int 999)) gNil)))))) (tNot (pTest (pFn cf_is_square (gCons (pOp xIx (pVar 0) (pC (.int 2))) (gCons (pVar 1) (gCons (pC (.int 1000000)) gNil)))))))) (sRet (eP (pC (.bl false)))) sNil)
    (sRet (eP (pCall oAll (gCons (pLcX (jR1 (gCons (pVar 1) gNil)) [2] (gNm 2) tNilP (pAndV (pOp oEq (pOp xIx (pOp xIx (pOp xIx (pVar 0) (pC (.int 0))) (pVar 2)) (pVar 2)) (pC (.int 0))) (pOp oEq (pOp xIx (pOp xIx (pOp xIx (pVar 0) (pC (.int 1))) (pVar 2)) (pVar 2)) (pC (.int 0))))) gNil))))))))
@[irreducible] def cf_is_job : CF := hid (cfOf 2 [false] sem_is_job)
theorem cf_is_job_eq : cf_is_job = cfOf 2 [false] sem_is_job := by unfold cf_is_job; rw [hid_eq]
def sem_is_part : SF :=
  (sSeq (sSet 2 (eP (pCall oLen (gCons (pOp xIx (pVar 0) (pC (.int 0))) gNil))))
    (sSeq (sIf (teP (tOr (tNot (pTest (pIsI .tup (pVar 1)))) (pTest (pOp oNe (pCall oLen (gCons (pVar 1) gNil)) (pVar 2))))) (sRet (eP (pC (.bl false)))) sNil)
    (sSeq (sSet 3 (eP (pLcX (iSq (pVar 1)) [4] (gNm 4) (pTest (pOp oNotN (pVar 4) (pC .non))) (pVar 4))))
    (sRet (eP (pAndV (pCall oAll (gCons (pLcX (iSq (pVar 3)) [4] (gNm 4) tNilP (pFn cf_is_number (gCons (pVar 4) (gCons (pOp oSub (pVar 2) (pC (.int 1))) gNil)))) gNil)) (pOp oEq (pLenSet (pVar 3)) (pCall oLen (gCons (pVar 3) gNil)))))))))
@[irreducible] def cf_is_part : CF := hid (cfOf 3 [false, false] sem_is_part)
theorem cf_is_part_eq : cf_is_part = cfOf 3 [false, false] sem_is_part := by unfold cf_is_part; rw [hid_eq]
def sem_is_laying : SF :=
  (sRet (eP (pAndV (pFn cf_is_part (gCons (pVar 0) (gCons (pVar 1) gNil))) (pOp (oIn true) (pC .non) (pVar 1)))))
@[irreducible] def cf_is_laying : CF := hid (cfOf 0 [false, false] sem_is_laying)
theorem cf_is_laying_eq : cf_is_laying = cfOf 0 [false, false] sem_is_laying := by unfold cf_is_laying; rw [hid_eq]
def sem_with_number : SF :=
  (sSeq (sSet 4 (eP (pOp oAdd (pOp oAdd (pSl (pOp xIx (pVar 0) (pVar 1)) oNoP (oP (pVar 2))) (pTup (gCons (pVar 3) gNil))) (pSl (pOp xIx (pVar 0) (pVar 1)) (oP (pOp oAdd (pVar 2) (pC (.int 1)))) oNoP))))
    (sRet (eP (pOp oAdd (pOp oAdd (pSl (pVar 0) oNoP (oP (pVar 1))) (pTup (gCons (pVar 4) gNil))) (pSl (pVar 0) (oP (pOp oAdd (pVar 1) (pC (.int 1)))) oNoP)))))
@[irreducible] def cf_with_number : CF := hid (cfOf 1 [false, false, false, false] sem_with_number)
theorem cf_with_number_eq : cf_with_number = cfOf 1 [false, false, false, false] sem_with_number := by unfold cf_with_number; rw [hid_eq]
def sem_need_number : SF :=
  (sIf (teP (tNot (pTest (pFn cf_is_number (gCons (pVar 0) (gCons (pVar 1) gNil)))))) sNever sNil)
@[irreducible] def cf_need_number : CF := hid (cfOf 0 [false, false] sem_need_number)
theorem cf_need_number_eq : cf_need_number = cfOf 0 [false, false] sem_need_number := by unfold cf_need_number; rw [hid_eq]
def sem_Keeper___init__ : SF :=
  (sSeq (sIf (teP (tNot (pTest (pFn cf_is_job (gCons (pVar 1) gNil))))) sNever sNil)
    (sSeq (sIf (teP (tNot (pTest (pFn cf_is_laying (gCons (pVar 1) (gCons (pVar 2) gNil)))))) sNever sNil)
    (sSeq (sFldN "Keeper" [] "now" (eMv 1) (plVar 0))
    (sSeq (sFldN "Keeper" ["now"] "laid" (eMv 2) (plVar 0))
    (sFldN "Keeper" ["now", "laid"] "past" (eP (pLst gNil)) (plVar 0))))))
@[irreducible] def cf_Keeper___init__ : CF := hid (cfOf 0 [true, false, false] sem_Keeper___init__)
theorem cf_Keeper___init___eq : cf_Keeper___init__ = cfOf 0 [true, false, false] sem_Keeper___init__ := by unfold cf_Keeper___init__; rw [hid_eq]
def sem_Keeper_job : SF :=
  (sRet (eP (pFlat (pFld "Keeper" ["now", "laid", "past"] 0 (pVar 0)))))
@[irreducible] def cf_Keeper_job : CF := hid (cfOf 0 [false] sem_Keeper_job)
theorem cf_Keeper_job_eq : cf_Keeper_job = cfOf 0 [false] sem_Keeper_job := by unfold cf_Keeper_job; rw [hid_eq]
def sem_Keeper_laying : SF :=
  (sRet (eP (pFlat (pFld "Keeper" ["now", "laid", "past"] 1 (pVar 0)))))
@[irreducible] def cf_Keeper_laying : CF := hid (cfOf 0 [false] sem_Keeper_laying)
theorem cf_Keeper_laying_eq : cf_Keeper_laying = cfOf 0 [false] sem_Keeper_laying := by unfold cf_Keeper_laying; rw [hid_eq]
def sem_Keeper_cost : SF :=
  (sRet (eP (pFn DCA.cf_cost (gCons (pFlat (pFld "Keeper" ["now", "laid", "past"] 0 (pVar 0))) (gCons (pFlat (pFld "Keeper" ["now", "laid", "past"] 1 (pVar 0))) gNil)))))
@[irreducible] def cf_Keeper_cost : CF := hid (cfOf 0 [false] sem_Keeper_cost)
theorem cf_Keeper_cost_eq : cf_Keeper_cost = cfOf 0 [false] sem_Keeper_cost := by unfold cf_Keeper_cost; rw [hid_eq]
def sem_Keeper_need_work : SF :=
  (sIf (teP (tNot (pTest (pFn cf_is_number (gCons (pVar 1) (gCons (pOp oSub (pCall oLen (gCons (pFlat (pFld "Keeper" ["now", "laid", "past"] 1 (pVar 0))) gNil)) (pC (.int 1))) gNil)))))) sNever sNil)
@[irreducible] def cf_Keeper_need_work : CF := hid (cfOf 0 [false, false] sem_Keeper_need_work)
theorem cf_Keeper_need_work_eq : cf_Keeper_need_work = cfOf 0 [false, false] sem_Keeper_need_work := by unfold cf_Keeper_need_work; rw [hid_eq]
def sem_Keeper_need_two : SF :=
  (sSeq (sExpr (eP (pMeth "Keeper" ["now", "laid", "past"] cf_Keeper_need_work (pVar 0) (gCons (pVar 1) gNil))))
    (sSeq (sExpr (eP (pMeth "Keeper" ["now", "laid", "past"] cf_Keeper_need_work (pVar 0) (gCons (pVar 2) gNil))))
    (sIf (teP (pTest (pOp oEq (pVar 1) (pVar 2)))) sNever sNil)))
@[irreducible] def cf_Keeper_need_two : CF := hid (cfOf 0 [false, false, false] sem_Keeper_need_two)
theorem cf_Keeper_need_two_eq : cf_Keeper_need_two = cfOf 0 [false, false, false] sem_Keeper_need_two := by unfold cf_Keeper_need_two; rw [hid_eq]
def sem_Keeper_turn_to : SF :=
  (sSeq (sExpr (eMthP mAppend (plFld "Keeper" ["now", "laid", "past"] 2 (plVar 0)) (gCons (pFlat (pTup (gCons (pFlat (pFld "Keeper" ["now", "laid", "past"] 0 (pVar 0))) (gCons (pFlat (pFld "Keeper" ["now", "laid", "past"] 1 (pVar 0))) gNil)))) gNil)))
    (sSeq (sFldS "Keeper" ["now", "laid", "past"] 0 (eMv 1) (plVar 0))
    (sFldS "Keeper" ["now", "laid", "past"] 1 (eMv 2) (plVar 0))))
@[irreducible] def cf_Keeper_turn_to : CF := hid (cfOf 0 [true, false, false] sem_Keeper_turn_to)
theorem cf_Keeper_turn_to_eq : cf_Keeper_turn_to = cfOf 0 [true, false, false] sem_Keeper_turn_to := by unfold cf_Keeper_turn_to; rw [hid_eq]
def sem_Keeper_flow : SF :=
  (sSeq (sExpr (eP (pMeth "Keeper" ["now", "laid", "past"] cf_Keeper_need_two (pVar 0) (gCons (pVar 1) (gCons (pVar 2) gNil)))))
    (sSeq (sExpr (eP (pFn cf_need_number (gCons (pVar 3) (gCons (pC (.int 999)) gNil)))))
    (sExpr (eMeth 0 "Keeper" ["now", "laid", "past"] [true, false, false] cf_Keeper_turn_to (aE (eP (pTup (gCons (pFn cf_with_number (gCons (pOp xIx (pFlat (pFld "Keeper" ["now", "laid", "past"] 0 (pVar 0))) (pC (.int 0))) (gCons (pVar 1) (gCons (pVar 2) (gCons (pVar 3) gNil))))) (gCons (pOp xIx (pFlat (pFld "Keeper" ["now", "laid", "past"] 0 (pVar 0))) (pC (.int 1))) (gCons (pOp xIx (pFlat (pFld "Keeper" ["now", "laid", "past"] 0 (pVar 0))) (pC (.int 2))) gNil))))) (aE (eP (pFlat (pFld "Keeper" ["now", "laid", "past"] 1 (pVar 0)))) aNil))))))
@[irreducible] def cf_Keeper_flow : CF := hid (cfOf 0 [true, false, false, false] sem_Keeper_flow)
theorem cf_Keeper_flow_eq : cf_Keeper_flow = cfOf 0 [true, false, false, false] sem_Keeper_flow := by unfold cf_Keeper_flow; rw [hid_eq]
def sem_Keeper_way : SF :=
  (sSeq (sExpr (eP (pMeth "Keeper" ["now", "laid", "past"] cf_Keeper_need_two (pVar 0) (gCons (pVar 1) (gCons (pVar 2) gNil)))))
    (sSeq (sExpr (eP (pFn cf_need_number (gCons (pVar 3) (gCons (pC (.int 999)) gNil)))))
    (sExpr (eMeth 0 "Keeper" ["now", "laid", "past"] [true, false, false] cf_Keeper_turn_to (aE (eP (pTup (gCons (pOp xIx (pFlat (pFld "Keeper" ["now", "laid", "past"] 0 (pVar 0))) (pC (.int 0))) (gCons (pFn cf_with_number (gCons (pOp xIx (pFlat (pFld "Keeper" ["now", "laid", "past"] 0 (pVar 0))) (pC (.int 1))) (gCons (pVar 1) (gCons (pVar 2) (gCons (pVar 3) gNil))))) (gCons (pOp xIx (pFlat (pFld "Keeper" ["now", "laid", "past"] 0 (pVar 0))) (pC (.int 2))) gNil))))) (aE (eP (pFlat (pFld "Keeper" ["now", "laid", "past"] 1 (pVar 0)))) aNil))))))
@[irreducible] def cf_Keeper_way : CF := hid (cfOf 0 [true, false, false, false] sem_Keeper_way)
theorem cf_Keeper_way_eq : cf_Keeper_way = cfOf 0 [true, false, false, false] sem_Keeper_way := by unfold cf_Keeper_way; rw [hid_eq]
def sem_Keeper_charge : SF :=
  (sSeq (sExpr (eP (pMeth "Keeper" ["now", "laid", "past"] cf_Keeper_need_work (pVar 0) (gCons (pVar 1) gNil))))
    (sSeq (sExpr (eP (pMeth "Keeper" ["now", "laid", "past"] cf_Keeper_need_work (pVar 0) (gCons (pVar 2) gNil))))
    (sSeq (sExpr (eP (pFn cf_need_number (gCons (pVar 3) (gCons (pC (.int 1000000)) gNil)))))
    (sExpr (eMeth 0 "Keeper" ["now", "laid", "past"] [true, false, false] cf_Keeper_turn_to (aE (eP (pTup (gCons (pOp xIx (pFlat (pFld "Keeper" ["now", "laid", "past"] 0 (pVar 0))) (pC (.int 0))) (gCons (pOp xIx (pFlat (pFld "Keeper" ["now", "laid", "past"] 0 (pVar 0))) (pC (.int 1))) (gCons (pFn cf_with_number (gCons (pOp xIx (pFlat (pFld "Keeper" ["now", "laid", "past"] 0 (pVar 0))) (pC (.int 2))) (gCons (pVar 1) (gCons (pVar 2) (gCons (pVar 3) gNil))))) gNil))))) (aE (eP (pFlat (pFld "Keeper" ["now", "laid", "past"] 1 (pVar 0)))) aNil)))))))
@[irreducible] def cf_Keeper_charge : CF := hid (cfOf 0 [true, false, false, false] sem_Keeper_charge)
theorem cf_Keeper_charge_eq : cf_Keeper_charge = cfOf 0 [true, false, false, false] sem_Keeper_charge := by unfold cf_Keeper_charge; rw [hid_eq]
def sem_Keeper_swap : SF :=
  (sSeq (sExpr (eP (pMeth "Keeper" ["now", "laid", "past"] cf_Keeper_need_work (pVar 0) (gCons (pVar 1) gNil))))
    (sSeq (sExpr (eP (pMeth "Keeper" ["now", "laid", "past"] cf_Keeper_need_work (pVar 0) (gCons (pVar 2) gNil))))
    (sExpr (eMeth 0 "Keeper" ["now", "laid", "past"] [true, false, false] cf_Keeper_turn_to (aE (eP (pFlat (pFld "Keeper" ["now", "laid", "past"] 0 (pVar 0)))) (aE (eP (pFn DCB.cf_exchanged (gCons (pFlat (pFld "Keeper" ["now", "laid", "past"] 1 (pVar 0))) (gCons (pVar 1) (gCons (pVar 2) gNil))))) aNil))))))
@[irreducible] def cf_Keeper_swap : CF := hid (cfOf 0 [true, false, false] sem_Keeper_swap)
theorem cf_Keeper_swap_eq : cf_Keeper_swap = cfOf 0 [true, false, false] sem_Keeper_swap := by unfold cf_Keeper_swap; rw [hid_eq]
def sem_Keeper_better : SF :=
  (sSeq (sSet 1 (eP (pTup (gCons (pC (.int 0)) (gCons (pC (.int 0)) (gCons (pC (.int 0)) gNil))))))
    (sSeq (sForR (jR1 (gCons (pCall oLen (gCons (pFlat (pFld "Keeper" ["now", "laid", "past"] 1 (pVar 0))) gNil)) gNil)) (gNm 2) (sForR (jR2 (gCons (pOp oAdd (pVar 2) (pC (.int 1))) (gCons (pCall oLen (gCons (pFlat (pFld "Keeper" ["now", "laid", "past"] 1 (pVar 0))) gNil)) gNil))) (gNm 3) (sSeq (sSet 4 (eP (pFn DCB.cf_saved (gCons (pFlat (pFld "Keeper" ["now", "laid", "past"] 0 (pVar 0))) (gCons (pFlat (pFld "Keeper" ["now", "laid", "past"] 1 (pVar 0))) (gCons (pVar 2) (gCons (pVar 3) gNil)))))))
    (sIf (teP (pTest (pOp oGt (pVar 4) (pOp xIx (pVar 1) (pC (.int 2)))))) (sSet 1 (eP (pTup (gCons (pVar 2) (gCons (pVar 3) (gCons (pVar 4) gNil)))))) sNil))))
    (sSeq (sIf (teP (pTest (pOp oEq (pOp xIx (pVar 1) (pC (.int 2))) (pC (.int 0))))) (sRet (eP (pC .non))) sNil)
    (sSeq (sExpr (eMeth 0 "Keeper" ["now", "laid", "past"] [true, false, false] cf_Keeper_swap (aE (eP (pOp xIx (pVar 1) (pC (.int 0)))) (aE (eP (pOp xIx (pVar 1) (pC (.int 1)))) aNil))))
    (sRet (eMv 1))))))
@[irreducible] def cf_Keeper_better : CF := hid (cfOf 4 [true] sem_Keeper_better)
theorem cf_Keeper_better_eq : cf_Keeper_better = cfOf 4 [true] sem_Keeper_better := by unfold cf_Keeper_better; rw [hid_eq]
def sem_Keeper_back : SF :=
  (sSeq (sIf (teP (pTest (pOp oEq (pFld "Keeper" ["now", "laid", "past"] 2 (pVar 0)) (pLst gNil)))) sNever sNil)
    (sFldP "Keeper" ["now", "laid", "past"] 0 1 (eMthP xPop (plFld "Keeper" ["now", "laid", "past"] 2 (plVar 0)) gNil) (plVar 0) (plVar 0)))
@[irreducible] def cf_Keeper_back : CF := hid (cfOf 0 [true] sem_Keeper_back)
theorem cf_Keeper_back_eq : cf_Keeper_back = cfOf 0 [true] sem_Keeper_back := by unfold cf_Keeper_back; rw [hid_eq]
end
end DCF

namespace DCF
open PySem PySem.Spec PyProof.Rows L2 DL PA DCB DCC
theorem number_yes {i m : Int} {Q X} (h0 : 0 ≤ i) (h1 : i ≤ m) (h : Q (.fl, .bl true) []) : cf_is_number [(.fl, .int i), (.fl, .int m)] Q X := by
  rw [cf_is_number_eq]
  refine ifd (fun _ => ?_) fun c => absurd h0 c
  show Q (.fl, .bl (decide (i ≤ m))) []
  rw [decide_eq_true h1]
  exact h
theorem all_true (n : Nat) : (tabl n fun _ => true).all id = true := by
  rw [List.all_eq_true]
  intro b hb
  obtain ⟨i, _, rfl⟩ := List.mem_map.mp hb
  rfl
theorem go_all {n : Nat} {k : Kd} {P : KD → Prop} (p : P (.fl, .bl true)) : oAll [(k, .lst (tabl n fun _ => .bl true))] P := ⟨tabl n fun _ => true, by unfold tabl; rw [List.map_map]; rfl, by rw [all_true]; exact p⟩
theorem lenD {n : Nat} {f : Nat → D} : ((tabl n f).length : Int) = n := congrArg Int.ofNat tabl_len
theorem row_yes {n : Nat} {m : Int} {f : Nat → Int} {Q X} (hn : n ≤ 1000) (hf : ∀ j, j < n → 0 ≤ f j ∧ f j ≤ m) (h : Q (.fl, .bl true) []) : cf_is_row [(.fl, .tup (tabl n fun j => .int (f j))), (.fl, .int n), (.fl, .int m)] Q X := by
  rw [cf_is_row_eq]
  refine ifd (fun _ => ?_) fun c => absurd lenD c
  refine go_LcT (fun _ => .bl true) (by omega) (fun i N hi hN => ?_) (go_all h)
  exact number_yes (hf i hi).1 (hf i hi).2 hN
theorem square_yes {n : Nat} {m : Int} {f : Nat → Nat → Int} {Q X} (hn : n ≤ 1000) (hf : Tab n m f) (h : Q (.fl, .bl true) []) : cf_is_square [(.fl, tabD n f), (.fl, .int n), (.fl, .int m)] Q X := by
  rw [cf_is_square_eq]
  refine ifd (fun _ => ?_) fun c => absurd lenD c
  refine go_LcT (fun _ => .bl true) (by omega) (fun i N hi hN => ?_) (go_all h)
  exact row_yes hn (fun j hj => hf i j hi hj) hN
theorem part_yes {n : Nat} {F W C : Nat → Nat → Int} {p : Nat → Nat} {Q X} (hn1 : 1 ≤ n) (hn : n ≤ 8) (hp : Perm n p) (h : Q (.fl, .bl true) []) : cf_is_part [(.fl, jobD n F W C), (.fl, layD n p)] Q X := by
  rw [cf_is_part_eq]
  refine go_ix rfl rfl ?_
  have hL : ((tabl n fun i => D.tup (tabl n fun j => .int (F i j))).length : Int) = n := lenD
  refine ifdn (fun c => absurd (lenD.trans hL.symm) c) fun _ => ?_
  refine go_LcT (fun i => .int (p i : Nat)) (by omega) (fun i N hi hN => ⟨rfl, hN⟩) ?_
  refine go_LcT (fun _ => .bl true) (by omega) (fun i N hi hN => ?_) (go_all ?_)
  · have := hp.lt i hi
    refine number_yes (by omega) ?_ hN
    rw [hL]; omega
  · refine ⟨tabl n fun i => ((p i : Nat) : Int), by unfold tabl; rw [List.map_map]; rfl, ?_, by rw [tabl_len]; omega, ?_⟩
    · have h1 := nodup_tabl hp.inj
      have e : (tabl n fun i => ((p i : Nat) : Int)) = (tabl n p).map Int.ofNat := by unfold tabl; rw [List.map_map]; rfl
      rw [e]
      exact List.Pairwise.map _ (fun a b hab z => hab (Int.ofNat.inj z)) h1
    · show Q (.fl, .bl (decide (((tabl n fun i => ((p i : Nat) : Int)).length : Int) = ((tabl n fun i => D.int (p i : Nat)).length : Int)))) []
      rw [tabl_len, tabl_len, decide_eq_true rfl]
      exact h
theorem laying_yes {n : Nat} {F W C : Nat → Nat → Int} {p : Nat → Nat} {Q X} (hn1 : 1 ≤ n) (hn : n ≤ 8) (hp : Perm n p) (h : Q (.fl, .bl true) []) : cf_is_laying [(.fl, jobD n F W C), (.fl, layD n p)] Q X := by
  rw [cf_is_laying_eq]
  refine part_yes hn1 hn hp ?_
  refine ⟨rfl, flat_ints, ?_⟩
  have e : inD .non (tabl n fun i => D.int (p i : Nat)) = false := by
    unfold inD
    rw [List.any_eq_false]
    intro d hd
    obtain ⟨i, _, rfl⟩ := List.mem_map.mp hd
    exact fun z => nomatch z
  show Q (.fl, .bl (!inD .non (tabl n fun i => D.int (p i : Nat)))) []
  rw [e]
  exact h
theorem cut_take {xs : List D} {a : Nat} (h : a ≤ xs.length) : DL.cutD xs none (some (a : Int)) = xs.take a := by
  unfold DL.cutD
  rw [HT.sIx_none, HT.sIx_nat, Nat.min_eq_left h, List.drop_zero, Nat.sub_zero]
theorem cut_drop {xs : List D} {a : Nat} (h : a ≤ xs.length) : DL.cutD xs (some (a : Int)) none = xs.drop a := by
  unfold DL.cutD
  rw [HT.sIx_none, HT.sIx_nat, Nat.min_eq_left h]
  exact List.take_of_length_le (by rw [List.length_drop]; exact Nat.le_refl _)
theorem tabl_put {α : Type} {n a : Nat} {f : Nat → α} {x : α} (h : a < n) : (tabl n f).take a ++ [x] ++ (tabl n f).drop (a + 1) = tabl n fun i => if i = a then x else f i := by
  have e : (tabl n f).take a ++ [x] ++ (tabl n f).drop (a + 1) = (tabl n f).set a x := by
    rw [List.set_eq_take_append_cons_drop, if_pos (by rw [tabl_len]; exact h), List.append_assoc]; rfl
  rw [e]
  refine List.ext_getElem? fun i => ?_
  by_cases hi : i < n
  · rw [tabl_get hi, List.getElem?_set]
    by_cases c : a = i
    · rw [if_pos c, if_pos (by rw [tabl_len]; omega), if_pos c.symm]
    · rw [if_neg c, if_neg fun z => c z.symm, tabl_get hi]
  · rw [List.getElem?_eq_none (by rw [List.length_set, tabl_len]; omega), List.getElem?_eq_none (by rw [tabl_len]; omega)]
def put (f : Nat → Nat → Int) (a b : Nat) (x : Int) : Nat → Nat → Int := fun i j => if i = a then (if j = b then x else f i j) else f i j
theorem with_spec {n a b : Nat} {f : Nat → Nat → Int} {x : Int} {Q X} (hn : n ≤ 1000) (ha : a < n) (hb : b < n) (h : Q (.fl, tabD n (put f a b x)) []) : cf_with_number [(.fl, tabD n f), (.fl, .int a), (.fl, .int b), (.fl, .int x)] Q X := by
  rw [cf_with_number_eq]
  have hl : ∀ {m : Nat} {g : Nat → D} (lo hi : Option Int), (DL.cutD (tabl m g) lo hi).length ≤ m := fun lo hi => by
    unfold DL.cutD
    rw [List.length_take, List.length_drop, tabl_len]
    omega
  have cat : ∀ {m c : Nat} {g : Nat → D} {y : D}, c < m → DL.cutD (tabl m g) none (some (c : Int)) ++ [y] ++ DL.cutD (tabl m g) (some ((c : Int) + 1)) none = tabl m fun i => if i = c then y else g i := fun {m c g y} h => by
    rw [cut_take (by rw [tabl_len]; omega), show ((c : Int) + 1) = ((c + 1 : Nat) : Int) from rfl, cut_drop (by rw [tabl_len]; omega)]
    exact tabl_put h
  have two : ∀ {m c : Nat} {g : Nat → D} {y : D}, m ≤ 1000 → (DL.cutD (tabl m g) none (some (c : Int))).length + [y].length ≤ 10000000 ∧ (DL.cutD (tabl m g) none (some (c : Int)) ++ [y]).length + (DL.cutD (tabl m g) (some ((c : Int) + 1)) none).length ≤ 10000000 := fun {m c g y} h => by
    have h1 := hl (m := m) (g := g) none (some (c : Int))
    have h2 := hl (m := m) (g := g) (some ((c : Int) + 1)) none
    rw [List.length_append, List.length_singleton]
    omega
  refine go_tab ha ⟨(two hn).1, go_tab ha ⟨(two hn).2, ⟨(two hn).1, ⟨(two hn).2, ?_⟩⟩⟩⟩
  show Q (.fl, .tup (DL.cutD (tabl n fun i => D.tup (tabl n fun j => .int (f i j))) none (some (a : Int)) ++ [D.tup (DL.cutD (tabl n fun j => D.int (f a j)) none (some (b : Int)) ++ [D.int x] ++ DL.cutD (tabl n fun j => D.int (f a j)) (some ((b : Int) + 1)) none)] ++ DL.cutD (tabl n fun i => D.tup (tabl n fun j => .int (f i j))) (some ((a : Int) + 1)) none)) []
  rw [cat ha, cat hb]
  have e : (tabl n fun i => if i = a then D.tup (tabl n fun j => if j = b then D.int x else D.int (f a j)) else D.tup (tabl n fun j => .int (f i j))) = tabl n fun i => D.tup (tabl n fun j => .int (put f a b x i j)) := tabl_congr fun i _ => by
    unfold put
    by_cases c : i = a
    · subst c
      simp only [if_true]
      congr 1
      refine tabl_congr fun j _ => ?_
      by_cases d : j = b
      · rw [if_pos d, if_pos d]
      · rw [if_neg d, if_neg d]
    · simp only [if_neg c]
  rw [e]
  exact h
end DCF

namespace DCF
open PySem PySem.Spec PyProof.Rows L2 DL PA DCB DCC
structure KS where
  F : Nat → Nat → Int
  W : Nat → Nat → Int
  C : Nat → Nat → Int
  p : Nat → Nat
abbrev stD (n : Nat) (s : KS) : D := .tup [jobD n s.F s.W s.C, layD n s.p]
abbrev kpD (n : Nat) (s : KS) (hist : List KS) : D := .obj "Keeper" ["now", "laid", "past"] [jobD n s.F s.W s.C, layD n s.p, .lst (hist.map (stD n))]
structure KOk (n : Nat) (s : KS) : Prop where
  n1 : 1 ≤ n
  n8 : n ≤ 8
  job : Job n s.F s.W s.C
  perm : Perm n s.p
theorem tab_imm {n : Nat} {f : Nat → Nat → Int} : (tabD n f).imm = true := imm_tab fun _ _ => imm_tab fun _ _ => rfl
theorem job_imm {n : Nat} {F W C : Nat → Nat → Int} : (jobD n F W C).imm = true := by
  show ((tabD n F).imm && ((tabD n W).imm && ((tabD n C).imm && true))) = true
  rw [tab_imm, tab_imm, tab_imm]; rfl
theorem lay_imm {n : Nat} {p : Nat → Nat} : (layD n p).imm = true := imm_tab fun _ _ => rfl
variable {n : Nat} {s : KS} {hist : List KS}
theorem kjob_spec {Q X} (h : Q (.fl, jobD n s.F s.W s.C) []) : cf_Keeper_job [(.rd, kpD n s hist)] Q X := by
  rw [cf_Keeper_job_eq]
  exact go_fld rfl rfl ⟨job_imm, h⟩
theorem klaying_spec {Q X} (h : Q (.fl, layD n s.p) []) : cf_Keeper_laying [(.rd, kpD n s hist)] Q X := by
  rw [cf_Keeper_laying_eq]
  exact go_fld rfl rfl ⟨lay_imm, h⟩
theorem fixedV_eq {n : Nat} {F W C : Nat → Nat → Int} {p : Nat → Nat} : DCA.fixedV n F W C p = costV n F W C p := sumR_add.symm
theorem kcost_spec {Q X} (hs : KOk n s) (h : Q (.fl, .int (costV n s.F s.W s.C s.p)) []) : cf_Keeper_cost [(.rd, kpD n s hist)] Q X := by
  rw [cf_Keeper_cost_eq]
  refine go_fld rfl rfl ⟨job_imm, go_fld rfl rfl ⟨lay_imm, ?_⟩⟩
  exact DCA.cost_spec (by have := hs.n8; omega) hs.perm.lt (Tab.mono hs.job.f (by omega)) (by rw [fixedV_eq]; exact h)
theorem turn_spec {t : KS} {Q X} (hl : hist.length < 10000000) (h : Q (.fl, .non) [(.ow, kpD n t (hist ++ [s]))]) : cf_Keeper_turn_to [(.ow, kpD n s hist), (.fl, jobD n t.F t.W t.C), (.fl, layD n t.p)] Q X := by
  rw [cf_Keeper_turn_to_eq]
  refine go_fldP rfl rfl ?_
  refine ⟨rfl, go_fld rfl rfl ⟨job_imm, go_fld rfl rfl ⟨lay_imm, ?_⟩⟩⟩
  have hi : (D.tup [jobD n s.F s.W s.C, layD n s.p]).imm = true := by
    show ((jobD n s.F s.W s.C).imm && ((layD n s.p).imm && true)) = true
    rw [job_imm, lay_imm]; rfl
  refine ⟨hi, rfl, by rw [List.length_map]; exact hl, ?_⟩
  refine go_fldS rfl rfl (show 0 < 3 by decide) (go_fldS rfl rfl (show 1 < 3 by decide) ?_)
  have e : hist.map (stD n) ++ [stD n s] = (hist ++ [s]).map (stD n) := by rw [List.map_append]; rfl
  show Q (.fl, .non) [(.ow, .obj "Keeper" ["now", "laid", "past"] [jobD n t.F t.W t.C, layD n t.p, .lst (hist.map (stD n) ++ [stD n s])])]
  rw [e]
  exact h
theorem Tab.put {n : Nat} {m : Int} {f : Nat → Nat → Int} {a b : Nat} {x : Int} (h : Tab n m f) (h0 : 0 ≤ x) (h1 : x ≤ m) : Tab n m (put f a b x) := fun i j hi hj => by
  unfold DCF.put
  by_cases c : i = a
  · rw [if_pos c]
    by_cases d : j = b
    · rw [if_pos d]; exact ⟨h0, h1⟩
    · rw [if_neg d]; exact h i j hi hj
  · rw [if_neg c]; exact h i j hi hj
theorem Bare.put {n : Nat} {f : Nat → Nat → Int} {a b : Nat} {x : Int} (h : Bare n f) (hab : a ≠ b) : Bare n (put f a b x) := fun i hi => by
  unfold DCF.put
  by_cases c : i = a
  · rw [if_pos c, if_neg (fun d => hab (c ▸ d))]; exact h i hi
  · rw [if_neg c]; exact h i hi
theorem KOk.flow {a b : Nat} {x : Int} (hs : KOk n s) (hab : a ≠ b) (h0 : 0 ≤ x) (h1 : x ≤ 999) : KOk n { s with F := put s.F a b x } := ⟨hs.n1, hs.n8, ⟨Tab.put hs.job.f h0 h1, hs.job.w, hs.job.c, Bare.put hs.job.f0 hab, hs.job.w0⟩, hs.perm⟩
theorem KOk.way {a b : Nat} {x : Int} (hs : KOk n s) (hab : a ≠ b) (h0 : 0 ≤ x) (h1 : x ≤ 999) : KOk n { s with W := put s.W a b x } := ⟨hs.n1, hs.n8, ⟨hs.job.f, Tab.put hs.job.w h0 h1, hs.job.c, hs.job.f0, Bare.put hs.job.w0 hab⟩, hs.perm⟩
theorem KOk.charge {a b : Nat} {x : Int} (hs : KOk n s) (h0 : 0 ≤ x) (h1 : x ≤ 1000000) : KOk n { s with C := put s.C a b x } := ⟨hs.n1, hs.n8, ⟨hs.job.f, hs.job.w, Tab.put hs.job.c h0 h1, hs.job.f0, hs.job.w0⟩, hs.perm⟩
theorem KOk.swap {a b : Nat} (hs : KOk n s) (ha : a < n) (hb : b < n) : KOk n { s with p := swp s.p a b } := ⟨hs.n1, hs.n8, hs.job, swp_perm hs.perm ha hb⟩
theorem stD_cL {s : KS} : (stD n s).cL = true ∧ (stD n s).hL ≤ 10 := by
  have tab : ∀ f : Nat → Nat → Int, (tabD n f).cL = true ∧ (tabD n f).hL ≤ 3 := fun f => ⟨cLs_tabl fun i _ => cLs_tabl fun j _ => rfl, Nat.succ_le_succ (hLs_tabl (c := 2) fun i _ => Nat.succ_le_succ (hLs_tabl (c := 1) fun j _ => Nat.le_refl _))⟩
  have lay : (layD n s.p).cL = true ∧ (layD n s.p).hL ≤ 2 := ⟨cLs_tabl fun i _ => rfl, Nat.succ_le_succ (hLs_tabl (c := 1) fun j _ => Nat.le_refl _)⟩
  constructor
  · show ((((tabD n s.F).cL && ((tabD n s.W).cL && ((tabD n s.C).cL && true)))) && ((layD n s.p).cL && true)) = true
    rw [(tab _).1, (tab _).1, (tab _).1, lay.1]; rfl
  · show max (max (tabD n s.F).hL (max (tabD n s.W).hL (max (tabD n s.C).hL 0)) + 1) (max (layD n s.p).hL 0) + 1 ≤ 10
    have h1 := (tab s.F).2
    have h2 := (tab s.W).2
    have h3 := (tab s.C).2
    have h4 := lay.2
    omega
structure Best (n : Nat) (s : KS) (r : Option (Nat × Nat × Int)) : Prop where
  no : r = none → ∀ a b, a < b → b < n → savV n s.F s.W s.C s.p a b ≤ 0
  yes : ∀ a b t, r = some (a, b, t) → a < b ∧ b < n ∧ t = savV n s.F s.W s.C s.p a b ∧ 0 < t ∧ ∀ a b, a < b → b < n → savV n s.F s.W s.C s.p a b ≤ t
def best3 : Option (Nat × Nat × Int) → D
  | none => .tup [.int 0, .int 0, .int 0]
  | some (a, b, t) => .tup [.int a, .int b, .int t]
def bestN : Option (Nat × Nat × Int) → D
  | none => .non
  | some (a, b, t) => .tup [.int a, .int b, .int t]
def amt : Option (Nat × Nat × Int) → Int
  | none => 0
  | some (_, _, t) => t
end DCF

namespace DCG
open PySem PySem.Spec PyProof.Rows L2 DL
noncomputable section
def sem__law_plain_job : SF :=
  (sSeq (sSet 2 (eOp oAdd (eP (pC (.int 1))) (eFn [true, false] DCA.cf__law_dip (aPl 0 (aE (eMv 1) aNil)))))
    (sSeq (sSet 3 (eFn [true, false] DCA.cf__law_dip (aPl 0 (aE (eP (pC (.int 2))) aNil))))
    (sSeq (sSet 4 (eP (pLst gNil)))
    (sSeq (sForX (iSq (pLst (gCons (pC (.int 1000)) (gCons (pC (.int 1000)) (gCons (pC (.int 1000001)) gNil))))) (gNm 5) (sSeq (sSet 6 (eP (pLst gNil)))
    (sSeq (sForX (jR1 (gCons (pVar 2) gNil)) (gNm 7) (sSeq (sExpr (eMthR mAppend 6 (aE (eLcX (jR1 (gCons (pVar 2) gNil)) [8] (gNm 8) tNilP (eFn [true, false] DCA.cf__law_dip (aPl 0 (aE (eP (pOp xIx (pLst (gCons (pVar 5) (gCons (pC (.int 5)) gNil))) (pVar 3))) aNil)))) aNil)))
    (sStIxX (eP (pOp oMul (pOp xIx (pOp xIx (pVar 6) (pVar 7)) (pVar 7)) (pCall oInt (gCons (pOp oGt (pVar 5) (pC (.int 1000))) gNil)))) (plIxX (plVar 6) (pVar 7)) (pVar 7))))
    (sExpr (eMthR mAppend 4 (aE (eMv 6) aNil))))))
    (sRet (eMv 4))))))
@[irreducible] def cf__law_plain_job : CF := hid (cfOf 7 [true, false] sem__law_plain_job)
def sem__law_tuples : SF :=
  (sRet (eP (pCall oTuple (gCons (pLcX (iSq (pVar 0)) [1] (gNm 1) tNilP (pCall oTuple (gCons (pLcX (iSq (pVar 1)) [2] (gNm 2) tNilP (pCall oTupleF (gCons (pVar 2) gNil))) gNil))) gNil))))
@[irreducible] def cf__law_tuples : CF := hid (cfOf 2 [false] sem__law_tuples)
end
end DCG

namespace DCG
open PySem PySem.Spec PyProof.Rows L2 DL PA DCB
open DCA (Bag dip_spec dip_specN)
abbrev squaresD (n : Nat) (Fs : Nat → Nat → Nat → Int) : D := .lst (tabl 3 fun k => sqL n (Fs k))
def topV (k : Nat) : Int := if k = 2 then 1000001 else 1000
end DCG

namespace DCH
open PySem PySem.Spec PyProof.Rows L2 DL
noncomputable section
def sem_rows_of : SF :=
  (sSeq (sSet 1 (eP (pLst (gCons (pOp oAdd (pC (.str "works ")) (pCall oStr (gCons (pCall oLen (gCons (pOp xIx (pVar 0) (pC (.int 0))) gNil)) gNil))) gNil))))
    (sBar (sSeq (sForX (iZpB (gCons (pC (.kst ((["flow", "way", "cost"] : List Str).map .str))) (gCons (pVar 0) gNil))) (gTu 2 (tConsG (gNm 2) (tConsG (gNm 3) tNilG))) (sForX (iEn (gCons (pVar 3) gNil)) (gTu 2 (tConsG (gNm 4) (tConsG (gNm 5) tNilG))) (sForX (iEn (gCons (pVar 5) gNil)) (gTu 2 (tConsG (gNm 6) (tConsG (gNm 7) tNilG))) (sIf (teP (pTest (pOp oNe (pVar 7) (pC (.int 0))))) (sExpr (eMthR mAppend 1 (aE (eP (pJoin (pC (.str " ")) (pLst (gCons (pVar 2) (gCons (pCall oStr (gCons (pVar 4) gNil)) (gCons (pCall oStr (gCons (pVar 6) gNil)) (gCons (pCall oStr (gCons (pVar 7) gNil)) gNil))))))) aNil))) sNil))))
    (sRet (eMv 1)))))
@[irreducible] def cf_rows_of : CF := hid (cfOf 7 [false] sem_rows_of)
theorem cf_rows_of_eq : cf_rows_of = cfOf 7 [false] sem_rows_of := by unfold cf_rows_of; rw [hid_eq]
def sem_show_job : SF :=
  (sRet (eP (pJoin (pC (.str "\n")) (pFn cf_rows_of (gCons (pVar 0) gNil)))))
@[irreducible] def cf_show_job : CF := hid (cfOf 0 [false] sem_show_job)
def sem__law_sparse : SF :=
  (sSeq (sIf (teAnd (teP (pTest (pVar 2))) (eTest (eOp oGt (eFn [true, false] DCA.cf__law_dip (aPl 0 (aE (eP (pC (.int 4))) aNil))) (eP (pC (.int 0)))))) (sRet (eP (pC (.int 0)))) sNil)
    (sRet (eOp xIx (eLst (aE (eMv 1) (aE (eP (pC (.int 1))) (aE (eFn [true, false] DCA.cf__law_dip (aPl 0 (aE (eP (pOp oAdd (pVar 1) (pC (.int 1)))) aNil))) aNil)))) (eFn [true, false] DCA.cf__law_dip (aPl 0 (aE (eP (pC (.int 3))) aNil))))))
@[irreducible] def cf__law_sparse : CF := hid (cfOf 0 [true, false, false] sem__law_sparse)
def sem__law_sparse_job : SF :=
  (sSeq (sSet 2 (eOp oAdd (eP (pC (.int 1))) (eFn [true, false] DCA.cf__law_dip (aPl 0 (aE (eMv 1) aNil)))))
    (sSeq (sSet 3 (eOp oGt (eFn [true, false] DCA.cf__law_dip (aPl 0 (aE (eP (pC (.int 3))) aNil))) (eP (pC (.int 0)))))
    (sSeq (sSet 4 (eP (pLst gNil)))
    (sSeq (sForX (iSq (pLst (gCons (pC (.int 999)) (gCons (pC (.int 999)) (gCons (pC (.int 1000000)) gNil))))) (gNm 5) (sSeq (sSet 6 (eLcX (jR1 (gCons (pVar 2) gNil)) [7] (gNm 7) tNilP (eLcX (jR1 (gCons (pVar 2) gNil)) [8] (gNm 8) tNilP (eFn [true, false, false] cf__law_sparse (aPl 0 (aE (eMv 5) (aE (eMv 3) aNil)))))))
    (sSeq (sForX (jR1 (gCons (pVar 2) gNil)) (gNm 7) (sStIxX (eP (pOp oMul (pOp xIx (pOp xIx (pVar 6) (pVar 7)) (pVar 7)) (pCall oInt (gCons (pOp oGt (pVar 5) (pC (.int 999))) gNil)))) (plIxX (plVar 6) (pVar 7)) (pVar 7)))
    (sExpr (eMthR mAppend 4 (aE (eMv 6) aNil))))))
    (sRet (eMv 4))))))
@[irreducible] def cf__law_sparse_job : CF := hid (cfOf 7 [true, false] sem__law_sparse_job)
def sem__law_rows : SF :=
  (sSeq (sSet 1 (eP (pLst (gCons (pOp oAdd (pC (.str "works ")) (pCall oStr (gCons (pCall oLen (gCons (pOp xIx (pVar 0) (pC (.int 0))) gNil)) gNil))) gNil))))
    (sBar (sSeq (sForX (iZp (gCons (pLst (gCons (pC (.str "flow")) (gCons (pC (.str "way")) (gCons (pC (.str "cost")) gNil)))) (gCons (pVar 0) gNil))) (gTu 2 (tConsG (gNm 2) (tConsG (gNm 3) tNilG))) (sForX (jR1 (gCons (pCall oLen (gCons (pVar 3) gNil)) gNil)) (gNm 4) (sForX (jR1 (gCons (pCall oLen (gCons (pVar 3) gNil)) gNil)) (gNm 5) (sIf (teP (pTest (pOp oNe (pOp xIx (pOp xIx (pVar 3) (pVar 4)) (pVar 5)) (pC (.int 0))))) (sSeq (sSet 6 (eP (pLst (gCons (pVar 2) (gCons (pCall oStr (gCons (pVar 4) gNil)) (gCons (pCall oStr (gCons (pVar 5) gNil)) (gCons (pCall oStr (gCons (pOp xIx (pOp xIx (pVar 3) (pVar 4)) (pVar 5)) gNil)) gNil)))))))
    (sExpr (eMthR mAppend 1 (aE (eP (pJoin (pC (.str " ")) (pVar 6))) aNil)))) sNil))))
    (sRet (eMv 1)))))
@[irreducible] def cf__law_rows : CF := hid (cfOf 6 [false] sem__law_rows)
theorem cf__law_rows_eq : cf__law_rows = cfOf 6 [false] sem__law_rows := by unfold cf__law_rows; rw [hid_eq]
end
end DCH

namespace DCH
open PySem PySem.Spec PyProof.Rows L2 DL PA DCB DCG
open DCA (Bag dip_spec dip_specN)
end DCH
namespace DCH
open PySem PySem.Spec PyProof.Rows L2 DL PA DCB DCG
open DCA (Bag dip_spec dip_specN)
def sI (i : Int) : Str := toString i
def nm : Nat → Str
  | 0 => "flow"
  | 1 => "way"
  | _ => "cost"
def cellV (s k j : Nat) (x : Int) : List Str := if x = 0 then [] else [Txt.join " " [nm s, sI k, sI j, sI x]]
def rowV (s k m : Nat) (f : Nat → Int) : List Str := (List.range m).flatMap fun j => cellV s k j (f j)
def sqV (s n m : Nat) (F : Nat → Nat → Int) : List Str := (List.range m).flatMap fun k => rowV s k n (F k)
def allV (n m : Nat) (Fs : Nat → Nat → Nat → Int) : List Str := (List.range m).flatMap fun s => sqV s n n (Fs s)
def rowsV (n : Nat) (Fs : Nat → Nat → Nat → Int) : List Str := (("works " : Str) ++ sI n) :: allV n 3 Fs
theorem flat_succ {α : Type} {m : Nat} {f : Nat → List α} : (List.range (m + 1)).flatMap f = (List.range m).flatMap f ++ f m := by
  rw [List.range_succ, List.flatMap_append]; simp
theorem flat_le {α : Type} {c : Nat} {f : Nat → List α} : ∀ m : Nat, (∀ i, i < m → (f i).length ≤ c) → ((List.range m).flatMap f).length ≤ m * c
  | 0, _ => Nat.zero_le _
  | m + 1, h => by
    rw [flat_succ, List.length_append, Nat.add_mul, Nat.one_mul]
    exact Nat.add_le_add (flat_le m fun i hi => h i (by omega)) (h m (by omega))
theorem cell_le {s k j : Nat} {x : Int} : (cellV s k j x).length ≤ 1 := by
  unfold cellV
  split
  · exact Nat.zero_le _
  · exact Nat.le_refl _
theorem row_le {s k m : Nat} {f : Nat → Int} : (rowV s k m f).length ≤ m := by
  have := flat_le (f := fun j => cellV s k j (f j)) (c := 1) m fun i _ => cell_le
  rwa [Nat.mul_one] at this
theorem sq_le {s n m : Nat} {F : Nat → Nat → Int} : (sqV s n m F).length ≤ m * n := flat_le m fun _ _ => row_le
theorem all_le {n m : Nat} {Fs : Nat → Nat → Nat → Int} : (allV n m Fs).length ≤ m * (n * n) := flat_le m fun _ _ => sq_le
theorem sI_len {i : Int} (h : i.natAbs < 10 ^ 70) : (sI i).length ≤ 71 := by
  have := shown_int_len h
  rw [PyData.shown_int] at this
  exact this
theorem join_len (y : Str) : ∀ ps : List Str, (Txt.join y ps).length ≤ (ps.map (·.length)).sum + ps.length * y.length := fun ps => by
  rw [TL.join_eq]
  induction ps with
  | nil => exact Nat.zero_le _
  | cons p ps ih =>
    cases ps with
    | nil => show p.length ≤ p.length + 0 + 1 * y.length; omega
    | cons q r =>
      show (p ++ y ++ Str.join y (q :: r)).length ≤ p.length + ((q :: r).map (·.length)).sum + ((q :: r).length + 1) * y.length
      rw [Str.length_append, Str.length_append, Nat.add_mul]
      omega
end DCH
namespace DCH
open PySem PySem.Spec PyProof.Rows L2 DL PA DCB DCG
open DCA (Bag dip_spec dip_specN)
theorem log_le {i : Int} (h : i.natAbs < 10 ^ 70) : i.natAbs.log2 < 1920 := log_ok h
theorem cell_go {s k j : Nat} {x : Int} (h1 : k < 1000) (h2 : j < 1000) (h3 : 0 ≤ x ∧ x ≤ 1000000) : (([nm s, sI k, sI j, sI x] : List Str).map (·.length)).sum + ([nm s, sI k, sI j, sI x] : List Str).length * ((" " : Str)).length ≤ 300 := by
  have a1 := sI_len (i := (k : Nat)) (Nat.lt_of_le_of_lt (show ((k : Nat) : Int).natAbs ≤ 1000 by omega) (by decide +kernel))
  have a2 := sI_len (i := (j : Nat)) (Nat.lt_of_le_of_lt (show ((j : Nat) : Int).natAbs ≤ 1000 by omega) (by decide +kernel))
  have a3 := sI_len (i := x) (Nat.lt_of_le_of_lt (show x.natAbs ≤ 1000000 by omega) (by decide +kernel))
  have a4 : (nm s).length ≤ 4 := by
    match s with
    | 0 => decide
    | 1 => decide
    | s + 2 => exact (by decide : ("cost" : Str).length ≤ 4)
  show (nm s).length + ((sI k).length + ((sI j).length + ((sI x).length + 0))) + 4 * 1 ≤ 300
  omega
structure Nums (n : Nat) (Fs : Nat → Nat → Nat → Int) : Prop where
  b : ∀ s i j, s < 3 → i < n → j < n → 0 ≤ Fs s i j ∧ Fs s i j ≤ 1000000
theorem rows_of_spec {n : Nat} {Fs : Nat → Nat → Nat → Int} {Q X} (hn : n ≤ 100) (hF : Nums n Fs) (h : Q (.sh, .lst ((rowsV n Fs).map .str)) []) : cf_rows_of [(.fl, jobD n (Fs 0) (Fs 1) (Fs 2))] Q X := by
  rw [cf_rows_of_eq]
  have hn2 : n * n ≤ 10000 := Nat.mul_le_mul hn hn
  have hL : ((tabl n fun i => D.tup (tabl n fun j => .int (Fs 0 i j))).length : Int) = n := DCF.lenD
  refine go_ix rfl rfl ?_
  have lg : ∀ {x : Int}, 0 ≤ x → x ≤ 1000000 → x.natAbs.log2 < 1920 := fun {x} h0 h1 => log_le (Nat.lt_of_le_of_lt (show x.natAbs ≤ 1000000 by omega) (by decide +kernel))
  refine ⟨lg (by rw [hL]; omega) (by rw [hL]; omega), ?_, ?_⟩
  · show ("works " : Str).length + (sI ((tabl n fun i => D.tup (tabl n fun j => .int (Fs 0 i j))).length : Int)).length ≤ 10000000
    rw [hL]
    have := sI_len (i := (n : Nat)) (Nat.lt_of_le_of_lt (show ((n : Nat) : Int).natAbs ≤ 1000 by omega) (by decide +kernel))
    have e : ("works " : Str).length = 6 := by decide
    omega
  show kNext _ _ [some (Kd.fl, jobD n (Fs 0) (Fs 1) (Fs 2)), some (Kd.sh, D.lst [D.str (("works " : Str) ++ sI ((tabl n fun i => D.tup (tabl n fun j => .int (Fs 0 i j))).length : Int))]), none, none, none, none, none, none]
  rw [hL]
  refine go_next ?_
  refine go_For (fun s ρ => ∃ a b c d e f, ρ = [some (Kd.fl, jobD n (Fs 0) (Fs 1) (Fs 2)), some (Kd.sh, D.lst (((("works " : Str) ++ sI n) :: allV n s Fs).map .str)), a, b, c, d, e, f]) ⟨none, none, none, none, none, none, rfl⟩ (fun s z ρ N hz hI hN => ?_) fun ρ hI => ?_
  · obtain ⟨a, b, c, d, e, f, rfl⟩ := hI
    have hs : s < 3 ∧ z = (.fl, .tup [.str (nm s), tabD n (Fs s)]) := by
      match s, hz with
      | 0, hz => exact ⟨by omega, (Option.some.inj hz).symm⟩
      | 1, hz => exact ⟨by omega, (Option.some.inj hz).symm⟩
      | 2, hz => exact ⟨by omega, (Option.some.inj hz).symm⟩
    obtain ⟨hs, rfl⟩ := hs
    refine ⟨rfl, rfl, ?_⟩
    refine go_ForEn (fun k ρ => ∃ c d e f, ρ = [some (Kd.fl, jobD n (Fs 0) (Fs 1) (Fs 2)), some (Kd.sh, D.lst (((("works " : Str) ++ sI n) :: (allV n s Fs ++ sqV s n k (Fs s))).map .str)), some (.fl, .str (nm s)), some (.fl, tabD n (Fs s)), c, d, e, f]) ⟨c, d, e, f, by rw [show sqV s n 0 (Fs s) = [] from rfl, List.append_nil]; rfl⟩ (fun k ρ N hk hI hN => ?_) fun ρ hI => ?_
    · obtain ⟨c, d, e, f, rfl⟩ := hI
      refine ⟨rfl, rfl, ?_⟩
      refine go_ForEn (fun j ρ => ∃ e f, ρ = [some (Kd.fl, jobD n (Fs 0) (Fs 1) (Fs 2)), some (Kd.sh, D.lst (((("works " : Str) ++ sI n) :: (allV n s Fs ++ sqV s n k (Fs s) ++ rowV s k j (Fs s k))).map .str)), some (.fl, .str (nm s)), some (.fl, tabD n (Fs s)), some (.fl, .int k), some (.fl, .tup (tabl n fun j => .int (Fs s k j))), e, f]) ⟨e, f, by rw [show rowV s k 0 (Fs s k) = [] from rfl, List.append_nil]; rfl⟩ (fun j ρ N hj hI hN => ?_) fun ρ hI => ?_
      · obtain ⟨e, f, rfl⟩ := hI
        refine ⟨rfl, rfl, ?_⟩
        have hb := hF.b s k j hs hk hj
        have e1 : rowV s k (j + 1) (Fs s k) = rowV s k j (Fs s k) ++ cellV s k j (Fs s k j) := flat_succ
        refine ifdn (fun c => ?_) fun c => ?_
        · have ec : cellV s k j (Fs s k j) = [Txt.join " " [nm s, sI k, sI j, sI (Fs s k j)]] := if_neg c
          have l1 := all_le (n := n) (m := s) (Fs := Fs)
          have l2 := sq_le (s := s) (n := n) (m := k) (F := Fs s)
          have l3 := row_le (s := s) (k := k) (m := j) (f := Fs s k)
          have l1' : s * (n * n) ≤ 3 * (n * n) := Nat.mul_le_mul_right _ (by omega)
          have l2' : k * n ≤ n * n := Nat.mul_le_mul_right _ (by omega)
          refine ⟨trivial, lg (by omega) (by omega), lg (by omega) (by omega), lg hb.1 hb.2, [nm s, sI k, sI j, sI (Fs s k j)], rfl, Nat.le_trans (cell_go (by omega) (by omega) hb) (by decide), ?_⟩
          refine ⟨rfl, by rw [List.length_map, List.length_cons, List.length_append, List.length_append]; omega, ?_⟩
          rw [e1, ec] at hN
          have eL : ∀ (W t : Str) (A R : List Str), List.map D.str (W :: (A ++ R)) ++ [D.str t] = List.map D.str (W :: (A ++ (R ++ [t]))) := fun W t A R => by simp
          exact hN _ ⟨some (.fl, .int j), some (.fl, .int (Fs s k j)), congrArg (fun l => ([some (Kd.fl, jobD n (Fs 0) (Fs 1) (Fs 2)), some (Kd.sh, D.lst l), some (Kd.fl, D.str (nm s)), some (Kd.fl, tabD n (Fs s)), some (Kd.fl, D.int k), some (Kd.fl, D.tup (tabl n fun j => D.int (Fs s k j))), some (Kd.fl, D.int j), some (Kd.fl, D.int (Fs s k j))] : Ro)) (eL _ _ _ _)⟩
        · have ec : cellV s k j (Fs s k j) = [] := if_pos c
          rw [e1, ec, List.append_nil] at hN
          exact hN _ ⟨_, _, rfl⟩
      · obtain ⟨e, f, rfl⟩ := hI
        have e1 : sqV s n (k + 1) (Fs s) = sqV s n k (Fs s) ++ rowV s k n (Fs s k) := flat_succ
        rw [e1, ← List.append_assoc] at hN
        exact hN _ ⟨_, _, _, _, rfl⟩
    · obtain ⟨c, d, e, f, rfl⟩ := hI
      have e1 : allV n (s + 1) Fs = allV n s Fs ++ sqV s n n (Fs s) := flat_succ
      rw [e1] at hN
      exact hN _ ⟨_, _, _, _, _, _, rfl⟩
  · obtain ⟨a, b, c, d, e, f, rfl⟩ := hI
    exact h
end DCH
namespace DCH
open PySem PySem.Spec PyProof.Rows L2 DL PA DCB DCG
open DCA (Bag dip_spec dip_specN)
theorem law_rows_spec {n : Nat} {Fs : Nat → Nat → Nat → Int} {Q X} (hn : n ≤ 100) (hF : Nums n Fs) (h : Q (.sh, .lst ((rowsV n Fs).map .str)) []) : cf__law_rows [(.rd, squaresD n Fs)] Q X := by
  rw [cf__law_rows_eq]
  have hn2 : n * n ≤ 10000 := Nat.mul_le_mul hn hn
  have hL : ((tabl n fun i => D.lst (tabl n fun j => .int (Fs 0 i j))).length : Int) = n := DCF.lenD
  refine go_ix rfl rfl ?_
  have lg : ∀ {x : Int}, 0 ≤ x → x ≤ 1000000 → x.natAbs.log2 < 1920 := fun {x} h0 h1 => log_le (Nat.lt_of_le_of_lt (show x.natAbs ≤ 1000000 by omega) (by decide +kernel))
  refine ⟨lg (by rw [hL]; omega) (by rw [hL]; omega), ?_, ?_⟩
  · show ("works " : Str).length + (sI ((tabl n fun i => D.lst (tabl n fun j => .int (Fs 0 i j))).length : Int)).length ≤ 10000000
    rw [hL]
    have := sI_len (i := (n : Nat)) (Nat.lt_of_le_of_lt (show ((n : Nat) : Int).natAbs ≤ 1000 by omega) (by decide +kernel))
    have e : ("works " : Str).length = 6 := by decide
    omega
  show kNext _ _ [some (Kd.rd, squaresD n Fs), some (Kd.sh, D.lst [D.str (("works " : Str) ++ sI ((tabl n fun i => D.lst (tabl n fun j => .int (Fs 0 i j))).length : Int))]), none, none, none, none, none]
  rw [hL]
  refine go_next ?_
  refine go_For (fun s ρ => ∃ a b c d e, ρ = [some (Kd.rd, squaresD n Fs), some (Kd.sh, D.lst (((("works " : Str) ++ sI n) :: allV n s Fs).map .str)), a, b, c, d, e]) ⟨none, none, none, none, none, rfl⟩ (fun s z ρ N hz hI hN => ?_) fun ρ hI => ?_
  · obtain ⟨a, b, c, d, e, rfl⟩ := hI
    have hs : s < 3 ∧ z = (.rd, .tup [.str (nm s), sqL n (Fs s)]) := by
      match s, hz with
      | 0, hz => exact ⟨by omega, (Option.some.inj hz).symm⟩
      | 1, hz => exact ⟨by omega, (Option.some.inj hz).symm⟩
      | 2, hz => exact ⟨by omega, (Option.some.inj hz).symm⟩
    obtain ⟨hs, rfl⟩ := hs
    refine ⟨rfl, rfl, ?_⟩
    refine go_R1 (n := n) DCF.lenD (by omega) ?_
    refine go_For0 (fun k ρ => ∃ c d e, ρ = [some (Kd.rd, squaresD n Fs), some (Kd.sh, D.lst (((("works " : Str) ++ sI n) :: (allV n s Fs ++ sqV s n k (Fs s))).map .str)), some (.fl, .str (nm s)), some (.rd, sqL n (Fs s)), c, d, e]) ⟨c, d, e, by rw [show sqV s n 0 (Fs s) = [] from rfl, List.append_nil]; rfl⟩ (fun k ρ N hk hI hN => ?_) fun ρ hI => ?_
    · obtain ⟨c, d, e, rfl⟩ := hI
      refine go_R1 (n := n) DCF.lenD (by omega) ?_
      refine go_For0 (fun j ρ => ∃ d e, ρ = [some (Kd.rd, squaresD n Fs), some (Kd.sh, D.lst (((("works " : Str) ++ sI n) :: (allV n s Fs ++ sqV s n k (Fs s) ++ rowV s k j (Fs s k))).map .str)), some (.fl, .str (nm s)), some (.rd, sqL n (Fs s)), some (.fl, .int k), d, e]) ⟨d, e, by rw [show rowV s k 0 (Fs s k) = [] from rfl, List.append_nil]; rfl⟩ (fun j ρ N hj hI hN => ?_) fun ρ hI => ?_
      · obtain ⟨d, e, rfl⟩ := hI
        have hb := hF.b s k j hs hk hj
        have e1 : rowV s k (j + 1) (Fs s k) = rowV s k j (Fs s k) ++ cellV s k j (Fs s k j) := flat_succ
        refine go_tabl hk (go_tabl hj (ifdn (fun c => ?_) fun c => ?_))
        · have ec : cellV s k j (Fs s k j) = [Txt.join " " [nm s, sI k, sI j, sI (Fs s k j)]] := if_neg c
          have l1 := all_le (n := n) (m := s) (Fs := Fs)
          have l2 := sq_le (s := s) (n := n) (m := k) (F := Fs s)
          have l3 := row_le (s := s) (k := k) (m := j) (f := Fs s k)
          have l1' : s * (n * n) ≤ 3 * (n * n) := Nat.mul_le_mul_right _ (by omega)
          have l2' : k * n ≤ n * n := Nat.mul_le_mul_right _ (by omega)
          refine ⟨lg (by omega) (by omega), lg (by omega) (by omega), ?_⟩
          refine go_tabl hk (go_tabl hj ⟨lg hb.1 hb.2, ?_⟩)
          refine ⟨trivial, [nm s, sI k, sI j, sI (Fs s k j)], rfl, Nat.le_trans (cell_go (by omega) (by omega) hb) (by decide), ?_⟩
          refine ⟨rfl, by rw [List.length_map, List.length_cons, List.length_append, List.length_append]; omega, ?_⟩
          rw [e1, ec] at hN
          have eL : ∀ (W t : Str) (A R : List Str), List.map D.str (W :: (A ++ R)) ++ [D.str t] = List.map D.str (W :: (A ++ (R ++ [t]))) := fun W t A R => by simp
          exact hN _ ⟨some (.fl, .int j), some (.sh, .lst [.str (nm s), .str (sI k), .str (sI j), .str (sI (Fs s k j))]), congrArg (fun l => ([some (Kd.rd, squaresD n Fs), some (Kd.sh, D.lst l), some (Kd.fl, D.str (nm s)), some (Kd.rd, sqL n (Fs s)), some (Kd.fl, D.int k), some (Kd.fl, D.int j), some (Kd.sh, D.lst [D.str (nm s), D.str (sI k), D.str (sI j), D.str (sI (Fs s k j))])] : Ro)) (eL _ _ _ _)⟩
        · have ec : cellV s k j (Fs s k j) = [] := if_pos c
          rw [e1, ec, List.append_nil] at hN
          exact hN _ ⟨_, _, rfl⟩
      · obtain ⟨d, e, rfl⟩ := hI
        have e1 : sqV s n (k + 1) (Fs s) = sqV s n k (Fs s) ++ rowV s k n (Fs s k) := flat_succ
        rw [e1, ← List.append_assoc] at hN
        exact hN _ ⟨_, _, _, rfl⟩
    · obtain ⟨c, d, e, rfl⟩ := hI
      have e1 : allV n (s + 1) Fs = allV n s Fs ++ sqV s n n (Fs s) := flat_succ
      rw [e1] at hN
      exact hN _ ⟨_, _, _, _, _, rfl⟩
  · obtain ⟨a, b, c, d, e, rfl⟩ := hI
    exact h
theorem nums_of {n : Nat} {Fs : Nat → Nat → Nat → Int} (hT : ∀ k, k < 3 → Tab n (topV k - 1) (Fs k)) : Nums n Fs := ⟨fun s i j hs hi hj => by
  have h := hT s hs i j hi hj
  have ht : topV s ≤ 1000001 := by unfold topV; split <;> omega
  exact ⟨h.1, by omega⟩⟩
end DCH

namespace DCI
open PySem PySem.Spec PyProof.Rows L2 DL
noncomputable section
def sem_number_in : SF :=
  (sSeq (sIf (teP (tOr (tNot (pTest (pChain oLe oLe (pC (.int 1)) (pCall oLen (gCons (pVar 0) gNil)) (pC (.int 7))))) (tNot (pTest (pCall oAll (gCons (pLcX (iSt (pVar 0)) [1] (gNm 1) tNilP (pOp (oInS false) (pVar 1) (pC (.str "0123456789")))) gNil)))))) (sRet (eP (pC .non))) sNil)
    (sSeq (sIf (teP (tAnd (pTest (pOp oEq (pOp xIx (pVar 0) (pC (.int 0))) (pC (.str "0")))) (pTest (pOp oNe (pVar 0) (pC (.str "0")))))) (sRet (eP (pC .non))) sNil)
    (sRet (eP (pCall oIntS (gCons (pVar 0) gNil))))))
@[irreducible] def cf_number_in : CF := hid (cfOf 1 [false] sem_number_in)
theorem cf_number_in_eq : cf_number_in = cfOf 1 [false] sem_number_in := by unfold cf_number_in; rw [hid_eq]
def sem_squares_in : SF :=
  (sSeq (sSet 2 (eP (pLcX (iSq (pC (.kst ((["flow", "way", "cost"] : List Str).map .str)))) [6] (gNm 6) tNilP (pLcX (jR1 (gCons (pVar 1) gNil)) [7] (gNm 7) tNilP (pOp oMul (pLst (gCons (pC (.int 0)) gNil)) (pVar 1))))))
    (sBar (sSeq (sForX (iSq (pVar 0)) (gNm 3) (sSeq (sSet 4 (eP (pSplit (pVar 3) (pC (.str " ")))))
    (sSeq (sIf (teP (tOr (pTest (pOp (oIn true) (pOp xIx (pVar 4) (pC (.int 0))) (pC (.kst ((["flow", "way", "cost"] : List Str).map .str))))) (pTest (pOp oNe (pCall oLen (gCons (pVar 4) gNil)) (pC (.int 4)))))) (sRet (eP (pC .non))) sNil)
    (sSeq (sSet 5 (eP (pLcX (iSq (pSl (pVar 4) (oP (pC (.int 1))) oNoP)) [8] (gNm 8) tNilP (pFn cf_number_in (gCons (pVar 8) gNil)))))
    (sSeq (sIf (teP (tOr (pTest (pOp (oIn false) (pC .non) (pVar 5))) (tOr (pTest (pOp oGe (pOp xIx (pVar 5) (pC (.int 0))) (pVar 1))) (pTest (pOp oGe (pOp xIx (pVar 5) (pC (.int 1))) (pVar 1)))))) (sRet (eP (pC .non))) sNil)
    (sBar (sStIxX (eP (pOp xIx (pVar 5) (pC (.int 2)))) (plIxX (plIxX (plVar 2) (pIndex (pC (.kst ((["flow", "way", "cost"] : List Str).map .str))) (pOp xIx (pVar 4) (pC (.int 0))))) (pOp xIx (pVar 5) (pC (.int 0)))) (pOp xIx (pVar 5) (pC (.int 1))))))))))
    (sRet (eMv 2)))))
@[irreducible] def cf_squares_in : CF := hid (cfOf 7 [false, false] sem_squares_in)
def sem_read_job : SF :=
  (sSeq (sIf (teP (tNot (pTest (pIsI .str (pVar 0))))) sNever sNil)
    (sSeq (sSet 1 (eP (pSplit (pVar 0) (pC (.str "\n")))))
    (sBar (sSeq (sSet 2 (eP (pSplit (pOp xIx (pVar 1) (pC (.int 0))) (pC (.str " ")))))
    (sBar (sSeq (sIf (teP (tOr (pTest (pOp oNe (pCall oLen (gCons (pVar 2) gNil)) (pC (.int 2)))) (tOr (pTest (pOp oNe (pOp xIx (pVar 2) (pC (.int 0))) (pC (.str "works")))) (pTest (pOp (oIn true) (pOp xIx (pVar 2) (pC (.int 1))) (pLst (gCons (pC (.str "1")) (gCons (pC (.str "2")) (gCons (pC (.str "3")) (gCons (pC (.str "4")) (gCons (pC (.str "5")) (gCons (pC (.str "6")) (gCons (pC (.str "7")) (gCons (pC (.str "8")) gNil)))))))))))))) sNever sNil)
    (sBar (sSeq (sSet 3 (eP (pFn cf_squares_in (gCons (pSl (pVar 1) (oP (pC (.int 1))) oNoP) (gCons (pCall oIntS (gCons (pOp xIx (pVar 2) (pC (.int 1))) gNil)) gNil)))))
    (sBar (sSeq (sIf (teP (pTest (pOp oIsN (pVar 3) (pC .non)))) sNever sNil)
    (sBar (sSeq (sSet 4 (eP (pCall oTuple (gCons (pLcX (iSq (pVar 3)) [5] (gNm 5) tNilP (pCall oTuple (gCons (pLcX (iSq (pVar 5)) [6] (gNm 6) tNilP (pCall oTupleF (gCons (pVar 6) gNil))) gNil))) gNil))))
    (sBar (sSeq (sIf (teP (tOr (tNot (pTest (pFn DCF.cf_is_job (gCons (pVar 4) gNil)))) (pTest (pOp oNe (pFn DCH.cf_show_job (gCons (pVar 4) gNil)) (pVar 0))))) sNever sNil)
    (sRet (eMv 4))))))))))))))))
@[irreducible] def cf_read_job : CF := hid (cfOf 6 [false] sem_read_job)
end
end DCI

namespace DCI
open PySem PySem.Spec PyProof.Rows L2 DL PA DCB DCG DCH
open TL (tl numL)
theorem tl_sI (n : Nat) : tl (sI n) = numL n := TL.tl_num n
theorem sI_free {n c : Nat} (h : c < 48 ∨ 57 < c) : c ∉ tl (sI n) := by rw [tl_sI]; exact TL.numL_free h
theorem go_ixS {k k' : Kd} {z : Str} {i : Int} {c : Nat} {P : KD → Prop} (hl : z.length ≤ 10000000) (h : L2.atI z.cps.toList i = some c) (p : P (.fl, .str ⟨#[c]⟩)) : xIx (k, .str z) (k', .int i) P := by
  unfold xIx; rw [hid_eq]
  unfold oIx
  dsimp only
  rw [h]
  exact ⟨hl, p⟩
theorem fig_in {c : Nat} (h0 : 48 ≤ c) (h1 : c ≤ 57) : (Builtin.Str.occurrences ("0123456789" : Str) ⟨#[c]⟩ 0 ("0123456789" : Str).length 1).isEmpty = false := by
  have : c = 48 ∨ c = 49 ∨ c = 50 ∨ c = 51 ∨ c = 52 ∨ c = 53 ∨ c = 54 ∨ c = 55 ∨ c = 56 ∨ c = 57 := by omega
  rcases this with rfl | rfl | rfl | rfl | rfl | rfl | rfl | rfl | rfl | rfl <;> decide +kernel
theorem numL_head : ∀ n : Nat, 0 < n → ∃ c r, numL n = c :: r ∧ c ≠ 48 := fun n => by
  induction n using Nat.strongRecOn with
  | _ n ih =>
    intro h
    by_cases c : n < 10
    · exact ⟨48 + n, [], TL.numL_lt c, by omega⟩
    · obtain ⟨c', r, e, hc⟩ := ih (n / 10) (by omega) (by omega)
      exact ⟨c', r ++ [48 + n % 10], by rw [TL.numL_step (by omega), e]; rfl, hc⟩
theorem if_ne {b : Bool} {p q : Prop} (e : b = true) (h : q) : if (!b) = true then p else q := by rw [e]; exact h
theorem len_sI (n : Nat) : (sI n).length = (numL n).length := by rw [TL.len_tl, tl_sI]
abbrev Pos3 := Nat × Nat × Nat
def posV (n : Nat) (Fs : Nat → Nat → Nat → Int) : List Pos3 := (List.range 3).flatMap fun s => (List.range n).flatMap fun k => (List.range n).flatMap fun j => if Fs s k j = 0 then [] else [(s, k, j)]
def part (n : Nat) (Fs : Nat → Nat → Nat → Int) (i : Nat) (s k j : Nat) : Int := if (s, k, j) ∈ (posV n Fs).take i then Fs s k j else 0
theorem cut1 {x : D} {l : List D} : DL.cutD (x :: l) (some 1) none = l := by
  unfold DL.cutD
  show (List.drop (min (1 : Int).toNat (l.length + 1)) (x :: l)).take ((l.length + 1) - min (1 : Int).toNat (l.length + 1)) = l
  have e : min (1 : Int).toNat (l.length + 1) = 1 := by
    show min 1 (l.length + 1) = 1
    omega
  rw [e]
  show l.take (l.length + 1 - 1) = l
  rw [Nat.add_sub_cancel, List.take_length]
end DCI

namespace DCJ
open PySem PySem.Spec PyProof.Rows L2 DL
noncomputable section
def sem__law_price : SF :=
  (sSeq (sSet 2 (eP (pC (.int 0))))
    (sSeq (sForX (jR1 (gCons (pCall oLen (gCons (pVar 1) gNil)) gNil)) (gNm 3) (sSeq (sSet 2 (eP (pOp oAdd (pVar 2) (pOp xIx (pOp xIx (pOp xIx (pVar 0) (pC (.int 2))) (pVar 3)) (pOp xIx (pVar 1) (pVar 3))))))
    (sForX (jR1 (gCons (pCall oLen (gCons (pVar 1) gNil)) gNil)) (gNm 4) (sSeq (sSet 5 (eP (pOp xIx (pOp xIx (pOp xIx (pVar 0) (pC (.int 1))) (pOp xIx (pVar 1) (pVar 3))) (pOp xIx (pVar 1) (pVar 4)))))
    (sSet 2 (eP (pOp oAdd (pVar 2) (pOp oMul (pOp xIx (pOp xIx (pOp xIx (pVar 0) (pC (.int 0))) (pVar 3)) (pVar 4)) (pVar 5)))))))))
    (sRet (eMv 2))))
@[irreducible] def cf__law_price : CF := hid (cfOf 4 [false, false] sem__law_price)
theorem cf__law_price_eq : cf__law_price = cfOf 4 [false, false] sem__law_price := by unfold cf__law_price; rw [hid_eq]
def sem__law_begun : SF :=
  (sRet (eDsp ["squares", "laying", "past"] (aE (eMv 0) (aE (eP (pCall oList (gCons (pVar 1) gNil))) (aE (eP (pLst gNil)) aNil)))))
@[irreducible] def cf__law_begun : CF := hid (cfOf 0 [false, false] sem__law_begun)
theorem cf__law_begun_eq : cf__law_begun = cfOf 0 [false, false] sem__law_begun := by unfold cf__law_begun; rw [hid_eq]
def sem__law_best : SF :=
  (sSeq (sSet 1 (eP (pC .non)))
    (sSeq (sSet 2 (eP (pFn cf__law_price (gCons (pKey "squares" (pVar 0)) (gCons (pKey "laying" (pVar 0)) gNil)))))
    (sSeq (sForX (jR1 (gCons (pCall oLen (gCons (pKey "laying" (pVar 0)) gNil)) gNil)) (gNm 3) (sForX (jR2 (gCons (pOp oAdd (pVar 3) (pC (.int 1))) (gCons (pCall oLen (gCons (pKey "laying" (pVar 0)) gNil)) gNil))) (gNm 4) (sSeq (sSet 5 (eP (pCall oListF (gCons (pKey "laying" (pVar 0)) gNil))))
    (sSeq (sSwap (pTup (gCons (pOp xIx (pVar 5) (pVar 4)) (gCons (pOp xIx (pVar 5) (pVar 3)) gNil))) (plVar 5) (pVar 3) (plVar 5) (pVar 4))
    (sBar (sSeq (sSet 6 (eP (pOp oSub (pVar 2) (pFn cf__law_price (gCons (pKey "squares" (pVar 0)) (gCons (pVar 5) gNil))))))
    (sBar (sIf (teP (tAnd (pTest (pOp oGt (pVar 6) (pC (.int 0)))) (tOr (pTest (pOp oIsN (pVar 1) (pC .non))) (pTest (pOp oGt (pVar 6) (pOp xIx (pVar 1) (pC (.int 2)))))))) (sSet 1 (eP (pTup (gCons (pVar 3) (gCons (pVar 4) (gCons (pVar 6) gNil)))))) sNil))))))))
    (sRet (eMv 1)))))
@[irreducible] def cf__law_best : CF := hid (cfOf 6 [false] sem__law_best)
theorem cf__law_best_eq : cf__law_best = cfOf 6 [false] sem__law_best := by unfold cf__law_best; rw [hid_eq]
def sem__law_past : SF :=
  (sSeq (sSet 1 (eP (pLcX (iSq (pKey "squares" (pVar 0))) [2] (gNm 2) tNilP (pLcX (iSq (pVar 2)) [3] (gNm 3) tNilP (pCall oListF (gCons (pVar 3) gNil))))))
    (sExpr (eAppMv (plKey "past" (plVar 0)) 1 (pCall oListF (gCons (pKey "laying" (pVar 0)) gNil)))))
@[irreducible] def cf__law_past : CF := hid (cfOf 3 [true] sem__law_past)
theorem cf__law_past_eq : cf__law_past = cfOf 3 [true] sem__law_past := by unfold cf__law_past; rw [hid_eq]
def sem__law_swapped : SF :=
  (sBor 0 3 (plKey "laying" (plVar 0))
    (sSwap (pTup (gCons (pOp xIx (pVar 3) (pVar 2)) (gCons (pOp xIx (pVar 3) (pVar 1)) gNil))) (plVar 3) (pVar 1) (plVar 3) (pVar 2)))
@[irreducible] def cf__law_swapped : CF := hid (cfOf 1 [true, false, false] sem__law_swapped)
theorem cf__law_swapped_eq : cf__law_swapped = cfOf 1 [true, false, false] sem__law_swapped := by unfold cf__law_swapped; rw [hid_eq]
def sem__law_done : SF :=
  (sSeq (sIf (teP (pTest (pOp oEq (pVar 1) (pC (.str "back"))))) (sSeq (sKeyP "squares" "laying" (eMthP xPop (plKey "past" (plVar 0)) gNil) (plVar 0) (plVar 0))
    (sRet (eP (pC .non)))) sNil)
    (sSeq (sSet 3 (eP (pC .non)))
    (sSeq (sIf (teP (pTest (pOp oEq (pVar 1) (pC (.str "better"))))) (sSeq (sSet 3 (eP (pFn cf__law_best (gCons (pVar 0) gNil))))
    (sIf (teP (pTest (pOp oIsN (pVar 3) (pC .non)))) (sRet (eP (pC .non))) sNil)) sNil)
    (sSeq (sExpr (eFn [true] cf__law_past (aPl 0 aNil)))
    (sSeq (sIf (teP (pTest (pOp oEq (pVar 1) (pC (.str "better"))))) (sSeq (sExpr (eFn [true, false, false] cf__law_swapped (aPl 0 (aE (eP (pOp xIx (pVar 3) (pC (.int 0)))) (aE (eP (pOp xIx (pVar 3) (pC (.int 1)))) aNil)))))
    (sRet (eMv 3))) sNil)
    (sSeq (sIf (teP (pTest (pOp oEq (pVar 1) (pC (.str "swap"))))) (sExpr (eFn [true, false, false] cf__law_swapped (aPl 0 (aE (eP (pOp xIx (pVar 2) (pC (.int 0)))) (aE (eP (pOp xIx (pVar 2) (pC (.int 1)))) aNil))))) (sSeq (sSet 4 (eP (pIndex (pLst (gCons (pC (.str "flow")) (gCons (pC (.str "way")) (gCons (pC (.str "charge")) gNil)))) (pVar 1))))
    (sStIxX (eP (pOp xIx (pVar 2) (pC (.int 2)))) (plIxX (plIxX (plKey "squares" (plVar 0)) (pVar 4)) (pOp xIx (pVar 2) (pC (.int 0)))) (pOp xIx (pVar 2) (pC (.int 1))))))
    (sRet (eP (pC .non)))))))))
@[irreducible] def cf__law_done : CF := hid (cfOf 2 [true, false, false] sem__law_done)
theorem cf__law_done_eq : cf__law_done = cfOf 2 [true, false, false] sem__law_done := by unfold cf__law_done; rw [hid_eq]
def sem__law_deed : SF :=
  (sSeq (sSet 2 (eP (pCall oLen (gCons (pKey "laying" (pVar 1)) gNil))))
    (sSeq (sSet 3 (eFn [true, false] DCA.cf__law_dip (aPl 0 (aE (eMv 2) aNil))))
    (sSeq (sSet 4 (eFn [true, false] DCA.cf__law_dip (aPl 0 (aE (eMv 2) aNil))))
    (sSeq (sSet 5 (eOp xIx (eP (pLst (gCons (pC (.str "flow")) (gCons (pC (.str "way")) (gCons (pC (.str "charge")) (gCons (pC (.str "swap")) (gCons (pC (.str "better")) (gCons (pC (.str "back")) (gCons (pC (.str "flow")) (gCons (pC (.str "way")) gNil)))))))))) (eFn [true, false] DCA.cf__law_dip (aPl 0 (aE (eP (pC (.int 8))) aNil)))))
    (sBar (sSeq (sIf (teP (tOr (tAnd (pTest (pOp oEq (pVar 5) (pC (.str "back")))) (pTest (pOp oEq (pKey "past" (pVar 1)) (pLst gNil)))) (tAnd (pTest (pOp (oIn false) (pVar 5) (pTup (gCons (pC (.str "flow")) (gCons (pC (.str "way")) gNil))))) (pTest (pOp oEq (pVar 2) (pC (.int 1))))))) (sSet 5 (eOp xIx (eP (pLst (gCons (pC (.str "charge")) (gCons (pC (.str "swap")) gNil)))) (eFn [true, false] DCA.cf__law_dip (aPl 0 (aE (eP (pC (.int 2))) aNil))))) sNil)
    (sBar (sSeq (sIf (teP (tAnd (pTest (pOp (oIn false) (pVar 5) (pTup (gCons (pC (.str "flow")) (gCons (pC (.str "way")) gNil))))) (pTest (pOp oEq (pVar 3) (pVar 4))))) (sSet 4 (eP (pOp oMod (pOp oAdd (pVar 3) (pC (.int 1))) (pVar 2)))) sNil)
    (sBar (sSeq (sIf (teP (pTest (pOp (oIn false) (pVar 5) (pTup (gCons (pC (.str "better")) (gCons (pC (.str "back")) gNil)))))) (sRet (eP (pTup (gCons (pVar 5) (gCons (pTup gNil) gNil))))) sNil)
    (sSeq (sIf (teP (pTest (pOp oEq (pVar 5) (pC (.str "swap"))))) (sRet (eP (pTup (gCons (pVar 5) (gCons (pTup (gCons (pVar 3) (gCons (pVar 4) gNil))) gNil))))) sNil)
    (sSeq (sSet 6 (eP (pOp xIx (pLst (gCons (pC (.int 999)) (gCons (pC (.int 1000000)) gNil))) (pCall oInt (gCons (pOp oEq (pVar 5) (pC (.str "charge"))) gNil)))))
    (sRet (eTup (aE (eMv 5) (aE (eTup (aE (eMv 3) (aE (eMv 4) (aE (eOp xIx (eLst (aE (eP (pC (.int 0))) (aE (eMv 6) (aE (eFn [true, false] DCA.cf__law_dip (aPl 0 (aE (eP (pOp oAdd (pVar 6) (pC (.int 1)))) aNil))) (aE (eFn [true, false] DCA.cf__law_dip (aPl 0 (aE (eP (pC (.int 6))) aNil))) aNil))))) (eFn [true, false] DCA.cf__law_dip (aPl 0 (aE (eP (pC (.int 4))) aNil)))) aNil)))) aNil))))))))))))))))
@[irreducible] def cf__law_deed : CF := hid (cfOf 5 [true, false] sem__law_deed)
theorem cf__law_deed_eq : cf__law_deed = cfOf 5 [true, false] sem__law_deed := by unfold cf__law_deed; rw [hid_eq]
def sem__law_call : SF :=
  (sSeq (sIf (teP (pTest (pOp oEq (pVar 1) (pC (.str "flow"))))) (sRet (eMeth 0 "Keeper" ["now", "laid", "past"] [true, false, false, false] DCF.cf_Keeper_flow (aE (eP (pOp xIx (pVar 2) (pC (.int 0)))) (aE (eP (pOp xIx (pVar 2) (pC (.int 1)))) (aE (eP (pOp xIx (pVar 2) (pC (.int 2)))) aNil))))) sNil)
    (sSeq (sIf (teP (pTest (pOp oEq (pVar 1) (pC (.str "way"))))) (sRet (eMeth 0 "Keeper" ["now", "laid", "past"] [true, false, false, false] DCF.cf_Keeper_way (aE (eP (pOp xIx (pVar 2) (pC (.int 0)))) (aE (eP (pOp xIx (pVar 2) (pC (.int 1)))) (aE (eP (pOp xIx (pVar 2) (pC (.int 2)))) aNil))))) sNil)
    (sSeq (sIf (teP (pTest (pOp oEq (pVar 1) (pC (.str "charge"))))) (sRet (eMeth 0 "Keeper" ["now", "laid", "past"] [true, false, false, false] DCF.cf_Keeper_charge (aE (eP (pOp xIx (pVar 2) (pC (.int 0)))) (aE (eP (pOp xIx (pVar 2) (pC (.int 1)))) (aE (eP (pOp xIx (pVar 2) (pC (.int 2)))) aNil))))) sNil)
    (sSeq (sIf (teP (pTest (pOp oEq (pVar 1) (pC (.str "swap"))))) (sRet (eMeth 0 "Keeper" ["now", "laid", "past"] [true, false, false] DCF.cf_Keeper_swap (aE (eP (pOp xIx (pVar 2) (pC (.int 0)))) (aE (eP (pOp xIx (pVar 2) (pC (.int 1)))) aNil)))) sNil)
    (sSeq (sIf (teP (pTest (pOp oEq (pVar 1) (pC (.str "better"))))) (sRet (eMeth 0 "Keeper" ["now", "laid", "past"] [true] DCF.cf_Keeper_better aNil)) sNil)
    (sRet (eMeth 0 "Keeper" ["now", "laid", "past"] [true] DCF.cf_Keeper_back aNil)))))))
@[irreducible] def cf__law_call : CF := hid (cfOf 0 [true, false, false] sem__law_call)
def sem__law_stands : SF :=
  (sSeq (sSet 2 (eP (pMeth "Keeper" ["now", "laid", "past"] DCF.cf_Keeper_cost (pVar 0) (fun _ P => P []))))
    (sSeq (sIf (teP (tOr (tNot (pTest (pIsI .int (pVar 2)))) (pTest (pIsI .bool (pVar 2))))) (sRet (eP (pC (.bl false)))) sNil)
    (sSeq (sIf (teP (tOr (pTest (pOp oNe (pVar 2) (pFn cf__law_price (gCons (pKey "squares" (pVar 1)) (gCons (pKey "laying" (pVar 1)) gNil))))) (pTest (pOp oNe (pCall oRepr (gCons (pMeth "Keeper" ["now", "laid", "past"] DCF.cf_Keeper_laying (pVar 0) (fun _ P => P [])) gNil)) (pCall oRepr (gCons (pCall oTupleF (gCons (pKey "laying" (pVar 1)) gNil)) gNil)))))) (sRet (eP (pC (.bl false)))) sNil)
    (sRet (eP (pOp oEq (pCall oRepr (gCons (pMeth "Keeper" ["now", "laid", "past"] DCF.cf_Keeper_job (pVar 0) (fun _ P => P [])) gNil)) (pCall oRepr (gCons (pFn DCG.cf__law_tuples (gCons (pKey "squares" (pVar 1)) gNil)) gNil))))))))
@[irreducible] def cf__law_stands : CF := hid (cfOf 1 [false, false] sem__law_stands)
end
end DCJ

namespace DCJ
open PySem PySem.Spec PyProof.Rows L2 DL PA DCB DCG DCF
open DCA (Bag dip_spec dip_specN)
variable {n : Nat} {s : KS} {hist : List KS}
def fsOf (s : KS) : Nat → Nat → Nat → Int
  | 0 => s.F
  | 1 => s.W
  | _ => s.C
abbrev layL (n : Nat) (p : Nat → Nat) : D := .lst (tabl n fun i => .int (p i : Nat))
abbrev pastD (n : Nat) (s : KS) : D := .tup [squaresD n (fsOf s), layL n s.p]
abbrev recD (n : Nat) (s : KS) (hist : List KS) : D := .dcK [.inr "squares", .inr "laying", .inr "past"] [squaresD n (fsOf s), layL n s.p, .lst (hist.map (pastD n))]
theorem nd3 : ([.inr "squares", .inr "laying", .inr "past"] : List Key).Nodup := by decide +kernel
theorem price_spec {Fs : Nat → Nat → Nat → Int} {p : Nat → Nat} {Q X} (hn : n ≤ 1000) (hp : ∀ i, i < n → p i < n) (hF : Tab n 1000040 (Fs 0)) (h : Q (.fl, .int (costV n (Fs 0) (Fs 1) (Fs 2) p)) []) :
    cf__law_price [(.rd, squaresD n Fs), (.rd, layL n p)] Q X := by
  rw [cf__law_price_eq]
  refine go_R1 (n := n) lenD (by omega) ?_
  refine go_For0 (fun i ρ => ∃ b c d, ρ = [some (.rd, squaresD n Fs), some (.rd, layL n p), some (.fl, .int (sumR i fun i => Fs 2 i (p i) + sumR n fun j => Fs 0 i j * Fs 1 (p i) (p j))), b, c, d]) ⟨none, none, none, rfl⟩ (fun i ρ N hi hI hN => ?_) fun ρ hI => ?_
  · obtain ⟨b, c, d, rfl⟩ := hI
    refine go_ix rfl rfl (go_tabl hi (go_tabl hi (go_tabl (hp i hi) ?_)))
    refine go_R1 (n := n) lenD (by omega) ?_
    refine go_For0 (fun j ρ => ∃ c d, ρ = [some (.rd, squaresD n Fs), some (.rd, layL n p), some (.fl, .int ((sumR i fun i => Fs 2 i (p i) + sumR n fun j => Fs 0 i j * Fs 1 (p i) (p j)) + Fs 2 i (p i) + sumR j fun j => Fs 0 i j * Fs 1 (p i) (p j))), some (.fl, .int i), c, d]) ⟨c, d, ?_⟩ (fun j ρ N hj hJ hN => ?_) fun ρ hJ => ?_
    · rw [sumR_zero, Int.add_zero]; rfl
    · obtain ⟨c, d, rfl⟩ := hJ
      refine go_ix rfl rfl (go_tabl hi (go_tabl (hp i hi) (go_tabl hj (go_tabl (hp j hj) ?_))))
      refine go_ix rfl rfl (go_tabl hi (go_tabl hj ⟨DCA.Tab.mul hF hi hj _, hN _ ⟨some (.fl, .int j), some (.fl, .int (Fs 1 (p i) (p j))), ?_⟩⟩))
      rw [sumR_succ j, ← Int.add_assoc]; rfl
    · obtain ⟨c, d, rfl⟩ := hJ
      refine hN _ ⟨some (.fl, .int i), c, d, ?_⟩
      rw [sumR_succ i, ← Int.add_assoc]
  · obtain ⟨b, c, d, rfl⟩ := hI
    exact h
theorem price_specA {Fs : Nat → Nat → Nat → Int} {p : Nat → Nat} {Q X} (hn : n ≤ 1000) (hp : ∀ i, i < n → p i < n) (hF : Tab n 1000040 (Fs 0)) (h : Q (.fl, .int (costV n (Fs 0) (Fs 1) (Fs 2) p)) []) :
    cf__law_price [(.rd, squaresD n Fs), (.sa, layL n p)] Q X := by
  rw [cf__law_price_eq]
  refine go_R1 (n := n) lenD (by omega) ?_
  refine go_For0 (fun i ρ => ∃ b c d, ρ = [some (.rd, squaresD n Fs), some (.sa, layL n p), some (.fl, .int (sumR i fun i => Fs 2 i (p i) + sumR n fun j => Fs 0 i j * Fs 1 (p i) (p j))), b, c, d]) ⟨none, none, none, rfl⟩ (fun i ρ N hi hI hN => ?_) fun ρ hI => ?_
  · obtain ⟨b, c, d, rfl⟩ := hI
    refine go_ix rfl rfl (go_tabl hi (go_tabl hi (go_tabl (hp i hi) ?_)))
    refine go_R1 (n := n) lenD (by omega) ?_
    refine go_For0 (fun j ρ => ∃ c d, ρ = [some (.rd, squaresD n Fs), some (.sa, layL n p), some (.fl, .int ((sumR i fun i => Fs 2 i (p i) + sumR n fun j => Fs 0 i j * Fs 1 (p i) (p j)) + Fs 2 i (p i) + sumR j fun j => Fs 0 i j * Fs 1 (p i) (p j))), some (.fl, .int i), c, d]) ⟨c, d, ?_⟩ (fun j ρ N hj hJ hN => ?_) fun ρ hJ => ?_
    · rw [sumR_zero, Int.add_zero]; rfl
    · obtain ⟨c, d, rfl⟩ := hJ
      refine go_ix rfl rfl (go_tabl hi (go_tabl (hp i hi) (go_tabl hj (go_tabl (hp j hj) ?_))))
      refine go_ix rfl rfl (go_tabl hi (go_tabl hj ⟨DCA.Tab.mul hF hi hj _, hN _ ⟨some (.fl, .int j), some (.fl, .int (Fs 1 (p i) (p j))), ?_⟩⟩))
      rw [sumR_succ j, ← Int.add_assoc]; rfl
    · obtain ⟨c, d, rfl⟩ := hJ
      refine hN _ ⟨some (.fl, .int i), c, d, ?_⟩
      rw [sumR_succ i, ← Int.add_assoc]
  · obtain ⟨b, c, d, rfl⟩ := hI
    exact h
theorem go_LcOT {step : KD → (Option KD → Prop) → Prop} {n : Nat} {k : Kd} {g : Nat → D} {P : KD → Prop} (f : Nat → D) (h1 : 1 ≤ n) (hn : n ≤ 10000000) (hs : ∀ (i : Nat) (N : Option KD → Prop), i < n → N (some (.ow, f i)) → step (kel k (g i)) N) (h : P (.ow, .lst (tabl n f))) : kLc step ((tabl n g).map (kel k)) P := by
  unfold kLc; rw [hid_eq]
  rw [List.map_map]
  refine ⟨by rw [List.length_map, List.length_range]; exact hn, comp_ind (fun i acc => acc = (List.range i).map fun j => (.ow, f j)) rfl (fun i z acc N hz hi hN _ => ?_) fun acc h2 => ?_⟩
  · have hi' : i < n := by
      have := (List.getElem?_eq_some_iff.mp hz).1
      rw [List.length_map, List.length_range] at this; exact this
    rw [List.getElem?_map, List.getElem?_range hi'] at hz
    have e : kel k (g i) = z := Option.some.inj hz
    subst e
    refine hs i N hi' (hN _ ?_)
    rw [hi, List.range_succ, List.map_append]; rfl
  · rw [List.length_map, List.length_range] at h2
    have hL : jL ((List.range n).map fun i => ((.ow, f i) : KD)) = .ow := jL_ow (fun z hz => by obtain ⟨a, _, rfl⟩ := List.mem_map.mp hz; exact .inr rfl) (by
      intro z
      have := congrArg List.length z
      rw [List.length_map, List.length_range] at this
      exact absurd this (by show ¬ n = 0; omega))
    rw [h2, hL, snd_flm]; exact h
theorem past_spec {Q X} (hn1 : 1 ≤ n) (hn : n ≤ 1000) (hl : hist.length < 10000000) (h : Q (.fl, .non) [(.ow, recD n s (hist ++ [s]))]) : cf__law_past [(.ow, recD n s hist)] Q X := by
  rw [cf__law_past_eq]
  refine go_key (j := 0) rfl nd3 rfl rfl ?_
  refine go_LcOT (fun k => sqL n (fsOf s k)) (by omega) (by omega) (fun k N hk hN => ?_) ?_
  · refine go_LcST (fun i => .lst (tabl n fun j => .int (fsOf s k i j))) (by omega) (fun i N hi hN => ⟨flat_ints, hN⟩) ?_
    rw [kO_ow hn1]
    exact hN
  refine ⟨rfl, ?_⟩
  refine go_keyP (j := 2) rfl nd3 rfl rfl ⟨rfl, ?_⟩
  refine go_key (j := 1) rfl nd3 rfl rfl ⟨flat_ints, rfl, by rw [List.length_map]; exact hl, ?_⟩
  have e : hist.map (pastD n) ++ [pastD n s] = (hist ++ [s]).map (pastD n) := by rw [List.map_append]; rfl
  show Q (.fl, .non) [(.ow, .dcK [.inr "squares", .inr "laying", .inr "past"] [squaresD n (fsOf s), layL n s.p, .lst (hist.map (pastD n) ++ [pastD n s])])]
  rw [e]
  exact h
theorem swp_tabl {p : Nat → Nat} {a b : Nat} : (tabl n fun i => if i = b then D.int (p a : Nat) else if i = a then D.int (p b : Nat) else D.int (p i : Nat)) = tabl n fun i => D.int (swp p a b i : Nat) := tabl_congr fun i _ => by
  unfold swp
  by_cases c : i = b
  · rw [if_pos c, if_pos c]
  · rw [if_neg c, if_neg c]
    by_cases d : i = a
    · rw [if_pos d, if_pos d]
    · rw [if_neg d, if_neg d]
theorem swapped_spec {a b : Nat} {x y : Int} {Q X} (hx : x = a) (hy : y = b) (ha : a < n) (hb : b < n) (h : Q (.fl, .non) [(.ow, recD n { s with p := swp s.p a b } hist)]) : cf__law_swapped [(.ow, recD n s hist), (.fl, .int x), (.fl, .int y)] Q X := by
  subst hx hy
  rw [cf__law_swapped_eq]
  refine ⟨show 3 < 4 by decide, go_keyP (j := 1) rfl nd3 rfl rfl ⟨rfl, rfl, ?_⟩⟩
  refine go_tabl hb (go_tabl ha ?_)
  refine go_stT rfl ha ?_
  refine go_stT rfl hb ?_
  show Q (.fl, .non) [(.ow, .dcK [.inr "squares", .inr "laying", .inr "past"] [squaresD n (fsOf s), .lst (tabl n fun i => if i = b then D.int (s.p a : Nat) else if i = a then D.int (s.p b : Nat) else D.int (s.p i : Nat)), .lst (hist.map (pastD n))])]
  rw [swp_tabl]
  exact h
def stepB (f : Nat → Nat → Int) (i : Nat) (r : Option (Nat × Nat × Int)) (j : Nat) : Option (Nat × Nat × Int) := if amt r < f i j then some (i, j, f i j) else r
def rowB (f : Nat → Nat → Int) (i : Nat) (r : Option (Nat × Nat × Int)) (k : Nat) : Option (Nat × Nat × Int) := (List.range k).foldl (fun r k => stepB f i r (i + 1 + k)) r
def bsB (n : Nat) (f : Nat → Nat → Int) (i : Nat) : Option (Nat × Nat × Int) := (List.range i).foldl (fun r i => rowB f i r (n - (i + 1))) none
theorem rowB_succ {f : Nat → Nat → Int} {i k : Nat} {r : Option (Nat × Nat × Int)} : rowB f i r (k + 1) = stepB f i (rowB f i r k) (i + 1 + k) := by
  unfold rowB
  rw [List.range_succ, List.foldl_append]; rfl
theorem bsB_succ {n i : Nat} {f : Nat → Nat → Int} : bsB n f (i + 1) = rowB f i (bsB n f i) (n - (i + 1)) := by
  unfold bsB
  rw [List.range_succ, List.foldl_append]; rfl
structure GoodB (n : Nat) (f : Nat → Nat → Int) (r : Option (Nat × Nat × Int)) : Prop where
  nn : 0 ≤ amt r
  ok : ∀ a b t, r = some (a, b, t) → a < b ∧ b < n ∧ t = f a b ∧ 0 < t
theorem GoodB.step {n i j : Nat} {f : Nat → Nat → Int} {r : Option (Nat × Nat × Int)} (h : GoodB n f r) (hij : i < j) (hj : j < n) : GoodB n f (stepB f i r j) := by
  unfold stepB
  by_cases c : amt r < f i j
  · rw [if_pos c]
    have := h.nn
    exact ⟨by show 0 ≤ f i j; omega, fun a b t e => by cases e; exact ⟨hij, hj, rfl, by omega⟩⟩
  · rw [if_neg c]; exact h
theorem GoodB.row {n i : Nat} {f : Nat → Nat → Int} {r : Option (Nat × Nat × Int)} (h : GoodB n f r) : ∀ k, i + 1 + k ≤ n → GoodB n f (rowB f i r k)
  | 0, _ => h
  | k + 1, hk => by rw [rowB_succ]; exact (h.row k (by omega)).step (by omega) (by omega)
theorem good_bs {n : Nat} {f : Nat → Nat → Int} : ∀ i, i ≤ n → GoodB n f (bsB n f i)
  | 0, _ => ⟨Int.le_refl 0, fun a b t e => nomatch e⟩
  | i + 1, hi => by rw [bsB_succ]; exact (good_bs i (by omega)).row _ (by omega)
abbrev svF (n : Nat) (s : KS) : Nat → Nat → Int := savV n s.F s.W s.C s.p
abbrev bestR (n : Nat) (s : KS) : Option (Nat × Nat × Int) := bsB n (svF n s) n
theorem best_spec {Q X} (hs : KOk n s) (h : Q (.fl, bestN (bestR n s)) []) : cf__law_best [(.rd, recD n s hist)] Q X := by
  rw [cf__law_best_eq]
  have hL : ((tabl n fun i => D.int (s.p i : Nat)).length : Int) = n := lenD
  have hn : n ≤ 1000 := by have := hs.n8; omega
  have hF : Tab n 1000040 (fsOf s 0) := Tab.mono hs.job.f (by omega)
  refine go_key (j := 0) rfl nd3 rfl rfl (go_key (j := 1) rfl nd3 rfl rfl ?_)
  refine price_spec hn hs.perm.lt hF ?_
  refine go_key (j := 1) rfl nd3 rfl rfl (go_R1 (n := n) hL (by omega) ?_)
  refine go_For0 (fun i ρ => ∃ c d e g, ρ = [some (.rd, recD n s hist), some (.fl, bestN (bsB n (svF n s) i)), some (.fl, .int (costV n s.F s.W s.C s.p)), c, d, e, g]) ⟨none, none, none, none, rfl⟩ (fun i ρ N hi hI hN => ?_) fun ρ hI => ?_
  · obtain ⟨c, d, e, g, rfl⟩ := hI
    refine go_key (j := 1) rfl nd3 rfl rfl ?_
    refine go_R2 (n := n - (i + 1)) (by show ((tabl n fun i => D.int (s.p i : Nat)).length : Int) - (i + 1) = _; rw [tabl_len]; omega) (by show -1000000000000 ≤ (i : Int) + 1 ∧ (i : Int) + 1 ≤ 1000000000000 ∧ -1000000000000 ≤ ((tabl n fun i => D.int (s.p i : Nat)).length : Int) ∧ ((tabl n fun i => D.int (s.p i : Nat)).length : Int) ≤ 1000000000000; rw [tabl_len]; omega) ?_
    refine go_For (fun k ρ => ∃ d e g, ρ = [some (.rd, recD n s hist), some (.fl, bestN (rowB (svF n s) i (bsB n (svF n s) i) k)), some (.fl, .int (costV n s.F s.W s.C s.p)), some (.fl, .int i), d, e, g]) ⟨d, e, g, rfl⟩ (fun k z ρ N hz hI hN => ?_) fun ρ hI => ?_
    · obtain ⟨hk, rfl⟩ := range_get hz
      obtain ⟨d, e, g, rfl⟩ := hI
      have e1 : (i : Int) + 1 + (k : Nat) = ((i + 1 + k : Nat) : Int) := by omega
      rw [e1]
      have hb : i + 1 + k < n := by omega
      rw [rowB_succ] at hN
      have hg : GoodB n (svF n s) (rowB (svF n s) i (bsB n (svF n s) i) k) := (good_bs i (by omega)).row k (by omega)
      generalize rowB (svF n s) i (bsB n (svF n s) i) k = r at hg hN
      refine go_key (j := 1) rfl nd3 rfl rfl ⟨flat_ints, ?_⟩
      refine go_tabl hb (go_tabl hi (go_stT rfl hi (go_stT rfl hb ?_)))
      show kNext _ _ [_, _, _, _, _, some (Kd.sh, .lst (tabl n fun q => if q = i + 1 + k then D.int (s.p i : Nat) else if q = i then D.int (s.p (i + 1 + k) : Nat) else D.int (s.p q : Nat))), _]
      rw [swp_tabl]
      refine go_next (go_key (j := 0) rfl nd3 rfl rfl ?_)
      refine price_specA hn (swp_perm hs.perm hi hb).lt hF ?_
      have hv : costV n s.F s.W s.C s.p - costV n s.F s.W s.C (swp s.p i (i + 1 + k)) = svF n s i (i + 1 + k) := (sav_eq hi hb hs.job.f0).symm
      have hv' : costV n s.F s.W s.C s.p - costV n (fsOf s 0) (fsOf s 1) (fsOf s 2) (swp s.p i (i + 1 + k)) = svF n s i (i + 1 + k) := hv
      show kNext _ _ [_, _, _, _, _, _, some (Kd.fl, D.int (costV n s.F s.W s.C s.p - costV n (fsOf s 0) (fsOf s 1) (fsOf s 2) (swp s.p i (i + 1 + k))))]
      rw [hv']
      refine go_next ?_
      match r, hg, hN with
      | none, hg, hN =>
        refine ifd (fun g1 => ?_) fun g1 => ?_
        · have es : stepB (svF n s) i none (i + 1 + k) = some (i, i + 1 + k, svF n s i (i + 1 + k)) := if_pos g1
          rw [es] at hN
          exact ⟨rfl, hN _ ⟨_, _, _, rfl⟩⟩
        · have es : stepB (svF n s) i none (i + 1 + k) = none := if_neg g1
          rw [es] at hN
          exact hN _ ⟨_, _, _, rfl⟩
      | some (a, b, t), hg, hN =>
        have h0 : 0 ≤ t := hg.nn
        refine ifd (fun g1 => ?_) fun g1 => ?_
        · refine ⟨rfl, go_ix rfl rfl (ifd (fun g2 => ?_) fun g2 => ?_)⟩
          · have es : stepB (svF n s) i (some (a, b, t)) (i + 1 + k) = some (i, i + 1 + k, svF n s i (i + 1 + k)) := if_pos g2
            rw [es] at hN
            exact hN _ ⟨_, _, _, rfl⟩
          · have es : stepB (svF n s) i (some (a, b, t)) (i + 1 + k) = some (a, b, t) := if_neg g2
            rw [es] at hN
            exact hN _ ⟨_, _, _, rfl⟩
        · have es : stepB (svF n s) i (some (a, b, t)) (i + 1 + k) = some (a, b, t) := if_neg (by show ¬ t < _; omega)
          rw [es] at hN
          exact hN _ ⟨_, _, _, rfl⟩
    · obtain ⟨d, e, g, rfl⟩ := hI
      rw [range_len, ← bsB_succ]
      exact hN _ ⟨_, _, _, _, rfl⟩
  · obtain ⟨c, d, e, g, rfl⟩ := hI
    exact h
inductive Deed where
  | flow (a b : Nat) (x : Int) | way (a b : Nat) (x : Int) | charge (a b : Nat) (x : Int) | swap (a b : Nat) | better | back
def Deed.word : Deed → Str
  | .flow .. => "flow"
  | .way .. => "way"
  | .charge .. => "charge"
  | .swap .. => "swap"
  | .better => "better"
  | .back => "back"
def Deed.handed : Deed → D
  | .flow a b x => .tup [.int a, .int b, .int x]
  | .way a b x => .tup [.int a, .int b, .int x]
  | .charge a b x => .tup [.int a, .int b, .int x]
  | .swap a b => .tup [.int a, .int b]
  | .better => .tup []
  | .back => .tup []
def Deed.Ok (n : Nat) (hist : List KS) : Deed → Prop
  | .flow a b x => a < n ∧ b < n ∧ a ≠ b ∧ 0 ≤ x ∧ x ≤ 999
  | .way a b x => a < n ∧ b < n ∧ a ≠ b ∧ 0 ≤ x ∧ x ≤ 999
  | .charge a b x => a < n ∧ b < n ∧ 0 ≤ x ∧ x ≤ 1000000
  | .swap a b => a < n ∧ b < n
  | .better => True
  | .back => hist ≠ []
def Deed.next (n : Nat) (s : KS) (hist : List KS) : Deed → KS × List KS
  | .flow a b x => ({ s with F := put s.F a b x }, hist ++ [s])
  | .way a b x => ({ s with W := put s.W a b x }, hist ++ [s])
  | .charge a b x => ({ s with C := put s.C a b x }, hist ++ [s])
  | .swap a b => ({ s with p := swp s.p a b }, hist ++ [s])
  | .better => match bestR n s with
    | none => (s, hist)
    | some (a, b, _) => ({ s with p := swp s.p a b }, hist ++ [s])
  | .back => (hist.getLast?.getD s, hist.dropLast)
def Deed.told (n : Nat) (s : KS) : Deed → D
  | .better => bestN (bestR n s)
  | _ => .non
theorem sq_put {s s' : KS} {w a b : Nat} {x : Int} (h : ∀ k, k < 3 → fsOf s' k = if k = w then put (fsOf s w) a b x else fsOf s k) :
    (tabl 3 fun k => sqL n (fsOf s k)).set w (.lst ((tabl n fun i => D.lst (tabl n fun j => .int (fsOf s w i j))).set a (.lst (tabl n fun j => if j = b then .int x else .int (fsOf s w a j))))) = tabl 3 fun k => sqL n (fsOf s' k) := by
  rw [set_tabl, set_tabl]
  refine tabl_congr fun k hk => ?_
  rw [h k hk]
  by_cases c : k = w
  · rw [if_pos c, if_pos c]
    refine congrArg D.lst (tabl_congr fun i _ => ?_)
    show _ = D.lst (tabl n fun j => .int (if i = a then (if j = b then x else fsOf s w i j) else fsOf s w i j))
    by_cases d : i = a
    · rw [if_pos d]
      refine congrArg D.lst (tabl_congr fun j _ => ?_)
      rw [if_pos d]
      by_cases e : j = b
      · rw [if_pos e, if_pos e]
      · rw [if_neg e, if_neg e, d]
    · rw [if_neg d]
      refine congrArg D.lst (tabl_congr fun j _ => ?_)
      rw [if_neg d]
  · rw [if_neg c, if_neg c]
theorem last_of {l : List KS} (h : l ≠ []) : ∃ l0 x, l = l0 ++ [x] := ⟨l.dropLast, l.getLast h, (List.dropLast_concat_getLast h).symm⟩
theorem next_ok (hs : KOk n s) (hh : ∀ t ∈ hist, KOk n t) {d : Deed} (hd : d.Ok n hist) : KOk n (d.next n s hist).1 ∧ ∀ t ∈ (d.next n s hist).2, KOk n t := by
  have hh' : ∀ t ∈ hist ++ [s], KOk n t := fun t ht => by
    rcases List.mem_append.mp ht with h | h
    · exact hh t h
    · rw [List.mem_singleton.mp h]; exact hs
  cases d with
  | flow a b x => exact ⟨hs.flow hd.2.2.1 hd.2.2.2.1 hd.2.2.2.2, hh'⟩
  | way a b x => exact ⟨hs.way hd.2.2.1 hd.2.2.2.1 hd.2.2.2.2, hh'⟩
  | charge a b x => exact ⟨hs.charge hd.2.2.1 hd.2.2.2, hh'⟩
  | swap a b => exact ⟨hs.swap hd.1 hd.2, hh'⟩
  | better =>
    have hg : GoodB n (svF n s) (bestR n s) := good_bs n (Nat.le_refl n)
    unfold Deed.next
    generalize bestR n s = r at hg ⊢
    match r, hg with
    | none, _ => exact ⟨hs, hh⟩
    | some (a, b, t), hg =>
      obtain ⟨h1, h2, _, _⟩ := hg.ok a b t rfl
      exact ⟨hs.swap (by omega) h2, hh'⟩
  | back =>
    obtain ⟨h0, s0, rfl⟩ := last_of hd
    show KOk n ((h0 ++ [s0]).getLast?.getD s) ∧ ∀ t ∈ (h0 ++ [s0]).dropLast, KOk n t
    rw [List.dropLast_concat, List.getLast?_append]
    exact ⟨hh s0 (by simp), fun t ht => hh t (by simp [ht])⟩
theorem next_len {d : Deed} : (d.next n s hist).2.length ≤ hist.length + 1 := by
  cases d with
  | better =>
    unfold Deed.next
    generalize bestR n s = r
    match r with
    | none => exact Nat.le_succ _
    | some (a, b, t) => show (hist ++ [s]).length ≤ _; rw [List.length_append]; exact Nat.le_refl _
  | back => show hist.dropLast.length ≤ _; rw [List.length_dropLast]; omega
  | _ => show (hist ++ [s]).length ≤ _; rw [List.length_append]; exact Nat.le_refl _
theorem put_end {w a b : Nat} {x : Int} {s s' : KS} {h2 : List KS} {Q : KD → List KD → Prop} (h : ∀ k, k < 3 → fsOf s' k = if k = w then put (fsOf s w) a b x else fsOf s k) (hp : s'.p = s.p) (q : Q (.fl, .non) [(.ow, recD n s' h2)]) :
    Q (.fl, .non) [(.ow, .dcK [.inr "squares", .inr "laying", .inr "past"] [.lst ((tabl 3 fun k => sqL n (fsOf s k)).set w (.lst ((tabl n fun i => D.lst (tabl n fun j => .int (fsOf s w i j))).set a (.lst (tabl n fun j => if j = b then .int x else .int (fsOf s w a j)))))), layL n s.p, .lst (h2.map (pastD n))])] := by
  rw [sq_put h, ← hp]
  exact q
theorem done_spec {d : Deed} {Q X} (hs : KOk n s) (hl : hist.length < 1000000) (hd : d.Ok n hist) (h : Q (.fl, d.told n s) [(.ow, recD n (d.next n s hist).1 (d.next n s hist).2)]) :
    cf__law_done [(.ow, recD n s hist), (.fl, .str d.word), (.fl, d.handed)] Q X := by
  have hn : n ≤ 1000 := by have := hs.n8; omega
  have hn1 := hs.n1
  rw [cf__law_done_eq]
  cases d with
  | flow a b x =>
    obtain ⟨ha, hb, hab, h0, h1⟩ := hd
    refine ⟨⟨_, rfl⟩, past_spec hn1 hn (by omega) ?_⟩
    have h3 : (0 : Nat) < 3 := by decide
    refine ⟨⟨_, .inl rfl⟩, _, 0, _, rfl, rfl, rfl, rfl, (show eqD1 (.str "flow") (.str "flow") = true from by decide +kernel), fun m d' h => absurd h (Nat.not_lt_zero _), ?_⟩
    refine go_ix rfl rfl (go_keyP (j := 0) rfl nd3 rfl rfl (go_pl rfl (ixN_ok (by rw [tabl_len]; exact h3)) (tabl_get h3) (go_ix rfl rfl (go_pl rfl (ixN_ok (by rw [tabl_len]; exact ha)) (tabl_get ha) (go_ix rfl rfl (go_stT rfl hb ?_))))))
    refine put_end (w := 0) (s' := { s with F := put s.F a b x }) (fun k hk => ?_) rfl h
    match k, hk with
    | 0, _ => rfl
    | 1, _ => rfl
    | 2, _ => rfl
  | way a b x =>
    obtain ⟨ha, hb, hab, h0, h1⟩ := hd
    refine ⟨⟨_, rfl⟩, past_spec hn1 hn (by omega) ?_⟩
    have h3 : (1 : Nat) < 3 := by decide
    refine ⟨⟨_, .inl rfl⟩, _, 1, _, rfl, rfl, rfl, rfl, (show eqD1 (.str "way") (.str "way") = true from by decide +kernel), (fun m d' hm e => by
      match m, hm, e with
      | 0, _, e => cases e; exact (show eqD1 (.str "flow") (.str "way") = false from by decide +kernel)), ?_⟩
    refine go_ix rfl rfl (go_keyP (j := 0) rfl nd3 rfl rfl (go_pl rfl (ixN_ok (by rw [tabl_len]; exact h3)) (tabl_get h3) (go_ix rfl rfl (go_pl rfl (ixN_ok (by rw [tabl_len]; exact ha)) (tabl_get ha) (go_ix rfl rfl (go_stT rfl hb ?_))))))
    refine put_end (w := 1) (s' := { s with W := put s.W a b x }) (fun k hk => ?_) rfl h
    match k, hk with
    | 0, _ => rfl
    | 1, _ => rfl
    | 2, _ => rfl
  | charge a b x =>
    obtain ⟨ha, hb, h0, h1⟩ := hd
    refine ⟨⟨_, rfl⟩, past_spec hn1 hn (by omega) ?_⟩
    have h3 : (2 : Nat) < 3 := by decide
    refine ⟨⟨_, .inl rfl⟩, _, 2, _, rfl, rfl, rfl, rfl, (show eqD1 (.str "charge") (.str "charge") = true from by decide +kernel), (fun m d' hm e => by
      match m, hm, e with
      | 0, _, e => cases e; exact (show eqD1 (.str "flow") (.str "charge") = false from by decide +kernel)
      | 1, _, e => cases e; exact (show eqD1 (.str "way") (.str "charge") = false from by decide +kernel)), ?_⟩
    refine go_ix rfl rfl (go_keyP (j := 0) rfl nd3 rfl rfl (go_pl rfl (ixN_ok (by rw [tabl_len]; exact h3)) (tabl_get h3) (go_ix rfl rfl (go_pl rfl (ixN_ok (by rw [tabl_len]; exact ha)) (tabl_get ha) (go_ix rfl rfl (go_stT rfl hb ?_))))))
    refine put_end (w := 2) (s' := { s with C := put s.C a b x }) (fun k hk => ?_) rfl h
    match k, hk with
    | 0, _ => rfl
    | 1, _ => rfl
    | 2, _ => rfl
  | swap a b =>
    refine ⟨⟨_, rfl⟩, past_spec hn1 hn (by omega) ?_⟩
    refine ⟨⟨_, rfl⟩, go_ix rfl rfl (go_ix rfl rfl (swapped_spec rfl rfl hd.1 hd.2 ?_))⟩
    exact h
  | better =>
    have hg : GoodB n (svF n s) (bestR n s) := good_bs n (Nat.le_refl n)
    refine best_spec hs ?_
    unfold Deed.told Deed.next at h
    generalize bestR n s = r at h hg ⊢
    match r, hg, h with
    | none, _, h => exact ⟨rfl, h⟩
    | some (a, b, t), hg, h =>
      obtain ⟨h1, h2, _, _⟩ := hg.ok a b t rfl
      refine ⟨rfl, ?_⟩
      refine ⟨⟨_, rfl⟩, past_spec hn1 hn (by omega) ?_⟩
      refine ⟨⟨_, rfl⟩, go_ix rfl rfl (go_ix rfl rfl (swapped_spec rfl rfl (by omega) h2 ?_))⟩
      exact h
  | back =>
    obtain ⟨h0, s0, rfl⟩ := last_of hd
    have hg : ((h0 ++ [s0]).map (pastD n)).getLast? = some (pastD n s0) := by rw [List.map_append, List.getLast?_append]; rfl
    have hdl : ((h0 ++ [s0]).map (pastD n)).dropLast = h0.map (pastD n) := by rw [List.map_append]; exact List.dropLast_concat
    refine go_keyP (j := 2) rfl nd3 rfl rfl ⟨rfl, go_pop (.inr rfl) hg ?_⟩
    rw [hdl]
    refine go_twoO rfl rfl ?_
    refine go_keyS (j := 0) rfl nd3 (by decide) rfl (show 0 < 3 by decide) (go_keyS (j := 1) rfl nd3 (by decide) rfl (show 1 < 3 by decide) ?_)
    have h2 : Q (.fl, .non) [(.ow, recD n ((h0 ++ [s0]).getLast?.getD s) (h0 ++ [s0]).dropLast)] := h
    rw [List.dropLast_concat, List.getLast?_append] at h2
    exact h2
noncomputable section
abbrev tl9 : SF := (sSeq (sIf (teP (pTest (pOp (oIn false) (pVar 5) (pTup (gCons (pC (.str "better")) (gCons (pC (.str "back")) gNil)))))) (sRet (eP (pTup (gCons (pVar 5) (gCons (pTup gNil) gNil))))) sNil)
    (sSeq (sIf (teP (pTest (pOp oEq (pVar 5) (pC (.str "swap"))))) (sRet (eP (pTup (gCons (pVar 5) (gCons (pTup (gCons (pVar 3) (gCons (pVar 4) gNil))) gNil))))) sNil)
    (sSeq (sSet 6 (eP (pOp xIx (pLst (gCons (pC (.int 999)) (gCons (pC (.int 1000000)) gNil))) (pCall oInt (gCons (pOp oEq (pVar 5) (pC (.str "charge"))) gNil)))))
    (sRet (eTup (aE (eMv 5) (aE (eTup (aE (eMv 3) (aE (eMv 4) (aE (eOp xIx (eLst (aE (eP (pC (.int 0))) (aE (eMv 6) (aE (eFn [true, false] DCA.cf__law_dip (aPl 0 (aE (eP (pOp oAdd (pVar 6) (pC (.int 1)))) aNil))) (aE (eFn [true, false] DCA.cf__law_dip (aPl 0 (aE (eP (pC (.int 6))) aNil))) aNil))))) (eFn [true, false] DCA.cf__law_dip (aPl 0 (aE (eP (pC (.int 4))) aNil)))) aNil)))) aNil)))))))
abbrev tl7 : SF := (sSeq (sIf (teP (tAnd (pTest (pOp (oIn false) (pVar 5) (pTup (gCons (pC (.str "flow")) (gCons (pC (.str "way")) gNil))))) (pTest (pOp oEq (pVar 3) (pVar 4))))) (sSet 4 (eP (pOp oMod (pOp oAdd (pVar 3) (pC (.int 1))) (pVar 2)))) sNil)
    (sBar (sSeq (sIf (teP (pTest (pOp (oIn false) (pVar 5) (pTup (gCons (pC (.str "better")) (gCons (pC (.str "back")) gNil)))))) (sRet (eP (pTup (gCons (pVar 5) (gCons (pTup gNil) gNil))))) sNil)
    (sSeq (sIf (teP (pTest (pOp oEq (pVar 5) (pC (.str "swap"))))) (sRet (eP (pTup (gCons (pVar 5) (gCons (pTup (gCons (pVar 3) (gCons (pVar 4) gNil))) gNil))))) sNil)
    (sSeq (sSet 6 (eP (pOp xIx (pLst (gCons (pC (.int 999)) (gCons (pC (.int 1000000)) gNil))) (pCall oInt (gCons (pOp oEq (pVar 5) (pC (.str "charge"))) gNil)))))
    (sRet (eTup (aE (eMv 5) (aE (eTup (aE (eMv 3) (aE (eMv 4) (aE (eOp xIx (eLst (aE (eP (pC (.int 0))) (aE (eMv 6) (aE (eFn [true, false] DCA.cf__law_dip (aPl 0 (aE (eP (pOp oAdd (pVar 6) (pC (.int 1)))) aNil))) (aE (eFn [true, false] DCA.cf__law_dip (aPl 0 (aE (eP (pC (.int 6))) aNil))) aNil))))) (eFn [true, false] DCA.cf__law_dip (aPl 0 (aE (eP (pC (.int 4))) aNil)))) aNil)))) aNil)))))))))
abbrev tl5 : SF := (sSeq (sIf (teP (tOr (tAnd (pTest (pOp oEq (pVar 5) (pC (.str "back")))) (pTest (pOp oEq (pKey "past" (pVar 1)) (pLst gNil)))) (tAnd (pTest (pOp (oIn false) (pVar 5) (pTup (gCons (pC (.str "flow")) (gCons (pC (.str "way")) gNil))))) (pTest (pOp oEq (pVar 2) (pC (.int 1))))))) (sSet 5 (eOp xIx (eP (pLst (gCons (pC (.str "charge")) (gCons (pC (.str "swap")) gNil)))) (eFn [true, false] DCA.cf__law_dip (aPl 0 (aE (eP (pC (.int 2))) aNil))))) sNil)
    (sBar (sSeq (sIf (teP (tAnd (pTest (pOp (oIn false) (pVar 5) (pTup (gCons (pC (.str "flow")) (gCons (pC (.str "way")) gNil))))) (pTest (pOp oEq (pVar 3) (pVar 4))))) (sSet 4 (eP (pOp oMod (pOp oAdd (pVar 3) (pC (.int 1))) (pVar 2)))) sNil)
    (sBar (sSeq (sIf (teP (pTest (pOp (oIn false) (pVar 5) (pTup (gCons (pC (.str "better")) (gCons (pC (.str "back")) gNil)))))) (sRet (eP (pTup (gCons (pVar 5) (gCons (pTup gNil) gNil))))) sNil)
    (sSeq (sIf (teP (pTest (pOp oEq (pVar 5) (pC (.str "swap"))))) (sRet (eP (pTup (gCons (pVar 5) (gCons (pTup (gCons (pVar 3) (gCons (pVar 4) gNil))) gNil))))) sNil)
    (sSeq (sSet 6 (eP (pOp xIx (pLst (gCons (pC (.int 999)) (gCons (pC (.int 1000000)) gNil))) (pCall oInt (gCons (pOp oEq (pVar 5) (pC (.str "charge"))) gNil)))))
    (sRet (eTup (aE (eMv 5) (aE (eTup (aE (eMv 3) (aE (eMv 4) (aE (eOp xIx (eLst (aE (eP (pC (.int 0))) (aE (eMv 6) (aE (eFn [true, false] DCA.cf__law_dip (aPl 0 (aE (eP (pOp oAdd (pVar 6) (pC (.int 1)))) aNil))) (aE (eFn [true, false] DCA.cf__law_dip (aPl 0 (aE (eP (pC (.int 6))) aNil))) aNil))))) (eFn [true, false] DCA.cf__law_dip (aPl 0 (aE (eP (pC (.int 4))) aNil)))) aNil)))) aNil)))))))))))
end
abbrev De2 (Q : KD → List KD → Prop) (X : Str → List KD → Prop) : DEnds :=
  { nx := fun ρ => match mutsOf [true, false] ρ with | some ys => Q (.fl, .non) ys | none => False
    rt := fun z ρ => match mutsOf [true, false] ρ with | some ys => Q z ys | none => False
    ex := fun C ρ => match mutsOf [true, false] ρ with | some ys => X C ys | none => False }
theorem ifT {b : Bool} {p q : Prop} (e : b = true) (h : p) : if b = true then p else q := by rw [if_pos e]; exact h
theorem ifF {b : Bool} {p q : Prop} (e : b = false) (h : q) : if b = true then p else q := by rw [e, if_neg (by decide)]; exact h
abbrev Word (w : Str) : Prop := w = "flow" ∨ w = "way" ∨ w = "charge" ∨ w = "swap" ∨ w = "better" ∨ w = "back"
theorem one_of4 {r : Nat} {a b c e : Int} (hr : (r : Int) < 4) (C : Int → Prop) (ha : C a) (hb : C b) (hc : C c) (he : C e) : ∃ d, L2.atI [D.int a, D.int b, D.int c, D.int e] r = some d ∧ ∃ t, d = .int t ∧ C t := by
  have hr : r < 4 := by omega
  match r, hr with
  | 0, _ => exact ⟨_, rfl, a, rfl, ha⟩
  | 1, _ => exact ⟨_, rfl, b, rfl, hb⟩
  | 2, _ => exact ⟨_, rfl, c, rfl, hc⟩
  | 3, _ => exact ⟨_, rfl, e, rfl, he⟩
theorem tl9_spec {w : Str} {d : D} {a b : Nat} {Q X} {e6 : Sl} (hd : Bag d) (hw : Word w) (ha : a < n) (hb : b < n) (hbk : w = "back" → hist ≠ []) (hne : w = "flow" ∨ w = "way" → a ≠ b)
    (h : ∀ (e : Deed) d, e.Ok n hist → Bag d → Q (.fl, .tup [.str e.word, e.handed]) [(.ow, d)]) :
    tl9 (De2 Q X) [some (.ow, d), some (.rd, recD n s hist), some (.fl, .int n), some (.fl, .int a), some (.fl, .int b), some (.fl, .str w), e6] := by
  rcases hw with rfl | rfl | rfl | rfl | rfl | rfl
  · refine ⟨rfl, rfl, ifF (by decide +kernel) ?_⟩
    refine go_ix (d := .int 999) rfl (by rw [show decide (("flow" : Str) = "charge") = false from by decide +kernel]; rfl) ?_
    refine ⟨⟨_, rfl⟩, dip_specN hd (by omega) (by omega) fun v d hv hd => ?_⟩
    refine ⟨⟨_, rfl⟩, dip_specN hd (by omega) (by omega) fun u d hu hd => ?_⟩
    refine ⟨⟨_, rfl⟩, dip_specN hd (by omega) (by omega) fun r d hr hd => ?_⟩
    refine go_ixC (fun d => ∃ t, d = .int t ∧ 0 ≤ t ∧ t ≤ 999) rfl (one_of4 hr _ (by omega) (by omega) (by omega) (by omega)) fun dt ht => ?_
    obtain ⟨y, rfl, hy⟩ := ht
    exact h (.flow a b y) d ⟨ha, hb, hne (.inl rfl), hy.1, hy.2⟩ hd
  · refine ⟨rfl, rfl, ifF (by decide +kernel) ?_⟩
    refine go_ix (d := .int 999) rfl (by rw [show decide (("way" : Str) = "charge") = false from by decide +kernel]; rfl) ?_
    refine ⟨⟨_, rfl⟩, dip_specN hd (by omega) (by omega) fun v d hv hd => ?_⟩
    refine ⟨⟨_, rfl⟩, dip_specN hd (by omega) (by omega) fun u d hu hd => ?_⟩
    refine ⟨⟨_, rfl⟩, dip_specN hd (by omega) (by omega) fun r d hr hd => ?_⟩
    refine go_ixC (fun d => ∃ t, d = .int t ∧ 0 ≤ t ∧ t ≤ 999) rfl (one_of4 hr _ (by omega) (by omega) (by omega) (by omega)) fun dt ht => ?_
    obtain ⟨y, rfl, hy⟩ := ht
    exact h (.way a b y) d ⟨ha, hb, hne (.inr rfl), hy.1, hy.2⟩ hd
  · refine ⟨rfl, rfl, ifF (by decide +kernel) ?_⟩
    refine go_ix (d := .int 1000000) rfl (by rw [show decide (("charge" : Str) = "charge") = true from by decide +kernel]; rfl) ?_
    refine ⟨⟨_, rfl⟩, dip_specN hd (by omega) (by omega) fun v d hv hd => ?_⟩
    refine ⟨⟨_, rfl⟩, dip_specN hd (by omega) (by omega) fun u d hu hd => ?_⟩
    refine ⟨⟨_, rfl⟩, dip_specN hd (by omega) (by omega) fun r d hr hd => ?_⟩
    refine go_ixC (fun d => ∃ t, d = .int t ∧ 0 ≤ t ∧ t ≤ 1000000) rfl (one_of4 hr _ (by omega) (by omega) (by omega) (by omega)) fun dt ht => ?_
    obtain ⟨y, rfl, hy⟩ := ht
    exact h (.charge a b y) d ⟨ha, hb, hy.1, hy.2⟩ hd
  · refine ⟨rfl, rfl, ifF (by decide +kernel) ?_⟩
    exact h (.swap a b) d ⟨ha, hb⟩ hd
  · refine ⟨rfl, rfl, ifT (by decide +kernel) ?_⟩
    exact h .better d trivial hd
  · refine ⟨rfl, rfl, ifT (by decide +kernel) ?_⟩
    exact h .back d (hbk rfl) hd
theorem tl7_spec {w : Str} {d : D} {a b : Nat} {Q X} {e6 : Sl} (h1 : 1 ≤ n) (h8 : n ≤ 8) (hd : Bag d) (hw : Word w) (ha : a < n) (hb : b < n) (hbk : w = "back" → hist ≠ []) (hne : w = "flow" ∨ w = "way" → n ≠ 1)
    (h : ∀ (e : Deed) d, e.Ok n hist → Bag d → Q (.fl, .tup [.str e.word, e.handed]) [(.ow, d)]) :
    tl7 (De2 Q X) [some (.ow, d), some (.rd, recD n s hist), some (.fl, .int n), some (.fl, .int a), some (.fl, .int b), some (.fl, .str w), e6] := by
  have fin : ∀ {w : Str} {b : Nat}, Word w → b < n → (w = "back" → hist ≠ []) → (w = "flow" ∨ w = "way" → a ≠ b) → tl9 (De2 Q X) [some (.ow, d), some (.rd, recD n s hist), some (.fl, .int n), some (.fl, .int a), some (.fl, .int b), some (.fl, .str w), e6] := fun hw hb h1 h2 => tl9_spec hd hw ha hb h1 h2 h
  have e2 : (((a : Nat) : Int) + 1) % ((n : Nat) : Int) = (((a + 1) % n : Nat) : Int) := rfl
  have hm : n ≠ 1 → a ≠ (a + 1) % n := fun hn => by
    by_cases c : a + 1 < n
    · rw [Nat.mod_eq_of_lt c]; omega
    · have e : a + 1 = n := by omega
      rw [e, Nat.mod_self]; omega
  rcases hw with rfl | rfl | rfl | rfl | rfl | rfl
  · refine ⟨rfl, rfl, ifT (by decide +kernel) (ifd (fun e => ?_) fun e => ?_)⟩
    · refine ⟨by omega, ?_⟩
      show kNext _ _ [_, _, _, _, some (Kd.fl, D.int ((((a : Nat) : Int) + 1) % ((n : Nat) : Int))), _, _]
      rw [e2]
      exact go_next (fin (.inl rfl) (Nat.mod_lt _ (by omega)) hbk fun _ => hm (hne (.inl rfl)))
    · exact go_next (fin (.inl rfl) hb hbk fun _ => by omega)
  · refine ⟨rfl, rfl, ifT (by decide +kernel) (ifd (fun e => ?_) fun e => ?_)⟩
    · refine ⟨by omega, ?_⟩
      show kNext _ _ [_, _, _, _, some (Kd.fl, D.int ((((a : Nat) : Int) + 1) % ((n : Nat) : Int))), _, _]
      rw [e2]
      exact go_next (fin (.inr (.inl rfl)) (Nat.mod_lt _ (by omega)) hbk fun _ => hm (hne (.inr rfl)))
    · exact go_next (fin (.inr (.inl rfl)) hb hbk fun _ => by omega)
  · exact ⟨rfl, rfl, ifF (by decide +kernel) (go_next (fin (.inr (.inr (.inl rfl))) hb hbk fun z => by rcases z with z | z <;> exact absurd z (by decide +kernel)))⟩
  · exact ⟨rfl, rfl, ifF (by decide +kernel) (go_next (fin (.inr (.inr (.inr (.inl rfl)))) hb hbk fun z => by rcases z with z | z <;> exact absurd z (by decide +kernel)))⟩
  · exact ⟨rfl, rfl, ifF (by decide +kernel) (go_next (fin (.inr (.inr (.inr (.inr (.inl rfl))))) hb hbk fun z => by rcases z with z | z <;> exact absurd z (by decide +kernel)))⟩
  · exact ⟨rfl, rfl, ifF (by decide +kernel) (go_next (fin (.inr (.inr (.inr (.inr (.inr rfl))))) hb hbk fun z => by rcases z with z | z <;> exact absurd z (by decide +kernel)))⟩
theorem past_cL {s : KS} : (pastD n s).cL = true ∧ (pastD n s).hL ≤ 10 := by
  have tab : ∀ f : Nat → Nat → Int, (sqL n f).cL = true ∧ (sqL n f).hL ≤ 3 := fun f => ⟨cLs_tabl fun i _ => cLs_tabl fun j _ => rfl, Nat.succ_le_succ (hLs_tabl (c := 2) fun i _ => Nat.succ_le_succ (hLs_tabl (c := 1) fun j _ => Nat.le_refl _))⟩
  have lay : (layL n s.p).cL = true ∧ (layL n s.p).hL ≤ 2 := ⟨cLs_tabl fun i _ => rfl, Nat.succ_le_succ (hLs_tabl (c := 1) fun j _ => Nat.le_refl _)⟩
  constructor
  · show ((((sqL n (fsOf s 0)).cL && ((sqL n (fsOf s 1)).cL && ((sqL n (fsOf s 2)).cL && true)))) && ((layL n s.p).cL && true)) = true
    rw [(tab _).1, (tab _).1, (tab _).1, lay.1]; rfl
  · show max (max (sqL n (fsOf s 0)).hL (max (sqL n (fsOf s 1)).hL (max (sqL n (fsOf s 2)).hL 0)) + 1) (max (layL n s.p).hL 0) + 1 ≤ 10
    have h1 := (tab (fsOf s 0)).2
    have h2 := (tab (fsOf s 1)).2
    have h3 := (tab (fsOf s 2)).2
    have h4 := lay.2
    omega
theorem hist_okE : (D.lst (hist.map (pastD n))).okE := cL_okE (cLs_all fun d hd => by
    obtain ⟨t, _, rfl⟩ := List.mem_map.mp hd
    exact past_cL.1) (Nat.succ_le_succ (Nat.le_trans (hLs_all (c := 10) fun d hd => by
    obtain ⟨t, _, rfl⟩ := List.mem_map.mp hd
    exact past_cL.2) (by decide)))
theorem tl5_spec {w : Str} {d : D} {a b : Nat} {Q X} {e6 : Sl} (h1 : 1 ≤ n) (h8 : n ≤ 8) (hd : Bag d) (hw : Word w) (ha : a < n) (hb : b < n)
    (h : ∀ (e : Deed) d, e.Ok n hist → Bag d → Q (.fl, .tup [.str e.word, e.handed]) [(.ow, d)]) :
    tl5 (De2 Q X) [some (.ow, d), some (.rd, recD n s hist), some (.fl, .int n), some (.fl, .int a), some (.fl, .int b), some (.fl, .str w), e6] := by
  have fin : ∀ {w : Str} {d : D}, Bag d → Word w → (w = "back" → hist ≠ []) → (w = "flow" ∨ w = "way" → n ≠ 1) → tl7 (De2 Q X) [some (.ow, d), some (.rd, recD n s hist), some (.fl, .int n), some (.fl, .int a), some (.fl, .int b), some (.fl, .str w), e6] := fun hd hw g1 g2 => tl7_spec h1 h8 hd hw ha hb g1 g2 h
  have two : ∀ {w : Str} {d : D}, Bag d → w = "charge" ∨ w = "swap" → tl7 (De2 Q X) [some (.ow, d), some (.rd, recD n s hist), some (.fl, .int n), some (.fl, .int a), some (.fl, .int b), some (.fl, .str w), e6] := fun hd hw => by
    rcases hw with rfl | rfl
    · exact fin hd (.inr (.inr (.inl rfl))) (fun z => absurd z (by decide +kernel)) fun z => by rcases z with z | z <;> exact absurd z (by decide +kernel)
    · exact fin hd (.inr (.inr (.inr (.inl rfl)))) (fun z => absurd z (by decide +kernel)) fun z => by rcases z with z | z <;> exact absurd z (by decide +kernel)
  have one : ∀ {r : Nat}, (r : Int) < 2 → ∃ d, L2.atI [D.str "charge", D.str "swap"] r = some d ∧ ∃ w, d = .str w ∧ (w = "charge" ∨ w = "swap") := fun {r} hr => by
    have hr : r < 2 := by omega
    match r, hr with
    | 0, _ => exact ⟨_, rfl, _, rfl, .inl rfl⟩
    | 1, _ => exact ⟨_, rfl, _, rfl, .inr rfl⟩
  rcases hw with rfl | rfl | rfl | rfl | rfl | rfl
  · refine ⟨rfl, rfl, ifT (by decide +kernel) (ifd (fun e => ?_) fun e => ?_)⟩
    · refine ⟨⟨_, rfl⟩, dip_specN hd (by omega) (by omega) fun r d hr hd => ?_⟩
      refine go_ixC (fun d => ∃ w, d = .str w ∧ (w = "charge" ∨ w = "swap")) rfl (one hr) fun dt ht => ?_
      obtain ⟨y, rfl, hy⟩ := ht
      exact go_next (two hd hy)
    · exact go_next (fin hd (.inl rfl) (fun z => absurd z (by decide +kernel)) fun _ => by omega)
  · refine ⟨rfl, rfl, ifT (by decide +kernel) (ifd (fun e => ?_) fun e => ?_)⟩
    · refine ⟨⟨_, rfl⟩, dip_specN hd (by omega) (by omega) fun r d hr hd => ?_⟩
      refine go_ixC (fun d => ∃ w, d = .str w ∧ (w = "charge" ∨ w = "swap")) rfl (one hr) fun dt ht => ?_
      obtain ⟨y, rfl, hy⟩ := ht
      exact go_next (two hd hy)
    · exact go_next (fin hd (.inr (.inl rfl)) (fun z => absurd z (by decide +kernel)) fun _ => by omega)
  · exact ⟨rfl, rfl, ifF (by decide +kernel) (go_next (two hd (.inl rfl)))⟩
  · exact ⟨rfl, rfl, ifF (by decide +kernel) (go_next (two hd (.inr rfl)))⟩
  · exact ⟨rfl, rfl, ifF (by decide +kernel) (go_next (fin hd (.inr (.inr (.inr (.inr (.inl rfl))))) (fun z => absurd z (by decide +kernel)) fun z => by rcases z with z | z <;> exact absurd z (by decide +kernel)))⟩
  · refine go_key (j := 2) rfl nd3 rfl rfl ⟨hist_okE, cL_okE (d := .lst []) rfl (by decide), ?_⟩
    by_cases c : hist = []
    · subst c
      refine ifT rfl ?_
      refine ⟨⟨_, rfl⟩, dip_specN hd (by omega) (by omega) fun r d hr hd => ?_⟩
      refine go_ixC (fun d => ∃ w, d = .str w ∧ (w = "charge" ∨ w = "swap")) rfl (one hr) fun dt ht => ?_
      obtain ⟨y, rfl, hy⟩ := ht
      exact go_next (two hd hy)
    · refine ifF (by cases hist with | nil => exact absurd rfl c | cons x l => rfl) ?_
      exact ⟨rfl, rfl, ifF (by decide +kernel) (go_next (fin hd (.inr (.inr (.inr (.inr (.inr rfl))))) (fun _ => c) fun z => by rcases z with z | z <;> exact absurd z (by decide +kernel)))⟩
theorem deed_spec {d : D} {Q X} (hs : KOk n s) (hd : Bag d) (h : ∀ (e : Deed) d, e.Ok n hist → Bag d → Q (.fl, .tup [.str e.word, e.handed]) [(.ow, d)]) : cf__law_deed [(.ow, d), (.rd, recD n s hist)] Q X := by
  rw [cf__law_deed_eq]
  have hL : ((tabl n fun i => D.int (s.p i : Nat)).length : Int) = n := lenD
  have h1 := hs.n1
  have h8 := hs.n8
  refine go_key (j := 1) rfl nd3 rfl rfl ?_
  refine ⟨⟨_, rfl⟩, dip_specN hd (by rw [hL]; omega) (by rw [hL]; omega) fun a d ha hd => ?_⟩
  refine ⟨⟨_, rfl⟩, dip_specN hd (by rw [hL]; omega) (by rw [hL]; omega) fun b d hb hd => ?_⟩
  refine ⟨⟨_, rfl⟩, dip_specN hd (by omega) (by omega) fun r d hr hd => ?_⟩
  have hw : ∃ d, L2.atI [D.str "flow", D.str "way", D.str "charge", D.str "swap", D.str "better", D.str "back", D.str "flow", D.str "way"] r = some d ∧ ∃ w, d = .str w ∧ Word w := by
    have hr : r < 8 := by omega
    match r, hr with
    | 0, _ => exact ⟨_, rfl, _, rfl, .inl rfl⟩
    | 1, _ => exact ⟨_, rfl, _, rfl, .inr (.inl rfl)⟩
    | 2, _ => exact ⟨_, rfl, _, rfl, .inr (.inr (.inl rfl))⟩
    | 3, _ => exact ⟨_, rfl, _, rfl, .inr (.inr (.inr (.inl rfl)))⟩
    | 4, _ => exact ⟨_, rfl, _, rfl, .inr (.inr (.inr (.inr (.inl rfl))))⟩
    | 5, _ => exact ⟨_, rfl, _, rfl, .inr (.inr (.inr (.inr (.inr rfl))))⟩
    | 6, _ => exact ⟨_, rfl, _, rfl, .inl rfl⟩
    | 7, _ => exact ⟨_, rfl, _, rfl, .inr (.inl rfl)⟩
  refine go_ixC (fun d => ∃ w, d = .str w ∧ Word w) rfl hw fun dt ht => ?_
  obtain ⟨w, rfl, hw⟩ := ht
  rw [hL] at ha hb
  show kNext _ _ [some (Kd.ow, d), some (Kd.rd, recD n s hist), some (Kd.fl, .int ((tabl n fun i => D.int (s.p i : Nat)).length : Int)), some (Kd.fl, .int a), some (Kd.fl, .int b), some (Kd.fl, .str w), none]
  rw [hL]
  exact go_next (tl5_spec h1 h8 hd hw (by omega) (by omega) h)
end DCJ

namespace DCV
open PySem PySem.Spec PyProof.Rows L2 DL
noncomputable section
def sem_is_job : SF :=
  (sSeq (sIf (teP (tOr (tNot (pTest (pIsI .tup (pVar 0)))) (tOr (pTest (pOp oNe (pCall oLen (gCons (pVar 0) gNil)) (pC (.int 3)))) (tNot (pTest (pIsI .tup (pOp xIx (pVar 0) (pC (.int 0))))))))) (sRet (eP (pC (.bl false)))) sNil)
    (sSeq (sSet 1 (eP (pCall oLen (gCons (pOp xIx (pVar 0) (pC (.int 0))) gNil))))
    (sSeq (sIf (teP (tOr (tNot (pTest (pChain oLe oLe (pC (.int 1)) (pVar 1) (pC (.int 8))))) (tNot (pTest (pFn DCF.cf_is_square (gCons (pOp xIx (pVar 0) (pC (.int 0))) (gCons (pVar 1) (gCons (pC (.int 999)) gNil)))))))) (sRet (eP (pC (.bl false)))) sNil)
    (sSeq (sIf (teP (tOr (tNot (pTest (pFn DCF.cf_is_square (gCons (pOp xIx (pVar 0) (pC (.int 1))) (gCons (pVar 1) (gCons (pC (.int 999)) gNil)))))) (tNot (pTest (pFn DCF.cf_is_square (gCons (pOp xIx (pVar 0) (pC (.int 2))) (gCons (pVar 1) (gCons (pC (.int 1000000)) gNil)))))))) (sRet (eP (pC (.bl false)))) sNil)
    (sRet (eP (pCall oAll (gCons (pLcX (jR1 (gCons (pVar 1) gNil)) [2] (gNm 2) tNilP (pAndV (pOp oEq (pOp xIx (pOp xIx (pOp xIx (pVar 0) (pC (.int 0))) (pVar 2)) (pVar 2)) (pC (.int 0))) (pOp oEq (pOp xIx (pOp xIx (pOp xIx (pVar 0) (pC (.int 1))) (pVar 2)) (pVar 2)) (pC (.int 0))))) gNil))))))))
@[irreducible] def cf_is_job : CF := hid (cfOf 2 [false] sem_is_job)
theorem cf_is_job_eq : cf_is_job = cfOf 2 [false] sem_is_job := by unfold cf_is_job; rw [hid_eq]
def sem_need_number : SF :=
  (sIf (teP (tNot (pTest (pFn DCF.cf_is_number (gCons (pVar 0) (gCons (pVar 1) gNil)))))) (sRaise "NoNumber") sNil)
@[irreducible] def cf_need_number : CF := hid (cfOf 0 [false, false] sem_need_number)
theorem cf_need_number_eq : cf_need_number = cfOf 0 [false, false] sem_need_number := by unfold cf_need_number; rw [hid_eq]
def sem_Keeper___init__ : SF :=
  (sSeq (sIf (teP (tNot (pTest (pFn cf_is_job (gCons (pVar 1) gNil))))) (sRaise "NoJob") sNil)
    (sSeq (sIf (teP (tNot (pTest (pFn DCF.cf_is_laying (gCons (pVar 1) (gCons (pVar 2) gNil)))))) (sRaise "NoLaying") sNil)
    (sSeq (sFldN "Keeper" [] "now" (eMv 1) (plVar 0))
    (sSeq (sFldN "Keeper" ["now"] "laid" (eMv 2) (plVar 0))
    (sFldN "Keeper" ["now", "laid"] "past" (eP (pLst gNil)) (plVar 0))))))
@[irreducible] def cf_Keeper___init__ : CF := hid (cfOf 0 [true, false, false] sem_Keeper___init__)
theorem cf_Keeper___init___eq : cf_Keeper___init__ = cfOf 0 [true, false, false] sem_Keeper___init__ := by unfold cf_Keeper___init__; rw [hid_eq]
def sem_Keeper_need_work : SF :=
  (sIf (teP (tNot (pTest (pFn DCF.cf_is_number (gCons (pVar 1) (gCons (pOp oSub (pCall oLen (gCons (pFlat (pFld "Keeper" ["now", "laid", "past"] 1 (pVar 0))) gNil)) (pC (.int 1))) gNil)))))) (sRaise "NoWork") sNil)
@[irreducible] def cf_Keeper_need_work : CF := hid (cfOf 0 [true, false] sem_Keeper_need_work)
theorem cf_Keeper_need_work_eq : cf_Keeper_need_work = cfOf 0 [true, false] sem_Keeper_need_work := by unfold cf_Keeper_need_work; rw [hid_eq]
def sem_Keeper_need_two : SF :=
  (sSeq (sExpr (eMeth 0 "Keeper" ["now", "laid", "past"] [true, false] cf_Keeper_need_work (aE (eMv 1) aNil)))
    (sSeq (sExpr (eMeth 0 "Keeper" ["now", "laid", "past"] [true, false] cf_Keeper_need_work (aE (eMv 2) aNil)))
    (sIf (teP (pTest (pOp oEq (pVar 1) (pVar 2)))) (sRaise "NoWork") sNil)))
@[irreducible] def cf_Keeper_need_two : CF := hid (cfOf 0 [true, false, false] sem_Keeper_need_two)
theorem cf_Keeper_need_two_eq : cf_Keeper_need_two = cfOf 0 [true, false, false] sem_Keeper_need_two := by unfold cf_Keeper_need_two; rw [hid_eq]
def sem_Keeper_flow : SF :=
  (sSeq (sExpr (eMeth 0 "Keeper" ["now", "laid", "past"] [true, false, false] cf_Keeper_need_two (aE (eMv 1) (aE (eMv 2) aNil))))
    (sSeq (sExpr (eFn [false, false] cf_need_number (aE (eMv 3) (aE (eP (pC (.int 999))) aNil))))
    (sExpr (eMeth 0 "Keeper" ["now", "laid", "past"] [true, false, false] DCF.cf_Keeper_turn_to (aE (eP (pTup (gCons (pFn DCF.cf_with_number (gCons (pOp xIx (pFlat (pFld "Keeper" ["now", "laid", "past"] 0 (pVar 0))) (pC (.int 0))) (gCons (pVar 1) (gCons (pVar 2) (gCons (pVar 3) gNil))))) (gCons (pOp xIx (pFlat (pFld "Keeper" ["now", "laid", "past"] 0 (pVar 0))) (pC (.int 1))) (gCons (pOp xIx (pFlat (pFld "Keeper" ["now", "laid", "past"] 0 (pVar 0))) (pC (.int 2))) gNil))))) (aE (eP (pFlat (pFld "Keeper" ["now", "laid", "past"] 1 (pVar 0)))) aNil))))))
@[irreducible] def cf_Keeper_flow : CF := hid (cfOf 0 [true, false, false, false] sem_Keeper_flow)
theorem cf_Keeper_flow_eq : cf_Keeper_flow = cfOf 0 [true, false, false, false] sem_Keeper_flow := by unfold cf_Keeper_flow; rw [hid_eq]
def sem_Keeper_way : SF :=
  (sSeq (sExpr (eMeth 0 "Keeper" ["now", "laid", "past"] [true, false, false] cf_Keeper_need_two (aE (eMv 1) (aE (eMv 2) aNil))))
    (sSeq (sExpr (eFn [false, false] cf_need_number (aE (eMv 3) (aE (eP (pC (.int 999))) aNil))))
    (sExpr (eMeth 0 "Keeper" ["now", "laid", "past"] [true, false, false] DCF.cf_Keeper_turn_to (aE (eP (pTup (gCons (pOp xIx (pFlat (pFld "Keeper" ["now", "laid", "past"] 0 (pVar 0))) (pC (.int 0))) (gCons (pFn DCF.cf_with_number (gCons (pOp xIx (pFlat (pFld "Keeper" ["now", "laid", "past"] 0 (pVar 0))) (pC (.int 1))) (gCons (pVar 1) (gCons (pVar 2) (gCons (pVar 3) gNil))))) (gCons (pOp xIx (pFlat (pFld "Keeper" ["now", "laid", "past"] 0 (pVar 0))) (pC (.int 2))) gNil))))) (aE (eP (pFlat (pFld "Keeper" ["now", "laid", "past"] 1 (pVar 0)))) aNil))))))
@[irreducible] def cf_Keeper_way : CF := hid (cfOf 0 [true, false, false, false] sem_Keeper_way)
theorem cf_Keeper_way_eq : cf_Keeper_way = cfOf 0 [true, false, false, false] sem_Keeper_way := by unfold cf_Keeper_way; rw [hid_eq]
def sem_Keeper_charge : SF :=
  (sSeq (sExpr (eMeth 0 "Keeper" ["now", "laid", "past"] [true, false] cf_Keeper_need_work (aE (eMv 1) aNil)))
    (sSeq (sExpr (eMeth 0 "Keeper" ["now", "laid", "past"] [true, false] cf_Keeper_need_work (aE (eMv 2) aNil)))
    (sSeq (sExpr (eFn [false, false] cf_need_number (aE (eMv 3) (aE (eP (pC (.int 1000000))) aNil))))
    (sExpr (eMeth 0 "Keeper" ["now", "laid", "past"] [true, false, false] DCF.cf_Keeper_turn_to (aE (eP (pTup (gCons (pOp xIx (pFlat (pFld "Keeper" ["now", "laid", "past"] 0 (pVar 0))) (pC (.int 0))) (gCons (pOp xIx (pFlat (pFld "Keeper" ["now", "laid", "past"] 0 (pVar 0))) (pC (.int 1))) (gCons (pFn DCF.cf_with_number (gCons (pOp xIx (pFlat (pFld "Keeper" ["now", "laid", "past"] 0 (pVar 0))) (pC (.int 2))) (gCons (pVar 1) (gCons (pVar 2) (gCons (pVar 3) gNil))))) gNil))))) (aE (eP (pFlat (pFld "Keeper" ["now", "laid", "past"] 1 (pVar 0)))) aNil)))))))
@[irreducible] def cf_Keeper_charge : CF := hid (cfOf 0 [true, false, false, false] sem_Keeper_charge)
theorem cf_Keeper_charge_eq : cf_Keeper_charge = cfOf 0 [true, false, false, false] sem_Keeper_charge := by unfold cf_Keeper_charge; rw [hid_eq]
def sem_Keeper_swap : SF :=
  (sSeq (sExpr (eMeth 0 "Keeper" ["now", "laid", "past"] [true, false] cf_Keeper_need_work (aE (eMv 1) aNil)))
    (sSeq (sExpr (eMeth 0 "Keeper" ["now", "laid", "past"] [true, false] cf_Keeper_need_work (aE (eMv 2) aNil)))
    (sExpr (eMeth 0 "Keeper" ["now", "laid", "past"] [true, false, false] DCF.cf_Keeper_turn_to (aE (eP (pFlat (pFld "Keeper" ["now", "laid", "past"] 0 (pVar 0)))) (aE (eP (pFn DCB.cf_exchanged (gCons (pFlat (pFld "Keeper" ["now", "laid", "past"] 1 (pVar 0))) (gCons (pVar 1) (gCons (pVar 2) gNil))))) aNil))))))
@[irreducible] def cf_Keeper_swap : CF := hid (cfOf 0 [true, false, false] sem_Keeper_swap)
theorem cf_Keeper_swap_eq : cf_Keeper_swap = cfOf 0 [true, false, false] sem_Keeper_swap := by unfold cf_Keeper_swap; rw [hid_eq]
def sem_Keeper_better : SF :=
  (sSeq (sSet 1 (eP (pTup (gCons (pC (.int 0)) (gCons (pC (.int 0)) (gCons (pC (.int 0)) gNil))))))
    (sSeq (sForR (jR1 (gCons (pCall oLen (gCons (pFlat (pFld "Keeper" ["now", "laid", "past"] 1 (pVar 0))) gNil)) gNil)) (gNm 2) (sForR (jR2 (gCons (pOp oAdd (pVar 2) (pC (.int 1))) (gCons (pCall oLen (gCons (pFlat (pFld "Keeper" ["now", "laid", "past"] 1 (pVar 0))) gNil)) gNil))) (gNm 3) (sSeq (sSet 4 (eP (pFn DCB.cf_saved (gCons (pFlat (pFld "Keeper" ["now", "laid", "past"] 0 (pVar 0))) (gCons (pFlat (pFld "Keeper" ["now", "laid", "past"] 1 (pVar 0))) (gCons (pVar 2) (gCons (pVar 3) gNil)))))))
    (sIf (teP (pTest (pOp oGt (pVar 4) (pOp xIx (pVar 1) (pC (.int 2)))))) (sSet 1 (eP (pTup (gCons (pVar 2) (gCons (pVar 3) (gCons (pVar 4) gNil)))))) sNil))))
    (sSeq (sIf (teP (pTest (pOp oEq (pOp xIx (pVar 1) (pC (.int 2))) (pC (.int 0))))) (sRet (eP (pC .non))) sNil)
    (sSeq (sExpr (eMeth 0 "Keeper" ["now", "laid", "past"] [true, false, false] cf_Keeper_swap (aE (eP (pOp xIx (pVar 1) (pC (.int 0)))) (aE (eP (pOp xIx (pVar 1) (pC (.int 1)))) aNil))))
    (sRet (eMv 1))))))
@[irreducible] def cf_Keeper_better : CF := hid (cfOf 4 [true] sem_Keeper_better)
theorem cf_Keeper_better_eq : cf_Keeper_better = cfOf 4 [true] sem_Keeper_better := by unfold cf_Keeper_better; rw [hid_eq]
def sem_Keeper_back : SF :=
  (sSeq (sIf (teP (pTest (pOp oEq (pFld "Keeper" ["now", "laid", "past"] 2 (pVar 0)) (pLst gNil)))) (sRaise "Nothing") sNil)
    (sFldP "Keeper" ["now", "laid", "past"] 0 1 (eMthP xPop (plFld "Keeper" ["now", "laid", "past"] 2 (plVar 0)) gNil) (plVar 0) (plVar 0)))
@[irreducible] def cf_Keeper_back : CF := hid (cfOf 0 [true] sem_Keeper_back)
theorem cf_Keeper_back_eq : cf_Keeper_back = cfOf 0 [true] sem_Keeper_back := by unfold cf_Keeper_back; rw [hid_eq]
def sem_empty_job : SF :=
  (sSeq (sSet 1 (eP (pOp oMul (pTup (gCons (pOp oMul (pTup (gCons (pC (.int 0)) gNil)) (pVar 0)) gNil)) (pVar 0))))
    (sRet (eP (pTup (gCons (pVar 1) (gCons (pVar 1) (gCons (pVar 1) gNil)))))))
@[irreducible] def cf_empty_job : CF := hid (cfOf 1 [false] sem_empty_job)
theorem cf_empty_job_eq : cf_empty_job = cfOf 1 [false] sem_empty_job := by unfold cf_empty_job; rw [hid_eq]
def sem_words_of : SF :=
  (sRet (eP (pJoin (pC (.str " ")) (pLcX (iSq (pVar 0)) [1] (gNm 1) tNilP (pCall oStr (gCons (pVar 1) gNil))))))
@[irreducible] def cf_words_of : CF := hid (cfOf 1 [false] sem_words_of)
theorem cf_words_of_eq : cf_words_of = cfOf 1 [false] sem_words_of := by unfold cf_words_of; rw [hid_eq]
def sem_Desk___init__ : SF :=
  (sFldN "Desk" [] "keeper" (eP (pC .non)) (plVar 0))
@[irreducible] def cf_Desk___init__ : CF := hid (cfOf 0 [true] sem_Desk___init__)
theorem cf_Desk___init___eq : cf_Desk___init__ = cfOf 0 [true] sem_Desk___init__ := by unfold cf_Desk___init__; rw [hid_eq]
def sem_Desk_begin : SF :=
  (sSeq (sIf (teP (tNot (pTest (pChain oLe oLe (pC (.int 1)) (pVar 1) (pC (.int 8)))))) (sRaise "NoRow") sNil)
    (sSeq (sFldS "Desk" ["keeper"] 0 (eMakeX "Keeper" cf_Keeper___init__ (aE (eP (pFn cf_empty_job (gCons (pVar 1) gNil))) (aE (eP (pTR1X (pVar 1))) aNil))) (plVar 0))
    (sRet (eP (pC (.str "ok"))))))
@[irreducible] def cf_Desk_begin : CF := hid (cfOf 0 [true, false] sem_Desk_begin)
theorem cf_Desk_begin_eq : cf_Desk_begin = cfOf 0 [true, false] sem_Desk_begin := by unfold cf_Desk_begin; rw [hid_eq]
def sem_Desk_done : SF :=
  (sSeq (sIf (teP (pTest (pOp oEq (pVar 1) (pC (.str "total"))))) (sRet (eP (pCall oStr (gCons (pMeth "Keeper" ["now", "laid", "past"] DCF.cf_Keeper_cost (pFld "Desk" ["keeper"] 0 (pVar 0)) (fun _ P => P [])) gNil)))) sNil)
    (sSeq (sIf (teP (pTest (pOp oEq (pVar 1) (pC (.str "better"))))) (sBar (sSeq (sSet 3 (eHoldM "Keeper" ["now", "laid", "past"] [true] cf_Keeper_better (plFld "Desk" ["keeper"] 0 (plVar 0)) aNil))
    (sRet (eP (pIf (pTest (pOp oIsN (pVar 3) (pC .non))) (pC (.str "still")) (pFn cf_words_of (gCons (pVar 3) gNil))))))) sNil)
    (sSeq (sIf (teP (pTest (pOp oEq (pVar 1) (pC (.str "flow"))))) (sBar (sExpr (eHoldM "Keeper" ["now", "laid", "past"] [true, false, false, false] cf_Keeper_flow (plFld "Desk" ["keeper"] 0 (plVar 0)) (aE (eP (pOp xIx (pVar 2) (pC (.int 0)))) (aE (eP (pOp xIx (pVar 2) (pC (.int 1)))) (aE (eP (pOp xIx (pVar 2) (pC (.int 2)))) aNil)))))) (sIf (teP (pTest (pOp oEq (pVar 1) (pC (.str "way"))))) (sExpr (eHoldM "Keeper" ["now", "laid", "past"] [true, false, false, false] cf_Keeper_way (plFld "Desk" ["keeper"] 0 (plVar 0)) (aE (eP (pOp xIx (pVar 2) (pC (.int 0)))) (aE (eP (pOp xIx (pVar 2) (pC (.int 1)))) (aE (eP (pOp xIx (pVar 2) (pC (.int 2)))) aNil))))) (sIf (teP (pTest (pOp oEq (pVar 1) (pC (.str "cost"))))) (sExpr (eHoldM "Keeper" ["now", "laid", "past"] [true, false, false, false] cf_Keeper_charge (plFld "Desk" ["keeper"] 0 (plVar 0)) (aE (eP (pOp xIx (pVar 2) (pC (.int 0)))) (aE (eP (pOp xIx (pVar 2) (pC (.int 1)))) (aE (eP (pOp xIx (pVar 2) (pC (.int 2)))) aNil))))) (sIf (teP (pTest (pOp oEq (pVar 1) (pC (.str "swap"))))) (sExpr (eHoldM "Keeper" ["now", "laid", "past"] [true, false, false] cf_Keeper_swap (plFld "Desk" ["keeper"] 0 (plVar 0)) (aE (eP (pOp xIx (pVar 2) (pC (.int 0)))) (aE (eP (pOp xIx (pVar 2) (pC (.int 1)))) aNil)))) (sBar (sExpr (eHoldM "Keeper" ["now", "laid", "past"] [true] cf_Keeper_back (plFld "Desk" ["keeper"] 0 (plVar 0)) aNil)))))))
    (sRet (eP (pC (.str "ok")))))))
@[irreducible] def cf_Desk_done : CF := hid (cfOf 1 [true, false, false] sem_Desk_done)
theorem cf_Desk_done_eq : cf_Desk_done = cfOf 1 [true, false, false] sem_Desk_done := by unfold cf_Desk_done; rw [hid_eq]
def sem__law_shown : SF :=
  (sRet (eP (pJoin (pC (.str ",")) (pFn DCH.cf__law_rows (gCons (pVar 0) gNil)))))
@[irreducible] def cf__law_shown : CF := hid (cfOf 0 [false] sem__law_shown)
theorem cf__law_shown_eq : cf__law_shown = cfOf 0 [false] sem__law_shown := by unfold cf__law_shown; rw [hid_eq]
def sem__law_bare : SF :=
  (sRet (eFn [false, false] DCJ.cf__law_begun (aE (eP (pLcX (jR1 (gCons (pC (.int 3)) gNil)) [1] (gNm 1) tNilP (pLcX (jR1 (gCons (pVar 0) gNil)) [2] (gNm 2) tNilP (pOp oMul (pLst (gCons (pC (.int 0)) gNil)) (pVar 0))))) (aE (eP (pLR1X (pVar 0))) aNil))))
@[irreducible] def cf__law_bare : CF := hid (cfOf 2 [false] sem__law_bare)
theorem cf__law_bare_eq : cf__law_bare = cfOf 2 [false] sem__law_bare := by unfold cf__law_bare; rw [hid_eq]
def sem__law_row_of : SF :=
  (sSeq (sSet 2 (eP (pGet1 (pC (.str "charge")) (pC (.str "cost")) (pVar 0) (pVar 0))))
    (sRet (eP (pJoin (pC (.str " ")) (pOp oAdd (pLst (gCons (pVar 2) gNil)) (pLcX (iSq (pVar 1)) [3] (gNm 3) tNilP (pCall oStr (gCons (pVar 3) gNil))))))))
@[irreducible] def cf__law_row_of : CF := hid (cfOf 2 [false, false] sem__law_row_of)
theorem cf__law_row_of_eq : cf__law_row_of = cfOf 2 [false, false] sem__law_row_of := by unfold cf__law_row_of; rw [hid_eq]
def sem__law_due : SF :=
  (sSeq (sSet 3 (eFn [true, false, false] DCJ.cf__law_done (aPl 0 (aE (eMv 1) (aE (eMv 2) aNil)))))
    (sSeq (sIf (teP (pTest (pOp oNe (pVar 1) (pC (.str "better"))))) (sRet (eP (pC (.str "ok")))) sNil)
    (sSeq (sIf (teP (pTest (pOp oIsN (pVar 3) (pC .non)))) (sRet (eP (pC (.str "still")))) sNil)
    (sRet (eP (pOp oAdd (pOp oAdd (pOp oAdd (pOp oAdd (pCall oStr (gCons (pOp xIx (pVar 3) (pC (.int 0))) gNil)) (pC (.str " "))) (pCall oStr (gCons (pOp xIx (pVar 3) (pC (.int 1))) gNil))) (pC (.str " "))) (pCall oStr (gCons (pOp xIx (pVar 3) (pC (.int 2))) gNil))))))))
@[irreducible] def cf__law_due : CF := hid (cfOf 1 [true, false, false] sem__law_due)
theorem cf__law_due_eq : cf__law_due = cfOf 1 [true, false, false] sem__law_due := by unfold cf__law_due; rw [hid_eq]
end
end DCV

namespace DCV
open PySem PySem.Spec PyProof.Rows L2 DL PA DCB DCG DCF DCJ DCH DCI
variable {n : Nat} {s : KS} {hist : List KS}
theorem number_int {i m : Int} {k : Kd} {Q X} (h : Q (.fl, .bl (decide (0 ≤ i ∧ i ≤ m))) []) : DCF.cf_is_number [(k, .int i), (.fl, .int m)] Q X := by
  rw [DCF.cf_is_number_eq]
  refine ifd (fun c => ?_) fun c => ?_
  · have e : decide (0 ≤ i ∧ i ≤ m) = decide (i ≤ m) := by
      have c : 0 ≤ i := c
      rw [Bool.eq_iff_iff, decide_eq_true_iff, decide_eq_true_iff]
      omega
    rw [e] at h
    exact h
  · have e : decide (0 ≤ i ∧ i ≤ m) = false := decide_eq_false fun z => c z.1
    rw [e] at h
    exact h
theorem job_yesV {n : Nat} {F W C : Nat → Nat → Int} {Q X} (hn1 : 1 ≤ n) (hn : n ≤ 8) (hj : Job n F W C) (h : Q (.fl, .bl true) []) : cf_is_job [(.fl, jobD n F W C)] Q X := by
  rw [cf_is_job_eq]
  refine go_ix rfl rfl ?_
  refine go_ix rfl rfl ?_
  have hL : ((tabl n fun i => D.tup (tabl n fun j => .int (F i j))).length : Int) = n := lenD
  refine ifd (fun _ => ?_) fun c => absurd (by rw [hL]; omega) c
  refine ifdn (fun c => absurd (by rw [hL]; omega) c) fun _ => ?_
  refine go_ix rfl rfl ?_
  have e : ∀ {m : Int} {f : Nat → Nat → Int} {Q X}, Tab n m f → Q (.fl, .bl true) [] → DCF.cf_is_square [(.fl, tabD n f), (.fl, .int ((tabl n fun i => D.tup (tabl n fun j => .int (F i j))).length : Int)), (.fl, .int m)] Q X := fun hf h => by
    rw [hL]; exact square_yes (by omega) hf h
  refine e hj.f ?_
  refine go_ix rfl rfl (e hj.w ?_)
  refine go_ix rfl rfl (e hj.c ?_)
  refine go_R1 (n := n) hL (by omega) ?_
  refine go_Lc0 (fun _ => .bl true) (by omega) (fun i N hi hN => ?_) (go_all h)
  refine go_ix rfl rfl (go_tab hi (go_tab hi ?_))
  refine ifd (fun _ => ?_) fun c => absurd (hj.f0 i hi) c
  refine go_ix rfl rfl (go_tab hi (go_tab hi ?_))
  have := hj.w0 i hi
  show N (some (.fl, .bl (decide (W i i = 0))))
  rw [decide_eq_true this]
  exact hN
theorem initV {s : KS} {Q X} (hs : KOk n s) (h : Q (.fl, .non) [(.ow, kpD n s [])]) : cf_Keeper___init__ [(.ow, .obj "Keeper" [] []), (.fl, jobD n s.F s.W s.C), (.fl, layD n s.p)] Q X := by
  rw [cf_Keeper___init___eq]
  refine job_yesV hs.n1 hs.n8 hs.job ?_
  refine laying_yes hs.n1 hs.n8 hs.perm ?_
  exact go_fldN rfl rfl (go_fldN rfl rfl (go_fldN rfl rfl h))
theorem need_workV {a : Int} {Q X} (hs : KOk n s) (h1 : (0 ≤ a ∧ a < n) → Q (.fl, .non) [(.ow, kpD n s hist)]) (h2 : ¬(0 ≤ a ∧ a < n) → X "NoWork" [(.ow, kpD n s hist)]) : cf_Keeper_need_work [(.ow, kpD n s hist), (.fl, .int a)] Q X := by
  rw [cf_Keeper_need_work_eq]
  refine go_fld rfl rfl ⟨lay_imm, ?_⟩
  have hL : ((tabl n fun i => D.int (s.p i : Nat)).length : Int) = n := lenD
  refine number_int (ifdn (fun c => h2 fun z => c ?_) fun c => h1 ?_)
  · rw [hL]; omega
  · rw [hL] at c; omega
theorem need_twoV {a b : Int} {Q X} (hs : KOk n s) (h1 : (0 ≤ a ∧ a < n) → (0 ≤ b ∧ b < n) → a ≠ b → Q (.fl, .non) [(.ow, kpD n s hist)]) (h2 : ¬((0 ≤ a ∧ a < n) ∧ (0 ≤ b ∧ b < n) ∧ a ≠ b) → X "NoWork" [(.ow, kpD n s hist)]) : cf_Keeper_need_two [(.ow, kpD n s hist), (.fl, .int a), (.fl, .int b)] Q X := by
  rw [cf_Keeper_need_two_eq]
  refine ⟨⟨_, rfl⟩, ⟨_, rfl⟩, need_workV hs (fun ha => ?_) fun ha => h2 fun z => ha z.1⟩
  refine ⟨⟨_, rfl⟩, ⟨_, rfl⟩, need_workV hs (fun hb => ?_) fun hb => h2 fun z => hb z.2.1⟩
  exact ifd (fun c => h2 fun z => z.2.2 c) fun c => h1 ha hb c
theorem need_numberV {i m : Int} {Q X} (h1 : (0 ≤ i ∧ i ≤ m) → Q (.fl, .non) []) (h2 : ¬(0 ≤ i ∧ i ≤ m) → X "NoNumber" []) : cf_need_number [(.fl, .int i), (.fl, .int m)] Q X := by
  rw [cf_need_number_eq]
  exact number_int (ifdn h2 h1)
theorem flowV {a b x : Int} {Q X} (hs : KOk n s) (hl : hist.length < 10000000) (h : ∀ i j : Nat, a = i → b = j → i < n → j < n → i ≠ j → 0 ≤ x → x ≤ 999 → Q (.fl, .non) [(.ow, kpD n { s with F := put s.F i j x } (hist ++ [s]))])
    (hw : ¬((0 ≤ a ∧ a < n) ∧ (0 ≤ b ∧ b < n) ∧ a ≠ b) → X "NoWork" [(.ow, kpD n s hist)]) (hx : ((0 ≤ a ∧ a < n) ∧ (0 ≤ b ∧ b < n) ∧ a ≠ b) → ¬(0 ≤ x ∧ x ≤ 999) → X "NoNumber" [(.ow, kpD n s hist)]) :
    cf_Keeper_flow [(.ow, kpD n s hist), (.fl, .int a), (.fl, .int b), (.fl, .int x)] Q X := by
  rw [cf_Keeper_flow_eq]
  refine ⟨⟨_, rfl⟩, ⟨_, rfl⟩, need_twoV hs (fun ha hb hab => ?_) hw⟩
  refine need_numberV (fun h9 => ?_) fun h9 => hx ⟨ha, hb, hab⟩ h9
  obtain ⟨i, rfl⟩ := Int.eq_ofNat_of_zero_le ha.1
  obtain ⟨j, rfl⟩ := Int.eq_ofNat_of_zero_le hb.1
  have hi : i < n := by omega
  have hj : j < n := by omega
  have hij : i ≠ j := fun z => hab (by rw [z])
  refine ⟨⟨_, rfl⟩, ⟨_, rfl⟩, ?_⟩
  refine go_fld rfl rfl ⟨job_imm, go_ix rfl rfl (with_spec (by have := hs.n8; omega) hi hj ?_)⟩
  refine go_fld rfl rfl ⟨job_imm, go_ix rfl rfl ?_⟩
  refine go_fld rfl rfl ⟨job_imm, go_ix rfl rfl ?_⟩
  refine go_fld rfl rfl ⟨lay_imm, ?_⟩
  exact turn_spec (t := { s with F := put s.F i j x }) hl (h i j rfl rfl hi hj hij h9.1 h9.2)
theorem wayV {a b x : Int} {Q X} (hs : KOk n s) (hl : hist.length < 10000000) (h : ∀ i j : Nat, a = i → b = j → i < n → j < n → i ≠ j → 0 ≤ x → x ≤ 999 → Q (.fl, .non) [(.ow, kpD n { s with W := put s.W i j x } (hist ++ [s]))])
    (hw : ¬((0 ≤ a ∧ a < n) ∧ (0 ≤ b ∧ b < n) ∧ a ≠ b) → X "NoWork" [(.ow, kpD n s hist)]) (hx : ((0 ≤ a ∧ a < n) ∧ (0 ≤ b ∧ b < n) ∧ a ≠ b) → ¬(0 ≤ x ∧ x ≤ 999) → X "NoNumber" [(.ow, kpD n s hist)]) :
    cf_Keeper_way [(.ow, kpD n s hist), (.fl, .int a), (.fl, .int b), (.fl, .int x)] Q X := by
  rw [cf_Keeper_way_eq]
  refine ⟨⟨_, rfl⟩, ⟨_, rfl⟩, need_twoV hs (fun ha hb hab => ?_) hw⟩
  refine need_numberV (fun h9 => ?_) fun h9 => hx ⟨ha, hb, hab⟩ h9
  obtain ⟨i, rfl⟩ := Int.eq_ofNat_of_zero_le ha.1
  obtain ⟨j, rfl⟩ := Int.eq_ofNat_of_zero_le hb.1
  have hi : i < n := by omega
  have hj : j < n := by omega
  have hij : i ≠ j := fun z => hab (by rw [z])
  refine ⟨⟨_, rfl⟩, ⟨_, rfl⟩, ?_⟩
  refine go_fld rfl rfl ⟨job_imm, go_ix rfl rfl ?_⟩
  refine go_fld rfl rfl ⟨job_imm, go_ix rfl rfl (with_spec (by have := hs.n8; omega) hi hj ?_)⟩
  refine go_fld rfl rfl ⟨job_imm, go_ix rfl rfl ?_⟩
  refine go_fld rfl rfl ⟨lay_imm, ?_⟩
  exact turn_spec (t := { s with W := put s.W i j x }) hl (h i j rfl rfl hi hj hij h9.1 h9.2)
theorem chargeV {a b x : Int} {Q X} (hs : KOk n s) (hl : hist.length < 10000000) (h : ∀ i j : Nat, a = i → b = j → i < n → j < n → 0 ≤ x → x ≤ 1000000 → Q (.fl, .non) [(.ow, kpD n { s with C := put s.C i j x } (hist ++ [s]))])
    (hw : ¬((0 ≤ a ∧ a < n) ∧ (0 ≤ b ∧ b < n)) → X "NoWork" [(.ow, kpD n s hist)]) (hx : ((0 ≤ a ∧ a < n) ∧ (0 ≤ b ∧ b < n)) → ¬(0 ≤ x ∧ x ≤ 1000000) → X "NoNumber" [(.ow, kpD n s hist)]) :
    cf_Keeper_charge [(.ow, kpD n s hist), (.fl, .int a), (.fl, .int b), (.fl, .int x)] Q X := by
  rw [cf_Keeper_charge_eq]
  refine ⟨⟨_, rfl⟩, ⟨_, rfl⟩, need_workV hs (fun ha => ?_) fun ha => hw fun z => ha z.1⟩
  refine ⟨⟨_, rfl⟩, ⟨_, rfl⟩, need_workV hs (fun hb => ?_) fun hb => hw fun z => hb z.2⟩
  refine need_numberV (fun h9 => ?_) fun h9 => hx ⟨ha, hb⟩ h9
  obtain ⟨i, rfl⟩ := Int.eq_ofNat_of_zero_le ha.1
  obtain ⟨j, rfl⟩ := Int.eq_ofNat_of_zero_le hb.1
  have hi : i < n := by omega
  have hj : j < n := by omega
  refine ⟨⟨_, rfl⟩, ⟨_, rfl⟩, ?_⟩
  refine go_fld rfl rfl ⟨job_imm, go_ix rfl rfl ?_⟩
  refine go_fld rfl rfl ⟨job_imm, go_ix rfl rfl ?_⟩
  refine go_fld rfl rfl ⟨job_imm, go_ix rfl rfl (with_spec (by have := hs.n8; omega) hi hj ?_)⟩
  refine go_fld rfl rfl ⟨lay_imm, ?_⟩
  exact turn_spec (t := { s with C := put s.C i j x }) hl (h i j rfl rfl hi hj h9.1 h9.2)
theorem swapV {a b : Int} {Q X} (hs : KOk n s) (hl : hist.length < 10000000) (h : ∀ i j : Nat, a = i → b = j → i < n → j < n → Q (.fl, .non) [(.ow, kpD n { s with p := swp s.p i j } (hist ++ [s]))])
    (hw : ¬((0 ≤ a ∧ a < n) ∧ (0 ≤ b ∧ b < n)) → X "NoWork" [(.ow, kpD n s hist)]) : cf_Keeper_swap [(.ow, kpD n s hist), (.fl, .int a), (.fl, .int b)] Q X := by
  rw [cf_Keeper_swap_eq]
  refine ⟨⟨_, rfl⟩, ⟨_, rfl⟩, need_workV hs (fun ha => ?_) fun ha => hw fun z => ha z.1⟩
  refine ⟨⟨_, rfl⟩, ⟨_, rfl⟩, need_workV hs (fun hb => ?_) fun hb => hw fun z => hb z.2⟩
  obtain ⟨i, rfl⟩ := Int.eq_ofNat_of_zero_le ha.1
  obtain ⟨j, rfl⟩ := Int.eq_ofNat_of_zero_le hb.1
  have hi : i < n := by omega
  have hj : j < n := by omega
  refine ⟨⟨_, rfl⟩, ⟨_, rfl⟩, ?_⟩
  refine go_fld rfl rfl ⟨job_imm, ?_⟩
  refine go_fld rfl rfl ⟨lay_imm, exchanged_spec rfl rfl hi hj ?_⟩
  exact turn_spec (t := { s with p := swp s.p i j }) hl (h i j rfl rfl hi hj)
theorem betterV {Q X} (hs : KOk n s) (hl : hist.length < 10000000) (h0 : bestR n s = none → Q (.fl, .non) [(.ow, kpD n s hist)])
    (h1 : ∀ a b t, bestR n s = some (a, b, t) → Q (.fl, .tup [.int a, .int b, .int t]) [(.ow, kpD n { s with p := swp s.p a b } (hist ++ [s]))]) : cf_Keeper_better [(.ow, kpD n s hist)] Q X := by
  rw [cf_Keeper_better_eq]
  have hL : ((tabl n fun i => D.int (s.p i : Nat)).length : Int) = n := lenD
  have hn : n ≤ 1000 := by have := hs.n8; omega
  refine go_fld rfl rfl ⟨lay_imm, ?_⟩
  refine go_R1 (n := n) hL (by omega) ?_
  refine go_For0 (fun i ρ => ∃ b c d, ρ = [some (.ow, kpD n s hist), some (.fl, best3 (bsB n (svF n s) i)), b, c, d]) ⟨none, none, none, rfl⟩ (fun i ρ N hi hI hN => ?_) fun ρ hI => ?_
  · obtain ⟨b, c, d, rfl⟩ := hI
    refine go_fld rfl rfl ⟨lay_imm, ?_⟩
    refine go_R2 (n := n - (i + 1)) (by show ((tabl n fun i => D.int (s.p i : Nat)).length : Int) - (i + 1) = _; rw [tabl_len]; omega) (by show -1000000000000 ≤ (i : Int) + 1 ∧ (i : Int) + 1 ≤ 1000000000000 ∧ -1000000000000 ≤ ((tabl n fun i => D.int (s.p i : Nat)).length : Int) ∧ ((tabl n fun i => D.int (s.p i : Nat)).length : Int) ≤ 1000000000000; rw [tabl_len]; omega) ?_
    refine go_For (fun k ρ => ∃ c d, ρ = [some (.ow, kpD n s hist), some (.fl, best3 (rowB (svF n s) i (bsB n (svF n s) i) k)), some (.fl, .int i), c, d]) ⟨c, d, rfl⟩ (fun k z ρ N hz hI hN => ?_) fun ρ hI => ?_
    · obtain ⟨hk, rfl⟩ := range_get hz
      obtain ⟨c, d, rfl⟩ := hI
      have e1 : (i : Int) + 1 + (k : Nat) = ((i + 1 + k : Nat) : Int) := by omega
      rw [e1]
      have hb : i + 1 + k < n := by omega
      rw [rowB_succ] at hN
      generalize rowB (svF n s) i (bsB n (svF n s) i) k = r at hN ⊢
      refine go_fld rfl rfl ⟨job_imm, go_fld rfl rfl ⟨lay_imm, saved_spec rfl rfl hi hb hs.perm.lt hs.job.f ?_⟩⟩
      have hx : L2.atI (match best3 r with | .tup ds => ds | _ => []) 2 = some (.int (amt r)) ∧ (best3 r).seq = some (match best3 r with | .tup ds => ds | _ => []) := by
        match r with
        | none => exact ⟨rfl, rfl⟩
        | some (a, b, t) => exact ⟨rfl, rfl⟩
      refine go_ix hx.2 hx.1 (ifd (fun g => ?_) fun g => ?_)
      · have es : stepB (svF n s) i r (i + 1 + k) = some (i, i + 1 + k, svF n s i (i + 1 + k)) := if_pos g
        rw [es] at hN
        exact hN _ ⟨_, _, rfl⟩
      · have es : stepB (svF n s) i r (i + 1 + k) = r := if_neg g
        rw [es] at hN
        exact hN _ ⟨_, _, rfl⟩
    · obtain ⟨c, d, rfl⟩ := hI
      rw [range_len, ← bsB_succ]
      exact hN _ ⟨_, _, _, rfl⟩
  · obtain ⟨b, c, d, rfl⟩ := hI
    have hg := good_bs (n := n) (f := svF n s) n (Nat.le_refl n)
    have h0 : bestR n s = none → Q (.fl, .non) [(.ow, kpD n s hist)] := h0
    generalize he : bsB n (svF n s) n = r at hg
    match r, hg, he with
    | none, hg, he =>
      refine go_ix rfl rfl ?_
      exact h0 he
    | some (a, b, t), hg, he =>
      obtain ⟨g1, g2, g3, g4⟩ := hg.ok a b t rfl
      refine go_ix rfl rfl (ifd (fun c => ?_) fun c => ?_)
      · have c : t = 0 := c
        omega
      · refine ⟨⟨_, rfl⟩, ⟨_, rfl⟩, ?_⟩
        refine go_ix rfl rfl (go_ix rfl rfl ?_)
        refine swapV hs hl (fun i j e1 e2 h3 h4 => ?_) fun z => absurd ⟨⟨by omega, by omega⟩, by omega, by omega⟩ z
        have e1 : a = i := Int.ofNat.inj e1
        have e2 : b = j := Int.ofNat.inj e2
        subst e1 e2
        exact h1 a b t he
theorem past_cmp {hist : List KS} {P : Prop} (h : (D.lst (hist.map (stD n))).okE → (D.lst []).okE → P) : P := h
  (cL_okE (cLs_all fun d hd => by
    obtain ⟨t, _, rfl⟩ := List.mem_map.mp hd
    exact stD_cL.1) (Nat.succ_le_succ (Nat.le_trans (hLs_all (c := 10) fun d hd => by
    obtain ⟨t, _, rfl⟩ := List.mem_map.mp hd
    exact stD_cL.2) (by decide)))) (cL_okE rfl (by decide))
theorem backV {Q X} (h0 : hist = [] → X "Nothing" [(.ow, kpD n s [])]) (h : ∀ h1 s0, hist = h1 ++ [s0] → Q (.fl, .non) [(.ow, kpD n s0 h1)]) : cf_Keeper_back [(.ow, kpD n s hist)] Q X := by
  by_cases c : hist = []
  · subst c
    rw [cf_Keeper_back_eq]
    refine go_fld rfl rfl (past_cmp (n := n) (hist := []) fun a b => ⟨a, b, ?_⟩)
    exact h0 rfl
  · obtain ⟨h1, s0, rfl⟩ := last_of c
    rw [cf_Keeper_back_eq]
    refine go_fld rfl rfl (past_cmp (n := n) (hist := h1 ++ [s0]) fun a b => ⟨a, b, ?_⟩)
    have e0 : (h1 ++ [s0]).map (stD n) = h1.map (stD n) ++ [stD n s0] := by rw [List.map_append]; rfl
    have e1 : PyData.eqv (D.lst ((h1 ++ [s0]).map (stD n))).toP (D.lst []).toP = false := by
      cases h1 <;> rfl
    show if PyData.eqv (D.lst ((h1 ++ [s0]).map (stD n))).toP (D.lst []).toP = true then _ else _
    rw [e1]
    refine (show ∀ {p q : Prop}, q → (if false = true then p else q) from fun h => by rw [if_neg (by decide)]; exact h) ?_
    have hg : ((h1 ++ [s0]).map (stD n)).getLast? = some (stD n s0) := by rw [e0, List.getLast?_append]; rfl
    have hd : ((h1 ++ [s0]).map (stD n)).dropLast = h1.map (stD n) := by rw [e0, List.dropLast_concat]
    refine go_fldP rfl rfl ⟨rfl, go_pop (.inr rfl) hg ?_⟩
    rw [hd]
    refine go_two rfl job_imm lay_imm ?_
    exact go_fldS rfl rfl (show 0 < 3 by decide) (go_fldS rfl rfl (show 1 < 3 by decide) (h h1 s0 rfl))
end DCV

namespace DCV
open PySem PySem.Spec PyProof.Rows L2 DL PA DCB DCG DCF DCJ DCH DCI
variable {n : Nat} {s : KS} {hist : List KS}
theorem flat_one {α : Type} {x : α} : ∀ n : Nat, (List.replicate n [x]).flatten = tabl n fun _ => x
  | 0 => rfl
  | n + 1 => by
    rw [List.replicate_succ, List.flatten_cons, flat_one n]
    refine List.ext_getElem? fun i => ?_
    by_cases h : i < n + 1
    · rw [tabl_get h]
      cases i with
      | zero => rfl
      | succ i => exact tabl_get (by omega)
    · rw [List.getElem?_eq_none (by simp; omega), List.getElem?_eq_none (by simp; omega)]
def bareS : KS := ⟨fun _ _ => 0, fun _ _ => 0, fun _ _ => 0, fun i => i⟩
theorem bare_ok (h1 : 1 ≤ n) (h8 : n ≤ 8) : KOk n bareS :=
  ⟨h1, h8, ⟨fun _ _ _ _ => ⟨Int.le_refl 0, (by decide : (0 : Int) ≤ 999)⟩, fun _ _ _ _ => ⟨Int.le_refl 0, (by decide : (0 : Int) ≤ 999)⟩, fun _ _ _ _ => ⟨Int.le_refl 0, (by decide : (0 : Int) ≤ 1000000)⟩, fun _ _ => rfl, fun _ _ => rfl⟩, ⟨fun _ h => h, fun _ _ _ _ h => h⟩⟩
theorem empty_job_spec {a : Int} {Q X} (ha : a = n) (h1 : 1 ≤ n) (h8 : n ≤ 8) (h : Q (.fl, jobD n bareS.F bareS.W bareS.C) []) : cf_empty_job [(.fl, .int a)] Q X := by
  subst ha
  rw [cf_empty_job_eq]
  refine ⟨(fun z => nomatch z), by omega, by omega, by show 1 ≤ 1000; decide, (fun z => nomatch z), by omega, by omega, by show 1 ≤ 1000; decide, ?_⟩
  have e : D.tup (List.replicate (n : Int).toNat [D.tup (List.replicate (n : Int).toNat [D.int 0]).flatten]).flatten = tabD n fun _ _ => 0 := by
    show D.tup (List.replicate n [D.tup (List.replicate n [D.int 0]).flatten]).flatten = _
    rw [flat_one, flat_one]
  show Q (.fl, .tup [.tup (List.replicate (n : Int).toNat [D.tup (List.replicate (n : Int).toNat [D.int 0]).flatten]).flatten, .tup (List.replicate (n : Int).toNat [D.tup (List.replicate (n : Int).toNat [D.int 0]).flatten]).flatten, .tup (List.replicate (n : Int).toNat [D.tup (List.replicate (n : Int).toNat [D.int 0]).flatten]).flatten]) []
  rw [e]
  exact h
theorem lg70 {i : Int} (h : i.natAbs < 10 ^ 70) : i.natAbs.log2 < 1920 := log_le h
theorem strs_go {ns : List Int} {k : Kd} {P : KD → Prop} (hl : ns.length ≤ 1000) (hb : ∀ i ∈ ns, i.natAbs < 10 ^ 70) (f : KD → (Option KD → Prop) → Prop) (hf : ∀ (i : Int) N, i.natAbs < 10 ^ 70 → N (some (.fl, .str (sI i))) → f (.fl, .int i) N) (h : P (.sh, .lst ((ns.map sI).map .str))) : kLc f ((ns.map D.int).map (kel k)) P := by
  have e : ∀ (i : Nat) z, ((ns.map D.int).map (kel k))[i]? = some z → ∃ j, ns[i]? = some j ∧ z = (.fl, .int j) := fun i z hz => by
    rw [List.getElem?_map, List.getElem?_map] at hz
    cases q : ns[i]? with
    | none => rw [q] at hz; cases hz
    | some j => rw [q] at hz; exact ⟨j, rfl, (Option.some.inj hz).symm⟩
  refine go_Lc (fun z => match z.2 with | .int i => .str (sI i) | _ => .non) (by simp; omega) (fun i z N hz hN => ?_) ?_
  · obtain ⟨j, hj, rfl⟩ := e i z hz
    exact hf j N (hb j (List.mem_of_getElem? hj)) hN
  · have e2 : ((ns.map D.int).map (kel k)).map (fun z : KD => match z.2 with | .int i => D.str (sI i) | _ => .non) = (ns.map sI).map .str := by
      rw [List.map_map, List.map_map, List.map_map]
      rfl
    rw [e2]
    exact h
theorem lens {ns : List Int} {y : Str} (hy : y.length ≤ 10) (hl : ns.length ≤ 1000) (hb : ∀ i ∈ ns, i.natAbs < 10 ^ 70) : ((ns.map sI).map (·.length)).sum + (ns.map sI).length * y.length ≤ 16777216 := by
  have h1 : ∀ l : List Int, (∀ i ∈ l, i.natAbs < 10 ^ 70) → ((l.map sI).map (·.length)).sum ≤ l.length * 71 := fun l => by
    induction l with
    | nil => intro _; exact Nat.zero_le _
    | cons a l ih =>
      intro h
      have := sI_len (h a (by simp))
      have := ih fun i hi => h i (by simp [hi])
      simp only [List.map_cons, List.sum_cons, List.length_cons]
      omega
  have h2 := h1 ns hb
  rw [List.length_map]
  have h3 : ns.length * y.length ≤ 1000 * 10 := Nat.mul_le_mul hl hy
  omega
def wordsT (ns : List Int) : Str := Txt.join " " (ns.map sI)
theorem words_of_spec {ns : List Int} {k : Kd} {Q X} (hl : ns.length ≤ 1000) (hb : ∀ i ∈ ns, i.natAbs < 10 ^ 70) (h : Q (.fl, .str (wordsT ns)) []) : cf_words_of [(k, .tup (ns.map .int))] Q X := by
  rw [cf_words_of_eq]
  refine strs_go hl hb _ (fun i N hi hN => ⟨lg70 hi, hN⟩) ?_
  exact ⟨ns.map sI, rfl, lens (by decide) hl hb, h⟩
theorem lay_ns {p : Nat → Nat} : layD n p = .tup ((tabl n fun i => ((p i : Nat) : Int)).map .int) := by
  show D.tup _ = D.tup _
  rw [List.map_map]; rfl
abbrev layT (n : Nat) (s : KS) : Str := wordsT (tabl n fun i => ((s.p i : Nat) : Int))
theorem lay_words {Q X} (hs : KOk n s) (h : Q (.fl, .str (layT n s)) []) : cf_words_of [(.fl, layD n s.p)] Q X := by
  rw [lay_ns]
  refine words_of_spec (by rw [tabl_len]; have := hs.n8; omega) (fun i hi => ?_) h
  obtain ⟨j, hj, rfl⟩ := List.mem_map.mp hi
  have h1 := hs.perm.lt j (List.mem_range.mp hj)
  have h2 := hs.n8
  exact Nat.lt_of_le_of_lt (show ((s.p j : Nat) : Int).natAbs ≤ 8 by omega) (by decide +kernel)
theorem sumR_bound {m : Int} : ∀ {n : Nat} {f : Nat → Int}, (∀ i, i < n → 0 ≤ f i ∧ f i ≤ m) → 0 ≤ sumR n f ∧ sumR n f ≤ n * m
  | 0, _, _ => by rw [sumR_zero]; simp
  | n + 1, f, h => by
    have ih := sumR_bound (n := n) fun i hi => h i (by omega)
    have := h n (by omega)
    rw [sumR_succ]
    have e : ((n + 1 : Nat) : Int) * m = n * m + m := by rw [Int.natCast_add, Int.add_mul]; simp
    rw [e]
    omega
theorem cost_bound (hs : KOk n s) {p : Nat → Nat} (hp : ∀ i, i < n → p i < n) : 0 ≤ costV n s.F s.W s.C p ∧ costV n s.F s.W s.C p ≤ 100000000 := by
  have h8 := hs.n8
  have inner : ∀ i, i < n → 0 ≤ (sumR n fun j => s.F i j * s.W (p i) (p j)) ∧ (sumR n fun j => s.F i j * s.W (p i) (p j)) ≤ 8 * 998001 := fun i hi => by
    have := sumR_bound (n := n) (m := 998001) (f := fun j => s.F i j * s.W (p i) (p j)) fun j hj => by
      have a := hs.job.f i j hi hj
      have b := hs.job.w (p i) (p j) (hp i hi) (hp j hj)
      refine ⟨Int.mul_nonneg a.1 b.1, ?_⟩
      have := Int.mul_le_mul a.2 b.2 b.1 (by omega)
      omega
    omega
  have := sumR_bound (n := n) (m := 1000000 + 8 * 998001) (f := fun i => s.C i (p i) + sumR n fun j => s.F i j * s.W (p i) (p j)) fun i hi => by
    have a := hs.job.c i (p i) hi (hp i hi)
    have b := inner i hi
    omega
  show 0 ≤ (sumR n fun i => s.C i (p i) + sumR n fun j => s.F i j * s.W (p i) (p j)) ∧ (sumR n fun i => s.C i (p i) + sumR n fun j => s.F i j * s.W (p i) (p j)) ≤ 100000000
  omega
theorem small9 {i : Int} (h : i.natAbs ≤ 1000000000) : i.natAbs < 10 ^ 70 := Nat.lt_of_le_of_lt h (by decide +kernel)
theorem sav_bound (hs : KOk n s) {a b : Nat} (ha : a < n) (hb : b < n) : (savV n s.F s.W s.C s.p a b).natAbs ≤ 1000000000 := by
  rw [sav_eq ha hb hs.job.f0]
  have h1 := cost_bound hs hs.perm.lt
  have h2 := cost_bound hs (swp_perm hs.perm ha hb).lt
  omega
abbrev tot (n : Nat) (s : KS) : Int := costV n s.F s.W s.C s.p
theorem tot_small (hs : KOk n s) : (tot n s).natAbs < 10 ^ 70 := small9 (by show (costV n s.F s.W s.C s.p).natAbs ≤ 1000000000; have := cost_bound hs hs.perm.lt; omega)
abbrev dkD (k : D) : D := .obj "Desk" ["keeper"] [k]
theorem dinit_spec {Q X} (h : Q (.fl, .non) [(.ow, dkD .non)]) : cf_Desk___init__ [(.ow, .obj "Desk" [] [])] Q X := by
  rw [cf_Desk___init___eq]
  exact go_fldN rfl rfl h
theorem begin_spec {a : Int} {k0 : D} {Q X} (h : ∀ n : Nat, a = n → 1 ≤ n → n ≤ 8 → Q (.fl, .str "ok") [(.ow, dkD (kpD n bareS []))]) (hx : ¬(1 ≤ a ∧ a ≤ 8) → X "NoRow" [(.ow, dkD k0)]) : cf_Desk_begin [(.ow, dkD k0), (.fl, .int a)] Q X := by
  rw [cf_Desk_begin_eq]
  have go : (1 ≤ a ∧ a ≤ 8) → ∃ n : Nat, a = n ∧ 1 ≤ n ∧ n ≤ 8 := fun c => by
    obtain ⟨n, rfl⟩ := Int.eq_ofNat_of_zero_le (by omega : 0 ≤ a)
    exact ⟨n, rfl, by omega, by omega⟩
  refine ifd (fun c1 => ?_) fun c1 => hx fun z => c1 z.1
  refine ifdn (fun c2 => hx fun z => c2 z.2) fun c2 => ?_
  obtain ⟨n, rfl, h1, h8⟩ := go ⟨c1, c2⟩
  refine empty_job_spec rfl h1 h8 ?_
  refine go_TR rfl (by omega) ?_
  refine ⟨[(.fl, jobD n bareS.F bareS.W bareS.C), (.fl, layD n bareS.p)], rfl, initV (bare_ok h1 h8) ⟨rfl, ?_⟩⟩
  exact go_fldS rfl rfl (show 0 < 1 by decide) (h n rfl h1 h8)
theorem done_total {Q X} (hs : KOk n s) (h : Q (.fl, .str (sI (tot n s))) [(.ow, dkD (kpD n s hist))]) : cf_Desk_done [(.ow, dkD (kpD n s hist)), (.fl, .str "total"), (.sh, .lst [])] Q X := by
  rw [cf_Desk_done_eq]
  exact go_fld rfl rfl ⟨⟨_, rfl⟩, kcost_spec hs ⟨lg70 (tot_small hs), h⟩⟩
theorem done_better {Q X} (hs : KOk n s) (hl : hist.length < 10000000) (h0 : bestR n s = none → Q (.fl, .str "still") [(.ow, dkD (kpD n s hist))])
    (h1 : ∀ (a b : Nat) t, bestR n s = some (a, b, t) → Q (.fl, .str (wordsT [(a : Int), b, t])) [(.ow, dkD (kpD n { s with p := swp s.p a b } (hist ++ [s])))]) : cf_Desk_done [(.ow, dkD (kpD n s hist)), (.fl, .str "better"), (.sh, .lst [])] Q X := by
  rw [cf_Desk_done_eq]
  have hg : GoodB n (svF n s) (bestR n s) := good_bs n (Nat.le_refl n)
  show kNext _ _ [_, _, _, _]
  refine go_next (go_fldP rfl rfl ⟨⟨_, rfl⟩, rfl, ?_⟩)
  refine betterV hs hl (fun e => ?_) fun a b t e => ?_
  · exact ⟨rfl, h0 e⟩
  · have h1 := h1 a b t e
    rw [e] at hg
    obtain ⟨h2, h3, h4, h5⟩ := hg.ok a b t rfl
    refine ⟨rfl, words_of_spec (ns := [(a : Int), b, t]) (show 3 ≤ 1000 by decide) (fun i hi => ?_) h1⟩
    have hb := sav_bound (a := a) (b := b) hs (by omega) h3
    have h8 := hs.n8
    have h4 : t = savV n s.F s.W s.C s.p a b := h4
    rw [← h4] at hb
    simp at hi
    rcases hi with rfl | rfl | rfl
    · exact small9 (by omega)
    · exact small9 (by omega)
    · exact small9 hb
theorem done_flow {a b x : Int} {Q X} (hs : KOk n s) (hl : hist.length < 10000000) (h : ∀ i j : Nat, a = i → b = j → i < n → j < n → i ≠ j → 0 ≤ x → x ≤ 999 → Q (.fl, .str "ok") [(.ow, dkD (kpD n { s with F := put s.F i j x } (hist ++ [s])))])
    (hw : ¬((0 ≤ a ∧ a < n) ∧ (0 ≤ b ∧ b < n) ∧ a ≠ b) → X "NoWork" [(.ow, dkD (kpD n s hist))]) (hx : ((0 ≤ a ∧ a < n) ∧ (0 ≤ b ∧ b < n) ∧ a ≠ b) → ¬(0 ≤ x ∧ x ≤ 999) → X "NoNumber" [(.ow, dkD (kpD n s hist))]) :
    cf_Desk_done [(.ow, dkD (kpD n s hist)), (.fl, .str "flow"), (.sh, .lst [.int a, .int b, .int x])] Q X := by
  rw [cf_Desk_done_eq]
  show kNext _ _ [_, _, _, _]
  refine go_next (go_fldP rfl rfl ⟨⟨_, rfl⟩, rfl, ?_⟩)
  exact go_ix rfl rfl (go_ix rfl rfl (go_ix rfl rfl (flowV hs hl h hw hx)))
theorem done_way {a b x : Int} {Q X} (hs : KOk n s) (hl : hist.length < 10000000) (h : ∀ i j : Nat, a = i → b = j → i < n → j < n → i ≠ j → 0 ≤ x → x ≤ 999 → Q (.fl, .str "ok") [(.ow, dkD (kpD n { s with W := put s.W i j x } (hist ++ [s])))])
    (hw : ¬((0 ≤ a ∧ a < n) ∧ (0 ≤ b ∧ b < n) ∧ a ≠ b) → X "NoWork" [(.ow, dkD (kpD n s hist))]) (hx : ((0 ≤ a ∧ a < n) ∧ (0 ≤ b ∧ b < n) ∧ a ≠ b) → ¬(0 ≤ x ∧ x ≤ 999) → X "NoNumber" [(.ow, dkD (kpD n s hist))]) :
    cf_Desk_done [(.ow, dkD (kpD n s hist)), (.fl, .str "way"), (.sh, .lst [.int a, .int b, .int x])] Q X := by
  rw [cf_Desk_done_eq]
  refine go_fldP rfl rfl ⟨⟨_, rfl⟩, rfl, ?_⟩
  exact go_ix rfl rfl (go_ix rfl rfl (go_ix rfl rfl (wayV hs hl h hw hx)))
theorem done_cost {a b x : Int} {Q X} (hs : KOk n s) (hl : hist.length < 10000000) (h : ∀ i j : Nat, a = i → b = j → i < n → j < n → 0 ≤ x → x ≤ 1000000 → Q (.fl, .str "ok") [(.ow, dkD (kpD n { s with C := put s.C i j x } (hist ++ [s])))])
    (hw : ¬((0 ≤ a ∧ a < n) ∧ (0 ≤ b ∧ b < n)) → X "NoWork" [(.ow, dkD (kpD n s hist))]) (hx : ((0 ≤ a ∧ a < n) ∧ (0 ≤ b ∧ b < n)) → ¬(0 ≤ x ∧ x ≤ 1000000) → X "NoNumber" [(.ow, dkD (kpD n s hist))]) :
    cf_Desk_done [(.ow, dkD (kpD n s hist)), (.fl, .str "cost"), (.sh, .lst [.int a, .int b, .int x])] Q X := by
  rw [cf_Desk_done_eq]
  refine go_fldP rfl rfl ⟨⟨_, rfl⟩, rfl, ?_⟩
  exact go_ix rfl rfl (go_ix rfl rfl (go_ix rfl rfl (chargeV hs hl h hw hx)))
theorem done_swap {a b : Int} {Q X} (hs : KOk n s) (hl : hist.length < 10000000) (h : ∀ i j : Nat, a = i → b = j → i < n → j < n → Q (.fl, .str "ok") [(.ow, dkD (kpD n { s with p := swp s.p i j } (hist ++ [s])))])
    (hw : ¬((0 ≤ a ∧ a < n) ∧ (0 ≤ b ∧ b < n)) → X "NoWork" [(.ow, dkD (kpD n s hist))]) : cf_Desk_done [(.ow, dkD (kpD n s hist)), (.fl, .str "swap"), (.sh, .lst [.int a, .int b])] Q X := by
  rw [cf_Desk_done_eq]
  refine go_fldP rfl rfl ⟨⟨_, rfl⟩, rfl, ?_⟩
  exact go_ix rfl rfl (go_ix rfl rfl (swapV hs hl h hw))
theorem done_back {Q X} (h0 : hist = [] → X "Nothing" [(.ow, dkD (kpD n s []))]) (h : ∀ h1 s0, hist = h1 ++ [s0] → Q (.fl, .str "ok") [(.ow, dkD (kpD n s0 h1))]) : cf_Desk_done [(.ow, dkD (kpD n s hist)), (.fl, .str "back"), (.sh, .lst [])] Q X := by
  rw [cf_Desk_done_eq]
  show kNext _ _ [_, _, _, _]
  refine go_next (go_fldP rfl rfl ⟨⟨_, rfl⟩, rfl, ?_⟩)
  exact backV h0 h
abbrev showT (n : Nat) (s : KS) : Str := Txt.join "," (rowsV n (fsOf s))
theorem nums_of (hs : KOk n s) : Nums n (fsOf s) := ⟨fun k i j hk hi hj => by
  match k, hk with
  | 0, _ => have := hs.job.f i j hi hj; exact ⟨this.1, Int.le_trans this.2 (by decide)⟩
  | 1, _ => have := hs.job.w i j hi hj; exact ⟨this.1, Int.le_trans this.2 (by decide)⟩
  | 2, _ => exact hs.job.c i j hi hj⟩
theorem row_lens (hs : KOk n s) : ((rowsV n (fsOf s)).map (·.length)).sum + (rowsV n (fsOf s)).length * ((",": Str)).length ≤ 16777216 := by
  have h8 := hs.n8
  have hN := nums_of hs
  have hl : (allV n 3 (fsOf s)).length ≤ 3 * (n * n) := all_le
  have hn : n * n ≤ 64 := Nat.mul_le_mul h8 h8
  have each : ∀ t ∈ allV n 3 (fsOf s), t.length ≤ 300 := fun t ht => by
    obtain ⟨q, hq, ht⟩ := List.mem_flatMap.mp ht
    obtain ⟨k, hk, ht⟩ := List.mem_flatMap.mp ht
    obtain ⟨j, hj, ht⟩ := List.mem_flatMap.mp ht
    have hk := List.mem_range.mp hk
    have hj := List.mem_range.mp hj
    unfold cellV at ht
    split at ht
    · cases ht
    · rw [List.mem_singleton.mp ht]
      exact Nat.le_trans (join_len " " _) (cell_go (by omega) (by omega) (hN.b q k j (List.mem_range.mp hq) hk hj))
  have sum : ∀ l : List Str, (∀ t ∈ l, t.length ≤ 300) → (l.map (·.length)).sum ≤ l.length * 300 := fun l => by
    induction l with
    | nil => intro _; exact Nat.zero_le _
    | cons a l ih =>
      intro h
      have := h a (by simp)
      have := ih fun i hi => h i (by simp [hi])
      simp only [List.map_cons, List.sum_cons, List.length_cons]
      omega
  have hs2 := sum _ each
  have hh : (("works " : Str) ++ sI n).length ≤ 300 := by
    have := sI_len (i := (n : Nat)) (Nat.lt_of_le_of_lt (show ((n : Nat) : Int).natAbs ≤ 1000 by omega) (by decide +kernel))
    rw [Str.length_append]
    have e : ("works " : Str).length = 6 := by decide
    omega
  have e1 : ((",": Str)).length = 1 := by decide
  unfold rowsV
  rw [List.map_cons, List.sum_cons, List.length_cons, e1]
  omega
theorem shown_spec {Q X} (hs : KOk n s) (h : Q (.fl, .str (showT n s)) []) : cf__law_shown [(.rd, squaresD n (fsOf s))] Q X := by
  rw [cf__law_shown_eq]
  refine law_rows_spec (by have := hs.n8; omega) (nums_of hs) ?_
  exact ⟨rowsV n (fsOf s), rfl, row_lens hs, h⟩
theorem go_LcO0 {step : KD → (Option KD → Prop) → Prop} {n : Nat} {P : KD → Prop} (f : Nat → D) (h1 : 1 ≤ n) (hn : n ≤ 10000000) (hs : ∀ (i : Nat) (N : Option KD → Prop), i < n → N (some (.ow, f i)) → step (.fl, .int i) N) (h : P (.ow, .lst (tabl n f))) : kLc step (rangeD 0 n) P := by
  unfold kLc; rw [hid_eq]
  refine ⟨by rw [range_len]; exact hn, comp_range0 (fun i => (.ow, f i)) hs ?_⟩
  have hL : jL ((List.range n).map fun i => ((.ow, f i) : KD)) = .ow := jL_ow (fun z hz => by obtain ⟨a, _, rfl⟩ := List.mem_map.mp hz; exact .inr rfl) (by
    intro z
    have := congrArg List.length z
    rw [List.length_map, List.length_range] at this
    exact absurd this (by show ¬ n = 0; omega))
  rw [hL, snd_flm]; exact h
theorem begunL {s : KS} {Q X} (h : Q (.ow, recD n s []) []) : cf__law_begun [(.ow, squaresD n (fsOf s)), (.sh, layL n s.p)] Q X := by
  rw [cf__law_begun_eq]
  exact ⟨rfl, h⟩
theorem bare_spec {a : Int} {Q X} (ha : a = n) (h1 : 1 ≤ n) (h8 : n ≤ 8) (h : Q (.ow, recD n bareS []) []) : cf__law_bare [(.fl, .int a)] Q X := by
  subst ha
  rw [cf__law_bare_eq]
  refine go_R1 (n := 3) (by decide) (by decide) ?_
  refine go_LcO0 (fun k => sqL n fun _ _ => 0) (by decide) (by decide) (fun k N hk hN => ?_) ?_
  · refine go_R1 (n := n) rfl (by omega) ?_
    refine go_LcS0 (fun i => .lst (tabl n fun _ => .int 0)) (by omega) (fun i N hi hN => ?_) ?_
    · refine ⟨by omega, by omega, by show 1 * n ≤ _; omega, ?_⟩
      have e : D.lst (List.replicate (n : Int).toNat [D.int 0]).flatten = .lst (tabl n fun _ => .int 0) := by
        show D.lst (List.replicate n [D.int 0]).flatten = _
        rw [flat_one]
      show N (some (.sh, .lst (List.replicate (n : Int).toNat [D.int 0]).flatten))
      rw [e]
      exact hN
    · rw [kO_ow h1]
      exact hN
  refine go_LR rfl (by omega) ?_
  have e : (tabl 3 fun _ => sqL n fun _ _ => 0) = tabl 3 fun k => sqL n (fsOf bareS k) := tabl_congr fun k hk => by
    match k, hk with
    | 0, _ => rfl
    | 1, _ => rfl
    | 2, _ => rfl
  rw [e]
  exact begunL (s := bareS) h
end DCV

namespace DCW
open PySem PySem.Spec PyProof.Rows L2 DL
noncomputable section
def sem_Desk_told : SF :=
  (sSeq (sSet 2 (eP (pMeth "Keeper" ["now", "laid", "past"] DCF.cf_Keeper_job (pFld "Desk" ["keeper"] 0 (pVar 0)) (fun _ P => P []))))
    (sSeq (sSet 3 (eP (pOp oMul (pTup (gCons (pC .non) gNil)) (pCall oLen (gCons (pOp xIx (pVar 2) (pC (.int 0))) gNil)))))
    (sBar (sSeq (sIf (teP (pTest (pOp oEq (pVar 1) (pC (.str "laying"))))) (sRet (eP (pFn DCV.cf_words_of (gCons (pMeth "Keeper" ["now", "laid", "past"] DCF.cf_Keeper_laying (pFld "Desk" ["keeper"] 0 (pVar 0)) (fun _ P => P [])) gNil)))) sNil)
    (sBar (sSeq (sIf (teP (pTest (pOp oEq (pVar 1) (pC (.str "bound"))))) (fun _ _ => False : SF) sNil)
    (sBar (sSeq (sIf (teP (pTest (pOp oEq (pVar 1) (pC (.str "mean"))))) (fun _ _ => False : SF) sNil)
    (sBar (sSeq (sIf (teP (pTest (pOp oEq (pVar 1) (pC (.str "least"))))) (fun _ _ => False : SF) sNil)
    (sBar (sSeq (sIf (teP (pTest (pOp oEq (pVar 1) (pC (.str "show"))))) (sRet (eP (pJoin (pC (.str ",")) (pFn DCH.cf_rows_of (gCons (pVar 2) gNil))))) sNil)
    (fun _ _ => False : SF)))))))))))))
@[irreducible] def cf_Desk_told : CF := hid (cfOf 5 [true, false] sem_Desk_told)
theorem cf_Desk_told_eq : cf_Desk_told = cfOf 5 [true, false] sem_Desk_told := by unfold cf_Desk_told; rw [hid_eq]
def sem_Desk_say : SF :=
  (sSeq (sIf (teP (tNot (pTest (pIsI .str (pVar 1))))) (sRaise "NoRow") sNil)
    (sSeq (sSet 2 (eP (pSplit (pVar 1) (pC (.str " ")))))
    (sBar (sSeq (sSet 3 (eP (pOp xIx (pVar 2) (pC (.int 0)))))
    (sSeq (sIf (teP (tOr (tAnd (pTest (pOp (oTab "HANDED" [("job", 1), ("flow", 3), ("way", 3), ("cost", 3), ("swap", 2), ("back", 0), ("better", 0), ("total", 0)] true) (pVar 3) (pC (.fn "HANDED")))) (pTest (pOp (oIn true) (pVar 3) (pC (.kst ((["laying", "bound", "mean", "least", "line", "hub", "show"] : List Str).map .str)))))) (pTest (pOp oNe (pCall oLen (gCons (pVar 2) gNil)) (pOp oAdd (pC (.int 1)) (pTabG "HANDED" [("job", 1), ("flow", 3), ("way", 3), ("cost", 3), ("swap", 2), ("back", 0), ("better", 0), ("total", 0)] (pC (.fn "HANDED")) (pVar 3) (pC (.int 0)))))))) (sRaise "NoRow") sNil)
    (sBar (sSeq (sSet 4 (eP (pLcX (iSq (pSl (pVar 2) (oP (pC (.int 1))) oNoP)) [5] (gNm 5) tNilP (pFn DCI.cf_number_in (gCons (pVar 5) gNil)))))
    (sBar (sSeq (sIf (teP (pTest (pOp (oIn false) (pC .non) (pVar 4)))) (sRaise "NoRow") sNil)
    (sBar (sSeq (sIf (teP (pTest (pOp oEq (pVar 3) (pC (.str "job"))))) (sRet (eMeth 0 "Desk" ["keeper"] [true, false] DCV.cf_Desk_begin (aE (eP (pOp xIx (pVar 4) (pC (.int 0)))) aNil))) sNil)
    (sBar (sSeq (sIf (teP (pTest (pOp oIsN (pFld "Desk" ["keeper"] 0 (pVar 0)) (pC .non)))) (sRaise "NoRow") sNil)
    (sBar (sSeq (sIf (teP (pTest (pOp (oIn false) (pVar 3) (pC (.kst ((["laying", "bound", "mean", "least", "line", "hub", "show"] : List Str).map .str)))))) (sRet (eMeth 0 "Desk" ["keeper"] [true, false] cf_Desk_told (aE (eMv 3) aNil))) sNil)
    (sBar (sRet (eMeth 0 "Desk" ["keeper"] [true, false, false] DCV.cf_Desk_done (aE (eMv 3) (aE (eMv 4) aNil))))))))))))))))))))
@[irreducible] def cf_Desk_say : CF := hid (cfOf 4 [true, false] sem_Desk_say)
theorem cf_Desk_say_eq : cf_Desk_say = cfOf 4 [true, false] sem_Desk_say := by unfold cf_Desk_say; rw [hid_eq]
def sem__law_said : SF :=
  (sSeq (sSet 3 (eMeth 0 "Desk" ["keeper"] [true, false] cf_Desk_say (aE (eMv 1) aNil)))
    (sRet (eP (pAndV (pIsI .str (pVar 3)) (pOp oEq (pVar 3) (pVar 2))))))
@[irreducible] def cf__law_said : CF := hid (cfN 1 [true, false, false] sem__law_said)
theorem cf__law_said_eq : cf__law_said = cfN 1 [true, false, false] sem__law_said := by unfold cf__law_said; rw [hid_eq]
def sem__law_looked : SF :=
  (sSeq (sSet 3 (eP (pLst (gCons (pLst (gCons (pC (.str "total")) (gCons (pC (.str "laying")) (gCons (pC (.str "show")) gNil)))) (gCons (pLst (gCons (pC (.str "laying")) (gCons (pC (.str "show")) (gCons (pC (.str "total")) gNil)))) (gCons (pLst (gCons (pC (.str "show")) (gCons (pC (.str "total")) (gCons (pC (.str "laying")) gNil)))) (gCons (pLst (gCons (pC (.str "laying")) gNil)) gNil)))))))
    (sFrz 3 (sSeq (sSet 3 (eR (pOp oAdd (pVar 3) (pLst (gCons (pLst (gCons (pC (.str "show")) gNil)) (gCons (pLst (gCons (pC (.str "total")) gNil)) (gCons (pLst (gCons (pC (.str "laying")) (gCons (pC (.str "total")) gNil))) (gCons (pLst gNil) gNil))))))))
    (sBar (sSeq (sForE (eIxSR 3 (eFn [true, false] DCA.cf__law_dip (aPl 0 (aE (eP (pC (.int 8))) aNil)))) (gNm 4) (sSeq (sSet 5 (eP (pFn DCV.cf__law_shown (gCons (pKey "squares" (pVar 2)) gNil))))
    (sBar (sSeq (sIf (teP (pTest (pOp oEq (pVar 4) (pC (.str "total"))))) (sSet 5 (eP (pCall oStr (gCons (pFn DCJ.cf__law_price (gCons (pKey "squares" (pVar 2)) (gCons (pKey "laying" (pVar 2)) gNil))) gNil)))) sNil)
    (sBar (sSeq (sIf (teP (pTest (pOp oEq (pVar 4) (pC (.str "laying"))))) (sSet 5 (eP (pJoin (pC (.str " ")) (pLcX (iSq (pKey "laying" (pVar 2))) [6] (gNm 6) tNilP (pCall oStr (gCons (pVar 6) gNil)))))) sNil)
    (sBar (sIf (teNot (eTest (eFn [true, false, false] cf__law_said (aPl 1 (aE (eMv 4) (aE (eMv 5) aNil)))))) (sRet (eP (pC (.bl false)))) sNil))))))))
    (sRet (eP (pC (.bl true)))))))))
@[irreducible] def cf__law_looked : CF := hid (cfOf 4 [true, true, false] sem__law_looked)
theorem cf__law_looked_eq : cf__law_looked = cfOf 4 [true, true, false] sem__law_looked := by unfold cf__law_looked; rw [hid_eq]
def sem__law_nothing_to_undo : SF :=
  (sSeq (sSet 1 (eP (pC (.bl false))))
    (sSeq (sTryH ["Nothing"] 2 (sExpr (eMethX 0 "Desk" ["keeper"] [true, false] cf_Desk_say (aE (eP (pC (.str "back"))) aNil))) (sSet 1 (eP (pAndV (pIsX [("Nothing", true)] (pVar 2)) (pIsX [("Nothing", true)] (pVar 2))))))
    (sRet (eMv 1))))
@[irreducible] def cf__law_nothing_to_undo : CF := hid (cfN 2 [true] sem__law_nothing_to_undo)
def sem__law_all_undone : SF :=
  (sSeq (sWhileX (teP (pTest (pOp oNe (pKey "past" (pVar 2)) (pLst gNil)))) (sSeq (sExpr (eFn [true, false, false] DCJ.cf__law_done (aPl 2 (aE (eP (pC (.str "back"))) (aE (eP (pTup gNil)) aNil)))))
    (sBar (sVw 2 (sIf (teOr (teNot (eTest (eFn [true, false, false] cf__law_said (aPl 1 (aE (eP (pC (.str "back"))) (aE (eP (pC (.str "ok"))) aNil)))))) (teNot (eTest (eFn [true, true, false] cf__law_looked (aPl 0 (aPl 1 (aE (eMv 2) aNil))))))) (sRet (eP (pC (.bl false)))) sNil)))))
    (sSeq (sForX (jR1 (gCons (pC (.int 2)) gNil)) (gNm 3) (sVw 2 (sIf (teOr (teNot (eTest (eFn [true] cf__law_nothing_to_undo (aPl 1 aNil)))) (teNot (eTest (eFn [true, true, false] cf__law_looked (aPl 0 (aPl 1 (aE (eMv 2) aNil))))))) (sRet (eP (pC (.bl false)))) sNil)))
    (sRet (eP (pC (.bl true))))))
@[irreducible] def cf__law_all_undone : CF := hid (cfOf 1 [true, true, true] sem__law_all_undone)
end
end DCW

namespace DCW
open PySem PySem.Spec PyProof.Rows L2 DL PA DCB DCG DCF DCJ DCH DCI DCV
open TL (tl numL)
open DCA (Bag dip_spec dip_specN)
variable {n : Nat} {s : KS} {hist : List KS}
noncomputable section
abbrev sy6 : SF := (sRet (eMeth 0 "Desk" ["keeper"] [true, false, false] DCV.cf_Desk_done (aE (eMv 3) (aE (eMv 4) aNil))))
abbrev sy5 : SF := (sSeq (sIf (teP (pTest (pOp (oIn false) (pVar 3) (pC (.kst ((["laying", "bound", "mean", "least", "line", "hub", "show"] : List Str).map .str)))))) (sRet (eMeth 0 "Desk" ["keeper"] [true, false] cf_Desk_told (aE (eMv 3) aNil))) sNil) (sBar sy6))
abbrev sy4 : SF := (sSeq (sIf (teP (pTest (pOp oIsN (pFld "Desk" ["keeper"] 0 (pVar 0)) (pC .non)))) (sRaise "NoRow") sNil) (sBar sy5))
abbrev sy3 : SF := (sSeq (sIf (teP (pTest (pOp oEq (pVar 3) (pC (.str "job"))))) (sRet (eMeth 0 "Desk" ["keeper"] [true, false] DCV.cf_Desk_begin (aE (eP (pOp xIx (pVar 4) (pC (.int 0)))) aNil))) sNil) (sBar sy4))
abbrev sy2 : SF := (sSeq (sIf (teP (pTest (pOp (oIn false) (pC .non) (pVar 4)))) (sRaise "NoRow") sNil) (sBar sy3))
abbrev sy1 : SF := (sSeq (sSet 4 (eP (pLcX (iSq (pSl (pVar 2) (oP (pC (.int 1))) oNoP)) [5] (gNm 5) tNilP (pFn DCI.cf_number_in (gCons (pVar 5) gNil))))) (sBar sy2))
abbrev ty4 : SF := (sSeq (sIf (teP (pTest (pOp oEq (pVar 1) (pC (.str "show"))))) (sRet (eP (pJoin (pC (.str ",")) (pFn DCH.cf_rows_of (gCons (pVar 2) gNil))))) sNil) (fun _ _ => False : SF))
abbrev ty3 : SF := (sSeq (sIf (teP (pTest (pOp oEq (pVar 1) (pC (.str "least"))))) (fun _ _ => False : SF) sNil) (sBar ty4))
abbrev ty2 : SF := (sSeq (sIf (teP (pTest (pOp oEq (pVar 1) (pC (.str "mean"))))) (fun _ _ => False : SF) sNil) (sBar ty3))
abbrev ty1 : SF := (sSeq (sIf (teP (pTest (pOp oEq (pVar 1) (pC (.str "bound"))))) (fun _ _ => False : SF) sNil) (sBar ty2))
abbrev ty0 : SF := (sSeq (sIf (teP (pTest (pOp oEq (pVar 1) (pC (.str "laying"))))) (sRet (eP (pFn DCV.cf_words_of (gCons (pMeth "Keeper" ["now", "laid", "past"] DCF.cf_Keeper_laying (pFld "Desk" ["keeper"] 0 (pVar 0)) (fun _ P => P [])) gNil)))) sNil) (sBar ty1))
end
abbrev ends (ms : List Bool) (Q : KD → List KD → Prop) (X : Str → List KD → Prop) : DEnds :=
  { nx := fun ρ => match mutsOf ms ρ with | some ys => Q (.fl, .non) ys | none => False
    rt := fun z ρ => match mutsOf ms ρ with | some ys => Q z ys | none => False
    ex := fun C ρ => match mutsOf ms ρ with | some ys => X C ys | none => False }
abbrev HD : List (Str × Int) := [("job", 1), ("flow", 3), ("way", 3), ("cost", 3), ("swap", 2), ("back", 0), ("better", 0), ("total", 0)]
abbrev AK : List Str := ["laying", "bound", "mean", "least", "line", "hub", "show"]
theorem number_in7 {k : Kd} {n : Nat} {Q X} (hn : n < 10000000) (h : Q (.fl, .int n) []) : DCI.cf_number_in [(k, .str (sI n))] Q X := by
  rw [DCI.cf_number_in_eq]
  have l7 : (numL n).length ≤ 7 := TL.numL_len (by decide) (Nat.lt_of_lt_of_le hn (by decide))
  have l1 : 1 ≤ (numL n).length := by
    have := TL.numL_ne n
    cases e : numL n with
    | nil => exact absurd e this
    | cons a l => exact Nat.succ_le_succ (Nat.zero_le _)
  have hl : (sI n).length ≤ 10000000 := by rw [len_sI]; omega
  have ecps : (sI n).cps.toList = numL n := tl_sI n
  have hL : ((sI n).length : Int) = (numL n).length := by rw [len_sI]
  refine ⟨hl, ifd (fun _ => ?_) fun c => absurd (by rw [hL]; omega) c⟩
  refine ifdn (fun c => absurd (by show ((sI n).length : Int) ≤ 7; rw [hL]; omega) c) fun _ => ?_
  refine go_Lc (fun _ => .bl true) (by unfold signsD; rw [List.length_map, ecps]; omega) (fun i z N hz hN => ?_) ?_
  · unfold signsD at hz
    rw [List.getElem?_map, ecps] at hz
    cases e : (numL n)[i]? with
    | none => rw [e] at hz; cases hz
    | some c =>
      rw [e] at hz
      cases hz
      have hc := TL.numL_digits n c (List.mem_of_getElem? e)
      have hf := fig_in hc.1 hc.2
      have hN' : N (some (.fl, .bl (!(Builtin.Str.occurrences ("0123456789" : Str) ⟨#[c]⟩ 0 ("0123456789" : Str).length 1).isEmpty))) := by rw [hf]; exact hN
      exact hN'
  refine ⟨(signsD (sI n)).map fun _ => true, by rw [List.map_map]; rfl, ?_⟩
  have ea : ∀ l : List KD, (l.map fun _ => true).all id = true := fun l => by
    induction l with
    | nil => rfl
    | cons a l ih => exact ih
  refine if_ne (ea _) ?_
  have ei : PySem.intText? (sI n) = some (n : Int) := TL.int_num (by omega)
  have fin : ∃ m, PySem.intText? (sI n) = some m ∧ (sI n).length ≤ 640 ∧ Q (.fl, .int m) [] := ⟨_, ei, by rw [len_sI]; omega, h⟩
  rcases Nat.eq_zero_or_pos n with e | e
  · subst e
    refine go_ixS (c := 48) hl (atI_nat (j := 0) (show (sI ((0 : Nat) : Int)).cps.toList[0]? = some 48 from by rw [ecps]; rfl)) ?_
    exact fin
  · obtain ⟨c, r, e1, hc⟩ := numL_head n e
    refine go_ixS (c := c) hl (atI_nat (j := 0) (show (sI (n : Int)).cps.toList[0]? = some c from by rw [ecps, e1]; rfl)) ?_
    refine ifd (fun z => ?_) fun _ => fin
    have z2 := congrArg (fun x : Str => x.cps.toList) z
    have z3 : [c] = [48] := z2
    exact absurd (List.cons.inj z3).1 hc
abbrev rwW (w : Str) (ns : List Nat) : List Str := w :: ns.map fun m : Nat => sI m
abbrev rwT (w : Str) (ns : List Nat) : Str := Txt.join " " (rwW w ns)
theorem rw_split {w : Str} {ns : List Nat} (hw : 32 ∉ tl w) : Txt.split (rwT w ns) " " = rwW w ns :=
  TL.split_join (s := 32) (S := []) rfl (by decide +kernel) (by simp) fun p hp => by
    rcases List.mem_cons.mp hp with e | hp
    · rw [e]; exact hw
    · obtain ⟨m, _, rfl⟩ := List.mem_map.mp hp
      exact sI_free (.inl (by omega))
theorem rw_len {w : Str} {ns : List Nat} (hw : w.length ≤ 100) (hl : ns.length ≤ 10) (hb : ∀ m ∈ ns, m < 10000000) : (rwT w ns).length ≤ 2000 := by
  refine Nat.le_trans (join_len " " _) ?_
  have h1 : ∀ l : List Nat, (∀ i ∈ l, i < 10000000) → ((l.map fun m : Nat => sI m).map (·.length)).sum ≤ l.length * 71 := fun l => by
    induction l with
    | nil => intro _; exact Nat.zero_le _
    | cons a l ih =>
      intro h
      have := sI_len (i := (a : Nat)) (Nat.lt_of_le_of_lt (show ((a : Nat) : Int).natAbs ≤ 10000000 by have := h a (by simp); omega) (by decide +kernel))
      have := ih fun i hi => h i (by simp [hi])
      simp only [List.map_cons, List.sum_cons, List.length_cons]
      omega
  have h2 := h1 ns hb
  have e1 : ((" " : Str)).length = 1 := by decide
  simp only [List.map_cons, List.sum_cons, List.length_cons, List.length_map, e1]
  omega
structure Row (w : Str) (ns : List Nat) : Prop where
  free : 32 ∉ tl w
  len : w.length ≤ 100
  known : (HD.lookup w).isSome = true ∨ inD (.str w) (AK.map .str) = true
  many : (ns.length : Int) = (HD.lookup w).getD 0
  few : ns.length ≤ 10
  small : ∀ m ∈ ns, m < 10000000
abbrev intsL (ns : List Nat) : D := .lst (ns.map fun m : Nat => .int m)
theorem say_row {w : Str} {ns : List Nat} {k0 : D} {Q X} (r : Row w ns)
    (h : ∀ x5, sy3 (ends [true, false] Q X) [some (.ow, dkD k0), some (.fl, .str (rwT w ns)), some (.sh, .lst ((rwW w ns).map .str)), some (.fl, .str w), some (.sh, intsL ns), x5]) : cf_Desk_say [(.ow, dkD k0), (.fl, .str (rwT w ns))] Q X := by
  rw [cf_Desk_say_eq]
  have hl := rw_len r.len r.few r.small
  refine ⟨rfl, by omega, ?_⟩
  rw [rw_split r.free]
  refine go_next (go_ix rfl (atI_nat (j := 0) rfl) ?_)
  have tail : kNext sy1 (ends [true, false] Q X) [some (.ow, dkD k0), some (.fl, .str (rwT w ns)), some (.sh, .lst ((rwW w ns).map .str)), some (.fl, .str w), none, none] := by
    refine go_next ?_
    have ec : DL.cutD ((rwW w ns).map D.str) (some 1) none = ns.map fun m : Nat => D.str (sI m) := by
      show DL.cutD (D.str w :: (ns.map fun m : Nat => sI m).map D.str) (some 1) none = _
      rw [cut1, List.map_map]; rfl
    show pLcX (iSq (pSl (pVar 2) (oP (pC (.int 1))) oNoP)) [5] (gNm 5) tNilP (pFn DCI.cf_number_in (DL.gCons (pVar 5) DL.gNil)) [some (.ow, dkD k0), some (.fl, .str (rwT w ns)), some (.sh, .lst ((rwW w ns).map .str)), some (.fl, .str w), none, none] _
    show kLc _ ((DL.cutD ((rwW w ns).map D.str) (some 1) none).map (kel .sh)) _
    rw [ec]
    refine go_LcL (L := ns) (G := fun m : Nat => D.str (sI m)) (k := .sh) (fun m : Nat => .int m) (by have := r.few; omega) (fun i m N hm hN => ?_) ?_
    · exact number_in7 (r.small m (List.mem_of_getElem? hm)) hN
    show kNext sy2 (ends [true, false] Q X) [some (.ow, dkD k0), some (.fl, .str (rwT w ns)), some (.sh, .lst ((rwW w ns).map .str)), some (.fl, .str w), some (.sh, intsL ns), none]
    refine go_next ⟨rfl, ?_, ?_⟩
    · rw [List.all_eq_true]
      intro d hd
      obtain ⟨m, _, rfl⟩ := List.mem_map.mp hd
      rfl
    · have e : inD .non (ns.map fun m : Nat => D.int m) = false := by
        unfold inD
        rw [List.any_eq_false]
        intro d hd
        obtain ⟨m, _, rfl⟩ := List.mem_map.mp hd
        exact fun z => nomatch z
      show if inD .non (ns.map fun m : Nat => D.int m) = true then _ else _
      rw [e]
      show kNext sy3 (ends [true, false] Q X) [some (.ow, dkD k0), some (.fl, .str (rwT w ns)), some (.sh, .lst ((rwW w ns).map .str)), some (.fl, .str w), some (.sh, intsL ns), none]
      exact go_next (h _)
  have hlen : (((rwW w ns).map D.str).length : Int) = 1 + (HD.lookup w).getD 0 := by
    rw [List.length_map, List.length_cons, List.length_map, ← r.many]
    omega
  have e1 : ∀ {p q : Prop} {b : Bool}, b = false → q → (if b = true then p else q) := fun {p q b} e h => by rw [e]; exact h
  refine ⟨rfl, ifb (fun e => ?_) fun e => ?_⟩
  · have hk : inD (.str w) (AK.map .str) = true := r.known.resolve_left fun z => by
      have e : (!(HD.lookup w).isSome) = true := e
      rw [z] at e; cases e
    refine ⟨rfl, rfl, e1 (show (!inD (.str w) (AK.map .str)) = false by rw [hk]; rfl) ?_⟩
    exact ⟨rfl, ifdn (fun c => absurd hlen c) fun _ => tail⟩
  · exact ⟨rfl, ifdn (fun c => absurd hlen c) fun _ => tail⟩
theorem rw_ok3 {a b x : Nat} (ha : a < 10000000) (hb : b < 10000000) (hx : x < 10000000) : ∀ m ∈ [a, b, x], m < 10000000 := fun m hm => by
  simp at hm
  rcases hm with rfl | rfl | rfl <;> assumption
theorem rw_ok2 {a b : Nat} (ha : a < 10000000) (hb : b < 10000000) : ∀ m ∈ [a, b], m < 10000000 := fun m hm => by
  simp at hm
  rcases hm with rfl | rfl <;> assumption
theorem rw_ok1 {a : Nat} (ha : a < 10000000) : ∀ m ∈ [a], m < 10000000 := fun m hm => by
  simp at hm
  rw [hm]; exact ha
theorem rw_ok0 : ∀ m ∈ ([] : List Nat), m < 10000000 := fun m hm => nomatch hm
theorem row_flow {a b x : Nat} (ha : a < 10000000) (hb : b < 10000000) (hx : x < 10000000) : Row "flow" [a, b, x] := ⟨by decide, by decide, .inl rfl, rfl, show 3 ≤ 10 by decide, rw_ok3 ha hb hx⟩
theorem row_way {a b x : Nat} (ha : a < 10000000) (hb : b < 10000000) (hx : x < 10000000) : Row "way" [a, b, x] := ⟨by decide, by decide, .inl rfl, rfl, show 3 ≤ 10 by decide, rw_ok3 ha hb hx⟩
theorem row_cost {a b x : Nat} (ha : a < 10000000) (hb : b < 10000000) (hx : x < 10000000) : Row "cost" [a, b, x] := ⟨by decide, by decide, .inl rfl, rfl, show 3 ≤ 10 by decide, rw_ok3 ha hb hx⟩
theorem row_swap {a b : Nat} (ha : a < 10000000) (hb : b < 10000000) : Row "swap" [a, b] := ⟨by decide, by decide, .inl rfl, rfl, show 2 ≤ 10 by decide, rw_ok2 ha hb⟩
theorem row_job {a : Nat} (ha : a < 10000000) : Row "job" [a] := ⟨by decide, by decide, .inl rfl, rfl, show 1 ≤ 10 by decide, rw_ok1 ha⟩
theorem row_back : Row "back" [] := ⟨by decide, by decide, .inl rfl, rfl, show 0 ≤ 10 by decide, rw_ok0⟩
theorem row_better : Row "better" [] := ⟨by decide, by decide, .inl rfl, rfl, show 0 ≤ 10 by decide, rw_ok0⟩
theorem row_total : Row "total" [] := ⟨by decide, by decide, .inl rfl, rfl, show 0 ≤ 10 by decide, rw_ok0⟩
theorem row_laying : Row "laying" [] := ⟨by decide, by decide, .inr (by decide +kernel), rfl, show 0 ≤ 10 by decide, rw_ok0⟩
theorem row_show : Row "show" [] := ⟨by decide, by decide, .inr (by decide +kernel), rfl, show 0 ≤ 10 by decide, rw_ok0⟩
theorem say_job {a : Nat} {k0 : D} {Q X} (ha : a < 10000000) (h : 1 ≤ a → a ≤ 8 → Q (.fl, .str "ok") [(.ow, dkD (kpD a bareS []))]) (hx : ¬(1 ≤ a ∧ a ≤ 8) → X "NoRow" [(.ow, dkD k0)]) : cf_Desk_say [(.ow, dkD k0), (.fl, .str (rwT "job" [a]))] Q X := by
  refine say_row (row_job ha) fun _ => ?_
  refine ⟨⟨_, rfl⟩, ⟨_, rfl⟩, go_ix rfl rfl (begin_spec (fun n e h1 h8 => ?_) fun c => hx fun z => c ⟨by omega, by omega⟩)⟩
  have e : a = n := Int.ofNat.inj e
  subst e
  exact h h1 h8
theorem say_none {w : Str} {ns : List Nat} {Q X} (r : Row w ns) (hw : w ≠ "job") (hx : X "NoRow" [(.ow, dkD .non)]) : cf_Desk_say [(.ow, dkD .non), (.fl, .str (rwT w ns))] Q X := by
  refine say_row r fun _ => ifd (fun c => absurd c hw) fun _ => ?_
  exact go_next (go_fld rfl rfl ⟨rfl, hx⟩)
theorem say_deed {w : Str} {ns : List Nat} {Q X} (r : Row w ns) (hw : w ≠ "job") (ha : inD (.str w) (AK.map .str) = false) (h : ∀ (Q' : KD → List KD → Prop) (X' : Str → List KD → Prop), (∀ z k, Q z [k] → Q' z [k]) → (∀ C k, X C [k] → X' C [k]) → DCV.cf_Desk_done [(.ow, dkD (kpD n s hist)), (.fl, .str w), (.sh, intsL ns)] Q' X') : cf_Desk_say [(.ow, dkD (kpD n s hist)), (.fl, .str (rwT w ns))] Q X := by
  refine say_row r fun _ => ifd (fun c => absurd c hw) fun _ => ?_
  refine go_next (go_fld rfl rfl ⟨rfl, ?_⟩)
  refine go_next ⟨rfl, rfl, ?_⟩
  show if inD (.str w) (AK.map .str) = true then _ else _
  rw [ha]
  exact go_next ⟨⟨_, rfl⟩, ⟨_, rfl⟩, h _ _ (fun _ _ q => q) fun _ _ q => q⟩
theorem say_told {w : Str} {Q X} (r : Row w []) (hw : w ≠ "job") (ha : inD (.str w) (AK.map .str) = true) (h : ∀ (Q' : KD → List KD → Prop) (X' : Str → List KD → Prop), (∀ z k, Q z [k] → Q' z [k]) → (∀ C k, X C [k] → X' C [k]) → cf_Desk_told [(.ow, dkD (kpD n s hist)), (.fl, .str w)] Q' X') : cf_Desk_say [(.ow, dkD (kpD n s hist)), (.fl, .str (rwT w []))] Q X := by
  refine say_row r fun _ => ifd (fun c => absurd c hw) fun _ => ?_
  refine go_next (go_fld rfl rfl ⟨rfl, ?_⟩)
  refine go_next ⟨rfl, rfl, ?_⟩
  show if inD (.str w) (AK.map .str) = true then _ else _
  rw [ha]
  exact ⟨⟨_, rfl⟩, ⟨_, rfl⟩, h _ _ (fun _ _ q => q) fun _ _ q => q⟩
theorem freeT {n : Nat} : (List.replicate (n : Int).toNat [D.non]).flatten = tabl n fun _ => D.non := flat_one n
theorem told_go {w : Str} {Q X} (hs : KOk n s) (h : ∀ x4 x5 x6, ty0 (ends [true, false] Q X) [some (.ow, dkD (kpD n s hist)), some (.fl, .str w), some (.fl, jobD n s.F s.W s.C), some (.fl, .tup (tabl n fun _ => .non)), x4, x5, x6]) : cf_Desk_told [(.ow, dkD (kpD n s hist)), (.fl, .str w)] Q X := by
  rw [cf_Desk_told_eq]
  have hL : ((tabl n fun i => D.tup (tabl n fun j => .int (s.F i j))).length : Int) = n := lenD
  refine go_fld rfl rfl ⟨⟨_, rfl⟩, kjob_spec ?_⟩
  refine go_ix rfl rfl ⟨(fun z => nomatch z), ?_, ?_, (show 1 ≤ 1000 by decide), ?_⟩
  · rw [hL]; have := hs.n1; omega
  · rw [hL]; have := hs.n8; omega
  · show kNext ty0 (ends [true, false] Q X) [some (.ow, dkD (kpD n s hist)), some (.fl, .str w), some (.fl, jobD n s.F s.W s.C), some (.fl, .tup (List.replicate ((tabl n fun i => D.tup (tabl n fun j => .int (s.F i j))).length : Int).toNat [D.non]).flatten), none, none, none]
    rw [hL, freeT]
    exact go_next (h _ _ _)
theorem told_laying {Q X} (hs : KOk n s) (h : Q (.fl, .str (layT n s)) [(.ow, dkD (kpD n s hist))]) : cf_Desk_told [(.ow, dkD (kpD n s hist)), (.fl, .str "laying")] Q X := by
  refine told_go hs fun _ _ _ => ?_
  exact go_fld rfl rfl ⟨⟨_, rfl⟩, klaying_spec (lay_words hs h)⟩
theorem told_show {Q X} (hs : KOk n s) (h : Q (.fl, .str (showT n s)) [(.ow, dkD (kpD n s hist))]) : cf_Desk_told [(.ow, dkD (kpD n s hist)), (.fl, .str "show")] Q X := by
  refine told_go hs fun _ _ _ => ?_
  refine go_next (go_next (go_next (go_next ?_)))
  exact rows_of_spec (Fs := fsOf s) (by have := hs.n8; omega) (nums_of hs) ⟨rowsV n (fsOf s), rfl, row_lens hs, h⟩
end DCW

namespace DCW
open PySem PySem.Spec PyProof.Rows L2 DL PA DCB DCG DCF DCJ DCH DCI DCV
open TL (tl numL)
open DCA (Bag dip_spec dip_specN)
variable {n : Nat} {s : KS} {hist : List KS}
noncomputable section
abbrev ly3 : SF := (sIf (teNot (eTest (eFn [true, false, false] cf__law_said (aPl 1 (aE (eMv 4) (aE (eMv 5) aNil)))))) (sRet (eP (pC (.bl false)))) sNil)
abbrev ly2 : SF := (sSeq (sIf (teP (pTest (pOp oEq (pVar 4) (pC (.str "laying"))))) (sSet 5 (eP (pJoin (pC (.str " ")) (pLcX (iSq (pKey "laying" (pVar 2))) [6] (gNm 6) tNilP (pCall oStr (gCons (pVar 6) gNil)))))) sNil) (sBar ly3))
abbrev ly1 : SF := (sSeq (sIf (teP (pTest (pOp oEq (pVar 4) (pC (.str "total"))))) (sSet 5 (eP (pCall oStr (gCons (pFn DCJ.cf__law_price (gCons (pKey "squares" (pVar 2)) (gCons (pKey "laying" (pVar 2)) gNil))) gNil)))) sNil) (sBar ly2))
abbrev ly0 : SF := (sSeq (sForE (eIxSR 3 (eFn [true, false] DCA.cf__law_dip (aPl 0 (aE (eP (pC (.int 8))) aNil)))) (gNm 4) (sSeq (sSet 5 (eP (pFn DCV.cf__law_shown (gCons (pKey "squares" (pVar 2)) gNil)))) (sBar ly1))) (sRet (eP (pC (.bl true)))))
end
def rowD : Deed → Str
  | .flow a b x => rwT "flow" [a, b, x.toNat]
  | .way a b x => rwT "way" [a, b, x.toNat]
  | .charge a b x => rwT "cost" [a, b, x.toNat]
  | .swap a b => rwT "swap" [a, b]
  | .better => rwT "better" []
  | .back => rwT "back" []
def dueT (n : Nat) (s : KS) : Deed → Str
  | .better => match bestR n s with
    | none => "still"
    | some (a, b, t) => wordsT [(a : Int), b, t]
  | _ => "ok"
theorem deed_say {d : Deed} {Q X} (hs : KOk n s) (hl : hist.length < 10000000) (hd : d.Ok n hist) (h : Q (.fl, .str (dueT n s d)) [(.ow, dkD (kpD n (d.next n s hist).1 (d.next n s hist).2))]) : cf_Desk_say [(.ow, dkD (kpD n s hist)), (.fl, .str (rowD d))] Q X := by
  have h8 := hs.n8
  cases d with
  | flow a b x =>
    obtain ⟨ha, hb, hab, h0, h1⟩ := hd
    obtain ⟨y, rfl⟩ := Int.eq_ofNat_of_zero_le h0
    refine say_deed (row_flow (by omega) (by omega) (by omega)) (by decide) (by decide +kernel) fun Q' X' hQ hX => ?_
    refine done_flow (a := a) (b := b) (x := y) hs hl (fun i j e1 e2 _ _ _ _ _ => hQ _ _ ?_) (fun z => absurd ⟨⟨by omega, by omega⟩, ⟨by omega, by omega⟩, fun e => hab (Int.ofNat.inj e)⟩ z) fun _ z => absurd ⟨h0, h1⟩ z
    cases Int.ofNat.inj e1
    cases Int.ofNat.inj e2
    exact h
  | way a b x =>
    obtain ⟨ha, hb, hab, h0, h1⟩ := hd
    obtain ⟨y, rfl⟩ := Int.eq_ofNat_of_zero_le h0
    refine say_deed (row_way (by omega) (by omega) (by omega)) (by decide) (by decide +kernel) fun Q' X' hQ hX => ?_
    refine done_way (a := a) (b := b) (x := y) hs hl (fun i j e1 e2 _ _ _ _ _ => hQ _ _ ?_) (fun z => absurd ⟨⟨by omega, by omega⟩, ⟨by omega, by omega⟩, fun e => hab (Int.ofNat.inj e)⟩ z) fun _ z => absurd ⟨h0, h1⟩ z
    cases Int.ofNat.inj e1
    cases Int.ofNat.inj e2
    exact h
  | charge a b x =>
    obtain ⟨ha, hb, h0, h1⟩ := hd
    obtain ⟨y, rfl⟩ := Int.eq_ofNat_of_zero_le h0
    refine say_deed (row_cost (by omega) (by omega) (by omega)) (by decide) (by decide +kernel) fun Q' X' hQ hX => ?_
    refine done_cost (a := a) (b := b) (x := y) hs hl (fun i j e1 e2 _ _ _ _ => hQ _ _ ?_) (fun z => absurd ⟨⟨by omega, by omega⟩, ⟨by omega, by omega⟩⟩ z) fun _ z => absurd ⟨h0, h1⟩ z
    cases Int.ofNat.inj e1
    cases Int.ofNat.inj e2
    exact h
  | swap a b =>
    obtain ⟨ha, hb⟩ := hd
    refine say_deed (row_swap (by omega) (by omega)) (by decide) (by decide +kernel) fun Q' X' hQ hX => ?_
    refine done_swap (a := a) (b := b) hs hl (fun i j e1 e2 _ _ => hQ _ _ ?_) (fun z => absurd ⟨⟨by omega, by omega⟩, ⟨by omega, by omega⟩⟩ z)
    cases Int.ofNat.inj e1
    cases Int.ofNat.inj e2
    exact h
  | better =>
    unfold Deed.next dueT at h
    refine say_deed row_better (by decide) (by decide +kernel) fun Q' X' hQ hX => ?_
    refine done_better hs hl (fun e => hQ _ _ ?_) fun a b t e => hQ _ _ ?_
    · rw [e] at h; exact h
    · rw [e] at h; exact h
  | back =>
    obtain ⟨h0, s0, rfl⟩ := last_of hd
    refine say_deed row_back (by decide) (by decide +kernel) fun Q' X' hQ hX => ?_
    refine done_back (fun e => absurd e (by simp)) fun h1 s1 e => hQ _ _ ?_
    obtain ⟨e1, e2⟩ := List.append_inj' e rfl
    cases e1
    cases e2
    have h2 : Q (.fl, .str "ok") [(.ow, dkD (kpD n ((h0 ++ [s0]).getLast?.getD s) (h0 ++ [s0]).dropLast))] := h
    rw [List.dropLast_concat, List.getLast?_append] at h2
    exact h2
theorem row_of_spec {d : Deed} {Q X} (hs : KOk n s) (hd : d.Ok n hist) (h : Q (.fl, .str (rowD d)) []) : DCV.cf__law_row_of [(.fl, .str d.word), (.fl, d.handed)] Q X := by
  have h8 := hs.n8
  rw [DCV.cf__law_row_of_eq]
  have go : ∀ {w w2 : Str} {ns : List Nat} {De : DEnds} {x3 : Sl} {hd : D}, hd = .tup (ns.map fun m : Nat => .int m) → w2.length ≤ 100 → ns.length ≤ 10 → (∀ m ∈ ns, m < 10000000) → De.rt (.fl, .str (rwT w2 ns)) [some (.fl, .str w), some (.fl, hd), some (.fl, .str w2), x3] →
      sRet (eP (pJoin (pC (.str " ")) (pOp oAdd (pLst (DL.gCons (pVar 2) DL.gNil)) (pLcX (iSq (pVar 1)) [3] (gNm 3) tNilP (pCall oStr (DL.gCons (pVar 3) DL.gNil)))))) De [some (.fl, .str w), some (.fl, hd), some (.fl, .str w2), x3] := fun {w w2 ns De x3 hd} e hw hl hb hq => by
    subst e
    refine go_LcL (L := ns) (G := fun m : Nat => D.int m) (k := .fl) (fun m : Nat => .str (sI m)) (by omega) (fun i m N hm hN => ⟨lg70 (small9 (by have := hb m (List.mem_of_getElem? hm); omega)), hN⟩) ?_
    have e2 : (ns.map fun m : Nat => D.str (sI m)) = (ns.map fun m : Nat => sI m).map .str := by rw [List.map_map]; rfl
    rw [e2]
    refine ⟨by show 1 + _ ≤ _; rw [List.length_map, List.length_map]; omega, rwW w2 ns, rfl, ?_, hq⟩
    have e4 : ((" " : Str)).length = 1 := by decide
    rw [e4]
    simp only [List.map_cons, List.sum_cons, List.length_cons]
    rw [List.length_map]
    have h5 : ((ns.map fun m : Nat => sI m).map (·.length)).sum ≤ 1000 := by
      have h1 : ∀ l : List Nat, (∀ i ∈ l, i < 10000000) → ((l.map fun m : Nat => sI m).map (·.length)).sum ≤ l.length * 71 := fun l => by
        induction l with
        | nil => intro _; exact Nat.zero_le _
        | cons a l ih =>
          intro h
          have := sI_len (i := (a : Nat)) (small9 (by have := h a (by simp); omega))
          have := ih fun i hi => h i (by simp [hi])
          simp only [List.map_cons, List.sum_cons, List.length_cons]
          omega
      have := h1 ns hb
      omega
    omega
  cases d with
  | flow a b x =>
    obtain ⟨ha, hb, hab, h0, h1⟩ := hd
    obtain ⟨y, rfl⟩ := Int.eq_ofNat_of_zero_le h0
    exact go (w2 := "flow") (ns := [a, b, y]) rfl (by decide) (show 3 ≤ 10 by decide) (rw_ok3 (by omega) (by omega) (by omega)) h
  | way a b x =>
    obtain ⟨ha, hb, hab, h0, h1⟩ := hd
    obtain ⟨y, rfl⟩ := Int.eq_ofNat_of_zero_le h0
    exact go (w2 := "way") (ns := [a, b, y]) rfl (by decide) (show 3 ≤ 10 by decide) (rw_ok3 (by omega) (by omega) (by omega)) h
  | charge a b x =>
    obtain ⟨ha, hb, h0, h1⟩ := hd
    obtain ⟨y, rfl⟩ := Int.eq_ofNat_of_zero_le h0
    exact go (w2 := "cost") (ns := [a, b, y]) rfl (by decide) (show 3 ≤ 10 by decide) (rw_ok3 (by omega) (by omega) (by omega)) h
  | swap a b =>
    obtain ⟨ha, hb⟩ := hd
    exact go (w2 := "swap") (ns := [a, b]) rfl (by decide) (show 2 ≤ 10 by decide) (rw_ok2 (by omega) (by omega)) h
  | better => exact go (w2 := "better") (ns := []) rfl (by decide) (show 0 ≤ 10 by decide) rw_ok0 h
  | back => exact go (w2 := "back") (ns := []) rfl (by decide) (show 0 ≤ 10 by decide) rw_ok0 h
theorem words3 {x y z : Str} : Txt.join " " [x, y, z] = x ++ " " ++ y ++ " " ++ z := by
  rw [TL.join_eq]
  show x ++ " " ++ (y ++ " " ++ z) = _
  rw [← Str.append_assoc, ← Str.append_assoc]
theorem due_spec {d : Deed} {Q X} (hs : KOk n s) (hl : hist.length < 1000000) (hd : d.Ok n hist) (h : Q (.fl, .str (dueT n s d)) [(.ow, recD n (d.next n s hist).1 (d.next n s hist).2)]) : DCV.cf__law_due [(.ow, recD n s hist), (.fl, .str d.word), (.fl, d.handed)] Q X := by
  rw [DCV.cf__law_due_eq]
  refine ⟨⟨_, rfl⟩, done_spec hs hl hd ?_⟩
  cases d with
  | better =>
    have hg : GoodB n (svF n s) (bestR n s) := good_bs n (Nat.le_refl n)
    unfold Deed.told
    unfold dueT at h
    generalize Deed.better.next n s hist = nx at h ⊢
    obtain ⟨s2, h2⟩ := nx
    have hsv : ∀ a b : Nat, a < n → b < n → (savV n s.F s.W s.C s.p a b).natAbs ≤ 1000000000 := fun a b ha hb => sav_bound hs ha hb
    generalize bestR n s = r at h hg ⊢
    match r, hg, h with
    | none, _, h => exact ⟨rfl, h⟩
    | some (a, b, t), hg, h =>
      obtain ⟨h1, h3, h4, h5⟩ := hg.ok a b t rfl
      have h8 := hs.n8
      have hb := hsv a b (by omega) h3
      have h4 : t = savV n s.F s.W s.C s.p a b := h4
      rw [← h4] at hb
      have la : (sI a).length ≤ 71 := sI_len (small9 (by omega))
      have lb : (sI b).length ≤ 71 := sI_len (small9 (by omega))
      have lt : (sI t).length ≤ 71 := sI_len (small9 hb)
      have e1 : ((" " : Str)).length = 1 := by decide
      have l1 : (sI a ++ " ").length ≤ 72 := by rw [Str.length_append, e1]; omega
      have l2 : (sI a ++ " " ++ sI b).length ≤ 143 := by rw [Str.length_append]; omega
      have l3 : (sI a ++ " " ++ sI b ++ " ").length ≤ 144 := by rw [Str.length_append, e1]; omega
      refine ⟨rfl, go_ix rfl rfl ⟨lg70 (small9 (by omega)), ?_, ?_⟩⟩
      · show (sI a).length + ((" " : Str)).length ≤ 10000000
        rw [e1]; omega
      refine go_ix rfl rfl ⟨lg70 (small9 (by omega)), ?_, ?_, ?_⟩
      · show (sI a ++ " ").length + (sI b).length ≤ 10000000
        omega
      · show (sI a ++ " " ++ sI b).length + ((" " : Str)).length ≤ 10000000
        rw [e1]; omega
      refine go_ix rfl rfl ⟨lg70 (small9 hb), ?_, ?_⟩
      · show (sI a ++ " " ++ sI b ++ " ").length + (sI t).length ≤ 10000000
        omega
      have e : wordsT [(a : Int), b, t] = sI a ++ " " ++ sI b ++ " " ++ sI t := words3
      have h : Q (.fl, .str (wordsT [(a : Int), b, t])) [(.ow, recD n s2 h2)] := h
      rw [e] at h
      exact h
  | flow a b x => exact h
  | way a b x => exact h
  | charge a b x => exact h
  | swap a b => exact h
  | back => exact h
theorem said_go {k k2 : D} {row due : Str} {Q X} (hsay : ∀ (Q' : KD → List KD → Prop) (X' : Str → List KD → Prop), Q' (.fl, .str due) [(.ow, dkD k2)] → cf_Desk_say [(.ow, dkD k), (.fl, .str row)] Q' X') (h : Q (.fl, .bl true) [(.ow, dkD k2)]) : cf__law_said [(.ow, dkD k), (.fl, .str row), (.fl, .str due)] Q X := by
  rw [cf__law_said_eq]
  refine ⟨⟨_, rfl⟩, ⟨_, rfl⟩, hsay _ _ ?_⟩
  have e : decide (due = due) = true := decide_eq_true rfl
  show Q (.fl, .bl (decide (due = due))) [(.ow, dkD k2)]
  rw [e]
  exact h
theorem said_deed {d : Deed} {Q X} (hs : KOk n s) (hl : hist.length < 10000000) (hd : d.Ok n hist) (h : Q (.fl, .bl true) [(.ow, dkD (kpD n (d.next n s hist).1 (d.next n s hist).2))]) : cf__law_said [(.ow, dkD (kpD n s hist)), (.fl, .str (rowD d)), (.fl, .str (dueT n s d))] Q X :=
  said_go (fun _ _ q => deed_say hs hl hd q) h
theorem said_job {a : Nat} {k : D} {Q X} (h1 : 1 ≤ a) (h8 : a ≤ 8) (h : Q (.fl, .bl true) [(.ow, dkD (kpD a bareS []))]) : cf__law_said [(.ow, dkD k), (.fl, .str (rwT "job" [a])), (.fl, .str "ok")] Q X :=
  said_go (fun _ _ q => say_job (by omega) (fun _ _ => q) fun z => absurd ⟨h1, h8⟩ z) h
theorem said_total {Q X} (hs : KOk n s) (h : Q (.fl, .bl true) [(.ow, dkD (kpD n s hist))]) : cf__law_said [(.ow, dkD (kpD n s hist)), (.fl, .str (rwT "total" [])), (.fl, .str (sI (tot n s)))] Q X :=
  said_go (fun _ _ q => say_deed row_total (by decide) (by decide +kernel) fun _ _ hQ _ => done_total hs (hQ _ _ q)) h
theorem said_laying {Q X} (hs : KOk n s) (h : Q (.fl, .bl true) [(.ow, dkD (kpD n s hist))]) : cf__law_said [(.ow, dkD (kpD n s hist)), (.fl, .str (rwT "laying" [])), (.fl, .str (layT n s))] Q X :=
  said_go (fun _ _ q => say_told row_laying (by decide) (by decide +kernel) fun _ _ hQ _ => told_laying hs (hQ _ _ q)) h
theorem said_show {Q X} (hs : KOk n s) (h : Q (.fl, .bl true) [(.ow, dkD (kpD n s hist))]) : cf__law_said [(.ow, dkD (kpD n s hist)), (.fl, .str (rwT "show" [])), (.fl, .str (showT n s))] Q X :=
  said_go (fun _ _ q => say_told row_show (by decide) (by decide +kernel) fun _ _ hQ _ => told_show hs (hQ _ _ q)) h
theorem one_word {w : Str} : rwT w [] = w := by
  show Txt.join " " [w] = w
  rw [TL.join_eq]; rfl
theorem said_totalW {Q X} (hs : KOk n s) (h : Q (.fl, .bl true) [(.ow, dkD (kpD n s hist))]) : cf__law_said [(.ow, dkD (kpD n s hist)), (.fl, .str "total"), (.fl, .str (sI (tot n s)))] Q X := by
  have := said_total hs h (X := X)
  rwa [one_word] at this
theorem said_layingW {Q X} (hs : KOk n s) (h : Q (.fl, .bl true) [(.ow, dkD (kpD n s hist))]) : cf__law_said [(.ow, dkD (kpD n s hist)), (.fl, .str "laying"), (.fl, .str (layT n s))] Q X := by
  have := said_laying hs h (X := X)
  rwa [one_word] at this
theorem said_showW {Q X} (hs : KOk n s) (h : Q (.fl, .bl true) [(.ow, dkD (kpD n s hist))]) : cf__law_said [(.ow, dkD (kpD n s hist)), (.fl, .str "show"), (.fl, .str (showT n s))] Q X := by
  have := said_show hs h (X := X)
  rwa [one_word] at this
inductive Wd where
  | total | laying | show_
def Wd.w : Wd → Str
  | .total => "total"
  | .laying => "laying"
  | .show_ => "show"
def looks : Nat → List Wd
  | 0 => [.total, .laying, .show_]
  | 1 => [.laying, .show_, .total]
  | 2 => [.show_, .total, .laying]
  | 3 => [.laying]
  | 4 => [.show_]
  | 5 => [.total]
  | 6 => [.laying, .total]
  | _ => []
abbrev looksD (i : Nat) : D := .lst ((looks i).map fun x => .str x.w)
theorem looked_spec {d : D} {Q X} (hd : Bag d) (hs : KOk n s) (h : ∀ d, Bag d → Q (.fl, .bl true) [(.ow, d), (.ow, dkD (kpD n s hist))]) : cf__law_looked [(.ow, d), (.ow, dkD (kpD n s hist)), (.rd, recD n s hist)] Q X := by
  rw [cf__law_looked_eq]
  have h8 := hs.n8
  have hn : n ≤ 1000 := by omega
  have hF : Tab n 1000040 (fsOf s 0) := Tab.mono hs.job.f (by omega)
  refine ⟨(show 4 + 4 ≤ 10000000 by decide), ?_⟩
  show kNext ly0 (ends [true, true, false] Q X) [some (.ow, d), some (.ow, dkD (kpD n s hist)), some (.rd, recD n s hist), some (.rd, .lst ((List.range 8).map looksD)), none, none, none]
  refine go_next ⟨⟨_, rfl⟩, ⟨_, rfl⟩, dip_specN hd (by decide) (by decide) fun i d hi hd => ?_⟩
  have hi : i < 8 := by omega
  refine go_tabl hi ⟨.inr rfl, ?_⟩
  refine go_For (fun _ ρ => ∃ x4 x5, ρ = [some (.ow, d), some (.ow, dkD (kpD n s hist)), some (.rd, recD n s hist), some (.rd, .lst ((List.range 8).map looksD)), x4, x5, none]) ⟨none, none, rfl⟩ (fun k z ρ N hz hI hN => ?_) fun ρ hI => ?_
  · have hz : ∃ x : Wd, z = (.fl, .str x.w) := by
      have hz : (((looks i).map fun x => D.str x.w).map (kel .rd))[k]? = some z := hz
      rw [List.getElem?_map, List.getElem?_map] at hz
      cases e : (looks i)[k]? with
      | none => rw [e] at hz; cases hz
      | some x => rw [e] at hz; exact ⟨x, (Option.some.inj hz).symm⟩
    obtain ⟨x, rfl⟩ := hz
    obtain ⟨x4, x5, rfl⟩ := hI
    refine go_key (j := 0) rfl nd3 rfl rfl (shown_spec hs ?_)
    have fin : ∀ {x4 x5 : Sl}, N [some (.ow, d), some (.ow, dkD (kpD n s hist)), some (.rd, recD n s hist), some (.rd, .lst ((List.range 8).map looksD)), x4, x5, none] := hN _ ⟨_, _, rfl⟩
    refine go_next ?_
    cases x with
    | total =>
      refine go_key (j := 0) rfl nd3 rfl rfl (go_key (j := 1) rfl nd3 rfl rfl (price_spec hn hs.perm.lt hF ⟨lg70 (tot_small hs), ?_⟩))
      refine go_next (go_next ⟨⟨_, rfl⟩, ?_⟩)
      exact said_totalW hs fin
    | laying =>
      refine go_next (go_key (j := 1) rfl nd3 rfl rfl ?_)
      have ez : (tabl n fun i => D.int (s.p i : Nat)) = (tabl n fun i => ((s.p i : Nat) : Int)).map D.int := by unfold tabl; rw [List.map_map]; rfl
      show kLc _ ((tabl n fun i => D.int (s.p i : Nat)).map (kel .rd)) _
      rw [ez]
      have hb : ∀ i ∈ (tabl n fun i => ((s.p i : Nat) : Int)), i.natAbs < 10 ^ 70 := fun i hi => by
        obtain ⟨j, hj, rfl⟩ := List.mem_map.mp hi
        have h1 := hs.perm.lt j (List.mem_range.mp hj)
        exact small9 (by omega)
      refine strs_go (by rw [tabl_len]; omega) hb _ (fun i N hi hN => ⟨lg70 hi, hN⟩) ?_
      refine ⟨_, rfl, lens (by decide) (by rw [tabl_len]; omega) hb, ?_⟩
      exact go_next ⟨⟨_, rfl⟩, said_layingW hs fin⟩
    | show_ =>
      exact go_next (go_next ⟨⟨_, rfl⟩, said_showW hs fin⟩)
  · obtain ⟨x4, x5, rfl⟩ := hI
    exact h d hd
end DCW

namespace K76
open PySem PySem.Spec PyProof.Rows L2 DL
abbrev FnP (K : PySem.W.Frag) (x q : Str) (st : Stmt) (f : Addr) (fd : FuncData) : Prop := FunD K x q (defArgs st) (defBody st) (defScope st) [] [] f fd
theorem sc__law_bag : FnScope ["script", "mixed", "cell"] ["script"] (defScope s__law_bag) := ⟨rfl, rfl, rfl, by decide +kernel, rfl, by decide +kernel, by decide +kernel⟩
theorem b__law_bag : BndG "_law_bag" "_law_bag" (defArgs s__law_bag) (defBody s__law_bag) (defScope s__law_bag) ["script"] := fun _ _ _ _ _ _ us hl => match us, hl with | [_], _ => rfl
theorem sc__law_dip : FnScope ["bag", "many", "cell", "digit"] ["bag", "many"] (defScope s__law_dip) := ⟨rfl, rfl, rfl, by decide +kernel, rfl, by decide +kernel, by decide +kernel⟩
theorem b__law_dip : BndG "_law_dip" "_law_dip" (defArgs s__law_dip) (defBody s__law_dip) (defScope s__law_dip) ["bag", "many"] := fun _ _ _ _ _ _ us hl => match us, hl with | [_, _], _ => rfl
theorem sc__law_begun : FnScope ["squares", "laying"] ["squares", "laying"] (defScope s__law_begun) := ⟨rfl, rfl, rfl, by decide +kernel, rfl, by decide +kernel, by decide +kernel⟩
theorem b__law_begun : BndG "_law_begun" "_law_begun" (defArgs s__law_begun) (defBody s__law_begun) (defScope s__law_begun) ["squares", "laying"] := fun _ _ _ _ _ _ us hl => match us, hl with | [_, _], _ => rfl
theorem sc__law_bare : FnScope ["many", "j", "k"] ["many"] (defScope s__law_bare) := ⟨rfl, rfl, rfl, by decide +kernel, rfl, by decide +kernel, by decide +kernel⟩
theorem b__law_bare : BndG "_law_bare" "_law_bare" (defArgs s__law_bare) (defBody s__law_bare) (defScope s__law_bare) ["many"] := fun _ _ _ _ _ _ us hl => match us, hl with | [_], _ => rfl
theorem sc_Desk___init__ : FnScope ["self"] ["self"] (defScope s_Desk___init__) := ⟨rfl, rfl, rfl, by decide +kernel, rfl, by decide +kernel, by decide +kernel⟩
theorem b_Desk___init__ : BndG "__init__" "Desk.__init__" (defArgs s_Desk___init__) (defBody s_Desk___init__) (defScope s_Desk___init__) ["self"] := fun _ _ _ _ _ _ us hl => match us, hl with | [_], _ => rfl
theorem sc_number_in : FnScope ["word", "sign"] ["word"] (defScope s_number_in) := ⟨rfl, rfl, rfl, by decide +kernel, rfl, by decide +kernel, by decide +kernel⟩
theorem b_number_in : BndG "number_in" "number_in" (defArgs s_number_in) (defBody s_number_in) (defScope s_number_in) ["word"] := fun _ _ _ _ _ _ us hl => match us, hl with | [_], _ => rfl
theorem sc_is_number : FnScope ["thing", "most"] ["thing", "most"] (defScope s_is_number) := ⟨rfl, rfl, rfl, by decide +kernel, rfl, by decide +kernel, by decide +kernel⟩
theorem b_is_number : BndG "is_number" "is_number" (defArgs s_is_number) (defBody s_is_number) (defScope s_is_number) ["thing", "most"] := fun _ _ _ _ _ _ us hl => match us, hl with | [_, _], _ => rfl
theorem sc_is_row : FnScope ["thing", "many", "most", "one"] ["thing", "many", "most"] (defScope s_is_row) := ⟨rfl, rfl, rfl, by decide +kernel, rfl, by decide +kernel, by decide +kernel⟩
theorem b_is_row : BndG "is_row" "is_row" (defArgs s_is_row) (defBody s_is_row) (defScope s_is_row) ["thing", "many", "most"] := fun _ _ _ _ _ _ us hl => match us, hl with | [_, _, _], _ => rfl
theorem sc_is_square : FnScope ["thing", "many", "most", "row"] ["thing", "many", "most"] (defScope s_is_square) := ⟨rfl, rfl, rfl, by decide +kernel, rfl, by decide +kernel, by decide +kernel⟩
theorem b_is_square : BndG "is_square" "is_square" (defArgs s_is_square) (defBody s_is_square) (defScope s_is_square) ["thing", "many", "most"] := fun _ _ _ _ _ _ us hl => match us, hl with | [_, _, _], _ => rfl
theorem sc_is_job : FnScope ["thing", "many", "k"] ["thing"] (defScope s_is_job) := ⟨rfl, rfl, rfl, by decide +kernel, rfl, by decide +kernel, by decide +kernel⟩
theorem b_is_job : BndG "is_job" "is_job" (defArgs s_is_job) (defBody s_is_job) (defScope s_is_job) ["thing"] := fun _ _ _ _ _ _ us hl => match us, hl with | [_], _ => rfl
theorem sc_is_part : FnScope ["job", "thing", "many", "laid", "place"] ["job", "thing"] (defScope s_is_part) := ⟨rfl, rfl, rfl, by decide +kernel, rfl, by decide +kernel, by decide +kernel⟩
theorem b_is_part : BndG "is_part" "is_part" (defArgs s_is_part) (defBody s_is_part) (defScope s_is_part) ["job", "thing"] := fun _ _ _ _ _ _ us hl => match us, hl with | [_, _], _ => rfl
theorem sc_is_laying : FnScope ["job", "thing"] ["job", "thing"] (defScope s_is_laying) := ⟨rfl, rfl, rfl, by decide +kernel, rfl, by decide +kernel, by decide +kernel⟩
theorem b_is_laying : BndG "is_laying" "is_laying" (defArgs s_is_laying) (defBody s_is_laying) (defScope s_is_laying) ["job", "thing"] := fun _ _ _ _ _ _ us hl => match us, hl with | [_, _], _ => rfl
theorem sc_Keeper___init__ : FnScope ["self", "job", "laying"] ["self", "job", "laying"] (defScope s_Keeper___init__) := ⟨rfl, rfl, rfl, by decide +kernel, rfl, by decide +kernel, by decide +kernel⟩
theorem b_Keeper___init__ : BndG "__init__" "Keeper.__init__" (defArgs s_Keeper___init__) (defBody s_Keeper___init__) (defScope s_Keeper___init__) ["self", "job", "laying"] := fun _ _ _ _ _ _ us hl => match us, hl with | [_, _, _], _ => rfl
theorem sc_empty_job : FnScope ["many", "square"] ["many"] (defScope s_empty_job) := ⟨rfl, rfl, rfl, by decide +kernel, rfl, by decide +kernel, by decide +kernel⟩
theorem b_empty_job : BndG "empty_job" "empty_job" (defArgs s_empty_job) (defBody s_empty_job) (defScope s_empty_job) ["many"] := fun _ _ _ _ _ _ us hl => match us, hl with | [_], _ => rfl
theorem sc_Desk_begin : FnScope ["self", "many"] ["self", "many"] (defScope s_Desk_begin) := ⟨rfl, rfl, rfl, by decide +kernel, rfl, by decide +kernel, by decide +kernel⟩
theorem b_Desk_begin : BndG "begin" "Desk.begin" (defArgs s_Desk_begin) (defBody s_Desk_begin) (defScope s_Desk_begin) ["self", "many"] := fun _ _ _ _ _ _ us hl => match us, hl with | [_, _], _ => rfl
theorem sc_Keeper_job : FnScope ["self"] ["self"] (defScope s_Keeper_job) := ⟨rfl, rfl, rfl, by decide +kernel, rfl, by decide +kernel, by decide +kernel⟩
theorem b_Keeper_job : BndG "job" "Keeper.job" (defArgs s_Keeper_job) (defBody s_Keeper_job) (defScope s_Keeper_job) ["self"] := fun _ _ _ _ _ _ us hl => match us, hl with | [_], _ => rfl
theorem sc_words_of : FnScope ["numbers", "number"] ["numbers"] (defScope s_words_of) := ⟨rfl, rfl, rfl, by decide +kernel, rfl, by decide +kernel, by decide +kernel⟩
theorem b_words_of : BndG "words_of" "words_of" (defArgs s_words_of) (defBody s_words_of) (defScope s_words_of) ["numbers"] := fun _ _ _ _ _ _ us hl => match us, hl with | [_], _ => rfl
theorem sc_Keeper_laying : FnScope ["self"] ["self"] (defScope s_Keeper_laying) := ⟨rfl, rfl, rfl, by decide +kernel, rfl, by decide +kernel, by decide +kernel⟩
theorem b_Keeper_laying : BndG "laying" "Keeper.laying" (defArgs s_Keeper_laying) (defBody s_Keeper_laying) (defScope s_Keeper_laying) ["self"] := fun _ _ _ _ _ _ us hl => match us, hl with | [_], _ => rfl
theorem sc_rows_of : FnScope ["job", "rows", "name", "square", "k", "row", "j", "number"] ["job"] (defScope s_rows_of) := ⟨rfl, rfl, rfl, by decide +kernel, rfl, by decide +kernel, by decide +kernel⟩
theorem b_rows_of : BndG "rows_of" "rows_of" (defArgs s_rows_of) (defBody s_rows_of) (defScope s_rows_of) ["job"] := fun _ _ _ _ _ _ us hl => match us, hl with | [_], _ => rfl
theorem sc_Desk_told : FnScope ["self", "word", "job", "free", "top", "below", "found"] ["self", "word"] (defScope s_Desk_told) := ⟨rfl, rfl, rfl, by decide +kernel, rfl, by decide +kernel, by decide +kernel⟩
theorem b_Desk_told : BndG "told" "Desk.told" (defArgs s_Desk_told) (defBody s_Desk_told) (defScope s_Desk_told) ["self", "word"] := fun _ _ _ _ _ _ us hl => match us, hl with | [_, _], _ => rfl
theorem sc_fixed : FnScope ["job", "part", "flows", "ways", "costs", "laid", "found", "one", "other", "work"] ["job", "part"] (defScope s_fixed) := ⟨rfl, rfl, rfl, by decide +kernel, rfl, by decide +kernel, by decide +kernel⟩
theorem b_fixed : BndG "fixed" "fixed" (defArgs s_fixed) (defBody s_fixed) (defScope s_fixed) ["job", "part"] := fun _ _ _ _ _ _ us hl => match us, hl with | [_, _], _ => rfl
theorem sc_cost_jobs : FnScope ["job", "laying"] ["job", "laying"] (defScope s_cost_jobs) := ⟨rfl, rfl, rfl, by decide +kernel, rfl, by decide +kernel, by decide +kernel⟩
theorem b_cost_jobs : BndG "cost" "cost" (defArgs s_cost_jobs) (defBody s_cost_jobs) (defScope s_cost_jobs) ["job", "laying"] := fun _ _ _ _ _ _ us hl => match us, hl with | [_, _], _ => rfl
theorem sc_Keeper_cost : FnScope ["self"] ["self"] (defScope s_Keeper_cost) := ⟨rfl, rfl, rfl, by decide +kernel, rfl, by decide +kernel, by decide +kernel⟩
theorem b_Keeper_cost : BndG "cost" "Keeper.cost" (defArgs s_Keeper_cost) (defBody s_Keeper_cost) (defScope s_Keeper_cost) ["self"] := fun _ _ _ _ _ _ us hl => match us, hl with | [_], _ => rfl
theorem sc_beside_saved : FnScope ["job", "laying", "one", "other", "flows", "ways", "costs", "near", "far", "found", "k", "place"] ["job", "laying", "one", "other"] (defScope s_beside_saved) := ⟨rfl, rfl, rfl, by decide +kernel, rfl, by decide +kernel, by decide +kernel⟩
theorem b_beside_saved : BndG "beside_saved" "beside_saved" (defArgs s_beside_saved) (defBody s_beside_saved) (defScope s_beside_saved) ["job", "laying", "one", "other"] := fun _ _ _ _ _ _ us hl => match us, hl with | [_, _, _, _], _ => rfl
theorem sc_saved : FnScope ["job", "laying", "one", "other", "flows", "ways", "costs", "near", "far", "between"] ["job", "laying", "one", "other"] (defScope s_saved) := ⟨rfl, rfl, rfl, by decide +kernel, rfl, by decide +kernel, by decide +kernel⟩
theorem b_saved : BndG "saved" "saved" (defArgs s_saved) (defBody s_saved) (defScope s_saved) ["job", "laying", "one", "other"] := fun _ _ _ _ _ _ us hl => match us, hl with | [_, _, _, _], _ => rfl
theorem sc_Keeper_need_work : FnScope ["self", "thing"] ["self", "thing"] (defScope s_Keeper_need_work) := ⟨rfl, rfl, rfl, by decide +kernel, rfl, by decide +kernel, by decide +kernel⟩
theorem b_Keeper_need_work : BndG "need_work" "Keeper.need_work" (defArgs s_Keeper_need_work) (defBody s_Keeper_need_work) (defScope s_Keeper_need_work) ["self", "thing"] := fun _ _ _ _ _ _ us hl => match us, hl with | [_, _], _ => rfl
theorem sc_Keeper_turn_to : FnScope ["self", "job", "laying"] ["self", "job", "laying"] (defScope s_Keeper_turn_to) := ⟨rfl, rfl, rfl, by decide +kernel, rfl, by decide +kernel, by decide +kernel⟩
theorem b_Keeper_turn_to : BndG "turn_to" "Keeper.turn_to" (defArgs s_Keeper_turn_to) (defBody s_Keeper_turn_to) (defScope s_Keeper_turn_to) ["self", "job", "laying"] := fun _ _ _ _ _ _ us hl => match us, hl with | [_, _, _], _ => rfl
theorem sc_exchanged : FnScope ["laying", "one", "other", "found"] ["laying", "one", "other"] (defScope s_exchanged) := ⟨rfl, rfl, rfl, by decide +kernel, rfl, by decide +kernel, by decide +kernel⟩
theorem b_exchanged : BndG "exchanged" "exchanged" (defArgs s_exchanged) (defBody s_exchanged) (defScope s_exchanged) ["laying", "one", "other"] := fun _ _ _ _ _ _ us hl => match us, hl with | [_, _, _], _ => rfl
theorem sc_Keeper_swap : FnScope ["self", "one", "other"] ["self", "one", "other"] (defScope s_Keeper_swap) := ⟨rfl, rfl, rfl, by decide +kernel, rfl, by decide +kernel, by decide +kernel⟩
theorem b_Keeper_swap : BndG "swap" "Keeper.swap" (defArgs s_Keeper_swap) (defBody s_Keeper_swap) (defScope s_Keeper_swap) ["self", "one", "other"] := fun _ _ _ _ _ _ us hl => match us, hl with | [_, _, _], _ => rfl
theorem sc_Keeper_better : FnScope ["self", "best", "one", "other", "more"] ["self"] (defScope s_Keeper_better) := ⟨rfl, rfl, rfl, by decide +kernel, rfl, by decide +kernel, by decide +kernel⟩
theorem b_Keeper_better : BndG "better" "Keeper.better" (defArgs s_Keeper_better) (defBody s_Keeper_better) (defScope s_Keeper_better) ["self"] := fun _ _ _ _ _ _ us hl => match us, hl with | [_], _ => rfl
theorem sc_Keeper_need_two : FnScope ["self", "one", "other"] ["self", "one", "other"] (defScope s_Keeper_need_two) := ⟨rfl, rfl, rfl, by decide +kernel, rfl, by decide +kernel, by decide +kernel⟩
theorem b_Keeper_need_two : BndG "need_two" "Keeper.need_two" (defArgs s_Keeper_need_two) (defBody s_Keeper_need_two) (defScope s_Keeper_need_two) ["self", "one", "other"] := fun _ _ _ _ _ _ us hl => match us, hl with | [_, _, _], _ => rfl
theorem sc_need_number : FnScope ["thing", "most"] ["thing", "most"] (defScope s_need_number) := ⟨rfl, rfl, rfl, by decide +kernel, rfl, by decide +kernel, by decide +kernel⟩
theorem b_need_number : BndG "need_number" "need_number" (defArgs s_need_number) (defBody s_need_number) (defScope s_need_number) ["thing", "most"] := fun _ _ _ _ _ _ us hl => match us, hl with | [_, _], _ => rfl
theorem sc_with_number : FnScope ["square", "row", "column", "number", "other"] ["square", "row", "column", "number"] (defScope s_with_number) := ⟨rfl, rfl, rfl, by decide +kernel, rfl, by decide +kernel, by decide +kernel⟩
theorem b_with_number : BndG "with_number" "with_number" (defArgs s_with_number) (defBody s_with_number) (defScope s_with_number) ["square", "row", "column", "number"] := fun _ _ _ _ _ _ us hl => match us, hl with | [_, _, _, _], _ => rfl
theorem sc_Keeper_flow : FnScope ["self", "one", "other", "number"] ["self", "one", "other", "number"] (defScope s_Keeper_flow) := ⟨rfl, rfl, rfl, by decide +kernel, rfl, by decide +kernel, by decide +kernel⟩
theorem b_Keeper_flow : BndG "flow" "Keeper.flow" (defArgs s_Keeper_flow) (defBody s_Keeper_flow) (defScope s_Keeper_flow) ["self", "one", "other", "number"] := fun _ _ _ _ _ _ us hl => match us, hl with | [_, _, _, _], _ => rfl
theorem sc_Keeper_way : FnScope ["self", "one", "other", "number"] ["self", "one", "other", "number"] (defScope s_Keeper_way) := ⟨rfl, rfl, rfl, by decide +kernel, rfl, by decide +kernel, by decide +kernel⟩
theorem b_Keeper_way : BndG "way" "Keeper.way" (defArgs s_Keeper_way) (defBody s_Keeper_way) (defScope s_Keeper_way) ["self", "one", "other", "number"] := fun _ _ _ _ _ _ us hl => match us, hl with | [_, _, _, _], _ => rfl
theorem sc_Keeper_charge : FnScope ["self", "work", "place", "number"] ["self", "work", "place", "number"] (defScope s_Keeper_charge) := ⟨rfl, rfl, rfl, by decide +kernel, rfl, by decide +kernel, by decide +kernel⟩
theorem b_Keeper_charge : BndG "charge" "Keeper.charge" (defArgs s_Keeper_charge) (defBody s_Keeper_charge) (defScope s_Keeper_charge) ["self", "work", "place", "number"] := fun _ _ _ _ _ _ us hl => match us, hl with | [_, _, _, _], _ => rfl
theorem sc_Keeper_back : FnScope ["self"] ["self"] (defScope s_Keeper_back) := ⟨rfl, rfl, rfl, by decide +kernel, rfl, by decide +kernel, by decide +kernel⟩
theorem b_Keeper_back : BndG "back" "Keeper.back" (defArgs s_Keeper_back) (defBody s_Keeper_back) (defScope s_Keeper_back) ["self"] := fun _ _ _ _ _ _ us hl => match us, hl with | [_], _ => rfl
theorem sc_Desk_done : FnScope ["self", "word", "numbers", "found"] ["self", "word", "numbers"] (defScope s_Desk_done) := ⟨rfl, rfl, rfl, by decide +kernel, rfl, by decide +kernel, by decide +kernel⟩
theorem b_Desk_done : BndG "done" "Desk.done" (defArgs s_Desk_done) (defBody s_Desk_done) (defScope s_Desk_done) ["self", "word", "numbers"] := fun _ _ _ _ _ _ us hl => match us, hl with | [_, _, _], _ => rfl
theorem sc_Desk_say : FnScope ["self", "row", "words", "word", "numbers", "one"] ["self", "row"] (defScope s_Desk_say) := ⟨rfl, rfl, rfl, by decide +kernel, rfl, by decide +kernel, by decide +kernel⟩
theorem b_Desk_say : BndG "say" "Desk.say" (defArgs s_Desk_say) (defBody s_Desk_say) (defScope s_Desk_say) ["self", "row"] := fun _ _ _ _ _ _ us hl => match us, hl with | [_, _], _ => rfl
theorem sc__law_said : FnScope ["desk", "row", "due", "found"] ["desk", "row", "due"] (defScope s__law_said) := ⟨rfl, rfl, rfl, by decide +kernel, rfl, by decide +kernel, by decide +kernel⟩
theorem b__law_said : BndG "_law_said" "_law_said" (defArgs s__law_said) (defBody s__law_said) (defScope s__law_said) ["desk", "row", "due"] := fun _ _ _ _ _ _ us hl => match us, hl with | [_, _, _], _ => rfl
theorem sc__law_deed : FnScope ["bag", "state", "many", "one", "other", "word", "most"] ["bag", "state"] (defScope s__law_deed) := ⟨rfl, rfl, rfl, by decide +kernel, rfl, by decide +kernel, by decide +kernel⟩
theorem b__law_deed : BndG "_law_deed" "_law_deed" (defArgs s__law_deed) (defBody s__law_deed) (defScope s__law_deed) ["bag", "state"] := fun _ _ _ _ _ _ us hl => match us, hl with | [_, _], _ => rfl
theorem sc__law_may_be_done : FnScope ["state", "word", "handed"] ["state", "word", "handed"] (defScope s__law_may_be_done) := ⟨rfl, rfl, rfl, by decide +kernel, rfl, by decide +kernel, by decide +kernel⟩
theorem b__law_may_be_done : BndG "_law_may_be_done" "_law_may_be_done" (defArgs s__law_may_be_done) (defBody s__law_may_be_done) (defScope s__law_may_be_done) ["state", "word", "handed"] := fun _ _ _ _ _ _ us hl => match us, hl with | [_, _, _], _ => rfl
theorem sc__law_row_of : FnScope ["word", "handed", "told", "number"] ["word", "handed"] (defScope s__law_row_of) := ⟨rfl, rfl, rfl, by decide +kernel, rfl, by decide +kernel, by decide +kernel⟩
theorem b__law_row_of : BndG "_law_row_of" "_law_row_of" (defArgs s__law_row_of) (defBody s__law_row_of) (defScope s__law_row_of) ["word", "handed"] := fun _ _ _ _ _ _ us hl => match us, hl with | [_, _], _ => rfl
theorem sc__law_price : FnScope ["squares", "laying", "found", "one", "other", "far"] ["squares", "laying"] (defScope s__law_price) := ⟨rfl, rfl, rfl, by decide +kernel, rfl, by decide +kernel, by decide +kernel⟩
theorem b__law_price : BndG "_law_price" "_law_price" (defArgs s__law_price) (defBody s__law_price) (defScope s__law_price) ["squares", "laying"] := fun _ _ _ _ _ _ us hl => match us, hl with | [_, _], _ => rfl
theorem sc__law_best : FnScope ["state", "best", "ahead", "one", "other", "there", "more"] ["state"] (defScope s__law_best) := ⟨rfl, rfl, rfl, by decide +kernel, rfl, by decide +kernel, by decide +kernel⟩
theorem b__law_best : BndG "_law_best" "_law_best" (defArgs s__law_best) (defBody s__law_best) (defScope s__law_best) ["state"] := fun _ _ _ _ _ _ us hl => match us, hl with | [_], _ => rfl
theorem sc__law_past : FnScope ["state", "squares", "square", "row"] ["state"] (defScope s__law_past) := ⟨rfl, rfl, rfl, by decide +kernel, rfl, by decide +kernel, by decide +kernel⟩
theorem b__law_past : BndG "_law_past" "_law_past" (defArgs s__law_past) (defBody s__law_past) (defScope s__law_past) ["state"] := fun _ _ _ _ _ _ us hl => match us, hl with | [_], _ => rfl
theorem sc__law_swapped : FnScope ["state", "one", "other", "there"] ["state", "one", "other"] (defScope s__law_swapped) := ⟨rfl, rfl, rfl, by decide +kernel, rfl, by decide +kernel, by decide +kernel⟩
theorem b__law_swapped : BndG "_law_swapped" "_law_swapped" (defArgs s__law_swapped) (defBody s__law_swapped) (defScope s__law_swapped) ["state", "one", "other"] := fun _ _ _ _ _ _ us hl => match us, hl with | [_, _, _], _ => rfl
theorem sc__law_done : FnScope ["state", "word", "handed", "best", "which"] ["state", "word", "handed"] (defScope s__law_done) := ⟨rfl, rfl, rfl, by decide +kernel, rfl, by decide +kernel, by decide +kernel⟩
theorem b__law_done : BndG "_law_done" "_law_done" (defArgs s__law_done) (defBody s__law_done) (defScope s__law_done) ["state", "word", "handed"] := fun _ _ _ _ _ _ us hl => match us, hl with | [_, _, _], _ => rfl
theorem sc__law_due : FnScope ["state", "word", "handed", "told"] ["state", "word", "handed"] (defScope s__law_due) := ⟨rfl, rfl, rfl, by decide +kernel, rfl, by decide +kernel, by decide +kernel⟩
theorem b__law_due : BndG "_law_due" "_law_due" (defArgs s__law_due) (defBody s__law_due) (defScope s__law_due) ["state", "word", "handed"] := fun _ _ _ _ _ _ us hl => match us, hl with | [_, _, _], _ => rfl
theorem sc__law_rows : FnScope ["squares", "rows", "name", "square", "k", "j", "words"] ["squares"] (defScope s__law_rows) := ⟨rfl, rfl, rfl, by decide +kernel, rfl, by decide +kernel, by decide +kernel⟩
theorem b__law_rows : BndG "_law_rows" "_law_rows" (defArgs s__law_rows) (defBody s__law_rows) (defScope s__law_rows) ["squares"] := fun _ _ _ _ _ _ us hl => match us, hl with | [_], _ => rfl
theorem sc__law_shown : FnScope ["squares"] ["squares"] (defScope s__law_shown) := ⟨rfl, rfl, rfl, by decide +kernel, rfl, by decide +kernel, by decide +kernel⟩
theorem b__law_shown : BndG "_law_shown" "_law_shown" (defArgs s__law_shown) (defBody s__law_shown) (defScope s__law_shown) ["squares"] := fun _ _ _ _ _ _ us hl => match us, hl with | [_], _ => rfl
theorem sc__law_looked : FnScope ["bag", "desk", "state", "words", "word", "due", "place"] ["bag", "desk", "state"] (defScope s__law_looked) := ⟨rfl, rfl, rfl, by decide +kernel, rfl, by decide +kernel, by decide +kernel⟩
theorem b__law_looked : BndG "_law_looked" "_law_looked" (defArgs s__law_looked) (defBody s__law_looked) (defScope s__law_looked) ["bag", "desk", "state"] := fun _ _ _ _ _ _ us hl => match us, hl with | [_, _, _], _ => rfl
theorem sc__law_no_job : FnScope ["desk", "row", "refused"] ["desk", "row"] (defScope s__law_no_job) := ⟨rfl, rfl, rfl, by decide +kernel, rfl, by decide +kernel, by decide +kernel⟩
theorem b__law_no_job : BndG "_law_no_job" "_law_no_job" (defArgs s__law_no_job) (defBody s__law_no_job) (defScope s__law_no_job) ["desk", "row"] := fun _ _ _ _ _ _ us hl => match us, hl with | [_, _], _ => rfl
theorem sc_law : FnScope ["script", "bag", "many", "states", "desks", "k", "turn", "which", "word", "handed", "some", "row"] ["script"] (defScope s_law) := ⟨rfl, rfl, rfl, by decide +kernel, rfl, by decide +kernel, by decide +kernel⟩
theorem b_law : BndG "law" "law" (defArgs s_law) (defBody s_law) (defScope s_law) ["script"] := fun _ _ _ _ _ _ us hl => match us, hl with | [_], _ => rfl
noncomputable section
/- _law_may_be_done(state, word, handed); slots: 0 state, 1 word, 2 handed -/
def sem__law_may_be_done : SF :=
  (sSeq (sIf (teP (tAnd (pTest (pOp oEq (pVar 1) (pC (.str "back")))) (pTest (pOp oEq (pKey "past" (pVar 0)) (pLst gNil))))) (sRet (eP (pC (.bl false)))) sNil)
    (sRet (eP (pOp oLt (pCall oMaxT (gCons (pOp oAdd (pTup (gCons (pC (.int 0)) gNil)) (pCall oTuple (gCons (pSl (pVar 2) oNoP (oP (pC (.int 2)))) gNil))) gNil)) (pCall oLen (gCons (pKey "laying" (pVar 0)) gNil))))))
@[irreducible] def cf__law_may_be_done : CF := hid (cfOf 0 [false, false, false] sem__law_may_be_done)
theorem cf__law_may_be_done_eq : cf__law_may_be_done = cfOf 0 [false, false, false] sem__law_may_be_done := by unfold cf__law_may_be_done; rw [hid_eq]
/- _law_no_job(desk, row); slots: 0 desk, 1 row, 2 refused -/
def sem__law_no_job : SF :=
  (sSeq (sSet 2 (eP (pC (.bl false))))
    (sSeq (sTryN ["NoRow"] (sExpr (eMethX 0 "Desk" ["keeper"] [true, false] DCW.cf_Desk_say (aE (eMv 1) aNil))) (sSet 2 (eP (pC (.bl true)))))
    (sRet (eMv 2))))
@[irreducible] def cf__law_no_job : CF := hid (cfN 1 [true, false] sem__law_no_job)
theorem cf__law_no_job_eq : cf__law_no_job = cfN 1 [true, false] sem__law_no_job := by unfold cf__law_no_job; rw [hid_eq]
/- law(script); slots: 0 script, 1 bag, 2 many, 3 states, 4 desks, 5 k, 6 turn, 7 which, 8 word, 9 handed, 10 some, 11 row -/
def sem_law : SF :=
  (sSeq (sSet 1 (eP (pFn DCA.cf__law_bag (gCons (pVar 0) gNil))))
    (sSeq (sSet 2 (eOp oAdd (eP (pC (.int 1))) (eFn [true, false] DCA.cf__law_dip (aPl 1 (aE (eP (pC (.int 8))) aNil)))))
    (sBar (sSeq (sSet 3 (eLst (aE (eP (pFn DCV.cf__law_bare (gCons (pVar 2) gNil))) (aE (eFn [false] DCV.cf__law_bare (aE (eOp xIx (eLst (aE (eMv 2) (aE (eOp oAdd (eP (pC (.int 1))) (eFn [true, false] DCA.cf__law_dip (aPl 1 (aE (eP (pC (.int 8))) aNil)))) aNil))) (eFn [true, false] DCA.cf__law_dip (aPl 1 (aE (eP (pC (.int 2))) aNil)))) aNil)) aNil))))
    (sBar (sSeq (sSet 4 (eLst (aE (eMakeX "Desk" DCV.cf_Desk___init__ aNil) (aE (eMakeX "Desk" DCV.cf_Desk___init__ aNil) (aE (eMakeX "Desk" DCV.cf_Desk___init__ aNil) aNil)))))
    (sBar (sSeq (sForX (jR1 (gCons (pC (.int 2)) gNil)) (gNm 5) (sIf (teNot (eTest (eFnP DCW.cf__law_said (plIxX (plVar 4) (pVar 5)) (gCons (pOp oAdd (pC (.str "job ")) (pCall oStr (gCons (pCall oLen (gCons (pKey "laying" (pOp xIx (pVar 3) (pVar 5))) gNil)) gNil))) (gCons (pC (.str "ok")) gNil))))) (sRet (eP (pC (.bl false)))) sNil))
    (sSeq (sForRE (eOp oAdd (eP (pC (.int 12))) (eFn [true, false] DCA.cf__law_dip (aPl 1 (aE (eP (pC (.int 20))) aNil)))) (gNm 6) (sSeq (sSet 7 (eFn [true, false] DCA.cf__law_dip (aPl 1 (aE (eP (pC (.int 2))) aNil))))
    (sBar (sSeq (sVw 3 (sAsg (eFn [true, false] DCJ.cf__law_deed (aPl 1 (aE (eR (pOp xIx (pVar 3) (pVar 7))) aNil))) (gTu 2 (tConsG (gNm 8) (tConsG (gNm 9) tNilG)))))
    (sBar (sSeq (sSet 10 (eP (pLst (gCons (pVar 7) gNil))))
    (sBar (sSeq (sIf (teAnd (eTest (eOp oEq (eFn [true, false] DCA.cf__law_dip (aPl 1 (aE (eP (pC (.int 3))) aNil))) (eP (pC (.int 0))))) (teP (pTest (pFn cf__law_may_be_done (gCons (pOp xIx (pVar 3) (pOp oSub (pC (.int 1)) (pVar 7))) (gCons (pVar 8) (gCons (pVar 9) gNil))))))) (sSet 10 (eP (pLst (gCons (pVar 7) (gCons (pOp oSub (pC (.int 1)) (pVar 7)) gNil))))) sNil)
    (sFrz 10 (sBar (sSeq (sForX (iSq (pVar 10)) (gNm 5) (sIf (teNot (eTest (eHold [true, false, false] DCW.cf__law_said [] (plIxX (plVar 4) (pVar 5)) (aE (eP (pFn DCV.cf__law_row_of (gCons (pVar 8) (gCons (pVar 9) gNil)))) (aE (eFnP DCV.cf__law_due (plIxX (plVar 3) (pVar 5)) (gCons (pVar 8) (gCons (pVar 9) gNil))) aNil))))) (sRet (eP (pC (.bl false)))) sNil))
    (sBar (sVw 3 (sIf (teOr (teNot (eTest (fun ρ P PX => (∃ kd, ρ[1]? = some (some kd)) ∧ eHold [true, true, false] DCW.cf__law_looked [1] (plIxX (plVar 4) (pC (.int 0))) (aE (eR (pOp xIx (pVar 3) (pC (.int 0)))) aNil) ρ P PX))) (teNot (eTest (fun ρ P PX => (∃ kd, ρ[1]? = some (some kd)) ∧ eHold [true, true, false] DCW.cf__law_looked [1] (plIxX (plVar 4) (pC (.int 1))) (aE (eR (pOp xIx (pVar 3) (pC (.int 1)))) aNil) ρ P PX)))) (sRet (eP (pC (.bl false)))) sNil))))))))))))))
    (sBar (sRet (eCallB oAll (aE (eLcX (iSq (pLst (gCons (pC (.str "total")) (gCons (pC (.str "laying")) (gCons (pC (.str "show")) (gCons (pC (.str "back")) (gCons (pC (.str "better")) (gCons (pC (.str "swap 0 0")) gNil)))))))) [11] (gNm 11) tNilP (eFnP cf__law_no_job (plIxX (plVar 4) (pC (.int 2))) (gCons (pVar 11) gNil))) aNil)))))))))))))
@[irreducible] def cf_law : CF := hid (cfOf 11 [false] sem_law)
theorem cf_law_eq : cf_law = cfOf 11 [false] sem_law := by unfold cf_law; rw [hid_eq]
end
structure Facts (w : World) (K : PySem.W.Frag) (mg : Str → Option Value) where
  f__law_bag : Addr
  d__law_bag : FuncData
  F__law_bag : FnP K "_law_bag" "_law_bag" s__law_bag f__law_bag d__law_bag
  g__law_bag : mg "_law_bag" = some (.ref f__law_bag)
  f__law_dip : Addr
  d__law_dip : FuncData
  F__law_dip : FnP K "_law_dip" "_law_dip" s__law_dip f__law_dip d__law_dip
  g__law_dip : mg "_law_dip" = some (.ref f__law_dip)
  f__law_begun : Addr
  d__law_begun : FuncData
  F__law_begun : FnP K "_law_begun" "_law_begun" s__law_begun f__law_begun d__law_begun
  g__law_begun : mg "_law_begun" = some (.ref f__law_begun)
  f__law_bare : Addr
  d__law_bare : FuncData
  F__law_bare : FnP K "_law_bare" "_law_bare" s__law_bare f__law_bare d__law_bare
  g__law_bare : mg "_law_bare" = some (.ref f__law_bare)
  f_Desk___init__ : Addr
  d_Desk___init__ : FuncData
  F_Desk___init__ : FnP K "__init__" "Desk.__init__" s_Desk___init__ f_Desk___init__ d_Desk___init__
  f_number_in : Addr
  d_number_in : FuncData
  F_number_in : FnP K "number_in" "number_in" s_number_in f_number_in d_number_in
  g_number_in : mg "number_in" = some (.ref f_number_in)
  f_is_number : Addr
  d_is_number : FuncData
  F_is_number : FnP K "is_number" "is_number" s_is_number f_is_number d_is_number
  g_is_number : mg "is_number" = some (.ref f_is_number)
  f_is_row : Addr
  d_is_row : FuncData
  F_is_row : FnP K "is_row" "is_row" s_is_row f_is_row d_is_row
  g_is_row : mg "is_row" = some (.ref f_is_row)
  f_is_square : Addr
  d_is_square : FuncData
  F_is_square : FnP K "is_square" "is_square" s_is_square f_is_square d_is_square
  g_is_square : mg "is_square" = some (.ref f_is_square)
  f_is_job : Addr
  d_is_job : FuncData
  F_is_job : FnP K "is_job" "is_job" s_is_job f_is_job d_is_job
  g_is_job : mg "is_job" = some (.ref f_is_job)
  f_is_part : Addr
  d_is_part : FuncData
  F_is_part : FnP K "is_part" "is_part" s_is_part f_is_part d_is_part
  g_is_part : mg "is_part" = some (.ref f_is_part)
  f_is_laying : Addr
  d_is_laying : FuncData
  F_is_laying : FnP K "is_laying" "is_laying" s_is_laying f_is_laying d_is_laying
  g_is_laying : mg "is_laying" = some (.ref f_is_laying)
  f_Keeper___init__ : Addr
  d_Keeper___init__ : FuncData
  F_Keeper___init__ : FnP K "__init__" "Keeper.__init__" s_Keeper___init__ f_Keeper___init__ d_Keeper___init__
  f_empty_job : Addr
  d_empty_job : FuncData
  F_empty_job : FnP K "empty_job" "empty_job" s_empty_job f_empty_job d_empty_job
  g_empty_job : mg "empty_job" = some (.ref f_empty_job)
  f_Desk_begin : Addr
  d_Desk_begin : FuncData
  F_Desk_begin : FnP K "begin" "Desk.begin" s_Desk_begin f_Desk_begin d_Desk_begin
  me_Desk_begin : Meth K (He.ga K "Desk") "begin" f_Desk_begin
  f_Keeper_job : Addr
  d_Keeper_job : FuncData
  F_Keeper_job : FnP K "job" "Keeper.job" s_Keeper_job f_Keeper_job d_Keeper_job
  me_Keeper_job : Meth K (He.ga K "Keeper") "job" f_Keeper_job
  f_words_of : Addr
  d_words_of : FuncData
  F_words_of : FnP K "words_of" "words_of" s_words_of f_words_of d_words_of
  g_words_of : mg "words_of" = some (.ref f_words_of)
  f_Keeper_laying : Addr
  d_Keeper_laying : FuncData
  F_Keeper_laying : FnP K "laying" "Keeper.laying" s_Keeper_laying f_Keeper_laying d_Keeper_laying
  me_Keeper_laying : Meth K (He.ga K "Keeper") "laying" f_Keeper_laying
  f_rows_of : Addr
  d_rows_of : FuncData
  F_rows_of : FnP K "rows_of" "rows_of" s_rows_of f_rows_of d_rows_of
  g_rows_of : mg "rows_of" = some (.ref f_rows_of)
  f_Desk_told : Addr
  d_Desk_told : FuncData
  F_Desk_told : FnP K "told" "Desk.told" s_Desk_told f_Desk_told d_Desk_told
  me_Desk_told : Meth K (He.ga K "Desk") "told" f_Desk_told
  f_fixed : Addr
  d_fixed : FuncData
  F_fixed : FnP K "fixed" "fixed" s_fixed f_fixed d_fixed
  g_fixed : mg "fixed" = some (.ref f_fixed)
  f_cost_jobs : Addr
  d_cost_jobs : FuncData
  F_cost_jobs : FnP K "cost" "cost" s_cost_jobs f_cost_jobs d_cost_jobs
  g_cost_jobs : mg "cost_jobs" = some (.ref f_cost_jobs)
  f_Keeper_cost : Addr
  d_Keeper_cost : FuncData
  F_Keeper_cost : FnP K "cost" "Keeper.cost" s_Keeper_cost f_Keeper_cost d_Keeper_cost
  me_Keeper_cost : Meth K (He.ga K "Keeper") "cost" f_Keeper_cost
  f_beside_saved : Addr
  d_beside_saved : FuncData
  F_beside_saved : FnP K "beside_saved" "beside_saved" s_beside_saved f_beside_saved d_beside_saved
  g_beside_saved : mg "beside_saved" = some (.ref f_beside_saved)
  f_saved : Addr
  d_saved : FuncData
  F_saved : FnP K "saved" "saved" s_saved f_saved d_saved
  g_saved : mg "saved" = some (.ref f_saved)
  f_Keeper_need_work : Addr
  d_Keeper_need_work : FuncData
  F_Keeper_need_work : FnP K "need_work" "Keeper.need_work" s_Keeper_need_work f_Keeper_need_work d_Keeper_need_work
  me_Keeper_need_work : Meth K (He.ga K "Keeper") "need_work" f_Keeper_need_work
  f_Keeper_turn_to : Addr
  d_Keeper_turn_to : FuncData
  F_Keeper_turn_to : FnP K "turn_to" "Keeper.turn_to" s_Keeper_turn_to f_Keeper_turn_to d_Keeper_turn_to
  me_Keeper_turn_to : Meth K (He.ga K "Keeper") "turn_to" f_Keeper_turn_to
  f_exchanged : Addr
  d_exchanged : FuncData
  F_exchanged : FnP K "exchanged" "exchanged" s_exchanged f_exchanged d_exchanged
  g_exchanged : mg "exchanged" = some (.ref f_exchanged)
  f_Keeper_swap : Addr
  d_Keeper_swap : FuncData
  F_Keeper_swap : FnP K "swap" "Keeper.swap" s_Keeper_swap f_Keeper_swap d_Keeper_swap
  me_Keeper_swap : Meth K (He.ga K "Keeper") "swap" f_Keeper_swap
  f_Keeper_better : Addr
  d_Keeper_better : FuncData
  F_Keeper_better : FnP K "better" "Keeper.better" s_Keeper_better f_Keeper_better d_Keeper_better
  me_Keeper_better : Meth K (He.ga K "Keeper") "better" f_Keeper_better
  f_Keeper_need_two : Addr
  d_Keeper_need_two : FuncData
  F_Keeper_need_two : FnP K "need_two" "Keeper.need_two" s_Keeper_need_two f_Keeper_need_two d_Keeper_need_two
  me_Keeper_need_two : Meth K (He.ga K "Keeper") "need_two" f_Keeper_need_two
  f_need_number : Addr
  d_need_number : FuncData
  F_need_number : FnP K "need_number" "need_number" s_need_number f_need_number d_need_number
  g_need_number : mg "need_number" = some (.ref f_need_number)
  f_with_number : Addr
  d_with_number : FuncData
  F_with_number : FnP K "with_number" "with_number" s_with_number f_with_number d_with_number
  g_with_number : mg "with_number" = some (.ref f_with_number)
  f_Keeper_flow : Addr
  d_Keeper_flow : FuncData
  F_Keeper_flow : FnP K "flow" "Keeper.flow" s_Keeper_flow f_Keeper_flow d_Keeper_flow
  me_Keeper_flow : Meth K (He.ga K "Keeper") "flow" f_Keeper_flow
  f_Keeper_way : Addr
  d_Keeper_way : FuncData
  F_Keeper_way : FnP K "way" "Keeper.way" s_Keeper_way f_Keeper_way d_Keeper_way
  me_Keeper_way : Meth K (He.ga K "Keeper") "way" f_Keeper_way
  f_Keeper_charge : Addr
  d_Keeper_charge : FuncData
  F_Keeper_charge : FnP K "charge" "Keeper.charge" s_Keeper_charge f_Keeper_charge d_Keeper_charge
  me_Keeper_charge : Meth K (He.ga K "Keeper") "charge" f_Keeper_charge
  f_Keeper_back : Addr
  d_Keeper_back : FuncData
  F_Keeper_back : FnP K "back" "Keeper.back" s_Keeper_back f_Keeper_back d_Keeper_back
  me_Keeper_back : Meth K (He.ga K "Keeper") "back" f_Keeper_back
  f_Desk_done : Addr
  d_Desk_done : FuncData
  F_Desk_done : FnP K "done" "Desk.done" s_Desk_done f_Desk_done d_Desk_done
  me_Desk_done : Meth K (He.ga K "Desk") "done" f_Desk_done
  f_Desk_say : Addr
  d_Desk_say : FuncData
  F_Desk_say : FnP K "say" "Desk.say" s_Desk_say f_Desk_say d_Desk_say
  me_Desk_say : Meth K (He.ga K "Desk") "say" f_Desk_say
  f__law_said : Addr
  d__law_said : FuncData
  F__law_said : FnP K "_law_said" "_law_said" s__law_said f__law_said d__law_said
  g__law_said : mg "_law_said" = some (.ref f__law_said)
  f__law_deed : Addr
  d__law_deed : FuncData
  F__law_deed : FnP K "_law_deed" "_law_deed" s__law_deed f__law_deed d__law_deed
  g__law_deed : mg "_law_deed" = some (.ref f__law_deed)
  f__law_may_be_done : Addr
  d__law_may_be_done : FuncData
  F__law_may_be_done : FnP K "_law_may_be_done" "_law_may_be_done" s__law_may_be_done f__law_may_be_done d__law_may_be_done
  g__law_may_be_done : mg "_law_may_be_done" = some (.ref f__law_may_be_done)
  f__law_row_of : Addr
  d__law_row_of : FuncData
  F__law_row_of : FnP K "_law_row_of" "_law_row_of" s__law_row_of f__law_row_of d__law_row_of
  g__law_row_of : mg "_law_row_of" = some (.ref f__law_row_of)
  f__law_price : Addr
  d__law_price : FuncData
  F__law_price : FnP K "_law_price" "_law_price" s__law_price f__law_price d__law_price
  g__law_price : mg "_law_price" = some (.ref f__law_price)
  f__law_best : Addr
  d__law_best : FuncData
  F__law_best : FnP K "_law_best" "_law_best" s__law_best f__law_best d__law_best
  g__law_best : mg "_law_best" = some (.ref f__law_best)
  f__law_past : Addr
  d__law_past : FuncData
  F__law_past : FnP K "_law_past" "_law_past" s__law_past f__law_past d__law_past
  g__law_past : mg "_law_past" = some (.ref f__law_past)
  f__law_swapped : Addr
  d__law_swapped : FuncData
  F__law_swapped : FnP K "_law_swapped" "_law_swapped" s__law_swapped f__law_swapped d__law_swapped
  g__law_swapped : mg "_law_swapped" = some (.ref f__law_swapped)
  f__law_done : Addr
  d__law_done : FuncData
  F__law_done : FnP K "_law_done" "_law_done" s__law_done f__law_done d__law_done
  g__law_done : mg "_law_done" = some (.ref f__law_done)
  f__law_due : Addr
  d__law_due : FuncData
  F__law_due : FnP K "_law_due" "_law_due" s__law_due f__law_due d__law_due
  g__law_due : mg "_law_due" = some (.ref f__law_due)
  f__law_rows : Addr
  d__law_rows : FuncData
  F__law_rows : FnP K "_law_rows" "_law_rows" s__law_rows f__law_rows d__law_rows
  g__law_rows : mg "_law_rows" = some (.ref f__law_rows)
  f__law_shown : Addr
  d__law_shown : FuncData
  F__law_shown : FnP K "_law_shown" "_law_shown" s__law_shown f__law_shown d__law_shown
  g__law_shown : mg "_law_shown" = some (.ref f__law_shown)
  f__law_looked : Addr
  d__law_looked : FuncData
  F__law_looked : FnP K "_law_looked" "_law_looked" s__law_looked f__law_looked d__law_looked
  g__law_looked : mg "_law_looked" = some (.ref f__law_looked)
  f__law_no_job : Addr
  d__law_no_job : FuncData
  F__law_no_job : FnP K "_law_no_job" "_law_no_job" s__law_no_job f__law_no_job d__law_no_job
  g__law_no_job : mg "_law_no_job" = some (.ref f__law_no_job)
  f_law : Addr
  d_law : FuncData
  F_law : FnP K "law" "law" s_law f_law d_law
  g_law : mg "law" = some (.ref f_law)
  g_Desk : mg "Desk" = some (.ref (He.ga K "Desk"))
  c_Desk : Cls K (He.ga K "Desk")
  k_Desk : Mk K (He.ga K "Desk") f_Desk___init__
  g_Keeper : mg "Keeper" = some (.ref (He.ga K "Keeper"))
  c_Keeper : Cls K (He.ga K "Keeper")
  k_Keeper : Mk K (He.ga K "Keeper") f_Keeper___init__
  g_NoJob : mg "NoJob" = some (.ref (He.ga K "NoJob"))
  e_NoJob : PySem.W.excIn K (He.ga K "NoJob") He.veBase "ValueError.__new__" = true ∧ PySem.W.keepIn K (.ref (He.ga K "NoJob")) = true ∧ PySem.W.subIn K (.ref (He.ga K "NoJob")) (.type "BaseException") = some true ∧ PySem.W.typeIn K (.ref (He.ga K "NoJob")) = some (.type "type")
  g_NoLaying : mg "NoLaying" = some (.ref (He.ga K "NoLaying"))
  e_NoLaying : PySem.W.excIn K (He.ga K "NoLaying") He.veBase "ValueError.__new__" = true ∧ PySem.W.keepIn K (.ref (He.ga K "NoLaying")) = true ∧ PySem.W.subIn K (.ref (He.ga K "NoLaying")) (.type "BaseException") = some true ∧ PySem.W.typeIn K (.ref (He.ga K "NoLaying")) = some (.type "type")
  g_NoNumber : mg "NoNumber" = some (.ref (He.ga K "NoNumber"))
  e_NoNumber : PySem.W.excIn K (He.ga K "NoNumber") He.veBase "ValueError.__new__" = true ∧ PySem.W.keepIn K (.ref (He.ga K "NoNumber")) = true ∧ PySem.W.subIn K (.ref (He.ga K "NoNumber")) (.type "BaseException") = some true ∧ PySem.W.typeIn K (.ref (He.ga K "NoNumber")) = some (.type "type")
  e_NoRow : PySem.W.excIn K (He.ga K "NoRow") He.veBase "ValueError.__new__" = true ∧ PySem.W.keepIn K (.ref (He.ga K "NoRow")) = true ∧ PySem.W.subIn K (.ref (He.ga K "NoRow")) (.type "BaseException") = some true ∧ PySem.W.typeIn K (.ref (He.ga K "NoRow")) = some (.type "type")
  g_NoWork : mg "NoWork" = some (.ref (He.ga K "NoWork"))
  e_NoWork : PySem.W.excIn K (He.ga K "NoWork") He.veBase "ValueError.__new__" = true ∧ PySem.W.keepIn K (.ref (He.ga K "NoWork")) = true ∧ PySem.W.subIn K (.ref (He.ga K "NoWork")) (.type "BaseException") = some true ∧ PySem.W.typeIn K (.ref (He.ga K "NoWork")) = some (.type "type")
  g_Nothing : mg "Nothing" = some (.ref (He.ga K "Nothing"))
  e_Nothing : PySem.W.excIn K (He.ga K "Nothing") He.veBase "ValueError.__new__" = true ∧ PySem.W.keepIn K (.ref (He.ga K "Nothing")) = true ∧ PySem.W.subIn K (.ref (He.ga K "Nothing")) (.type "BaseException") = some true ∧ PySem.W.typeIn K (.ref (He.ga K "Nothing")) = some (.type "type")
  g_NoRow : mg "NoRow" = some (.ref (He.ga K "NoRow"))
  x_NoRow_NoRow : PySem.W.exmOne K (.ref (He.ga K "NoRow")) (.ref (He.ga K "NoRow")) = some true
  na_Desk_keeper : NoAttr K (He.ga K "Desk") "keeper"
  na_Keeper_laid : NoAttr K (He.ga K "Keeper") "laid"
  na_Keeper_now : NoAttr K (He.ga K "Keeper") "now"
  na_Keeper_past : NoAttr K (He.ga K "Keeper") "past"
  i_MOST_COST : ∃ t, mg "MOST_COST" = some (.int 1000000 t)
  i_MOST_SENT : ∃ t, mg "MOST_SENT" = some (.int 999 t)
  i_MOST_WORKS_jobs : ∃ t, mg "MOST_WORKS_jobs" = some (.int 8 t)
  z_FIGURES : ∃ t, mg "FIGURES" = some (.str "0123456789" t)
  g_HANDED : mg "HANDED" = some (.ref (He.ga K "HANDED"))
  t_HANDED : TabK K w "HANDED" [("job", 1), ("flow", 3), ("way", 3), ("cost", 3), ("swap", 2), ("back", 0), ("better", 0), ("total", 0)]
  g_ASKED : mg "ASKED" = some (.ref (He.ga K "ASKED"))
  l_ASKED : SqL K (fun _ => none) (He.ga K "ASKED") ((["laying", "bound", "mean", "least", "line", "hub", "show"] : List Str).map V.str)
  g_NAMES : mg "NAMES" = some (.ref (He.ga K "NAMES"))
  l_NAMES : SqL K (fun _ => none) (He.ga K "NAMES") ((["flow", "way", "cost"] : List Str).map V.str)
  m_abs : mg "abs" = none
  m_all : mg "all" = none
  m_bool : mg "bool" = none
  m_enumerate : mg "enumerate" = none
  m_int : mg "int" = none
  m_isinstance : mg "isinstance" = none
  m_len : mg "len" = none
  m_list : mg "list" = none
  m_max : mg "max" = none
  m_range : mg "range" = none
  m_set : mg "set" = none
  m_str : mg "str" = none
  m_sum : mg "sum" = none
  m_tuple : mg "tuple" = none
  m_zip : mg "zip" = none
section
variable {P : Program} {w : World} {K : PySem.W.Frag} {mg : Str → Option Value} {base : Heap}
theorem ok__law_bag (L : Facts w K mg) : GOk P w K mg base CX0 1 L.f__law_bag ["script"] (spOf K 1 [false] DCA.cf__law_bag) := DCA.cf__law_bag_eq ▸
  cf_okG L.F__law_bag b__law_bag sc__law_bag rfl rfl fun cdv A outer s H E hr => have hN := (sc__law_bag).nd
    (dss_cons (ds_set 1 hN (de_p dp_int))
      (dss_cons (DS.as (eq3 sForX_eq _ _ _) (ds_for PassesOwn.never (by rfl) (di_seq (dp_var 0)) (dg_name 2 hN) (dss_one (ds_set 1 hN (de_p (dp_op op_mod os_mod (dp_op op_addAll os_add (dp_op op_mulAll os_mul (dp_var 1) dp_int) (dp_var 2)) dp_int))))))
      (dss_one (ds_ret (de_p (dp_lst (da_cons (dp_callTy call_list_of cs_list (by rfl) L.m_list bt_list (da_cons (dp_var 0) da_nil)) (da_cons dp_int (da_cons (dp_var 1) da_nil)))))))))
theorem ok__law_dip (L : Facts w K mg) : GOk P w K mg base CX0 1 L.f__law_dip ["bag", "many"] (spOf K 2 [true, false] DCA.cf__law_dip) := DCA.cf__law_dip_eq ▸
  cf_okG L.F__law_dip b__law_dip sc__law_dip rfl rfl fun cdv A outer s H E hr => have hN := (sc__law_dip).nd
    (dss_cons (ds_if (dte_p (DW.dt (dw_and (dt_cmp (op_eqAll hr.units) os_eq (DP.as (eqIx _ _) (dp_ix (dp_var 0) dp_int)) dp_int (by rfl)) (dw_and1 (dt_cmp op_gt os_gt (dp_callB call_len cs_len (by rfl) L.m_len bt_len (da_cons (DP.as (eqIx _ _) (dp_ix (dp_var 0) dp_int)) da_nil)) dp_int (by rfl)))))) (dss_cons (ds_set 2 hN (de_mthP PySem.F.plainAttrs_list PySem.F.slot_list_pop PySem.F.type_list_pop mt_popAt xs_popAt (DPl.as (eq2 plIxX_eq _ _) (dpl_ix (dpl_var 0) dp_int)) (da_cons dp_int da_nil)))
      (dss_cons (ds_if (dte_p (dt_cmp op_lt os_lt (dp_callB call_abs cs_abs (by rfl) L.m_abs bt_abs (da_cons (dp_var 2) da_nil)) (dp_op op_pow os_pow dp_int dp_int) (by rfl))) (dss_one (ds_ret (de_p (dp_op op_mod os_mod (dp_var 2) (dp_var 1))))) dss_nil)
      (dss_one (DS.as (eq3 sStIxX_eq _ _ _) (ds_stIx (de_p (dp_callB call_abs cs_abs (by rfl) L.m_abs bt_abs (da_cons (dp_var 2) da_nil))) (dpl_var 0) dp_int))))) dss_nil)
      (dss_cons (ds_if (dte_p (dt_cmp op_gt os_gt (DP.as (eqIx _ _) (dp_ix (dp_var 0) dp_int)) dp_int (by rfl))) (dss_cons (ds_set 3 hN (de_p (dp_op op_mod os_mod (DP.as (eqIx _ _) (dp_ix (dp_var 0) dp_int)) (dp_var 1))))
      (dss_cons (DS.as (eq3 sStIxX_eq _ _ _) (ds_stIx (de_p (dp_op op_fdivA os_fdiv (DP.as (eqIx _ _) (dp_ix (dp_var 0) dp_int)) (dp_var 1))) (dpl_var 0) dp_int))
      (dss_one (ds_ret (de_mv 3))))) dss_nil)
      (dss_cons (DS.as (eq3 sStIxX_eq _ _ _) (ds_stIx (de_p (dp_op op_mod os_mod (dp_op op_addAll os_add (dp_op op_mulAll os_mul (DP.as (eqIx _ _) (dp_ix (dp_var 0) dp_int)) (DP.as (eqIx _ _) (dp_ix (dp_var 0) dp_int))) dp_int) dp_int)) (dpl_var 0) dp_int))
      (dss_one (ds_ret (de_p (dp_op op_mod os_mod (dp_op op_fdivA os_fdiv (DP.as (eqIx _ _) (dp_ix (dp_var 0) dp_int)) dp_int) (dp_var 1))))))))
theorem ok__law_begun (L : Facts w K mg) : GOk P w K mg base CX0 1 L.f__law_begun ["squares", "laying"] (spOf K 2 [false, false] DCJ.cf__law_begun) := DCJ.cf__law_begun_eq ▸
  cf_okG L.F__law_begun b__law_begun sc__law_begun rfl rfl fun cdv A outer s H E hr => have hN := (sc__law_begun).nd
    (dss_one (ds_ret (de_dsp (dpk_cons (de_mv 0) (dpk_cons (de_p (dp_callTy call_list_of cs_list (by rfl) L.m_list bt_list (da_cons (dp_var 1) da_nil))) (dpk_cons (de_p (dp_lst da_nil)) dpk_nil))))))
theorem ok__law_bare (L : Facts w K mg) : GOk P w K mg base CX0 2 L.f__law_bare ["many"] (spOf K 1 [false] DCV.cf__law_bare) := DCV.cf__law_bare_eq ▸
  cf_okG L.F__law_bare b__law_bare sc__law_bare rfl rfl fun cdv A outer s H E hr => have hN := (sc__law_bare).nd
    (dss_one (ds_ret (de_callG (ok__law_begun L) (hr.mono (by decide)) (by rfl) L.g__law_begun L.F__law_begun.kp pass0 (dae_e (de_p (DP.as (eq5 pLcX_eq _ _ _ _ _) (dp_lc (by rfl) hN (DI.as (eq1 jR1_eq _) (di_range1 (by rfl) L.m_range (da_cons dp_int da_nil))) (blkOk_by (own := [("j", 1)]) (by kernel_rfl)) (fun _ _ _ _ _ => (dg_name 1 hN)) (fun _ _ _ _ _ => dts_nil) (fun _ _ _ _ _ => (DP.as (eq5 pLcX_eq _ _ _ _ _) (dp_lc (by rfl) hN (DI.as (eq1 jR1_eq _) (di_range1 (by rfl) L.m_range (da_cons (dp_var 0) da_nil))) (blkOk_by (own := [("k", 2)]) (by kernel_rfl)) (fun _ _ _ _ _ => (dg_name 2 hN)) (fun _ _ _ _ _ => dts_nil) (fun _ _ _ _ _ => (dp_op op_mulAll os_mul (dp_lst (da_cons dp_int da_nil)) (dp_var 0))))))))) (dae_e (de_p (DP.as (eq1 pLR1X_eq _) (dp_listRg1 (dp_var 0) (by rfl) (by rfl) L.m_list (by rfl) L.m_range))) dae_nil)))))
theorem ok_Desk___init__ (L : Facts w K mg) : GOk P w K mg base CX0 1 L.f_Desk___init__ ["self"] (spOf K 1 [true] DCV.cf_Desk___init__) := DCV.cf_Desk___init___eq ▸
  cf_okG L.F_Desk___init__ b_Desk___init__ sc_Desk___init__ rfl rfl fun cdv A outer s H E hr => have hN := (sc_Desk___init__).nd
    (dss_one (ds_fldN L.c_Desk L.na_Desk_keeper (by decide) (by decide) (de_p dp_non) (dpl_var 0)))
theorem ok_number_in (L : Facts w K mg) : GOk P w K mg base CX0 1 L.f_number_in ["word"] (spOf K 1 [false] DCI.cf_number_in) := DCI.cf_number_in_eq ▸
  cf_okG L.F_number_in b_number_in sc_number_in rfl rfl fun cdv A outer s H E hr => have hN := (sc_number_in).nd
    (dss_cons (ds_if (dte_p (DW.dt (dw_or (dt_not (dt_chain op_le op_le os_le os_le dp_int (dp_callB call_len cs_len (by rfl) L.m_len bt_len (da_cons (dp_var 0) da_nil)) dp_int)) (dw_or1 (dt_not (dt_val (dp_callB (cr_all (by rfl)) cs_all (by rfl) L.m_all bt_all (da_cons (DP.as (eq5 pLcX_eq _ _ _ _ _) (dp_lc (by rfl) hN (di_str (dp_var 0)) (blkOk_by (own := [("sign", 1)]) (by kernel_rfl)) (fun _ _ _ _ _ => (dg_name 1 hN)) (fun _ _ _ _ _ => dts_nil) (fun _ _ _ _ _ => (dp_cmp op_in_str os_inS (dp_var 1) (dp_gstr (by rfl) L.z_FIGURES) (by rfl))))) da_nil)))))))) (dss_one (ds_ret (de_p dp_non))) dss_nil)
      (dss_cons (ds_if (dte_p (DW.dt (dw_and (dt_cmp (op_eqAll hr.units) os_eq (DP.as (eqIx _ _) (dp_ix (dp_var 0) dp_int)) dp_str (by rfl)) (dw_and1 (dt_cmp (op_neAll hr.units) os_ne (dp_var 0) dp_str (by rfl)))))) (dss_one (ds_ret (de_p dp_non))) dss_nil)
      (dss_one (ds_ret (de_p (dp_callTy call_int_str cs_intS (by rfl) L.m_int bt_int (da_cons (dp_var 0) da_nil)))))))
theorem ok_is_number (L : Facts w K mg) : GOk P w K mg base CX0 1 L.f_is_number ["thing", "most"] (spOf K 2 [false, false] DCF.cf_is_number) := DCF.cf_is_number_eq ▸
  cf_okG L.F_is_number b_is_number sc_is_number rfl rfl fun cdv A outer s H E hr => have hN := (sc_is_number).nd
    (dss_one (ds_ret (de_p (dp_and (dp_isI .int (dp_var 0) (by rfl) L.m_isinstance (by rfl) L.m_int bt_int) (dp_and (dp_not (dp_isI .bool (dp_var 0) (by rfl) L.m_isinstance (by rfl) L.m_bool bt_bool)) (dp_one (dp_chain op_le op_le os_le os_le dp_int (dp_var 0) (dp_var 1))))))))
theorem ok_is_row (L : Facts w K mg) : GOk P w K mg base CX0 2 L.f_is_row ["thing", "many", "most"] (spOf K 3 [false, false, false] DCF.cf_is_row) := DCF.cf_is_row_eq ▸
  cf_okG L.F_is_row b_is_row sc_is_row rfl rfl fun cdv A outer s H E hr => have hN := (sc_is_row).nd
    (dss_one (ds_ret (de_p (dp_and (dp_isI .tup (dp_var 0) (by rfl) L.m_isinstance (by rfl) L.m_tuple bt_tuple) (dp_and (dp_cmp (op_eqAll hr.units) os_eq (dp_callB call_len cs_len (by rfl) L.m_len bt_len (da_cons (dp_var 0) da_nil)) (dp_var 1) (by rfl)) (dp_one (dp_callB (cr_all (by rfl)) cs_all (by rfl) L.m_all bt_all (da_cons (DP.as (eq5 pLcX_eq _ _ _ _ _) (dp_lc (by rfl) hN (di_seq (dp_var 0)) (blkOk_by (own := [("one", 3)]) (by kernel_rfl)) (fun _ _ _ _ _ => (dg_name 3 hN)) (fun _ _ _ _ _ => dts_nil) (fun _ _ _ _ _ => (dp_callG (ok_is_number L) (hr.mono (by decide)) (by rfl) L.g_is_number L.F_is_number.kp pass0 (da_cons (dp_var 3) (da_cons (dp_var 2) da_nil)))))) da_nil))))))))
theorem ok_is_square (L : Facts w K mg) : GOk P w K mg base CX0 3 L.f_is_square ["thing", "many", "most"] (spOf K 3 [false, false, false] DCF.cf_is_square) := DCF.cf_is_square_eq ▸
  cf_okG L.F_is_square b_is_square sc_is_square rfl rfl fun cdv A outer s H E hr => have hN := (sc_is_square).nd
    (dss_one (ds_ret (de_p (dp_and (dp_isI .tup (dp_var 0) (by rfl) L.m_isinstance (by rfl) L.m_tuple bt_tuple) (dp_and (dp_cmp (op_eqAll hr.units) os_eq (dp_callB call_len cs_len (by rfl) L.m_len bt_len (da_cons (dp_var 0) da_nil)) (dp_var 1) (by rfl)) (dp_one (dp_callB (cr_all (by rfl)) cs_all (by rfl) L.m_all bt_all (da_cons (DP.as (eq5 pLcX_eq _ _ _ _ _) (dp_lc (by rfl) hN (di_seq (dp_var 0)) (blkOk_by (own := [("row", 3)]) (by kernel_rfl)) (fun _ _ _ _ _ => (dg_name 3 hN)) (fun _ _ _ _ _ => dts_nil) (fun _ _ _ _ _ => (dp_callG (ok_is_row L) (hr.mono (by decide)) (by rfl) L.g_is_row L.F_is_row.kp pass0 (da_cons (dp_var 3) (da_cons (dp_var 1) (da_cons (dp_var 2) da_nil))))))) da_nil))))))))
theorem ok_is_job (L : Facts w K mg) : GOk P w K mg base CX0 4 L.f_is_job ["thing"] (spOf K 1 [false] DCV.cf_is_job) := DCV.cf_is_job_eq ▸
  cf_okG L.F_is_job b_is_job sc_is_job rfl rfl fun cdv A outer s H E hr => have hN := (sc_is_job).nd
    (dss_cons (ds_if (dte_p (DW.dt (dw_or (dt_not (dt_val (dp_isI .tup (dp_var 0) (by rfl) L.m_isinstance (by rfl) L.m_tuple bt_tuple))) (dw_or (dt_cmp (op_neAll hr.units) os_ne (dp_callB call_len cs_len (by rfl) L.m_len bt_len (da_cons (dp_var 0) da_nil)) dp_int (by rfl)) (dw_or1 (dt_not (dt_val (dp_isI .tup (DP.as (eqIx _ _) (dp_ix (dp_var 0) dp_int)) (by rfl) L.m_isinstance (by rfl) L.m_tuple bt_tuple)))))))) (dss_one (ds_ret (de_p dp_bl))) dss_nil)
      (dss_cons (ds_set 1 hN (de_p (dp_callB call_len cs_len (by rfl) L.m_len bt_len (da_cons (DP.as (eqIx _ _) (dp_ix (dp_var 0) dp_int)) da_nil))))
      (dss_cons (ds_if (dte_p (DW.dt (dw_or (dt_not (dt_chain op_le op_le os_le os_le dp_int (dp_var 1) (dp_gint (by rfl) L.i_MOST_WORKS_jobs))) (dw_or1 (dt_not (dt_val (dp_callG (ok_is_square L) (hr.mono (by decide)) (by rfl) L.g_is_square L.F_is_square.kp pass0 (da_cons (DP.as (eqIx _ _) (dp_ix (dp_var 0) dp_int)) (da_cons (dp_var 1) (da_cons (dp_gint (by rfl) L.i_MOST_SENT) da_nil)))))))))) (dss_one (ds_ret (de_p dp_bl))) dss_nil)
      (dss_cons (ds_if (dte_p (DW.dt (dw_or (dt_not (dt_val (dp_callG (ok_is_square L) (hr.mono (by decide)) (by rfl) L.g_is_square L.F_is_square.kp pass0 (da_cons (DP.as (eqIx _ _) (dp_ix (dp_var 0) dp_int)) (da_cons (dp_var 1) (da_cons (dp_gint (by rfl) L.i_MOST_SENT) da_nil)))))) (dw_or1 (dt_not (dt_val (dp_callG (ok_is_square L) (hr.mono (by decide)) (by rfl) L.g_is_square L.F_is_square.kp pass0 (da_cons (DP.as (eqIx _ _) (dp_ix (dp_var 0) dp_int)) (da_cons (dp_var 1) (da_cons (dp_gint (by rfl) L.i_MOST_COST) da_nil)))))))))) (dss_one (ds_ret (de_p dp_bl))) dss_nil)
      (dss_one (ds_ret (de_p (dp_callB (cr_all (by rfl)) cs_all (by rfl) L.m_all bt_all (da_cons (DP.as (eq5 pLcX_eq _ _ _ _ _) (dp_lc (by rfl) hN (DI.as (eq1 jR1_eq _) (di_range1 (by rfl) L.m_range (da_cons (dp_var 1) da_nil))) (blkOk_by (own := [("k", 2)]) (by kernel_rfl)) (fun _ _ _ _ _ => (dg_name 2 hN)) (fun _ _ _ _ _ => dts_nil) (fun _ _ _ _ _ => (dp_and (dp_cmp (op_eqAll hr.units) os_eq (DP.as (eqIx _ _) (dp_ix (DP.as (eqIx _ _) (dp_ix (DP.as (eqIx _ _) (dp_ix (dp_var 0) dp_int)) (dp_var 2))) (dp_var 2))) dp_int (by rfl)) (dp_one (dp_cmp (op_eqAll hr.units) os_eq (DP.as (eqIx _ _) (dp_ix (DP.as (eqIx _ _) (dp_ix (DP.as (eqIx _ _) (dp_ix (dp_var 0) dp_int)) (dp_var 2))) (dp_var 2))) dp_int (by rfl))))))) da_nil)))))))))
theorem ok_is_part (L : Facts w K mg) : GOk P w K mg base CX0 2 L.f_is_part ["job", "thing"] (spOf K 2 [false, false] DCF.cf_is_part) := DCF.cf_is_part_eq ▸
  cf_okG L.F_is_part b_is_part sc_is_part rfl rfl fun cdv A outer s H E hr => have hN := (sc_is_part).nd
    (dss_cons (ds_set 2 hN (de_p (dp_callB call_len cs_len (by rfl) L.m_len bt_len (da_cons (DP.as (eqIx _ _) (dp_ix (dp_var 0) dp_int)) da_nil))))
      (dss_cons (ds_if (dte_p (DW.dt (dw_or (dt_not (dt_val (dp_isI .tup (dp_var 1) (by rfl) L.m_isinstance (by rfl) L.m_tuple bt_tuple))) (dw_or1 (dt_cmp (op_neAll hr.units) os_ne (dp_callB call_len cs_len (by rfl) L.m_len bt_len (da_cons (dp_var 1) da_nil)) (dp_var 2) (by rfl)))))) (dss_one (ds_ret (de_p dp_bl))) dss_nil)
      (dss_cons (DS.as (eqSetLc _ _ _ _ _ _) (ds_setLc 3 (by rfl) hN (by decide) (by rfl) (by rfl) (sw_true (by rfl) (by rfl) (by rfl) (by decide +kernel)) (di_seq (dp_var 1)) (blkOk_by (own := [("place", 4)]) (by kernel_rfl)) (fun _ _ _ _ _ => (dg_name 4 hN)) (fun _ _ _ _ _ => (dts_one (dt_cmp op_notN os_notN (dp_var 4) dp_non (by rfl)))) (fun _ _ _ _ _ => (dp_var 4))))
      (dss_one (ds_ret (de_p (dp_and (dp_callB (cr_all (by rfl)) cs_all (by rfl) L.m_all bt_all (da_cons (DP.as (eq5 pLcX_eq _ _ _ _ _) (dp_lc (by rfl) hN (di_seq (dp_var 3)) (blkOk_by (own := [("place", 4)]) (by kernel_rfl)) (fun _ _ _ _ _ => (dg_name 4 hN)) (fun _ _ _ _ _ => dts_nil) (fun _ _ _ _ _ => (dp_callG (ok_is_number L) (hr.mono (by decide)) (by rfl) L.g_is_number L.F_is_number.kp pass0 (da_cons (dp_var 4) (da_cons (dp_op op_sub os_sub (dp_var 2) dp_int) da_nil)))))) da_nil)) (dp_one (dp_cmp (op_eqAll hr.units) os_eq (dp_lenSet (by rfl) (by rfl) L.m_len (by rfl) L.m_set (dp_var 3)) (dp_callB call_len cs_len (by rfl) L.m_len bt_len (da_cons (dp_var 3) da_nil)) (by rfl))))))))))
theorem ok_is_laying (L : Facts w K mg) : GOk P w K mg base CX0 3 L.f_is_laying ["job", "thing"] (spOf K 2 [false, false] DCF.cf_is_laying) := DCF.cf_is_laying_eq ▸
  cf_okG L.F_is_laying b_is_laying sc_is_laying rfl rfl fun cdv A outer s H E hr => have hN := (sc_is_laying).nd
    (dss_one (ds_ret (de_p (dp_and (dp_callG (ok_is_part L) (hr.mono (by decide)) (by rfl) L.g_is_part L.F_is_part.kp pass0 (da_cons (dp_var 0) (da_cons (dp_var 1) da_nil))) (dp_one (dp_cmp op_notIn_seq os_in dp_non (dp_var 1) (by rfl)))))))
theorem ok_Keeper___init__ (L : Facts w K mg) : GOk P w K mg base (L2.CX P w) 5 L.f_Keeper___init__ ["self", "job", "laying"] (spOf K 3 [true, false, false] DCV.cf_Keeper___init__) := DCV.cf_Keeper___init___eq ▸
  cf_okXG L.F_Keeper___init__ b_Keeper___init__ sc_Keeper___init__ rfl rfl fun cdv A outer s H E hr => have hN := (sc_Keeper___init__).nd
    (dss_cons (ds_if (dte_p (dt_not (dt_val (dp_callG (ok_is_job L) (hr.mono (by decide)) (by rfl) L.g_is_job L.F_is_job.kp pass0 (da_cons (dp_var 1) da_nil))))) (dss_one (ds_raise (by rfl) (takes_of rfl rfl rfl rfl) (by rfl) ⟨L.g_NoJob, L.e_NoJob⟩)) dss_nil)
      (dss_cons (ds_if (dte_p (dt_not (dt_val (dp_callG (ok_is_laying L) (hr.mono (by decide)) (by rfl) L.g_is_laying L.F_is_laying.kp pass0 (da_cons (dp_var 1) (da_cons (dp_var 2) da_nil)))))) (dss_one (ds_raise (by rfl) (takes_of rfl rfl rfl rfl) (by rfl) ⟨L.g_NoLaying, L.e_NoLaying⟩)) dss_nil)
      (dss_cons (ds_fldN L.c_Keeper L.na_Keeper_now (by decide) (by decide) (de_mv 1) (dpl_var 0))
      (dss_cons (ds_fldN L.c_Keeper L.na_Keeper_laid (by decide) (by decide) (de_mv 2) (dpl_var 0))
      (dss_one (ds_fldN L.c_Keeper L.na_Keeper_past (by decide) (by decide) (de_p (dp_lst da_nil)) (dpl_var 0)))))))
theorem ok_empty_job (L : Facts w K mg) : GOk P w K mg base CX0 1 L.f_empty_job ["many"] (spOf K 1 [false] DCV.cf_empty_job) := DCV.cf_empty_job_eq ▸
  cf_okG L.F_empty_job b_empty_job sc_empty_job rfl rfl fun cdv A outer s H E hr => have hN := (sc_empty_job).nd
    (dss_cons (ds_set 1 hN (de_p (dp_op op_mulAll os_mul (dp_tup (da_cons (dp_op op_mulAll os_mul (dp_tup (da_cons dp_int da_nil)) (dp_var 0)) da_nil)) (dp_var 0))))
      (dss_one (ds_ret (de_p (dp_tup (da_cons (dp_var 1) (da_cons (dp_var 1) (da_cons (dp_var 1) da_nil))))))))
theorem ok_Desk_begin (L : Facts w K mg) : GOk P w K mg base (L2.CX P w) 7 L.f_Desk_begin ["self", "many"] (spOf K 2 [true, false] DCV.cf_Desk_begin) := DCV.cf_Desk_begin_eq ▸
  cf_okXG L.F_Desk_begin b_Desk_begin sc_Desk_begin rfl rfl fun cdv A outer s H E hr => have hN := (sc_Desk_begin).nd
    (dss_cons (ds_if (dte_p (dt_not (dt_chain op_le op_le os_le os_le dp_int (dp_var 1) dp_int))) (dss_one (ds_raise (by rfl) (takes_of rfl rfl rfl rfl) (by rfl) ⟨L.g_NoRow, L.e_NoRow⟩)) dss_nil)
      (dss_cons (ds_fldS L.c_Desk L.na_Desk_keeper (by decide) (by rfl) (by decide) (de_makeX L.k_Keeper (ok_Keeper___init__ L) (by rfl) (hr.mono (by decide)) (by rfl) L.g_Keeper (passX (takes_of rfl rfl rfl rfl)) (dae_e (de_p (dp_callG (ok_empty_job L) (hr.mono (by decide)) (by rfl) L.g_empty_job L.F_empty_job.kp pass0 (da_cons (dp_var 1) da_nil))) (dae_e (de_p (DP.as (eq1 pTR1X_eq _) (dp_tupRg1 (dp_var 1) (by rfl) (by rfl) L.m_tuple (by rfl) L.m_range))) dae_nil))) (dpl_var 0))
      (dss_one (ds_ret (de_p dp_str)))))
theorem ok_Keeper_job (L : Facts w K mg) : GOk P w K mg base CX0 1 L.f_Keeper_job ["self"] (spOf K 1 [false] DCF.cf_Keeper_job) := DCF.cf_Keeper_job_eq ▸
  cf_okG L.F_Keeper_job b_Keeper_job sc_Keeper_job rfl rfl fun cdv A outer s H E hr => have hN := (sc_Keeper_job).nd
    (dss_one (ds_ret (de_p (dp_flat (dp_fld L.c_Keeper L.na_Keeper_now (by decide) (by rfl) (dp_var 0))))))
theorem ok_words_of (L : Facts w K mg) : GOk P w K mg base CX0 1 L.f_words_of ["numbers"] (spOf K 1 [false] DCV.cf_words_of) := DCV.cf_words_of_eq ▸
  cf_okG L.F_words_of b_words_of sc_words_of rfl rfl fun cdv A outer s H E hr => have hN := (sc_words_of).nd
    (dss_one (ds_ret (de_p (dp_join dp_str (DP.as (eq5 pLcX_eq _ _ _ _ _) (dp_lc (by rfl) hN (di_seq (dp_var 0)) (blkOk_by (own := [("number", 1)]) (by kernel_rfl)) (fun _ _ _ _ _ => (dg_name 1 hN)) (fun _ _ _ _ _ => dts_nil) (fun _ _ _ _ _ => (dp_callTy call_str_int cs_str (by rfl) L.m_str bt_str (da_cons (dp_var 1) da_nil)))))))))
theorem ok_Keeper_laying (L : Facts w K mg) : GOk P w K mg base CX0 1 L.f_Keeper_laying ["self"] (spOf K 1 [false] DCF.cf_Keeper_laying) := DCF.cf_Keeper_laying_eq ▸
  cf_okG L.F_Keeper_laying b_Keeper_laying sc_Keeper_laying rfl rfl fun cdv A outer s H E hr => have hN := (sc_Keeper_laying).nd
    (dss_one (ds_ret (de_p (dp_flat (dp_fld L.c_Keeper L.na_Keeper_laid (by decide) (by rfl) (dp_var 0))))))
theorem ok_rows_of (L : Facts w K mg) : GOk P w K mg base CX0 1 L.f_rows_of ["job"] (spOf K 1 [false] DCH.cf_rows_of) := DCH.cf_rows_of_eq ▸
  cf_okG L.F_rows_of b_rows_of sc_rows_of rfl rfl fun cdv A outer s H E hr => have hN := (sc_rows_of).nd
    (dss_cons (ds_set 1 hN (de_p (dp_lst (da_cons (dp_op op_addAll os_add dp_str (dp_callTy call_str_int cs_str (by rfl) L.m_str bt_str (da_cons (dp_callB call_len cs_len (by rfl) L.m_len bt_len (da_cons (DP.as (eqIx _ _) (dp_ix (dp_var 0) dp_int)) da_nil)) da_nil))) da_nil))))
      (ds_bar (dss_cons (DS.as (eq3 sForX_eq _ _ _) (ds_for PassesOwn.never (by rfl) (di_zipB (by rfl) L.m_zip (da_cons (dp_glst (by rfl) L.g_NAMES L.l_NAMES) (da_cons (dp_var 0) da_nil))) (dg_tup (by rfl) (dgs_cons (dg_name 2 hN) (dgs_cons (dg_name 3 hN) dgs_nil))) (dss_one (DS.as (eq3 sForX_eq _ _ _) (ds_for PassesOwn.never (by rfl) (di_enum (by rfl) L.m_enumerate (da_cons (dp_var 3) da_nil)) (dg_tup (by rfl) (dgs_cons (dg_name 4 hN) (dgs_cons (dg_name 5 hN) dgs_nil))) (dss_one (DS.as (eq3 sForX_eq _ _ _) (ds_for PassesOwn.never (by rfl) (di_enum (by rfl) L.m_enumerate (da_cons (dp_var 5) da_nil)) (dg_tup (by rfl) (dgs_cons (dg_name 6 hN) (dgs_cons (dg_name 7 hN) dgs_nil))) (dss_one (ds_if (dte_p (dt_cmp (op_neAll hr.units) os_ne (dp_var 7) dp_int (by rfl))) (dss_one (ds_expr (de_mthR PySem.F.plainAttrs_list PySem.F.slot_list_append PySem.F.type_list_append mt_append ms_append 1 (dae_e (de_p (dp_join dp_str (dp_lst (da_cons (dp_var 2) (da_cons (dp_callTy call_str_int cs_str (by rfl) L.m_str bt_str (da_cons (dp_var 4) da_nil)) (da_cons (dp_callTy call_str_int cs_str (by rfl) L.m_str bt_str (da_cons (dp_var 6) da_nil)) (da_cons (dp_callTy call_str_int cs_str (by rfl) L.m_str bt_str (da_cons (dp_var 7) da_nil)) da_nil))))))) dae_nil)))) dss_nil))))))))))
      (dss_one (ds_ret (de_mv 1))))))
theorem ok_Desk_told (L : Facts w K mg) : GOk P w K mg base CX0 2 L.f_Desk_told ["self", "word"] (spOf K 2 [true, false] DCW.cf_Desk_told) := DCW.cf_Desk_told_eq ▸
  cf_okG L.F_Desk_told b_Desk_told sc_Desk_told rfl rfl fun cdv A outer s H E hr => have hN := (sc_Desk_told).nd
    (dss_cons (ds_set 2 hN (de_p (dp_meth0 L.c_Keeper L.me_Keeper_job (by decide) (ok_Keeper_job L) (hr.mono (by decide)) pass0 (dp_fld L.c_Desk L.na_Desk_keeper (by decide) (by rfl) (dp_var 0)))))
      (dss_cons (ds_set 3 hN (de_p (dp_op op_mulAll os_mul (dp_tup (da_cons dp_non da_nil)) (dp_callB call_len cs_len (by rfl) L.m_len bt_len (da_cons (DP.as (eqIx _ _) (dp_ix (dp_var 2) dp_int)) da_nil)))))
      (ds_bar (dss_cons (ds_if (dte_p (dt_cmp (op_eqAll hr.units) os_eq (dp_var 1) dp_str (by rfl))) (dss_one (ds_ret (de_p (dp_callG (ok_words_of L) (hr.mono (by decide)) (by rfl) L.g_words_of L.F_words_of.kp pass0 (da_cons (dp_meth0 L.c_Keeper L.me_Keeper_laying (by decide) (ok_Keeper_laying L) (hr.mono (by decide)) pass0 (dp_fld L.c_Desk L.na_Desk_keeper (by decide) (by rfl) (dp_var 0))) da_nil))))) dss_nil)
      (ds_bar (dss_cons (ds_if (dte_p (dt_cmp (op_eqAll hr.units) os_eq (dp_var 1) dp_str (by rfl))) dss_false dss_nil)
      (ds_bar (dss_cons (ds_if (dte_p (dt_cmp (op_eqAll hr.units) os_eq (dp_var 1) dp_str (by rfl))) dss_false dss_nil)
      (ds_bar (dss_cons (ds_if (dte_p (dt_cmp (op_eqAll hr.units) os_eq (dp_var 1) dp_str (by rfl))) dss_false dss_nil)
      (ds_bar (dss_cons (ds_if (dte_p (dt_cmp (op_eqAll hr.units) os_eq (dp_var 1) dp_str (by rfl))) (dss_one (ds_ret (de_p (dp_join dp_str (dp_callG (ok_rows_of L) (hr.mono (by decide)) (by rfl) L.g_rows_of L.F_rows_of.kp pass0 (da_cons (dp_var 2) da_nil)))))) dss_nil)
      dss_false))))))))))))
theorem ok_fixed (L : Facts w K mg) : GOk P w K mg base CX0 1 L.f_fixed ["job", "part"] (spOf K 2 [false, false] DCA.cf_fixed) := DCA.cf_fixed_eq ▸
  cf_okG L.F_fixed b_fixed sc_fixed rfl rfl fun cdv A outer s H E hr => have hN := (sc_fixed).nd
    (dss_cons (ds_asg (de_mv 0) (dg_tup (by rfl) (dgs_cons (dg_name 2 hN) (dgs_cons (dg_name 3 hN) (dgs_cons (dg_name 4 hN) dgs_nil)))))
      (dss_cons (DS.as (eqSetLc _ _ _ _ _ _) (ds_setLc 5 (by rfl) hN (by decide) (by rfl) (by rfl) (sw_true (by rfl) (by rfl) (by rfl) (by decide +kernel)) (DI.as (eq1 jR1_eq _) (di_range1 (by rfl) L.m_range (da_cons (dp_callB call_len cs_len (by rfl) L.m_len bt_len (da_cons (dp_var 1) da_nil)) da_nil))) (blkOk_by (own := [("work", 9)]) (by kernel_rfl)) (fun _ _ _ _ _ => (dg_name 9 hN)) (fun _ _ _ _ _ => (dts_one (dt_cmp op_notN os_notN (DP.as (eqIx _ _) (dp_ix (dp_var 1) (dp_var 9))) dp_non (by rfl)))) (fun _ _ _ _ _ => (dp_var 9))))
      (dss_cons (ds_set 6 hN (de_p (dp_callB (cr_sum (by rfl)) cs_sum (by rfl) L.m_sum bt_sum (da_cons (DP.as (eq5 pLcX_eq _ _ _ _ _) (dp_lc (by rfl) hN (di_seq (dp_var 5)) (blkOk_by (own := [("work", 9)]) (by kernel_rfl)) (fun _ _ _ _ _ => (dg_name 9 hN)) (fun _ _ _ _ _ => dts_nil) (fun _ _ _ _ _ => (DP.as (eqIx _ _) (dp_ix (DP.as (eqIx _ _) (dp_ix (dp_var 4) (dp_var 9))) (DP.as (eqIx _ _) (dp_ix (dp_var 1) (dp_var 9)))))))) da_nil))))
      (ds_frz 5 (dss_cons (DS.as (eq3 sForX_eq _ _ _) (ds_for PassesOwn.never (by rfl) (di_seq (dp_var 5)) (dg_name 7 hN) (dss_one (DS.as (eq3 sForX_eq _ _ _) (ds_for PassesOwn.never (by rfl) (di_seq (dp_var 5)) (dg_name 8 hN) (dss_one (ds_set 6 hN (de_p (dp_op op_addAll os_add (dp_var 6) (dp_op op_mulAll os_mul (DP.as (eqIx _ _) (dp_ix (DP.as (eqIx _ _) (dp_ix (dp_var 2) (dp_var 7))) (dp_var 8))) (DP.as (eqIx _ _) (dp_ix (DP.as (eqIx _ _) (dp_ix (dp_var 3) (DP.as (eqIx _ _) (dp_ix (dp_var 1) (dp_var 7))))) (DP.as (eqIx _ _) (dp_ix (dp_var 1) (dp_var 8)))))))))))))))
      (dss_one (ds_ret (de_mv 6))))))))
theorem ok_cost_jobs (L : Facts w K mg) : GOk P w K mg base CX0 2 L.f_cost_jobs ["job", "laying"] (spOf K 2 [false, false] DCA.cf_cost) := DCA.cf_cost_eq ▸
  cf_okG L.F_cost_jobs b_cost_jobs sc_cost_jobs rfl rfl fun cdv A outer s H E hr => have hN := (sc_cost_jobs).nd
    (dss_one (ds_ret (de_p (dp_callG (ok_fixed L) (hr.mono (by decide)) (by rfl) L.g_fixed L.F_fixed.kp pass0 (da_cons (dp_var 0) (da_cons (dp_var 1) da_nil))))))
theorem ok_Keeper_cost (L : Facts w K mg) : GOk P w K mg base CX0 3 L.f_Keeper_cost ["self"] (spOf K 1 [false] DCF.cf_Keeper_cost) := DCF.cf_Keeper_cost_eq ▸
  cf_okG L.F_Keeper_cost b_Keeper_cost sc_Keeper_cost rfl rfl fun cdv A outer s H E hr => have hN := (sc_Keeper_cost).nd
    (dss_one (ds_ret (de_p (dp_callG (ok_cost_jobs L) (hr.mono (by decide)) (by rfl) L.g_cost_jobs L.F_cost_jobs.kp pass0 (da_cons (dp_flat (dp_fld L.c_Keeper L.na_Keeper_now (by decide) (by rfl) (dp_var 0))) (da_cons (dp_flat (dp_fld L.c_Keeper L.na_Keeper_laid (by decide) (by rfl) (dp_var 0))) da_nil))))))
theorem ok_beside_saved (L : Facts w K mg) : GOk P w K mg base CX0 1 L.f_beside_saved ["job", "laying", "one", "other"] (spOf K 4 [false, false, false, false] DCB.cf_beside_saved) := DCB.cf_beside_saved_eq ▸
  cf_okG L.F_beside_saved b_beside_saved sc_beside_saved rfl rfl fun cdv A outer s H E hr => have hN := (sc_beside_saved).nd
    (dss_cons (ds_asg (de_mv 0) (dg_tup (by rfl) (dgs_cons (dg_name 4 hN) (dgs_cons (dg_name 5 hN) (dgs_cons (dg_name 6 hN) dgs_nil)))))
      (dss_cons (ds_par 7 8 (by rfl) hN (dae_e (de_p (DP.as (eqIx _ _) (dp_ix (dp_var 1) (dp_var 2)))) (dae_e (de_p (DP.as (eqIx _ _) (dp_ix (dp_var 1) (dp_var 3)))) dae_nil)))
      (dss_cons (ds_set 9 hN (de_p (dp_op op_sub os_sub (dp_op op_sub os_sub (dp_op op_addAll os_add (DP.as (eqIx _ _) (dp_ix (DP.as (eqIx _ _) (dp_ix (dp_var 6) (dp_var 2))) (dp_var 7))) (DP.as (eqIx _ _) (dp_ix (DP.as (eqIx _ _) (dp_ix (dp_var 6) (dp_var 3))) (dp_var 8)))) (DP.as (eqIx _ _) (dp_ix (DP.as (eqIx _ _) (dp_ix (dp_var 6) (dp_var 2))) (dp_var 8)))) (DP.as (eqIx _ _) (dp_ix (DP.as (eqIx _ _) (dp_ix (dp_var 6) (dp_var 3))) (dp_var 7))))))
      (dss_cons (DS.as (eq3 sForX_eq _ _ _) (ds_for PassesOwn.never (by rfl) (di_enum (by rfl) L.m_enumerate (da_cons (dp_var 1) da_nil)) (dg_tup (by rfl) (dgs_cons (dg_name 10 hN) (dgs_cons (dg_name 11 hN) dgs_nil))) (dss_one (ds_if (dte_p (DW.dt (dw_and (dt_cmp (op_neAll hr.units) os_ne (dp_var 10) (dp_var 2) (by rfl)) (dw_and1 (dt_cmp (op_neAll hr.units) os_ne (dp_var 10) (dp_var 3) (by rfl)))))) (dss_cons (ds_set 9 hN (de_p (dp_op op_addAll os_add (dp_var 9) (dp_op op_mulAll os_mul (dp_op op_sub os_sub (DP.as (eqIx _ _) (dp_ix (DP.as (eqIx _ _) (dp_ix (dp_var 4) (dp_var 2))) (dp_var 10))) (DP.as (eqIx _ _) (dp_ix (DP.as (eqIx _ _) (dp_ix (dp_var 4) (dp_var 3))) (dp_var 10)))) (dp_op op_sub os_sub (DP.as (eqIx _ _) (dp_ix (DP.as (eqIx _ _) (dp_ix (dp_var 5) (dp_var 7))) (dp_var 11))) (DP.as (eqIx _ _) (dp_ix (DP.as (eqIx _ _) (dp_ix (dp_var 5) (dp_var 8))) (dp_var 11))))))))
      (dss_one (ds_set 9 hN (de_p (dp_op op_addAll os_add (dp_var 9) (dp_op op_mulAll os_mul (dp_op op_sub os_sub (DP.as (eqIx _ _) (dp_ix (DP.as (eqIx _ _) (dp_ix (dp_var 4) (dp_var 10))) (dp_var 2))) (DP.as (eqIx _ _) (dp_ix (DP.as (eqIx _ _) (dp_ix (dp_var 4) (dp_var 10))) (dp_var 3)))) (dp_op op_sub os_sub (DP.as (eqIx _ _) (dp_ix (DP.as (eqIx _ _) (dp_ix (dp_var 5) (dp_var 11))) (dp_var 7))) (DP.as (eqIx _ _) (dp_ix (DP.as (eqIx _ _) (dp_ix (dp_var 5) (dp_var 11))) (dp_var 8)))))))))) dss_nil))))
      (dss_one (ds_ret (de_mv 9)))))))
theorem ok_saved (L : Facts w K mg) : GOk P w K mg base CX0 2 L.f_saved ["job", "laying", "one", "other"] (spOf K 4 [false, false, false, false] DCB.cf_saved) := DCB.cf_saved_eq ▸
  cf_okG L.F_saved b_saved sc_saved rfl rfl fun cdv A outer s H E hr => have hN := (sc_saved).nd
    (dss_cons (ds_if (dte_p (dt_cmp (op_eqAll hr.units) os_eq (dp_var 2) (dp_var 3) (by rfl))) (dss_one (ds_ret (de_p dp_int))) dss_nil)
      (dss_cons (ds_asg (de_mv 0) (dg_tup (by rfl) (dgs_cons (dg_name 4 hN) (dgs_cons (dg_name 5 hN) (dgs_cons (dg_name 6 hN) dgs_nil)))))
      (dss_cons (ds_par 7 8 (by rfl) hN (dae_e (de_p (DP.as (eqIx _ _) (dp_ix (dp_var 1) (dp_var 2)))) (dae_e (de_p (DP.as (eqIx _ _) (dp_ix (dp_var 1) (dp_var 3)))) dae_nil)))
      (dss_cons (ds_set 9 hN (de_p (dp_op op_mulAll os_mul (dp_op op_sub os_sub (DP.as (eqIx _ _) (dp_ix (DP.as (eqIx _ _) (dp_ix (dp_var 4) (dp_var 2))) (dp_var 3))) (DP.as (eqIx _ _) (dp_ix (DP.as (eqIx _ _) (dp_ix (dp_var 4) (dp_var 3))) (dp_var 2)))) (dp_op op_sub os_sub (DP.as (eqIx _ _) (dp_ix (DP.as (eqIx _ _) (dp_ix (dp_var 5) (dp_var 7))) (dp_var 8))) (DP.as (eqIx _ _) (dp_ix (DP.as (eqIx _ _) (dp_ix (dp_var 5) (dp_var 8))) (dp_var 7)))))))
      (dss_one (ds_ret (de_p (dp_op op_addAll os_add (dp_callG (ok_beside_saved L) (hr.mono (by decide)) (by rfl) L.g_beside_saved L.F_beside_saved.kp pass0 (da_cons (dp_var 0) (da_cons (dp_var 1) (da_cons (dp_var 2) (da_cons (dp_var 3) da_nil))))) (dp_var 9)))))))))
theorem ok_Keeper_need_work (L : Facts w K mg) : GOk P w K mg base (L2.CX P w) 2 L.f_Keeper_need_work ["self", "thing"] (spOf K 2 [true, false] DCV.cf_Keeper_need_work) := DCV.cf_Keeper_need_work_eq ▸
  cf_okXG L.F_Keeper_need_work b_Keeper_need_work sc_Keeper_need_work rfl rfl fun cdv A outer s H E hr => have hN := (sc_Keeper_need_work).nd
    (dss_one (ds_if (dte_p (dt_not (dt_val (dp_callG (ok_is_number L) (hr.mono (by decide)) (by rfl) L.g_is_number L.F_is_number.kp pass0 (da_cons (dp_var 1) (da_cons (dp_op op_sub os_sub (dp_callB call_len cs_len (by rfl) L.m_len bt_len (da_cons (dp_flat (dp_fld L.c_Keeper L.na_Keeper_laid (by decide) (by rfl) (dp_var 0))) da_nil)) dp_int) da_nil)))))) (dss_one (ds_raise (by rfl) (takes_of rfl rfl rfl rfl) (by rfl) ⟨L.g_NoWork, L.e_NoWork⟩)) dss_nil))
theorem ok_Keeper_turn_to (L : Facts w K mg) : GOk P w K mg base CX0 1 L.f_Keeper_turn_to ["self", "job", "laying"] (spOf K 3 [true, false, false] DCF.cf_Keeper_turn_to) := DCF.cf_Keeper_turn_to_eq ▸
  cf_okG L.F_Keeper_turn_to b_Keeper_turn_to sc_Keeper_turn_to rfl rfl fun cdv A outer s H E hr => have hN := (sc_Keeper_turn_to).nd
    (dss_cons (ds_expr (de_mthP PySem.F.plainAttrs_list PySem.F.slot_list_append PySem.F.type_list_append mt_append ms_append (dpl_fld L.c_Keeper L.na_Keeper_past (by decide) (by rfl) (dpl_var 0)) (da_cons (dp_flat (dp_tup (da_cons (dp_flat (dp_fld L.c_Keeper L.na_Keeper_now (by decide) (by rfl) (dp_var 0))) (da_cons (dp_flat (dp_fld L.c_Keeper L.na_Keeper_laid (by decide) (by rfl) (dp_var 0))) da_nil)))) da_nil)))
      (dss_cons (ds_fldS L.c_Keeper L.na_Keeper_now (by decide) (by rfl) (by decide) (de_mv 1) (dpl_var 0))
      (dss_one (ds_fldS L.c_Keeper L.na_Keeper_laid (by decide) (by rfl) (by decide) (de_mv 2) (dpl_var 0)))))
theorem ok_exchanged (L : Facts w K mg) : GOk P w K mg base CX0 1 L.f_exchanged ["laying", "one", "other"] (spOf K 3 [false, false, false] DCB.cf_exchanged) := DCB.cf_exchanged_eq ▸
  cf_okG L.F_exchanged b_exchanged sc_exchanged rfl rfl fun cdv A outer s H E hr => have hN := (sc_exchanged).nd
    (dss_cons (ds_set 3 hN (de_p (dp_callTy call_list_of cs_listF (by rfl) L.m_list bt_list (da_cons (dp_var 0) da_nil))))
      (dss_cons (DS.as (eq3 sStIxX_eq _ _ _) (ds_stIx (de_p (DP.as (eqIx _ _) (dp_ix (dp_var 0) (dp_var 2)))) (dpl_var 3) (dp_var 1)))
      (dss_cons (DS.as (eq3 sStIxX_eq _ _ _) (ds_stIx (de_p (DP.as (eqIx _ _) (dp_ix (dp_var 0) (dp_var 1)))) (dpl_var 3) (dp_var 2)))
      (dss_one (ds_ret (de_p (dp_callTy call_tuple_of cs_tupleF (by rfl) L.m_tuple bt_tuple (da_cons (dp_var 3) da_nil))))))))
theorem ok_Keeper_swap (L : Facts w K mg) : GOk P w K mg base (L2.CX P w) 3 L.f_Keeper_swap ["self", "one", "other"] (spOf K 3 [true, false, false] DCV.cf_Keeper_swap) := DCV.cf_Keeper_swap_eq ▸
  cf_okXG L.F_Keeper_swap b_Keeper_swap sc_Keeper_swap rfl rfl fun cdv A outer s H E hr => have hN := (sc_Keeper_swap).nd
    (dss_cons (ds_expr (de_meth 0 L.c_Keeper L.me_Keeper_need_work (by decide) (ok_Keeper_need_work L) (hr.mono (by decide)) (passX (takes_of rfl rfl rfl rfl)) (dae_e (de_mv 1) dae_nil)))
      (dss_cons (ds_expr (de_meth 0 L.c_Keeper L.me_Keeper_need_work (by decide) (ok_Keeper_need_work L) (hr.mono (by decide)) (passX (takes_of rfl rfl rfl rfl)) (dae_e (de_mv 2) dae_nil)))
      (dss_one (ds_expr (de_meth 0 L.c_Keeper L.me_Keeper_turn_to (by decide) (ok_Keeper_turn_to L) (hr.mono (by decide)) pass0 (dae_e (de_p (dp_flat (dp_fld L.c_Keeper L.na_Keeper_now (by decide) (by rfl) (dp_var 0)))) (dae_e (de_p (dp_callG (ok_exchanged L) (hr.mono (by decide)) (by rfl) L.g_exchanged L.F_exchanged.kp pass0 (da_cons (dp_flat (dp_fld L.c_Keeper L.na_Keeper_laid (by decide) (by rfl) (dp_var 0))) (da_cons (dp_var 1) (da_cons (dp_var 2) da_nil))))) dae_nil)))))))
theorem ok_Keeper_better (L : Facts w K mg) : GOk P w K mg base (L2.CX P w) 4 L.f_Keeper_better ["self"] (spOf K 1 [true] DCV.cf_Keeper_better) := DCV.cf_Keeper_better_eq ▸
  cf_okXG L.F_Keeper_better b_Keeper_better sc_Keeper_better rfl rfl fun cdv A outer s H E hr => have hN := (sc_Keeper_better).nd
    (dss_cons (ds_set 1 hN (de_p (dp_tup (da_cons dp_int (da_cons dp_int (da_cons dp_int da_nil))))))
      (dss_cons (ds_forR1 (passes_of rfl) (by rfl) (by rfl) L.m_range (da_cons (dp_callB call_len cs_len (by rfl) L.m_len bt_len (da_cons (dp_flat (dp_fld L.c_Keeper L.na_Keeper_laid (by decide) (by rfl) (dp_var 0))) da_nil)) da_nil) (dg_name 2 hN) (dss_one (ds_forR2 (passes_of rfl) (by rfl) (by rfl) L.m_range (da_cons (dp_op op_addAll os_add (dp_var 2) dp_int) (da_cons (dp_callB call_len cs_len (by rfl) L.m_len bt_len (da_cons (dp_flat (dp_fld L.c_Keeper L.na_Keeper_laid (by decide) (by rfl) (dp_var 0))) da_nil)) da_nil)) (dg_name 3 hN) (dss_cons (ds_set 4 hN (de_p (dp_callG (ok_saved L) (hr.mono (by decide)) (by rfl) L.g_saved L.F_saved.kp pass0 (da_cons (dp_flat (dp_fld L.c_Keeper L.na_Keeper_now (by decide) (by rfl) (dp_var 0))) (da_cons (dp_flat (dp_fld L.c_Keeper L.na_Keeper_laid (by decide) (by rfl) (dp_var 0))) (da_cons (dp_var 2) (da_cons (dp_var 3) da_nil)))))))
      (dss_one (ds_if (dte_p (dt_cmp op_gt os_gt (dp_var 4) (DP.as (eqIx _ _) (dp_ix (dp_var 1) dp_int)) (by rfl))) (dss_one (ds_set 1 hN (de_p (dp_tup (da_cons (dp_var 2) (da_cons (dp_var 3) (da_cons (dp_var 4) da_nil))))))) dss_nil))))))
      (dss_cons (ds_if (dte_p (dt_cmp (op_eqAll hr.units) os_eq (DP.as (eqIx _ _) (dp_ix (dp_var 1) dp_int)) dp_int (by rfl))) (dss_one (ds_ret (de_p dp_non))) dss_nil)
      (dss_cons (ds_expr (de_meth 0 L.c_Keeper L.me_Keeper_swap (by decide) (ok_Keeper_swap L) (hr.mono (by decide)) (passX (takes_of rfl rfl rfl rfl)) (dae_e (de_p (DP.as (eqIx _ _) (dp_ix (dp_var 1) dp_int))) (dae_e (de_p (DP.as (eqIx _ _) (dp_ix (dp_var 1) dp_int))) dae_nil))))
      (dss_one (ds_ret (de_mv 1)))))))
theorem ok_Keeper_need_two (L : Facts w K mg) : GOk P w K mg base (L2.CX P w) 3 L.f_Keeper_need_two ["self", "one", "other"] (spOf K 3 [true, false, false] DCV.cf_Keeper_need_two) := DCV.cf_Keeper_need_two_eq ▸
  cf_okXG L.F_Keeper_need_two b_Keeper_need_two sc_Keeper_need_two rfl rfl fun cdv A outer s H E hr => have hN := (sc_Keeper_need_two).nd
    (dss_cons (ds_expr (de_meth 0 L.c_Keeper L.me_Keeper_need_work (by decide) (ok_Keeper_need_work L) (hr.mono (by decide)) (passX (takes_of rfl rfl rfl rfl)) (dae_e (de_mv 1) dae_nil)))
      (dss_cons (ds_expr (de_meth 0 L.c_Keeper L.me_Keeper_need_work (by decide) (ok_Keeper_need_work L) (hr.mono (by decide)) (passX (takes_of rfl rfl rfl rfl)) (dae_e (de_mv 2) dae_nil)))
      (dss_one (ds_if (dte_p (dt_cmp (op_eqAll hr.units) os_eq (dp_var 1) (dp_var 2) (by rfl))) (dss_one (ds_raise (by rfl) (takes_of rfl rfl rfl rfl) (by rfl) ⟨L.g_NoWork, L.e_NoWork⟩)) dss_nil))))
theorem ok_need_number (L : Facts w K mg) : GOk P w K mg base (L2.CX P w) 2 L.f_need_number ["thing", "most"] (spOf K 2 [false, false] DCV.cf_need_number) := DCV.cf_need_number_eq ▸
  cf_okXG L.F_need_number b_need_number sc_need_number rfl rfl fun cdv A outer s H E hr => have hN := (sc_need_number).nd
    (dss_one (ds_if (dte_p (dt_not (dt_val (dp_callG (ok_is_number L) (hr.mono (by decide)) (by rfl) L.g_is_number L.F_is_number.kp pass0 (da_cons (dp_var 0) (da_cons (dp_var 1) da_nil)))))) (dss_one (ds_raise (by rfl) (takes_of rfl rfl rfl rfl) (by rfl) ⟨L.g_NoNumber, L.e_NoNumber⟩)) dss_nil))
theorem ok_with_number (L : Facts w K mg) : GOk P w K mg base CX0 1 L.f_with_number ["square", "row", "column", "number"] (spOf K 4 [false, false, false, false] DCF.cf_with_number) := DCF.cf_with_number_eq ▸
  cf_okG L.F_with_number b_with_number sc_with_number rfl rfl fun cdv A outer s H E hr => have hN := (sc_with_number).nd
    (dss_cons (ds_set 4 hN (de_p (dp_op op_addAll os_add (dp_op op_addAll os_add (dp_sl (DP.as (eqIx _ _) (dp_ix (dp_var 0) (dp_var 1))) do_none (do_some (dp_var 2))) (dp_tup (da_cons (dp_var 3) da_nil))) (dp_sl (DP.as (eqIx _ _) (dp_ix (dp_var 0) (dp_var 1))) (do_some (dp_op op_addAll os_add (dp_var 2) dp_int)) do_none))))
      (dss_one (ds_ret (de_p (dp_op op_addAll os_add (dp_op op_addAll os_add (dp_sl (dp_var 0) do_none (do_some (dp_var 1))) (dp_tup (da_cons (dp_var 4) da_nil))) (dp_sl (dp_var 0) (do_some (dp_op op_addAll os_add (dp_var 1) dp_int)) do_none))))))
theorem ok_Keeper_flow (L : Facts w K mg) : GOk P w K mg base (L2.CX P w) 4 L.f_Keeper_flow ["self", "one", "other", "number"] (spOf K 4 [true, false, false, false] DCV.cf_Keeper_flow) := DCV.cf_Keeper_flow_eq ▸
  cf_okXG L.F_Keeper_flow b_Keeper_flow sc_Keeper_flow rfl rfl fun cdv A outer s H E hr => have hN := (sc_Keeper_flow).nd
    (dss_cons (ds_expr (de_meth 0 L.c_Keeper L.me_Keeper_need_two (by decide) (ok_Keeper_need_two L) (hr.mono (by decide)) (passX (takes_of rfl rfl rfl rfl)) (dae_e (de_mv 1) (dae_e (de_mv 2) dae_nil))))
      (dss_cons (ds_expr (de_callG (ok_need_number L) (hr.mono (by decide)) (by rfl) L.g_need_number L.F_need_number.kp (passX (takes_of rfl rfl rfl rfl)) (dae_e (de_mv 3) (dae_e (de_p (dp_gint (by rfl) L.i_MOST_SENT)) dae_nil))))
      (dss_one (ds_expr (de_meth 0 L.c_Keeper L.me_Keeper_turn_to (by decide) (ok_Keeper_turn_to L) (hr.mono (by decide)) pass0 (dae_e (de_p (dp_tup (da_cons (dp_callG (ok_with_number L) (hr.mono (by decide)) (by rfl) L.g_with_number L.F_with_number.kp pass0 (da_cons (DP.as (eqIx _ _) (dp_ix (dp_flat (dp_fld L.c_Keeper L.na_Keeper_now (by decide) (by rfl) (dp_var 0))) dp_int)) (da_cons (dp_var 1) (da_cons (dp_var 2) (da_cons (dp_var 3) da_nil))))) (da_cons (DP.as (eqIx _ _) (dp_ix (dp_flat (dp_fld L.c_Keeper L.na_Keeper_now (by decide) (by rfl) (dp_var 0))) dp_int)) (da_cons (DP.as (eqIx _ _) (dp_ix (dp_flat (dp_fld L.c_Keeper L.na_Keeper_now (by decide) (by rfl) (dp_var 0))) dp_int)) da_nil))))) (dae_e (de_p (dp_flat (dp_fld L.c_Keeper L.na_Keeper_laid (by decide) (by rfl) (dp_var 0)))) dae_nil)))))))
theorem ok_Keeper_way (L : Facts w K mg) : GOk P w K mg base (L2.CX P w) 4 L.f_Keeper_way ["self", "one", "other", "number"] (spOf K 4 [true, false, false, false] DCV.cf_Keeper_way) := DCV.cf_Keeper_way_eq ▸
  cf_okXG L.F_Keeper_way b_Keeper_way sc_Keeper_way rfl rfl fun cdv A outer s H E hr => have hN := (sc_Keeper_way).nd
    (dss_cons (ds_expr (de_meth 0 L.c_Keeper L.me_Keeper_need_two (by decide) (ok_Keeper_need_two L) (hr.mono (by decide)) (passX (takes_of rfl rfl rfl rfl)) (dae_e (de_mv 1) (dae_e (de_mv 2) dae_nil))))
      (dss_cons (ds_expr (de_callG (ok_need_number L) (hr.mono (by decide)) (by rfl) L.g_need_number L.F_need_number.kp (passX (takes_of rfl rfl rfl rfl)) (dae_e (de_mv 3) (dae_e (de_p (dp_gint (by rfl) L.i_MOST_SENT)) dae_nil))))
      (dss_one (ds_expr (de_meth 0 L.c_Keeper L.me_Keeper_turn_to (by decide) (ok_Keeper_turn_to L) (hr.mono (by decide)) pass0 (dae_e (de_p (dp_tup (da_cons (DP.as (eqIx _ _) (dp_ix (dp_flat (dp_fld L.c_Keeper L.na_Keeper_now (by decide) (by rfl) (dp_var 0))) dp_int)) (da_cons (dp_callG (ok_with_number L) (hr.mono (by decide)) (by rfl) L.g_with_number L.F_with_number.kp pass0 (da_cons (DP.as (eqIx _ _) (dp_ix (dp_flat (dp_fld L.c_Keeper L.na_Keeper_now (by decide) (by rfl) (dp_var 0))) dp_int)) (da_cons (dp_var 1) (da_cons (dp_var 2) (da_cons (dp_var 3) da_nil))))) (da_cons (DP.as (eqIx _ _) (dp_ix (dp_flat (dp_fld L.c_Keeper L.na_Keeper_now (by decide) (by rfl) (dp_var 0))) dp_int)) da_nil))))) (dae_e (de_p (dp_flat (dp_fld L.c_Keeper L.na_Keeper_laid (by decide) (by rfl) (dp_var 0)))) dae_nil)))))))
theorem ok_Keeper_charge (L : Facts w K mg) : GOk P w K mg base (L2.CX P w) 3 L.f_Keeper_charge ["self", "work", "place", "number"] (spOf K 4 [true, false, false, false] DCV.cf_Keeper_charge) := DCV.cf_Keeper_charge_eq ▸
  cf_okXG L.F_Keeper_charge b_Keeper_charge sc_Keeper_charge rfl rfl fun cdv A outer s H E hr => have hN := (sc_Keeper_charge).nd
    (dss_cons (ds_expr (de_meth 0 L.c_Keeper L.me_Keeper_need_work (by decide) (ok_Keeper_need_work L) (hr.mono (by decide)) (passX (takes_of rfl rfl rfl rfl)) (dae_e (de_mv 1) dae_nil)))
      (dss_cons (ds_expr (de_meth 0 L.c_Keeper L.me_Keeper_need_work (by decide) (ok_Keeper_need_work L) (hr.mono (by decide)) (passX (takes_of rfl rfl rfl rfl)) (dae_e (de_mv 2) dae_nil)))
      (dss_cons (ds_expr (de_callG (ok_need_number L) (hr.mono (by decide)) (by rfl) L.g_need_number L.F_need_number.kp (passX (takes_of rfl rfl rfl rfl)) (dae_e (de_mv 3) (dae_e (de_p (dp_gint (by rfl) L.i_MOST_COST)) dae_nil))))
      (dss_one (ds_expr (de_meth 0 L.c_Keeper L.me_Keeper_turn_to (by decide) (ok_Keeper_turn_to L) (hr.mono (by decide)) pass0 (dae_e (de_p (dp_tup (da_cons (DP.as (eqIx _ _) (dp_ix (dp_flat (dp_fld L.c_Keeper L.na_Keeper_now (by decide) (by rfl) (dp_var 0))) dp_int)) (da_cons (DP.as (eqIx _ _) (dp_ix (dp_flat (dp_fld L.c_Keeper L.na_Keeper_now (by decide) (by rfl) (dp_var 0))) dp_int)) (da_cons (dp_callG (ok_with_number L) (hr.mono (by decide)) (by rfl) L.g_with_number L.F_with_number.kp pass0 (da_cons (DP.as (eqIx _ _) (dp_ix (dp_flat (dp_fld L.c_Keeper L.na_Keeper_now (by decide) (by rfl) (dp_var 0))) dp_int)) (da_cons (dp_var 1) (da_cons (dp_var 2) (da_cons (dp_var 3) da_nil))))) da_nil))))) (dae_e (de_p (dp_flat (dp_fld L.c_Keeper L.na_Keeper_laid (by decide) (by rfl) (dp_var 0)))) dae_nil))))))))
theorem ok_Keeper_back (L : Facts w K mg) : GOk P w K mg base (L2.CX P w) 1 L.f_Keeper_back ["self"] (spOf K 1 [true] DCV.cf_Keeper_back) := DCV.cf_Keeper_back_eq ▸
  cf_okXG L.F_Keeper_back b_Keeper_back sc_Keeper_back rfl rfl fun cdv A outer s H E hr => have hN := (sc_Keeper_back).nd
    (dss_cons (ds_if (dte_p (dt_cmp (op_eqAll hr.units) os_eq (dp_fld L.c_Keeper L.na_Keeper_past (by decide) (by rfl) (dp_var 0)) (dp_lst da_nil) (by rfl))) (dss_one (ds_raise (by rfl) (takes_of rfl rfl rfl rfl) (by rfl) ⟨L.g_Nothing, L.e_Nothing⟩)) dss_nil)
      (dss_one (ds_fldP (by rfl) L.c_Keeper L.na_Keeper_now L.na_Keeper_laid (by decide) (by rfl) (by rfl) (by decide) (de_mth0 PySem.F.plainAttrs_list PySem.F.slot_list_pop PySem.F.type_list_pop mt_pop xs_pop (dpl_fld L.c_Keeper L.na_Keeper_past (by decide) (by rfl) (dpl_var 0))) (dpl_var 0) (dpl_var 0))))
theorem ok_Desk_done (L : Facts w K mg) : GOk P w K mg base (L2.CX P w) 5 L.f_Desk_done ["self", "word", "numbers"] (spOf K 3 [true, false, false] DCV.cf_Desk_done) := DCV.cf_Desk_done_eq ▸
  cf_okXG L.F_Desk_done b_Desk_done sc_Desk_done rfl rfl fun cdv A outer s H E hr => have hN := (sc_Desk_done).nd
    (dss_cons (ds_if (dte_p (dt_cmp (op_eqAll hr.units) os_eq (dp_var 1) dp_str (by rfl))) (dss_one (ds_ret (de_p (dp_callTy call_str_int cs_str (by rfl) L.m_str bt_str (da_cons (dp_meth0 L.c_Keeper L.me_Keeper_cost (by decide) (ok_Keeper_cost L) (hr.mono (by decide)) pass0 (dp_fld L.c_Desk L.na_Desk_keeper (by decide) (by rfl) (dp_var 0))) da_nil))))) dss_nil)
      (dss_cons (ds_if (dte_p (dt_cmp (op_eqAll hr.units) os_eq (dp_var 1) dp_str (by rfl))) (ds_bar (dss_cons (ds_set 3 hN (de_holdM0 L.c_Keeper L.me_Keeper_better (by decide) (ok_Keeper_better L) (hr.mono (by decide)) (passX (takes_of rfl rfl rfl rfl)) (dpl_fld L.c_Desk L.na_Desk_keeper (by decide) (by rfl) (dpl_var 0))))
      (dss_one (ds_ret (de_p (dp_if (dt_cmp op_isN os_isN (dp_var 3) dp_non (by rfl)) dp_str (dp_callG (ok_words_of L) (hr.mono (by decide)) (by rfl) L.g_words_of L.F_words_of.kp pass0 (da_cons (dp_var 3) da_nil)))))))) dss_nil)
      (dss_cons (ds_if (dte_p (dt_cmp (op_eqAll hr.units) os_eq (dp_var 1) dp_str (by rfl))) (ds_bar (dss_one (ds_expr (de_holdM L.c_Keeper L.me_Keeper_flow (by decide) (ok_Keeper_flow L) (hr.mono (by decide)) (passX (takes_of rfl rfl rfl rfl)) (dpl_fld L.c_Desk L.na_Desk_keeper (by decide) (by rfl) (dpl_var 0)) (dae_e (de_p (DP.as (eqIx _ _) (dp_ix (dp_var 2) dp_int))) (dae_e (de_p (DP.as (eqIx _ _) (dp_ix (dp_var 2) dp_int))) (dae_e (de_p (DP.as (eqIx _ _) (dp_ix (dp_var 2) dp_int))) dae_nil))))))) (dss_one (ds_if (dte_p (dt_cmp (op_eqAll hr.units) os_eq (dp_var 1) dp_str (by rfl))) (dss_one (ds_expr (de_holdM L.c_Keeper L.me_Keeper_way (by decide) (ok_Keeper_way L) (hr.mono (by decide)) (passX (takes_of rfl rfl rfl rfl)) (dpl_fld L.c_Desk L.na_Desk_keeper (by decide) (by rfl) (dpl_var 0)) (dae_e (de_p (DP.as (eqIx _ _) (dp_ix (dp_var 2) dp_int))) (dae_e (de_p (DP.as (eqIx _ _) (dp_ix (dp_var 2) dp_int))) (dae_e (de_p (DP.as (eqIx _ _) (dp_ix (dp_var 2) dp_int))) dae_nil)))))) (dss_one (ds_if (dte_p (dt_cmp (op_eqAll hr.units) os_eq (dp_var 1) dp_str (by rfl))) (dss_one (ds_expr (de_holdM L.c_Keeper L.me_Keeper_charge (by decide) (ok_Keeper_charge L) (hr.mono (by decide)) (passX (takes_of rfl rfl rfl rfl)) (dpl_fld L.c_Desk L.na_Desk_keeper (by decide) (by rfl) (dpl_var 0)) (dae_e (de_p (DP.as (eqIx _ _) (dp_ix (dp_var 2) dp_int))) (dae_e (de_p (DP.as (eqIx _ _) (dp_ix (dp_var 2) dp_int))) (dae_e (de_p (DP.as (eqIx _ _) (dp_ix (dp_var 2) dp_int))) dae_nil)))))) (dss_one (ds_if (dte_p (dt_cmp (op_eqAll hr.units) os_eq (dp_var 1) dp_str (by rfl))) (dss_one (ds_expr (de_holdM L.c_Keeper L.me_Keeper_swap (by decide) (ok_Keeper_swap L) (hr.mono (by decide)) (passX (takes_of rfl rfl rfl rfl)) (dpl_fld L.c_Desk L.na_Desk_keeper (by decide) (by rfl) (dpl_var 0)) (dae_e (de_p (DP.as (eqIx _ _) (dp_ix (dp_var 2) dp_int))) (dae_e (de_p (DP.as (eqIx _ _) (dp_ix (dp_var 2) dp_int))) dae_nil))))) (ds_bar (dss_one (ds_expr (de_holdM0 L.c_Keeper L.me_Keeper_back (by decide) (ok_Keeper_back L) (hr.mono (by decide)) (passX (takes_of rfl rfl rfl rfl)) (dpl_fld L.c_Desk L.na_Desk_keeper (by decide) (by rfl) (dpl_var 0)))))))))))))
      (dss_one (ds_ret (de_p dp_str))))))
theorem ok_Desk_say (L : Facts w K mg) : GOk P w K mg base (L2.CX P w) 8 L.f_Desk_say ["self", "row"] (spOf K 2 [true, false] DCW.cf_Desk_say) := DCW.cf_Desk_say_eq ▸
  cf_okXG L.F_Desk_say b_Desk_say sc_Desk_say rfl rfl fun cdv A outer s H E hr => have hN := (sc_Desk_say).nd
    (dss_cons (ds_if (dte_p (dt_not (dt_val (dp_isI .str (dp_var 1) (by rfl) L.m_isinstance (by rfl) L.m_str bt_str)))) (dss_one (ds_raise (by rfl) (takes_of rfl rfl rfl rfl) (by rfl) ⟨L.g_NoRow, L.e_NoRow⟩)) dss_nil)
      (dss_cons (ds_set 2 hN (de_p (dp_split (dp_var 1) dp_str)))
      (ds_bar (dss_cons (ds_set 3 hN (de_p (DP.as (eqIx _ _) (dp_ix (dp_var 2) dp_int))))
      (dss_cons (ds_if (dte_p (DW.dt (dw_or (DW.dt (dw_and (dt_cmp (op_tabNotIn L.t_HANDED) (os_tab L.t_HANDED) (dp_var 3) (dp_gfn (by rfl) L.g_HANDED rfl) (by rfl)) (dw_and1 (dt_cmp op_notIn_seq os_in (dp_var 3) (dp_glst (by rfl) L.g_ASKED L.l_ASKED) (by rfl))))) (dw_or1 (dt_cmp (op_neAll hr.units) os_ne (dp_callB call_len cs_len (by rfl) L.m_len bt_len (da_cons (dp_var 2) da_nil)) (dp_op op_addAll os_add dp_int (dp_tabG L.t_HANDED (dp_gfn (by rfl) L.g_HANDED rfl) (dp_var 3) dp_int (by constructor <;> rfl))) (by rfl)))))) (dss_one (ds_raise (by rfl) (takes_of rfl rfl rfl rfl) (by rfl) ⟨L.g_NoRow, L.e_NoRow⟩)) dss_nil)
      (ds_bar (dss_cons (DS.as (eqSetLc _ _ _ _ _ _) (ds_setLc 4 (by rfl) hN (by decide) (by rfl) (by rfl) (sw_true (by rfl) (by rfl) (by rfl) (by decide +kernel)) (di_seq (dp_sl (dp_var 2) (do_some dp_int) do_none)) (blkOk_by (own := [("one", 5)]) (by kernel_rfl)) (fun _ _ _ _ _ => (dg_name 5 hN)) (fun _ _ _ _ _ => dts_nil) (fun _ _ _ _ _ => (dp_callG (ok_number_in L) (hr.mono (by decide)) (by rfl) L.g_number_in L.F_number_in.kp pass0 (da_cons (dp_var 5) da_nil)))))
      (ds_bar (dss_cons (ds_if (dte_p (dt_cmp op_in_seq os_in dp_non (dp_var 4) (by rfl))) (dss_one (ds_raise (by rfl) (takes_of rfl rfl rfl rfl) (by rfl) ⟨L.g_NoRow, L.e_NoRow⟩)) dss_nil)
      (ds_bar (dss_cons (ds_if (dte_p (dt_cmp (op_eqAll hr.units) os_eq (dp_var 3) dp_str (by rfl))) (dss_one (ds_ret (de_meth 0 L.c_Desk L.me_Desk_begin (by decide) (ok_Desk_begin L) (hr.mono (by decide)) (passX (takes_of rfl rfl rfl rfl)) (dae_e (de_p (DP.as (eqIx _ _) (dp_ix (dp_var 4) dp_int))) dae_nil)))) dss_nil)
      (ds_bar (dss_cons (ds_if (dte_p (dt_cmp op_isN os_isN (dp_fld L.c_Desk L.na_Desk_keeper (by decide) (by rfl) (dp_var 0)) dp_non (by rfl))) (dss_one (ds_raise (by rfl) (takes_of rfl rfl rfl rfl) (by rfl) ⟨L.g_NoRow, L.e_NoRow⟩)) dss_nil)
      (ds_bar (dss_cons (ds_if (dte_p (dt_cmp op_in_seq os_in (dp_var 3) (dp_glst (by rfl) L.g_ASKED L.l_ASKED) (by rfl))) (dss_one (ds_ret (de_meth 0 L.c_Desk L.me_Desk_told (by decide) (ok_Desk_told L) (hr.mono (by decide)) pass0 (dae_e (de_mv 3) dae_nil)))) dss_nil)
      (ds_bar (dss_one (ds_ret (de_meth 0 L.c_Desk L.me_Desk_done (by decide) (ok_Desk_done L) (hr.mono (by decide)) (passX (takes_of rfl rfl rfl rfl)) (dae_e (de_mv 3) (dae_e (de_mv 4) dae_nil)))))))))))))))))))))
theorem ok__law_said (L : Facts w K mg) : GOk P w K mg base CX0 9 L.f__law_said ["desk", "row", "due"] (spOf K 3 [true, false, false] DCW.cf__law_said) := DCW.cf__law_said_eq ▸
  cf_okN L.F__law_said b__law_said sc__law_said rfl rfl fun cdv A outer s H E hr => have hN := (sc__law_said).nd
    (dss_cons (ds_set 3 hN (de_meth 0 L.c_Desk L.me_Desk_say (by decide) (ok_Desk_say L) (hr.mono (by decide)) passL (dae_e (de_mv 1) dae_nil)))
      (dss_one (ds_ret (de_p (dp_and (dp_isI .str (dp_var 3) (by rfl) L.m_isinstance (by rfl) L.m_str bt_str) (dp_one (dp_cmp (op_eqAll hr.units) os_eq (dp_var 3) (dp_var 2) (by rfl))))))))
theorem ok__law_deed (L : Facts w K mg) : GOk P w K mg base CX0 2 L.f__law_deed ["bag", "state"] (spOf K 2 [true, false] DCJ.cf__law_deed) := DCJ.cf__law_deed_eq ▸
  cf_okG L.F__law_deed b__law_deed sc__law_deed rfl rfl fun cdv A outer s H E hr => have hN := (sc__law_deed).nd
    (dss_cons (ds_set 2 hN (de_p (dp_callB call_len cs_len (by rfl) L.m_len bt_len (da_cons (dp_key hr.units (dp_var 1)) da_nil))))
      (dss_cons (ds_set 3 hN (de_callG (ok__law_dip L) (hr.mono (by decide)) (by rfl) L.g__law_dip L.F__law_dip.kp pass0 (dae_pl 0 (dae_e (de_mv 2) dae_nil))))
      (dss_cons (ds_set 4 hN (de_callG (ok__law_dip L) (hr.mono (by decide)) (by rfl) L.g__law_dip L.F__law_dip.kp pass0 (dae_pl 0 (dae_e (de_mv 2) dae_nil))))
      (dss_cons (ds_set 5 hN (de_ix (de_p (dp_lst (da_cons dp_str (da_cons dp_str (da_cons dp_str (da_cons dp_str (da_cons dp_str (da_cons dp_str (da_cons dp_str (da_cons dp_str da_nil)))))))))) (de_callG (ok__law_dip L) (hr.mono (by decide)) (by rfl) L.g__law_dip L.F__law_dip.kp pass0 (dae_pl 0 (dae_e (de_p dp_int) dae_nil)))))
      (ds_bar (dss_cons (ds_if (dte_p (DW.dt (dw_or (DW.dt (dw_and (dt_cmp (op_eqAll hr.units) os_eq (dp_var 5) dp_str (by rfl)) (dw_and1 (dt_cmp (op_eqAll hr.units) os_eq (dp_key hr.units (dp_var 1)) (dp_lst da_nil) (by rfl))))) (dw_or1 (DW.dt (dw_and (dt_cmp op_in_seq os_in (dp_var 5) (dp_tup (da_cons dp_str (da_cons dp_str da_nil))) (by rfl)) (dw_and1 (dt_cmp (op_eqAll hr.units) os_eq (dp_var 2) dp_int (by rfl))))))))) (dss_one (ds_set 5 hN (de_ix (de_p (dp_lst (da_cons dp_str (da_cons dp_str da_nil)))) (de_callG (ok__law_dip L) (hr.mono (by decide)) (by rfl) L.g__law_dip L.F__law_dip.kp pass0 (dae_pl 0 (dae_e (de_p dp_int) dae_nil)))))) dss_nil)
      (ds_bar (dss_cons (ds_if (dte_p (DW.dt (dw_and (dt_cmp op_in_seq os_in (dp_var 5) (dp_tup (da_cons dp_str (da_cons dp_str da_nil))) (by rfl)) (dw_and1 (dt_cmp (op_eqAll hr.units) os_eq (dp_var 3) (dp_var 4) (by rfl)))))) (dss_one (ds_set 4 hN (de_p (dp_op op_mod os_mod (dp_op op_addAll os_add (dp_var 3) dp_int) (dp_var 2))))) dss_nil)
      (ds_bar (dss_cons (ds_if (dte_p (dt_cmp op_in_seq os_in (dp_var 5) (dp_tup (da_cons dp_str (da_cons dp_str da_nil))) (by rfl))) (dss_one (ds_ret (de_p (dp_tup (da_cons (dp_var 5) (da_cons (dp_tup da_nil) da_nil)))))) dss_nil)
      (dss_cons (ds_if (dte_p (dt_cmp (op_eqAll hr.units) os_eq (dp_var 5) dp_str (by rfl))) (dss_one (ds_ret (de_p (dp_tup (da_cons (dp_var 5) (da_cons (dp_tup (da_cons (dp_var 3) (da_cons (dp_var 4) da_nil))) da_nil)))))) dss_nil)
      (dss_cons (ds_set 6 hN (de_p (DP.as (eqIx _ _) (dp_ix (dp_lst (da_cons dp_int (da_cons dp_int da_nil))) (dp_callTy call_int1 cs_int (by rfl) L.m_int bt_int (da_cons (dp_cmp (op_eqAll hr.units) os_eq (dp_var 5) dp_str (by rfl)) da_nil))))))
      (dss_one (ds_ret (de_tup (dae_e (de_mv 5) (dae_e (de_tup (dae_e (de_mv 3) (dae_e (de_mv 4) (dae_e (de_ix (de_lst (dae_e (de_p dp_int) (dae_e (de_mv 6) (dae_e (de_callG (ok__law_dip L) (hr.mono (by decide)) (by rfl) L.g__law_dip L.F__law_dip.kp pass0 (dae_pl 0 (dae_e (de_p (dp_op op_addAll os_add (dp_var 6) dp_int)) dae_nil))) (dae_e (de_callG (ok__law_dip L) (hr.mono (by decide)) (by rfl) L.g__law_dip L.F__law_dip.kp pass0 (dae_pl 0 (dae_e (de_p dp_int) dae_nil))) dae_nil))))) (de_callG (ok__law_dip L) (hr.mono (by decide)) (by rfl) L.g__law_dip L.F__law_dip.kp pass0 (dae_pl 0 (dae_e (de_p dp_int) dae_nil)))) dae_nil)))) dae_nil)))))))))))))))))
theorem ok__law_may_be_done (L : Facts w K mg) : GOk P w K mg base CX0 1 L.f__law_may_be_done ["state", "word", "handed"] (spOf K 3 [false, false, false] cf__law_may_be_done) := cf__law_may_be_done_eq ▸
  cf_okG L.F__law_may_be_done b__law_may_be_done sc__law_may_be_done rfl rfl fun cdv A outer s H E hr => have hN := (sc__law_may_be_done).nd
    (dss_cons (ds_if (dte_p (DW.dt (dw_and (dt_cmp (op_eqAll hr.units) os_eq (dp_var 1) dp_str (by rfl)) (dw_and1 (dt_cmp (op_eqAll hr.units) os_eq (dp_key hr.units (dp_var 0)) (dp_lst da_nil) (by rfl)))))) (dss_one (ds_ret (de_p dp_bl))) dss_nil)
      (dss_one (ds_ret (de_p (dp_cmp op_lt os_lt (dp_callB (cr_maxT (by rfl)) cs_maxT (by rfl) L.m_max bt_max (da_cons (dp_op op_addAll os_add (dp_tup (da_cons dp_int da_nil)) (dp_callTy call_tuple_of cs_tuple (by rfl) L.m_tuple bt_tuple (da_cons (dp_sl (dp_var 2) do_none (do_some dp_int)) da_nil))) da_nil)) (dp_callB call_len cs_len (by rfl) L.m_len bt_len (da_cons (dp_key hr.units (dp_var 0)) da_nil)) (by rfl))))))
theorem ok__law_row_of (L : Facts w K mg) : GOk P w K mg base CX0 1 L.f__law_row_of ["word", "handed"] (spOf K 2 [false, false] DCV.cf__law_row_of) := DCV.cf__law_row_of_eq ▸
  cf_okG L.F__law_row_of b__law_row_of sc__law_row_of rfl rfl fun cdv A outer s H E hr => have hN := (sc__law_row_of).nd
    (dss_cons (ds_set 2 hN (de_p (dp_get1 hr.units dp_str dp_str (dp_var 0) (dp_var 0) (by constructor <;> rfl))))
      (dss_one (ds_ret (de_p (dp_join dp_str (dp_op op_addAll os_add (dp_lst (da_cons (dp_var 2) da_nil)) (DP.as (eq5 pLcX_eq _ _ _ _ _) (dp_lc (by rfl) hN (di_seq (dp_var 1)) (blkOk_by (own := [("number", 3)]) (by kernel_rfl)) (fun _ _ _ _ _ => (dg_name 3 hN)) (fun _ _ _ _ _ => dts_nil) (fun _ _ _ _ _ => (dp_callTy call_str_int cs_str (by rfl) L.m_str bt_str (da_cons (dp_var 3) da_nil)))))))))))
theorem ok__law_price (L : Facts w K mg) : GOk P w K mg base CX0 1 L.f__law_price ["squares", "laying"] (spOf K 2 [false, false] DCJ.cf__law_price) := DCJ.cf__law_price_eq ▸
  cf_okG L.F__law_price b__law_price sc__law_price rfl rfl fun cdv A outer s H E hr => have hN := (sc__law_price).nd
    (dss_cons (ds_set 2 hN (de_p dp_int))
      (dss_cons (DS.as (eq3 sForX_eq _ _ _) (ds_for PassesOwn.never (by rfl) (DI.as (eq1 jR1_eq _) (di_range1 (by rfl) L.m_range (da_cons (dp_callB call_len cs_len (by rfl) L.m_len bt_len (da_cons (dp_var 1) da_nil)) da_nil))) (dg_name 3 hN) (dss_cons (ds_set 2 hN (de_p (dp_op op_addAll os_add (dp_var 2) (DP.as (eqIx _ _) (dp_ix (DP.as (eqIx _ _) (dp_ix (DP.as (eqIx _ _) (dp_ix (dp_var 0) dp_int)) (dp_var 3))) (DP.as (eqIx _ _) (dp_ix (dp_var 1) (dp_var 3))))))))
      (dss_one (DS.as (eq3 sForX_eq _ _ _) (ds_for PassesOwn.never (by rfl) (DI.as (eq1 jR1_eq _) (di_range1 (by rfl) L.m_range (da_cons (dp_callB call_len cs_len (by rfl) L.m_len bt_len (da_cons (dp_var 1) da_nil)) da_nil))) (dg_name 4 hN) (dss_cons (ds_set 5 hN (de_p (DP.as (eqIx _ _) (dp_ix (DP.as (eqIx _ _) (dp_ix (DP.as (eqIx _ _) (dp_ix (dp_var 0) dp_int)) (DP.as (eqIx _ _) (dp_ix (dp_var 1) (dp_var 3))))) (DP.as (eqIx _ _) (dp_ix (dp_var 1) (dp_var 4)))))))
      (dss_one (ds_set 2 hN (de_p (dp_op op_addAll os_add (dp_var 2) (dp_op op_mulAll os_mul (DP.as (eqIx _ _) (dp_ix (DP.as (eqIx _ _) (dp_ix (DP.as (eqIx _ _) (dp_ix (dp_var 0) dp_int)) (dp_var 3))) (dp_var 4))) (dp_var 5)))))))))))))
      (dss_one (ds_ret (de_mv 2)))))
theorem ok__law_best (L : Facts w K mg) : GOk P w K mg base CX0 2 L.f__law_best ["state"] (spOf K 1 [false] DCJ.cf__law_best) := DCJ.cf__law_best_eq ▸
  cf_okG L.F__law_best b__law_best sc__law_best rfl rfl fun cdv A outer s H E hr => have hN := (sc__law_best).nd
    (dss_cons (ds_set 1 hN (de_p dp_non))
      (dss_cons (ds_set 2 hN (de_p (dp_callG (ok__law_price L) (hr.mono (by decide)) (by rfl) L.g__law_price L.F__law_price.kp pass0 (da_cons (dp_key hr.units (dp_var 0)) (da_cons (dp_key hr.units (dp_var 0)) da_nil)))))
      (dss_cons (DS.as (eq3 sForX_eq _ _ _) (ds_for PassesOwn.never (by rfl) (DI.as (eq1 jR1_eq _) (di_range1 (by rfl) L.m_range (da_cons (dp_callB call_len cs_len (by rfl) L.m_len bt_len (da_cons (dp_key hr.units (dp_var 0)) da_nil)) da_nil))) (dg_name 3 hN) (dss_one (DS.as (eq3 sForX_eq _ _ _) (ds_for PassesOwn.never (by rfl) (DI.as (eq1 jR2_eq _) (di_range2 (by rfl) L.m_range (da_cons (dp_op op_addAll os_add (dp_var 3) dp_int) (da_cons (dp_callB call_len cs_len (by rfl) L.m_len bt_len (da_cons (dp_key hr.units (dp_var 0)) da_nil)) da_nil)))) (dg_name 4 hN) (dss_cons (ds_set 5 hN (de_p (dp_callTy call_list_of cs_listF (by rfl) L.m_list bt_list (da_cons (dp_key hr.units (dp_var 0)) da_nil))))
      (dss_cons (ds_swap (by rfl) (dp_tup (da_cons (DP.as (eqIx _ _) (dp_ix (dp_var 5) (dp_var 4))) (da_cons (DP.as (eqIx _ _) (dp_ix (dp_var 5) (dp_var 3))) da_nil))) (dpl_var 5) (dp_var 3) (dpl_var 5) (dp_var 4))
      (ds_bar (dss_cons (ds_set 6 hN (de_p (dp_op op_sub os_sub (dp_var 2) (dp_callG (ok__law_price L) (hr.mono (by decide)) (by rfl) L.g__law_price L.F__law_price.kp pass0 (da_cons (dp_key hr.units (dp_var 0)) (da_cons (dp_var 5) da_nil))))))
      (ds_bar (dss_one (ds_if (dte_p (DW.dt (dw_and (dt_cmp op_gt os_gt (dp_var 6) dp_int (by rfl)) (dw_and1 (DW.dt (dw_or (dt_cmp op_isN os_isN (dp_var 1) dp_non (by rfl)) (dw_or1 (dt_cmp op_gt os_gt (dp_var 6) (DP.as (eqIx _ _) (dp_ix (dp_var 1) dp_int)) (by rfl))))))))) (dss_one (ds_set 1 hN (de_p (dp_tup (da_cons (dp_var 3) (da_cons (dp_var 4) (da_cons (dp_var 6) da_nil))))))) dss_nil))))))))))))
      (dss_one (ds_ret (de_mv 1))))))
theorem ok__law_past (L : Facts w K mg) : GOk P w K mg base CX0 1 L.f__law_past ["state"] (spOf K 1 [true] DCJ.cf__law_past) := DCJ.cf__law_past_eq ▸
  cf_okG L.F__law_past b__law_past sc__law_past rfl rfl fun cdv A outer s H E hr => have hN := (sc__law_past).nd
    (dss_cons (DS.as (eqSetLc _ _ _ _ _ _) (ds_setLc 1 (by rfl) hN (by decide) (by rfl) (by rfl) (sw_true (by rfl) (by rfl) (by rfl) (by decide +kernel)) (di_seq (dp_key hr.units (dp_var 0))) (blkOk_by (own := [("square", 2)]) (by kernel_rfl)) (fun _ _ _ _ _ => (dg_name 2 hN)) (fun _ _ _ _ _ => dts_nil) (fun _ _ _ _ _ => (DP.as (eq5 pLcX_eq _ _ _ _ _) (dp_lc (by rfl) hN (di_seq (dp_var 2)) (blkOk_by (own := [("row", 3)]) (by kernel_rfl)) (fun _ _ _ _ _ => (dg_name 3 hN)) (fun _ _ _ _ _ => dts_nil) (fun _ _ _ _ _ => (dp_callTy call_list_of cs_listF (by rfl) L.m_list bt_list (da_cons (dp_var 3) da_nil))))))))
      (dss_one (ds_expr (de_appMv 1 PySem.F.plainAttrs_list PySem.F.slot_list_append PySem.F.type_list_append mt_append ms_append (dpl_key hr.units (dpl_var 0)) (dp_callTy call_list_of cs_listF (by rfl) L.m_list bt_list (da_cons (dp_key hr.units (dp_var 0)) da_nil))))))
theorem ok__law_swapped (L : Facts w K mg) : GOk P w K mg base CX0 1 L.f__law_swapped ["state", "one", "other"] (spOf K 3 [true, false, false] DCJ.cf__law_swapped) := DCJ.cf__law_swapped_eq ▸
  cf_okG L.F__law_swapped b__law_swapped sc__law_swapped rfl rfl fun cdv A outer s H E hr => have hN := (sc__law_swapped).nd
    (dss_bor 0 3 hN (dpl_key hr.units (dpl_var 0))
      (dss_one (ds_swap (by rfl) (dp_tup (da_cons (DP.as (eqIx _ _) (dp_ix (dp_var 3) (dp_var 2))) (da_cons (DP.as (eqIx _ _) (dp_ix (dp_var 3) (dp_var 1))) da_nil))) (dpl_var 3) (dp_var 1) (dpl_var 3) (dp_var 2))))
theorem ok__law_done (L : Facts w K mg) : GOk P w K mg base CX0 3 L.f__law_done ["state", "word", "handed"] (spOf K 3 [true, false, false] DCJ.cf__law_done) := DCJ.cf__law_done_eq ▸
  cf_okG L.F__law_done b__law_done sc__law_done rfl rfl fun cdv A outer s H E hr => have hN := (sc__law_done).nd
    (dss_cons (ds_if (dte_p (dt_cmp (op_eqAll hr.units) os_eq (dp_var 1) dp_str (by rfl))) (dss_cons (ds_keyP (by rfl) hr.units (de_mth0 PySem.F.plainAttrs_list PySem.F.slot_list_pop PySem.F.type_list_pop mt_pop xs_pop (dpl_key hr.units (dpl_var 0))) (dpl_var 0) (dpl_var 0))
      (dss_one (ds_ret (de_p dp_non)))) dss_nil)
      (dss_cons (ds_set 3 hN (de_p dp_non))
      (dss_cons (ds_if (dte_p (dt_cmp (op_eqAll hr.units) os_eq (dp_var 1) dp_str (by rfl))) (dss_cons (ds_set 3 hN (de_p (dp_callG (ok__law_best L) (hr.mono (by decide)) (by rfl) L.g__law_best L.F__law_best.kp pass0 (da_cons (dp_var 0) da_nil))))
      (dss_one (ds_if (dte_p (dt_cmp op_isN os_isN (dp_var 3) dp_non (by rfl))) (dss_one (ds_ret (de_p dp_non))) dss_nil))) dss_nil)
      (dss_cons (ds_expr (de_callG (ok__law_past L) (hr.mono (by decide)) (by rfl) L.g__law_past L.F__law_past.kp pass0 (dae_pl 0 dae_nil)))
      (dss_cons (ds_if (dte_p (dt_cmp (op_eqAll hr.units) os_eq (dp_var 1) dp_str (by rfl))) (dss_cons (ds_expr (de_callG (ok__law_swapped L) (hr.mono (by decide)) (by rfl) L.g__law_swapped L.F__law_swapped.kp pass0 (dae_pl 0 (dae_e (de_p (DP.as (eqIx _ _) (dp_ix (dp_var 3) dp_int))) (dae_e (de_p (DP.as (eqIx _ _) (dp_ix (dp_var 3) dp_int))) dae_nil)))))
      (dss_one (ds_ret (de_mv 3)))) dss_nil)
      (dss_cons (ds_if (dte_p (dt_cmp (op_eqAll hr.units) os_eq (dp_var 1) dp_str (by rfl))) (dss_one (ds_expr (de_callG (ok__law_swapped L) (hr.mono (by decide)) (by rfl) L.g__law_swapped L.F__law_swapped.kp pass0 (dae_pl 0 (dae_e (de_p (DP.as (eqIx _ _) (dp_ix (dp_var 2) dp_int))) (dae_e (de_p (DP.as (eqIx _ _) (dp_ix (dp_var 2) dp_int))) dae_nil)))))) (dss_cons (ds_set 4 hN (de_p (dp_index (dp_lst (da_cons dp_str (da_cons dp_str (da_cons dp_str da_nil)))) (dp_var 1))))
      (dss_one (DS.as (eq3 sStIxX_eq _ _ _) (ds_stIx (de_p (DP.as (eqIx _ _) (dp_ix (dp_var 2) dp_int))) (DPl.as (eq2 plIxX_eq _ _) (dpl_ix (DPl.as (eq2 plIxX_eq _ _) (dpl_ix (dpl_key hr.units (dpl_var 0)) (dp_var 4))) (DP.as (eqIx _ _) (dp_ix (dp_var 2) dp_int)))) (DP.as (eqIx _ _) (dp_ix (dp_var 2) dp_int)))))))
      (dss_one (ds_ret (de_p dp_non)))))))))
theorem ok__law_due (L : Facts w K mg) : GOk P w K mg base CX0 4 L.f__law_due ["state", "word", "handed"] (spOf K 3 [true, false, false] DCV.cf__law_due) := DCV.cf__law_due_eq ▸
  cf_okG L.F__law_due b__law_due sc__law_due rfl rfl fun cdv A outer s H E hr => have hN := (sc__law_due).nd
    (dss_cons (ds_set 3 hN (de_callG (ok__law_done L) (hr.mono (by decide)) (by rfl) L.g__law_done L.F__law_done.kp pass0 (dae_pl 0 (dae_e (de_mv 1) (dae_e (de_mv 2) dae_nil)))))
      (dss_cons (ds_if (dte_p (dt_cmp (op_neAll hr.units) os_ne (dp_var 1) dp_str (by rfl))) (dss_one (ds_ret (de_p dp_str))) dss_nil)
      (dss_cons (ds_if (dte_p (dt_cmp op_isN os_isN (dp_var 3) dp_non (by rfl))) (dss_one (ds_ret (de_p dp_str))) dss_nil)
      (dss_one (ds_ret (de_p (dp_op op_addAll os_add (dp_op op_addAll os_add (dp_op op_addAll os_add (dp_op op_addAll os_add (dp_callTy call_str_int cs_str (by rfl) L.m_str bt_str (da_cons (DP.as (eqIx _ _) (dp_ix (dp_var 3) dp_int)) da_nil)) dp_str) (dp_callTy call_str_int cs_str (by rfl) L.m_str bt_str (da_cons (DP.as (eqIx _ _) (dp_ix (dp_var 3) dp_int)) da_nil))) dp_str) (dp_callTy call_str_int cs_str (by rfl) L.m_str bt_str (da_cons (DP.as (eqIx _ _) (dp_ix (dp_var 3) dp_int)) da_nil)))))))))
theorem ok__law_rows (L : Facts w K mg) : GOk P w K mg base CX0 1 L.f__law_rows ["squares"] (spOf K 1 [false] DCH.cf__law_rows) := DCH.cf__law_rows_eq ▸
  cf_okG L.F__law_rows b__law_rows sc__law_rows rfl rfl fun cdv A outer s H E hr => have hN := (sc__law_rows).nd
    (dss_cons (ds_set 1 hN (de_p (dp_lst (da_cons (dp_op op_addAll os_add dp_str (dp_callTy call_str_int cs_str (by rfl) L.m_str bt_str (da_cons (dp_callB call_len cs_len (by rfl) L.m_len bt_len (da_cons (DP.as (eqIx _ _) (dp_ix (dp_var 0) dp_int)) da_nil)) da_nil))) da_nil))))
      (ds_bar (dss_cons (DS.as (eq3 sForX_eq _ _ _) (ds_for PassesOwn.never (by rfl) (di_zip (by rfl) L.m_zip (da_cons (dp_lst (da_cons dp_str (da_cons dp_str (da_cons dp_str da_nil)))) (da_cons (dp_var 0) da_nil))) (dg_tup (by rfl) (dgs_cons (dg_name 2 hN) (dgs_cons (dg_name 3 hN) dgs_nil))) (dss_one (DS.as (eq3 sForX_eq _ _ _) (ds_for PassesOwn.never (by rfl) (DI.as (eq1 jR1_eq _) (di_range1 (by rfl) L.m_range (da_cons (dp_callB call_len cs_len (by rfl) L.m_len bt_len (da_cons (dp_var 3) da_nil)) da_nil))) (dg_name 4 hN) (dss_one (DS.as (eq3 sForX_eq _ _ _) (ds_for PassesOwn.never (by rfl) (DI.as (eq1 jR1_eq _) (di_range1 (by rfl) L.m_range (da_cons (dp_callB call_len cs_len (by rfl) L.m_len bt_len (da_cons (dp_var 3) da_nil)) da_nil))) (dg_name 5 hN) (dss_one (ds_if (dte_p (dt_cmp (op_neAll hr.units) os_ne (DP.as (eqIx _ _) (dp_ix (DP.as (eqIx _ _) (dp_ix (dp_var 3) (dp_var 4))) (dp_var 5))) dp_int (by rfl))) (dss_cons (ds_set 6 hN (de_p (dp_lst (da_cons (dp_var 2) (da_cons (dp_callTy call_str_int cs_str (by rfl) L.m_str bt_str (da_cons (dp_var 4) da_nil)) (da_cons (dp_callTy call_str_int cs_str (by rfl) L.m_str bt_str (da_cons (dp_var 5) da_nil)) (da_cons (dp_callTy call_str_int cs_str (by rfl) L.m_str bt_str (da_cons (DP.as (eqIx _ _) (dp_ix (DP.as (eqIx _ _) (dp_ix (dp_var 3) (dp_var 4))) (dp_var 5))) da_nil)) da_nil)))))))
      (dss_one (ds_expr (de_mthR PySem.F.plainAttrs_list PySem.F.slot_list_append PySem.F.type_list_append mt_append ms_append 1 (dae_e (de_p (dp_join dp_str (dp_var 6))) dae_nil))))) dss_nil))))))))))
      (dss_one (ds_ret (de_mv 1))))))
theorem ok__law_shown (L : Facts w K mg) : GOk P w K mg base CX0 2 L.f__law_shown ["squares"] (spOf K 1 [false] DCV.cf__law_shown) := DCV.cf__law_shown_eq ▸
  cf_okG L.F__law_shown b__law_shown sc__law_shown rfl rfl fun cdv A outer s H E hr => have hN := (sc__law_shown).nd
    (dss_one (ds_ret (de_p (dp_join dp_str (dp_callG (ok__law_rows L) (hr.mono (by decide)) (by rfl) L.g__law_rows L.F__law_rows.kp pass0 (da_cons (dp_var 0) da_nil))))))
theorem ok__law_looked (L : Facts w K mg) : GOk P w K mg base CX0 10 L.f__law_looked ["bag", "desk", "state"] (spOf K 3 [true, true, false] DCW.cf__law_looked) := DCW.cf__law_looked_eq ▸
  cf_okG L.F__law_looked b__law_looked sc__law_looked rfl rfl fun cdv A outer s H E hr => have hN := (sc__law_looked).nd
    (dss_cons (ds_set 3 hN (de_p (dp_lst (da_cons (dp_lst (da_cons dp_str (da_cons dp_str (da_cons dp_str da_nil)))) (da_cons (dp_lst (da_cons dp_str (da_cons dp_str (da_cons dp_str da_nil)))) (da_cons (dp_lst (da_cons dp_str (da_cons dp_str (da_cons dp_str da_nil)))) (da_cons (dp_lst (da_cons dp_str da_nil)) da_nil)))))))
      (ds_frz 3 (dss_cons (ds_set 3 hN (de_r (dp_op op_addAll os_add (dp_var 3) (dp_lst (da_cons (dp_lst (da_cons dp_str da_nil)) (da_cons (dp_lst (da_cons dp_str da_nil)) (da_cons (dp_lst (da_cons dp_str (da_cons dp_str da_nil))) (da_cons (dp_lst da_nil) da_nil))))))))
      (ds_bar (dss_cons (ds_forE PassesOwn.never (by rfl) (de_ixSR 3 (de_callG (ok__law_dip L) (hr.mono (by decide)) (by rfl) L.g__law_dip L.F__law_dip.kp pass0 (dae_pl 0 (dae_e (de_p dp_int) dae_nil)))) (dg_name 4 hN) (dss_cons (ds_set 5 hN (de_p (dp_callG (ok__law_shown L) (hr.mono (by decide)) (by rfl) L.g__law_shown L.F__law_shown.kp pass0 (da_cons (dp_key hr.units (dp_var 2)) da_nil))))
      (ds_bar (dss_cons (ds_if (dte_p (dt_cmp (op_eqAll hr.units) os_eq (dp_var 4) dp_str (by rfl))) (dss_one (ds_set 5 hN (de_p (dp_callTy call_str_int cs_str (by rfl) L.m_str bt_str (da_cons (dp_callG (ok__law_price L) (hr.mono (by decide)) (by rfl) L.g__law_price L.F__law_price.kp pass0 (da_cons (dp_key hr.units (dp_var 2)) (da_cons (dp_key hr.units (dp_var 2)) da_nil))) da_nil))))) dss_nil)
      (ds_bar (dss_cons (ds_if (dte_p (dt_cmp (op_eqAll hr.units) os_eq (dp_var 4) dp_str (by rfl))) (dss_one (ds_set 5 hN (de_p (dp_join dp_str (DP.as (eq5 pLcX_eq _ _ _ _ _) (dp_lc (by rfl) hN (di_seq (dp_key hr.units (dp_var 2))) (blkOk_by (own := [("place", 6)]) (by kernel_rfl)) (fun _ _ _ _ _ => (dg_name 6 hN)) (fun _ _ _ _ _ => dts_nil) (fun _ _ _ _ _ => (dp_callTy call_str_int cs_str (by rfl) L.m_str bt_str (da_cons (dp_var 6) da_nil))))))))) dss_nil)
      (ds_bar (dss_one (ds_if (dte_not (dte_val (de_callG (ok__law_said L) (hr.mono (by decide)) (by rfl) L.g__law_said L.F__law_said.kp pass0 (dae_pl 1 (dae_e (de_mv 4) (dae_e (de_mv 5) dae_nil)))))) (dss_one (ds_ret (de_p dp_bl))) dss_nil)))))))))
      (dss_one (ds_ret (de_p dp_bl))))))))
theorem ok__law_no_job (L : Facts w K mg) : GOk P w K mg base CX0 9 L.f__law_no_job ["desk", "row"] (spOf K 2 [true, false] cf__law_no_job) := cf__law_no_job_eq ▸
  cf_okN L.F__law_no_job b__law_no_job sc__law_no_job rfl rfl fun cdv A outer s H E hr => have hN := (sc__law_no_job).nd
    (dss_cons (ds_set 2 hN (de_p dp_bl))
      (dss_cons (ds_tryN (by rfl) L.g_NoRow (List.forall_mem_cons.mpr ⟨L.x_NoRow_NoRow, fun _ h => nomatch h⟩) (fun W pn xe tk => (db_expr (dew_meth 0 L.c_Desk L.me_Desk_say (by decide) (ok_Desk_say L) (hr.mono (by decide)) tk (dae_e (de_mv 1) dae_nil)))) (fun _ _ _ => (dss_one (ds_set 2 hN (de_p dp_bl)))))
      (dss_one (ds_ret (de_mv 2)))))
theorem ok_law (L : Facts w K mg) : GOk P w K mg base CX0 11 L.f_law ["script"] (spOf K 1 [false] cf_law) := cf_law_eq ▸
  cf_okG L.F_law b_law sc_law rfl rfl fun cdv A outer s H E hr => have hN := (sc_law).nd
    (dss_cons (ds_set 1 hN (de_p (dp_callG (ok__law_bag L) (hr.mono (by decide)) (by rfl) L.g__law_bag L.F__law_bag.kp pass0 (da_cons (dp_var 0) da_nil))))
      (dss_cons (ds_set 2 hN (de_op op_addAll os_add (de_p dp_int) (de_callG (ok__law_dip L) (hr.mono (by decide)) (by rfl) L.g__law_dip L.F__law_dip.kp pass0 (dae_pl 1 (dae_e (de_p dp_int) dae_nil)))))
      (ds_bar (dss_cons (ds_set 3 hN (de_lst (dae_e (de_p (dp_callG (ok__law_bare L) (hr.mono (by decide)) (by rfl) L.g__law_bare L.F__law_bare.kp pass0 (da_cons (dp_var 2) da_nil))) (dae_e (de_callG (ok__law_bare L) (hr.mono (by decide)) (by rfl) L.g__law_bare L.F__law_bare.kp pass0 (dae_e (de_ix (de_lst (dae_e (de_mv 2) (dae_e (de_op op_addAll os_add (de_p dp_int) (de_callG (ok__law_dip L) (hr.mono (by decide)) (by rfl) L.g__law_dip L.F__law_dip.kp pass0 (dae_pl 1 (dae_e (de_p dp_int) dae_nil)))) dae_nil))) (de_callG (ok__law_dip L) (hr.mono (by decide)) (by rfl) L.g__law_dip L.F__law_dip.kp pass0 (dae_pl 1 (dae_e (de_p dp_int) dae_nil)))) dae_nil)) dae_nil))))
      (ds_bar (dss_cons (ds_set 4 hN (de_lst (dae_e (de_make0 L.k_Desk (ok_Desk___init__ L) (hr.mono (by decide)) (by rfl) L.g_Desk pass0) (dae_e (de_make0 L.k_Desk (ok_Desk___init__ L) (hr.mono (by decide)) (by rfl) L.g_Desk pass0) (dae_e (de_make0 L.k_Desk (ok_Desk___init__ L) (hr.mono (by decide)) (by rfl) L.g_Desk pass0) dae_nil)))))
      (ds_bar (dss_cons (DS.as (eq3 sForX_eq _ _ _) (ds_for PassesOwn.never (by rfl) (DI.as (eq1 jR1_eq _) (di_range1 (by rfl) L.m_range (da_cons dp_int da_nil))) (dg_name 5 hN) (dss_one (ds_if (dte_not (dte_val (de_callP (ok__law_said L) (hr.mono (by decide)) (by rfl) L.g__law_said L.F__law_said.kp pass0 (by rfl) (DPl.as (eq2 plIxX_eq _ _) (dpl_ix (dpl_var 4) (dp_var 5))) (da_cons (dp_op op_addAll os_add dp_str (dp_callTy call_str_int cs_str (by rfl) L.m_str bt_str (da_cons (dp_callB call_len cs_len (by rfl) L.m_len bt_len (da_cons (dp_key hr.units (DP.as (eqIx _ _) (dp_ix (dp_var 3) (dp_var 5)))) da_nil)) da_nil))) (da_cons dp_str da_nil))))) (dss_one (ds_ret (de_p dp_bl))) dss_nil))))
      (dss_cons (ds_forRE PassesOwn.never (by rfl) (by rfl) L.m_range (de_op op_addAll os_add (de_p dp_int) (de_callG (ok__law_dip L) (hr.mono (by decide)) (by rfl) L.g__law_dip L.F__law_dip.kp pass0 (dae_pl 1 (dae_e (de_p dp_int) dae_nil)))) (dg_name 6 hN) (dss_cons (ds_set 7 hN (de_callG (ok__law_dip L) (hr.mono (by decide)) (by rfl) L.g__law_dip L.F__law_dip.kp pass0 (dae_pl 1 (dae_e (de_p dp_int) dae_nil))))
      (ds_bar (dss_cons (ds_vw 3 (ds_asg (de_callG (ok__law_deed L) (hr.mono (by decide)) (by rfl) L.g__law_deed L.F__law_deed.kp pass0 (dae_pl 1 (dae_e (de_r (DP.as (eqIx _ _) (dp_ix (dp_var 3) (dp_var 7)))) dae_nil))) (dg_tup (by rfl) (dgs_cons (dg_name 8 hN) (dgs_cons (dg_name 9 hN) dgs_nil)))))
      (ds_bar (dss_cons (ds_set 10 hN (de_p (dp_lst (da_cons (dp_var 7) da_nil))))
      (ds_bar (dss_cons (ds_if (DWE.dt (dwe_and (dte_cmp (op_eqAll hr.units) os_eq (de_callG (ok__law_dip L) (hr.mono (by decide)) (by rfl) L.g__law_dip L.F__law_dip.kp pass0 (dae_pl 1 (dae_e (de_p dp_int) dae_nil))) (de_p dp_int) (by rfl)) (dwe_and1 (dte_p (dt_val (dp_callG (ok__law_may_be_done L) (hr.mono (by decide)) (by rfl) L.g__law_may_be_done L.F__law_may_be_done.kp pass0 (da_cons (DP.as (eqIx _ _) (dp_ix (dp_var 3) (dp_op op_sub os_sub dp_int (dp_var 7)))) (da_cons (dp_var 8) (da_cons (dp_var 9) da_nil))))))))) (dss_one (ds_set 10 hN (de_p (dp_lst (da_cons (dp_var 7) (da_cons (dp_op op_sub os_sub dp_int (dp_var 7)) da_nil)))))) dss_nil)
      (ds_frz 10 (ds_bar (dss_cons (DS.as (eq3 sForX_eq _ _ _) (ds_for PassesOwn.never (by rfl) (di_seq (dp_var 10)) (dg_name 5 hN) (dss_one (ds_if (dte_not (dte_val (de_holdF (ok__law_said L) (hr.mono (by decide)) (by rfl) L.g__law_said L.F__law_said.kp pass0 (DPl.as (eq2 plIxX_eq _ _) (dpl_ix (dpl_var 4) (dp_var 5))) (dae_e (de_p (dp_callG (ok__law_row_of L) (hr.mono (by decide)) (by rfl) L.g__law_row_of L.F__law_row_of.kp pass0 (da_cons (dp_var 8) (da_cons (dp_var 9) da_nil)))) (dae_e (de_callP (ok__law_due L) (hr.mono (by decide)) (by rfl) L.g__law_due L.F__law_due.kp pass0 (by rfl) (DPl.as (eq2 plIxX_eq _ _) (dpl_ix (dpl_var 3) (dp_var 5))) (da_cons (dp_var 8) (da_cons (dp_var 9) da_nil))) dae_nil))))) (dss_one (ds_ret (de_p dp_bl))) dss_nil))))
      (ds_bar (dss_one (ds_vw 3 (ds_if (DWE.dt (dwe_or (dte_not (dte_val (de_holdF1 1 (ok__law_looked L) (hr.mono (by decide)) (by rfl) L.g__law_looked L.F__law_looked.kp pass0 (DPl.as (eq2 plIxX_eq _ _) (dpl_ix (dpl_var 4) dp_int)) (dae_e (de_r (DP.as (eqIx _ _) (dp_ix (dp_var 3) dp_int))) dae_nil)))) (dwe_or1 (dte_not (dte_val (de_holdF1 1 (ok__law_looked L) (hr.mono (by decide)) (by rfl) L.g__law_looked L.F__law_looked.kp pass0 (DPl.as (eq2 plIxX_eq _ _) (dpl_ix (dpl_var 4) dp_int)) (dae_e (de_r (DP.as (eqIx _ _) (dp_ix (dp_var 3) dp_int))) dae_nil))))))) (dss_one (ds_ret (de_p dp_bl))) dss_nil)))))))))))))))
      (ds_bar (dss_one (ds_ret (de_callB (cr_all (by rfl)) cs_all (by rfl) L.m_all bt_all (dae_e (DE.as (eq5 eLcX_eq _ _ _ _ _) (de_lc (E' := E) (by rfl) hN (di_seq (dp_lst (da_cons dp_str (da_cons dp_str (da_cons dp_str (da_cons dp_str (da_cons dp_str (da_cons dp_str da_nil)))))))) (blkOk_by (own := [("row", 11)]) (by kernel_rfl)) (fun _ _ _ _ _ => (dg_name 11 hN)) (fun _ _ _ _ _ => dts_nil) (fun _ _ _ _ _ => (de_callP (ok__law_no_job L) (hr.mono (by decide)) (by rfl) L.g__law_no_job L.F__law_no_job.kp pass0 (by rfl) (DPl.as (eq2 plIxX_eq _ _) (dpl_ix (dpl_var 4) dp_int)) (da_cons (dp_var 11) da_nil))))) dae_nil))))))))))))))
end
theorem facts {w : World} {K : PySem.W.Frag} {h : Heap} {mg : Str → Option Value} {f : Addr} (X : K.In h) (G : h.Ns mainGlobals mg) (hfa : mg ("law" : Str) = some (.ref f)) (c : He.SaysD fa fn K) (l0 : saysY fa fn ls xs ds w K) : ∃ L : Facts w K mg, L.f_law = f := by
  obtain ⟨l, lx⟩ := Bool.and_eq_true_iff.mp (Bool.and_eq_true_iff.mp l0.1).1
  obtain ⟨d0, F0⟩ := c.def_ 0 (d := ⟨("_law_bag", none), "_law_bag", "_law_bag", defArgs s__law_bag, defBody s__law_bag, defScope s__law_bag, [], []⟩) rfl
  obtain ⟨d1, F1⟩ := c.def_ 1 (d := ⟨("_law_dip", none), "_law_dip", "_law_dip", defArgs s__law_dip, defBody s__law_dip, defScope s__law_dip, [], []⟩) rfl
  obtain ⟨d2, F2⟩ := c.def_ 2 (d := ⟨("_law_begun", none), "_law_begun", "_law_begun", defArgs s__law_begun, defBody s__law_begun, defScope s__law_begun, [], []⟩) rfl
  obtain ⟨d3, F3⟩ := c.def_ 3 (d := ⟨("_law_bare", none), "_law_bare", "_law_bare", defArgs s__law_bare, defBody s__law_bare, defScope s__law_bare, [], []⟩) rfl
  obtain ⟨d4, F4⟩ := c.def_ 4 (d := ⟨("Desk", some "__init__"), "__init__", "Desk.__init__", defArgs s_Desk___init__, defBody s_Desk___init__, defScope s_Desk___init__, [], []⟩) rfl
  obtain ⟨d5, F5⟩ := c.def_ 5 (d := ⟨("number_in", none), "number_in", "number_in", defArgs s_number_in, defBody s_number_in, defScope s_number_in, [], []⟩) rfl
  obtain ⟨d6, F6⟩ := c.def_ 6 (d := ⟨("is_number", none), "is_number", "is_number", defArgs s_is_number, defBody s_is_number, defScope s_is_number, [], []⟩) rfl
  obtain ⟨d7, F7⟩ := c.def_ 7 (d := ⟨("is_row", none), "is_row", "is_row", defArgs s_is_row, defBody s_is_row, defScope s_is_row, [], []⟩) rfl
  obtain ⟨d8, F8⟩ := c.def_ 8 (d := ⟨("is_square", none), "is_square", "is_square", defArgs s_is_square, defBody s_is_square, defScope s_is_square, [], []⟩) rfl
  obtain ⟨d9, F9⟩ := c.def_ 9 (d := ⟨("is_job", none), "is_job", "is_job", defArgs s_is_job, defBody s_is_job, defScope s_is_job, [], []⟩) rfl
  obtain ⟨d10, F10⟩ := c.def_ 10 (d := ⟨("is_part", none), "is_part", "is_part", defArgs s_is_part, defBody s_is_part, defScope s_is_part, [], []⟩) rfl
  obtain ⟨d11, F11⟩ := c.def_ 11 (d := ⟨("is_laying", none), "is_laying", "is_laying", defArgs s_is_laying, defBody s_is_laying, defScope s_is_laying, [], []⟩) rfl
  obtain ⟨d12, F12⟩ := c.def_ 12 (d := ⟨("Keeper", some "__init__"), "__init__", "Keeper.__init__", defArgs s_Keeper___init__, defBody s_Keeper___init__, defScope s_Keeper___init__, [], []⟩) rfl
  obtain ⟨d13, F13⟩ := c.def_ 13 (d := ⟨("empty_job", none), "empty_job", "empty_job", defArgs s_empty_job, defBody s_empty_job, defScope s_empty_job, [], []⟩) rfl
  obtain ⟨d14, F14⟩ := c.def_ 14 (d := ⟨("Desk", some "begin"), "begin", "Desk.begin", defArgs s_Desk_begin, defBody s_Desk_begin, defScope s_Desk_begin, [], []⟩) rfl
  obtain ⟨d15, F15⟩ := c.def_ 15 (d := ⟨("Keeper", some "job"), "job", "Keeper.job", defArgs s_Keeper_job, defBody s_Keeper_job, defScope s_Keeper_job, [], []⟩) rfl
  obtain ⟨d16, F16⟩ := c.def_ 16 (d := ⟨("words_of", none), "words_of", "words_of", defArgs s_words_of, defBody s_words_of, defScope s_words_of, [], []⟩) rfl
  obtain ⟨d17, F17⟩ := c.def_ 17 (d := ⟨("Keeper", some "laying"), "laying", "Keeper.laying", defArgs s_Keeper_laying, defBody s_Keeper_laying, defScope s_Keeper_laying, [], []⟩) rfl
  obtain ⟨d18, F18⟩ := c.def_ 18 (d := ⟨("rows_of", none), "rows_of", "rows_of", defArgs s_rows_of, defBody s_rows_of, defScope s_rows_of, [], []⟩) rfl
  obtain ⟨d19, F19⟩ := c.def_ 19 (d := ⟨("Desk", some "told"), "told", "Desk.told", defArgs s_Desk_told, defBody s_Desk_told, defScope s_Desk_told, [], []⟩) rfl
  obtain ⟨d20, F20⟩ := c.def_ 20 (d := ⟨("fixed", none), "fixed", "fixed", defArgs s_fixed, defBody s_fixed, defScope s_fixed, [], []⟩) rfl
  obtain ⟨d21, F21⟩ := c.def_ 21 (d := ⟨("cost_jobs", none), "cost", "cost", defArgs s_cost_jobs, defBody s_cost_jobs, defScope s_cost_jobs, [], []⟩) rfl
  obtain ⟨d22, F22⟩ := c.def_ 22 (d := ⟨("Keeper", some "cost"), "cost", "Keeper.cost", defArgs s_Keeper_cost, defBody s_Keeper_cost, defScope s_Keeper_cost, [], []⟩) rfl
  obtain ⟨d23, F23⟩ := c.def_ 23 (d := ⟨("beside_saved", none), "beside_saved", "beside_saved", defArgs s_beside_saved, defBody s_beside_saved, defScope s_beside_saved, [], []⟩) rfl
  obtain ⟨d24, F24⟩ := c.def_ 24 (d := ⟨("saved", none), "saved", "saved", defArgs s_saved, defBody s_saved, defScope s_saved, [], []⟩) rfl
  obtain ⟨d25, F25⟩ := c.def_ 25 (d := ⟨("Keeper", some "need_work"), "need_work", "Keeper.need_work", defArgs s_Keeper_need_work, defBody s_Keeper_need_work, defScope s_Keeper_need_work, [], []⟩) rfl
  obtain ⟨d26, F26⟩ := c.def_ 26 (d := ⟨("Keeper", some "turn_to"), "turn_to", "Keeper.turn_to", defArgs s_Keeper_turn_to, defBody s_Keeper_turn_to, defScope s_Keeper_turn_to, [], []⟩) rfl
  obtain ⟨d27, F27⟩ := c.def_ 27 (d := ⟨("exchanged", none), "exchanged", "exchanged", defArgs s_exchanged, defBody s_exchanged, defScope s_exchanged, [], []⟩) rfl
  obtain ⟨d28, F28⟩ := c.def_ 28 (d := ⟨("Keeper", some "swap"), "swap", "Keeper.swap", defArgs s_Keeper_swap, defBody s_Keeper_swap, defScope s_Keeper_swap, [], []⟩) rfl
  obtain ⟨d29, F29⟩ := c.def_ 29 (d := ⟨("Keeper", some "better"), "better", "Keeper.better", defArgs s_Keeper_better, defBody s_Keeper_better, defScope s_Keeper_better, [], []⟩) rfl
  obtain ⟨d30, F30⟩ := c.def_ 30 (d := ⟨("Keeper", some "need_two"), "need_two", "Keeper.need_two", defArgs s_Keeper_need_two, defBody s_Keeper_need_two, defScope s_Keeper_need_two, [], []⟩) rfl
  obtain ⟨d31, F31⟩ := c.def_ 31 (d := ⟨("need_number", none), "need_number", "need_number", defArgs s_need_number, defBody s_need_number, defScope s_need_number, [], []⟩) rfl
  obtain ⟨d32, F32⟩ := c.def_ 32 (d := ⟨("with_number", none), "with_number", "with_number", defArgs s_with_number, defBody s_with_number, defScope s_with_number, [], []⟩) rfl
  obtain ⟨d33, F33⟩ := c.def_ 33 (d := ⟨("Keeper", some "flow"), "flow", "Keeper.flow", defArgs s_Keeper_flow, defBody s_Keeper_flow, defScope s_Keeper_flow, [], []⟩) rfl
  obtain ⟨d34, F34⟩ := c.def_ 34 (d := ⟨("Keeper", some "way"), "way", "Keeper.way", defArgs s_Keeper_way, defBody s_Keeper_way, defScope s_Keeper_way, [], []⟩) rfl
  obtain ⟨d35, F35⟩ := c.def_ 35 (d := ⟨("Keeper", some "charge"), "charge", "Keeper.charge", defArgs s_Keeper_charge, defBody s_Keeper_charge, defScope s_Keeper_charge, [], []⟩) rfl
  obtain ⟨d36, F36⟩ := c.def_ 36 (d := ⟨("Keeper", some "back"), "back", "Keeper.back", defArgs s_Keeper_back, defBody s_Keeper_back, defScope s_Keeper_back, [], []⟩) rfl
  obtain ⟨d37, F37⟩ := c.def_ 37 (d := ⟨("Desk", some "done"), "done", "Desk.done", defArgs s_Desk_done, defBody s_Desk_done, defScope s_Desk_done, [], []⟩) rfl
  obtain ⟨d38, F38⟩ := c.def_ 38 (d := ⟨("Desk", some "say"), "say", "Desk.say", defArgs s_Desk_say, defBody s_Desk_say, defScope s_Desk_say, [], []⟩) rfl
  obtain ⟨d39, F39⟩ := c.def_ 39 (d := ⟨("_law_said", none), "_law_said", "_law_said", defArgs s__law_said, defBody s__law_said, defScope s__law_said, [], []⟩) rfl
  obtain ⟨d40, F40⟩ := c.def_ 40 (d := ⟨("_law_deed", none), "_law_deed", "_law_deed", defArgs s__law_deed, defBody s__law_deed, defScope s__law_deed, [], []⟩) rfl
  obtain ⟨d41, F41⟩ := c.def_ 41 (d := ⟨("_law_may_be_done", none), "_law_may_be_done", "_law_may_be_done", defArgs s__law_may_be_done, defBody s__law_may_be_done, defScope s__law_may_be_done, [], []⟩) rfl
  obtain ⟨d42, F42⟩ := c.def_ 42 (d := ⟨("_law_row_of", none), "_law_row_of", "_law_row_of", defArgs s__law_row_of, defBody s__law_row_of, defScope s__law_row_of, [], []⟩) rfl
  obtain ⟨d43, F43⟩ := c.def_ 43 (d := ⟨("_law_price", none), "_law_price", "_law_price", defArgs s__law_price, defBody s__law_price, defScope s__law_price, [], []⟩) rfl
  obtain ⟨d44, F44⟩ := c.def_ 44 (d := ⟨("_law_best", none), "_law_best", "_law_best", defArgs s__law_best, defBody s__law_best, defScope s__law_best, [], []⟩) rfl
  obtain ⟨d45, F45⟩ := c.def_ 45 (d := ⟨("_law_past", none), "_law_past", "_law_past", defArgs s__law_past, defBody s__law_past, defScope s__law_past, [], []⟩) rfl
  obtain ⟨d46, F46⟩ := c.def_ 46 (d := ⟨("_law_swapped", none), "_law_swapped", "_law_swapped", defArgs s__law_swapped, defBody s__law_swapped, defScope s__law_swapped, [], []⟩) rfl
  obtain ⟨d47, F47⟩ := c.def_ 47 (d := ⟨("_law_done", none), "_law_done", "_law_done", defArgs s__law_done, defBody s__law_done, defScope s__law_done, [], []⟩) rfl
  obtain ⟨d48, F48⟩ := c.def_ 48 (d := ⟨("_law_due", none), "_law_due", "_law_due", defArgs s__law_due, defBody s__law_due, defScope s__law_due, [], []⟩) rfl
  obtain ⟨d49, F49⟩ := c.def_ 49 (d := ⟨("_law_rows", none), "_law_rows", "_law_rows", defArgs s__law_rows, defBody s__law_rows, defScope s__law_rows, [], []⟩) rfl
  obtain ⟨d50, F50⟩ := c.def_ 50 (d := ⟨("_law_shown", none), "_law_shown", "_law_shown", defArgs s__law_shown, defBody s__law_shown, defScope s__law_shown, [], []⟩) rfl
  obtain ⟨d51, F51⟩ := c.def_ 51 (d := ⟨("_law_looked", none), "_law_looked", "_law_looked", defArgs s__law_looked, defBody s__law_looked, defScope s__law_looked, [], []⟩) rfl
  obtain ⟨d52, F52⟩ := c.def_ 52 (d := ⟨("_law_no_job", none), "_law_no_job", "_law_no_job", defArgs s__law_no_job, defBody s__law_no_job, defScope s__law_no_job, [], []⟩) rfl
  obtain ⟨d53, F53⟩ := c.def_ 53 (d := ⟨("law", none), "law", "law", defArgs s_law, defBody s_law, defScope s_law, [], []⟩) rfl
  have e := hfa.symm.trans (He.glo_ok X G (c.fact 51 (f := .glo "law") rfl))
  cases e
  exact ⟨⟨_, d0, F0, He.glo_ok X G (c.fact 0 (f := .glo "_law_bag") rfl), _, d1, F1, He.glo_ok X G (c.fact 1 (f := .glo "_law_dip") rfl), _, d2, F2, He.glo_ok X G (c.fact 2 (f := .glo "_law_begun") rfl), _, d3, F3, He.glo_ok X G (c.fact 3 (f := .glo "_law_bare") rfl), _, d4, F4, _, d5, F5, He.glo_ok X G (c.fact 4 (f := .glo "number_in") rfl), _, d6, F6, He.glo_ok X G (c.fact 5 (f := .glo "is_number") rfl), _, d7, F7, He.glo_ok X G (c.fact 6 (f := .glo "is_row") rfl), _, d8, F8, He.glo_ok X G (c.fact 7 (f := .glo "is_square") rfl), _, d9, F9, He.glo_ok X G (c.fact 8 (f := .glo "is_job") rfl), _, d10, F10, He.glo_ok X G (c.fact 9 (f := .glo "is_part") rfl), _, d11, F11, He.glo_ok X G (c.fact 10 (f := .glo "is_laying") rfl), _, d12, F12, _, d13, F13, He.glo_ok X G (c.fact 11 (f := .glo "empty_job") rfl), _, d14, F14, He.meth_ok (c.fact 12 (f := .meth "Desk" "begin") rfl), _, d15, F15, He.meth_ok (c.fact 13 (f := .meth "Keeper" "job") rfl), _, d16, F16, He.glo_ok X G (c.fact 14 (f := .glo "words_of") rfl), _, d17, F17, He.meth_ok (c.fact 15 (f := .meth "Keeper" "laying") rfl), _, d18, F18, He.glo_ok X G (c.fact 16 (f := .glo "rows_of") rfl), _, d19, F19, He.meth_ok (c.fact 17 (f := .meth "Desk" "told") rfl), _, d20, F20, He.glo_ok X G (c.fact 18 (f := .glo "fixed") rfl), _, d21, F21, He.glo_ok X G (c.fact 19 (f := .glo "cost_jobs") rfl), _, d22, F22, He.meth_ok (c.fact 20 (f := .meth "Keeper" "cost") rfl), _, d23, F23, He.glo_ok X G (c.fact 21 (f := .glo "beside_saved") rfl), _, d24, F24, He.glo_ok X G (c.fact 22 (f := .glo "saved") rfl), _, d25, F25, He.meth_ok (c.fact 23 (f := .meth "Keeper" "need_work") rfl), _, d26, F26, He.meth_ok (c.fact 24 (f := .meth "Keeper" "turn_to") rfl), _, d27, F27, He.glo_ok X G (c.fact 25 (f := .glo "exchanged") rfl), _, d28, F28, He.meth_ok (c.fact 26 (f := .meth "Keeper" "swap") rfl), _, d29, F29, He.meth_ok (c.fact 27 (f := .meth "Keeper" "better") rfl), _, d30, F30, He.meth_ok (c.fact 28 (f := .meth "Keeper" "need_two") rfl), _, d31, F31, He.glo_ok X G (c.fact 29 (f := .glo "need_number") rfl), _, d32, F32, He.glo_ok X G (c.fact 30 (f := .glo "with_number") rfl), _, d33, F33, He.meth_ok (c.fact 31 (f := .meth "Keeper" "flow") rfl), _, d34, F34, He.meth_ok (c.fact 32 (f := .meth "Keeper" "way") rfl), _, d35, F35, He.meth_ok (c.fact 33 (f := .meth "Keeper" "charge") rfl), _, d36, F36, He.meth_ok (c.fact 34 (f := .meth "Keeper" "back") rfl), _, d37, F37, He.meth_ok (c.fact 35 (f := .meth "Desk" "done") rfl), _, d38, F38, He.meth_ok (c.fact 36 (f := .meth "Desk" "say") rfl), _, d39, F39, He.glo_ok X G (c.fact 37 (f := .glo "_law_said") rfl), _, d40, F40, He.glo_ok X G (c.fact 38 (f := .glo "_law_deed") rfl), _, d41, F41, He.glo_ok X G (c.fact 39 (f := .glo "_law_may_be_done") rfl), _, d42, F42, He.glo_ok X G (c.fact 40 (f := .glo "_law_row_of") rfl), _, d43, F43, He.glo_ok X G (c.fact 41 (f := .glo "_law_price") rfl), _, d44, F44, He.glo_ok X G (c.fact 42 (f := .glo "_law_best") rfl), _, d45, F45, He.glo_ok X G (c.fact 43 (f := .glo "_law_past") rfl), _, d46, F46, He.glo_ok X G (c.fact 44 (f := .glo "_law_swapped") rfl), _, d47, F47, He.glo_ok X G (c.fact 45 (f := .glo "_law_done") rfl), _, d48, F48, He.glo_ok X G (c.fact 46 (f := .glo "_law_due") rfl), _, d49, F49, He.glo_ok X G (c.fact 47 (f := .glo "_law_rows") rfl), _, d50, F50, He.glo_ok X G (c.fact 48 (f := .glo "_law_shown") rfl), _, d51, F51, He.glo_ok X G (c.fact 49 (f := .glo "_law_looked") rfl), _, d52, F52, He.glo_ok X G (c.fact 50 (f := .glo "_law_no_job") rfl), _, d53, F53, He.glo_ok X G (c.fact 51 (f := .glo "law") rfl), He.glo_ok X G (c.fact 52 (f := .glo "Desk") rfl), He.cls_ok (c.fact 53 (f := .cls "Desk") rfl), He.mkr_ok (c.fact 54 (f := .mkr "Desk") rfl), He.glo_ok X G (c.fact 55 (f := .glo "Keeper") rfl), He.cls_ok (c.fact 56 (f := .cls "Keeper") rfl), He.mkr_ok (c.fact 57 (f := .mkr "Keeper") rfl), He.glo_ok X G (c.fact 58 (f := .glo "NoJob") rfl), He.exc_ok (c.fact 59 (f := .exc "NoJob") rfl), He.glo_ok X G (c.fact 60 (f := .glo "NoLaying") rfl), He.exc_ok (c.fact 61 (f := .exc "NoLaying") rfl), He.glo_ok X G (c.fact 62 (f := .glo "NoNumber") rfl), He.exc_ok (c.fact 63 (f := .exc "NoNumber") rfl), He.exc_ok (c.fact 64 (f := .exc "NoRow") rfl), He.glo_ok X G (c.fact 65 (f := .glo "NoWork") rfl), He.exc_ok (c.fact 66 (f := .exc "NoWork") rfl), He.glo_ok X G (c.fact 67 (f := .glo "Nothing") rfl), He.exc_ok (c.fact 68 (f := .exc "Nothing") rfl), He.glo_ok X G (c.fact 69 (f := .glo "NoRow") rfl), He.exm_ok (c.fact 70 (f := .exm "NoRow" "NoRow" true) rfl), He.noat_ok (c.fact 71 (f := .noat "Desk" "keeper") rfl), He.noat_ok (c.fact 72 (f := .noat "Keeper" "laid") rfl), He.noat_ok (c.fact 73 (f := .noat "Keeper" "now") rfl), He.noat_ok (c.fact 74 (f := .noat "Keeper" "past") rfl), He.int_ok X G (c.fact 75 (f := .int "MOST_COST" 1000000) rfl), He.int_ok X G (c.fact 76 (f := .int "MOST_SENT" 999) rfl), He.int_ok X G (c.fact 77 (f := .int "MOST_WORKS_jobs" 8) rfl), He.str_ok X G (c.fact 78 (f := .str "FIGURES" "0123456789") rfl), He.glo_ok X G (c.fact 79 (f := .glo "HANDED") rfl), tab_ok l0 0, He.glo_ok X G (c.fact 80 (f := .glo "ASKED") rfl), lstB_ok l 0, He.glo_ok X G (c.fact 81 (f := .glo "NAMES") rfl), lstB_ok l 1, He.free_ok X G (c.fact 82 (f := .free "abs") rfl), He.free_ok X G (c.fact 83 (f := .free "all") rfl), He.free_ok X G (c.fact 84 (f := .free "bool") rfl), He.free_ok X G (c.fact 85 (f := .free "enumerate") rfl), He.free_ok X G (c.fact 86 (f := .free "int") rfl), He.free_ok X G (c.fact 87 (f := .free "isinstance") rfl), He.free_ok X G (c.fact 88 (f := .free "len") rfl), He.free_ok X G (c.fact 89 (f := .free "list") rfl), He.free_ok X G (c.fact 90 (f := .free "max") rfl), He.free_ok X G (c.fact 91 (f := .free "range") rfl), He.free_ok X G (c.fact 92 (f := .free "set") rfl), He.free_ok X G (c.fact 93 (f := .free "str") rfl), He.free_ok X G (c.fact 94 (f := .free "sum") rfl), He.free_ok X G (c.fact 95 (f := .free "tuple") rfl), He.free_ok X G (c.fact 96 (f := .free "zip") rfl)⟩, rfl⟩
end K76

/-! k76's own laws -/
namespace K76
open PySem PySem.Spec PyProof.Rows L2 DL DCB PA DCF DCG DCJ DCV DCW
open DCA (Bag dip_specN bag_spec)
open DCH (sI)
noncomputable section
abbrev mw8 : SF := (sRet (eCallB oAll (aE (eLcX (iSq (pLst (gCons (pC (.str "total")) (gCons (pC (.str "laying")) (gCons (pC (.str "show")) (gCons (pC (.str "back")) (gCons (pC (.str "better")) (gCons (pC (.str "swap 0 0")) gNil)))))))) [11] (gNm 11) tNilP (eFnP cf__law_no_job (plIxX (plVar 4) (pC (.int 2))) (gCons (pVar 11) gNil))) aNil)))
abbrev mw7 : SF := (sVw 3 (sIf (teOr (teNot (eTest (fun ρ P PX => (∃ kd, ρ[1]? = some (some kd)) ∧ eHold [true, true, false] DCW.cf__law_looked [1] (plIxX (plVar 4) (pC (.int 0))) (aE (eR (pOp xIx (pVar 3) (pC (.int 0)))) aNil) ρ P PX))) (teNot (eTest (fun ρ P PX => (∃ kd, ρ[1]? = some (some kd)) ∧ eHold [true, true, false] DCW.cf__law_looked [1] (plIxX (plVar 4) (pC (.int 1))) (aE (eR (pOp xIx (pVar 3) (pC (.int 1)))) aNil) ρ P PX)))) (sRet (eP (pC (.bl false)))) sNil))
abbrev mw6 : SF := (sSeq (sForX (iSq (pVar 10)) (gNm 5) (sIf (teNot (eTest (eHold [true, false, false] DCW.cf__law_said [] (plIxX (plVar 4) (pVar 5)) (aE (eP (pFn DCV.cf__law_row_of (gCons (pVar 8) (gCons (pVar 9) gNil)))) (aE (eFnP DCV.cf__law_due (plIxX (plVar 3) (pVar 5)) (gCons (pVar 8) (gCons (pVar 9) gNil))) aNil))))) (sRet (eP (pC (.bl false)))) sNil)) (sBar mw7))
abbrev mw5 : SF := (sSeq (sIf (teAnd (eTest (eOp oEq (eFn [true, false] DCA.cf__law_dip (aPl 1 (aE (eP (pC (.int 3))) aNil))) (eP (pC (.int 0))))) (teP (pTest (pFn cf__law_may_be_done (gCons (pOp xIx (pVar 3) (pOp oSub (pC (.int 1)) (pVar 7))) (gCons (pVar 8) (gCons (pVar 9) gNil))))))) (sSet 10 (eP (pLst (gCons (pVar 7) (gCons (pOp oSub (pC (.int 1)) (pVar 7)) gNil))))) sNil) (sFrz 10 (sBar mw6)))
abbrev mw4 : SF := (sSeq (sSet 10 (eP (pLst (gCons (pVar 7) gNil)))) (sBar mw5))
abbrev mw3 : SF := (sSeq (sVw 3 (sAsg (eFn [true, false] DCJ.cf__law_deed (aPl 1 (aE (eR (pOp xIx (pVar 3) (pVar 7))) aNil))) (gTu 2 (tConsG (gNm 8) (tConsG (gNm 9) tNilG))))) (sBar mw4))
abbrev mw2 : SF := (sSeq (sForX (jR1 (gCons (pC (.int 2)) gNil)) (gNm 5) (sIf (teNot (eTest (eFnP DCW.cf__law_said (plIxX (plVar 4) (pVar 5)) (gCons (pOp oAdd (pC (.str "job ")) (pCall oStr (gCons (pCall oLen (gCons (pKey "laying" (pOp xIx (pVar 3) (pVar 5))) gNil)) gNil))) (gCons (pC (.str "ok")) gNil))))) (sRet (eP (pC (.bl false)))) sNil)) (sSeq (sForRE (eOp oAdd (eP (pC (.int 12))) (eFn [true, false] DCA.cf__law_dip (aPl 1 (aE (eP (pC (.int 20))) aNil)))) (gNm 6) (sSeq (sSet 7 (eFn [true, false] DCA.cf__law_dip (aPl 1 (aE (eP (pC (.int 2))) aNil)))) (sBar mw3))) (sBar mw8)))
abbrev mw1 : SF := (sSeq (sSet 4 (eLst (aE (eMakeX "Desk" DCV.cf_Desk___init__ aNil) (aE (eMakeX "Desk" DCV.cf_Desk___init__ aNil) (aE (eMakeX "Desk" DCV.cf_Desk___init__ aNil) aNil))))) (sBar mw2))
abbrev mw0 : SF := (sSeq (sSet 3 (eLst (aE (eP (pFn DCV.cf__law_bare (gCons (pVar 2) gNil))) (aE (eFn [false] DCV.cf__law_bare (aE (eOp xIx (eLst (aE (eMv 2) (aE (eOp oAdd (eP (pC (.int 1))) (eFn [true, false] DCA.cf__law_dip (aPl 1 (aE (eP (pC (.int 8))) aNil)))) aNil))) (eFn [true, false] DCA.cf__law_dip (aPl 1 (aE (eP (pC (.int 2))) aNil)))) aNil)) aNil)))) (sBar mw1))
end
theorem job_row {m : Nat} : ("job " : Str) ++ sI m = rwT "job" [m] := by
  show _ = Txt.join " " [("job" : Str), sI m]
  rw [TL.join_eq]
  show _ = ("job" : Str) ++ " " ++ sI m
  have e2 : ("job" : Str) ++ " " = "job " := by decide
  rw [e2]
abbrev sc (ns : List Int) : Sl := some (.fl, .kst (ns.map .int))
structure St where
  n : Nat
  s : KS
  h : List KS
abbrev St.rec_ (x : St) : D := recD x.n x.s x.h
abbrev St.dk (x : St) : D := dkD (kpD x.n x.s x.h)
structure St.Ok (x : St) (m : Nat) : Prop where
  ok : KOk x.n x.s
  all : ∀ t ∈ x.h, KOk x.n t
  len : x.h.length ≤ m
abbrev St.nx (x : St) (e : Deed) : St := ⟨x.n, (e.next x.n x.s x.h).1, (e.next x.n x.s x.h).2⟩
theorem St.Ok.nx {x : St} {m : Nat} {e : Deed} (h : x.Ok m) (he : e.Ok x.n x.h) : (x.nx e).Ok (m + 1) := by
  obtain ⟨a, b⟩ := next_ok h.ok h.all he
  exact ⟨a, b, by have := next_len (n := x.n) (s := x.s) (hist := x.h) (d := e); have := h.len; show (e.next x.n x.s x.h).2.length ≤ m + 1; omega⟩
theorem St.Ok.mono {x : St} {m k : Nat} (h : x.Ok m) (hm : m ≤ k) : x.Ok k := ⟨h.ok, h.all, Nat.le_trans h.len hm⟩
abbrev stD (a b : St) : D := .lst [a.rec_, b.rec_]
abbrev dsD (a b : St) : D := .lst [a.dk, b.dk, dkD .non]
/-- nothing but a job is answered by a desk without one -/
theorem no_job_spec {w : Str} {ns : List Nat} {Q X} (r : Row w ns) (hw : w ≠ "job") (h : Q (.fl, .bl true) [(.ow, dkD .non)]) : cf__law_no_job [(.ow, dkD .non), (.fl, .str (rwT w ns))] Q X := by
  rw [cf__law_no_job_eq]
  exact ⟨⟨_, rfl⟩, ⟨_, rfl⟩, say_none r hw ⟨List.mem_singleton.mpr rfl, h⟩⟩
theorem no_job_word {w : Str} {Q X} (r : Row w []) (hw : w ≠ "job") (h : Q (.fl, .bl true) [(.ow, dkD .non)]) : cf__law_no_job [(.ow, dkD .non), (.fl, .str w)] Q X := by
  have := no_job_spec r hw h (X := X)
  rwa [one_word] at this
theorem no_job_swap {Q X} (h : Q (.fl, .bl true) [(.ow, dkD .non)]) : cf__law_no_job [(.ow, dkD .non), (.fl, .str "swap 0 0")] Q X := by
  have e : ("swap 0 0" : Str) = rwT "swap" [0, 0] := by decide +kernel
  rw [e]
  exact no_job_spec (row_swap (by decide) (by decide)) (by decide) h
theorem may_spec {x : St} {m : Nat} {e : Deed} {n' : Nat} {h' : List KS} {Q X} (hx : x.Ok m) (he : e.Ok n' h') (h : ∀ b : Bool, (b = true → e.Ok x.n x.h) → Q (.fl, .bl b) []) : cf__law_may_be_done [(.rd, x.rec_), (.fl, .str e.word), (.fl, e.handed)] Q X := by
  rw [cf__law_may_be_done_eq]
  have hL : ((tabl x.n fun i => D.int (x.s.p i : Nat)).length : Int) = x.n := lenD
  have e1 : ∀ {z : Nat} {y : Int}, decide (y < ((tabl x.n fun i => D.int (x.s.p i : Nat)).length : Int)) = true → (z : Int) ≤ y → z < x.n := fun {z y} hd hz => by
    have := of_decide_eq_true hd
    rw [hL] at this
    omega
  have hb := bare_ok (n := 1) (by decide) (by decide)
  cases e with
  | flow a b v =>
    refine ⟨(show 1 + 2 ≤ 10000000 by decide), [0, (a : Int), b], rfl, (show 0 < 3 by decide), fun y hy hy2 => go_key (j := 1) rfl nd3 rfl rfl ?_⟩
    refine h _ fun hd => ?_
    obtain ⟨_, _, hab, h0, h1⟩ := he
    exact ⟨e1 hd (hy2 _ (by simp)), e1 hd (hy2 _ (by simp)), hab, h0, h1⟩
  | way a b v =>
    refine ⟨(show 1 + 2 ≤ 10000000 by decide), [0, (a : Int), b], rfl, (show 0 < 3 by decide), fun y hy hy2 => go_key (j := 1) rfl nd3 rfl rfl ?_⟩
    refine h _ fun hd => ?_
    obtain ⟨_, _, hab, h0, h1⟩ := he
    exact ⟨e1 hd (hy2 _ (by simp)), e1 hd (hy2 _ (by simp)), hab, h0, h1⟩
  | charge a b v =>
    refine ⟨(show 1 + 2 ≤ 10000000 by decide), [0, (a : Int), b], rfl, (show 0 < 3 by decide), fun y hy hy2 => go_key (j := 1) rfl nd3 rfl rfl ?_⟩
    refine h _ fun hd => ?_
    obtain ⟨_, _, h0, h1⟩ := he
    exact ⟨e1 hd (hy2 _ (by simp)), e1 hd (hy2 _ (by simp)), h0, h1⟩
  | swap a b =>
    refine ⟨(show 1 + 2 ≤ 10000000 by decide), [0, (a : Int), b], rfl, (show 0 < 3 by decide), fun y hy hy2 => go_key (j := 1) rfl nd3 rfl rfl ?_⟩
    refine h _ fun hd => ?_
    exact ⟨e1 hd (hy2 _ (by simp)), e1 hd (hy2 _ (by simp))⟩
  | better =>
    refine ⟨(by decide), [0], rfl, (by decide), fun y hy hy2 => go_key (j := 1) rfl nd3 rfl rfl ?_⟩
    exact h _ fun hd => trivial
  | back =>
    refine go_key (j := 2) rfl nd3 rfl rfl ⟨hist_okE, cL_okE rfl (by decide), ?_⟩
    by_cases c : x.h = []
    · have e2 : PyData.eqv (D.lst (x.h.map (pastD x.n))).toP (D.lst []).toP = true := by rw [c]; rfl
      show if PyData.eqv (D.lst (x.h.map (pastD x.n))).toP (D.lst []).toP = true then _ else _
      rw [e2]
      exact h false fun z => nomatch z
    · have e2 : PyData.eqv (D.lst (x.h.map (pastD x.n))).toP (D.lst []).toP = false := by
        obtain ⟨h0, s0, e⟩ := last_of c
        rw [e]
        cases h0 <;> rfl
      show if PyData.eqv (D.lst (x.h.map (pastD x.n))).toP (D.lst []).toP = true then _ else _
      rw [e2]
      refine ⟨(by decide), [0], rfl, (by decide), fun y hy hy2 => go_key (j := 1) rfl nd3 rfl rfl ?_⟩
      exact h _ fun hd => c
/-- one deed done by one desk -/
abbrev bodyF : SF := sIf (teNot (eTest (eHold [true, false, false] DCW.cf__law_said [] (plIxX (plVar 4) (pVar 5)) (aE (eP (pFn DCV.cf__law_row_of (DL.gCons (pVar 8) (DL.gCons (pVar 9) DL.gNil)))) (aE (eFnP DCV.cf__law_due (plIxX (plVar 3) (pVar 5)) (DL.gCons (pVar 8) (DL.gCons (pVar 9) DL.gNil))) aNil))))) (sRet (eP (pC (.bl false)))) sNil
theorem at0 {ns : List Int} {De : DEnds} {d : D} {a b : St} {e : Deed} {m : Nat} {e2 e6 e7 e10 e11 : Sl} {k : Int} (hk : k = 0) (ha : a.Ok m) (he : e.Ok a.n a.h) (hm : m ≤ 1000)
    (h : De.nx [sc ns, some (.ow, d), e2, some (.ow, stD (a.nx e) b), some (.ow, dsD (a.nx e) b), some (.fl, .int k), e6, e7, some (.fl, .str e.word), some (.fl, e.handed), e10, e11]) :
    bodyF De [sc ns, some (.ow, d), e2, some (.ow, stD a b), some (.ow, dsD a b), some (.fl, .int k), e6, e7, some (.fl, .str e.word), some (.fl, e.handed), e10, e11] := by
  subst hk
  have hl := ha.len
  refine go_pl rfl rfl rfl ⟨rfl, row_of_spec ha.ok he ?_⟩
  refine go_pl rfl rfl rfl ⟨rfl, due_spec ha.ok (by omega) he ⟨rfl, ?_⟩⟩
  exact said_deed ha.ok (by omega) he h
theorem at1 {ns : List Int} {De : DEnds} {d : D} {a b : St} {e : Deed} {m : Nat} {e2 e6 e7 e10 e11 : Sl} {k : Int} (hk : k = 1) (ha : b.Ok m) (he : e.Ok b.n b.h) (hm : m ≤ 1000)
    (h : De.nx [sc ns, some (.ow, d), e2, some (.ow, stD a (b.nx e)), some (.ow, dsD a (b.nx e)), some (.fl, .int k), e6, e7, some (.fl, .str e.word), some (.fl, e.handed), e10, e11]) :
    bodyF De [sc ns, some (.ow, d), e2, some (.ow, stD a b), some (.ow, dsD a b), some (.fl, .int k), e6, e7, some (.fl, .str e.word), some (.fl, e.handed), e10, e11] := by
  subst hk
  have hl := ha.len
  refine go_pl rfl rfl rfl ⟨rfl, row_of_spec ha.ok he ?_⟩
  refine go_pl rfl rfl rfl ⟨rfl, due_spec ha.ok (by omega) he ⟨rfl, ?_⟩⟩
  exact said_deed ha.ok (by omega) he h
theorem looked2 {ns : List Int} {De : DEnds} {d : D} {a b : St} {m : Nat} {e2 e5 e6 e7 e8 e9 e10 e11 : Sl} (hd : Bag d) (ha : a.Ok m) (hb : b.Ok m)
    (h : ∀ d e2 e5 e6 e7 e8 e9 e10 e11, Bag d → De.nx [sc ns, some (.ow, d), e2, some (.ow, stD a b), some (.ow, dsD a b), e5, e6, e7, e8, e9, e10, e11]) :
    mw7 De [sc ns, some (.ow, d), e2, some (.ow, stD a b), some (.ow, dsD a b), e5, e6, e7, e8, e9, e10, e11] := by
  refine ⟨⟨_, rfl⟩, go_pl rfl rfl rfl ⟨rfl, go_ix rfl rfl (looked_spec hd ha.ok fun d hd => ?_)⟩⟩
  refine ⟨⟨_, rfl⟩, go_pl rfl rfl rfl ⟨rfl, go_ix rfl rfl (looked_spec hd hb.ok fun d hd => ?_)⟩⟩
  exact h d _ _ _ _ _ _ _ _ hd
theorem stepW {ns : List Int} {De : DEnds} {d : D} {a b : St} {w t : Nat} {e2 e5 e6 e7 e8 e9 e10 e11 : Sl} (hw : w < 2) (hd : Bag d) (ha : a.Ok t) (hb : b.Ok t) (ht : t ≤ 100)
    (h : ∀ d a b e2 e5 e6 e7 e8 e9 e10 e11, Bag d → St.Ok a (t + 1) → St.Ok b (t + 1) → De.nx [sc ns, some (.ow, d), e2, some (.ow, stD a b), some (.ow, dsD a b), e5, e6, e7, e8, e9, e10, e11]) :
    kNext mw3 De [sc ns, some (.ow, d), e2, some (.ow, stD a b), some (.ow, dsD a b), e5, e6, some (.fl, .int w), e8, e9, e10, e11] := by
  have fin : ∀ {d a b e2 e5 e6 e7 e8 e9 e10 e11}, Bag d → St.Ok a (t + 1) → St.Ok b (t + 1) → kNext mw7 De [sc ns, some (.ow, d), e2, some (.ow, stD a b), some (.ow, dsD a b), e5, e6, e7, e8, e9, e10, e11] := fun {d a b e2 e5 e6 e7 e8 e9 e10 e11} hd ha hb =>
    go_next (looked2 hd ha hb fun d e2 e5 e6 e7 e8 e9 e10 e11 hd => h d a b e2 e5 e6 e7 e8 e9 e10 e11 hd ha hb)
  have ek : ∀ e : Deed, kmv .fl e.handed = (.fl, e.handed) := fun e => by cases e <;> rfl
  match w, hw with
  | 0, _ =>
    refine go_next ⟨⟨_, rfl⟩, go_ix rfl rfl (deed_spec ha.ok hd fun e d he hd => ⟨rfl, rfl, ?_⟩)⟩
    show kNext mw4 De [sc ns, some (.ow, d), _, some (.ow, stD a b), some (.ow, dsD a b), _, _, some (.fl, .int (0 : Nat)), some (.fl, .str e.word), cln1 (some (kmv .fl e.handed)), _, _]
    rw [ek]
    refine go_next ?_
    show kNext mw5 De [sc ns, some (.ow, d), _, some (.ow, stD a b), some (.ow, dsD a b), _, _, some (.fl, .int (0 : Nat)), some (.fl, .str e.word), some (.fl, e.handed), some (.sh, .lst [.int (0 : Nat)]), _]
    have one : ∀ {d e2 e5 e6 e11}, Bag d → kNext mw6 De [sc ns, some (.ow, d), e2, some (.ow, stD a b), some (.ow, dsD a b), e5, e6, some (.fl, .int (0 : Nat)), some (.fl, .str e.word), some (.fl, e.handed), some (.sa, .lst [.int (0 : Nat)]), e11] := fun {d e2 e5 e6 e11} hd => by
      refine go_next (go_For (fun i ρ => (i = 0 ∧ ρ = [sc ns, some (.ow, d), e2, some (.ow, stD a b), some (.ow, dsD a b), e5, e6, some (.fl, .int (0 : Nat)), some (.fl, .str e.word), some (.fl, e.handed), some (.sa, .lst [.int (0 : Nat)]), e11]) ∨ (i = 1 ∧ ∃ e5, ρ = [sc ns, some (.ow, d), e2, some (.ow, stD (a.nx e) b), some (.ow, dsD (a.nx e) b), e5, e6, some (.fl, .int (0 : Nat)), some (.fl, .str e.word), some (.fl, e.handed), some (.sa, .lst [.int (0 : Nat)]), e11])) (.inl ⟨rfl, rfl⟩) (fun i z ρ N hz hI hN => ?_) fun ρ hI => ?_)
      · match i, hz with
        | 0, hz =>
          cases hz
          rcases hI with ⟨_, rfl⟩ | ⟨h0, _⟩
          · exact at0 rfl ha he (by omega) (hN _ (.inr ⟨rfl, _, rfl⟩))
          · cases h0
      · rcases hI with ⟨h0, _⟩ | ⟨_, _, rfl⟩
        · cases h0
        · exact fin hd (ha.nx he) (hb.mono (Nat.le_succ _))
    have two : ∀ {d e2 e5 e6 e11}, e.Ok b.n b.h → Bag d → kNext mw6 De [sc ns, some (.ow, d), e2, some (.ow, stD a b), some (.ow, dsD a b), e5, e6, some (.fl, .int (0 : Nat)), some (.fl, .str e.word), some (.fl, e.handed), some (.sa, .lst [.int (0 : Nat), .int (1 - (0 : Nat))]), e11] := fun {d e2 e5 e6 e11} hy hd => by
      refine go_next (go_For (fun i ρ => (i = 0 ∧ ρ = [sc ns, some (.ow, d), e2, some (.ow, stD a b), some (.ow, dsD a b), e5, e6, some (.fl, .int (0 : Nat)), some (.fl, .str e.word), some (.fl, e.handed), some (.sa, .lst [.int (0 : Nat), .int (1 - (0 : Nat))]), e11]) ∨ (i = 1 ∧ ∃ e5, ρ = [sc ns, some (.ow, d), e2, some (.ow, stD (a.nx e) b), some (.ow, dsD (a.nx e) b), e5, e6, some (.fl, .int (0 : Nat)), some (.fl, .str e.word), some (.fl, e.handed), some (.sa, .lst [.int (0 : Nat), .int (1 - (0 : Nat))]), e11]) ∨ (i = 2 ∧ ∃ e5, ρ = [sc ns, some (.ow, d), e2, some (.ow, stD (a.nx e) (b.nx e)), some (.ow, dsD (a.nx e) (b.nx e)), e5, e6, some (.fl, .int (0 : Nat)), some (.fl, .str e.word), some (.fl, e.handed), some (.sa, .lst [.int (0 : Nat), .int (1 - (0 : Nat))]), e11])) (.inl ⟨rfl, rfl⟩) (fun i z ρ N hz hI hN => ?_) fun ρ hI => ?_)
      · match i, hz with
        | 0, hz =>
          cases hz
          rcases hI with ⟨_, rfl⟩ | ⟨h0, _⟩ | ⟨h0, _⟩
          · exact at0 rfl ha he (by omega) (hN _ (.inr (.inl ⟨rfl, _, rfl⟩)))
          · cases h0
          · cases h0
        | 1, hz =>
          cases hz
          rcases hI with ⟨h0, _⟩ | ⟨_, _, rfl⟩ | ⟨h0, _⟩
          · cases h0
          · exact at1 (by decide) hb hy (by omega) (hN _ (.inr (.inr ⟨rfl, _, rfl⟩)))
          · cases h0
      · rcases hI with ⟨h0, _⟩ | ⟨h0, _⟩ | ⟨_, _, rfl⟩
        · cases h0
        · cases h0
        · exact fin hd (ha.nx he) (hb.nx hy)
    refine go_next ⟨⟨_, rfl⟩, dip_specN hd (by decide) (by decide) fun q d hq hd => ifd (fun c => ?_) fun c => ?_⟩
    · refine go_ix rfl rfl (may_spec (x := b) hb he fun y hy => ifb (fun e1 => ?_) fun e1 => ?_)
      · exact two (hy e1) hd
      · exact one hd
    · exact one hd
  | 1, _ =>
    refine go_next ⟨⟨_, rfl⟩, go_ix rfl rfl (deed_spec hb.ok hd fun e d he hd => ⟨rfl, rfl, ?_⟩)⟩
    show kNext mw4 De [sc ns, some (.ow, d), _, some (.ow, stD a b), some (.ow, dsD a b), _, _, some (.fl, .int (1 : Nat)), some (.fl, .str e.word), cln1 (some (kmv .fl e.handed)), _, _]
    rw [ek]
    refine go_next ?_
    show kNext mw5 De [sc ns, some (.ow, d), _, some (.ow, stD a b), some (.ow, dsD a b), _, _, some (.fl, .int (1 : Nat)), some (.fl, .str e.word), some (.fl, e.handed), some (.sh, .lst [.int (1 : Nat)]), _]
    have one : ∀ {d e2 e5 e6 e11}, Bag d → kNext mw6 De [sc ns, some (.ow, d), e2, some (.ow, stD a b), some (.ow, dsD a b), e5, e6, some (.fl, .int (1 : Nat)), some (.fl, .str e.word), some (.fl, e.handed), some (.sa, .lst [.int (1 : Nat)]), e11] := fun {d e2 e5 e6 e11} hd => by
      refine go_next (go_For (fun i ρ => (i = 0 ∧ ρ = [sc ns, some (.ow, d), e2, some (.ow, stD a b), some (.ow, dsD a b), e5, e6, some (.fl, .int (1 : Nat)), some (.fl, .str e.word), some (.fl, e.handed), some (.sa, .lst [.int (1 : Nat)]), e11]) ∨ (i = 1 ∧ ∃ e5, ρ = [sc ns, some (.ow, d), e2, some (.ow, stD a (b.nx e)), some (.ow, dsD a (b.nx e)), e5, e6, some (.fl, .int (1 : Nat)), some (.fl, .str e.word), some (.fl, e.handed), some (.sa, .lst [.int (1 : Nat)]), e11])) (.inl ⟨rfl, rfl⟩) (fun i z ρ N hz hI hN => ?_) fun ρ hI => ?_)
      · match i, hz with
        | 0, hz =>
          cases hz
          rcases hI with ⟨_, rfl⟩ | ⟨h0, _⟩
          · exact at1 rfl hb he (by omega) (hN _ (.inr ⟨rfl, _, rfl⟩))
          · cases h0
      · rcases hI with ⟨h0, _⟩ | ⟨_, _, rfl⟩
        · cases h0
        · exact fin hd (ha.mono (Nat.le_succ _)) (hb.nx he)
    have two : ∀ {d e2 e5 e6 e11}, e.Ok a.n a.h → Bag d → kNext mw6 De [sc ns, some (.ow, d), e2, some (.ow, stD a b), some (.ow, dsD a b), e5, e6, some (.fl, .int (1 : Nat)), some (.fl, .str e.word), some (.fl, e.handed), some (.sa, .lst [.int (1 : Nat), .int (1 - (1 : Nat))]), e11] := fun {d e2 e5 e6 e11} hy hd => by
      refine go_next (go_For (fun i ρ => (i = 0 ∧ ρ = [sc ns, some (.ow, d), e2, some (.ow, stD a b), some (.ow, dsD a b), e5, e6, some (.fl, .int (1 : Nat)), some (.fl, .str e.word), some (.fl, e.handed), some (.sa, .lst [.int (1 : Nat), .int (1 - (1 : Nat))]), e11]) ∨ (i = 1 ∧ ∃ e5, ρ = [sc ns, some (.ow, d), e2, some (.ow, stD a (b.nx e)), some (.ow, dsD a (b.nx e)), e5, e6, some (.fl, .int (1 : Nat)), some (.fl, .str e.word), some (.fl, e.handed), some (.sa, .lst [.int (1 : Nat), .int (1 - (1 : Nat))]), e11]) ∨ (i = 2 ∧ ∃ e5, ρ = [sc ns, some (.ow, d), e2, some (.ow, stD (a.nx e) (b.nx e)), some (.ow, dsD (a.nx e) (b.nx e)), e5, e6, some (.fl, .int (1 : Nat)), some (.fl, .str e.word), some (.fl, e.handed), some (.sa, .lst [.int (1 : Nat), .int (1 - (1 : Nat))]), e11])) (.inl ⟨rfl, rfl⟩) (fun i z ρ N hz hI hN => ?_) fun ρ hI => ?_)
      · match i, hz with
        | 0, hz =>
          cases hz
          rcases hI with ⟨_, rfl⟩ | ⟨h0, _⟩ | ⟨h0, _⟩
          · exact at1 rfl hb he (by omega) (hN _ (.inr (.inl ⟨rfl, _, rfl⟩)))
          · cases h0
          · cases h0
        | 1, hz =>
          cases hz
          rcases hI with ⟨h0, _⟩ | ⟨_, _, rfl⟩ | ⟨h0, _⟩
          · cases h0
          · exact at0 (by decide) ha hy (by omega) (hN _ (.inr (.inr ⟨rfl, _, rfl⟩)))
          · cases h0
      · rcases hI with ⟨h0, _⟩ | ⟨h0, _⟩ | ⟨_, _, rfl⟩
        · cases h0
        · cases h0
        · exact fin hd (ha.nx hy) (hb.nx he)
    refine go_next ⟨⟨_, rfl⟩, dip_specN hd (by decide) (by decide) fun q d hq hd => ifd (fun c => ?_) fun c => ?_⟩
    · refine go_ix rfl rfl (may_spec (x := a) ha he fun y hy => ifb (fun e1 => ?_) fun e1 => ?_)
      · exact two (hy e1) hd
      · exact one hd
    · exact one hd
theorem law_spec {ns : List Int} (hl : ns.length ≤ 63) : cf_law [(.fl, .kst (ns.map .int))] (fun z _ => z = (.fl, .bl true)) (fun _ _ => False) := by
  rw [cf_law_eq]
  refine bag_spec hl fun d hd => ?_
  refine ⟨⟨_, rfl⟩, dip_specN hd (by decide) (by decide) fun m d hm hd => ?_⟩
  have em : ∀ m : Nat, (1 : Int) + (m : Nat) = ((m + 1 : Nat) : Int) := fun m => by omega
  show kNext mw0 _ [sc ns, some (.ow, d), some (.fl, .int (1 + (m : Nat))), none, none, none, none, none, none, none, none, none]
  rw [em]
  refine go_next (bare_spec (n := m + 1) rfl (by omega) (by omega) ?_)
  refine ⟨⟨_, rfl⟩, dip_specN hd (by decide) (by decide) fun m2 d hm2 hd => ?_⟩
  refine ⟨⟨_, rfl⟩, dip_specN hd (by decide) (by decide) fun q d hq hd => ?_⟩
  have hq2 : q < 2 := by omega
  refine go_ixC (fun dt => ∃ k : Nat, dt = .int k ∧ 1 ≤ k ∧ k ≤ 8) rfl ?_ fun dt hdt => ?_
  · match q, hq2 with
    | 0, _ => exact ⟨_, rfl, m + 1, rfl, by omega, by omega⟩
    | 1, _ => exact ⟨_, rfl, m2 + 1, congrArg D.int (em m2), by omega, by omega⟩
  obtain ⟨k, rfl, k1, k8⟩ := hdt
  refine bare_spec (n := k) rfl k1 k8 ?_
  let a0 : St := ⟨m + 1, bareS, []⟩
  let b0 : St := ⟨k, bareS, []⟩
  have ha0 : a0.Ok 0 := ⟨bare_ok (n := m + 1) (by omega) (by omega), (fun x hx => nomatch hx), Nat.le_refl 0⟩
  have hb0 : b0.Ok 0 := ⟨bare_ok k1 k8, (fun x hx => nomatch hx), Nat.le_refl 0⟩
  show kNext mw1 _ [sc ns, some (.ow, d), some (.fl, .int ((m + 1 : Nat) : Int)), some (.ow, stD a0 b0), none, none, none, none, none, none, none, none]
  refine go_next ⟨[], rfl, dinit_spec ⟨rfl, ⟨[], rfl, dinit_spec ⟨rfl, ⟨[], rfl, dinit_spec ⟨rfl, ?_⟩⟩⟩⟩⟩⟩
  let dI : Nat → D := fun i => match i with
    | 0 => .lst [dkD .non, dkD .non, dkD .non]
    | 1 => .lst [a0.dk, dkD .non, dkD .non]
    | _ => dsD a0 b0
  show kNext mw2 _ [sc ns, some (.ow, d), some (.fl, .int ((m + 1 : Nat) : Int)), some (.ow, stD a0 b0), some (.ow, dI 0), none, none, none, none, none, none, none]
  have sayJ : ∀ {x : Int} {m : Nat} {k0 : D} {Q X}, x = m → 1 ≤ m → m ≤ 8 → Q (.fl, .bl true) [(.ow, dkD (kpD m bareS []))] → DCW.cf__law_said [(.ow, dkD k0), (.fl, .str (("job " : Str) ++ sI x)), (.fl, .str "ok")] Q X := fun {x m k0 Q X} hx h1 h8 h => by
    subst hx
    rw [job_row]
    exact said_job h1 h8 h
  have len : ∀ {x : Int} {m : Nat}, x = m → m ≤ 8 → x.natAbs.log2 < 1920 ∧ ("job " : Str).length + (sI x).length ≤ 10000000 := fun {x m} hx h8 => by
    subst hx
    have := DCH.sI_len (i := (m : Nat)) (small9 (by omega))
    have e : ("job " : Str).length = 4 := by decide
    exact ⟨lg70 (small9 (by omega)), by omega⟩
  refine go_next (go_R1 (n := 2) rfl (by decide) (go_For0 (fun i ρ => ∃ e5, ρ = [sc ns, some (.ow, d), some (.fl, .int ((m + 1 : Nat) : Int)), some (.ow, stD a0 b0), some (.ow, dI i), e5, none, none, none, none, none, none]) ⟨none, rfl⟩ (fun i ρ N hi hI hN => ?_) fun ρ hI => ?_))
  · obtain ⟨e5, rfl⟩ := hI
    match i, hi with
    | 0, _ =>
      have hx : ((tabl (m + 1) fun i => D.int (bareS.p i : Nat)).length : Int) = (m + 1 : Nat) := lenD
      refine go_pl rfl rfl rfl (go_ix rfl rfl (go_key (j := 1) rfl nd3 rfl rfl ?_))
      obtain ⟨l1, l2⟩ := len hx (by omega)
      exact ⟨l1, l2, rfl, sayJ hx (by omega) (by omega) ⟨rfl, hN _ ⟨_, rfl⟩⟩⟩
    | 1, _ =>
      have hx : ((tabl k fun i => D.int (bareS.p i : Nat)).length : Int) = k := lenD
      refine go_pl rfl rfl rfl (go_ix rfl rfl (go_key (j := 1) rfl nd3 rfl rfl ?_))
      obtain ⟨l1, l2⟩ := len hx k8
      exact ⟨l1, l2, rfl, sayJ hx k1 k8 ⟨rfl, hN _ ⟨_, rfl⟩⟩⟩
  obtain ⟨e5, rfl⟩ := hI
  refine ⟨⟨_, rfl⟩, dip_specN hd (by decide) (by decide) fun r d hr hd => ?_⟩
  refine go_R1 (n := 12 + r) (by omega) (by omega) ?_
  refine go_For0 (fun t ρ => ∃ d a b e2 e5 e6 e7 e8 e9 e10 e11, Bag d ∧ St.Ok a t ∧ St.Ok b t ∧ ρ = [sc ns, some (.ow, d), e2, some (.ow, stD a b), some (.ow, dsD a b), e5, e6, e7, e8, e9, e10, e11]) ⟨d, a0, b0, _, _, _, _, _, _, _, _, hd, ha0, hb0, rfl⟩ (fun t ρ N ht hI hN => ?_) fun ρ hI => ?_
  · clear hd
    obtain ⟨d, a, b, e2, e5, e6, e7, e8, e9, e10, e11, hd, ha, hb, rfl⟩ := hI
    refine ⟨⟨_, rfl⟩, dip_specN hd (by decide) (by decide) fun w d hw hd => ?_⟩
    exact stepW (w := w) (e7 := e7) (by omega) hd ha hb (by omega) fun d a b e2 e5 e6 e7 e8 e9 e10 e11 hd ha hb => hN _ ⟨d, a, b, _, _, _, _, _, _, _, _, hd, ha, hb, rfl⟩
  · obtain ⟨d, a, b, e2, e5, e6, e7, e8, e9, e10, e11, hd, ha, hb, rfl⟩ := hI
    refine go_next (go_LcE (fun i ρ acc => ρ = [sc ns, some (.ow, d), e2, some (.ow, stD a b), some (.ow, dsD a b), e5, e6, e7, e8, e9, e10, none] ∧ acc = List.replicate i ((.fl, .bl true) : KD)) (by decide) ⟨rfl, rfl⟩ (fun i z ρ acc N hz hI hN _ => ?_) fun ρ acc hI => ?_)
    · obtain ⟨rfl, rfl⟩ := hI
      have go : ∀ {i : Nat}, List.replicate i ((.fl, .bl true) : KD) ++ [(.fl, .bl true)] = List.replicate (i + 1) ((.fl, .bl true) : KD) := fun {i} => by rw [List.replicate_succ']
      match i, hz with
      | 0, hz => cases hz; exact go_pl rfl rfl rfl ⟨rfl, no_job_word row_total (by decide) ⟨rfl, hN _ _ ⟨rfl, go⟩⟩⟩
      | 1, hz => cases hz; exact go_pl rfl rfl rfl ⟨rfl, no_job_word row_laying (by decide) ⟨rfl, hN _ _ ⟨rfl, go⟩⟩⟩
      | 2, hz => cases hz; exact go_pl rfl rfl rfl ⟨rfl, no_job_word row_show (by decide) ⟨rfl, hN _ _ ⟨rfl, go⟩⟩⟩
      | 3, hz => cases hz; exact go_pl rfl rfl rfl ⟨rfl, no_job_word row_back (by decide) ⟨rfl, hN _ _ ⟨rfl, go⟩⟩⟩
      | 4, hz => cases hz; exact go_pl rfl rfl rfl ⟨rfl, no_job_word row_better (by decide) ⟨rfl, hN _ _ ⟨rfl, go⟩⟩⟩
      | 5, hz => cases hz; exact go_pl rfl rfl rfl ⟨rfl, no_job_swap ⟨rfl, hN _ _ ⟨rfl, go⟩⟩⟩
    · obtain ⟨rfl, rfl⟩ := hI
      exact ⟨List.replicate 6 true, rfl, rfl⟩
end K76

open PySem PySem.W PySem.Calls PyProof.Rows
theorem PySem.Challenge.cw_spotlay_k76_two_desks_by_turns_holds : PySem.Challenge.rw_spotlay_k76_two_desks_by_turns.Holds := by
  w_on; o_law
  refine HandSHeadRun.head_any (r := OpenLaw.row PySem.Challenge.rw_spotlay_k76_two_desks_by_turns) (q := view (OpenLaw.row PySem.Challenge.rw_spotlay_k76_two_desks_by_turns).prog [92]) (H := K76.hk) (ob := K76.ob) (M := 6000) (loose := K76.loose)
    (d := HandSHeadRun.topDef (OpenLaw.row PySem.Challenge.rw_spotlay_k76_two_desks_by_turns).prog 92) (kwd := []) K76.ob_eq
    (by kernel_rfl) (fun s => by kernel_rfl) K76.run (by kernel_rfl) (by kernel_rfl) (by kernel_rfl) (by rfl)
    (by first | assumption | decide +kernel) (by decide +kernel) ⟨rfl, rfl, rfl, rfl, rfl, by decide +kernel⟩ ?hw ?hc
  case hw => w_witness2
  case hc =>
    refine DL.walk_ofG (l := PySem.Challenge.rw_spotlay_k76_two_desks_by_turns) (n := 63) (k := 11) (x := "script") (CX := fun _ => L2.CX0) rfl (by decide) (by kernel_rfl) ⟨rfl, by decide, by decide⟩ ?F (fun _ _ _ _ _ z => z)
    intro w mg fa h Y G hmg0
    obtain ⟨K, KX, c, l⟩ := Y
    have hmg : mg ("law" : PySem.Str) = some (.ref fa) := by
      have e : (HandSHeadRun.topDef (OpenLaw.row PySem.Challenge.rw_spotlay_k76_two_desks_by_turns).prog 92).name = ("law" : PySem.Str) := by kernel_rfl
      rw [← e]
      exact hmg0
    obtain ⟨L, rfl⟩ := K76.facts KX G hmg c l
    exact ⟨K, DL.spOf K 1 [false] K76.cf_law, KX, fun H a ns hl hO hS => DL.law_in hO hS (K76.law_spec hl), fun base _ _ => K76.ok_law L⟩
