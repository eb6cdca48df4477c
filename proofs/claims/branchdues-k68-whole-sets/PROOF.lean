import PyProof.Rows.All
import Wide.All
import OpenK.AllK
import Wide.FinOn
import HandS.ForMost
import HandS.Flow
import HandS.Conv
import HandS.TupAny
import HandS.Walk
import HandS.Zip
import HandS.Deep
import HandS.DeepEq
import HandS.DictEq
import HandS.IsInst
import HandS.Wide
import HandS.More
import HandS.SetKeys
import HandS.Strs
import HandS.Set
import HandS.Defaults
import HandS.Head0
import HandS.Head1
import HandS.Head2
import HandS.HeadEnd
import HandS.HeadHook1
import HandS.HeadHook2
import HandS.HeadHook3
import HandS.HeadHook4
import KE.KDictPairs
import KE.KDictLaws
import PyProof.Rows.SetFrom
import PySem.Challenge.RW_branchdues_k68_whole_sets
import HandS.SetFor
set_option Elab.async false
set_option linter.all false
set_option maxRecDepth 100000
set_option maxHeartbeats 0
namespace Bd
open PySem L2
/-! ### the text by its places -/
def top (i : Nat) : Stmt := PySem.Challenge.pw_branchdues_k68_whole_sets.main.body.getD i (.Pass ⟨0, 0, 0, 0⟩)
abbrev s_is_whole : Stmt := top 11
abbrev N_is_whole : List Str := ["thing"]
theorem sc_is_whole : FnScope N_is_whole ["thing"] (defScope s_is_whole) := ⟨rfl, rfl, rfl, by decide +kernel, rfl, by decide +kernel, by decide +kernel⟩
abbrev s_is_name : Stmt := top 12
abbrev N_is_name : List Str := ["thing", "sign"]
theorem sc_is_name : FnScope N_is_name ["thing"] (defScope s_is_name) := ⟨rfl, rfl, rfl, by decide +kernel, rfl, by decide +kernel, by decide +kernel⟩
abbrev s_is_endless : Stmt := top 15
abbrev N_is_endless : List Str := ["thing"]
theorem sc_is_endless : FnScope N_is_endless ["thing"] (defScope s_is_endless) := ⟨rfl, rfl, rfl, by decide +kernel, rfl, by decide +kernel, by decide +kernel⟩
abbrev s_is_set : Stmt := top 20
abbrev N_is_set : List Str := ["thing", "one", "other"]
theorem sc_is_set : FnScope N_is_set ["thing"] (defScope s_is_set) := ⟨rfl, rfl, rfl, by decide +kernel, rfl, by decide +kernel, by decide +kernel⟩
abbrev s_fits : Stmt := top 21
abbrev N_fits : List Str := ["word", "value"]
theorem sc_fits : FnScope N_fits ["word", "value"] (defScope s_fits) := ⟨rfl, rfl, rfl, by decide +kernel, rfl, by decide +kernel, by decide +kernel⟩
abbrev s_are_dues : Stmt := top 22
abbrev N_are_dues : List Str := ["thing", "one"]
theorem sc_are_dues : FnScope N_are_dues ["thing"] (defScope s_are_dues) := ⟨rfl, rfl, rfl, by decide +kernel, rfl, by decide +kernel, by decide +kernel⟩
abbrev s_is_row : Stmt := top 23
abbrev N_is_row : List Str := ["thing", "ahead"]
theorem sc_is_row : FnScope N_is_row ["thing", "ahead"] (defScope s_is_row) := ⟨rfl, rfl, rfl, by decide +kernel, rfl, by decide +kernel, by decide +kernel⟩
abbrev s_Tree___init : Stmt := inClass (top 24) 0
abbrev N_Tree___init : List Str := ["self", "rows", "handing", "at", "row", "dues", "name"]
theorem sc_Tree___init : FnScope N_Tree___init ["self", "rows", "handing"] (defScope s_Tree___init) := ⟨rfl, rfl, rfl, by decide +kernel, rfl, by decide +kernel, by decide +kernel⟩
abbrev s_check_tree : Stmt := top 25
abbrev N_check_tree : List Str := ["tree"]
theorem sc_check_tree : FnScope N_check_tree ["tree"] (defScope s_check_tree) := ⟨rfl, rfl, rfl, by decide +kernel, rfl, by decide +kernel, by decide +kernel⟩
abbrev s_standing : Stmt := top 27
abbrev N_standing : List Str := ["tree", "name", "has", "found", "free", "child", "dues", "asks", "one"]
theorem sc_standing : FnScope N_standing ["tree", "name", "has"] (defScope s_standing) := ⟨rfl, rfl, rfl, by decide +kernel, rfl, by decide +kernel, by decide +kernel⟩
abbrev s_hand_on : Stmt := top 28
abbrev N_hand_on : List Str := ["tree", "name", "has", "is_alone", "found", "alone", "free", "child", "asks", "mine", "one"]
theorem sc_hand_on : FnScope N_hand_on ["tree", "name", "has", "is_alone", "found"] (defScope s_hand_on) := ⟨rfl, rfl, rfl, by decide +kernel, rfl, by decide +kernel, by decide +kernel⟩
abbrev s_all_sets : Stmt := top 29
abbrev N_all_sets : List Str := ["tree", "whole"]
theorem sc_all_sets : FnScope N_all_sets ["tree", "whole"] (defScope s_all_sets) := ⟨rfl, rfl, rfl, by decide +kernel, rfl, by decide +kernel, by decide +kernel⟩
abbrev s_sets : Stmt := top 30
abbrev N_sets : List Str := ["tree", "whole", "found", "name"]
theorem sc_sets : FnScope N_sets ["tree", "whole"] (defScope s_sets) := ⟨rfl, rfl, rfl, by decide +kernel, rfl, by decide +kernel, by decide +kernel⟩
abbrev s_stands_alone : Stmt := top 31
abbrev N_stands_alone : List Str := ["tree", "whole", "found", "name"]
theorem sc_stands_alone : FnScope N_stands_alone ["tree", "whole"] (defScope s_stands_alone) := ⟨rfl, rfl, rfl, by decide +kernel, rfl, by decide +kernel, by decide +kernel⟩
abbrev s_law_cell_at : Stmt := top 33
abbrev N_law_cell_at : List Str := ["_law_script", "_law_k"]
theorem sc_law_cell_at : FnScope N_law_cell_at ["_law_script", "_law_k"] (defScope s_law_cell_at) := ⟨rfl, rfl, rfl, by decide +kernel, rfl, by decide +kernel, by decide +kernel⟩
abbrev s_law_mixed : Stmt := top 34
abbrev N_law_mixed : List Str := ["_law_cell", "_law_k", "_law_low"]
theorem sc_law_mixed : FnScope N_law_mixed ["_law_cell", "_law_k"] (defScope s_law_mixed) := ⟨rfl, rfl, rfl, by decide +kernel, rfl, by decide +kernel, by decide +kernel⟩
abbrev s_law_source : Stmt := top 35
abbrev N_law_source : List Str := ["_law_script", "_law_k", "_law_cell"]
theorem sc_law_source : FnScope N_law_source ["_law_script", "_law_k"] (defScope s_law_source) := ⟨rfl, rfl, rfl, by decide +kernel, rfl, by decide +kernel, by decide +kernel⟩
abbrev s_law_next : Stmt := top 36
abbrev N_law_next : List Str := ["_law_source_here", "_law_many", "_law_found"]
theorem sc_law_next : FnScope N_law_next ["_law_source_here", "_law_many"] (defScope s_law_next) := ⟨rfl, rfl, rfl, by decide +kernel, rfl, by decide +kernel, by decide +kernel⟩
abbrev s_law_one : Stmt := top 37
abbrev N_law_one : List Str := ["_law_source_here", "_law_things"]
theorem sc_law_one : FnScope N_law_one ["_law_source_here", "_law_things"] (defScope s_law_one) := ⟨rfl, rfl, rfl, by decide +kernel, rfl, by decide +kernel, by decide +kernel⟩
abbrev s_law_names : Stmt := top 38
abbrev N_law_names : List Str := ["_law_source_here", "_law_many", "_law_some", "_law_found", "_law_turn"]
theorem sc_law_names : FnScope N_law_names ["_law_source_here", "_law_many"] (defScope s_law_names) := ⟨rfl, rfl, rfl, by decide +kernel, rfl, by decide +kernel, by decide +kernel⟩
abbrev s_law_set : Stmt := top 39
abbrev N_law_set : List Str := ["_law_source_here", "_law_few", "_law_first", "_law_found", "_law_turn", "_law_one_here"]
theorem sc_law_set : FnScope N_law_set ["_law_source_here", "_law_few"] (defScope s_law_set) := ⟨rfl, rfl, rfl, by decide +kernel, rfl, by decide +kernel, by decide +kernel⟩
abbrev s_law_some_of : Stmt := top 40
abbrev N_law_some_of : List Str := ["_law_source_here", "_law_many_so", "_law_one_here"]
theorem sc_law_some_of : FnScope N_law_some_of ["_law_source_here", "_law_many_so"] (defScope s_law_some_of) := ⟨rfl, rfl, rfl, by decide +kernel, rfl, by decide +kernel, by decide +kernel⟩
abbrev s_law_set_rows : Stmt := top 41
abbrev N_law_set_rows : List Str := ["_law_source_here", "_law_many", "_law_every", "_law_names_here", "_law_found", "_law_at", "_law_name", "_law_way", "_law_place", "_law_above", "_law_pool", "_law_asks_here", "_law_row"]
theorem sc_law_set_rows : FnScope N_law_set_rows ["_law_source_here", "_law_many", "_law_every"] (defScope s_law_set_rows) := ⟨rfl, rfl, rfl, by decide +kernel, rfl, by decide +kernel, by decide +kernel⟩
abbrev s_law_asks : Stmt := top 42
abbrev N_law_asks : List Str := ["_law_rows", "_law_name", "_law_row"]
theorem sc_law_asks : FnScope N_law_asks ["_law_rows", "_law_name"] (defScope s_law_asks) := ⟨rfl, rfl, rfl, by decide +kernel, rfl, by decide +kernel, by decide +kernel⟩
abbrev s_law_alone : Stmt := top 43
abbrev N_law_alone : List Str := ["_law_rows", "_law_name", "_law_own", "_law_is_alone", "_law_found", "_law_kept", "_law_child", "_law_asks_here", "_law_mark", "_law_rest", "_law_row", "_law_one_here"]
theorem sc_law_alone : FnScope N_law_alone ["_law_rows", "_law_name", "_law_own", "_law_is_alone"] (defScope s_law_alone) := ⟨rfl, rfl, rfl, by decide +kernel, rfl, by decide +kernel, by decide +kernel⟩
abbrev s_law_pairs_right : Stmt := top 44
abbrev N_law_pairs_right : List Str := ["_law_rows", "_law_name", "_law_own", "_law_chosen", "_law_kids", "_law_at", "_law_child", "_law_asks_here", "_law_mark", "_law_ahead", "_law_can", "_law_other", "_law_theirs", "_law_taken", "_law_row", "_law_one_here"]
theorem sc_law_pairs_right : FnScope N_law_pairs_right ["_law_rows", "_law_name", "_law_own", "_law_chosen"] (defScope s_law_pairs_right) := ⟨rfl, rfl, rfl, by decide +kernel, rfl, by decide +kernel, by decide +kernel⟩
abbrev s_law_due : Stmt := top 45
abbrev N_law_due : List Str := ["_law_rows", "_law_name", "_law_own", "_law_is_alone", "_law_found", "_law_chosen", "_law_taken", "_law_child", "_law_kept", "_law_asks_here", "_law_mine", "_law_one_here", "_law_row"]
theorem sc_law_due : FnScope N_law_due ["_law_rows", "_law_name", "_law_own", "_law_is_alone", "_law_found"] (defScope s_law_due) := ⟨rfl, rfl, rfl, by decide +kernel, rfl, by decide +kernel, by decide +kernel⟩
abbrev s_law_right : Stmt := top 46
abbrev N_law_right : List Str := ["_law_source_here", "_law_every", "_law_rows", "_law_tree", "_law_hoped", "_law_found", "_law_chosen", "_law_name", "_law_row"]
theorem sc_law_right : FnScope N_law_right ["_law_source_here"] (defScope s_law_right) := ⟨rfl, rfl, rfl, by decide +kernel, rfl, by decide +kernel, by decide +kernel⟩
abbrev s_law : Stmt := top 47
abbrev N_law : List Str := ["_law_script", "_law_k", "_law_source_here", "_law_turn"]
theorem sc_law : FnScope N_law ["_law_script"] (defScope s_law) := ⟨rfl, rfl, rfl, by decide +kernel, rfl, by decide +kernel, by decide +kernel⟩
/-! ### the head's data -/
abbrev FnP (K : PySem.W.Frag) (x : Str) (st : Stmt) (f : Addr) (fd : FuncData) : Prop := FunD K x x (defArgs st) (defBody st) (defScope st) [] [] f fd
def d_is_whole : He.DefD := ⟨("is_whole", none), "is_whole", "is_whole", defArgs s_is_whole, defBody s_is_whole, defScope s_is_whole, [], []⟩
def d_is_name : He.DefD := ⟨("is_name", none), "is_name", "is_name", defArgs s_is_name, defBody s_is_name, defScope s_is_name, [], []⟩
def d_is_endless : He.DefD := ⟨("is_endless", none), "is_endless", "is_endless", defArgs s_is_endless, defBody s_is_endless, defScope s_is_endless, [], []⟩
def d_is_set : He.DefD := ⟨("is_set", none), "is_set", "is_set", defArgs s_is_set, defBody s_is_set, defScope s_is_set, [], []⟩
def d_fits : He.DefD := ⟨("fits", none), "fits", "fits", defArgs s_fits, defBody s_fits, defScope s_fits, [], []⟩
def d_are_dues : He.DefD := ⟨("are_dues", none), "are_dues", "are_dues", defArgs s_are_dues, defBody s_are_dues, defScope s_are_dues, [], []⟩
def d_is_row : He.DefD := ⟨("is_row", none), "is_row", "is_row", defArgs s_is_row, defBody s_is_row, defScope s_is_row, [], []⟩
def d_check_tree : He.DefD := ⟨("check_tree", none), "check_tree", "check_tree", defArgs s_check_tree, defBody s_check_tree, defScope s_check_tree, [], []⟩
def d_standing : He.DefD := ⟨("standing", none), "standing", "standing", defArgs s_standing, defBody s_standing, defScope s_standing, [], []⟩
def d_hand_on : He.DefD := ⟨("hand_on", none), "hand_on", "hand_on", defArgs s_hand_on, defBody s_hand_on, defScope s_hand_on, [], []⟩
def d_all_sets : He.DefD := ⟨("all_sets", none), "all_sets", "all_sets", defArgs s_all_sets, defBody s_all_sets, defScope s_all_sets, [], []⟩
def d_sets : He.DefD := ⟨("sets", none), "sets", "sets", defArgs s_sets, defBody s_sets, defScope s_sets, [], []⟩
def d_stands_alone : He.DefD := ⟨("stands_alone", none), "stands_alone", "stands_alone", defArgs s_stands_alone, defBody s_stands_alone, defScope s_stands_alone, [], []⟩
def d_law_cell_at : He.DefD := ⟨("_law_cell_at", none), "_law_cell_at", "_law_cell_at", defArgs s_law_cell_at, defBody s_law_cell_at, defScope s_law_cell_at, [], []⟩
def d_law_mixed : He.DefD := ⟨("_law_mixed", none), "_law_mixed", "_law_mixed", defArgs s_law_mixed, defBody s_law_mixed, defScope s_law_mixed, [], []⟩
def d_law_source : He.DefD := ⟨("_law_source", none), "_law_source", "_law_source", defArgs s_law_source, defBody s_law_source, defScope s_law_source, [], []⟩
def d_law_next : He.DefD := ⟨("_law_next", none), "_law_next", "_law_next", defArgs s_law_next, defBody s_law_next, defScope s_law_next, [], []⟩
def d_law_one : He.DefD := ⟨("_law_one", none), "_law_one", "_law_one", defArgs s_law_one, defBody s_law_one, defScope s_law_one, [], []⟩
def d_law_names : He.DefD := ⟨("_law_names", none), "_law_names", "_law_names", defArgs s_law_names, defBody s_law_names, defScope s_law_names, [], []⟩
def d_law_set : He.DefD := ⟨("_law_set", none), "_law_set", "_law_set", defArgs s_law_set, defBody s_law_set, defScope s_law_set, [], []⟩
def d_law_some_of : He.DefD := ⟨("_law_some_of", none), "_law_some_of", "_law_some_of", defArgs s_law_some_of, defBody s_law_some_of, defScope s_law_some_of, [], []⟩
def d_law_set_rows : He.DefD := ⟨("_law_set_rows", none), "_law_set_rows", "_law_set_rows", defArgs s_law_set_rows, defBody s_law_set_rows, defScope s_law_set_rows, [], []⟩
def d_law_asks : He.DefD := ⟨("_law_asks", none), "_law_asks", "_law_asks", defArgs s_law_asks, defBody s_law_asks, defScope s_law_asks, [], []⟩
def d_law_alone : He.DefD := ⟨("_law_alone", none), "_law_alone", "_law_alone", defArgs s_law_alone, defBody s_law_alone, defScope s_law_alone, [], []⟩
def d_law_pairs_right : He.DefD := ⟨("_law_pairs_right", none), "_law_pairs_right", "_law_pairs_right", defArgs s_law_pairs_right, defBody s_law_pairs_right, defScope s_law_pairs_right, [], []⟩
def d_law_due : He.DefD := ⟨("_law_due", none), "_law_due", "_law_due", defArgs s_law_due, defBody s_law_due, defScope s_law_due, [], []⟩
def d_law_right : He.DefD := ⟨("_law_right", none), "_law_right", "_law_right", defArgs s_law_right, defBody s_law_right, defScope s_law_right, [], []⟩
def d_law : He.DefD := ⟨("law", none), "law", "law", defArgs s_law, defBody s_law, defScope s_law, [], []⟩
def d_Tree___init : He.DefD := ⟨("Tree", some "__init__"), "__init__", "Tree.__init__", defArgs s_Tree___init, defBody s_Tree___init, defScope s_Tree___init, [.bl false], []⟩
def fn : List He.DefD := [d_is_whole, d_is_name, d_is_endless, d_is_set, d_fits, d_are_dues, d_is_row, d_check_tree, d_standing, d_hand_on, d_all_sets, d_sets, d_stands_alone, d_law_cell_at, d_law_mixed, d_law_source, d_law_next, d_law_one, d_law_names, d_law_set, d_law_some_of, d_law_set_rows, d_law_asks, d_law_alone, d_law_pairs_right, d_law_due, d_law_right, d_law, d_Tree___init]
def fa1 : List He.Fa := [.glo "is_whole", .glo "is_name", .glo "is_endless", .glo "is_set", .glo "fits", .glo "are_dues", .glo "is_row", .glo "check_tree", .glo "standing", .glo "hand_on", .glo "all_sets", .glo "sets", .glo "stands_alone", .glo "_law_cell_at", .glo "_law_mixed", .glo "_law_source", .glo "_law_next", .glo "_law_one", .glo "_law_names", .glo "_law_set"]
def fa2 : List He.Fa := [.glo "_law_some_of", .glo "_law_set_rows", .glo "_law_asks", .glo "_law_alone", .glo "_law_pairs_right", .glo "_law_due", .glo "_law_right", .glo "law", .glo "Tree", .glo "WORDS", .glo "PLAIN", .glo "NOTHING"]
def fa3 : List He.Fa := [.free "len", .free "isinstance", .free "str", .free "int", .free "bool", .free "tuple", .free "list", .free "all", .free "set", .free "sorted", .free "zip", .free "range", .free "enumerate", .free "max", .free "min", .free "sum", .free "dict"]
def fa4 : List He.Fa := [.int "MOST_PLACE" 63, .str "ENDLESS" "endless", .str "LETTERS" "abcdefghijklmnopqrstuvwxyz", .cls "Tree", .mkr "Tree", .noat "Tree" "kept", .noat "Tree" "under", .noat "Tree" "is_handing"]
def fa : List He.Fa := fa1 ++ (fa2 ++ (fa3 ++ fa4))
def loose1 : List Str := ["_wall", "__name__", "DueError", "NoTree", "NoName", "NoWord", "NoSet", "ENDLESS", "NOTHING", "LETTERS", "is_whole", "is_name", "divisor", "is_amount", "is_endless", "WORDS", "PLAIN", "MOST_PLACE", "is_set", "fits"]
def loose2 : List Str := ["are_dues", "is_row", "Tree", "check_tree", "standing", "hand_on", "all_sets", "sets", "stands_alone", "_law_cell_at", "_law_mixed", "_law_source", "_law_next", "_law_one", "_law_names", "_law_set", "_law_some_of", "_law_set_rows", "_law_asks", "_law_alone", "_law_pairs_right", "_law_due", "_law_right"]
def loose : List Str := loose1 ++ loose2
end Bd

namespace Bd
open PySem PySem.Spec PyProof.Rows L2
/-! ### the head: facts by names, the run -/
def words : List Str := ["min", "low", "max", "quota", "burst", "tops", "sets", "alone"]
def plainD : List (Str × He.Dv) := [("min", .glo "NOTHING"), ("low", .glo "NOTHING"), ("max", .str "endless"), ("quota", .str "endless"), ("burst", .glo "NOTHING"), ("tops", .str "endless"), ("sets", .non), ("alone", .int 0)]
def plainV (K : PySem.W.Frag) : List V := plainD.map fun q => q.2.v K
def esOf (K : PySem.W.Frag) (a : Addr) : List Value := match K.lookup a with
  | some ⟨_, _, .dict es _, _⟩ => es.toList.map (·.val)
  | _ => []
def exB (K : PySem.W.Frag) : Bool := He.tupB K "WORDS" (words.map He.Dv.str) && (He.relAll (plainV K) (esOf K (He.ga K "PLAIN")) &&
  (decide (PySem.W.findIn K (.ref (He.ga K "Tree")) "__class__" = some (some (.builtin "object.__class__"))) &&
  (decide (PySem.W.specialIn K (.builtin "object.__class__") "__get__" = some (some (.builtin "getset_descriptor.__get__"))) &&
  (decide (PySem.W.takesIn K (.builtin "object.__class__") = some true) && decide (PySem.W.mroIn K (He.ga K "Tree") (.type "object") = some true)))))
def tabs : List He.Tab := [(fun K => He.ga K "PLAIN", words)]
abbrev R : PySem.W.OpenRow := PySem.W.OpenLaw.row PySem.Challenge.rw_branchdues_k68_whole_sets
abbrev hk : PySem.W.Hook := He.hookX 5 fa fn tabs [] exB
def ob (s : PySem.W.SharedT) : He.AlX := He.obsX 5 fa fn tabs [] exB (HandSHeadRun.getT s)
theorem ob_eq (s : PySem.W.SharedT) : ob s = hk.obs s.abs := He.obsX_eq (HandSHeadRun.getT_eq s)
theorem run (w : World) : HandSHeadRun.RunEq R (PySem.W.view R.prog [47]) hk ob 3000 loose w :=
  PySem.W.byRow2 "special-get-raises" (P := fun w => HandSHeadRun.RunEq R (PySem.W.view R.prog [47]) hk ob 3000 loose w) (fun w os => by kernel_rfl) (fun w os => by kernel_rfl) w
end Bd

namespace Bd
open PySem PySem.Spec PyProof.Rows L2
/-! ### defs by their names -/
/-- where a def stands -/
structure At (K : PySem.W.Frag) (mg : Str → Option Value) (x : Str) (st : Stmt) : Prop where
  ex : ∃ (f : Addr) (fd : FuncData), FnP K x st f fd ∧ mg x = some (.ref f)
/-- a def that keeps its promise -/
structure Cal (P : Program) (w : World) (K : PySem.W.Frag) (mg : Str → Option Value) (base : Heap) (x : Str) (k : Nat) (ps : List Str) (sp : Sp) : Prop where
  ex : ∃ (f : Addr) (fd : FuncData), FnOk P w K mg base CX0 k f fd ps sp ∧ mg x = some (.ref f) ∧ PySem.W.keepIn K (.ref f) = true ∧ Binds K fd ps []
theorem pe_cal {X : Cx} {x : Str} {k : Nat} {ps : List Str} {sp : Sp} {e : Expr} {es : List Expr} {t : TA} {p pos : Pos} (C : Cal X.prog X.w X.K X.mg X.base x k ps sp) (hr : Room k X.A) (hg : Gl X x) (ha : PA X (e :: es) t)
    (hdb : (x == ("__debug__" : Str)) = false := by decide) (he : starEach (e :: es) X.env = (false, eval e X.env) :: starEach es X.env := by rfl) (hpl : (backTo pos (starEach es X.env)).any (·.1) = false := by rfl) :
    PE X (.Call (.Name x p) (e :: es) [] pos) (tCall sp [] E0 t) := by
  obtain ⟨f, fd, F, hm, hk, hb⟩ := C.ex
  exact pe_call F hr hg hm hk hb .nil pass0 ha hdb he hpl
theorem pe_gl {X : Cx} {x : Str} {v : V} {pos : Pos} (hg : Gl X x) (h : ∃ u, X.mg x = some u ∧ RelV v u) (hd : (x == ("__debug__" : Str)) = false := by decide) : PE X (.Name x pos) (tC v) := by
  obtain ⟨u, hm, r⟩ := h
  exact pe_glob hg hm r hd
section
variable {P : Program} {w : World} {K : PySem.W.Frag} {mg : Str → Option Value} {base : Heap}
/-- how the arguments of a def without defaults bind -/
abbrev BindH (x : Str) (st : Stmt) (ps : List Str) : Prop := ∀ (kV doc pm : Value) (an : Option Addr) (cdv ct : Value) (us : List Value), us.length = ps.length → bindArgs (PySem.W.fnOf x x (defArgs st) (defBody st) (defScope st) .none kV doc pm an cdv ct) ⟨us, []⟩ = pure (ps.zip us)
/-- the body of a def and its reading -/
abbrev BodyH (P : Program) (w : World) (K : PySem.W.Frag) (mg : Str → Option Value) (base : Heap) (x : Str) (st : Stmt) (N : List Str) (k : Nat) (sp : Sp) : Prop :=
  ∀ (f : Addr) (cdv : Value) (A : Around) (outer : List Env) (s : Shared) (H : Hp) (vs : List V) (Q : VK) (E : XK), Room k (A.deeper (envOfC x (defScope st) s.heap.objs.size f cdv)) → sp vs H Q E →
    ∃ t, PSs (cxOf CX0 P w K mg base N x (defScope st) f cdv A outer s H E).nox (defBody st) t ∧ t { nx := fun _ H' => Q .non H', rt := Q } (start N vs) H
theorem mk_cal {x : Str} {st : Stmt} {N ps : List Str} {k : Nat} {sp : Sp} (D : At K mg x st) (S : FnScope N ps (defScope st)) (hb : BindH x st ps) (len : ∀ vs H Q E, sp vs H Q E → vs.length = ps.length)
    (hbody : BodyH P w K mg base x st N k sp) : Cal P w K mg base x (k + 1) ps sp := by
  obtain ⟨f, fd, F, hm⟩ := D.ex
  refine ⟨f, fd, F.ok S len fun cdv A outer s H vs Q E hr h => ?_, hm, F.kp, F.bindsN hb⟩
  obtain ⟨t, h1, h2⟩ := hbody f cdv A outer s H vs Q E hr h
  exact ⟨t, h1.nox, h2⟩
/-- a def that calls itself: one body for each depth -/
theorem rec_cal {x : Str} {st : Stmt} {N ps : List Str} {k : Nat} {sp : Nat → Sp} (D : At K mg x st) (S : FnScope N ps (defScope st)) (hb : BindH x st ps) (len : ∀ j vs H Q E, sp j vs H Q E → vs.length = ps.length)
    (h0 : ∀ vs H Q E, ¬ sp 0 vs H Q E) (hbody : ∀ j, Cal P w K mg base x (k + j) ps (sp j) → BodyH P w K mg base x st N (k + j) (sp (j + 1))) : ∀ j, Cal P w K mg base x (k + j) ps (sp j)
  | 0 => by
    obtain ⟨f, fd, F, hm⟩ := D.ex
    exact ⟨f, fd, ⟨fun vs H Q E h => (h0 _ _ _ _ h).elim, fun A outer s H args us vs Q E hr e0 hbt hv h => (h0 _ _ _ _ h).elim⟩, hm, F.kp, F.bindsN hb⟩
  | j + 1 => mk_cal D S hb (len (j + 1)) (hbody j (rec_cal D S hb len h0 hbody j))
theorem Cal.mono {x : Str} {ps : List Str} {j k : Nat} {sp : Sp} (C : Cal P w K mg base x j ps sp) (h : j ≤ k) : Cal P w K mg base x k ps sp := by
  obtain ⟨f, fd, F, r⟩ := C.ex
  exact ⟨f, fd, F.mono h, r⟩
end
/-! ### heaps -/
theorem Same.new {H : Hp} {p : Addr} {o : HO} (h : H p = none) : Same H (upd H p o) := fun b u e => by rw [upd_ne (ne_of_none e h)]; exact e
/-- a new object -/
theorem new_ {H : Hp} {o : HO} {R : V → Hp → Prop} (h : ∀ p H1, H p = none → Same H H1 → H1 p = some o → R (.ref p) H1) : ∀ p, H p = none → R (.ref p) (upd H p o) := fun p np => h p _ np (Same.new np) upd_same
theorem newA_ {H : Hp} {o : HO} {R : Addr → Hp → Prop} (h : ∀ p H1, H p = none → Same H H1 → H1 p = some o → R p H1) : ∀ p, H p = none → R p (upd H p o) := fun p np => h p _ np (Same.new np) upd_same
/-- all but d as it was -/
def But (d : Addr) (H H' : Hp) : Prop := ∀ b o, b ≠ d → H b = some o → H' b = some o
theorem But.refl {d : Addr} {H : Hp} : But d H H := fun _ _ _ h => h
theorem But.trans {d : Addr} {H H1 H2 : Hp} (a : But d H H1) (b : But d H1 H2) : But d H H2 := fun c o n h => b c o n (a c o n h)
theorem But.upd {d : Addr} {H : Hp} {o : HO} : But d H (L2.upd H d o) := fun b u n e => by rw [upd_ne n]; exact e
theorem Same.but {d : Addr} {H H' : Hp} (s : Same H H') : But d H H' := fun b o _ e => s b o e
/-- an object is written -/
theorem put_ {H : Hp} {d : Addr} {o : HO} {R : Hp → Prop} (h : ∀ H1, But d H H1 → H1 d = some o → R H1) : R (upd H d o) := h _ But.upd upd_same
/-- new since H0: what was there at H0 stays, whatever is done to it -/
theorem Same.new_put {H0 H H' : Hp} {d : Addr} (n : H0 d = none) (s : Same H0 H) (b : But d H H') : Same H0 H' := fun c o e => b c o (ne_of_none e n) (s c o e)
theorem But.new_put {H0 H H' : Hp} {d p : Addr} (n : H0 p = none) (s : But d H0 H) (b : But p H H') : But d H0 H' := fun c o ne e => b c o (ne_of_none e n) (s c o ne e)
/-- what is no list stays -/
def Stay (H H' : Hp) : Prop := ∀ b o, H b = some o → (∀ l, o ≠ .lst l) → H' b = some o
theorem Same.stay {H H' : Hp} (s : Same H H') : Stay H H' := fun b o e _ => s b o e
theorem Stay.refl {H : Hp} : Stay H H := fun _ _ h _ => h
theorem Stay.trans {H H1 H2 : Hp} (a : Stay H H1) (b : Stay H1 H2) : Stay H H2 := fun c o h n => b c o (a c o h n) n
theorem But.stay {d : Addr} {H H' : Hp} {l : List V} (e : H d = some (.lst l)) (s : But d H H') : Stay H H' := fun b o h n => s b o (fun z => by
  rw [z, e] at h
  exact n l (Option.some.inj h).symm) h
theorem prd_append {α β : Type} {F : α → β → Prop} : ∀ {l l2 : List α} {m m2 : List β}, Paired F l m → Paired F l2 m2 → Paired F (l ++ l2) (m ++ m2)
  | _, _, _, _, .nil, q => q
  | _, _, _, _, .cons r t, q => .cons r (prd_append t q)
/-! ### comprehensions -/
section
variable {J : It} {G : Hp → Prop} {g : TG} {tt : TT} {te : TE} {vs : List Nat} {σ : L2.St} {H1 : Hp} {D : Addr} {Qd : Hp → Prop}
/-- a comprehension whose elements are values by f (none: left out); Y tells what the walk gives -/
theorem lc_val {n : Nat} {Y : Nat → Hp → V → Hp → Prop} {α : Type} (as : List α) (hn : as.length = n) (w : Walk J n G Y) (f : α → Option V) (nD : H1 D = none) (hz : n < sizeLine) (hG : ∀ H, Same H1 H → G H)
    (hs : ∀ (i : Nat) (a : α) (x : V) (H H' : Hp) (Yes : V → Hp → Prop) (No : Hp → Prop), as[i]? = some a → Same H1 H → Y i H x H' → (∀ y H4, f a = some y → Same H H4 → Yes y H4) → (f a = none → ∀ H4, Same H H4 → No H4) →
      g x (wipe σ vs) H' fun σ2 H2 => wipe σ2 vs = wipe σ vs ∧ tt σ2 H2 fun b H3 => if b = true then te σ2 H3 Yes else No H3)
    (hd : ∀ H, Same H1 H → H D = some (.lst (as.filterMap f)) → Qd H) :
    ∃ W : Nat → Nat → Hp → Prop, (∃ m, W 0 m (upd H1 D (.lst []))) ∧ ∀ i m H, W i m H →
      (J.stop i H ∧ Qd H) ∨ (J.go i H ∧ ∃ Nx : Hp → Prop, (∀ H', Nx H' → ∃ m', m' < m ∧ W (i + 1) m' H') ∧ ∀ x H', J.yld i H x H' → g x (wipe σ vs) H' fun σ2 H2 => wipe σ2 vs = wipe σ vs ∧ tt σ2 H2 fun b H3 =>
        if b = true then te σ2 H3 fun y H4 => ∃ acc, H4 D = some (.lst acc) ∧ acc.length < sizeLine ∧ Nx (upd H4 D (.lst (acc ++ [y]))) else Nx H3) := by
  subst hn
  have ln : ∀ i, ((as.take i).filterMap f).length ≤ i := fun i => Nat.le_trans (List.length_filterMap_le _ _) (by rw [List.length_take]; exact Nat.min_le_left _ _)
  refine lc_it w (fun i H => Same H1 H ∧ H D = some (.lst ((as.take i).filterMap f))) ⟨Same.new nD, upd_same⟩ (fun i H _ p => hG H p.1) (fun i x H H' hi p y => ?_) (fun H p => hd H p.1 (by rw [p.2, List.take_length]))
  have ea : as[i]? = some as[i] := List.getElem?_eq_getElem hi
  have et : as.take (i + 1) = as.take i ++ [as[i]] := List.take_succ_eq_append_getElem hi
  refine hs i as[i] x H H' _ _ ea p.1 y (fun y H4 e s4 => ?_) (fun e H4 s4 => ?_)
  · refine ⟨_, s4 _ _ p.2, Nat.lt_of_le_of_lt (ln i) (Nat.lt_of_lt_of_le hi (Nat.le_of_lt hz)), ?_, ?_⟩
    · exact Same.new_put nD (p.1.trans s4) But.upd
    · rw [upd_same, et, List.filterMap_append]
      simp [e]
  · refine ⟨p.1.trans s4, ?_⟩
    rw [s4 _ _ p.2, et, List.filterMap_append]
    simp [e]
/-- .. whose elements are told by F; F is of what is no list -/
theorem lc_rel {n : Nat} {Y : Nat → Hp → V → Hp → Prop} {α : Type} (as : List α) (hn : as.length = n) (w : Walk J n G Y) (keep : α → Bool) (F : α → V → Hp → Prop) (hF : ∀ a y H H', F a y H → Stay H H' → F a y H') (nD : H1 D = none) (hz : n < sizeLine) (hG : ∀ H, Same H1 H → G H)
    (hs : ∀ (i : Nat) (a : α) (x : V) (H H' : Hp) (Yes : V → Hp → Prop) (No : Hp → Prop), as[i]? = some a → Same H1 H → Y i H x H' → (keep a = true → ∀ y H4, F a y H4 → Same H H4 → Yes y H4) → (keep a = false → ∀ H4, Same H H4 → No H4) →
      g x (wipe σ vs) H' fun σ2 H2 => wipe σ2 vs = wipe σ vs ∧ tt σ2 H2 fun b H3 => if b = true then te σ2 H3 Yes else No H3)
    (hd : ∀ H ys, Same H1 H → H D = some (.lst ys) → Paired (fun a y => F a y H) (as.filter keep) ys → Qd H) :
    ∃ W : Nat → Nat → Hp → Prop, (∃ m, W 0 m (upd H1 D (.lst []))) ∧ ∀ i m H, W i m H →
      (J.stop i H ∧ Qd H) ∨ (J.go i H ∧ ∃ Nx : Hp → Prop, (∀ H', Nx H' → ∃ m', m' < m ∧ W (i + 1) m' H') ∧ ∀ x H', J.yld i H x H' → g x (wipe σ vs) H' fun σ2 H2 => wipe σ2 vs = wipe σ vs ∧ tt σ2 H2 fun b H3 =>
        if b = true then te σ2 H3 fun y H4 => ∃ acc, H4 D = some (.lst acc) ∧ acc.length < sizeLine ∧ Nx (upd H4 D (.lst (acc ++ [y]))) else Nx H3) := by
  subst hn
  have mono : ∀ {l : List α} {ys : List V} {H H' : Hp}, Paired (fun a y => F a y H) l ys → Stay H H' → Paired (fun a y => F a y H') l ys := fun p s => L2.Paired.mapP p fun a y h => hF a y _ _ h s
  refine lc_it w (fun i H => Same H1 H ∧ ∃ ys, H D = some (.lst ys) ∧ Paired (fun a y => F a y H) ((as.take i).filter keep) ys) ⟨Same.new nD, [], upd_same, .nil⟩ (fun i H _ p => hG H p.1) (fun i x H H' hi p y => ?_) (fun H p => ?_)
  · obtain ⟨s1, ys, e, pr⟩ := p
    have ea : as[i]? = some as[i] := List.getElem?_eq_getElem hi
    have et : as.take (i + 1) = as.take i ++ [as[i]] := List.take_succ_eq_append_getElem hi
    have ln : ys.length ≤ i := by
      rw [← pr.length]
      exact Nat.le_trans (List.length_filter_le _ _) (by rw [List.length_take]; exact Nat.min_le_left _ _)
    refine hs i as[i] x H H' _ _ ea s1 y (fun k y H4 h s4 => ?_) (fun k H4 s4 => ?_)
    · have e4 := s4 _ _ e
      refine ⟨ys, e4, Nat.lt_of_le_of_lt ln (Nat.lt_trans hi hz), Same.new_put nD (s1.trans s4) But.upd, ys ++ [y], upd_same, ?_⟩
      rw [et, List.filter_append, List.filter_cons_of_pos k, List.filter_nil]
      have st : Stay H4 (upd H4 D (.lst (ys ++ [y]))) := But.stay e4 But.upd
      exact prd_append (mono pr (Stay.trans (Same.stay s4) st)) (.cons (hF _ _ _ _ h st) .nil)
    · refine ⟨s1.trans s4, ys, s4 _ _ e, ?_⟩
      rw [et, List.filter_append, List.filter_cons_of_neg (by simp [k]), List.filter_nil, List.append_nil]
      exact mono pr (Same.stay s4)
  · obtain ⟨s1, ys, e, pr⟩ := p
    rw [List.take_length] at pr
    exact hd H ys s1 e pr
end
/-- zip of two tuples -/
theorem walk_zipT {K : PySem.W.Frag} {a b : Addr} {xs ys : List V} {n : Nat} (hn : n = min xs.length ys.length) : Walk (RZ.ItzT K a b) n (fun H => SqT K H a xs ∧ SqT K H b ys) (YPair (fun i => xs[i]?) (fun i => ys[i]?)) where
  goes := fun i H hi h => ⟨xs, ys, xs[i]'(by omega), ys[i]'(by omega), h.1, h.2, by simp, by simp⟩
  stops := fun H h => ⟨xs, ys, h.1, h.2, by omega⟩
  yields := fun i H x H' hi h y => by
    obtain ⟨T, x1, y1, e1, e2, e3, e4, e5⟩ := y
    exact ⟨T, x1, y1, e1, e2, e3, e4 _ h.1, e5 _ h.2⟩
/-! ### small things -/
theorem line100 {n : Nat} (h : n ≤ 1000) : n ≤ sizeLine := Nat.le_of_lt (small1000 h)
theorem tupI {K : PySem.W.Frag} {H : Hp} {p : Addr} {xs : List V} (h : H p = some (.tup xs)) : SqT K H p xs := SqT.of h
end Bd

namespace Bd
open PySem PySem.Spec PyProof.Rows L2
section
variable {X : Cx}
/-! ### x not in a tuple of data -/
def rNotInT (K : PySem.W.Frag) : R2 := fun x y H Q => ∃ d ds, Dp K H x d ∧ Dp K H y (.tuple ds) ∧ SeqAt.shaped d = true ∧ SeqAt.shaped (.tuple ds) = true ∧ Q (.bl (!ds.any fun z => PyData.eqv z d)) H
theorem op_notInTD (hu : X.A.units + 65 < cLine) : OpR X (compareOp .NotIn) (rNotInT X.K) := by
  intro pins s σ H x y v u Q I rx ry h
  obtain ⟨d, ds, hd, he, sd, se, q⟩ := h
  obtain ⟨as, r1⟩ := Dp.reads I d x v hd rx
  obtain ⟨bs, r2⟩ := Dp.reads I (.tuple ds) y u he ry
  have k1 : PyData.canLayAll0 ds = true := SeqAt.canLay_of_shaped se
  exact SeqAt.notIn_tuple_reads r2 r1 k1 (SeqAt.canLay_of_shaped sd) (room_in_shaped sd hu) ⟨.bl _, H, I, rfl, q⟩
/-! ### two dicts of equal data -/
def DataSame (K : PySem.W.Frag) (H : Hp) (ks ls : List (Key × V)) : Prop := ∀ p ∈ ks, ∃ u d, valV ls p.1 = some u ∧ Dp K H p.2 d ∧ Dp K H u d ∧ SeqAt.shaped d = true
def rNeDt (K : PySem.W.Frag) : R2 := fun x y H Q => ∃ a b ks ls, x = .ref a ∧ y = .ref b ∧ H a = some (.dK ks) ∧ H b = some (.dK ls) ∧ ks.length = ls.length ∧ DataSame K H ks ls ∧ Q (.bl false) H
theorem hits_data {pins : List (Addr × Obj)} {σ : L2.St} {H : Hp} {s : Shared} (I : Inv X pins σ H s) (hu : X.A.units + 65 < cLine) {ls : List (Key × V)} {vb : List (Key × Value)} (rb : KV ls vb) :
    ∀ {ks : List (Key × V)} {va : List (Key × Value)}, KV ks va → DataSame X.K H ks ls → PySem.W.KeqHits X.A.in1 s vb va true
  | [], _, .nil, _ => .nil
  | p :: ps, _, .cons (b := q) h t, hp => by
    obtain ⟨u, d, e, d1, d2, sd⟩ := hp p List.mem_cons_self
    obtain ⟨h1, h2⟩ := h
    have rr : RelO (some u) (valueAt vb p.1) := by rw [← e]; exact rb.val p.1
    obtain ⟨y, hy, ry⟩ := rr.some_of
    obtain ⟨as, r1⟩ := Dp.reads I d p.2 q.2 d1 h2
    obtain ⟨bs, r2⟩ := Dp.reads I d u y d2 ry
    have ih := hits_data I hu rb t fun p' hm => hp p' (List.mem_cons_of_mem _ hm)
    have ee : SeqAt.EqAt X.A.in1 s q.2 y (PyData.eqv d d) := PySem.W.keq_at r1 r2 sd sd (show X.A.units + 1 + 64 < cLine by omega)
    rw [SeqAt.eqv_refl d (SeqAt.canLay_of_shaped sd)] at ee
    have hk : valueAt vb q.1 = some y := by rw [← h1]; exact hy
    exact PySem.W.KeqHits.hit (e := true) (b := true) hk ee ih
theorem op_neDt (hu : X.A.units + 65 < cLine) : OpR X (compareOp .NotEq) (rNeDt X.K) := by
  intro pins s σ H x y v u Q I rx ry h
  obtain ⟨a, b, ks, ls, rfl, rfl, ea, eb, hl, hp, q⟩ := h
  cases (show v = Value.ref a from rx)
  cases (show u = Value.ref b from ry)
  have oa : ObjOk X.prog X.w H s.heap a (.dK ks) := I.hok a _ ea
  have ob : ObjOk X.prog X.w H s.heap b (.dK ls) := I.hok b _ eb
  obtain ⟨_, ya, va, ra, da⟩ := oa
  obtain ⟨_, yb, vb, rb, db⟩ := ob
  have hlen : va.length = vb.length := by rw [← ra.length, ← rb.length]; exact hl
  exact PySem.W.keq_ne (knd := mixKind X.prog X.w) (r := true) ya yb da db (by omega) (fun _ => hits_data I hu rb ra hp) (fin_bl I q (by simp [hlen]))
theorem pick_list {α β : Type} : ∀ {R : Nat → α → β → Prop} (l : List α), (∀ j a, l[j]? = some a → ∃ b, R j a b) → ∃ bs : List β, bs.length = l.length ∧ ∀ j a b, l[j]? = some a → bs[j]? = some b → R j a b
  | _, [], _ => ⟨[], rfl, fun j a b e => by simp at e⟩
  | R, x :: r, h => by
    obtain ⟨b0, r0⟩ := h 0 x rfl
    obtain ⟨bs, l, hb⟩ := pick_list (R := fun j => R (j + 1)) r fun j a e => h (j + 1) a (by simpa using e)
    refine ⟨b0 :: bs, by simp [l], fun j a b e1 e2 => ?_⟩
    cases j with
    | zero =>
      cases Option.some.inj (show some x = some a from e1)
      cases Option.some.inj (show some b0 = some b from e2)
      exact r0
    | succ j => exact hb j a b (by simpa using e1) (by simpa using e2)
/-! ### a tuple known to its object -/
def tTupF (t : TA) : TE := fun σ H Q => t σ H fun xs H1 => xs.length ≤ sizeLine ∧ ∀ (p : Addr) (o : Obj), H1 p = none → o.cls = .type "tuple" → o.dict = none → Q (.ref p) (upd H1 p (.frz o (.tup xs)))
theorem pe_tupF {es : List Expr} {t : TA} {pos : Pos} {x1} (h : PA X es t) : PE X (.Tuple es x1 pos) (tTupF t) := by
  refine ⟨fun pins s σ H Q I hq => wpAny_Tuple_spliced (thn (h.run pos pins s σ H _ I hq) fun us s1 r => ?_)⟩
  obtain ⟨xs, H1, I1, rv, z, q⟩ := r
  have l1 : us.length ≤ sizeLine := by rw [← rv.length]; exact z
  have hf := I1.hok.fresh (Nat.le_refl s1.heap.objs.size)
  have g : (s1.heap.push { cls := .type "tuple", data := .seq us.toArray }).get? s1.heap.objs.size = some { cls := .type "tuple", data := .seq us.toArray } := Heap.get?_push_size _ rfl
  have new : ObjOk X.prog X.w (upd H1 s1.heap.objs.size (.frz { cls := .type "tuple", data := .seq us.toArray } (.tup xs))) (s1.heap.push { cls := .type "tuple", data := .seq us.toArray }) s1.heap.objs.size (.frz { cls := .type "tuple", data := .seq us.toArray } (.tup xs)) := ⟨g, z, us, rv, _, g, rfl, _, rfl⟩
  exact ⟨l1, .ref s1.heap.objs.size, _, I1.laid (t' := s1.toks) (fun b u e => Heap.get?_push_of_some _ e) (Nat.le_refl _) new, rfl, q _ _ hf rfl rfl⟩
/-! ### dict of a tuple of pairs, dict.update, dict of the written table -/
theorem call_dictT (hcalm : X.calm = true) : CallR X (.type "dict") (fun xs H Q => ∃ (a : Addr) (o : Obj) (ps : List Addr) (kvs : List (Key × V)), xs = [.ref a] ∧ H a = some (.frz o (.tup (ps.map V.ref))) ∧ o.cls = .type "tuple" ∧ o.dict = none ∧ Paired (fun p kv => SqT X.K H p [kV kv.1, kv.2]) ps kvs ∧
    ∀ p, H p = none → Q (.ref p) (upd H p (.dK (mergeK [] kvs)))) := by
  intro pins s σ H xs us Q I r q
  obtain ⟨a, o, ps, kvs, rfl, ha, hc, hd, hp, q⟩ := q
  obtain ⟨u, rfl, rx⟩ := vals1 r
  cases rx
  have oa : ObjOk X.prog X.w H s.heap a (.frz o (.tup (ps.map V.ref))) := I.hok a _ ha
  obtain ⟨go, hz, its, rv, ob, g2, hc2, n, hdat⟩ := oa
  rw [go] at g2
  cases g2
  have ei := refs_at rv
  subst ei
  obtain ⟨prs, rel, hl, hpr⟩ := pairs_of I hp
  obtain ⟨ws, lw, hw⟩ := pick_list (R := fun (j : Nat) (q' : Key × Value) (w' : Value) => ∃ b, ps[j]? = some b ∧ IsTup s.heap b #[w', q'.2] ∧ keyIs q'.1 w' = true) prs fun j q' e => by
    obtain ⟨b, w', f⟩ := hpr j q' e
    exact ⟨w', b, f⟩
  have hlen : (mergeK [] kvs).length ≤ sizeLine := by
    refine Nat.le_trans (length_mergeK kvs []) ?_
    have := Paired.length hp
    rw [List.length_map] at hz
    simp only [List.length_nil]
    omega
  have hlp : prs.length = ps.length := hl
  let pv : List (Value × Value) := (ws.zip (prs.map (·.2)))
  have lpv : pv.length = prs.length := by simp [pv, lw]
  have at_pv : ∀ (j : Nat) (k v : Value), pv[j]? = some (k, v) → ∃ q' : Key × Value, prs[j]? = some q' ∧ ws[j]? = some k ∧ q'.2 = v := fun j k v e => by
    obtain ⟨e1, e2⟩ := List.getElem?_zip_eq_some.mp e
    rw [List.getElem?_map] at e2
    cases h3 : prs[j]? with
    | none => rw [h3] at e2; cases e2
    | some q' =>
      rw [h3] at e2
      exact ⟨q', rfl, e1, Option.some.inj e2⟩
  have PAr := PairArg.tuple (prog := X.prog) (w := X.w) a (ps.map Value.ref).toArray (fun j => ps.getD j 0) pv
  refine PySem.call_dict_pairs (knd := mixKind X.prog X.w) (kvs := prs) PAr (I.ok.hd hcalm) ⟨⟨_, n, go, hc2, hd, hdat⟩, by simp [lpv, hlp], fun j k v e => ?_⟩ ⟨lpv.symm, fun j k v e => ?_⟩ (by rw [lpv, hlp]; simpa using hz) fun h' tk hd' k => ?_
  · obtain ⟨q', f1, f2, f3⟩ := at_pv j k v e
    obtain ⟨b, g1, g2, g3⟩ := hw j q' k f1 f2
    have gd : ps.getD j 0 = b := by rw [List.getD_eq_getElem?_getD, g1]; rfl
    show (ps.map Value.ref).toArray[j]? = some (.ref (ps.getD j 0)) ∧ PairAt s.heap (ps.getD j 0) k v
    rw [gd]
    exact ⟨by simp [g1], .inl (by rw [← f3]; exact g2)⟩
  · obtain ⟨q', f1, f2, f3⟩ := at_pv j k v e
    obtain ⟨b, g1, g2, g3⟩ := hw j q' k f1 f2
    exact ⟨q'.1, by rw [f1, ← f3], g3⟩
  · have hm : (s.heap.objs.size == sysModules) = false := beq_eq_false_iff_ne.mpr (Nat.ne_of_gt I.big)
    exact ⟨.ref s.heap.objs.size, upd H s.heap.objs.size (.dK (mergeK [] kvs)), I.laid (t' := tk) (fun b o e => k b o (by simp) e) (Nat.le_refl _) ⟨hlen, hm, merged [] prs, KV.merge rel .nil, hd'⟩, rfl, q _ (I.hok.fresh (Nat.le_refl _))⟩
/-- d.update(e), two dicts -/
def rDUp : V → List V → Hp → VK → Prop := fun x xs H Q => ∃ a b ks ls, x = .ref a ∧ xs = [.ref b] ∧ a ≠ b ∧ H a = some (.dK ks) ∧ H b = some (.dK ls) ∧ ks.length + ls.length ≤ sizeLine ∧ Q .non (upd H a (.dK (mergeK ks ls)))
theorem mt_dupdate : MtR X "dict.update" rDUp := by
  intro pins s σ H x xs v us Q I rx rxs h
  obtain ⟨a, b, ks, ls, rfl, rfl, hne, ea, eb, hz, q⟩ := h
  cases (show v = Value.ref a from rx)
  obtain ⟨u, rfl, ru⟩ := vals1 rxs
  cases (show u = Value.ref b from ru)
  have oa : ObjOk X.prog X.w H s.heap a (.dK ks) := I.hok a _ ea
  have ob : ObjOk X.prog X.w H s.heap b (.dK ls) := I.hok b _ eb
  obtain ⟨z1, ya, va, ra, da⟩ := oa
  obtain ⟨z2, yb, vb, rb, db⟩ := ob
  have lm := length_mergeK ls ks
  refine call_meetsIn PySem.F.slot_dict_update da.typeIs PySem.F.entry_dict_update (PySem.F.args_dict_update_2 _ _) (meets_dict_update (mixKind X.prog X.w) a b hne yb) ⟨va, vb, da, db, by rw [← ra.length, ← rb.length]; exact hz, fun h' hm _ hs => ?_⟩
  have he : ∃ q, h'.get? a = some q := let ⟨q, _, _, hq, _⟩ := hm; ⟨q, hq⟩
  exact ⟨.non, _, I.write (e := a) (t' := s.toks) (by rw [ea]; trivial) (.inl rfl) (fun c u hc e => (hs.2 c hc).trans e) he (show ObjOk X.prog X.w _ h' a (.dK (mergeK ks ls)) from ⟨by omega, ya, merged va vb, KV.merge rb ra, hm⟩), rfl, q⟩
end
end Bd

namespace Bd
open PySem PySem.Spec PyProof.Rows L2
/-! ### the written table PLAIN -/
def plainK (K : PySem.W.Frag) : List (Key × V) := (words.map Sum.inr).zip (plainV K)
/-- the written dict at PLAIN: its entries -/
def Pln (w : World) (K : PySem.W.Frag) : Prop := ∃ es n, KDict K w (He.ga K "PLAIN") es n ∧ es.toList.map He.keyOf = He.keysIn w.params words ∧ He.relAll (plainV K) (es.toList.map (·.val)) = true
theorem rel_all {vs : List V} {us : List Value} (h : He.relAll vs us = true) : Vals vs us := He.relAll_ok h
theorem entries_of {P : Program} {w : World} : ∀ {es : List DictEntry} {ks : List Str} {vs : List V}, es.map He.keyOf = He.keysIn w.params ks → Vals vs (es.map (·.val)) →
    ∃ us : List (Key × Value), KV ((ks.map Sum.inr).zip vs) us ∧ PySem.Pairs (mixKind P w) es us ∧ us.map (·.1) = ks.map Sum.inr ∧ ∀ e ∈ es, ∃ k, (mixKind P w).is k e.key = true ∧ e.hash = (mixKind P w).hash k
  | [], [], _, _, .nil => ⟨[], .nil, .nil, rfl, fun e he => nomatch he⟩
  | [], k :: ks, _, h, _ => by cases h
  | e :: es, [], _, h, _ => by cases h
  | e :: es, k :: ks, _, h, .cons (a := v) (l₁ := vs) rv rt => by
    have h1 : He.keyOf e :: es.map He.keyOf = some (k, PyData.keyHash w.params k) :: He.keysIn w.params ks := h
    injection h1 with h2 h3
    obtain ⟨us, q1, q2, q3, q4⟩ := entries_of (P := P) h3 rt
    have ek : ∃ t, e.key = .str k t ∧ e.hash = PyData.keyHash w.params k := by
      unfold He.keyOf at h2
      split at h2
      · rename_i x t q
        obtain ⟨h5, h6⟩ := Prod.mk.inj (Option.some.inj h2)
        exact ⟨t, by rw [q, h5], h6⟩
      · cases h2
    obtain ⟨t, e1, e2⟩ := ek
    have is1 : (mixKind P w).is (Sum.inr k) e.key = true := by rw [e1]; exact mixKind_str P w k t
    refine ⟨(Sum.inr k, e.val) :: us, .cons ⟨rfl, rv⟩ q1, .cons is1 rfl q2, by rw [List.map_cons, q3]; rfl, fun e' he => ?_⟩
    rcases List.mem_cons.mp he with z | z
    · rw [z]
      exact ⟨Sum.inr k, is1, e2⟩
    · exact q4 e' z
theorem call_dictW {X : Cx} (hp : Pln X.w X.K) : CallR X (.type "dict") (fun xs H Q => xs = [.ref (He.ga X.K "PLAIN")] ∧ ∀ p, H p = none → Q (.ref p) (upd H p (.dK (plainK X.K)))) := by
  intro pins s σ H xs us Q I r q
  obtain ⟨rfl, q⟩ := q
  obtain ⟨u, rfl, rx⟩ := vals1 r
  cases rx
  obtain ⟨es, n, D, hk, hv⟩ := hp
  obtain ⟨us, kv, pr, ks, hh⟩ := entries_of (P := X.prog) hk (rel_all hv)
  have dd : s.heap.DictOf (mixKind X.prog X.w) (He.ga X.K "PLAIN") us :=
    ⟨_, es, n, I.kIn _ _ D.at_, ⟨rfl, rfl, rfl⟩, rfl, fun e he => hh e (Array.mem_toList_iff.mpr he), pr, by rw [ks]; decide +kernel⟩
  have lu : us.length = 8 := by
    have := congrArg List.length ks
    rw [List.length_map, List.length_map] at this
    exact this
  have lk : (plainK X.K).length ≤ sizeLine := by unfold plainK; rw [KV.length kv, lu]; decide
  refine kt_call_dict D.low dd (by rw [lu]; decide) fun h' d' hs => ?_
  have hm : (s.heap.objs.size == sysModules) = false := beq_eq_false_iff_ne.mpr (Nat.ne_of_gt I.big)
  exact ⟨.ref s.heap.objs.size, upd H s.heap.objs.size (.dK (plainK X.K)), I.laid (t' := s.toks) (fun b u e => (hs.2 b (Nat.ne_of_lt (Heap.lt_size e))).trans (Heap.get?_push_of_some _ e)) (Nat.le_refl _) (show ObjOk X.prog X.w _ _ _ (.dK (plainK X.K)) from ⟨lk, hm, us, kv, d'⟩), rfl, q _ (I.hok.fresh (Nat.le_refl _))⟩
/-! ### what the module's names hold -/
structure Zs (w : World) (K : PySem.W.Frag) (mg : Str → Option Value) : Prop where
  len : mg "len" = none
  isinstance : mg "isinstance" = none
  str : mg "str" = none
  int : mg "int" = none
  bool : mg "bool" = none
  tuple : mg "tuple" = none
  list : mg "list" = none
  all : mg "all" = none
  set : mg "set" = none
  sorted : mg "sorted" = none
  zip : mg "zip" = none
  range : mg "range" = none
  enumerate : mg "enumerate" = none
  max : mg "max" = none
  min : mg "min" = none
  sum : mg "sum" = none
  dict : mg "dict" = none
  mMOST_PLACE : ∃ u, mg "MOST_PLACE" = some u ∧ RelV (.int 63) u
  mENDLESS : ∃ u, mg "ENDLESS" = some u ∧ RelV (.str "endless") u
  mLETTERS : ∃ u, mg "LETTERS" = some u ∧ RelV (.str "abcdefghijklmnopqrstuvwxyz") u
  mWORDS : ∃ u, mg "WORDS" = some u ∧ RelV (.ref (He.ga K "WORDS")) u
  mPLAIN : ∃ u, mg "PLAIN" = some u ∧ RelV (.ref (He.ga K "PLAIN")) u
  mTree : ∃ u, mg "Tree" = some u ∧ RelV (.ref (He.ga K "Tree")) u
  words : ∀ H, SqT K H (He.ga K "WORDS") (words.map V.str)
  plain : Pln w K
  cls : Cls K (He.ga K "Tree")
  tmk : Mk K (He.ga K "Tree") (He.ma K (He.ga K "Tree") "__init__")
  nkept : NoAttr K (He.ga K "Tree") "kept"
  nunder : NoAttr K (He.ga K "Tree") "under"
  nhand : NoAttr K (He.ga K "Tree") "is_handing"
  tcls : PySem.W.findIn K (.ref (He.ga K "Tree")) "__class__" = some (some (.builtin "object.__class__"))
  tget : PySem.W.specialIn K (.builtin "object.__class__") "__get__" = some (some (.builtin "getset_descriptor.__get__"))
  ttk : PySem.W.takesIn K (.builtin "object.__class__") = some true
  tmro : PySem.W.mroIn K (He.ga K "Tree") (.type "object") = some true
theorem tabs_of {w : World} {K : PySem.W.Frag} (c : He.SaysT fa fn tabs w K) : He.dicW K (He.ga K "PLAIN") = some (He.keysIn w.params words) := by
  have e : tabs.map (fun t => He.dicW K (t.1 K)) = tabs.map fun t => some (He.keysIn w.params t.2) := congrArg (fun z : He.AlT => z.2) c
  exact (List.cons.inj e).1
theorem pln_of {w : World} {K : PySem.W.Frag} (h : He.dicW K (He.ga K "PLAIN") = some (He.keysIn w.params words)) (hv : He.relAll (plainV K) (esOf K (He.ga K "PLAIN")) = true) : Pln w K := by
  obtain ⟨es, n, D⟩ := He.dicW_ok (w := w) h
  refine ⟨es, n, D, ?_, ?_⟩
  · unfold He.dicW at h
    rw [D.at_] at h
    have h1 : (match decide (("dict" : String) = "dict") && ((#[] : Array (Option Value)).isEmpty && !(He.ga K "PLAIN" == sysModules)) with
      | true => some (es.toList.map He.keyOf)
      | false => none) = some (He.keysIn w.params words) := h
    rw [D.low] at h1
    exact Option.some.inj h1
  · unfold esOf at hv
    rw [D.at_] at hv
    exact hv
theorem zs_of {w : World} {K : PySem.W.Frag} {h : Heap} {mg : Str → Option Value} (X : K.In h) (G : h.Ns mainGlobals mg) (c : He.SaysX fa fn tabs [] exB w h K) : Zs w K mg := by
  have d := c.t.d
  have fr : ∀ x : Str, He.Fa.free x ∈ fa → mg x = none := fun x hx => He.free_ok X G (d.facts hx)
  have gl : ∀ x : Str, He.Fa.glo x ∈ fa → ∃ u, mg x = some u ∧ RelV (.ref (He.ga K x)) u := fun x hx => ⟨_, He.glo_ok X G (d.facts hx), rfl⟩
  have m3 : ∀ f, f ∈ fa3 → f ∈ fa := fun f hf => List.mem_append_right _ (List.mem_append_right _ (List.mem_append_left _ hf))
  have m4 : ∀ f, f ∈ fa4 → f ∈ fa := fun f hf => List.mem_append_right _ (List.mem_append_right _ (List.mem_append_right _ hf))
  have m2 : ∀ f, f ∈ fa2 → f ∈ fa := fun f hf => List.mem_append_right _ (List.mem_append_left _ hf)
  obtain ⟨x1, x2⟩ := He.ba (show exB K = true from c.more)
  obtain ⟨x2, x3⟩ := He.ba x2
  obtain ⟨x3, x4⟩ := He.ba x3
  obtain ⟨x4, x5⟩ := He.ba x4
  obtain ⟨x5, x6⟩ := He.ba x5
  obtain ⟨t63, e63⟩ := He.int_ok X G (d.facts (m4 (.int "MOST_PLACE" 63) (List.mem_of_getElem? (i := 0) rfl)))
  obtain ⟨tE, eE⟩ := He.str_ok X G (d.facts (m4 (.str "ENDLESS" "endless") (List.mem_of_getElem? (i := 1) rfl)))
  obtain ⟨tL, eL⟩ := He.str_ok X G (d.facts (m4 (.str "LETTERS" "abcdefghijklmnopqrstuvwxyz") (List.mem_of_getElem? (i := 2) rfl)))
  exact {
    len := fr _ (m3 _ (List.mem_of_getElem? (i := 0) rfl))
    isinstance := fr _ (m3 _ (List.mem_of_getElem? (i := 1) rfl))
    str := fr _ (m3 _ (List.mem_of_getElem? (i := 2) rfl))
    int := fr _ (m3 _ (List.mem_of_getElem? (i := 3) rfl))
    bool := fr _ (m3 _ (List.mem_of_getElem? (i := 4) rfl))
    tuple := fr _ (m3 _ (List.mem_of_getElem? (i := 5) rfl))
    list := fr _ (m3 _ (List.mem_of_getElem? (i := 6) rfl))
    all := fr _ (m3 _ (List.mem_of_getElem? (i := 7) rfl))
    set := fr _ (m3 _ (List.mem_of_getElem? (i := 8) rfl))
    sorted := fr _ (m3 _ (List.mem_of_getElem? (i := 9) rfl))
    zip := fr _ (m3 _ (List.mem_of_getElem? (i := 10) rfl))
    range := fr _ (m3 _ (List.mem_of_getElem? (i := 11) rfl))
    enumerate := fr _ (m3 _ (List.mem_of_getElem? (i := 12) rfl))
    max := fr _ (m3 _ (List.mem_of_getElem? (i := 13) rfl))
    min := fr _ (m3 _ (List.mem_of_getElem? (i := 14) rfl))
    sum := fr _ (m3 _ (List.mem_of_getElem? (i := 15) rfl))
    dict := fr _ (m3 _ (List.mem_of_getElem? (i := 16) rfl))
    mMOST_PLACE := ⟨_, e63, t63, rfl⟩
    mENDLESS := ⟨_, eE, tE, rfl⟩
    mLETTERS := ⟨_, eL, tL, rfl⟩
    mWORDS := gl _ (m2 _ (List.mem_of_getElem? (i := 9) rfl))
    mPLAIN := gl _ (m2 _ (List.mem_of_getElem? (i := 10) rfl))
    mTree := gl _ (m2 _ (List.mem_of_getElem? (i := 8) rfl))
    words := fun H => He.tupB_ok x1 H
    plain := pln_of (tabs_of c.t) x2
    cls := He.cls_ok (d.facts (m4 (.cls "Tree") (List.mem_of_getElem? (i := 3) rfl)))
    tmk := He.mkr_ok (d.facts (m4 (.mkr "Tree") (List.mem_of_getElem? (i := 4) rfl)))
    nkept := He.noat_ok (d.facts (m4 (.noat "Tree" "kept") (List.mem_of_getElem? (i := 5) rfl)))
    nunder := He.noat_ok (d.facts (m4 (.noat "Tree" "under") (List.mem_of_getElem? (i := 6) rfl)))
    nhand := He.noat_ok (d.facts (m4 (.noat "Tree" "is_handing") (List.mem_of_getElem? (i := 7) rfl)))
    tcls := of_decide_eq_true x3
    tget := of_decide_eq_true x4
    ttk := of_decide_eq_true x5
    tmro := of_decide_eq_true x6 }
end Bd

namespace Bd
open PySem PySem.Spec PyProof.Rows L2
/-! ### the data -/
structure Gr where
  nm : Str
  ab : Str
  asks : Option (List Int)
  mrk : Int
/-- a set of processors -/
structure GoodS (xs : List Int) : Prop where
  ris : xs.Pairwise (· < ·)
  bd : ∀ x ∈ xs, 0 ≤ x ∧ x ≤ 63
theorem ris_len : ∀ (xs : List Int) (lo : Int), xs.Pairwise (· < ·) → (∀ x ∈ xs, lo ≤ x ∧ x ≤ 63) → lo ≤ 64 → (xs.length : Int) ≤ 64 - lo
  | [], lo, _, _, h => by simp; omega
  | x :: r, lo, hp, hb, h => by
    obtain ⟨h1, h2⟩ := List.pairwise_cons.mp hp
    have hx := hb x List.mem_cons_self
    have ih := ris_len r (x + 1) h2 (fun y hy => by
      have a := h1 y hy
      have b := hb y (List.mem_cons_of_mem _ hy)
      omega) (by omega)
    rw [List.length_cons]
    push_cast
    omega
theorem GoodS.len {xs : List Int} (g : GoodS xs) : xs.length ≤ 64 := by
  have := ris_len xs 0 g.ris g.bd (by omega)
  omega
theorem GoodS.sub {xs ys : List Int} (g : GoodS xs) (h : ys.Sublist xs) : GoodS ys := ⟨g.ris.sublist h, fun x hx => g.bd x (h.subset hx)⟩
theorem GoodS.filter {xs : List Int} (g : GoodS xs) (p : Int → Bool) : GoodS (xs.filter p) := g.sub List.filter_sublist
theorem GoodS.nodup {xs : List Int} (g : GoodS xs) : xs.Nodup := List.Pairwise.imp (fun h => by omega) g.ris
theorem GoodS.nil : GoodS [] := ⟨.nil, fun _ h => nomatch h⟩
/-- letters -/
def okName (x : Str) : Prop := 1 ≤ x.length ∧ x.length ≤ 10 ∧ ∀ c ∈ x.cps.toList, c ∈ ("abcdefghijklmnopqrstuvwxyz" : Str).cps.toList
structure GoodRows (rows : List Gr) : Prop where
  nd : (rows.map (·.nm)).Nodup
  nms : ∀ r ∈ rows, okName r.nm
  abv : ∀ i r, rows[i]? = some r → r.ab = ("" : Str) ∨ r.ab ∈ (rows.take i).map (·.nm)
  asks : ∀ r ∈ rows, ∀ a, r.asks = some a → GoodS a
  mrk : ∀ r ∈ rows, r.mrk = 0 ∨ r.mrk = 1
/-! ### the data in the heap -/
abbrev zI (xs : List Int) : List V := xs.map V.int
abbrev zS (xs : List Str) : List V := xs.map V.str
def AskAt (H : Hp) (v : V) : Option (List Int) → Prop
  | none => v = .non
  | some xs => ∃ p, v = .ref p ∧ H p = some (.tup (zI xs))
theorem AskAt.stay {H H' : Hp} {v : V} {a : Option (List Int)} (h : AskAt H v a) (s : Stay H H') : AskAt H' v a := by
  cases a with
  | none => exact h
  | some xs =>
    obtain ⟨p, e, hp⟩ := h
    exact ⟨p, e, s _ _ hp (fun l z => nomatch z)⟩
/-- the dues of a row -/
structure DuesAt (H : Hp) (d : Addr) (asks : Option (List Int)) (mk : Int) : Prop where
  ex : ∃ (o : Obj) (d1 d2 : Addr) (av : V), H d = some (.frz o (.tup [.ref d1, .ref d2])) ∧ o.cls = .type "tuple" ∧ o.dict = none ∧ H d1 = some (.tup [.str "sets", av]) ∧ H d2 = some (.tup [.str "alone", .int mk]) ∧ AskAt H av asks
theorem DuesAt.stay {H H' : Hp} {d : Addr} {a : Option (List Int)} {m : Int} (h : DuesAt H d a m) (s : Stay H H') : DuesAt H' d a m := by
  obtain ⟨o, d1, d2, av, h1, h2, h3, h4, h5, h6⟩ := h.ex
  exact ⟨o, d1, d2, av, s _ _ h1 (fun l z => nomatch z), h2, h3, s _ _ h4 (fun l z => nomatch z), s _ _ h5 (fun l z => nomatch z), h6.stay s⟩
def RowAt (H : Hp) (r : Gr) (v : V) : Prop := ∃ q d, v = .ref q ∧ H q = some (.tup [.str r.nm, .str r.ab, .ref d]) ∧ DuesAt H d r.asks r.mrk
theorem RowAt.stay {H H' : Hp} {r : Gr} {v : V} (h : RowAt H r v) (s : Stay H H') : RowAt H' r v := by
  obtain ⟨q, d, e, h1, h2⟩ := h
  exact ⟨q, d, e, s _ _ h1 (fun l z => nomatch z), h2.stay s⟩
def RowsAt (H : Hp) (R : Addr) (rows : List Gr) : Prop := ∃ vs, H R = some (.lst vs) ∧ Paired (RowAt H) rows vs
theorem rows_stay {H H' : Hp} {rows : List Gr} {vs : List V} (p : Paired (RowAt H) rows vs) (s : Stay H H') : Paired (RowAt H') rows vs := L2.Paired.mapP p fun _ _ h => h.stay s
theorem RowsAt.same {H H' : Hp} {R : Addr} {rows : List Gr} (h : RowsAt H R rows) (s : Same H H') : RowsAt H' R rows := by
  obtain ⟨vs, e, p⟩ := h
  exact ⟨vs, s _ _ e, rows_stay p (Same.stay s)⟩
/-! ### the tree's dicts -/
def DueOk (H : Hp) (ds : List (Key × V)) (asks : Option (List Int)) (mk : Int) : Prop := valV ds (Sum.inr "tops") = some (.str "endless") ∧ valV ds (Sum.inr "alone") = some (.int mk) ∧ ∃ av, valV ds (Sum.inr "sets") = some av ∧ AskAt H av asks
def KeptV (H : Hp) (r : Gr) (v : V) : Prop := ∃ q dd ds, v = .ref q ∧ H q = some (.tup [.str r.ab, .ref dd]) ∧ H dd = some (.dK ds) ∧ DueOk H ds r.asks r.mrk
def KeptE (H : Hp) (r : Gr) (kv : Key × V) : Prop := kv.1 = Sum.inr r.nm ∧ KeptV H r kv.2
theorem KeptV.stay {H H' : Hp} {r : Gr} {v : V} (h : KeptV H r v) (s : Stay H H') : KeptV H' r v := by
  obtain ⟨q, dd, ds, e, h1, h2, h3, h4, av, h5, h6⟩ := h
  exact ⟨q, dd, ds, e, s _ _ h1 (fun l z => nomatch z), s _ _ h2 (fun l z => nomatch z), h3, h4, av, h5, h6.stay s⟩
theorem kept_stay {H H' : Hp} {rows : List Gr} {kvs : List (Key × V)} (p : Paired (KeptE H) rows kvs) (s : Stay H H') : Paired (KeptE H') rows kvs := L2.Paired.mapP p fun _ _ h => ⟨h.1, h.2.stay s⟩
def lookR (rows : List Gr) (nm : Str) : Option Gr := rows.find? fun r => decide (r.nm = nm)
theorem kept_look {H : Hp} (nm : Str) : ∀ {rows : List Gr} {kvs : List (Key × V)}, Paired (KeptE H) rows kvs → (lookR rows nm = none ∧ valV kvs (Sum.inr nm) = none) ∨ ∃ r v, lookR rows nm = some r ∧ valV kvs (Sum.inr nm) = some v ∧ KeptV H r v
  | _, _, .nil => .inl ⟨rfl, rfl⟩
  | r :: rs, kv :: kvs, .cons h t => by
    by_cases e : r.nm = nm
    · refine .inr ⟨r, kv.2, ?_, valV_pos (by rw [h.1, e]), h.2⟩
      unfold lookR
      rw [List.find?_cons_of_pos (by simp [e])]
    · have e2 : ¬ kv.1 = Sum.inr nm := fun z => e (Sum.inr.inj (h.1.symm.trans z))
      have l2 : lookR (r :: rs) nm = lookR rs nm := by
        unfold lookR
        rw [List.find?_cons_of_neg (by simp [e])]
      rw [l2, valV_neg e2]
      exact kept_look nm t
theorem look_none {rows : List Gr} {nm : Str} (h : nm ∉ rows.map (·.nm)) : lookR rows nm = none := by
  unfold lookR
  rw [List.find?_eq_none]
  intro r hr
  rw [decide_eq_true_eq]
  intro e
  exact h (List.mem_map.mpr ⟨r, hr, e⟩)
theorem look_some {rows : List Gr} {nm : Str} (h : nm ∈ rows.map (·.nm)) : ∃ r, lookR rows nm = some r ∧ r ∈ rows ∧ r.nm = nm := by
  cases e : lookR rows nm with
  | none =>
    obtain ⟨r, hr, e2⟩ := List.mem_map.mp h
    have := List.find?_eq_none.mp e r hr
    simp [e2] at this
  | some r =>
    have h1 := List.find?_some e
    exact ⟨r, rfl, List.mem_of_find?_eq_some e, of_decide_eq_true h1⟩
/-- the source of the draws: a list of three numbers -/
def SrcAt (H : Hp) (s : Addr) : Prop := ∃ a b c : Int, H s = some (.lst [.int a, .int b, .int c])
theorem SrcAt.same {H H' : Hp} {s : Addr} (h : SrcAt H s) (e : Same H H') : SrcAt H' s := by
  obtain ⟨a, b, c, q⟩ := h
  exact ⟨a, b, c, e _ _ q⟩
theorem SrcAt.there {H : Hp} {s : Addr} (h : SrcAt H s) : ∃ o, H s = some o := let ⟨_, _, _, q⟩ := h; ⟨_, q⟩
theorem prd_get {α β : Type} {F : α → β → Prop} : ∀ {l : List α} {m : List β} {i : Nat} {y : β}, Paired F l m → m[i]? = some y → ∃ x, l[i]? = some x ∧ F x y
  | _, _, _, _, .nil, e => by simp at e
  | _, _, 0, _, .cons r t, e => by simp at e; subst e; exact ⟨_, rfl, r⟩
  | _, _, i + 1, _, .cons r t, e => by
    obtain ⟨x, h1, h2⟩ := prd_get (i := i) t (by simpa using e)
    exact ⟨x, by simpa using h1, h2⟩
theorem prd_get' {α β : Type} {F : α → β → Prop} : ∀ {l : List α} {m : List β} {i : Nat} {x : α}, Paired F l m → l[i]? = some x → ∃ y, m[i]? = some y ∧ F x y
  | _, _, _, _, .nil, e => by simp at e
  | _, _, 0, _, .cons r t, e => by simp at e; subst e; exact ⟨_, rfl, r⟩
  | _, _, i + 1, _, .cons r t, e => by
    obtain ⟨x, h1, h2⟩ := prd_get' (i := i) t (by simpa using e)
    exact ⟨x, by simpa using h1, h2⟩
theorem cut_from (xs : List V) (k : Nat) : cutV xs (some (k : Int)) none = xs.drop k := by
  unfold cutV
  rw [HT.sIx_nat, HT.sIx_none]
  by_cases h : k ≤ xs.length
  · rw [Nat.min_eq_left h]
    exact List.take_of_length_le (by rw [List.length_drop]; exact Nat.le_refl _)
  · rw [Nat.min_eq_right (by omega), List.drop_eq_nil_of_le (Nat.le_refl _), List.drop_eq_nil_of_le (by omega), List.take_nil]
theorem cut_to (xs : List V) (k : Nat) : cutV xs none (some (k : Int)) = xs.take k := by
  unfold cutV
  rw [HT.sIx_nat, HT.sIx_none, List.drop_zero, Nat.sub_zero]
  by_cases h : k ≤ xs.length
  · rw [Nat.min_eq_left h]
  · rw [Nat.min_eq_right (by omega), List.take_of_length_le (Nat.le_refl _), List.take_of_length_le (by omega)]
/-- a slice of a tuple, the whole or not -/
theorem sl_any {K : PySem.W.Frag} {H : Hp} {a : Addr} {xs : List V} {lo hi : Option Int} {Q : VK} (h : H a = some (.tup xs)) (q : ∀ p H1, Same H H1 → H1 p = some (.tup (cutV xs lo hi)) → Q (.ref p) H1) : rSlA K (.ref a) lo hi H Q := by
  refine ⟨a, xs, rfl, SqT.of h, fun hw => q a H (Same.refl H) ?_, fun _ => fun p np => q p _ (Same.new np) upd_same⟩
  unfold cutV
  rw [hw.1, hw.2, List.drop_zero, Nat.sub_zero, List.take_of_length_le (Nat.le_refl _)]
  exact h
theorem no_part {σ : L2.St} {H : Hp} {Q : Option Int → Hp → Prop} (h : Q none H) : tNoPart σ H Q := h
/-- no test -/
theorem yes_ {σ : L2.St} {H : Hp} {Q : Bool → Hp → Prop} (h : Q true H) : tYes σ H Q := h
theorem nil_ {σ : L2.St} {H : Hp} {Q : List V → Hp → Prop} (h : Q [] H) : tNil σ H Q := h
theorem fm_some {α β : Type} (g : α → β) (as : List α) : as.filterMap (fun a => some (g a)) = as.map g := by
  show as.filterMap (some ∘ g) = _
  rw [List.filterMap_eq_map]
theorem fm_bl {α : Type} (p : α → Bool) (as : List α) : as.filterMap (fun a => some (V.bl (p a))) = (as.map p).map V.bl := by
  show as.filterMap (some ∘ fun a => V.bl (p a)) = _
  rw [List.filterMap_eq_map, List.map_map]
  rfl
theorem all_map {α : Type} (p : α → Bool) (as : List α) : (as.map p).all id = as.all p := by
  rw [List.all_map]; rfl
theorem same_of {H H1 : Hp} {p : Addr} {o : HO} (e : upd H p o = H1) (n : H p = none) : Same H H1 := by rw [← e]; exact Same.new n
theorem at_of_ {H H1 : Hp} {p : Addr} {o : HO} (e : upd H p o = H1) : H1 p = some o := by rw [← e]; exact upd_same
theorem but_of {H H1 : Hp} {p : Addr} {o : HO} (e : upd H p o = H1) : But p H H1 := by rw [← e]; exact But.upd
def rLenS (K : PySem.W.Frag) : List V → Hp → VK → Prop := fun xs H Q => ∃ p ys, xs = [.ref p] ∧ (SqL K H p ys ∨ SqT K H p ys) ∧ Q (.int ys.length) H
theorem hu65 {A : Around} {k : Nat} (hr : Room k A) : A.units + 65 < cLine := by have := hr.un; omega
theorem Room.u64 {A : Around} {k : Nat} (hr : Room k A) : A.units + 64 < cLine := hr.units
end Bd

namespace Bd
open PySem PySem.Spec PyProof.Rows L2
/-! ### children -/
abbrev namesR (rows : List Gr) : List Str := rows.map (·.nm)
def relN (rows : List Gr) (nm : Str) : Prop := nm = ("" : Str) ∨ nm ∈ namesR rows
def kidsR (rows : List Gr) (nm : Str) : List Gr := rows.filter fun r => decide (r.ab = nm)
def kidsN (rows : List Gr) (nm : Str) : List Str := (kidsR rows nm).map (·.nm)
theorem kids_snoc (l : List Gr) (r : Gr) (nm : Str) : kidsN (l ++ [r]) nm = kidsN l nm ++ (if r.ab = nm then [r.nm] else []) := by
  unfold kidsN kidsR
  rw [List.filter_append, List.map_append]
  congr 1
  by_cases e : r.ab = nm
  · rw [if_pos e, List.filter_cons_of_pos (by simp [e])]
    rfl
  · rw [if_neg e, List.filter_cons_of_neg (by simp [e])]
    rfl
theorem okName_ne {x : Str} (h : okName x) : x ≠ ("" : Str) := fun e => by
  have := h.1
  rw [e] at this
  exact absurd this (by decide +kernel)
theorem take_name {rows : List Gr} (g : GoodRows rows) {i j : Nat} {r : Gr} (hr : rows[i]? = some r) (h : j ≤ i) : r.nm ∉ namesR (rows.take j) := fun m => by
  have nd := g.nd
  obtain ⟨lt, e⟩ := List.getElem?_eq_some_iff.mp hr
  obtain ⟨k, hk, ek⟩ := List.mem_iff_getElem.mp m
  rw [List.length_map, List.length_take] at hk
  have e2 : (namesR rows)[k]'(by rw [List.length_map]; omega) = (namesR rows)[i]'(by rw [List.length_map]; exact lt) := by
    rw [List.getElem_map, List.getElem_map, e]
    rw [List.getElem_map, List.getElem_take] at ek
    exact ek
  have := (List.getElem_inj nd).mp e2
  omega
theorem ab_ne {rows : List Gr} (g : GoodRows rows) {i j : Nat} {r r2 : Gr} (hr : rows[i]? = some r) (h2 : rows[j]? = some r2) (h : j ≤ i) : r2.ab ≠ r.nm := fun e => by
  rcases g.abv j r2 h2 with z | z
  · exact okName_ne (g.nms r (List.mem_of_getElem? hr)) (e.symm.trans z)
  · rw [e] at z
    exact take_name g hr h z
theorem kids_none {rows : List Gr} (g : GoodRows rows) {i : Nat} {r : Gr} (hr : rows[i]? = some r) : kidsN (rows.take i) r.nm = [] := by
  unfold kidsN kidsR
  rw [List.filter_eq_nil_iff.mpr, List.map_nil]
  intro r2 h2
  rw [decide_eq_true_eq]
  obtain ⟨k, hk, ek⟩ := List.mem_iff_getElem.mp h2
  rw [List.length_take] at hk
  have e2 : rows[k]? = some r2 := by
    rw [List.getElem_take] at ek
    rw [List.getElem?_eq_some_iff]
    exact ⟨by omega, ek⟩
  exact ab_ne g hr e2 (by omega)
theorem take_snoc {α : Type} {l : List α} {i : Nat} {x : α} (h : l[i]? = some x) : l.take (i + 1) = l.take i ++ [x] := by
  obtain ⟨lt, e⟩ := List.getElem?_eq_some_iff.mp h
  rw [List.take_succ_eq_append_getElem lt, e]
theorem rel_old {rows : List Gr} {i : Nat} {r : Gr} (hr : rows[i]? = some r) {nm : Str} (h : relN (rows.take (i + 1)) nm) (ne : nm ≠ r.nm) : relN (rows.take i) nm := by
  rcases h with h | h
  · exact .inl h
  · rw [take_snoc hr] at h
    unfold namesR at h
    rw [List.map_append] at h
    rcases List.mem_append.mp h with h | h
    · exact .inr h
    · exact absurd (List.mem_singleton.mp h) ne
theorem row_eq {rows : List Gr} (g : GoodRows rows) {r r2 : Gr} (h : r ∈ rows) (h2 : r2 ∈ rows) (e : r.nm = r2.nm) : r = r2 := by
  obtain ⟨i, hi, ei⟩ := List.mem_iff_getElem.mp h
  obtain ⟨j, hj, ej⟩ := List.mem_iff_getElem.mp h2
  have e2 : (namesR rows)[i]'(by rw [List.length_map]; exact hi) = (namesR rows)[j]'(by rw [List.length_map]; exact hj) := by rw [List.getElem_map, List.getElem_map, ei, ej, e]
  have := (List.getElem_inj g.nd).mp e2
  subst this
  rw [← ei, ← ej]
theorem look_self {rows : List Gr} (g : GoodRows rows) {r : Gr} (h : r ∈ rows) : lookR rows r.nm = some r := by
  obtain ⟨r2, e, m, en⟩ := look_some (rows := rows) (nm := r.nm) (List.mem_map.mpr ⟨r, h, rfl⟩)
  rw [e, row_eq g m h en]
theorem kids_len (rows : List Gr) (nm : Str) : (kidsN rows nm).length ≤ rows.length := by
  unfold kidsN kidsR
  rw [List.length_map]
  exact List.length_filter_le _ _
/-! ### the tree in the heap -/
def RefV (us : List (Key × V)) : Prop := ∀ k v, valV us k = some v → ∃ a, v = .ref a
structure UnderI (H : Hp) (us : List (Key × V)) (rows : List Gr) (L : Str → Addr) : Prop where
  at_ : ∀ nm, relN rows nm → valV us (Sum.inr nm) = some (.ref (L nm)) ∧ H (L nm) = some (.lst (zS (kidsN rows nm)))
  inj : ∀ a b, relN rows a → relN rows b → L a = L b → a = b
  refs : RefV us
def UnderAt (H : Hp) (us : List (Key × V)) (rows : List Gr) : Prop := ∀ nm, relN rows nm → ∃ l, valV us (Sum.inr nm) = some (.ref l) ∧ H l = some (.lst (zS (kidsN rows nm)))
def TreeAt (K : PySem.W.Frag) (H : Hp) (t : Addr) (rows : List Gr) : Prop := ∃ dx fs k u kvs us, H t = some (.ins (He.ga K "Tree") dx fs) ∧ fs.lookup ("kept" : Str) = some (.ref k) ∧ fs.lookup ("under" : Str) = some (.ref u) ∧
  H k = some (.dK kvs) ∧ Paired (KeptE H) rows kvs ∧ H u = some (.dK us) ∧ UnderAt H us rows
theorem TreeAt.same {K : PySem.W.Frag} {H H' : Hp} {t : Addr} {rows : List Gr} (h : TreeAt K H t rows) (s : Same H H') : TreeAt K H' t rows := by
  obtain ⟨dx, fs, k, u, kvs, us, h1, h2, h3, h4, h5, h6, h7⟩ := h
  refine ⟨dx, fs, k, u, kvs, us, s _ _ h1, h2, h3, s _ _ h4, kept_stay h5 (Same.stay s), s _ _ h6, fun nm hn => ?_⟩
  obtain ⟨l, e, hl⟩ := h7 nm hn
  exact ⟨l, e, s _ _ hl⟩
theorem kept_refs {H : Hp} : ∀ {rows : List Gr} {kvs : List (Key × V)}, Paired (KeptE H) rows kvs → RefV kvs
  | _, _, .nil, k, v, e => by cases e
  | _, kv :: kvs, .cons h t, k, v, e => by
    by_cases z : kv.1 = k
    · rw [valV_pos z] at e
      cases e
      obtain ⟨q, _, _, e2, _⟩ := h.2
      exact ⟨q, e2⟩
    · rw [valV_neg z] at e
      exact kept_refs t k v e
/-- a table of references is no table of dues -/
theorem dues_ne {H : Hp} {k dd : Addr} {us ds : List (Key × V)} {a : Option (List Int)} {m : Int} (hk : H k = some (.dK us)) (r : RefV us) (hd : H dd = some (.dK ds)) (o : DueOk H ds a m) : dd ≠ k := fun e => by
  rw [e, hk] at hd
  cases hd
  obtain ⟨a, z⟩ := r _ _ o.1
  cases z
theorem AskAt.but {H H' : Hp} {d : Addr} {o : HO} {v : V} {a : Option (List Int)} (h : AskAt H v a) (hd : H d = some o) (nt : ∀ l, o ≠ .tup l) (b : But d H H') : AskAt H' v a := by
  cases a with
  | none => exact h
  | some xs =>
    obtain ⟨p, e, hp⟩ := h
    exact ⟨p, e, b _ _ (fun z => by rw [z, hd] at hp; exact nt _ (Option.some.inj hp)) hp⟩
theorem KeptV.but {H H' : Hp} {k : Addr} {us : List (Key × V)} {r : Gr} {v : V} (h : KeptV H r v) (hk : H k = some (.dK us)) (rf : RefV us) (b : But k H H') : KeptV H' r v := by
  obtain ⟨q, dd, ds, e, h1, h2, h3⟩ := h
  have n1 : q ≠ k := ne_of h1 hk (by intro z; cases z)
  have n2 : dd ≠ k := dues_ne hk rf h2 h3
  obtain ⟨d1, d2, av, d3, d4⟩ := h3
  exact ⟨q, dd, ds, e, b _ _ n1 h1, b _ _ n2 h2, d1, d2, av, d3, d4.but hk (by intro l z; cases z) b⟩
theorem kept_but {H H' : Hp} {k : Addr} {us : List (Key × V)} {rows : List Gr} {kvs : List (Key × V)} (p : Paired (KeptE H) rows kvs) (hk : H k = some (.dK us)) (rf : RefV us) (b : But k H H') : Paired (KeptE H') rows kvs :=
  L2.Paired.mapP p fun _ _ h => ⟨h.1, h.2.but hk rf b⟩
theorem KeptV.butO {H H' : Hp} {d : Addr} {o : HO} {r : Gr} {v : V} (h : KeptV H r v) (hd : H d = some o) (nt : ∀ l, o ≠ .tup l) (nd : ∀ l, o ≠ .dK l) (b : But d H H') : KeptV H' r v := by
  obtain ⟨q, dd, ds, e, h1, h2, d1, d2, av, d3, d4⟩ := h
  exact ⟨q, dd, ds, e, b _ _ (ne_of h1 hd fun z => nt _ z.symm) h1, b _ _ (ne_of h2 hd fun z => nd _ z.symm) h2, d1, d2, av, d3, d4.but hd nt b⟩
theorem kept_butO {H H' : Hp} {d : Addr} {o : HO} {rows : List Gr} {kvs : List (Key × V)} (p : Paired (KeptE H) rows kvs) (hd : H d = some o) (nt : ∀ l, o ≠ .tup l) (nd : ∀ l, o ≠ .dK l) (b : But d H H') : Paired (KeptE H') rows kvs :=
  L2.Paired.mapP p fun _ _ h => ⟨h.1, h.2.butO hd nt nd b⟩
theorem put_refs {us : List (Key × V)} {k : Key} {l : Addr} (r : RefV us) : RefV (putK us k (.ref l)) := fun j v e => by
  rw [valV_put] at e
  by_cases z : j = k
  · rw [if_pos z] at e
    exact ⟨l, (Option.some.inj e).symm⟩
  · rw [if_neg z] at e
    exact r j v e
/-- one more group -/
theorem under_step {H1 H2 : Hp} {us : List (Key × V)} {rows : List Gr} {L : Str → Addr} {i : Nat} {r : Gr} {l p : Addr} (g : GoodRows rows) (hr : rows[i]? = some r) (U : UnderI H1 us (rows.take i) L)
    (nl : ∀ nm, relN (rows.take i) nm → L nm ≠ l) (hl : H1 l = some (.lst [])) (hp : p = L r.ab) (b : But p H1 H2) (h2 : H2 p = some (.lst (zS (kidsN (rows.take i) r.ab) ++ [.str r.nm]))) :
    UnderI H2 (putK us (Sum.inr r.nm) (.ref l)) (rows.take (i + 1)) fun x => if x = r.nm then l else L x := by
  have rp : relN (rows.take i) r.ab := g.abv i r hr
  have nn := take_name g hr (Nat.le_refl i)
  have ne0 := okName_ne (g.nms r (List.mem_of_getElem? hr))
  have old : ∀ nm, relN (rows.take (i + 1)) nm → nm ≠ r.nm → relN (rows.take i) nm := fun nm h ne => by
    rcases h with h | h
    · exact .inl h
    · rw [take_snoc hr] at h
      unfold namesR at h
      rw [List.map_append] at h
      rcases List.mem_append.mp h with h | h
      · exact .inr h
      · exact absurd (List.mem_singleton.mp h) ne
  have nrel : ∀ nm, relN (rows.take i) nm → nm ≠ r.nm := fun nm h e => by
    rw [e] at h
    rcases h with h | h
    · exact ne0 h
    · exact nn h
  refine ⟨fun nm h => ?_, fun a c ha hc e => ?_, put_refs U.refs⟩
  · by_cases e : nm = r.nm
    · subst e
      rw [valV_put, if_pos rfl, if_pos rfl]
      refine ⟨rfl, ?_⟩
      rw [take_snoc hr, kids_snoc, kids_none g hr, if_neg (ab_ne g hr hr (Nat.le_refl i))]
      exact b _ _ (fun z => nl _ rp (by rw [← hp, z])) hl
    · have ho := old nm h e
      obtain ⟨u1, u2⟩ := U.at_ nm ho
      rw [valV_put, if_neg (fun z => e (Sum.inr.inj z)), if_neg e]
      refine ⟨u1, ?_⟩
      rw [take_snoc hr, kids_snoc]
      by_cases e2 : r.ab = nm
      · rw [if_pos e2, ← e2, ← hp, h2]
        simp
      · rw [if_neg e2, List.append_nil]
        exact b _ _ (fun z => e2 (U.inj _ _ rp ho (by rw [← hp, z]))) u2
  · by_cases ea : a = r.nm
    · by_cases ec : c = r.nm
      · rw [ea, ec]
      · simp only [if_pos ea, if_neg ec] at e
        exact absurd e.symm (nl c (old c hc ec))
    · by_cases ec : c = r.nm
      · simp only [if_neg ea, if_pos ec] at e
        exact absurd e (nl a (old a ha ea))
      · simp only [if_neg ea, if_neg ec] at e
        exact U.inj _ _ (old a ha ea) (old c hc ec) e
/-! ### the dues of a row over the written ones -/
theorem nk {x y : Str} (h : decide (x = y) = false) : ¬ (Sum.inr x : Key) = (Sum.inr y : Key) := fun e => of_decide_eq_false h (Sum.inr.inj e)
theorem valV_c (k1 k : Key) (v : V) (r : List (Key × V)) : valV ((k1, v) :: r) k = if k1 = k then some v else valV r k := by
  by_cases e : k1 = k
  · rw [if_pos e, valV_pos (p := (k1, v)) e]
  · rw [if_neg e, valV_neg (p := (k1, v)) e]
def dsOf (K : PySem.W.Frag) (av : V) (m : Int) : List (Key × V) := mergeK (plainK K) (mergeK [] [((Sum.inr "sets" : Key), av), ((Sum.inr "alone" : Key), .int m)])
theorem merge2 (av w : V) : mergeK [] [((Sum.inr "sets" : Key), av), ((Sum.inr "alone" : Key), w)] = [((Sum.inr "sets" : Key), av), ((Sum.inr "alone" : Key), w)] := by
  have n1 : ¬ (Sum.inr "sets" : Key) = (Sum.inr "alone" : Key) := by decide +kernel
  show putK (putK ([] : List (Key × V)) (Sum.inr ("sets" : Str)) av) (Sum.inr ("alone" : Str)) w = _
  rw [putK_new (kvs := ([] : List (Key × V))) av rfl, List.nil_append, putK_new w (by rw [valV_c, if_neg n1]; rfl)]
  rfl
theorem plain_len (K : PySem.W.Frag) : (plainK K).length = 8 := rfl
theorem due_ok {K : PySem.W.Frag} {H : Hp} {av : V} {a : Option (List Int)} {m : Int} (h : AskAt H av a) : DueOk H (dsOf K av m) a m := by
  have n1 : ¬ (Sum.inr "sets" : Key) = (Sum.inr "alone" : Key) := by decide +kernel
  have n2 : ¬ (Sum.inr "tops" : Key) = (Sum.inr "alone" : Key) := by decide +kernel
  have n3 : ¬ (Sum.inr "tops" : Key) = (Sum.inr "sets" : Key) := by decide +kernel
  have e : dsOf K av m = putK (putK (plainK K) (Sum.inr "sets") av) (Sum.inr "alone") (.int m) := by
    unfold dsOf
    rw [merge2]
    rfl
  have t : valV (plainK K) (Sum.inr "tops") = some (.str "endless") := by
    unfold plainK words plainV plainD
    simp only [List.map_cons, List.map_nil, List.zip_cons_cons, List.zip_nil_left]
    rw [valV_c, if_neg (nk (by decide +kernel)), valV_c, if_neg (nk (by decide +kernel)), valV_c, if_neg (nk (by decide +kernel)), valV_c, if_neg (nk (by decide +kernel)), valV_c, if_neg (nk (by decide +kernel)), valV_c, if_pos rfl]
    rfl
  rw [e]
  refine ⟨?_, ?_, av, ?_, h⟩
  · rw [valV_put, if_neg n2, valV_put, if_neg n3, t]
  · rw [valV_put, if_pos rfl]
  · rw [valV_put, if_neg n1, valV_put, if_pos rfl]
end Bd

namespace Bd
open PySem PySem.Spec PyProof.Rows L2
/-! ### set(list) -/
section
variable {P : Program} {w : World} {A : Around} {E : Value → Shared → Prop} {s : Shared}
/-- the fresh set's object -/
abbrev eS (w : World) : Obj := { cls := .type "set", dict := none, data := .set #[] 0 (.fresh 0 0 (!w.params.followText "set-order")) }
/-- what set.update's loop does to the set at S, over any walk of the items -/
def LoopDoes (P : Program) (w : World) (items : Array Value) (Fin : Heap → Addr → Prop) : Prop :=
  ∀ (A' : Around) (S I l : Addr) (St : Nat → Shared → Prop) (R : Result → Shared → Prop) (s0 : Shared), WalksS P w A'.in1 I [I, l] [I] (fun a b => b = a) items.size (fun i v => items[i]? = some v) St → S ∉ [I, l] → St 0 s0 → s0.heap.get? S = some (eS w) →
    (∀ s', Moved [S, I] (fun a b => b = a) s0 s' → Fin s'.heap S → R (.ok (.ret .none)) s') → codeAny (model P w) A' (.builtin "set.update.loop" ⟨[.ref S, .ref I], []⟩) R s0
theorem set_glue {l : Addr} {items : Array Value} {Fin : Heap → Addr → Prop} {Q : Value → Shared → Prop} (hh : A.handled = none) (hl : s.heap.IsList l items) (lp : LoopDoes P w items Fin)
    (h : ∀ (h' : Heap) (tk : Nat), Fin h' s.heap.objs.size → (∀ b o, s.heap.get? b = some o → h'.get? b = some o) → Q (.ref s.heap.objs.size) { s with heap := h', toks := tk }) :
    wpAny (model P w) A (call (.type "set") [.ref l]) Q E s := by
  obtain ⟨c, tl, hmro⟩ := F.called_set.mro
  have f1 := F.called_set.made
  have f2 := F.called_set.sub
  have f3 := F.called_set.notType
  have f4 := F.called_set.canCreate
  have f5 := F.typeCall_set_1 (.ref l)
  refine wpAny_call (codeAny_of_tree ?_)
  show wpAny _ _ (callAny (.type "set") _) _ _ _
  refine wpAny_pure ⟨Code.quiet_builtin _ (by decide +kernel), codeAny_builtin F.entry_type_call ?_⟩
  rw [Around.under_plain (weight_type_call_type "set" [.ref l] []) rfl]
  repeat (any_goals (first | assumption | wp_step))
  refine codeAny_mono (code_set_led1 (P := P) (w := w) (.ref l) (E := E) (Q₁ := fun obj s1 => obj = .ref s.heap.objs.size ∧ s1 = { s with heap := s.heap.push (eS w) }) ⟨rfl, rfl⟩) fun r s1 hr => ?_
  match r, hr with
  | .error e, hr => exact hr
  | .ok (.ret obj), hr =>
    obtain ⟨rfl, rfl⟩ := hr
    have g1 : (s.heap.push (eS w)).get? s.heap.objs.size = some (eS w) := Heap.get?_push_size _ rfl
    have hT : Shared.TypeIs { s with heap := s.heap.push (eS w) } (.ref s.heap.objs.size) "set" := ⟨_, g1, rfl⟩
    have f6 := F.called_set.init.lookup
    have f7 := F.called_set.init.bind (.ref s.heap.objs.size)
    repeat (any_goals (first | assumption | wp_step))
    refine codeAny_mono (codeAny_call_builtin (R := wants (fun r s2 => r = .none ∧ ∃ h' tk, s2 = { s with heap := h', toks := tk } ∧ Fin h' s.heap.objs.size ∧ ∀ b o, s.heap.get? b = some o → h'.get? b = some o) E)
      F.called_set.init.plain F.entry_set_init (check_set_init_1 hT ?_)) fun r2 s2 hr2 => ?_
    · obtain ⟨ol, hol, hcl, nl, hdl⟩ := hl
      obtain ⟨ocls, odict, odata, oslots⟩ := ol
      simp only at hcl hdl
      subst hcl hdl
      have k1 : (s.heap.push (eS w)).get? l = some { cls := .type "list", dict := odict, data := .seq items nl, slots := oslots } := Heap.get?_push_of_some _ hol
      have f8 := F.sub_list_set
      have f9 := F.sub_list_frozenset
      have f10 : (Value.type "list" == Value.type "dict") = false := by decide
      have k2 : (s.heap.push (eS w)).IsList l items := ⟨_, k1, rfl, nl, rfl⟩
      unfold Builtin.«set.__init__» noKeywords Builtin.Frozenset.updateFrom
      generalize hPI : pyIter = PI
      wp_walk
      subst hPI
      refine wpAny_pyIter_list k2 (wpAny_bind (wpAny_runValue ?_))
      have lt : l < s.heap.objs.size := Heap.lt_size hol
      have sz : (s.heap.push (eS w)).objs.size = s.heap.objs.size + 1 := Heap.size_push ..
      have hA : A.in1.in1.in1.handled = none := by simp [hh]
      have nI : l ≠ (s.heap.push (eS w)).objs.size := by rw [sz]; exact Nat.ne_of_lt (Nat.lt_succ_of_lt lt)
      have nS : s.heap.objs.size ∉ [(s.heap.push (eS w)).objs.size, l] := by
        rw [sz]
        intro z
        rcases List.mem_cons.mp z with z | z
        · exact Nat.ne_of_lt (Nat.lt_succ_self _) z
        · exact Nat.ne_of_gt lt (List.mem_singleton.mp z)
      refine lp _ s.heap.objs.size _ l _ _ _ ((Walks.list hA _ l nI items).toS) nS ⟨⟨_, Heap.get?_push_size _ rfl, rfl, rfl⟩, k2.push _⟩ (Heap.get?_push_of_some _ g1) fun s' hm hF => ?_
      obtain ⟨h', g2, d', tk', os'⟩ := s'
      obtain rfl : g2 = s.gens := hm.gens
      obtain rfl : d' = s.drawn := hm.drawn
      obtain rfl : os' = s.os := hm.os
      show wpAny _ _ _ _ _ _
      refine wpAny_pure ?_
      show wpAny _ _ (ret Value.none) _ _ _
      refine wpAny_pure ⟨rfl, h', tk', rfl, hF, fun b o e => ?_⟩
      have lb := Heap.lt_size e
      refine hm.heap b o (fun z => ?_) (Heap.get?_push_of_some _ (Heap.get?_push_of_some _ e))
      rcases List.mem_cons.mp z with z | z
      · exact Nat.ne_of_lt lb z
      · have z2 := List.mem_singleton.mp z
        rw [sz] at z2
        exact Nat.ne_of_lt (Nat.lt_succ_of_lt lb) z2
    · match r2, hr2 with
      | .error e, hr2 => exact hr2
      | .ok (.ret r), hr2 =>
        obtain ⟨rfl, h', tk, rfl, hF, hk⟩ := hr2
        repeat (any_goals (first | assumption | wp_step))
        exact h _ _ hF hk
      | .ok .next, hr2 => exact hr2.elim
      | .ok .brk, hr2 => exact hr2.elim
      | .ok .cont, hr2 => exact hr2.elim
  | .ok .next, hr => exact hr.elim
  | .ok .brk, hr => exact hr.elim
  | .ok .cont, hr => exact hr.elim
end
end Bd

namespace Bd
open PySem PySem.Spec PyProof.Rows L2
def memK (ks : List Key) (j : Key) : Bool := ks.any fun x => decide (x = j)
theorem memK_app (l : List Key) (k j : Key) : memK (l ++ [k]) j = (memK l j || decide (j = k)) := by
  unfold memK
  rw [List.any_append, List.any_cons, List.any_nil, Bool.or_false]
  congr 1
  by_cases e : j = k
  · rw [decide_eq_true e, decide_eq_true e.symm]
  · rw [decide_eq_false e, decide_eq_false (fun z => e z.symm)]
theorem memK_no {l : List Key} {k : Key} (h : k ∉ l) : memK l k = false := by
  unfold memK
  rw [List.any_eq_false]
  intro x hx
  rw [decide_eq_true_eq]
  intro e
  exact h (e ▸ hx)
section
variable {P : Program} {w : World} {A : Around} {E : Value → Shared → Prop} {s : Shared}
/-! ### ints, keys -/
theorem loop_ints {ns : List Int} {items : Array Value} (hi : IntsAre items.toList ns) (hb : ns.length + 1 < scanBound) : LoopDoes P w items (fun h S => ∃ c, c ≤ ns.length ∧ SetR w h S (fun j => decide (j ∈ ns)) c) := by
  intro A' S I l St R s0 W hS h0 hg hR
  have len : items.size = ns.length := by
    have := IntsAre.length hi
    rw [Array.length_toList] at this
    exact this
  refine set_update_ints W S hS ns len hb (fun i v hv => ?_) items.size 0 s0 (Nat.sub_zero _) (Nat.zero_le _) h0 ⟨0, Nat.le_refl 0, setR_new_at hg⟩ fun s' c hm hc h => hR s' hm ⟨c, by rw [← len]; exact hc, h⟩
  have lt : i < ns.length := by rw [← len]; exact (Array.getElem?_eq_some_iff.mp hv).1
  obtain ⟨t, e⟩ := IntsAre.int_at hi i v (by rw [Array.getElem?_toList]; exact hv)
  exact ⟨ns[i], t, List.getElem?_eq_getElem lt, by rw [e, List.getD_eq_getElem?_getD, List.getElem?_eq_getElem lt]; rfl⟩
/-- keys that differ -/
theorem loop_keys {ks : List Key} {items : Array Value} (hi : Vals (ks.map kV) items.toList) (hn : ks.Nodup) (hb : ks.length + 1 < scanBound) : LoopDoes P w items (fun h S => h.SetOf (mixKind P w) S (memK ks) ks.length) := by
  intro A' S I l St R s0 W hS h0 hg hR
  have len : items.size = ks.length := by
    have := hi.length
    rw [List.length_map, Array.length_toList] at this
    exact this.symm
  have nw : S ∉ [I] := fun z => hS (W.sub _ z)
  have sb : ∀ b ∈ [I], b ∈ [S, I] := fun b hb => List.mem_cons_of_mem _ hb
  have go : ∀ (k i : Nat) (s1 : Shared), ks.length - i = k → i ≤ ks.length → St i s1 → Moved [S, I] (fun a b => b = a) s0 s1 → s1.heap.SetOf (mixKind P w) S (memK (ks.take i)) i →
      codeAny (model P w) A' (.builtin "set.update.loop" ⟨[.ref S, .ref I], []⟩) R s1 := by
    intro k
    induction k with
    | zero =>
      intro i s1 hk hi2 st mv hS1
      have ei : i = ks.length := by omega
      subst ei
      refine codeAny_builtin F.entry_set_update_loop ?_
      rw [Around.under_plainId F.plain_set_update_loop _]
      show wpAny _ A'.in1 (pyNext (.ref I) >>= _) _ _ s1
      refine wpAny_bind (W.done s1 _ _ (by rw [len]; exact st) fun s2 hm => ?_)
      show wpAny _ A'.in1 (ret Value.none) _ _ s2
      rw [List.take_length] at hS1
      refine wpAny_pure (hR s2 (Moved.trans W.gtrans mv (hm.mono sb)) ?_)
      obtain ⟨o, es, ep, t, ho, r⟩ := hS1
      exact ⟨o, es, ep, t, hm.heap S _ nw ho, r⟩
    | succ k ih =>
      intro i s1 hk hi2 st mv hS1
      have lt : i < ks.length := by omega
      refine codeAny_builtin F.entry_set_update_loop ?_
      rw [Around.under_plainId F.plain_set_update_loop _]
      show wpAny _ A'.in1 (pyNext (.ref I) >>= _) _ _ s1
      refine wpAny_bind (W.item i s1 _ _ (by rw [len]; exact lt) st fun v s2 hP st2 hm => ?_)
      have ek : (ks.map kV)[i]? = some (kV ks[i]) := by rw [List.getElem?_map, List.getElem?_eq_getElem lt]; rfl
      obtain ⟨u, eu, ru⟩ := hi.get ek
      rw [Array.getElem?_toList, hP] at eu
      cases eu
      have hS2 : s2.heap.SetOf (mixKind P w) S (memK (ks.take i)) i := by
        obtain ⟨o, es, ep, t, ho, r⟩ := hS1
        exact ⟨o, es, ep, t, hm.heap S _ nw ho, r⟩
      show wpAny _ A'.in1 (holding [v] (setAdd S v) >>= _) _ _ s2
      refine wpAny_bind (wpAny_holding ?_)
      unfold setAdd
      refine wpAny_holding (wpAny_bind ((mixKind P w).pyHash (k := ks[i]) (kV_is ru) ?_))
      refine wpAny_setAddHashed_of (knd := mixKind P w) (s := { s2 with toks := s2.toks + 1 }) (kV_is ru) (key_scan ru) hS2 (by omega) fun h' hb2 hS3 => ?_
      have fresh : ks[i] ∉ ks.take i := fun z => by
        have e1 : ks = ks.take i ++ ks[i] :: ks.drop (i + 1) := by rw [List.getElem_cons_drop, List.take_append_drop]
        rw [e1] at hn
        exact (List.nodup_append.mp hn).2.2 _ z _ List.mem_cons_self rfl
      have et : ks.take (i + 1) = ks.take i ++ [ks[i]] := List.take_succ_eq_append_getElem lt
      have hS4 : h'.SetOf (mixKind P w) S (memK (ks.take (i + 1))) (i + 1) := by
        rw [memK_no fresh, if_neg (by decide)] at hS3
        have ef : memK (ks.take (i + 1)) = fun j => (memK (ks.take i) j || decide (j = ks[i])) := by
          funext j
          rw [et, memK_app]
        rw [ef]
        exact hS3
      refine wpAny_pure ⟨plainId_quiet F.plain_set_update_loop _, ih (i + 1) _ (by omega) lt (W.frame _ s2 _ _ st2 (Nat.le_succ _) fun b hb o e => ?_) ?_ hS4⟩
      · rw [hb2.2 b (fun h : b = S => hS (by rw [← h]; exact hb))]
        exact e
      · refine (Moved.trans W.gtrans mv (hm.mono sb)).then_heap (Nat.le_succ _) fun b o hb e => ?_
        rw [hb2.2 b (fun h : b = S => hb (by rw [h]; exact List.mem_cons_self))]
        exact e
  refine go ks.length 0 s0 (Nat.sub_zero _) (Nat.zero_le _) h0 ⟨fun b o _ e => e, rfl, rfl, rfl, Nat.le_refl _⟩ ?_
  refine ⟨_, #[], 0, _, hg, ⟨rfl, rfl, rfl⟩, rfl, (fun e he => by simp at he), (fun k => by simp [memK]), (by unfold scanBound; decide), (by rfl), rfl⟩
end
/-! ### the rules -/
section
variable {X : Cx}
theorem call_setI (hc : X.calm = true) : CallR X (.type "set") (fun xs H Q => ∃ (l : Addr) (ns : List Int), xs = [.ref l] ∧ SqL X.K H l (zI ns) ∧ ns.length ≤ 1000 ∧
    ∀ p c, H p = none → c ≤ ns.length → Q (.ref p) (upd H p (SetO X.w p (fun j => decide (j ∈ ns)) c))) := by
  intro pins s σ H xs us Q I r h
  obtain ⟨l, ns, rfl, hl, hz, q⟩ := h
  obtain ⟨u, rfl, rx⟩ := vals1 r
  cases rx
  obtain ⟨its, rv, pl, _⟩ := I.list hl
  refine set_glue (P := X.prog) (w := X.w) (I.ok.hd hc) pl.isList (loop_ints (intsAre_of rv) (by unfold scanBound; omega)) fun h' tk hF k => ?_
  obtain ⟨c, hc2, hS⟩ := hF
  exact ⟨.ref s.heap.objs.size, upd H s.heap.objs.size (SetO X.w s.heap.objs.size (fun j => decide (j ∈ ns)) c), I.laid (t' := tk) k (Nat.le_refl _) (setO_new hS), rfl, q _ c (I.hok.fresh (Nat.le_refl _)) hc2⟩
theorem call_setK (hc : X.calm = true) : CallR X (.type "set") (fun xs H Q => ∃ (l : Addr) (ks : List Key), xs = [.ref l] ∧ SqL X.K H l (ks.map kV) ∧ ks.Nodup ∧ ks.length ≤ 1000 ∧
    ∀ p, H p = none → Q (.ref p) (upd H p (SetK X.prog X.w p (memK ks) ks.length))) := by
  intro pins s σ H xs us Q I r h
  obtain ⟨l, ks, rfl, hl, hn, hz, q⟩ := h
  obtain ⟨u, rfl, rx⟩ := vals1 r
  cases rx
  obtain ⟨its, rv, pl, _⟩ := I.list hl
  refine set_glue (P := X.prog) (w := X.w) (I.ok.hd hc) pl.isList (loop_keys rv hn (by unfold scanBound; omega)) fun h' tk hF k => ?_
  exact ⟨.ref s.heap.objs.size, upd H s.heap.objs.size (SetK X.prog X.w s.heap.objs.size (memK ks) ks.length), I.laid (t' := tk) k (Nat.le_refl _) (setK_new hF), rfl, q _ (I.hok.fresh (Nat.le_refl _))⟩
/-- len of a set of keys -/
theorem call_lenS : CallR X (.builtin "len") (fun xs H Q => ∃ (a : Addr) (S : Key → Bool) (n : Nat), xs = [.ref a] ∧ H a = some (SetK X.prog X.w a S n) ∧ n ≤ 1000 ∧ Q (.int n) H) := by
  intro pins s σ H xs us Q I r h
  obtain ⟨a, S, n, rfl, ha, hz, q⟩ := h
  obtain ⟨u, rfl, rx⟩ := vals1 r
  cases rx
  obtain ⟨o, es, ep, t, ho, hex, hd, _, _, _, hf, hn⟩ := setK_get I ha
  exact call_len_set ho hex hd hf (by rw [hn]; omega) ⟨.int n, H, I.tok _, ⟨_, by rw [hn]⟩, q⟩
end
end Bd

namespace Bd
open PySem PySem.Spec PyProof.Rows L2
section
variable {P : Program} {w : World} {K : PySem.W.Frag} {mg : Str → Option Value} {base : Heap}
/-! ### is_whole, is_name, is_endless, is_set -/
def spWhole : Sp := fun vs H Q _ => ∃ n : Int, vs = [.int n] ∧ Q (.bl true) H
theorem ok_is_whole (Z : Zs w K mg) (D : At K mg "is_whole" s_is_whole) : Cal P w K mg base "is_whole" 1 ["thing"] spWhole := by
  refine mk_cal D sc_is_whole (fun _ _ _ _ _ _ us hl => match us, hl with | [_], _ => rfl) (fun vs H Q E h => ?_) (fun f cdv A outer s H vs Q E hr h => ?_)
  · obtain ⟨n, rfl, _⟩ := h
    rfl
  · obtain ⟨n, rfl, q⟩ := h
    refine ⟨_, (pss_one (ps_ret (pe_and (pe_callB (r := rIsi K) call_isi rfl Z.isinstance (by decide +kernel) (pa_cons (pv 0) (pa_cons (pe_bltn (v := .ty "int") rfl Z.int (by decide +kernel) rfl) pa_nil))) (pe_one (pe_not (pe_callB (r := rIsi K) call_isi rfl Z.isinstance (by decide +kernel) (pa_cons (pv 0) (pa_cons (pe_bltn (v := .ty "bool") rfl Z.bool (by decide +kernel) rfl) pa_nil)))))))), ?_⟩
    refine ⟨_, rfl, _, _, _, _, true, rfl, .ty _, .base (.int n), kit_ty (by decide +kernel), true, rfl, iteT ?_⟩
    exact ⟨_, rfl, _, _, _, _, false, rfl, .ty _, .base (.int n), kit_ty (by decide +kernel), false, rfl, q⟩
def spName : Sp := fun vs H Q _ => ∃ x : Str, vs = [.str x] ∧ okName x ∧ ∀ H', Same H H' → Q (.bl true) H'
theorem ok_is_name (Z : Zs w K mg) (D : At K mg "is_name" s_is_name) : Cal P w K mg base "is_name" 1 ["thing"] spName := by
  refine mk_cal D sc_is_name (fun _ _ _ _ _ _ us hl => match us, hl with | [_], _ => rfl) (fun vs H Q E h => ?_) (fun f cdv A outer s H vs Q E hr h => ?_)
  · obtain ⟨n, rfl, _⟩ := h
    rfl
  · obtain ⟨x, rfl, ⟨l1, l2, lc⟩, q⟩ := h
    refine ⟨_, (pss_one (ps_ret (pe_and (pe_callB (r := rIsi K) call_isi rfl Z.isinstance (by decide +kernel) (pa_cons (pv 0) (pa_cons (pe_bltn (v := .ty "str") rfl Z.str (by decide +kernel) rfl) pa_nil))) (pe_and (pe_chain op_le op_le pe_int (pe_callB call_len_str rfl Z.len (by decide +kernel) (pa_cons (pv 0) pa_nil)) pe_int) (pe_one (pe_callB (r := rAll K) (cr_all rfl) rfl Z.all (by decide +kernel) (pa_cons (pe_lc (own := [("sign", 1)]) rfl sc_is_name.nd (pi_str (pv 0)) (blkOk_by (own := [("sign", 1)]) (N := N_is_name) (sc := defScope s_is_name) (by decide +kernel)) (fun _ _ _ _ _ => (pg_name (i := 1) sc_is_name.nd rfl (.inl rfl))) (fun _ _ _ _ _ => pts_nil) (fun _ _ _ _ _ => (pe_cmpR op_in_sign (pv 1) (pe_gl rfl Z.mLETTERS) rfl))) pa_nil))))))), ?_⟩
    refine ⟨_, rfl, _, _, _, _, true, rfl, .ty _, .base (.str x), kit_ty (by decide +kernel), true, rfl, iteT ?_⟩
    refine ⟨_, rfl, x, rfl, line100 (by omega), _, _, rfl, rfl, true, ?_, iteT ⟨_, _, rfl, rfl, true, ?_, iteT ?_⟩⟩
    · exact congrArg V.bl (decide_eq_true (by omega))
    · exact congrArg V.bl (decide_eq_true (by omega))
    · refine ⟨_, rfl, x, rfl, fun D nD => lc_val (n := x.cps.size) x.cps.toList (by simp) walk_str (fun c => some (.bl (decide (c ∈ ("abcdefghijklmnopqrstuvwxyz" : Str).cps.toList)))) nD (by have : x.cps.size = x.length := rfl; exact small1000 (by omega)) (fun _ _ => trivial) (fun i c v H H' Yes No hc s1 y yes no => ?_) (fun H1 s1 e => ?_)⟩
      · obtain ⟨rfl, c', hc', rfl⟩ := y
        have ec : c = c' := by
          rw [Array.getElem?_toList, hc'] at hc
          exact (Option.some.inj hc).symm
        subst ec
        refine ⟨rfl, yes_ (iteT ?_)⟩
        exact ⟨_, rfl, c, _, rfl, rfl, yes _ _ rfl (Same.refl _)⟩
      · rw [fm_bl] at e
        refine ⟨D, _, rfl, SqL.of e, ?_⟩
        rw [all_map, List.all_eq_true.mpr fun c hc => decide_eq_true (lc c hc)]
        exact q _ s1
def spEndless : Sp := fun vs H Q _ => vs = [.str "endless"] ∧ Q (.bl true) H
theorem ok_is_endless (Z : Zs w K mg) (D : At K mg "is_endless" s_is_endless) : Cal P w K mg base "is_endless" 1 ["thing"] spEndless := by
  refine mk_cal D sc_is_endless (fun _ _ _ _ _ _ us hl => match us, hl with | [_], _ => rfl) (fun vs H Q E h => ?_) (fun f cdv A outer s H vs Q E hr h => ?_)
  · obtain ⟨rfl, _⟩ := h
    rfl
  · obtain ⟨rfl, q⟩ := h
    refine ⟨_, (pss_one (ps_ret (pe_and (pe_callB (r := rIsi K) call_isi rfl Z.isinstance (by decide +kernel) (pa_cons (pv 0) (pa_cons (pe_bltn (v := .ty "str") rfl Z.str (by decide +kernel) rfl) pa_nil))) (pe_one (pe_cmpR op_eq (pv 0) (pe_gl rfl Z.mENDLESS) (nomark _)))))), ?_⟩
    refine ⟨_, rfl, _, _, _, _, true, rfl, .ty _, .base (.str _), kit_ty (by decide +kernel), true, rfl, iteT ?_⟩
    refine ⟨_, rfl, rfl, ?_⟩
    have e : decide (V.str ("endless" : Str) = V.str ("endless" : Str)) = true := decide_eq_true rfl
    show Q (V.bl (decide (V.str ("endless" : Str) = V.str ("endless" : Str)))) H
    rw [e]
    exact q
def spSet : Sp := fun vs H Q _ => ∃ (p : Addr) (xs : List Int), vs = [.ref p] ∧ H p = some (.tup (zI xs)) ∧ GoodS xs ∧ ∀ H', Same H H' → Q (.bl true) H'
theorem ok_is_set (Z : Zs w K mg) (D : At K mg "is_set" s_is_set) (Cis_whole : Cal P w K mg base "is_whole" 1 ["thing"] spWhole) : Cal P w K mg base "is_set" 2 ["thing"] spSet := by
  refine mk_cal D sc_is_set (fun _ _ _ _ _ _ us hl => match us, hl with | [_], _ => rfl) (fun vs H Q E h => ?_) (fun f cdv A outer s H vs Q E hr h => ?_)
  · obtain ⟨p, xs, rfl, _⟩ := h
    rfl
  · obtain ⟨p, xs, rfl, hp, g, q⟩ := h
    have l64 := g.len
    refine ⟨_, (pss_cons (ps_if (PW.pt (pw_or (pt_not (pt_val (pe_callB (r := rIsi K) call_isi rfl Z.isinstance (by decide +kernel) (pa_cons (pv 0) (pa_cons (pe_bltn (v := .ty "tuple") rfl Z.tuple (by decide +kernel) rfl) pa_nil))))) (pw_or1 (pt_not (pt_val (pe_callB (r := rAll K) (cr_all rfl) rfl Z.all (by decide +kernel) (pa_cons (pe_lc (own := [("one", 1)]) rfl sc_is_set.nd (pi_tup (pv 0)) (blkOk_by (own := [("one", 1)]) (N := N_is_set) (sc := defScope s_is_set) (by decide +kernel)) (fun _ _ _ _ _ => (pg_name (i := 1) sc_is_set.nd rfl (.inl rfl))) (fun _ _ _ _ _ => pts_nil) (fun _ _ _ _ _ => (pe_and (pe_cal Cis_whole (hr.mono (by decide)) rfl (pa_cons (pv 1) pa_nil)) (pe_one (pe_chain op_le op_le pe_int (pv 1) (pe_gl rfl Z.mMOST_PLACE)))))) pa_nil))))))) (pss_one (ps_ret pe_bl)) pss_nil)
  (pss_one (ps_ret (pe_callB (r := rAll K) (cr_all rfl) rfl Z.all (by decide +kernel) (pa_cons (pe_lc (own := [("one", 1), ("other", 2)]) (g := gTup K 2 (gCons (gName 1) (gCons (gName 2) gNil))) rfl sc_is_set.nd (RZ.pi_zipA rfl Z.zip (pa_cons (pv 0) (pa_cons (pe_slice (r := rSlA K) sl_tupA (pv 0) (po_some pe_int) po_none) pa_nil))) (blkOk_by (own := [("one", 1), ("other", 2)]) (N := N_is_set) (sc := defScope s_is_set) (by decide +kernel)) (fun _ _ _ _ _ => (pg_tup rfl (pgs_cons (pg_name (i := 1) sc_is_set.nd rfl (.inl rfl)) (pgs_cons (pg_name (i := 2) sc_is_set.nd rfl (.inl rfl)) pgs_nil)))) (fun _ _ _ _ _ => pts_nil) (fun _ _ _ _ _ => (pe_cmpR op_lt (pv 1) (pv 2) (nomark _)))) pa_nil))))), ?_⟩
    refine ⟨_, rfl, _, _, _, _, true, rfl, .ty _, .base (.tup hp), kit_ty (by decide +kernel), true, rfl, iteF ?_⟩
    refine ⟨_, rfl, p, rfl, ⟨_, SqT.of hp⟩, fun D nD => lc_val (n := (zI xs).length) xs (by simp) walk_tup (fun c => some (.bl true)) nD (by rw [List.length_map]; exact small1000 (by omega)) (fun H1 s1 => SqT.of (s1 _ _ hp)) (fun i c v H' H2 Yes No hc s1 y yes no => ?_) (fun H1 s1 e => ?_)⟩
    · obtain ⟨rfl, hv⟩ := y
      rw [List.getElem?_map, hc] at hv
      cases hv
      have b := g.bd c (List.mem_of_getElem? hc)
      refine ⟨rfl, yes_ (iteT ?_)⟩
      refine ⟨_, rfl, c, rfl, true, rfl, iteT ?_⟩
      refine ⟨_, rfl, 0, c, rfl, rfl, true, congrArg V.bl (decide_eq_true b.1), iteT ⟨c, 63, rfl, rfl, ?_⟩⟩
      exact yes _ _ (congrArg (fun b => some (V.bl b)) (decide_eq_true b.2).symm) (Same.refl _)
    · have e1 : H1 D = some (.lst ((xs.map fun _ => true).map V.bl)) := by rw [← fm_bl]; exact e
      refine ⟨D, _, rfl, SqL.of e1, _, rfl, ?_⟩
      rw [all_map, List.all_eq_true.mpr fun c _ => rfl]
      refine iteF ?_
      refine ⟨_, rfl, _, rfl, _, rfl, ?_⟩
      refine no_part ?_
      refine sl_any (lo := some ((1 : Nat) : Int)) (s1 _ _ hp) fun p2 H2 s2 h2 => ?_
      rw [cut_from] at h2
      have lm : min (zI xs).length ((zI xs).drop 1).length = xs.length - 1 := by
        rw [List.length_drop, List.length_map]
        omega
      refine ⟨p, p2, zI xs, (zI xs).drop 1, rfl, .inr ⟨SqT.of (s2 _ _ (s1 _ _ hp)), SqT.of h2, fun D2 nD2 => lc_val (n := xs.length - 1) (List.range (xs.length - 1)) (by simp) (walk_zipT lm.symm) (fun _ => some (.bl true)) nD2 (small1000 (by omega)) (fun H3 s3 => ⟨SqT.of (s3 _ _ (s2 _ _ (s1 _ _ hp))), SqT.of (s3 _ _ h2)⟩) (fun i c v H' H3 Yes No hc s3 y yes no => ?_) (fun H3 s3 e3 => ?_)⟩⟩
      · obtain ⟨T, x, y, rfl, nT, rfl, ex, ey⟩ := y
        have sT := Same.new (o := HO.tup [x, y]) nT
        replace ex : (zI xs)[i]? = some x := ex
        replace ey : ((zI xs).drop 1)[i]? = some y := ey
        rw [List.getElem?_drop, List.getElem?_map] at ey
        rw [List.getElem?_map] at ex
        cases h1 : xs[i]? with
        | none => rw [h1] at ex; cases ex
        | some a =>
          cases h2 : xs[1 + i]? with
          | none => rw [h2] at ey; cases ey
          | some b =>
            rw [h1] at ex
            rw [h2] at ey
            cases ex
            cases ey
            have lt : a < b := List.pairwise_iff_getElem.mp g.ris i (1 + i) (List.getElem?_eq_some_iff.mp h1).1 (List.getElem?_eq_some_iff.mp h2).1 (by omega) |> fun z => by
              rw [(List.getElem?_eq_some_iff.mp h1).2, (List.getElem?_eq_some_iff.mp h2).2] at z
              exact z
            refine ⟨T, _, rfl, SqT.of upd_same, rfl, _, _, rfl, _, _, rfl, rfl, rfl, yes_ (iteT ?_)⟩
            refine ⟨_, rfl, _, rfl, a, b, rfl, rfl, ?_⟩
            exact yes _ _ (congrArg (fun b => some (V.bl b)) (decide_eq_true lt).symm) sT
      · have e4 : H3 D2 = some (.lst (((List.range (xs.length - 1)).map fun _ => true).map V.bl)) := by rw [← fm_bl]; exact e3
        refine ⟨D2, _, rfl, SqL.of e4, ?_⟩
        rw [all_map, List.all_eq_true.mpr fun c _ => rfl]
        exact q _ (Same.trans s1 (Same.trans s2 s3))
end
end Bd

local macro_rules | `(tactic| walk_at "new") => `(tactic| (intro p np; generalize e : L2.upd _ p _ = H1; have s1 := Bd.same_of e np; have h1 := Bd.at_of_ e; clear e))
local macro_rules | `(tactic| walk_at "put") => `(tactic| (generalize e : L2.upd _ _ _ = H1; have b1 := Bd.but_of e; have h1 := Bd.at_of_ e; clear e))
namespace Bd
open PySem PySem.Spec PyProof.Rows L2
section
variable {P : Program} {w : World} {K : PySem.W.Frag} {mg : Str → Option Value} {base : Heap}
/-! ### fits, are_dues, is_row -/
def GoodA (a : Option (List Int)) : Prop := ∀ xs, a = some xs → GoodS xs
def spFits : Sp := fun vs H Q _ => ∃ (wd : Str) (v : V), vs = [.str wd, v] ∧ ((wd = "sets" ∧ ∃ a, AskAt H v a ∧ GoodA a) ∨ (wd = "alone" ∧ ∃ m : Int, v = .int m ∧ (m = 0 ∨ m = 1))) ∧ ∀ H', Same H H' → Q (.bl true) H'
theorem ok_fits (Z : Zs w K mg) (D : At K mg "fits" s_fits) (Cis_whole : Cal P w K mg base "is_whole" 1 ["thing"] spWhole) (Cis_set : Cal P w K mg base "is_set" 2 ["thing"] spSet) : Cal P w K mg base "fits" 3 ["word", "value"] spFits := by
  refine mk_cal D sc_fits (fun _ _ _ _ _ _ us hl => match us, hl with | [_, _], _ => rfl) (fun vs H Q E h => ?_) (fun f cdv A outer s H vs Q E hr h => ?_)
  · obtain ⟨p, xs, rfl, _⟩ := h
    rfl
  · obtain ⟨wd, v, rfl, hw, q⟩ := h
    refine ⟨_, (pss_cons (ps_if (pt_cmpR (r := rIn K false) op_in_seq (pv 0) (pe_tup (pa_cons pe_str (pa_cons pe_str (pa_cons pe_str pa_nil)))) rfl) (pss_one ps_never) pss_nil)
  (pss_cons (ps_if (pt_cmpR (r := rIn K false) op_in_seq (pv 0) (pe_tup (pa_cons pe_str (pa_cons pe_str (pa_cons pe_str pa_nil)))) rfl) (pss_one ps_never) pss_nil)
  (pss_cons (ps_if (pt_cmpR op_eq (pv 0) pe_str (nomark _)) (pss_one (ps_ret (pe_or (pe_cmpR op_isN (pv 1) pe_non (nomark _)) (pe_one (pe_cal Cis_set (hr.mono (by decide)) rfl (pa_cons (pv 1) pa_nil)))))) pss_nil)
  (pss_one (ps_ret (pe_and (pe_cal Cis_whole (hr.mono (by decide)) rfl (pa_cons (pv 1) pa_nil)) (pe_one (pe_cmpR (r := rIn K false) op_in_seq (pv 1) (pe_tup (pa_cons pe_int (pa_cons pe_int pa_nil))) rfl)))))))), ?_⟩
    rcases hw with ⟨rfl, a, ha, ga⟩ | ⟨rfl, m, rfl, hm⟩
    · refine ⟨_, rfl, line100 (by show 3 ≤ 1000; decide), ?_⟩
      walk_at "new"; rename_i p1 n1 H1 s1 h1
      refine ⟨_, _, rfl, .inr (SqT.of h1), rfl, rfl, false, congrArg V.bl (by decide +kernel), iteF ?_⟩
      refine ⟨_, rfl, line100 (by show 3 ≤ 1000; decide), ?_⟩
      walk_at "new"; rename_i p2 n2 H2 s2 h2
      refine ⟨_, _, rfl, .inr (SqT.of h2), rfl, rfl, false, congrArg V.bl (by decide +kernel), iteF ?_⟩
      refine ⟨_, rfl, rfl, true, congrArg V.bl (decide_eq_true rfl), iteT ?_⟩
      have s12 := Same.trans s1 s2
      cases a with
      | none =>
        cases (show v = .non from ha)
        exact ⟨_, rfl, rfl, true, rfl, iteT (q _ s12)⟩
      | some xs =>
        obtain ⟨p, rfl, hp⟩ := ha
        refine ⟨_, rfl, rfl, false, rfl, iteF ?_⟩
        exact ⟨_, rfl, p, xs, rfl, s12 _ _ hp, ga xs rfl, fun H' s' => q _ (Same.trans s12 s')⟩
    · refine ⟨_, rfl, line100 (by show 3 ≤ 1000; decide), ?_⟩
      walk_at "new"; rename_i p1 n1 H1 s1 h1
      refine ⟨_, _, rfl, .inr (SqT.of h1), rfl, rfl, false, congrArg V.bl (by decide +kernel), iteF ?_⟩
      refine ⟨_, rfl, line100 (by show 3 ≤ 1000; decide), ?_⟩
      walk_at "new"; rename_i p2 n2 H2 s2 h2
      refine ⟨_, _, rfl, .inr (SqT.of h2), rfl, rfl, false, congrArg V.bl (by decide +kernel), iteF ?_⟩
      refine ⟨_, rfl, rfl, false, congrArg V.bl (by decide +kernel), iteF ?_⟩
      refine ⟨_, rfl, m, rfl, true, rfl, iteT ?_⟩
      refine ⟨_, rfl, line100 (by show 2 ≤ 1000; decide), ?_⟩
      walk_at "new"; rename_i p3 n3 H3 s3 h3
      refine ⟨_, _, rfl, .inr (SqT.of h3), rfl, rfl, ?_⟩
      rcases hm with rfl | rfl
      · exact q _ (Same.trans s1 (Same.trans s2 s3))
      · exact q _ (Same.trans s1 (Same.trans s2 s3))
def FitsOk (H : Hp) (wd : Str) (v : V) : Prop := (wd = "sets" ∧ ∃ a, AskAt H v a ∧ GoodA a) ∨ (wd = "alone" ∧ ∃ m : Int, v = .int m ∧ (m = 0 ∨ m = 1))
theorem FitsOk.stay {H H' : Hp} {wd : Str} {v : V} (h : FitsOk H wd v) (s : Stay H H') : FitsOk H' wd v := by
  rcases h with ⟨e, a, h, g⟩ | h
  · exact .inl ⟨e, a, h.stay s, g⟩
  · exact .inr h
theorem FitsOk.word {H : Hp} {wd : Str} {v : V} (h : FitsOk H wd v) : inV (.str wd) (zS words) = true := by
  rcases h with ⟨rfl, _⟩ | ⟨rfl, _⟩ <;> decide +kernel
def spDues : Sp := fun vs H Q _ => ∃ (d : Addr) (a : Option (List Int)) (m : Int), vs = [.ref d] ∧ DuesAt H d a m ∧ GoodA a ∧ (m = 0 ∨ m = 1) ∧ ∀ H', Same H H' → Q (.bl true) H'
theorem ok_are_dues (Z : Zs w K mg) (D : At K mg "are_dues" s_are_dues) (Cfits : Cal P w K mg base "fits" 3 ["word", "value"] spFits) : Cal P w K mg base "are_dues" 4 ["thing"] spDues := by
  refine mk_cal D sc_are_dues (fun _ _ _ _ _ _ us hl => match us, hl with | [_], _ => rfl) (fun vs H Q E h => ?_) (fun f cdv A outer s H vs Q E hr h => ?_)
  · obtain ⟨p, a, m, rfl, _⟩ := h
    rfl
  · obtain ⟨d, a, m, rfl, hd, ga, hm, q⟩ := h
    obtain ⟨o, d1, d2, av, h1, hc, hn, h2, h3, h4⟩ := hd.ex
    refine ⟨_, (pss_cons (ps_if (PW.pt (pw_or (pt_not (pt_val (pe_callB (r := rIsi K) call_isi rfl Z.isinstance (by decide +kernel) (pa_cons (pv 0) (pa_cons (pe_bltn (v := .ty "tuple") rfl Z.tuple (by decide +kernel) rfl) pa_nil))))) (pw_or1 (pt_not (pt_val (pe_callB (r := rAll K) (cr_all rfl) rfl Z.all (by decide +kernel) (pa_cons (pe_lc (own := [("one", 1)]) rfl sc_are_dues.nd (pi_tup (pv 0)) (blkOk_by (own := [("one", 1)]) (N := N_are_dues) (sc := defScope s_are_dues) (by decide +kernel)) (fun _ _ _ _ _ => (pg_name (i := 1) sc_are_dues.nd rfl (.inl rfl))) (fun _ _ _ _ _ => pts_nil) (fun _ _ _ _ _ => (pe_and (pe_callB (r := rIsi K) call_isi rfl Z.isinstance (by decide +kernel) (pa_cons (pv 1) (pa_cons (pe_bltn (v := .ty "tuple") rfl Z.tuple (by decide +kernel) rfl) pa_nil))) (pe_one (pe_cmpR op_eq (pe_callB (r := rLenS K) call_len_seq rfl Z.len (by decide +kernel) (pa_cons (pv 1) pa_nil)) pe_int (nomark _)))))) pa_nil))))))) (pss_one (ps_ret pe_bl)) pss_nil)
  (pss_cons (ps_if (pt_not (pt_val (pe_callB (r := rAll K) (cr_all rfl) rfl Z.all (by decide +kernel) (pa_cons (pe_lc (own := [("one", 1)]) rfl sc_are_dues.nd (pi_tup (pv 0)) (blkOk_by (own := [("one", 1)]) (N := N_are_dues) (sc := defScope s_are_dues) (by decide +kernel)) (fun _ _ _ _ _ => (pg_name (i := 1) sc_are_dues.nd rfl (.inl rfl))) (fun _ _ _ _ _ => pts_nil) (fun _ _ _ _ _ => (pe_and (pe_callB (r := rIsi K) call_isi rfl Z.isinstance (by decide +kernel) (pa_cons (pe_ix (r := rIxT K) ix_tup (pv 1) pe_int (fun _ _ => rfl)) (pa_cons (pe_bltn (v := .ty "str") rfl Z.str (by decide +kernel) rfl) pa_nil))) (pe_and (pe_cmpR (r := rIn K false) op_in_seq (pe_ix (r := rIxT K) ix_tup (pv 1) pe_int (fun _ _ => rfl)) (pe_gl rfl Z.mWORDS) rfl) (pe_one (pe_cal Cfits (hr.mono (by decide)) rfl (pa_cons (pe_ix (r := rIxT K) ix_tup (pv 1) pe_int (fun _ _ => rfl)) (pa_cons (pe_ix (r := rIxT K) ix_tup (pv 1) pe_int (fun _ _ => rfl)) pa_nil)))))))) pa_nil)))) (pss_one (ps_ret pe_bl)) pss_nil)
  (pss_one (ps_ret (pe_cmpR op_eq (pe_callB call_lenS rfl Z.len (by decide +kernel) (pa_cons (pe_callTy (call_setK rfl) rfl Z.set (by decide +kernel) (pa_cons (pe_lc (own := [("one", 1)]) rfl sc_are_dues.nd (pi_tup (pv 0)) (blkOk_by (own := [("one", 1)]) (N := N_are_dues) (sc := defScope s_are_dues) (by decide +kernel)) (fun _ _ _ _ _ => (pg_name (i := 1) sc_are_dues.nd rfl (.inl rfl))) (fun _ _ _ _ _ => pts_nil) (fun _ _ _ _ _ => (pe_ix (r := rIxT K) ix_tup (pv 1) pe_int (fun _ _ => rfl)))) pa_nil)) pa_nil)) (pe_callB (r := rLenS K) call_len_seq rfl Z.len (by decide +kernel) (pa_cons (pv 0) pa_nil)) (nomark _)))))), ?_⟩
    -- the pairs
    obtain ⟨ps, eps⟩ : ∃ ps : List (Addr × Str × V), ps = [(d1, (("sets" : Str), av)), (d2, (("alone" : Str), .int m))] := ⟨_, rfl⟩
    have h1' : H d = some (.frz o (.tup (ps.map fun p => V.ref p.1))) := by rw [eps]; exact h1
    have hps : ∀ p ∈ ps, H p.1 = some (.tup [.str p.2.1, p.2.2]) ∧ FitsOk H p.2.1 p.2.2 := by
      rw [eps]
      intro p hp
      rcases List.mem_cons.mp hp with rfl | hp
      · exact ⟨h2, .inl ⟨rfl, a, h4, ga⟩⟩
      · obtain rfl := List.mem_singleton.mp hp
        exact ⟨h3, .inr ⟨rfl, m, rfl, hm⟩⟩
    have l2 : ps.length = 2 := by rw [eps]; rfl
    have nd : (ps.map fun p => (Sum.inr p.2.1 : Key)).Nodup := by rw [eps]; exact (by decide +kernel : ([Sum.inr ("sets" : Str), Sum.inr ("alone" : Str)] : List Key).Nodup)
    clear eps
    have sq : ∀ H', Same H H' → SqT K H' d (ps.map fun p => V.ref p.1) := fun H' s' => .inl (.inr ⟨o, s' _ _ h1'⟩)
    have lz : (ps.map fun p => V.ref p.1).length < sizeLine := by rw [List.length_map]; exact small1000 (by omega)
    have item : ∀ {i : Nat} {p : Addr × Str × V} {v : V}, ps[i]? = some p → (ps.map fun p => V.ref p.1)[i]? = some v → v = .ref p.1 := fun e1 e2 => by
      rw [List.getElem?_map, e1] at e2
      exact (Option.some.inj e2).symm
    refine ⟨_, rfl, _, _, _, _, true, rfl, .ty _, .fTuple h1', kit_ty (by decide +kernel), true, rfl, iteF ?_⟩
    refine ⟨_, rfl, d, rfl, ⟨_, sq H (Same.refl H)⟩, fun D nD => lc_val ps (by simp) walk_tup (fun c => some (.bl true)) nD lz sq (fun i p v H' H2 Yes No hc s1 y yes no => ?_) (fun H1 s1 e => ?_)⟩
    · obtain ⟨rfl, hv⟩ := y
      obtain rfl := item hc hv
      obtain ⟨g1, g2⟩ := hps p (List.mem_of_getElem? hc)
      refine ⟨rfl, yes_ (iteT ?_)⟩
      refine ⟨_, rfl, _, _, _, _, true, rfl, .ty _, .base (.tup (s1 _ _ g1)), kit_ty (by decide +kernel), true, rfl, iteT ?_⟩
      refine ⟨_, rfl, _, _, rfl, .inr (SqT.of (s1 _ _ g1)), rfl, ?_⟩
      exact yes _ _ (congrArg (fun b => some (V.bl b)) (decide_eq_true rfl).symm) (Same.refl _)
    · have e1 : H1 D = some (.lst ((ps.map fun _ => true).map V.bl)) := by rw [← fm_bl]; exact e
      refine ⟨D, _, rfl, SqL.of e1, _, rfl, ?_⟩
      rw [all_map, List.all_eq_true.mpr fun c _ => rfl]
      refine iteF ?_
      refine ⟨_, rfl, d, rfl, ⟨_, sq H1 s1⟩, fun D2 nD2 => lc_val ps (by simp) walk_tup (fun c => some (.bl true)) nD2 lz (fun H2 s2 => sq H2 (Same.trans s1 s2)) (fun i p v H' H2 Yes No hc s2 y yes no => ?_) (fun H2 s2 e2 => ?_)⟩
      · obtain ⟨rfl, hv⟩ := y
        obtain rfl := item hc hv
        obtain ⟨g1, g2⟩ := hps p (List.mem_of_getElem? hc)
        have s12 := Same.trans s1 s2
        have t1 : SqT K H2 p.1 [.str p.2.1, p.2.2] := SqT.of (s12 _ _ g1)
        refine ⟨rfl, yes_ (iteT ?_)⟩
        refine ⟨_, rfl, _, _, _, _, rfl, rfl, t1, rfl, _, _, _, _, true, rfl, .ty _, .base (.str _), kit_ty (by decide +kernel), true, rfl, iteT ?_⟩
        refine ⟨_, rfl, _, _, _, _, rfl, rfl, t1, rfl, _, _, rfl, .inr (Z.words H2), rfl, by decide +kernel, true, congrArg V.bl g2.word, iteT ?_⟩
        refine ⟨_, rfl, _, _, _, _, rfl, rfl, t1, rfl, _, rfl, _, _, _, _, rfl, rfl, t1, rfl, ?_⟩
        exact ⟨p.2.1, p.2.2, rfl, g2.stay (Same.stay s12), fun H3 s3 => yes _ _ rfl s3⟩
      · have e3 : H2 D2 = some (.lst ((ps.map fun _ => true).map V.bl)) := by rw [← fm_bl]; exact e2
        refine ⟨D2, _, rfl, SqL.of e3, _, rfl, ?_⟩
        rw [all_map, List.all_eq_true.mpr fun c _ => rfl]
        refine iteF ?_
        have s12 := Same.trans s1 s2
        refine ⟨_, rfl, d, rfl, ⟨_, sq H2 s12⟩, fun D3 nD3 => lc_val ps (by simp) walk_tup (fun c => some (.str c.2.1)) nD3 lz (fun H3 s3 => sq H3 (Same.trans s12 s3)) (fun i p v H' H3 Yes No hc s3 y yes no => ?_) (fun H3 s3 e4 => ?_)⟩
        · obtain ⟨rfl, hv⟩ := y
          obtain rfl := item hc hv
          obtain ⟨g1, g2⟩ := hps p (List.mem_of_getElem? hc)
          refine ⟨rfl, yes_ (iteT ?_)⟩
          refine ⟨_, rfl, _, _, _, _, rfl, rfl, SqT.of (Same.trans s12 s3 _ _ g1), rfl, ?_⟩
          exact yes _ _ rfl (Same.refl _)
        · have e5 : H3 D3 = some (.lst ((ps.map fun p => (Sum.inr p.2.1 : Key)).map kV)) := by
            rw [e4, fm_some, List.map_map]
            rfl
          refine ⟨D3, _, rfl, SqL.of e5, nd, by rw [List.length_map]; omega, ?_⟩
          walk_at "new"; rename_i S nS H4 s4 h5
          refine ⟨S, _, _, rfl, h5, by rw [List.length_map]; omega, ?_⟩
          refine ⟨_, rfl, _, _, rfl, .inr (sq H4 (Same.trans s12 (Same.trans s3 s4))), rfl, ?_⟩
          rw [List.length_map, List.length_map]
          have ee : decide (V.int (ps.length : Nat) = V.int (ps.length : Nat)) = true := decide_eq_true rfl
          rw [ee]
          exact q _ (Same.trans s12 (Same.trans s3 s4))
end
end Bd

namespace Bd
open PySem PySem.Spec PyProof.Rows L2
section
variable {P : Program} {w : World} {K : PySem.W.Frag} {mg : Str → Option Value} {base : Heap}
/-! ### is_row -/
def spRow : Sp := fun vs H Q _ => ∃ (q k d : Addr) (r : Gr) (rows : List Gr) (kvs : List (Key × V)), vs = [.ref q, .ref k] ∧ H q = some (.tup [.str r.nm, .str r.ab, .ref d]) ∧ DuesAt H d r.asks r.mrk ∧ GoodA r.asks ∧ (r.mrk = 0 ∨ r.mrk = 1) ∧ okName r.nm ∧
  H k = some (.dK kvs) ∧ Paired (KeptE H) rows kvs ∧ r.nm ∉ rows.map (·.nm) ∧ (r.ab = "" ∨ r.ab ∈ rows.map (·.nm)) ∧ ∀ H', Same H H' → Q (.bl true) H'
theorem ok_is_row (Z : Zs w K mg) (D : At K mg "is_row" s_is_row) (Cis_name : Cal P w K mg base "is_name" 1 ["thing"] spName) (Cis_endless : Cal P w K mg base "is_endless" 1 ["thing"] spEndless) (Care_dues : Cal P w K mg base "are_dues" 4 ["thing"] spDues) :
    Cal P w K mg base "is_row" 5 ["thing", "ahead"] spRow := by
  refine mk_cal D sc_is_row (fun _ _ _ _ _ _ us hl => match us, hl with | [_, _], _ => rfl) (fun vs H Q E h => ?_) (fun f cdv A outer s H vs Q E hr h => ?_)
  · obtain ⟨q, k, d, r, rows, kvs, rfl, _⟩ := h
    rfl
  · obtain ⟨q, k, d, r, rows, kvs, rfl, hq, hd, ga, hm, hn, hk, pk, nn, hab, Qk⟩ := h
    have hu := hu_of hr
    refine ⟨_, (pss_cons (ps_if (PW.pt (pw_or (pt_not (pt_val (pe_callB (r := rIsi K) call_isi rfl Z.isinstance (by decide +kernel) (pa_cons (pv 0) (pa_cons (pe_bltn (v := .ty "tuple") rfl Z.tuple (by decide +kernel) rfl) pa_nil))))) (pw_or (pt_cmpR op_ne (pe_callB (r := rLenS K) call_len_seq rfl Z.len (by decide +kernel) (pa_cons (pv 0) pa_nil)) pe_int (nomark _)) (pw_or (pt_not (pt_val (pe_cal Cis_name (hr.mono (by decide)) rfl (pa_cons (pe_ix (r := rIxT K) ix_tup (pv 0) pe_int (fun _ _ => rfl)) pa_nil)))) (pw_or1 (pt_cmp (pc_din hu (pe_ix (r := rIxT K) ix_tup (pv 0) pe_int (fun _ _ => rfl)) (pv 1)))))))) (pss_one (ps_ret pe_bl)) pss_nil)
  (pss_cons (ps_if (PW.pt (pw_or (pt_not (pt_val (pe_callB (r := rIsi K) call_isi rfl Z.isinstance (by decide +kernel) (pa_cons (pe_ix (r := rIxT K) ix_tup (pv 0) pe_int (fun _ _ => rfl)) (pa_cons (pe_bltn (v := .ty "str") rfl Z.str (by decide +kernel) rfl) pa_nil))))) (pw_or (PW.pt (pw_and (pt_cmpR op_ne (pe_ix (r := rIxT K) ix_tup (pv 0) pe_int (fun _ _ => rfl)) pe_str (nomark _)) (pw_and1 (pt_cmp (pc_dnotin hu (pe_ix (r := rIxT K) ix_tup (pv 0) pe_int (fun _ _ => rfl)) (pv 1)))))) (pw_or1 (pt_not (pt_val (pe_cal Care_dues (hr.mono (by decide)) rfl (pa_cons (pe_ix (r := rIxT K) ix_tup (pv 0) pe_int (fun _ _ => rfl)) pa_nil)))))))) (pss_one (ps_ret pe_bl)) pss_nil)
  (pss_one (ps_ret (pe_or (pe_cmpR op_eq (pe_ix (r := rIxT K) ix_tup (pv 0) pe_int (fun _ _ => rfl)) pe_str (nomark _)) (pe_one (pe_cal Cis_endless (hr.mono (by decide)) rfl (pa_cons (pe_dget hu (pe_ix (r := rIxT K) ix_tup (pe_dget hu (pv 1) (pe_ix (r := rIxT K) ix_tup (pv 0) pe_int (fun _ _ => rfl)) (fun _ _ => rfl)) pe_int (fun _ _ => rfl)) pe_str (fun _ _ => rfl)) pa_nil)))))))), ?_⟩
    refine ⟨_, rfl, _, _, _, _, true, rfl, .ty _, .base (.tup hq), kit_ty (by decide +kernel), true, rfl, iteF ?_⟩
    refine ⟨_, rfl, _, _, rfl, .inr (SqT.of hq), rfl, false, rfl, iteF ?_⟩
    refine ⟨_, rfl, _, _, _, _, rfl, rfl, SqT.of hq, rfl, r.nm, rfl, hn, fun H1 s1 => ⟨true, rfl, iteF ?_⟩⟩
    have e0 : valV kvs (Sum.inr r.nm) = none := by
      rcases kept_look r.nm pk with ⟨_, e⟩ | ⟨r2, v, e, _⟩
      · exact e
      · rw [look_none nn] at e
        cases e
    refine ⟨_, rfl, _, _, _, _, rfl, rfl, SqT.of (s1 _ _ hq), rfl, _, rfl, k, _, rfl, DGet.k (k := Sum.inr r.nm) (s1 _ _ hk), false, by rw [e0]; rfl, iteF ?_⟩
    refine ⟨_, rfl, _, _, _, _, rfl, rfl, SqT.of (s1 _ _ hq), rfl, _, _, _, _, true, rfl, .ty _, .base (.str _), kit_ty (by decide +kernel), true, rfl, iteF ?_⟩
    have key : ∀ (H2 : Hp), Same H H2 → (tOrV (tOp rEq (tOp (rIxT K) (tVar 0) (tC (.int 1))) (tC (.str ""))) (tCall spEndless [] E0 (tCons (tDGet (tOp (rIxT K) (tDGet (tVar 1) (tOp (rIxT K) (tVar 0) (tC (.int 1)))) (tC (.int 1))) (tC (.str "tops"))) tNil)))
        (start N_is_row [.ref q, .ref k]) H2 Q := fun H2 s2 => by
      refine ⟨_, rfl, _, _, _, _, rfl, rfl, SqT.of (s2 _ _ hq), rfl, rfl, _, rfl, ?_⟩
      refine ite2 (fun _ => Qk _ s2) (fun ne => ?_)
      have hb : r.ab ∈ rows.map (·.nm) := hab.resolve_left fun z => ne (by rw [z]; exact decide_eq_true rfl)
      obtain ⟨r2, e2, _, _⟩ := look_some hb
      rcases kept_look r.ab pk with ⟨e3, _⟩ | ⟨r3, v, e3, e4, q2, dd, ds, rfl, g1, g2, g3, _⟩
      · rw [e2] at e3
        cases e3
      · refine ⟨_, rfl, _, rfl, _, _, _, _, rfl, rfl, SqT.of (s2 _ _ hq), rfl, k, .ref q2, rfl, by rw [← e4]; exact DGet.k (k := Sum.inr r.ab) (s2 _ _ hk), ?_⟩
        refine ⟨_, _, _, _, rfl, rfl, SqT.of (s2 _ _ g1), rfl, dd, .str "endless", rfl, by rw [← g3]; exact DGet.k (k := Sum.inr "tops") (s2 _ _ g2), rfl, Qk _ s2⟩
    refine ⟨_, rfl, _, _, _, _, rfl, rfl, SqT.of (s1 _ _ hq), rfl, rfl, ?_⟩
    by_cases hb : r.ab = ""
    · refine ⟨false, congrArg V.bl (by rw [hb]; rfl), iteF (iteF ?_)⟩
      refine ⟨_, rfl, _, _, _, _, rfl, rfl, SqT.of (s1 _ _ hq), rfl, d, r.asks, r.mrk, rfl, hd.stay (Same.stay s1), ga, hm, fun H2 s2 => ⟨true, rfl, iteF ?_⟩⟩
      exact key _ (Same.trans s1 s2)
    · have hb2 := hab.resolve_left hb
      obtain ⟨r2, e2, _, _⟩ := look_some hb2
      refine ⟨true, congrArg V.bl (by rw [decide_eq_false (fun z => hb (V.str.inj z))]; rfl), iteT ?_⟩
      refine ⟨_, rfl, _, _, _, _, rfl, rfl, SqT.of (s1 _ _ hq), rfl, _, rfl, k, _, rfl, DGet.k (k := Sum.inr r.ab) (s1 _ _ hk), false, ?_, iteF ?_⟩
      · rcases kept_look r.ab pk with ⟨e3, _⟩ | ⟨r3, v, e3, e4, _⟩
        · rw [e2] at e3
          cases e3
        · rw [e4]
          rfl
      · refine ⟨_, rfl, _, _, _, _, rfl, rfl, SqT.of (s1 _ _ hq), rfl, d, r.asks, r.mrk, rfl, hd.stay (Same.stay s1), ga, hm, fun H2 s2 => ⟨true, rfl, iteF ?_⟩⟩
        exact key _ (Same.trans s1 s2)
end
end Bd

namespace Bd
open PySem PySem.Spec PyProof.Rows L2
section
variable {P : Program} {w : World} {K : PySem.W.Frag} {mg : Str → Option Value} {base : Heap}
/-! ### Tree(rows) -/
def spInit (K : PySem.W.Frag) : Sp := fun vs H Q _ => ∃ (t R dx : Addr) (rows : List Gr) (H0 : Hp), vs = [.ref t, .ref R, .bl false] ∧ H t = some (.ins (He.ga K "Tree") dx []) ∧ Same H0 H ∧ H0 t = none ∧ RowsAt H0 R rows ∧ GoodRows rows ∧ rows.length ≤ 12 ∧
  ∀ H', Same H0 H' → TreeAt K H' t rows → Q .non H'
/-- where the tree's __init__ stands -/
structure AtInit (K : PySem.W.Frag) : Prop where
  ex : ∃ fd, FunD K "__init__" "Tree.__init__" (defArgs s_Tree___init) (defBody s_Tree___init) (defScope s_Tree___init) [.bl false] [] (He.ma K (He.ga K "Tree") "__init__") fd
theorem kne : ¬ (("kept" : Str) = "is_handing") := by decide +kernel
theorem kne2 : ¬ (("kept" : Str) = "under") := by decide +kernel
theorem kne3 : ¬ (("is_handing" : Str) = "under") := by decide +kernel
theorem ok_init (Z : Zs w K mg) {fd : FuncData} (F : FunD K "__init__" "Tree.__init__" (defArgs s_Tree___init) (defBody s_Tree___init) (defScope s_Tree___init) [.bl false] [] (He.ma K (He.ga K "Tree") "__init__") fd) (Cis_row : Cal P w K mg base "is_row" 5 ["thing", "ahead"] spRow) :
    FnOk P w K mg base CX0 6 (He.ma K (He.ga K "Tree") "__init__") fd ["self", "rows", "handing"] (spInit K) := by
  refine F.ok sc_Tree___init (fun vs H Q E h => ?_) (fun cdv A outer s H vs Q E hr h => ?_)
  · obtain ⟨t, R, dx, rows, H0, rfl, _⟩ := h
    rfl
  · obtain ⟨t, R, dx, rows, H0, rfl, ht, s0, nt, ⟨vs, hR, pvs⟩, g, l12, Qk⟩ := h
    have hu := hu_of hr
    have lv : vs.length = rows.length := (Paired.length pvs).symm
    suffices hh : ∃ t', PSs (cxOf CX0 P w K mg base N_Tree___init "Tree.__init__" (defScope s_Tree___init) (He.ma K (He.ga K "Tree") "__init__") cdv A outer s H E).nox (defBody s_Tree___init) t' ∧ t' { nx := fun _ H' => Q .non H', rt := Q } (start N_Tree___init [.ref t, .ref R, .bl false]) H by
      obtain ⟨t', h1, h2⟩ := hh
      exact ⟨t', h1.nox, h2⟩
    refine ⟨_, (pss_cons (ps_if (pt_not (pt_val (pe_callB (r := rIsi K) call_isi rfl Z.isinstance (by decide +kernel) (pa_cons (pv 1) (pa_cons (pe_bltn (v := .ty "list") rfl Z.list (by decide +kernel) rfl) pa_nil))))) pss_never pss_nil)
  (pss_cons (ps_fld (pv 0) pe_dnewK rfl)
  (pss_cons (ps_for PassesOwn.never rfl (pi_enum rfl Z.enumerate (pa_cons (pv 1) pa_nil)) (pg_tup rfl (pgs_cons (pg_name (i := 3) sc_Tree___init.nd rfl (.inl rfl)) (pgs_cons (pg_name (i := 4) sc_Tree___init.nd rfl (.inl rfl)) pgs_nil)))
  (pss_cons (ps_if (pt_not (pt_val (pe_cal Cis_row (hr.mono (by decide)) rfl (pa_cons (pv 4) (pa_cons (pe_fld (pv 0) rfl) pa_nil))))) pss_never pss_nil)
  (pss_cons (ps_set (i := 5) sc_Tree___init.nd rfl (.inl rfl) (pe_callTy (call_dictW Z.plain) rfl Z.dict (by decide +kernel) (pa_cons (pe_gl rfl Z.mPLAIN) pa_nil)))
  (pss_cons (ps_expr (pe_bm PySem.F.plainAttrs_dict PySem.F.slot_dict_update PySem.F.type_dict_update mt_dupdate (pv 5) (pa_cons (pe_callTy (call_dictT rfl) rfl Z.dict (by decide +kernel) (pa_cons (pe_ix (r := rIxT K) ix_tup (pv 4) pe_int (fun _ _ => rfl)) pa_nil)) pa_nil)))
  (pss_one (ps_dput hu (pe_fld (pv 0) rfl) (pe_ix (r := rIxT K) ix_tup (pv 4) pe_int (fun _ _ => rfl)) (pe_tup (pa_cons (pe_ix (r := rIxT K) ix_tup (pv 4) pe_int (fun _ _ => rfl)) (pa_cons (pv 5) pa_nil))) rfl))))))
  (pss_cons (ps_if (pt_not (pt_val (pe_callB (r := rIsi K) call_isi rfl Z.isinstance (by decide +kernel) (pa_cons (pv 2) (pa_cons (pe_bltn (v := .ty "bool") rfl Z.bool (by decide +kernel) rfl) pa_nil))))) pss_never pss_nil)
  (pss_cons (ps_fld (pv 0) (pv 2) rfl)
  (pss_cons (ps_fld (pv 0) (pe_disp (pps_cons pe_str (pe_lst pa_nil) pps_nil) (by rfl) (by rfl) (fun z => by cases z) (by decide)) rfl)
  (pss_one (ps_lock (ps_for PassesOwn.never rfl (pi_keys (pe_fld (pv 0) rfl)) (pg_name (i := 6) sc_Tree___init.nd rfl (.inl rfl))
  (pss_cons (ps_dput hu (pe_fld (pv 0) rfl) (pv 6) (pe_lst pa_nil) rfl)
  (pss_one (ps_expr (pe_bm PySem.F.plainAttrs_list PySem.F.slot_list_append PySem.F.type_list_append mt_append (pe_dget hu (pe_fld (pv 0) rfl) (pe_ix (r := rIxT K) ix_tup (pe_dget hu (pe_fld (pv 0) rfl) (pv 6) (fun _ _ => rfl)) pe_int (fun _ _ => rfl)) (fun _ _ => rfl)) (pa_cons (pv 6) pa_nil)))))))))))))), ?_⟩
    refine ⟨_, rfl, _, _, _, _, true, rfl, .ty _, .base (.lst (s0 _ _ hR)), kit_ty (by decide +kernel), true, rfl, iteF ?_⟩
    -- self.kept = {}
    walk_at "new"; rename_i k nk H1 s1 hk
    have nk0 : H0 k = none := Same.free s0 nk
    have tk : t ≠ k := ne_of_none ht nk
    refine ⟨_, rfl, t, _, dx, [], rfl, s1 _ _ ht, Z.cls, Z.nkept, (by show 0 < 1000; decide), ?_⟩
    walk_at "put"; rename_i H2 b2 ht2
    have s2 : Same H0 H2 := Same.new_put nt (Same.trans s0 s1) b2
    have hk2 : H2 k = some (.dK []) := b2 _ _ tk.symm hk
    -- for at, row in enumerate(rows)
    refine ⟨_, rfl, R, vs, rfl, SqL.of (s2 _ _ hR), for_it walk_enum (fun i σ H' => (∃ x3 x4 x5, σ = [some (.ref t), some (.ref R), some (.bl false), x3, x4, x5, none]) ∧ Same H0 H' ∧ H' t = some (.ins (He.ga K "Tree") dx (putF "kept" (.ref k) [])) ∧ ∃ kvs, H' k = some (.dK kvs) ∧ Paired (KeptE H') (rows.take i) kvs)
      ⟨⟨none, none, none, rfl⟩, s2, ht2, [], hk2, .nil⟩ (fun i σ H' _ p => SqL.of (p.2.1 _ _ hR)) ?_ ?_⟩
    · rintro i x σ H3 H4 hi ⟨⟨x3, x4, x5, rfl⟩, s3, ht3, kvs, hk3, pk⟩ ⟨T, i1, rv, rfl, nT, rfl, e1, e2⟩
      replace e2 : vs[i]? = some rv := e2
      obtain ⟨r, er, q, d, rfl, hq0, hd0⟩ := prd_get pvs e2
      have rm := List.mem_of_getElem? er
      have nn := take_name g er (Nat.le_refl i)
      have sT : Same H3 (upd H3 T (.tup [i1, .ref q])) := Same.new nT
      generalize hT : upd H3 T (.tup [i1, .ref q]) = H4 at *
      have gT : H4 T = some (.tup [i1, .ref q]) := by rw [← hT]; exact upd_same
      clear hT
      have s04 := Same.trans s3 sT
      have lk : (putF "kept" (.ref k) []).lookup ("kept" : Str) = some (.ref k) := by rw [lookup_putF, if_pos rfl]
      refine ⟨T, _, rfl, SqT.of gT, rfl, _, _, rfl, _, _, rfl, rfl, ?_⟩
      refine ⟨_, rfl, _, rfl, t, _, dx, _, .ref k, rfl, sT _ _ ht3, Z.cls, Z.nkept, lk, q, k, d, r, rows.take i, kvs, rfl, s04 _ _ hq0, hd0.stay (Same.stay s04), fun xs ex => g.asks r rm xs ex, g.mrk r rm, g.nms r rm, sT _ _ hk3, kept_stay pk (Same.stay sT), nn, g.abv i r er, fun H5 s5 => ⟨true, rfl, iteF ?_⟩⟩
      -- dues = dict(PLAIN)
      refine ⟨rfl, ?_⟩
      walk_at "new"; rename_i dd ndd H6 s6 hdd6
      have s36 := Same.trans sT (Same.trans s5 s6)
      have s06 := Same.trans s3 s36
      obtain ⟨o, d1, d2, av, h1, hc, hn, h2, h3, h4⟩ := (hd0.stay (Same.stay s06)).ex
      have tyd : tyV K "dict" (.ref dd) H6 := .inr (.inr (.inl ⟨rfl, .inl ⟨_, hdd6⟩⟩))
      refine ⟨_, rfl, tyd, _, rfl, _, _, _, _, rfl, rfl, SqT.of (s06 _ _ hq0), rfl, d, o, [d1, d2], [((Sum.inr "sets" : Key), av), ((Sum.inr "alone" : Key), .int r.mrk)], rfl, h1, hc, hn, .cons (SqT.of h2) (.cons (SqT.of h3) .nil), ?_⟩
      walk_at "new"; rename_i e7 ne7 H7 s7 he7
      have hdd7 := s7 _ _ hdd6
      have hne : dd ≠ e7 := ne_of_none hdd6 ne7
      refine ⟨dd, e7, plainK K, _, rfl, rfl, hne, hdd7, he7, line100 (by rw [merge2, plain_len]; show 8 + 2 ≤ 1000; decide), ?_⟩
      walk_at "put"; rename_i H8 b8 hdd8
      have n3dd : H3 dd = none := Same.free (Same.trans sT s5) ndd
      have s38 : Same H3 H8 := Same.new_put n3dd (Same.trans s36 s7) b8
      have s08 := Same.trans s3 s38
      -- self.kept[row[0]] = (row[1], dues)
      refine ⟨_, rfl, _, _, _, _, rfl, rfl, SqT.of (s08 _ _ hq0), rfl, _, rfl, line100 (by show 2 ≤ 1000; decide), ?_⟩
      walk_at "new"; rename_i q9 nq9 H9 s9 hq9
      have s39 := Same.trans s38 s9
      have s09 := Same.trans s3 s39
      have ek : valV kvs (Sum.inr r.nm) = none := by
        rcases kept_look r.nm pk with ⟨_, e⟩ | ⟨r2, v, e, _⟩
        · exact e
        · rw [look_none nn] at e
          cases e
      have lkv : kvs.length ≤ 12 := by
        have := Paired.length pk
        rw [List.length_take] at this
        omega
      refine ⟨_, rfl, t, _, dx, _, .ref k, rfl, s39 _ _ ht3, Z.cls, Z.nkept, lk, _, rfl, _, _, _, _, rfl, rfl, SqT.of (s09 _ _ hq0), rfl, k, _, rfl, DPut.k (k := Sum.inr r.nm) (s39 _ _ hk3) (small1000 (by omega)), ?_⟩
      walk_at "put"; rename_i H10 b10 hk10
      have hdd9 : H9 dd = some (.dK (dsOf K av r.mrk)) := s9 _ _ hdd8
      have h49 : AskAt H9 av r.asks := by
        have : AskAt H7 av r.asks := h4.stay (Same.stay s7)
        exact (this.but hdd7 (by intro l z; cases z) b8).stay (Same.stay s9)
      have kv9 : KeptV H9 r (.ref q9) := ⟨q9, dd, _, rfl, hq9, hdd9, due_ok h49⟩
      have rf := kept_refs pk
      have hk9 := s39 _ _ hk3
      refine ⟨⟨_, _, _, rfl⟩, Same.new_put nk0 s09 b10, b10 _ _ tk (s39 _ _ ht3), _, hk10, ?_⟩
      rw [take_snoc er, putK_new _ ek]
      exact prd_append (kept_but (kept_stay pk (Same.stay s39)) hk9 rf b10) (.cons ⟨rfl, kv9.but hk9 rf b10⟩ .nil)
    · rintro σ H3 ⟨⟨x3, x4, x5, rfl⟩, s3, ht3, kvs, hk3, pk⟩
      rw [lv, List.take_length] at pk
      have l1 : (putF "kept" (.ref k) []).length ≤ 1 := length_putF _ _ []
      refine ⟨_, rfl, _, _, _, _, true, rfl, .ty _, .base (.bl false), kit_ty (by decide +kernel), true, rfl, iteF ?_⟩
      refine ⟨_, rfl, _, rfl, t, _, dx, _, rfl, ht3, Z.cls, Z.nhand, by omega, ?_⟩
      walk_at "put"; rename_i H4 b4 ht4
      have pk4 := kept_butO pk ht3 (by intro l z; cases z) (by intro l z; cases z) b4
      have s4 : Same H0 H4 := Same.new_put nt s3 b4
      have hk4 := b4 _ _ tk.symm hk3
      have l2 := length_putF "is_handing" (.bl false) (putF "kept" (.ref k) [])
      -- self.under = {'': []}
      walk_at "new"; rename_i u nu H5 s5 hu5
      refine ⟨line100 (by show 0 ≤ 1000; decide), ?_⟩
      walk_at "new"; rename_i l0 nl0 H6 s6 hl6
      have hu6 := s6 _ _ hu5
      refine ⟨hu6, [((Sum.inr "" : Key), .ref l0)], rfl, by show 1 ≤ 15; decide, ?_⟩
      walk_at "put"; rename_i H7 b7 hu7
      have s46 := Same.trans s5 s6
      have s47 : Same H4 H7 := Same.new_put nu s46 b7
      refine ⟨_, rfl, t, _, dx, _, rfl, s47 _ _ ht4, Z.cls, Z.nunder, by omega, ?_⟩
      walk_at "put"; rename_i H8 b8 ht8
      have nt8 : Same H0 H8 := Same.new_put nt (Same.trans s4 s47) b8
      have pk7 := kept_stay pk4 (Same.stay s47)
      have pk8 := kept_butO pk7 (s47 _ _ ht4) (by intro l z; cases z) (by intro l z; cases z) b8
      have hk8 : H8 k = some (.dK kvs) := b8 _ _ tk.symm (s47 _ _ hk4)
      have tu : t ≠ u := ne_of_none ht4 nu
      have hu8 : H8 u = some (.dK (mergeK [] [((Sum.inr "" : Key), .ref l0)])) := b8 _ _ tu.symm hu7
      have nl4 : H4 l0 = none := Same.free s5 nl0
      have tl : t ≠ l0 := ne_of_none ht4 nl4
      have ul : u ≠ l0 := ne_of_none hu5 nl0
      have hl8 : H8 l0 = some (.lst []) := b8 _ _ tl.symm (b7 _ _ ul.symm hl6)
      have nu0 : H0 u = none := Same.free s4 nu
      have nl00 : H0 l0 = none := Same.free s4 nl4
      obtain ⟨fs, efs⟩ : ∃ fs, fs = putF "under" (.ref u) (putF "is_handing" (.bl false) (putF "kept" (.ref k) [])) := ⟨_, rfl⟩
      rw [← efs] at ht8
      have lkK : fs.lookup ("kept" : Str) = some (.ref k) := by rw [efs, lookup_putF, if_neg kne2, lookup_putF, if_neg kne, lookup_putF, if_pos rfl]
      have lkU : fs.lookup ("under" : Str) = some (.ref u) := by rw [efs, lookup_putF, if_pos rfl]
      have e0 : mergeK [] [((Sum.inr "" : Key), .ref l0)] = [((Sum.inr "" : Key), .ref l0)] := by
        show putK ([] : List (Key × V)) (Sum.inr ("" : Str)) (.ref l0) = _
        rw [putK_new (kvs := ([] : List (Key × V))) _ rfl]
        rfl
      rw [e0] at hu8
      have ku : k ≠ u := ne_of_none hk4 nu
      -- for name in self.kept
      refine ⟨k, .dK kvs, hk8, trivial, fun od => ?_⟩
      walk_at "put"; rename_i H9 b9 hk9
      have s9 : Same H0 H9 := Same.new_put nk0 nt8 b9
      have ht9 := b9 _ _ tk ht8
      have pk9 := kept_but pk8 hk8 (kept_refs pk8) b9
      have hu9 := b9 _ _ ku.symm hu8
      have hl9 := b9 _ _ (ne_of hl8 hk8 (by intro z; cases z)) hl8
      have lkv : kvs.length = rows.length := (Paired.length pk).symm
      refine ⟨_, rfl, t, _, dx, _, .ref k, rfl, ht9, Z.cls, Z.nkept, lkK, k, od, rfl, .inl ⟨kvs, hk9, for_it walk_keys (fun i σ H' => (∃ y3 y4 y5 y6, σ = [some (.ref t), some (.ref R), some (.bl false), y3, y4, y5, y6]) ∧ Same H0 H' ∧ H' t = some (.ins (He.ga K "Tree") dx fs) ∧ H' k = some (.frz od (.dK kvs)) ∧ Paired (KeptE H') rows kvs ∧
        ∃ us L, H' u = some (.dK us) ∧ us.length ≤ i + 1 ∧ UnderI H' us (rows.take i) L ∧ ∀ nm, relN (rows.take i) nm → H0 (L nm) = none)
        ⟨⟨_, _, _, _, rfl⟩, s9, ht9, hk9, pk9, _, fun _ => l0, hu9, Nat.le_refl _, ⟨fun nm hn => ?_, fun a c ha hc _ => ?_, fun kk v e => ?_⟩, fun _ _ => nl00⟩ (fun i σ H' _ p => p.2.2.2.1) ?_ ?_⟩⟩
      · have e1 : nm = ("" : Str) := hn.resolve_right (by intro z; cases z)
        subst e1
        exact ⟨by rw [valV_c, if_pos rfl], hl9⟩
      · have e1 : a = ("" : Str) := ha.resolve_right (by intro z; cases z)
        have e2 : c = ("" : Str) := hc.resolve_right (by intro z; cases z)
        rw [e1, e2]
      · rw [valV_c] at e
        by_cases z : (Sum.inr "" : Key) = kk
        · rw [if_pos z] at e
          exact ⟨l0, (Option.some.inj e).symm⟩
        · rw [if_neg z] at e
          cases e
      · rintro i x σ Ha Hb hi ⟨⟨y3, y4, y5, y6, rfl⟩, sa, hta, hka, pka, us, L, hua, lus, U, nL⟩ ⟨rfl, kk, v, ekv, rfl⟩
        obtain ⟨r, er, ekk, _⟩ := prd_get pka ekv
        cases ekk
        have rm := List.mem_of_getElem? er
        have nn := take_name g er (Nat.le_refl i)
        have rp : relN (rows.take i) r.ab := g.abv i r er
        have nab : r.ab ≠ r.nm := ab_ne g er er (Nat.le_refl i)
        refine ⟨line100 (by show 0 ≤ 1000; decide), ?_⟩
        walk_at "new"; rename_i l nl Hb sb hl
        have hub := sb _ _ hua
        have htb := sb _ _ hta
        refine ⟨_, rfl, t, _, dx, _, .ref u, rfl, htb, Z.cls, Z.nunder, lkU, _, rfl, u, _, rfl, DPut.k (k := Sum.inr r.nm) hub (small1000 (by omega)), ?_⟩
        walk_at "put"; rename_i Hc bc huc
        have ul2 : u ≠ l := ne_of_none hua nl
        have hlc : Hc l = some (.lst []) := bc _ _ ul2.symm hl
        have htc := bc _ _ tu htb
        have hkc : Hc k = some (.frz od (.dK kvs)) := bc _ _ ku (sb _ _ hka)
        have pkc := kept_but (kept_stay pka (Same.stay sb)) hub U.refs bc
        have s0c : Same H0 Hc := Same.new_put nu0 (Same.trans sa sb) bc
        have Uc : UnderI Hc us (rows.take i) L := ⟨fun nm hn => ⟨(U.at_ nm hn).1, bc _ _ (ne_of (sb _ _ (U.at_ nm hn).2) hub (by intro z; cases z)) (sb _ _ (U.at_ nm hn).2)⟩, U.inj, U.refs⟩
        have hpc := (Uc.at_ r.ab rp).2
        have eus : valV (putK us (Sum.inr r.nm) (.ref l)) (Sum.inr r.ab) = some (.ref (L r.ab)) := by
          rw [valV_put, if_neg (fun z => nab (Sum.inr.inj z))]
          exact (U.at_ r.ab rp).1
        rcases kept_look r.nm pkc with ⟨e, _⟩ | ⟨r2, v2, e3, e4, q2, dd2, ds2, rfl, g1, g2, g3⟩
        · rw [look_self g rm] at e
          cases e
        · rw [look_self g rm] at e3
          cases e3
          have lk2 : (zS (kidsN (rows.take i) r.ab)).length ≤ 12 := by
            have := kids_len (rows.take i) r.ab
            rw [List.length_take] at this
            rw [List.length_map]
            omega
          refine ⟨_, rfl, t, _, dx, _, .ref u, rfl, htc, Z.cls, Z.nunder, lkU, _, rfl, t, _, dx, _, .ref k, rfl, htc, Z.cls, Z.nkept, lkK, _, rfl, k, .ref q2, rfl, .inl ⟨kvs, Sum.inr r.nm, .inr ⟨od, hkc⟩, rfl, e4.symm⟩,
            _, _, _, _, rfl, rfl, SqT.of g1, rfl, u, .ref (L r.ab), rfl, by rw [← eus]; exact DGet.k (k := Sum.inr r.ab) huc, .inl ⟨rfl, _, SqL.of hpc⟩, _, rfl, L r.ab, _, _, rfl, rfl, hpc, small1000 (by omega), ?_⟩
          walk_at "put"; rename_i Hd bd hpd
          have nlL : ∀ nm, relN (rows.take i) nm → L nm ≠ l := fun nm hn => ne_of_none (U.at_ nm hn).2 nl
          have st := But.stay hpc bd
          refine ⟨⟨_, _, _, _, rfl⟩, Same.new_put (nL r.ab rp) s0c bd, st _ _ htc (by intro l z; cases z), st _ _ hkc (by intro l z; cases z), kept_stay pkc st, _, _, st _ _ huc (by intro l z; cases z), ?_, under_step g er Uc nlL hlc rfl bd hpd, fun nm hn => ?_⟩
          · have := length_putK us (Sum.inr r.nm) (V.ref l)
            omega
          · by_cases e : nm = r.nm
            · simp only [if_pos e]
              exact Same.free sa nl
            · simp only [if_neg e]
              exact nL nm (rel_old er hn e)
      · rintro σ Ha ⟨⟨y3, y4, y5, y6, rfl⟩, sa, hta, hka, pka, us, L, hua, lus, U, nL⟩
        rw [lkv, List.take_length] at U
        refine ⟨hka, ?_⟩
        walk_at "put"; rename_i Hz bz hkz
        refine Qk _ (Same.new_put nk0 sa bz) ⟨dx, fs, k, u, kvs, us, bz _ _ tk hta, lkK, lkU, hkz, kept_butO pka hka (by intro l z; cases z) (by intro l z; cases z) bz, bz _ _ ku.symm hua, fun nm hn => ⟨L nm, (U.at_ nm hn).1, bz _ _ (ne_of (U.at_ nm hn).2 hka (by intro z; cases z)) (U.at_ nm hn).2⟩⟩
end
end Bd

namespace Bd
open PySem PySem.Spec PyProof.Rows L2
/-! ### data: numbers, texts -/
theorem dpI {K : PySem.W.Frag} {H : Hp} : ∀ xs : List Int, DpAll K H (zI xs) (xs.map PyData.int)
  | [] => .nil
  | x :: r => .cons (.int x) (dpI r)
theorem dpS {K : PySem.W.Frag} {H : Hp} : ∀ xs : List Str, DpAll K H (zS xs) (xs.map PyData.str)
  | [] => .nil
  | x :: r => .cons (.str x) (dpS r)
theorem layI : ∀ xs : List Int, PyData.canLayAll0 (xs.map PyData.int) = true ∧ PyData.depthAll (xs.map PyData.int) = 0
  | [] => by simp [PyData.canLayAll0, PyData.depthAll]
  | x :: r => by
    obtain ⟨h1, h2⟩ := layI r
    simp [PyData.canLayAll0, PyData.depthAll, PyData.canLay0, PyData.depth, h1, h2]
theorem name_ok {x : Str} (h : okName x) : PyData.strOk x = true := by
  unfold PyData.strOk
  rw [Array.all_eq_true_iff_forall_mem]
  intro c hc
  have m := h.2.2 c (Array.mem_toList_iff.mpr hc)
  have all : ∀ c ∈ ("abcdefghijklmnopqrstuvwxyz" : Str).cps.toList, c < 0x110000 := by decide +kernel
  exact decide_eq_true (all c m)
theorem layS : ∀ xs : List Str, (∀ x ∈ xs, okName x) → PyData.canLayAll0 (xs.map PyData.str) = true ∧ PyData.depthAll (xs.map PyData.str) = 0
  | [], _ => by simp [PyData.canLayAll0, PyData.depthAll]
  | x :: r, h => by
    obtain ⟨h1, h2⟩ := layS r fun y hy => h y (List.mem_cons_of_mem _ hy)
    have h3 : PyData.strOk x = true := name_ok (h x List.mem_cons_self)
    simp [PyData.canLayAll0, PyData.depthAll, PyData.canLay0, PyData.depth, h1, h2, h3]
theorem shT {ds : List PyData} (h : PyData.canLayAll0 ds = true ∧ PyData.depthAll ds = 0) : SeqAt.shaped (.tuple ds) = true := by
  simp [SeqAt.shaped, PyData.canLay0, PyData.depth, h.1, h.2]
theorem shL {ds : List PyData} (h : PyData.canLayAll0 ds = true ∧ PyData.depthAll ds = 0) : SeqAt.shaped (.list ds) = true := by
  simp [SeqAt.shaped, PyData.canLay0, PyData.depth, h.1, h.2]
theorem eqvI : ∀ xs ys : List Int, PyData.eqvAll (xs.map PyData.int) (ys.map PyData.int) = decide (xs = ys)
  | [], [] => by simp [PyData.eqvAll]
  | [], _ :: _ => by simp [PyData.eqvAll]
  | _ :: _, [] => by simp [PyData.eqvAll]
  | x :: r, y :: q => by
    have ih := eqvI r q
    simp only [List.map_cons, PyData.eqvAll, PyData.eqv, ih]
    by_cases e : x = y
    · simp [e]
    · simp [e]
theorem eqvS : ∀ xs ys : List Str, PyData.eqvAll (xs.map PyData.str) (ys.map PyData.str) = decide (xs = ys)
  | [], [] => by simp [PyData.eqvAll]
  | [], _ :: _ => by simp [PyData.eqvAll]
  | _ :: _, [] => by simp [PyData.eqvAll]
  | x :: r, y :: q => by
    have ih := eqvS r q
    simp only [List.map_cons, PyData.eqvAll, PyData.eqv, ih]
    by_cases e : x = y
    · simp [e]
    · simp [e]
section
variable {K : PySem.W.Frag} {H : Hp} {a b : Addr} {Q : VK}
theorem eqT {xs ys : List Int} (h1 : H a = some (.tup (zI xs))) (h2 : H b = some (.tup (zI ys))) (q : Q (.bl (decide (xs = ys))) H) : rEqD K (.ref a) (.ref b) H Q :=
  ⟨_, _, .tup (SqT.of h1) (dpI xs), .tup (SqT.of h2) (dpI ys), shT (layI xs), shT (layI ys), by rw [PyData.eqv, eqvI]; exact q⟩
theorem neT {xs ys : List Int} (h1 : H a = some (.tup (zI xs))) (h2 : H b = some (.tup (zI ys))) (q : Q (.bl (!decide (xs = ys))) H) : rNeD K (.ref a) (.ref b) H Q :=
  ⟨_, _, .tup (SqT.of h1) (dpI xs), .tup (SqT.of h2) (dpI ys), shT (layI xs), shT (layI ys), by rw [PyData.eqv, eqvI]; exact q⟩
theorem eqL {xs ys : List Int} (h1 : H a = some (.lst (zI xs))) (h2 : H b = some (.lst (zI ys))) (q : Q (.bl (decide (xs = ys))) H) : rEqD K (.ref a) (.ref b) H Q :=
  ⟨_, _, .lst (SqL.of h1) (dpI xs), .lst (SqL.of h2) (dpI ys), shL (layI xs), shL (layI ys), by rw [PyData.eqv, eqvI]; exact q⟩
theorem neL {xs ys : List Int} (h1 : H a = some (.lst (zI xs))) (h2 : H b = some (.lst (zI ys))) (q : Q (.bl (!decide (xs = ys))) H) : rNeD K (.ref a) (.ref b) H Q :=
  ⟨_, _, .lst (SqL.of h1) (dpI xs), .lst (SqL.of h2) (dpI ys), shL (layI xs), shL (layI ys), by rw [PyData.eqv, eqvI]; exact q⟩
theorem neS {xs ys : List Str} (o1 : ∀ x ∈ xs, okName x) (o2 : ∀ x ∈ ys, okName x) (h1 : H a = some (.lst (zS xs))) (h2 : H b = some (.lst (zS ys))) (q : Q (.bl (!decide (xs = ys))) H) : rNeD K (.ref a) (.ref b) H Q :=
  ⟨_, _, .lst (SqL.of h1) (dpS xs), .lst (SqL.of h2) (dpS ys), shL (layS xs o1), shL (layS ys o2), by rw [PyData.eqv, eqvS]; exact q⟩
theorem eqSL {xs ys : List Str} (o1 : ∀ x ∈ xs, okName x) (o2 : ∀ x ∈ ys, okName x) (h1 : H a = some (.lst (zS xs))) (h2 : H b = some (.lst (zS ys))) (q : Q (.bl (decide (xs = ys))) H) : rEqD K (.ref a) (.ref b) H Q :=
  ⟨_, _, .lst (SqL.of h1) (dpS xs), .lst (SqL.of h2) (dpS ys), shL (layS xs o1), shL (layS ys o2), by rw [PyData.eqv, eqvS]; exact q⟩
theorem flI : ∀ xs : List Int, (zI xs).all flatV = true
  | [] => rfl
  | x :: r => by rw [zI, List.map_cons, List.all_cons]; exact flI r
theorem flS : ∀ xs : List Str, (zS xs).all flatV = true
  | [] => rfl
  | x :: r => by rw [zS, List.map_cons, List.all_cons]; exact flS r
theorem inVI (x : Int) : ∀ xs : List Int, inV (.int x) (zI xs) = decide (x ∈ xs)
  | [] => rfl
  | y :: r => by
    have ih := inVI x r
    unfold inV at ih ⊢
    rw [zI, List.map_cons, List.any_cons, ih]
    show ((y == x) || decide (x ∈ r)) = _
    by_cases e : y = x
    · subst e
      simp
    · have e2 : x ≠ y := fun z => e z.symm
      simp [e, e2]
theorem inVS (x : Str) : ∀ xs : List Str, inV (.str x) (zS xs) = decide (x ∈ xs)
  | [] => rfl
  | y :: r => by
    have ih := inVS x r
    unfold inV at ih ⊢
    rw [zS, List.map_cons, List.any_cons, ih]
    show ((y == x) || decide (x ∈ r)) = _
    by_cases e : y = x
    · subst e
      simp
    · have e2 : x ≠ y := fun z => e z.symm
      simp [e, e2]
theorem in_I {p : Addr} {x : Int} {xs : List Int} (h : SqL K H p (zI xs) ∨ SqT K H p (zI xs)) (q : Q (.bl (decide (x ∈ xs))) H) : rIn K false (.int x) (.ref p) H Q :=
  ⟨p, _, rfl, h, rfl, flI xs, by rw [← inVI] at q; exact q⟩
theorem nin_I {p : Addr} {x : Int} {xs : List Int} (h : SqL K H p (zI xs) ∨ SqT K H p (zI xs)) (q : Q (.bl (!decide (x ∈ xs))) H) : rIn K true (.int x) (.ref p) H Q :=
  ⟨p, _, rfl, h, rfl, flI xs, by rw [← inVI] at q; exact q⟩
theorem in_S {p : Addr} {x : Str} {xs : List Str} (h : SqL K H p (zS xs) ∨ SqT K H p (zS xs)) (q : Q (.bl (decide (x ∈ xs))) H) : rIn K false (.str x) (.ref p) H Q :=
  ⟨p, _, rfl, h, rfl, flS xs, by rw [← inVS] at q; exact q⟩
theorem nin_S {p : Addr} {x : Str} {xs : List Str} (h : SqL K H p (zS xs) ∨ SqT K H p (zS xs)) (q : Q (.bl (!decide (x ∈ xs))) H) : rIn K true (.str x) (.ref p) H Q :=
  ⟨p, _, rfl, h, rfl, flS xs, by rw [← inVS] at q; exact q⟩
end
theorem fm_filter {α β : Type} (p : α → Bool) (g : α → β) : ∀ as : List α, as.filterMap (fun x => if p x = true then some (g x) else none) = (as.filter p).map g
  | [] => rfl
  | a :: r => by
    have ih := fm_filter p g r
    by_cases e : p a = true
    · rw [List.filterMap_cons_some (b := g a) (by rw [if_pos e]), List.filter_cons_of_pos e, ih]
      rfl
    · rw [List.filterMap_cons_none (by rw [if_neg e]), List.filter_cons_of_neg e, ih]
/-! ### small steps of a reading -/
theorem seq_ {t u : TS} {D : Ends} {σ : L2.St} {H : Hp} (h : t { D with nx := u D } σ H) : tSeq t u D σ H := h
theorem asg_ {te : TE} {g : TG} {D : Ends} {σ : L2.St} {H : Hp} (h : te σ H fun x H1 => g x σ H1 D.nx) : tAsg te g D σ H := h
theorem if_ {c : TT} {t u : TS} {D : Ends} {σ : L2.St} {H : Hp} (h : c σ H fun b H1 => if b = true then t D σ H1 else u D σ H1) : tIfS c t u D σ H := h
theorem ret_ {te : TE} {D : Ends} {σ : L2.St} {H : Hp} (h : te σ H D.rt) : tRet te D σ H := h
/-- d["sets"] or () -/
theorem or_asks {K : PySem.W.Frag} {σ : L2.St} {H : Hp} {dd : Addr} {i : Nat} {ds : List (Key × V)} {av : V} {a : Option (List Int)} {Q : VK} (e6 : σ[i]? = some (some (.ref dd))) (hd : H dd = some (.dK ds)) (ev : valV ds (Sum.inr "sets") = some av) (ha : AskAt H av a)
    (q : ∀ A H1, Same H H1 → H1 A = some (.tup (zI (a.getD []))) → Q (.ref A) H1) : tOrT K (tDGet (tVar i) (tC (.str "sets"))) (tTup tNil) σ H Q := by
  have g : DGet H dd (.str "sets") (some av) := by rw [← ev]; exact DGet.k (k := Sum.inr "sets") hd
  have emp : tTup tNil σ H (fun x H1 => (a.getD [] = []) → Q x H1) := ⟨line100 (by show 0 ≤ 1000; decide), fun p np e => q p _ (Same.new np) (by rw [upd_same, e]; rfl)⟩
  cases a with
  | none =>
    cases (show av = .non from ha)
    exact ⟨_, e6, dd, .non, rfl, g, false, rfl, iteF ⟨emp.1, fun p np => emp.2 p np rfl⟩⟩
  | some xs =>
    obtain ⟨p, rfl, hp⟩ := ha
    refine ⟨_, e6, dd, .ref p, rfl, g, !(zI xs).isEmpty, .inr (.inl ⟨_, SqT.of hp, rfl⟩), ?_⟩
    cases xs with
    | nil => exact iteF ⟨emp.1, fun p np => emp.2 p np rfl⟩
    | cons x r => exact iteT (q p H (Same.refl H) hp)
/-- x or () -/
theorem or_asks2 {K : PySem.W.Frag} {σ : L2.St} {H : Hp} {i : Nat} {av : V} {a : Option (List Int)} {Q : VK} (e6 : σ[i]? = some (some av)) (ha : AskAt H av a)
    (q : ∀ A H1, Same H H1 → H1 A = some (.tup (zI (a.getD []))) → Q (.ref A) H1) : tOrT K (tVar i) (tTup tNil) σ H Q := by
  have emp : tTup tNil σ H (fun x H1 => (a.getD [] = []) → Q x H1) := ⟨line100 (by show 0 ≤ 1000; decide), fun p np e => q p _ (Same.new np) (by rw [upd_same, e]; rfl)⟩
  cases a with
  | none =>
    cases (show av = .non from ha)
    exact ⟨_, e6, false, rfl, iteF ⟨emp.1, fun p np => emp.2 p np rfl⟩⟩
  | some xs =>
    obtain ⟨p, rfl, hp⟩ := ha
    refine ⟨_, e6, !(zI xs).isEmpty, .inr (.inl ⟨_, SqT.of hp, rfl⟩), ?_⟩
    cases xs with
    | nil => exact iteF ⟨emp.1, fun p np => emp.2 p np rfl⟩
    | cons x r => exact iteT (q p H (Same.refl H) hp)
/-! ### who stands alone -/
def askL (a : Option (List Int)) : List Int := a.getD []
def canA (r : Gr) (free : List Int) : Bool := decide (r.mrk = 1) && (!decide (askL r.asks = []) && ((askL r.asks).all (fun x => decide (x ∈ free)) && decide ((askL r.asks).length < free.length)))
def lessL (xs ys : List Int) : List Int := xs.filter fun x => !decide (x ∈ ys)
def stepG (acc : List Str × List Int) (r : Gr) : List Str × List Int := if canA r acc.2 = true then (acc.1 ++ [r.nm], lessL acc.2 (askL r.asks)) else acc
def greedy (ks : List Gr) (has : List Int) : List Str × List Int := ks.foldl stepG ([], has)
theorem greedy_len (ks : List Gr) : ∀ acc : List Str × List Int, (ks.foldl stepG acc).1.length ≤ acc.1.length + ks.length ∧ (ks.foldl stepG acc).2.length ≤ acc.2.length := by
  induction ks with
  | nil => intro acc; exact ⟨Nat.le_refl _, Nat.le_refl _⟩
  | cons r ks ih =>
    intro acc
    have h := ih (stepG acc r)
    have h2 : (stepG acc r).1.length ≤ acc.1.length + 1 ∧ (stepG acc r).2.length ≤ acc.2.length := by
      unfold stepG
      split
      · exact ⟨by rw [List.length_append]; exact Nat.le_refl _, List.length_filter_le _ _⟩
      · exact ⟨Nat.le_succ _, Nat.le_refl _⟩
    rw [List.foldl_cons, List.length_cons]
    omega
theorem greedy_good {ks : List Gr} : ∀ {acc : List Str × List Int}, GoodS acc.2 → GoodS (ks.foldl stepG acc).2 := by
  induction ks with
  | nil => intro acc h; exact h
  | cons r ks ih =>
    intro acc h
    rw [List.foldl_cons]
    refine ih ?_
    unfold stepG
    split
    · exact h.filter _
    · exact h
theorem fold_snoc {α β : Type} {f : β → α → β} {b : β} {l : List α} {i : Nat} {x : α} (h : l[i]? = some x) : (l.take (i + 1)).foldl f b = f ((l.take i).foldl f b) x := by
  rw [take_snoc h, List.foldl_append]
  rfl
end Bd

namespace Bd
open PySem PySem.Spec PyProof.Rows L2
section
variable {P : Program} {w : World} {K : PySem.W.Frag} {mg : Str → Option Value} {base : Heap}
/-! ### check_tree, standing -/
def spCheck (K : PySem.W.Frag) : Sp := fun vs H Q _ => ∃ (t dx : Addr) (fs : List (Str × V)), vs = [.ref t] ∧ H t = some (.ins (He.ga K "Tree") dx fs) ∧ Q .non H
theorem ok_check_tree (Z : Zs w K mg) (D : At K mg "check_tree" s_check_tree) : Cal P w K mg base "check_tree" 1 ["tree"] (spCheck K) := by
  refine mk_cal D sc_check_tree (fun _ _ _ _ _ _ us hl => match us, hl with | [_], _ => rfl) (fun vs H Q E h => ?_) (fun f cdv A outer s H vs Q E hr h => ?_)
  · obtain ⟨n, dx, fs, rfl, _⟩ := h
    rfl
  · obtain ⟨t, dx, fs, rfl, ht, q⟩ := h
    refine ⟨_, (pss_one (ps_if (pt_not (pt_val (pe_callB (r := rIsi K) call_isi rfl Z.isinstance (by decide +kernel) (pa_cons (pv 0) (pa_cons (pe_gl rfl Z.mTree) pa_nil))))) pss_never pss_nil)), ?_⟩
    exact ⟨_, rfl, _, _, _, _, true, rfl, .own _, .base (.ins ht Z.cls Z.tcls Z.tget Z.ttk Z.tmro), by simp [PySem.W.kitOne], true, rfl, iteF q⟩
theorem kid_get {rows : List Gr} {nm : Str} {i : Nat} {x : V} (h : (zS (kidsN rows nm))[i]? = some x) : ∃ r, (kidsR rows nm)[i]? = some r ∧ x = .str r.nm := by
  unfold kidsN at h
  rw [List.getElem?_map, List.getElem?_map] at h
  cases e : (kidsR rows nm)[i]? with
  | none => rw [e] at h; cases h
  | some r => rw [e] at h; exact ⟨r, rfl, (Option.some.inj h).symm⟩
def spStand (K : PySem.W.Frag) : Sp := fun vs H Q _ => ∃ (t p : Addr) (nm : Str) (rows : List Gr) (has : List Int), vs = [.ref t, .str nm, .ref p] ∧ TreeAt K H t rows ∧ GoodRows rows ∧ rows.length ≤ 12 ∧ relN rows nm ∧ H p = some (.tup (zI has)) ∧ GoodS has ∧
  ∀ q l f H', Same H H' → H' q = some (.tup [.ref l, .ref f]) → H' l = some (.lst (zS (greedy (kidsR rows nm) has).1)) → H' f = some (.tup (zI (greedy (kidsR rows nm) has).2)) → Q (.ref q) H'
theorem ok_standing (Z : Zs w K mg) (D : At K mg "standing" s_standing) : Cal P w K mg base "standing" 1 ["tree", "name", "has"] (spStand K) := by
  refine mk_cal D sc_standing (fun _ _ _ _ _ _ us hl => match us, hl with | [_, _, _], _ => rfl) (fun vs H Q E h => ?_) (fun f cdv A outer s H vs Q E hr h => ?_)
  · obtain ⟨t, p, nm, rows, has, rfl, _⟩ := h
    rfl
  · obtain ⟨t, p, nm, rows, has, rfl, ⟨dx, fs, k, u, kvs, us, ht, lkK, lkU, hk, pk, hu0, UA⟩, g, l12, hrel, hp, gh, Qk⟩ := h
    have hu := hu_of hr
    obtain ⟨lc, ulc, hlc⟩ := UA nm hrel
    have l64 := gh.len
    refine ⟨_, (pss_cons (ps_asg (pe_tup (pa_cons (pe_lst pa_nil) (pa_cons (pe_callTy call_list_of rfl Z.list (by decide +kernel) (pa_cons (pv 2) pa_nil)) pa_nil))) (pg_tup rfl (pgs_cons (pg_name (i := 3) sc_standing.nd rfl (.inl rfl)) (pgs_cons (pg_name (i := 4) sc_standing.nd rfl (.inr rfl)) pgs_nil))))
  (pss_cons (ps_for PassesOwn.never rfl (pi_list (pe_dget hu (pe_fld (pv 0) rfl) (pv 1) (fun _ _ => rfl))) (pg_name (i := 5) sc_standing.nd rfl (.inl rfl))
  (pss_cons (ps_set (i := 6) sc_standing.nd rfl (.inl rfl) (pe_ix (r := rIxT K) ix_tup (pe_dget hu (pe_fld (pv 0) rfl) (pv 5) (fun _ _ => rfl)) pe_int (fun _ _ => rfl)))
  (pss_cons (ps_set (i := 7) sc_standing.nd rfl (.inr rfl) (pe_orT (pe_dget hu (pv 6) pe_str (fun _ _ => rfl)) (pe_one (pe_tup pa_nil))))
  (pss_one (ps_if (PW.pt (pw_and (pt_cmpR op_eq (pe_dget hu (pv 6) pe_str (fun _ _ => rfl)) pe_int (nomark _)) (pw_and (pt_cmpR (r := rNeD K) (op_neD hr.units) (pv 7) (pe_tup pa_nil) (nomark _)) (pw_and (pt_val (pe_callB (r := rAll K) (cr_all rfl) rfl Z.all (by decide +kernel) (pa_cons (pe_lc (own := [("one", 8)]) rfl sc_standing.nd (pi_tup (pv 7)) (blkOk_by (own := [("one", 8)]) (N := N_standing) (sc := defScope s_standing) (by decide +kernel)) (fun _ _ _ _ _ => (pg_name (i := 8) sc_standing.nd rfl (.inl rfl))) (fun _ _ _ _ _ => pts_nil) (fun _ _ _ _ _ => (pe_cmpR (r := rIn K false) op_in_seq (pv 8) (pv 4) rfl))) pa_nil))) (pw_and1 (pt_cmpR op_gt (pe_callB (r := rLenS K) call_len_seq rfl Z.len (by decide +kernel) (pa_cons (pv 4) pa_nil)) (pe_callB (r := rLenS K) call_len_seq rfl Z.len (by decide +kernel) (pa_cons (pv 7) pa_nil)) (nomark _))))))) (pss_cons (ps_expr (pe_bm PySem.F.plainAttrs_list PySem.F.slot_list_append PySem.F.type_list_append mt_append (pv 3) (pa_cons (pv 5) pa_nil)))
  (pss_one (ps_set (i := 4) sc_standing.nd rfl (.inr rfl) (pe_lc (own := [("one", 8)]) rfl sc_standing.nd (pi_list (pv 4)) (blkOk_by (own := [("one", 8)]) (N := N_standing) (sc := defScope s_standing) (by decide +kernel)) (fun _ _ _ _ _ => (pg_name (i := 8) sc_standing.nd rfl (.inl rfl))) (fun _ _ _ _ _ => (pts_one (pt_cmpR (r := rIn K true) op_notIn_seq (pv 8) (pv 7) rfl))) (fun _ _ _ _ _ => (pv 8)))))) pss_nil)))))
  (pss_one (ps_ret (pe_tup (pa_cons (pv 3) (pa_cons (pe_callTy call_tuple_of rfl Z.tuple (by decide +kernel) (pa_cons (pv 4) pa_nil)) pa_nil))))))), ?_⟩
    -- found, free = [], list(has)
    refine ⟨line100 (by show 0 ≤ 1000; decide), ?_⟩
    walk_at "new"; rename_i l nl H1 s1 hl1
    refine ⟨_, rfl, p, _, rfl, .inr (SqT.of (s1 _ _ hp)), ?_⟩
    walk_at "new"; rename_i fa nfa H2 s2 hf2
    refine ⟨line100 (by show 2 ≤ 1000; decide), ?_⟩
    walk_at "new"; rename_i T nT H3 s3 hT
    refine ⟨T, _, rfl, SqT.of hT, rfl, _, _, rfl, _, _, rfl, rfl, ?_⟩
    have s03 := Same.trans s1 (Same.trans s2 s3)
    have kl : (kidsR rows nm).length ≤ rows.length := List.length_filter_le _ _
    have glen := fun i => greedy_len ((kidsR rows nm).take i) ([], has)
    -- for child in tree.under[name]
    have dgu : DGet H3 u (.str nm) (some (.ref lc)) := by rw [← ulc]; exact DGet.k (k := Sum.inr nm) (s03 _ _ hu0)
    refine ⟨_, rfl, t, _, dx, fs, .ref u, rfl, s03 _ _ ht, Z.cls, Z.nunder, lkU, _, rfl, u, .ref lc, rfl, dgu, lc, rfl, ⟨_, SqL.of (s03 _ _ hlc)⟩,
      for_it walk_list (fun i σ H' => ∃ x5 x6 x7 fa, σ = [some (.ref t), some (.str nm), some (.ref p), some (.ref l), some (.ref fa), x5, x6, x7, none] ∧ fa ≠ l ∧ Same H H' ∧ H' l = some (.lst (zS (((kidsR rows nm).take i).foldl stepG ([], has)).1)) ∧ H' fa = some (.lst (zI (((kidsR rows nm).take i).foldl stepG ([], has)).2)))
      ⟨none, none, none, fa, rfl, (ne_of_none hl1 nfa).symm, s03, s3 _ _ (s2 _ _ hl1), s3 _ _ hf2⟩ (fun i σ H' _ ⟨_, _, _, _, _, _, s', _, _⟩ => SqL.of (s' _ _ hlc)) ?_ ?_⟩
    · rintro i x σ Ha Hb hi ⟨x5, x6, x7, fb, rfl, nfl, sa, hla, hfa⟩ ⟨rfl, ex⟩
      obtain ⟨r, er, rfl⟩ := kid_get ex
      have rm : r ∈ rows := (List.mem_filter.mp (List.mem_of_getElem? er)).1
      have kt : r.nm ∈ namesR rows := List.mem_map.mpr ⟨r, rm, rfl⟩
      have hsn := fold_snoc (f := stepG) (b := (([] : List Str), has)) er
      have gl := glen i
      have gg : GoodS (((kidsR rows nm).take i).foldl stepG ([], has)).2 := greedy_good gh
      obtain ⟨acc, eacc⟩ : ∃ acc, acc = ((kidsR rows nm).take i).foldl stepG ([], has) := ⟨_, rfl⟩
      rw [← eacc] at hla hfa hsn gl gg
      have a1 : acc.1.length ≤ 12 := by
        have := gl.1
        rw [List.length_take] at this
        simp at this
        omega
      have a2 : acc.2.length ≤ 64 := Nat.le_trans gl.2 l64
      have pk2 := kept_stay pk (Same.stay sa)
      rcases kept_look r.nm pk2 with ⟨e, _⟩ | ⟨r2, v2, e3, e4, q2, dd2, ds2, rfl, g1, g2, g3, g4, av, g5, g6⟩
      · rw [look_self g rm] at e
        cases e
      · rw [look_self g rm] at e3
        cases e3
        have ga : ∀ a, r.asks = some a → GoodS a := g.asks r rm
        have la : (askL r.asks).length ≤ 64 := by
          unfold askL
          cases ea : r.asks with
          | none => exact Nat.zero_le _
          | some a => exact (ga a ea).len
        refine ⟨_, rfl, t, _, dx, fs, .ref k, rfl, sa _ _ ht, Z.cls, Z.nkept, lkK, _, rfl, k, .ref q2, rfl, by rw [← e4]; exact DGet.k (k := Sum.inr r.nm) (sa _ _ hk), _, _, _, _, rfl, rfl, SqT.of g1, rfl, ?_⟩
        refine seq_ (asg_ (or_asks (i := 6) rfl g2 g5 g6 fun A Hc sc hA => ?_))
        have skip : canA r acc.2 = false → ∀ H', Same Hb H' → ∃ x5 x6 x7 fa, [some (V.ref t), some (.str nm), some (.ref p), some (.ref l), some (.ref fb), some (.str r.nm), some (.ref dd2), some (.ref A), none] = [some (.ref t), some (.str nm), some (.ref p), some (.ref l), some (.ref fa), x5, x6, x7, none] ∧ fa ≠ l ∧ Same H H' ∧ H' l = some (.lst (zS (((kidsR rows nm).take (i + 1)).foldl stepG ([], has)).1)) ∧ H' fa = some (.lst (zI (((kidsR rows nm).take (i + 1)).foldl stepG ([], has)).2)) := fun hc H' s' => by
          rw [hsn, show stepG acc r = acc from by unfold stepG; rw [hc]; rfl]
          exact ⟨_, _, _, fb, rfl, nfl, sa.trans s', s' _ _ hla, s' _ _ hfa⟩
        refine ⟨_, rfl, dd2, .int r.mrk, rfl, by rw [← g4]; exact DGet.k (k := Sum.inr "alone") (sc _ _ g2), rfl, _, rfl, ite2 (fun c1 => ?_) (fun c1 => iteF (skip ?_ _ sc))⟩
        · refine ⟨_, rfl, line100 (by show 0 ≤ 1000; decide), ?_⟩
          walk_at "new"; rename_i E nE Hd sd hE
          refine neT (ys := []) (sd _ _ hA) hE ⟨_, rfl, ite2 (fun c2 => ?_) (fun c2 => iteF (skip ?_ _ (sc.trans sd)))⟩
          · have hAd := sd _ _ hA
            refine ⟨_, rfl, A, rfl, ⟨_, SqT.of hAd⟩, fun D nD => lc_val (n := (zI (askL r.asks)).length) (askL r.asks) (by simp) walk_tup (fun c => some (.bl (decide (c ∈ acc.2)))) nD (by rw [List.length_map]; exact small1000 (by omega)) (fun H1 s1 => SqT.of (s1 _ _ hAd)) (fun j c v H' H2 Yes No hc s1 y yes no => ?_) (fun H1 s1 e => ?_)⟩
            · obtain ⟨rfl, hv⟩ := y
              rw [List.getElem?_map, hc] at hv
              cases hv
              refine ⟨rfl, yes_ (iteT ?_)⟩
              refine ⟨_, rfl, _, rfl, in_I (.inl (SqL.of (s1 _ _ (sd _ _ (sc _ _ hfa))))) ?_⟩
              exact yes _ _ rfl (Same.refl _)
            · have e1 : H1 D = some (.lst (((askL r.asks).map fun c => decide (c ∈ acc.2)).map V.bl)) := by rw [← fm_bl]; exact e
              refine ⟨D, _, rfl, SqL.of e1, _, rfl, ?_⟩
              rw [all_map]
              refine ite2 (fun c3 => ?_) (fun c3 => iteF (skip ?_ _ (sc.trans (sd.trans s1))))
              · have s3 := sc.trans (sd.trans s1)
                refine ⟨_, rfl, fb, _, rfl, .inl (SqL.of (s3 _ _ hfa)), _, rfl, A, _, rfl, .inr (SqT.of (s1 _ _ hAd)), _, _, rfl, rfl, _, rfl, ?_⟩
                rw [List.length_map, List.length_map]
                refine ite2 (fun c4 => ?_) (fun c4 => skip ?_ _ s3)
                · have c2' : (!decide (askL r.asks = [])) = true := c2
                  have c4' : decide ((askL r.asks).length < acc.2.length) = true := decide_eq_true (Int.ofNat_lt.mp (of_decide_eq_true c4))
                  have can : canA r acc.2 = true := by
                    unfold canA
                    rw [decide_eq_true (V.int.inj (of_decide_eq_true c1)), c2', c3, c4']
                    rfl
                  rw [hsn, show stepG acc r = (acc.1 ++ [r.nm], lessL acc.2 (askL r.asks)) from by unfold stepG; rw [can]; rfl]
                  refine ⟨_, rfl, .inl ⟨rfl, _, SqL.of (s3 _ _ hla)⟩, _, rfl, l, _, _, rfl, rfl, s3 _ _ hla, small1000 (by rw [List.length_map]; omega), ?_⟩
                  walk_at "put"; rename_i He be hle
                  have hfe := be _ _ nfl (s3 _ _ hfa)
                  have hAe := be _ _ (ne_of hAd (sd _ _ (sc _ _ hla)) (by intro z; cases z)) (s1 _ _ hAd)
                  have sHe : Same H He := Same.new_put nl (sa.trans s3) be
                  refine ⟨_, rfl, fb, rfl, ⟨_, SqL.of hfe⟩, fun D2 nD2 => lc_val (n := (zI acc.2).length) acc.2 (by simp) walk_list (fun c => if (!decide (c ∈ askL r.asks)) = true then some (V.int c) else none) nD2 (by rw [List.length_map]; exact small1000 (by omega)) (fun H2 s2 => SqL.of (s2 _ _ hfe)) (fun j c v H' H2 Yes No hc s2 y yes no => ?_) (fun H2 s2 e2 => ?_)⟩
                  · obtain ⟨rfl, hv⟩ := y
                    rw [List.getElem?_map, hc] at hv
                    cases hv
                    refine ⟨rfl, ?_⟩
                    refine ⟨_, rfl, _, rfl, nin_I (.inr (SqT.of (s2 _ _ hAe))) ⟨_, rfl, ite2 (fun m => ⟨_, rfl, ?_⟩) (fun m => ?_)⟩⟩
                    · exact yes _ _ (if_pos m) (Same.refl _)
                    · exact no (if_neg m) _ (Same.refl _)
                  · rw [fm_filter] at e2
                    have hle2 : He l = some (.lst (zS (acc.1 ++ [r.nm]))) := by
                      rw [hle, show zS (acc.1 ++ [r.nm]) = zS acc.1 ++ [.str r.nm] from List.map_append]
                    exact ⟨_, _, _, D2, rfl, (ne_of_none hle nD2).symm, sHe.trans s2, s2 _ _ hle2, e2⟩
                · have c4' : decide ((askL r.asks).length < acc.2.length) = false := decide_eq_false (fun z => c4 (decide_eq_true (Int.ofNat_lt.mpr z)))
                  unfold canA
                  rw [c4', Bool.and_false, Bool.and_false, Bool.and_false]
              · have c3' := Bool.not_eq_true _ |>.mp c3
                unfold canA
                rw [c3', Bool.false_and, Bool.and_false, Bool.and_false]
          · have c2' : (!decide (askL r.asks = [])) = false := Bool.not_eq_true _ |>.mp c2
            unfold canA
            rw [c2', Bool.false_and, Bool.and_false]
        · unfold canA
          rw [decide_eq_false (fun z => c1 (decide_eq_true (congrArg V.int z)))]
          simp
    · rintro σ Ha ⟨x5, x6, x7, fb, rfl, nfl, sa, hla, hfa⟩
      have kk : (zS (kidsN rows nm)).length = (kidsR rows nm).length := by unfold kidsN; rw [List.length_map, List.length_map]
      rw [kk, List.take_length] at hla hfa
      have gl := greedy_len (kidsR rows nm) ([], has)
      refine ⟨_, rfl, _, rfl, fb, _, rfl, .inl ⟨SqL.of hfa, ?_⟩⟩
      walk_at "new"; rename_i fp nfp Hb sb hfp
      refine ⟨line100 (by show 2 ≤ 1000; decide), ?_⟩
      walk_at "new"; rename_i q nq Hc sc hq
      exact Qk q l fp _ (sa.trans (sb.trans sc)) hq (sc _ _ (sb _ _ hla)) (sc _ _ hfp)
end
end Bd

namespace Bd
open PySem PySem.Spec PyProof.Rows L2
/-! ### what each group gets -/
def mineOf (b : Bool) (free : List Int) (r : Gr) : List Int :=
  if b = true then askL r.asks else match r.asks with
    | none => free
    | some a => if free.filter (fun x => decide (x ∈ a)) = [] then free else free.filter (fun x => decide (x ∈ a))
abbrev Ent := Str × List Int × Bool
def aloneG (rows : List Gr) (nm : Str) (has : List Int) (al : Bool) : List Str × List Int := if al = true then greedy (kidsR rows nm) has else ([], has)
def entG (g : List Str × List Int) (r : Gr) : Ent := (r.nm, mineOf (decide (r.nm ∈ g.1)) g.2 r, decide (r.nm ∈ g.1))
def walkE (rows : List Gr) : Nat → Str → List Int → Bool → List Ent
  | 0, _, _, _ => []
  | j + 1, nm, has, al => (kidsR rows nm).flatMap fun r => entG (aloneG rows nm has al) r :: walkE rows j r.nm (entG (aloneG rows nm has al) r).2.1 (entG (aloneG rows nm has al) r).2.2
theorem mine_good {b : Bool} {free : List Int} {r : Gr} (h : GoodS free) (ha : ∀ a, r.asks = some a → GoodS a) : GoodS (mineOf b free r) := by
  unfold mineOf
  split
  · unfold askL
    cases e : r.asks with
    | none => exact GoodS.nil
    | some a => exact ha a e
  · split
    · exact h
    · split
      · exact h
      · exact h.filter _
theorem aloneG_good {rows : List Gr} {nm : Str} {has : List Int} {al : Bool} (h : GoodS has) : GoodS (aloneG rows nm has al).2 := by
  unfold aloneG
  split
  · exact greedy_good h
  · exact h
theorem greedy_mem {x : Str} {ks : List Gr} : ∀ {acc : List Str × List Int}, x ∈ (ks.foldl stepG acc).1 → x ∈ acc.1 ∨ ∃ r ∈ ks, r.nm = x ∧ askL r.asks ≠ [] := by
  induction ks with
  | nil => intro acc h; exact .inl h
  | cons r ks ih =>
    intro acc h
    rw [List.foldl_cons] at h
    rcases ih h with h | ⟨r2, h2, h3⟩
    · unfold stepG at h
      split at h
      · rename_i c
        rcases List.mem_append.mp h with h | h
        · exact .inl h
        · refine .inr ⟨r, List.mem_cons_self, (List.mem_singleton.mp h).symm, fun e => ?_⟩
          unfold canA at c
          rw [e] at c
          simp at c
      · exact .inl h
    · exact .inr ⟨r2, List.mem_cons_of_mem _ h2, h3⟩
theorem kid_row {rows : List Gr} {nm : Str} {r : Gr} (h : r ∈ kidsR rows nm) : r ∈ rows ∧ r.ab = nm := ⟨(List.mem_filter.mp h).1, of_decide_eq_true (List.mem_filter.mp h).2⟩
theorem alone_mem {rows : List Gr} (g : GoodRows rows) {nm : Str} {has : List Int} {al : Bool} {r : Gr} (hr : r ∈ rows) (h : r.nm ∈ (aloneG rows nm has al).1) : ∃ a, r.asks = some a ∧ a ≠ [] := by
  unfold aloneG at h
  split at h
  · rcases greedy_mem h with h | ⟨r2, h2, h3, h4⟩
    · cases h
    · have e := row_eq g (kid_row h2).1 hr h3
      subst e
      cases ea : r2.asks with
      | none => exact absurd (by rw [askL, ea]; rfl) h4
      | some a => exact ⟨a, rfl, fun z => h4 (by rw [askL, ea, z]; rfl)⟩
  · cases h
/-! ### the table of what was found -/
def putE (es : List Ent) (e : Ent) : List Ent := if (es.any fun x => decide (x.1 = e.1)) = true then es.map (fun x => if x.1 = e.1 then (x.1, e.2) else x) else es ++ [e]
def putsE (es : List Ent) (l : List Ent) : List Ent := l.foldl putE es
def FndE (H : Hp) (e : Ent) (kv : Key × V) : Prop := kv.1 = Sum.inr e.1 ∧ ∃ q p, kv.2 = .ref q ∧ H q = some (.tup [.ref p, .bl e.2.2]) ∧ H p = some (.tup (zI e.2.1))
def FoundAt (H : Hp) (f : Addr) (es : List Ent) : Prop := ∃ kvs, H f = some (.dK kvs) ∧ Paired (FndE H) es kvs
theorem FndE.stay {H H' : Hp} {e : Ent} {kv : Key × V} (h : FndE H e kv) (s : ∀ b xs, H b = some (.tup xs) → H' b = some (.tup xs)) : FndE H' e kv := by
  obtain ⟨h1, q, p, h2, h3, h4⟩ := h
  exact ⟨h1, q, p, h2, s _ _ h3, s _ _ h4⟩
theorem FoundAt.same {H H' : Hp} {f : Addr} {es : List Ent} (h : FoundAt H f es) (s : Same H H') : FoundAt H' f es := by
  obtain ⟨kvs, h1, h2⟩ := h
  exact ⟨kvs, s _ _ h1, L2.Paired.mapP h2 fun _ _ h => h.stay fun _ _ e => s _ _ e⟩
theorem But.tups {d : Addr} {H H' : Hp} {kvs : List (Key × V)} (b : But d H H') (e : H d = some (.dK kvs)) : ∀ c xs, H c = some (.tup xs) → H' c = some (.tup xs) := fun c xs h => b _ _ (fun z => by rw [z, e] at h; cases h) h
theorem prd_any {H : Hp} {nm : Str} : ∀ {es : List Ent} {kvs : List (Key × V)}, Paired (FndE H) es kvs → (kvs.any fun kv => decide (kv.1 = Sum.inr nm)) = (es.any fun x => decide (x.1 = nm))
  | _, _, .nil => rfl
  | e :: es, kv :: kvs, .cons h t => by
    rw [List.any_cons, List.any_cons, prd_any t]
    congr 1
    rw [h.1]
    by_cases z : e.1 = nm
    · rw [z, decide_eq_true rfl, decide_eq_true rfl]
    · rw [decide_eq_false z, decide_eq_false (fun y => z (Sum.inr.inj y))]
theorem prd_map {H : Hp} {nm : Str} {x : List Int × Bool} {v : V} (hv : FndE H (nm, x) (Sum.inr nm, v)) : ∀ {es : List Ent} {kvs : List (Key × V)}, Paired (FndE H) es kvs →
    Paired (FndE H) (es.map fun y => if y.1 = nm then (y.1, x) else y) (kvs.map fun kv => if kv.1 = Sum.inr nm then (kv.1, v) else kv)
  | _, _, .nil => .nil
  | e :: es, kv :: kvs, .cons h t => by
    rw [List.map_cons, List.map_cons]
    refine .cons ?_ (prd_map hv t)
    by_cases z : e.1 = nm
    · rw [if_pos z, if_pos (by rw [h.1, z])]
      exact ⟨h.1, hv.2⟩
    · rw [if_neg z, if_neg (fun y => z (Sum.inr.inj (h.1.symm.trans y)))]
      exact h
theorem prd_put {H : Hp} {e : Ent} {v : V} {es : List Ent} {kvs : List (Key × V)} (p : Paired (FndE H) es kvs) (hv : FndE H e (Sum.inr e.1, v)) : Paired (FndE H) (putE es e) (putK kvs (Sum.inr e.1) v) := by
  unfold putE putK
  rw [prd_any p]
  split
  · exact prd_map hv p
  · exact prd_append p (.cons hv .nil)
structure GoodE (rows : List Gr) (es : List Ent) : Prop where
  nd : (es.map (·.1)).Nodup
  sub : ∀ e ∈ es, e.1 ∈ namesR rows
theorem len_sub {α : Type} [DecidableEq α] : ∀ {xs ys : List α}, xs.Nodup → (∀ x ∈ xs, x ∈ ys) → xs.length ≤ ys.length
  | [], ys, _, _ => Nat.zero_le _
  | x :: r, ys, h, s => by
    obtain ⟨h1, h2⟩ := List.nodup_cons.mp h
    have hx := s x List.mem_cons_self
    have ih := len_sub (xs := r) (ys := ys.erase x) h2 fun y hy => (List.mem_erase_of_ne (fun (e : y = x) => h1 (by rw [← e]; exact hy))).mpr (s y (List.mem_cons_of_mem _ hy))
    rw [List.length_erase_of_mem hx] at ih
    have := List.length_pos_of_mem hx
    rw [List.length_cons]
    omega
theorem GoodE.len {rows : List Gr} {es : List Ent} (g : GoodE rows es) : es.length ≤ rows.length := by
  have := len_sub g.nd (ys := namesR rows) fun x hx => by
    obtain ⟨e, he, rfl⟩ := List.mem_map.mp hx
    exact g.sub e he
  rw [List.length_map, List.length_map] at this
  exact this
theorem put_keys {es : List Ent} {e : Ent} : (putE es e).map (·.1) = if e.1 ∈ es.map (·.1) then es.map (·.1) else es.map (·.1) ++ [e.1] := by
  have ha : (es.any fun x => decide (x.1 = e.1)) = decide (e.1 ∈ es.map (·.1)) := by
    rw [Bool.eq_iff_iff, List.any_eq_true, decide_eq_true_eq, List.mem_map]
    simp
  unfold putE
  rw [ha]
  by_cases z : e.1 ∈ es.map (·.1)
  · rw [if_pos z, if_pos (decide_eq_true z), List.map_map]
    refine List.map_congr_left fun x _ => ?_
    show (if x.1 = e.1 then (x.1, e.2) else x).1 = x.1
    split <;> rfl
  · rw [if_neg z, if_neg (by simp [z]), List.map_append]
    rfl
theorem GoodE.put {rows : List Gr} {es : List Ent} {e : Ent} (g : GoodE rows es) (h : e.1 ∈ namesR rows) : GoodE rows (putE es e) := by
  have nd : ((putE es e).map (·.1)).Nodup ∧ ∀ x ∈ (putE es e).map (·.1), x ∈ namesR rows := by
    have gs : ∀ x ∈ es.map (·.1), x ∈ namesR rows := fun x hx => by
      obtain ⟨y, hy, rfl⟩ := List.mem_map.mp hx
      exact g.sub y hy
    rw [put_keys]
    split
    · exact ⟨g.nd, gs⟩
    · rename_i z
      refine ⟨List.nodup_append.mpr ⟨g.nd, by simp, fun x hx y hy => ?_⟩, fun x hx => ?_⟩
      · rw [List.mem_singleton.mp hy]
        exact fun w => z (w ▸ hx)
      · rcases List.mem_append.mp hx with hx | hx
        · exact gs x hx
        · rw [List.mem_singleton.mp hx]
          exact h
  exact ⟨nd.1, fun x hx => nd.2 _ (List.mem_map.mpr ⟨x, hx, rfl⟩)⟩
theorem GoodE.puts {rows : List Gr} : ∀ {l es : List Ent}, GoodE rows es → (∀ e ∈ l, e.1 ∈ namesR rows) → GoodE rows (putsE es l)
  | [], es, g, _ => g
  | e :: l, es, g, h => GoodE.puts (l := l) (g.put (h e List.mem_cons_self)) fun x hx => h x (List.mem_cons_of_mem _ hx)
theorem walk_names {rows : List Gr} : ∀ (j : Nat) (nm : Str) (has : List Int) (al : Bool), ∀ e ∈ walkE rows j nm has al, e.1 ∈ namesR rows
  | 0, _, _, _, e, h => by cases h
  | j + 1, nm, has, al, e, h => by
    unfold walkE at h
    obtain ⟨r, hr, h⟩ := List.mem_flatMap.mp h
    rcases List.mem_cons.mp h with h | h
    · rw [h]
      exact List.mem_map.mpr ⟨r, (kid_row hr).1, rfl⟩
    · exact walk_names j _ _ _ e h
/-! ### how deep a group stands -/
def Fuel (rows : List Gr) (nm : Str) (j : Nat) : Prop := (nm = ("" : Str) ∧ 13 ≤ j) ∨ ∃ i r, rows[i]? = some r ∧ r.nm = nm ∧ 12 ≤ j + i
theorem fuel_pos {rows : List Gr} {nm : Str} (l12 : rows.length ≤ 12) (h : Fuel rows nm 0) : False := by
  rcases h with ⟨_, h⟩ | ⟨i, r, h, _, h2⟩
  · omega
  · have := (List.getElem?_eq_some_iff.mp h).1
    omega
theorem fuel_step {rows : List Gr} (g : GoodRows rows) {nm : Str} {j : Nat} {r : Gr} (h : Fuel rows nm (j + 1)) (hr : r ∈ kidsR rows nm) : Fuel rows r.nm j := by
  obtain ⟨h1, h2⟩ := kid_row hr
  obtain ⟨i, hi, ei⟩ := List.mem_iff_getElem.mp h1
  have e : rows[i]? = some r := List.getElem?_eq_some_iff.mpr ⟨hi, ei⟩
  refine .inr ⟨i, r, e, rfl, ?_⟩
  rcases h with ⟨_, h⟩ | ⟨k, r2, h, h3, h4⟩
  · omega
  · have : ¬ i ≤ k := fun z => ab_ne g h e z (h2.trans h3.symm)
    omega
theorem fuel_rel {rows : List Gr} {nm : Str} {j : Nat} (h : Fuel rows nm j) : relN rows nm := by
  rcases h with ⟨h, _⟩ | ⟨i, r, h, h2, _⟩
  · exact .inl h
  · exact .inr (List.mem_map.mpr ⟨r, List.mem_of_getElem? h, h2⟩)
/-- the rest of a block, seen from here -/
theorem abs_ {F u : TS} {D : Ends} {σ : L2.St} {H : Hp} (C : (L2.St → Hp → Prop) → Prop) (hC : C (u D)) (h : ∀ R, C R → F { D with nx := R } σ H) : tSeq F u D σ H := h _ hC
theorem name_ {i : Nat} {v : V} {σ : L2.St} {H : Hp} {k : L2.St → Hp → Prop} (h : k (σ.set i (some v)) H) : gName i v σ H k := h
end Bd

namespace Bd
open PySem PySem.Spec PyProof.Rows L2
section
variable {P : Program} {w : World} {K : PySem.W.Frag} {mg : Str → Option Value} {base : Heap}
/-! ### hand_on -/
def spHand (K : PySem.W.Frag) (j : Nat) : Sp := fun vs H Q _ => ∃ (t p f : Addr) (nm : Str) (al : Bool) (has : List Int) (rows : List Gr) (H0 : Hp) (es : List Ent), vs = [.ref t, .str nm, .ref p, .bl al, .ref f] ∧ TreeAt K H0 t rows ∧ GoodRows rows ∧ rows.length ≤ 12 ∧ Fuel rows nm j ∧
  Same H0 H ∧ H0 f = none ∧ H p = some (.tup (zI has)) ∧ GoodS has ∧ FoundAt H f es ∧ GoodE rows es ∧ ∀ H', But f H H' → FoundAt H' f (putsE es (walkE rows j nm has al)) → Q (.ref f) H'
theorem mine_alone {free : List Int} {r : Gr} {a : List Int} (h : r.asks = some a) : mineOf true free r = a := by
  unfold mineOf askL
  rw [if_pos rfl, h]
  rfl
theorem mine_free {free : List Int} {r : Gr} {m : List Int} (h : m = free.filter fun x => match r.asks with | none => true | some a => decide (x ∈ a)) : mineOf false free r = if m = [] then free else m := by
  unfold mineOf
  rw [if_neg (by decide), h]
  cases r.asks with
  | none =>
    show free = if free.filter (fun _ => true) = [] then free else free.filter (fun _ => true)
    rw [List.filter_eq_self.mpr fun _ _ => rfl]
    split <;> rfl
  | some a => rfl
theorem ok_hand_on (Z : Zs w K mg) (D : At K mg "hand_on" s_hand_on) (Cstanding : Cal P w K mg base "standing" 1 ["tree", "name", "has"] (spStand K)) : ∀ j, Cal P w K mg base "hand_on" (1 + j) ["tree", "name", "has", "is_alone", "found"] (spHand K j) := by
  refine rec_cal D sc_hand_on (fun _ _ _ _ _ _ us hl => match us, hl with | [_, _, _, _, _], _ => rfl) (fun j vs H Q E h => ?_) (fun vs H Q E h => ?_) (fun j Chand_on => fun f0 cdv A outer s H vs Q E hr h => ?_)
  · obtain ⟨t, p, f, nm, al, has, rows, H0, es, rfl, _⟩ := h
    rfl
  · obtain ⟨t, p, f, nm, al, has, rows, H0, es, _, _, _, l12, fu, _⟩ := h
    exact fuel_pos l12 fu
  · obtain ⟨t, p, f, nm, al, has, rows, H0, es, rfl, T0, g, l12, fu, s0, nf, hp, gh, fd, ge, Qk⟩ := h
    have hrec := hr
    have hu := hu_of hr
    have hrel := fuel_rel fu
    refine ⟨_, (pss_cons (ps_asg (pe_ifExp (pt_val (pv 3)) (pe_cal Cstanding (hr.mono (by omega)) rfl (pa_cons (pv 0) (pa_cons (pv 1) (pa_cons (pv 2) pa_nil)))) (pe_tup (pa_cons (pe_lst pa_nil) (pa_cons (pv 2) pa_nil)))) (pg_tup rfl (pgs_cons (pg_name (i := 5) sc_hand_on.nd rfl (.inl rfl)) (pgs_cons (pg_name (i := 6) sc_hand_on.nd rfl (.inl rfl)) pgs_nil))))
  (pss_cons (ps_for PassesOwn.never rfl (pi_list (pe_dget hu (pe_fld (pv 0) rfl) (pv 1) (fun _ _ => rfl))) (pg_name (i := 7) sc_hand_on.nd rfl (.inl rfl))
  (pss_cons (ps_set (i := 8) sc_hand_on.nd rfl (.inr rfl) (pe_dget hu (pe_ix (r := rIxT K) ix_tup (pe_dget hu (pe_fld (pv 0) rfl) (pv 7) (fun _ _ => rfl)) pe_int (fun _ _ => rfl)) pe_str (fun _ _ => rfl)))
  (pss_cons (ps_set (i := 9) sc_hand_on.nd rfl (.inl rfl) (pv 8))
  (pss_cons (ps_if (pt_cmpR (r := rIn K true) op_notIn_seq (pv 7) (pv 5) rfl) (pss_one (ps_set (i := 9) sc_hand_on.nd rfl (.inl rfl) (pe_orT (pe_callTy call_tuple_of rfl Z.tuple (by decide +kernel) (pa_cons (pe_lc (own := [("one", 10)]) rfl sc_hand_on.nd (pi_tup (pv 6)) (blkOk_by (own := [("one", 10)]) (N := N_hand_on) (sc := defScope s_hand_on) (by decide +kernel)) (fun _ _ _ _ _ => (pg_name (i := 10) sc_hand_on.nd rfl (.inl rfl))) (fun _ _ _ _ _ => (pts_one (PW.pt (pw_or (pt_cmpR op_isN (pv 8) pe_non (nomark _)) (pw_or1 (pt_cmpR (r := rIn K false) op_in_seq (pv 10) (pv 8) rfl)))))) (fun _ _ _ _ _ => (pv 10))) pa_nil)) (pe_one (pv 6))))) pss_nil)
  (pss_cons (ps_dput hu (pv 4) (pv 7) (pe_tup (pa_cons (pv 9) (pa_cons (pe_cmpR (r := rIn K false) op_in_seq (pv 7) (pv 5) rfl) pa_nil))) rfl)
  (pss_one (ps_expr (pe_cal Chand_on hrec rfl (pa_cons (pv 0) (pa_cons (pv 7) (pa_cons (pv 9) (pa_cons (pe_cmpR (r := rIn K false) op_in_seq (pv 7) (pv 5) rfl) (pa_cons (pv 4) pa_nil)))))))))))))
  (pss_one (ps_ret (pv 4))))), ?_⟩
    -- alone, free
    refine abs_ (fun R => ∀ l fr H1, Same H H1 → H1 l = some (.lst (zS (aloneG rows nm has al).1)) → H1 fr = some (.tup (zI (aloneG rows nm has al).2)) → R [some (.ref t), some (.str nm), some (.ref p), some (.bl al), some (.ref f), some (.ref l), some (.ref fr), none, none, none, none] H1) ?_ ?_
    · intro l fr H1 s1 hl hfr
      have nlf : l ≠ f := by
        obtain ⟨_, z, _⟩ := fd.same s1
        exact ne_of hl z (by intro z; cases z)
      have nff : fr ≠ f := by
        obtain ⟨_, z, _⟩ := fd.same s1
        exact ne_of hfr z (by intro z; cases z)
      have T1 := T0
      have gg : GoodS (aloneG rows nm has al).2 := aloneG_good gh
      obtain ⟨dx, fs, k, u, kvs, us, ht, lkK, lkU, hk, pk, hu0, UA⟩ := T0
      obtain ⟨lc, ulc, hlc⟩ := UA nm hrel
      have s01 := s0.trans s1
      have dgu : DGet H1 u (.str nm) (some (.ref lc)) := by rw [← ulc]; exact DGet.k (k := Sum.inr nm) (s01 _ _ hu0)
      refine ⟨_, rfl, t, _, dx, fs, .ref u, rfl, s01 _ _ ht, Z.cls, Z.nunder, lkU, _, rfl, u, .ref lc, rfl, dgu, lc, rfl, ⟨_, SqL.of (s01 _ _ hlc)⟩,
        for_it walk_list (fun i σ H' => (∃ x7 x8 x9, σ = [some (.ref t), some (.str nm), some (.ref p), some (.bl al), some (.ref f), some (.ref l), some (.ref fr), x7, x8, x9, none]) ∧ But f H1 H' ∧ FoundAt H' f (putsE es (((kidsR rows nm).take i).flatMap fun r => entG (aloneG rows nm has al) r :: walkE rows j r.nm (entG (aloneG rows nm has al) r).2.1 (entG (aloneG rows nm has al) r).2.2)))
        ⟨⟨none, none, none, rfl⟩, But.refl, fd.same s1⟩ (fun i σ H' _ ⟨_, b', _⟩ => SqL.of (b' _ _ (ne_of_none (H := H0) hlc nf) (s01 _ _ hlc))) ?_ ?_⟩
      · rintro i x σ Ha Hb hi ⟨⟨x7, x8, x9, rfl⟩, ba, fda⟩ ⟨rfl, ex⟩
        obtain ⟨r, er, rfl⟩ := kid_get ex
        have rk := List.mem_of_getElem? er
        have rm : r ∈ rows := (kid_row rk).1
        have s0b : Same H0 Hb := Same.new_put nf s01 ba
        have hl' : ∀ H', Same Hb H' → H' l = some (.lst (zS (aloneG rows nm has al).1)) := fun H' s' => s' _ _ (ba _ _ nlf hl)
        have hfr' : ∀ H', Same Hb H' → H' fr = some (.tup (zI (aloneG rows nm has al).2)) := fun H' s' => s' _ _ (ba _ _ nff hfr)
        have kt : r.nm ∈ namesR rows := List.mem_map.mpr ⟨r, rm, rfl⟩
        have gl : (aloneG rows nm has al).2.length ≤ 64 := gg.len
        generalize eg : aloneG rows nm has al = G at *
        have pk2 := kept_stay pk (Same.stay s0b)
        rcases kept_look r.nm pk2 with ⟨e, _⟩ | ⟨r2, v2, e3, e4, q2, dd2, ds2, rfl, g1, g2, g3, g4, av, g5, g6⟩
        · rw [look_self g rm] at e
          cases e
        · rw [look_self g rm] at e3
          cases e3
          refine ⟨_, rfl, t, _, dx, fs, .ref k, rfl, s0b _ _ ht, Z.cls, Z.nkept, lkK, _, rfl, k, .ref q2, rfl, by rw [← e4]; exact DGet.k (k := Sum.inr r.nm) (s0b _ _ hk), _, _, _, _, rfl, rfl, SqT.of g1, rfl, dd2, av, rfl, by rw [← g5]; exact DGet.k (k := Sum.inr "sets") g2, ?_⟩
          show tSeq (tAsg (tVar 8) (gName 9)) _ _ _ _
          refine seq_ ?_
          refine asg_ ?_
          refine ⟨_, rfl, ?_⟩
          have ga : ∀ a, r.asks = some a → GoodS a := g.asks r rm
          have hlb := hl' Hb (Same.refl _)
          have hfb := hfr' Hb (Same.refl _)
          obtain ⟨b, eb⟩ : ∃ b, b = decide (r.nm ∈ G.1) := ⟨_, rfl⟩
          have ee : entG G r = (r.nm, mineOf b G.2 r, b) := by rw [eb]; rfl
          have gm : GoodS (mineOf b G.2 r) := mine_good gg ga
          refine name_ ?_
          dsimp only
          refine abs_ (fun R => ∀ m H', Same Hb H' → H' m = some (.tup (zI (mineOf b G.2 r))) → R [some (.ref t), some (.str nm), some (.ref p), some (.bl al), some (.ref f), some (.ref l), some (.ref fr), some (.str r.nm), some av, some (.ref m), none] H') ?_ ?_
          · intro m H2 s2 hm
            -- found[child] = (mine, child in alone)
            obtain ⟨kv2, hf2, pf2⟩ := fda.same s2
            refine ⟨_, rfl, _, rfl, _, rfl, in_S (.inl (SqL.of (hl' _ s2))) ⟨line100 (by show 2 ≤ 1000; decide), ?_⟩⟩
            rw [← eb]
            walk_at "new"; rename_i q nq H3 s3 hq
            have gE : GoodE rows (putsE es (((kidsR rows nm).take i).flatMap fun r => entG G r :: walkE rows j r.nm (entG G r).2.1 (entG G r).2.2)) := by
              refine ge.puts fun e he => ?_
              obtain ⟨r2, h2, he⟩ := List.mem_flatMap.mp he
              have h3 := (kid_row (List.mem_of_mem_take h2)).1
              rcases List.mem_cons.mp he with he | he
              · rw [he]
                exact List.mem_map.mpr ⟨r2, h3, rfl⟩
              · exact walk_names _ _ _ _ _ he
            have lE := gE.len
            have lk := Paired.length pf2
            have hf3 := s3 _ _ hf2
            have hm3 := s3 _ _ hm
            refine ⟨_, rfl, _, rfl, f, _, rfl, DPut.k (k := Sum.inr r.nm) hf3 (small1000 (by omega)), ?_⟩
            walk_at "put"; rename_i H4 b4 hf4
            have tp := b4.tups hf3
            have fd4 : FoundAt H4 f (putE (putsE es (((kidsR rows nm).take i).flatMap fun r => entG G r :: walkE rows j r.nm (entG G r).2.1 (entG G r).2.2)) (entG G r)) := by
              refine ⟨_, hf4, ?_⟩
              have := prd_put (e := entG G r) (v := .ref q) (L2.Paired.mapP pf2 fun _ _ h => h.stay fun _ _ e => tp _ _ (s3 _ _ e)) ⟨rfl, q, m, rfl, by rw [ee]; exact tp _ _ hq, by rw [ee]; exact tp _ _ hm3⟩
              exact this
            have hl4 : H4 l = some (.lst (zS G.1)) := b4 _ _ nlf (hl' _ (s2.trans s3))
            have b14 : But f H1 H4 := ba.trans ((Same.but (s2.trans s3)).trans b4)
            refine ⟨_, rfl, _, rfl, _, rfl, _, rfl, _, rfl, in_S (.inl (SqL.of hl4)) ⟨_, rfl, ?_⟩⟩
            rw [← eb]
            refine ⟨t, m, f, r.nm, b, mineOf b G.2 r, rows, H0, _, rfl, T1, g, l12, fuel_step g fu rk, Same.new_put nf s01 b14, nf, tp _ _ hm3, gm, fd4, gE.put kt, fun H5 b5 fd5 => ⟨⟨_, _, _, rfl⟩, b14.trans b5, ?_⟩⟩
            rw [take_snoc er, List.flatMap_append, List.flatMap_cons, List.flatMap_nil, List.append_nil]
            unfold putsE at fd5 ⊢
            rw [List.foldl_append, List.foldl_cons, ee]
            rw [ee] at fd5
            exact fd5
          · intro R hR
            refine ⟨_, rfl, _, rfl, nin_S (.inl (SqL.of hlb)) ⟨_, rfl, ite2 (fun c => ?_) (fun c => ?_)⟩⟩
            · have b0 : b = false := by
                rw [eb]
                cases z : decide (r.nm ∈ G.1) with
                | true => rw [z] at c; cases c
                | false => rfl
              subst b0
              obtain ⟨fm, efm⟩ : ∃ fm, fm = G.2.filter fun x => match r.asks with | none => true | some a => decide (x ∈ a) := ⟨_, rfl⟩
              rw [mine_free efm] at hR
              refine ⟨_, rfl, fr, rfl, ⟨_, SqT.of hfb⟩, fun D nD => lc_val (n := (zI G.2).length) G.2 (by simp) walk_tup (fun x => if (match r.asks with | none => true | some a => decide (x ∈ a)) = true then some (V.int x) else none) nD (by rw [List.length_map]; exact small1000 (by omega)) (fun H2 s2 => SqT.of (s2 _ _ hfb)) (fun j x v H' H2 Yes No hc s2 y yes no => ?_) (fun H2 s2 e2 => ?_)⟩
              · obtain ⟨rfl, hv⟩ := y
                rw [List.getElem?_map, hc] at hv
                cases hv
                refine ⟨rfl, ?_⟩
                replace g6 := g6.stay (Same.stay s2)
                cases ea : r.asks with
                | none =>
                  rw [ea] at g6 yes
                  cases (show av = .non from g6)
                  exact ⟨_, rfl, rfl, true, rfl, iteT (iteT ⟨_, rfl, yes _ _ rfl (Same.refl _)⟩)⟩
                | some a =>
                  rw [ea] at g6 yes no
                  obtain ⟨pa, rfl, hpa⟩ := g6
                  refine ⟨_, rfl, rfl, false, rfl, iteF ⟨_, rfl, _, rfl, in_I (.inr (SqT.of hpa)) ⟨_, rfl, ite2 (fun m => ⟨_, rfl, ?_⟩) (fun m => ?_)⟩⟩⟩
                  · exact yes _ _ (if_pos m) (Same.refl _)
                  · exact no (if_neg m) _ (Same.refl _)
              · rw [fm_filter, ← efm] at e2
                refine ⟨D, _, rfl, .inl ⟨SqL.of e2, ?_⟩⟩
                walk_at "new"; rename_i m nm3 H3 s3 hm
                refine ⟨!(zI fm).isEmpty, .inr (.inl ⟨_, SqT.of hm, rfl⟩), ?_⟩
                cases fm with
                | nil => exact iteF ⟨_, rfl, hR fr _ (s2.trans s3) (s3 _ _ (s2 _ _ hfb))⟩
                | cons x y => exact iteT (hR m _ (s2.trans s3) hm)
            · have b1 : b = true := by
                rw [eb]
                cases z : decide (r.nm ∈ G.1) with
                | true => rfl
                | false => rw [z] at c; exact absurd rfl c
              subst b1
              obtain ⟨a, ea, _⟩ := alone_mem (has := has) (al := al) (nm := nm) g rm (by rw [eg]; exact of_decide_eq_true eb.symm)
              rw [ea] at g6
              obtain ⟨pa, rfl, hpa⟩ := g6
              rw [mine_alone ea] at hR
              exact hR pa _ (Same.refl _) hpa
      · rintro σ Ha ⟨⟨x7, x8, x9, rfl⟩, ba, fda⟩
        have kk : (zS (kidsN rows nm)).length = (kidsR rows nm).length := by unfold kidsN; rw [List.length_map, List.length_map]
        rw [kk, List.take_length] at fda
        exact ⟨_, rfl, Qk _ ((Same.but s1).trans ba) fda⟩
    · intro R hR
      cases al with
      | true =>
        refine ⟨_, rfl, true, rfl, iteT ?_⟩
        refine ⟨_, rfl, _, rfl, _, rfl, t, p, nm, rows, has, rfl, T0.same s0, g, l12, hrel, hp, gh, fun q l fr H' s' hq hl hf => ?_⟩
        exact ⟨q, _, rfl, SqT.of hq, rfl, _, _, rfl, _, _, rfl, rfl, hR l fr H' s' hl hf⟩
      | false =>
        refine ⟨_, rfl, false, rfl, iteF ?_⟩
        refine ⟨line100 (by show 0 ≤ 1000; decide), ?_⟩
        walk_at "new"; rename_i l nl H1 s1 hl
        refine ⟨_, rfl, line100 (by show 2 ≤ 1000; decide), ?_⟩
        walk_at "new"; rename_i q nq H2 s2 hq
        exact ⟨q, _, rfl, SqT.of hq, rfl, _, _, rfl, _, _, rfl, rfl, hR l p H2 (s1.trans s2) (s2 _ _ hl) (s2 _ _ (s1 _ _ hp))⟩
end
end Bd

namespace Bd
open PySem PySem.Spec PyProof.Rows L2
/-! ### the whole walk -/
def wholeE (rows : List Gr) (xs : List Int) : List Ent := walkE rows 13 ("" : Str) xs true
def foundE (rows : List Gr) (xs : List Int) : List Ent := putsE [] (wholeE rows xs)
inductive CallW (rows : List Gr) (xs : List Int) : Nat → Str → List Int → Bool → Prop
  | root : CallW rows xs 13 ("" : Str) xs true
  | step {j : Nat} {nm : Str} {has : List Int} {al : Bool} {r : Gr} : CallW rows xs (j + 1) nm has al → r ∈ kidsR rows nm → CallW rows xs j r.nm (entG (aloneG rows nm has al) r).2.1 (entG (aloneG rows nm has al) r).2.2
inductive IsVal (rows : List Gr) (xs : List Int) : Str → List Int → Bool → Prop
  | root : IsVal rows xs ("" : Str) xs true
  | step {nm : Str} {has : List Int} {al : Bool} {r : Gr} : IsVal rows xs nm has al → r ∈ kidsR rows nm → IsVal rows xs r.nm (entG (aloneG rows nm has al) r).2.1 (entG (aloneG rows nm has al) r).2.2
theorem ent_in {rows : List Gr} {j : Nat} {nm : Str} {has : List Int} {al : Bool} {r : Gr} (h : r ∈ kidsR rows nm) : entG (aloneG rows nm has al) r ∈ walkE rows (j + 1) nm has al := by
  unfold walkE
  exact List.mem_flatMap.mpr ⟨r, h, List.mem_cons_self⟩
theorem call_sub {rows : List Gr} {xs : List Int} {j : Nat} {nm : Str} {has : List Int} {al : Bool} (c : CallW rows xs j nm has al) : ∀ e ∈ walkE rows j nm has al, e ∈ wholeE rows xs := by
  induction c with
  | root => exact fun e h => h
  | step c hr ih =>
    intro e h
    refine ih e ?_
    rw [walkE]
    exact List.mem_flatMap.mpr ⟨_, hr, List.mem_cons_of_mem _ h⟩
theorem call_all {rows : List Gr} (g : GoodRows rows) (l12 : rows.length ≤ 12) (xs : List Int) : ∀ (n i : Nat) (r : Gr), i < n → rows[i]? = some r → ∃ j m b, CallW rows xs j r.nm m b ∧ 12 ≤ j + i ∧ ((r.nm, m, b) : Ent) ∈ wholeE rows xs
  | 0, i, r, h, _ => absurd h (Nat.not_lt_zero _)
  | n + 1, i, r, h, e => by
    have hi := (List.getElem?_eq_some_iff.mp e).1
    have rm := List.mem_of_getElem? e
    have kid : ∀ nm, r.ab = nm → r ∈ kidsR rows nm := fun nm z => List.mem_filter.mpr ⟨rm, decide_eq_true z⟩
    rcases g.abv i r e with z | z
    · have hk := kid _ z
      exact ⟨12, _, _, .step .root hk, by omega, call_sub .root _ (ent_in hk)⟩
    · obtain ⟨r2, h2, e2⟩ := List.mem_map.mp z
      obtain ⟨k, hk, ek⟩ := List.mem_iff_getElem.mp h2
      rw [List.length_take] at hk
      rw [List.getElem_take] at ek
      have e3 : rows[k]? = some r2 := List.getElem?_eq_some_iff.mpr ⟨by omega, ek⟩
      obtain ⟨j, m, b, c, lj, _⟩ := call_all g l12 xs n k r2 (by omega) e3
      obtain ⟨j', rfl⟩ : ∃ j', j = j' + 1 := ⟨j - 1, by omega⟩
      have hk2 := kid _ e2.symm
      exact ⟨j', _, _, .step c hk2, by omega, call_sub c _ (ent_in hk2)⟩
theorem put_mem {es : List Ent} {e x : Ent} (h : x ∈ putE es e) : x ∈ es ∨ x = e := by
  unfold putE at h
  split at h
  · obtain ⟨y, hy, e2⟩ := List.mem_map.mp h
    split at e2
    · rename_i z
      right
      rw [← e2, z]
    · left
      rw [← e2]
      exact hy
  · rcases List.mem_append.mp h with h | h
    · exact .inl h
    · exact .inr (List.mem_singleton.mp h)
theorem puts_mem {x : Ent} : ∀ {l es : List Ent}, x ∈ putsE es l → x ∈ es ∨ x ∈ l
  | [], es, h => .inl h
  | e :: l, es, h => by
    rcases puts_mem (l := l) (es := putE es e) h with h | h
    · rcases put_mem h with h | h
      · exact .inl h
      · exact .inr (by rw [h]; exact List.mem_cons_self)
    · exact .inr (List.mem_cons_of_mem _ h)
theorem puts_keys {x : Str} : ∀ {l es : List Ent}, x ∈ es.map (·.1) ∨ x ∈ l.map (·.1) → x ∈ (putsE es l).map (·.1)
  | [], es, h => h.elim id fun z => nomatch z
  | e :: l, es, h => by
    refine puts_keys (l := l) (es := putE es e) ?_
    rw [put_keys]
    rcases h with h | h
    · left
      split
      · exact h
      · exact List.mem_append_left _ h
    · rw [List.map_cons] at h
      rcases List.mem_cons.mp h with h | h
      · left
        split
        · rw [h]; assumption
        · rw [h]; exact List.mem_append_right _ List.mem_cons_self
      · exact .inr h
theorem found_good {rows : List Gr} {xs : List Int} : GoodE rows (foundE rows xs) := GoodE.puts ⟨.nil, fun _ h => nomatch h⟩ (walk_names _ _ _ _)
theorem found_all {rows : List Gr} (g : GoodRows rows) (l12 : rows.length ≤ 12) {xs : List Int} {nm : Str} (h : nm ∈ namesR rows) : nm ∈ (foundE rows xs).map (·.1) := by
  obtain ⟨r, hr, rfl⟩ := List.mem_map.mp h
  obtain ⟨i, hi, ei⟩ := List.mem_iff_getElem.mp hr
  obtain ⟨j, m, b, _, _, hm⟩ := call_all g l12 xs (i + 1) i r (by omega) (List.getElem?_eq_some_iff.mpr ⟨hi, ei⟩)
  exact puts_keys (.inr (List.mem_map.mpr ⟨_, hm, rfl⟩))
theorem walk_val {rows : List Gr} {xs : List Int} : ∀ {j : Nat} {nm : Str} {has : List Int} {al : Bool}, IsVal rows xs nm has al → ∀ e ∈ walkE rows j nm has al, IsVal rows xs e.1 e.2.1 e.2.2
  | 0, _, _, _, _, e, h => by cases h
  | j + 1, nm, has, al, v, e, h => by
    unfold walkE at h
    obtain ⟨r, hr, h⟩ := List.mem_flatMap.mp h
    rcases List.mem_cons.mp h with h | h
    · rw [h]
      exact .step v hr
    · exact walk_val (.step v hr) e h
theorem found_val {rows : List Gr} {xs : List Int} {e : Ent} (h : e ∈ foundE rows xs) : IsVal rows xs e.1 e.2.1 e.2.2 := by
  rcases puts_mem h with h | h
  · cases h
  · exact walk_val .root e h
theorem val_one {rows : List Gr} (g : GoodRows rows) {xs : List Int} {nm : Str} {h1 : List Int} {b1 : Bool} (a : IsVal rows xs nm h1 b1) : ∀ {h2 : List Int} {b2 : Bool}, IsVal rows xs nm h2 b2 → h1 = h2 ∧ b1 = b2 := by
  have key : ∀ {nm : Str} {h1 : List Int} {b1 : Bool}, IsVal rows xs nm h1 b1 → ∀ {nm2 : Str} {h2 : List Int} {b2 : Bool}, IsVal rows xs nm2 h2 b2 → nm = nm2 → h1 = h2 ∧ b1 = b2 := by
    intro nm h1 b1 a
    induction a with
    | root =>
      intro nm2 h2 b2 b e
      cases b with
      | root => exact ⟨rfl, rfl⟩
      | step v hr => exact absurd e.symm (okName_ne (g.nms _ (kid_row hr).1))
    | step v hr ih =>
      intro nm2 h2 b2 b e
      cases b with
      | root => exact absurd e (okName_ne (g.nms _ (kid_row hr).1))
      | step v2 hr2 =>
        have er := row_eq g (kid_row hr).1 (kid_row hr2).1 e
        subst er
        obtain ⟨q1, q2⟩ := ih v2 ((kid_row hr).2.symm.trans (kid_row hr2).2)
        have en := (kid_row hr).2.symm.trans (kid_row hr2).2
        subst en
        rw [q1, q2]
        exact ⟨rfl, rfl⟩
  intro h2 b2 b
  exact key a b rfl
/-! ### looking up -/
def valE (es : List Ent) (nm : Str) : List Int × Bool := ((es.find? fun e => decide (e.1 = nm)).map (·.2)).getD ([], false)
theorem val_in {es : List Ent} {nm : Str} (h : nm ∈ es.map (·.1)) : (nm, valE es nm) ∈ es := by
  unfold valE
  cases e : es.find? (fun e => decide (e.1 = nm)) with
  | none =>
    obtain ⟨y, hy, e2⟩ := List.mem_map.mp h
    have := List.find?_eq_none.mp e y hy
    simp [e2] at this
  | some y =>
    have h0 := List.find?_some e
    have h1 : y.1 = nm := of_decide_eq_true h0
    have h2 := List.mem_of_find?_eq_some e
    show (nm, y.2) ∈ es
    rw [← h1]
    exact h2
theorem val_here {es : List Ent} (nd : (es.map (·.1)).Nodup) {e : Ent} (h : e ∈ es) : valE es e.1 = e.2 := by
  have h2 := val_in (es := es) (nm := e.1) (List.mem_map.mpr ⟨e, h, rfl⟩)
  obtain ⟨i, hi, ei⟩ := List.mem_iff_getElem.mp h
  obtain ⟨j, hj, ej⟩ := List.mem_iff_getElem.mp h2
  have e2 : (es.map (·.1))[i]'(by rw [List.length_map]; exact hi) = (es.map (·.1))[j]'(by rw [List.length_map]; exact hj) := by rw [List.getElem_map, List.getElem_map, ei, ej]
  have := (List.getElem_inj nd).mp e2
  subst this
  rw [ei] at ej
  rw [ej]
theorem found_look {H : Hp} {nm : Str} : ∀ {es : List Ent} {kvs : List (Key × V)}, Paired (FndE H) es kvs → nm ∈ es.map (·.1) → ∃ q p, valV kvs (Sum.inr nm) = some (.ref q) ∧ H q = some (.tup [.ref p, .bl (valE es nm).2]) ∧ H p = some (.tup (zI (valE es nm).1))
  | _, _, .nil, h => nomatch h
  | e :: es, kv :: kvs, .cons h t, hm => by
    by_cases z : e.1 = nm
    · obtain ⟨h1, q, p, h2, h3, h4⟩ := h
      refine ⟨q, p, ?_, ?_, ?_⟩
      · rw [valV_pos (by rw [h1, z]), h2]
      · unfold valE
        rw [List.find?_cons_of_pos (by simp [z])]
        exact h3
      · unfold valE
        rw [List.find?_cons_of_pos (by simp [z])]
        exact h4
    · have hm2 : nm ∈ es.map (·.1) := by
        rw [List.map_cons] at hm
        exact (List.mem_cons.mp hm).resolve_left fun y => z y.symm
      have e2 : valE (e :: es) nm = valE es nm := by
        unfold valE
        rw [List.find?_cons_of_neg (by simp [z])]
      rw [valV_neg (fun y => z (Sum.inr.inj (h.1.symm.trans y))), e2]
      exact found_look t hm2
/-- the value of a child -/
theorem val_kid {rows : List Gr} (g : GoodRows rows) (l12 : rows.length ≤ 12) {xs : List Int} {nm : Str} {own : List Int} {al : Bool} (v : IsVal rows xs nm own al) {r : Gr} (hr : r ∈ kidsR rows nm) : valE (foundE rows xs) r.nm = (entG (aloneG rows nm own al) r).2 := by
  have h := val_in (found_all g l12 (xs := xs) (List.mem_map.mpr ⟨r, (kid_row hr).1, rfl⟩))
  obtain ⟨h1, h2⟩ := val_one g (found_val h) (.step v hr)
  exact Prod.ext h1 h2
theorem val_is {rows : List Gr} (g : GoodRows rows) (l12 : rows.length ≤ 12) {xs : List Int} {nm : Str} (h : nm ∈ namesR rows) : IsVal rows xs nm (valE (foundE rows xs) nm).1 (valE (foundE rows xs) nm).2 := found_val (val_in (found_all g l12 h))
theorem val_good {rows : List Gr} (g : GoodRows rows) {xs : List Int} (gx : GoodS xs) {nm : Str} {m : List Int} {b : Bool} (v : IsVal rows xs nm m b) : GoodS m := by
  induction v with
  | root => exact gx
  | step v hr ih => exact mine_good (aloneG_good ih) (g.asks _ (kid_row hr).1)
end Bd

namespace Bd
open PySem PySem.Spec PyProof.Rows L2
/-! ### a table of sets -/
def MapE (H : Hp) (e : Str × List Int) (kv : Key × V) : Prop := kv.1 = Sum.inr e.1 ∧ ∃ p, kv.2 = .ref p ∧ H p = some (.tup (zI e.2))
def MapAt (H : Hp) (d : Addr) (ps : List (Str × List Int)) : Prop := ∃ kvs, H d = some (.dK kvs) ∧ Paired (MapE H) ps kvs
theorem MapAt.same {H H' : Hp} {d : Addr} {ps : List (Str × List Int)} (h : MapAt H d ps) (s : Same H H') : MapAt H' d ps := by
  obtain ⟨kvs, h1, h2⟩ := h
  exact ⟨kvs, s _ _ h1, L2.Paired.mapP h2 fun _ _ ⟨z, p, e, h⟩ => ⟨z, p, e, s _ _ h⟩⟩
theorem val_none {H : Hp} {nm : Str} : ∀ {ps : List (Str × List Int)} {kvs : List (Key × V)}, Paired (MapE H) ps kvs → nm ∉ ps.map (·.1) → valV kvs (Sum.inr nm) = none
  | _, _, .nil, _ => rfl
  | e :: ps, kv :: kvs, .cons h t, hn => by
    rw [List.map_cons] at hn
    have h1 : e.1 ≠ nm := fun z => hn (by rw [z]; exact List.mem_cons_self)
    rw [valV_neg (fun y => h1 (Sum.inr.inj (h.1.symm.trans y)))]
    exact val_none t fun z => hn (List.mem_cons_of_mem _ z)
theorem merge_nd {H : Hp} : ∀ {ps qs : List (Str × List Int)} {kvs acc : List (Key × V)}, Paired (MapE H) ps kvs → Paired (MapE H) qs acc → ((qs ++ ps).map (·.1)).Nodup → mergeK acc kvs = acc ++ kvs
  | _, qs, _, acc, .nil, _, _ => by
    show acc = acc ++ []
    rw [List.append_nil]
  | e :: ps, qs, kv :: kvs, acc, .cons h t, hq, nd => by
    have nq : e.1 ∉ qs.map (·.1) := by
      rw [List.map_append, List.map_cons] at nd
      exact fun z => (List.nodup_append.mp nd).2.2 _ z _ List.mem_cons_self rfl
    have e1 : putK acc kv.1 kv.2 = acc ++ [kv] := by rw [h.1, putK_new _ (val_none hq nq), ← h.1]
    show mergeK (putK acc kv.1 kv.2) kvs = _
    rw [e1]
    have := merge_nd (qs := qs ++ [e]) t (prd_append hq (.cons h .nil)) (by rw [List.append_assoc]; exact nd)
    rw [this, List.append_assoc]
    rfl
theorem merge_map {H : Hp} {ps : List (Str × List Int)} {kvs : List (Key × V)} (p : Paired (MapE H) ps kvs) (nd : (ps.map (·.1)).Nodup) : mergeK [] kvs = kvs := by
  have := merge_nd (qs := []) p .nil nd
  rw [this]
  rfl
/-- a pair (name, set) -/
def PairIs (nm : Str) (xs : List Int) (H : Hp) (y : V) : Prop := ∃ q m, y = .ref q ∧ H q = some (.tup [.str nm, .ref m]) ∧ H m = some (.tup (zI xs))
theorem PairIs.stay {nm : Str} {xs : List Int} {H H' : Hp} {y : V} (h : PairIs nm xs H y) (s : Stay H H') : PairIs nm xs H' y := by
  obtain ⟨q, m, e, h1, h2⟩ := h
  exact ⟨q, m, e, s _ _ h1 (fun l z => nomatch z), s _ _ h2 (fun l z => nomatch z)⟩
theorem pairs_out {K : PySem.W.Frag} {H : Hp} {α : Type} {nf : α → Str} {vf : α → List Int} : ∀ {l : List α} {ys : List V}, Paired (fun r y => PairIs (nf r) (vf r) H y) l ys →
    ∃ (ps : List Addr) (kvs : List (Key × V)), ys = ps.map V.ref ∧ Paired (fun p kv => SqT K H p [kV kv.1, kv.2]) ps kvs ∧ Paired (MapE H) (l.map fun r => (nf r, vf r)) kvs
  | _, _, .nil => ⟨[], [], rfl, .nil, .nil⟩
  | r :: l, y :: ys, .cons h t => by
    obtain ⟨ps, kvs, e, h1, h2⟩ := pairs_out (K := K) t
    obtain ⟨q, m, rfl, h3, h4⟩ := h
    exact ⟨q :: ps, (Sum.inr (nf r), .ref m) :: kvs, by rw [e]; rfl, .cons (SqT.of h3) h1, .cons ⟨rfl, m, rfl, h4⟩ h2⟩
section
variable {P : Program} {w : World} {K : PySem.W.Frag} {mg : Str → Option Value} {base : Heap}
/-! ### all_sets, sets, stands_alone -/
structure Asked (K : PySem.W.Frag) (H : Hp) (t p : Addr) (rows : List Gr) (xs : List Int) : Prop where
  t_ : TreeAt K H t rows
  g : GoodRows rows
  l : rows.length ≤ 12
  p_ : H p = some (.tup (zI xs))
  gx : GoodS xs
  ne : xs ≠ []
def spAll (K : PySem.W.Frag) : Sp := fun vs H Q _ => ∃ (t p : Addr) (rows : List Gr) (xs : List Int), vs = [.ref t, .ref p] ∧ Asked K H t p rows xs ∧ ∀ f H', H f = none → Same H H' → FoundAt H' f (foundE rows xs) → Q (.ref f) H'
theorem ok_all_sets (Z : Zs w K mg) (D : At K mg "all_sets" s_all_sets) (Ccheck_tree : Cal P w K mg base "check_tree" 1 ["tree"] (spCheck K)) (Cis_set : Cal P w K mg base "is_set" 2 ["thing"] spSet)
    (Chand_on : Cal P w K mg base "hand_on" 14 ["tree", "name", "has", "is_alone", "found"] (spHand K 13)) : Cal P w K mg base "all_sets" 15 ["tree", "whole"] (spAll K) := by
  refine mk_cal D sc_all_sets (fun _ _ _ _ _ _ us hl => match us, hl with | [_, _], _ => rfl) (fun vs H Q E h => ?_) (fun f cdv A outer s H vs Q E hr h => ?_)
  · obtain ⟨t, p, rows, xs, rfl, _⟩ := h
    rfl
  · obtain ⟨t, p, rows, xs, rfl, a, Qk⟩ := h
    have hu := hu_of hr
    refine ⟨_, (pss_cons (ps_expr (pe_cal Ccheck_tree (hr.mono (by decide)) rfl (pa_cons (pv 0) pa_nil)))
  (pss_cons (ps_if (PW.pt (pw_or (pt_not (pt_val (pe_cal Cis_set (hr.mono (by decide)) rfl (pa_cons (pv 1) pa_nil)))) (pw_or1 (pt_cmpR (r := rEqD K) (op_eqD hr.units) (pv 1) (pe_tup pa_nil) (nomark _))))) pss_never pss_nil)
  (pss_one (ps_ret (pe_cal Chand_on (hr.mono (by decide)) rfl (pa_cons (pv 0) (pa_cons pe_str (pa_cons (pv 1) (pa_cons pe_bl (pa_cons pe_dnewK pa_nil)))))))))), ?_⟩
    have T0 := a.t_
    obtain ⟨dx, fs, _, _, _, _, ht, _⟩ := a.t_
    refine ⟨_, rfl, t, dx, fs, rfl, ht, ?_⟩
    refine ⟨_, rfl, p, xs, rfl, a.p_, a.gx, fun H1 s1 => ⟨true, rfl, iteF ?_⟩⟩
    refine ⟨_, rfl, line100 (by show 0 ≤ 1000; decide), ?_⟩
    walk_at "new"; rename_i E nE H2 s2 hE
    refine eqT (ys := []) (s2 _ _ (s1 _ _ a.p_)) hE ⟨false, by rw [decide_eq_false a.ne], iteF ?_⟩
    refine ⟨_, rfl, _, rfl, ?_⟩
    walk_at "new"; rename_i f nf H3 s3 hf
    have s12 := s1.trans s2
    have s13 := s12.trans s3
    refine ⟨t, p, f, ("" : Str), true, xs, rows, H, [], rfl, T0, a.g, a.l, .inl ⟨rfl, Nat.le_refl _⟩, s13, Same.free s12 nf, s13 _ _ a.p_, a.gx, ⟨_, hf, .nil⟩, ⟨.nil, fun _ h => nomatch h⟩, fun H4 b4 fd => ?_⟩
    exact Qk f H4 (Same.free s12 nf) (Same.new_put (Same.free s12 nf) s13 b4) fd
def spSets (K : PySem.W.Frag) : Sp := fun vs H Q _ => ∃ (t p : Addr) (rows : List Gr) (xs : List Int), vs = [.ref t, .ref p] ∧ Asked K H t p rows xs ∧ ∀ d H', Same H H' → MapAt H' d (rows.map fun r => (r.nm, (valE (foundE rows xs) r.nm).1)) → Q (.ref d) H'
theorem ok_sets (Z : Zs w K mg) (D : At K mg "sets" s_sets) (Call_sets : Cal P w K mg base "all_sets" 15 ["tree", "whole"] (spAll K)) : Cal P w K mg base "sets" 16 ["tree", "whole"] (spSets K) := by
  refine mk_cal D sc_sets (fun _ _ _ _ _ _ us hl => match us, hl with | [_, _], _ => rfl) (fun vs H Q E h => ?_) (fun f0 cdv A outer s H vs Q E hr h => ?_)
  · obtain ⟨t, p, rows, xs, rfl, _⟩ := h
    rfl
  · obtain ⟨t, p, rows, xs, rfl, a, Qk⟩ := h
    have hu := hu_of hr
    have all := fun nm (h : nm ∈ namesR rows) => found_all a.g a.l (xs := xs) h
    refine ⟨_, (pss_cons (ps_set (i := 2) sc_sets.nd rfl (.inr rfl) (pe_cal Call_sets (hr.mono (by decide)) rfl (pa_cons (pv 0) (pa_cons (pv 1) pa_nil))))
  (pss_one (ps_ret (pe_callTy (call_dictP rfl) rfl Z.dict (by decide +kernel) (pa_cons (pe_lock (pe_lc (own := [("name", 3)]) rfl sc_sets.nd (pi_keys (pe_fld (pv 0) rfl)) (blkOk_by (own := [("name", 3)]) (N := N_sets) (sc := defScope s_sets) (by decide +kernel)) (fun _ _ _ _ _ => (pg_name (i := 3) sc_sets.nd rfl (.inl rfl))) (fun _ _ _ _ _ => pts_nil) (fun _ _ _ _ _ => (pe_tup (pa_cons (pv 3) (pa_cons (pe_ix (r := rIxT K) ix_tup (pe_dget hu (pv 2) (pv 3) (fun _ _ => rfl)) pe_int (fun _ _ => rfl)) pa_nil)))))) pa_nil))))), ?_⟩
    refine ⟨_, rfl, _, rfl, t, p, rows, xs, rfl, a, fun f H1 nf s1 fd => ?_⟩
    obtain ⟨dx, fs, k, u, kvs, us, ht, lkK, lkU, hk, pk, hu0, UA⟩ := a.t_
    have hk1 := s1 _ _ hk
    have ht1 := s1 _ _ ht
    obtain ⟨fkv, hf, pf⟩ := fd
    refine ⟨k, .dK kvs, hk1, trivial, fun od => ?_⟩
    walk_at "put"; rename_i H2 b2 hk2
    have tk : t ≠ k := ne_of ht hk (by intro z; cases z)
    have fk : f ≠ k := (ne_of_none hk nf).symm
    have ht2 := b2 _ _ tk ht1
    have hf2 := b2 _ _ fk hf
    have lk := Paired.length pk
    have st2 : ∀ b xs, H1 b = some (.tup xs) → H2 b = some (.tup xs) := fun b xs e => b2 _ _ (fun z => by rw [z, hk1] at e; cases e) e
    refine ⟨_, rfl, t, _, dx, fs, .ref k, rfl, ht2, Z.cls, Z.nkept, lkK, k, od, rfl, .inl ⟨kvs, hk2, fun D nD => lc_rel (n := kvs.length) rows lk walk_keys (fun _ => true) (fun r y H' => PairIs r.nm (valE (foundE rows xs) r.nm).1 H' y) (fun r y H' H'' h s => h.stay s) nD (small1000 (by have := a.l; omega)) (fun H3 s3 => s3 _ _ hk2) (fun i r v H' H3 Yes No hc s3 y yes no => ?_) (fun H3 ys s3 e3 pr => ?_)⟩⟩
    · obtain ⟨rfl, kk, v, ekv, rfl⟩ := y
      obtain ⟨r2, er, ekk, _⟩ := prd_get pk ekv
      cases ekk
      rw [hc] at er
      cases er
      obtain ⟨q, m, g1, g2, g3⟩ := found_look pf (all r.nm (List.mem_map.mpr ⟨r, List.mem_of_getElem? hc, rfl⟩))
      have hq := s3 _ _ (st2 _ _ g2)
      have hm := s3 _ _ (st2 _ _ g3)
      refine ⟨rfl, yes_ (iteT ?_)⟩
      refine ⟨_, rfl, _, rfl, _, rfl, f, .ref q, rfl, by rw [← g1]; exact DGet.k (k := Sum.inr r.nm) (s3 _ _ hf2), _, _, _, _, rfl, rfl, SqT.of hq, rfl, line100 (by show 2 ≤ 1000; decide), ?_⟩
      walk_at "new"; rename_i T nT H4 s4 hT
      exact yes rfl _ _ ⟨T, m, rfl, hT, s4 _ _ hm⟩ s4
    · rw [List.filter_eq_self.mpr (fun _ _ => rfl)] at pr
      refine ⟨s3 _ _ hk2, ?_⟩
      walk_at "put"; rename_i H4 b4 hk4
      have st4 : Stay H3 H4 ∨ True := .inr trivial
      obtain ⟨ps, kv2, rfl, p1, p2⟩ := pairs_out (K := K) (L2.Paired.mapP pr fun r y h => (by
        obtain ⟨q, m, e, h1, h2⟩ := h
        exact ⟨q, m, e, b4 _ _ (fun z => by rw [z, s3 _ _ hk2] at h1; cases h1) h1, b4 _ _ (fun z => by rw [z, s3 _ _ hk2] at h2; cases h2) h2⟩ : PairIs r.nm (valE (foundE rows xs) r.nm).1 H4 y))
      have Dk : D ≠ k := (ne_of_none hk2 nD).symm
      refine ⟨D, ps, kv2, rfl, SqL.of (b4 _ _ Dk e3), p1, ?_⟩
      walk_at "new"; rename_i d nd5 H5 s5 hd
      have s04 : Same H H4 := fun b o e => by
        by_cases z : b = k
        · rw [z] at e ⊢
          rw [hk] at e
          cases e
          exact hk4
        · exact b4 _ _ z (s3 _ _ (b2 _ _ z (s1 _ _ e)))
      have nds : ((rows.map fun r => (r.nm, (valE (foundE rows xs) r.nm).1)).map (·.1)).Nodup := by
        rw [List.map_map]
        exact a.g.nd
      rw [merge_map p2 nds] at hd
      exact Qk d H5 (s04.trans s5) ⟨_, hd, L2.Paired.mapP p2 fun _ _ ⟨z, p, e, h⟩ => ⟨z, p, e, s5 _ _ h⟩⟩
def spAlone (K : PySem.W.Frag) : Sp := fun vs H Q _ => ∃ (t p : Addr) (rows : List Gr) (xs : List Int), vs = [.ref t, .ref p] ∧ Asked K H t p rows xs ∧ ∀ l H', Same H H' → H' l = some (.lst (zS ((rows.filter fun r => (valE (foundE rows xs) r.nm).2).map (·.nm)))) → Q (.ref l) H'
theorem ok_stands_alone (Z : Zs w K mg) (D : At K mg "stands_alone" s_stands_alone) (Call_sets : Cal P w K mg base "all_sets" 15 ["tree", "whole"] (spAll K)) : Cal P w K mg base "stands_alone" 16 ["tree", "whole"] (spAlone K) := by
  refine mk_cal D sc_stands_alone (fun _ _ _ _ _ _ us hl => match us, hl with | [_, _], _ => rfl) (fun vs H Q E h => ?_) (fun f0 cdv A outer s H vs Q E hr h => ?_)
  · obtain ⟨t, p, rows, xs, rfl, _⟩ := h
    rfl
  · obtain ⟨t, p, rows, xs, rfl, a, Qk⟩ := h
    have hu := hu_of hr
    have all := fun nm (h : nm ∈ namesR rows) => found_all a.g a.l (xs := xs) h
    refine ⟨_, (pss_cons (ps_set (i := 2) sc_stands_alone.nd rfl (.inr rfl) (pe_cal Call_sets (hr.mono (by decide)) rfl (pa_cons (pv 0) (pa_cons (pv 1) pa_nil))))
  (pss_one (ps_ret (pe_lock (pe_lc (own := [("name", 3)]) rfl sc_stands_alone.nd (pi_keys (pe_fld (pv 0) rfl)) (blkOk_by (own := [("name", 3)]) (N := N_stands_alone) (sc := defScope s_stands_alone) (by decide +kernel)) (fun _ _ _ _ _ => (pg_name (i := 3) sc_stands_alone.nd rfl (.inl rfl))) (fun _ _ _ _ _ => (pts_one (pt_val (pe_ix (r := rIxT K) ix_tup (pe_dget hu (pv 2) (pv 3) (fun _ _ => rfl)) pe_int (fun _ _ => rfl))))) (fun _ _ _ _ _ => (pv 3))))))), ?_⟩
    refine ⟨_, rfl, _, rfl, t, p, rows, xs, rfl, a, fun f H1 nf s1 fd => ?_⟩
    obtain ⟨dx, fs, k, u, kvs, us, ht, lkK, lkU, hk, pk, hu0, UA⟩ := a.t_
    have hk1 := s1 _ _ hk
    have ht1 := s1 _ _ ht
    obtain ⟨fkv, hf, pf⟩ := fd
    refine ⟨k, .dK kvs, hk1, trivial, fun od => ?_⟩
    walk_at "put"; rename_i H2 b2 hk2
    have tk : t ≠ k := ne_of ht hk (by intro z; cases z)
    have fk : f ≠ k := (ne_of_none hk nf).symm
    have ht2 := b2 _ _ tk ht1
    have hf2 := b2 _ _ fk hf
    have lk := Paired.length pk
    have st2 : ∀ b xs, H1 b = some (.tup xs) → H2 b = some (.tup xs) := fun b xs e => b2 _ _ (fun z => by rw [z, hk1] at e; cases e) e
    refine ⟨_, rfl, t, _, dx, fs, .ref k, rfl, ht2, Z.cls, Z.nkept, lkK, k, od, rfl, .inl ⟨kvs, hk2, fun D nD => lc_val (n := kvs.length) rows lk walk_keys (fun r => if (valE (foundE rows xs) r.nm).2 = true then some (V.str r.nm) else none) nD (small1000 (by have := a.l; omega)) (fun H3 s3 => s3 _ _ hk2) (fun i r v H' H3 Yes No hc s3 y yes no => ?_) (fun H3 s3 e3 => ?_)⟩⟩
    · obtain ⟨rfl, kk, v, ekv, rfl⟩ := y
      obtain ⟨r2, er, ekk, _⟩ := prd_get pk ekv
      cases ekk
      rw [hc] at er
      cases er
      obtain ⟨q, m, g1, g2, g3⟩ := found_look pf (all r.nm (List.mem_map.mpr ⟨r, List.mem_of_getElem? hc, rfl⟩))
      have hq := s3 _ _ (st2 _ _ g2)
      refine ⟨rfl, ?_⟩
      refine ⟨_, rfl, _, rfl, f, .ref q, rfl, by rw [← g1]; exact DGet.k (k := Sum.inr r.nm) (s3 _ _ hf2), _, _, _, _, rfl, rfl, SqT.of hq, rfl, _, rfl, ite2 (fun m => ⟨_, rfl, ?_⟩) (fun m => ?_)⟩
      · exact yes _ _ (if_pos m) (Same.refl _)
      · exact no (if_neg m) _ (Same.refl _)
    · rw [fm_filter] at e3
      refine ⟨s3 _ _ hk2, ?_⟩
      walk_at "put"; rename_i H4 b4 hk4
      have Dk : D ≠ k := (ne_of_none hk2 nD).symm
      have s04 : Same H H4 := fun b o e => by
        by_cases z : b = k
        · rw [z] at e ⊢
          rw [hk] at e
          cases e
          exact hk4
        · exact b4 _ _ z (s3 _ _ (b2 _ _ z (s1 _ _ e)))
      refine Qk D H4 s04 ?_
      rw [zS, List.map_map]
      exact b4 _ _ Dk e3
end
end Bd

namespace Bd
open PySem PySem.Spec PyProof.Rows L2
/-! ### the greedy choice, told otherwise -/
def askN (rows : List Gr) (nm : Str) : List Int := match lookR rows nm with
  | some r => askL r.asks
  | none => []
theorem ask_self {rows : List Gr} (g : GoodRows rows) {r : Gr} (h : r ∈ rows) : askN rows r.nm = askL r.asks := by
  unfold askN
  rw [look_self g h]
theorem ask_good {r : Gr} (h : ∀ a, r.asks = some a → GoodS a) : GoodS (askL r.asks) := by
  unfold askL
  cases e : r.asks with
  | none => exact GoodS.nil
  | some a => exact h a e
def takenN (rows : List Gr) (nms : List Str) : List Int := nms.flatMap (askN rows)
theorem step_free {rows : List Gr} (g : GoodRows rows) {has : List Int} {r : Gr} (hr : r ∈ rows) {acc : List Str × List Int} (h : acc.2 = has.filter fun x => !decide (x ∈ takenN rows acc.1)) : (stepG acc r).2 = has.filter fun x => !decide (x ∈ takenN rows (stepG acc r).1) := by
  unfold stepG
  split
  · show lessL acc.2 (askL r.asks) = has.filter fun x => !decide (x ∈ takenN rows (acc.1 ++ [r.nm]))
    unfold lessL
    rw [h, List.filter_filter]
    refine List.filter_congr fun x _ => ?_
    have e : takenN rows (acc.1 ++ [r.nm]) = takenN rows acc.1 ++ askL r.asks := by
      unfold takenN
      rw [List.flatMap_append, List.flatMap_cons, List.flatMap_nil, List.append_nil, ask_self g hr]
    rw [e]
    by_cases z1 : x ∈ takenN rows acc.1 <;> by_cases z2 : x ∈ askL r.asks <;> simp [z1, z2]
  · exact h
theorem fold_free {rows : List Gr} (g : GoodRows rows) {has : List Int} : ∀ {ks : List Gr} {acc : List Str × List Int}, (∀ r ∈ ks, r ∈ rows) → acc.2 = has.filter (fun x => !decide (x ∈ takenN rows acc.1)) → (ks.foldl stepG acc).2 = has.filter fun x => !decide (x ∈ takenN rows (ks.foldl stepG acc).1)
  | [], acc, _, h => h
  | r :: ks, acc, hk, h => fold_free g (ks := ks) (fun x hx => hk x (List.mem_cons_of_mem _ hx)) (step_free g (hk r List.mem_cons_self) h)
theorem free_nil {rows : List Gr} {has : List Int} : has = has.filter fun x => !decide (x ∈ takenN rows []) := by
  refine (List.filter_eq_self.mpr fun x _ => ?_).symm
  simp [takenN]
theorem alone_free {rows : List Gr} (g : GoodRows rows) {nm : Str} {has : List Int} {al : Bool} : (aloneG rows nm has al).2 = has.filter fun x => !decide (x ∈ takenN rows (aloneG rows nm has al).1) := by
  unfold aloneG
  split
  · exact fold_free g (fun r h => (kid_row h).1) free_nil
  · exact free_nil
theorem part_len (p : Int → Bool) : ∀ xs : List Int, (xs.filter fun x => !p x).length + (xs.filter p).length = xs.length
  | [] => rfl
  | x :: r => by
    have ih := part_len p r
    cases e : p x with
    | true => rw [List.filter_cons_of_neg (by simp [e]), List.filter_cons_of_pos e, List.length_cons, List.length_cons]; omega
    | false => rw [List.filter_cons_of_pos (by simp [e]), List.filter_cons_of_neg (by simp [e]), List.length_cons, List.length_cons]; omega
theorem sub_back {xs ys : List Int} (h : xs.Nodup) (s : ∀ x ∈ xs, x ∈ ys) (l : ys.length ≤ xs.length) : ∀ y ∈ ys, y ∈ xs := fun y hy => by
  refine Decidable.byContradiction fun n => ?_
  have := len_sub (xs := y :: xs) (ys := ys) (List.nodup_cons.mpr ⟨n, h⟩) fun z hz => (List.mem_cons.mp hz).elim (fun e => e ▸ hy) (s z)
  rw [List.length_cons] at this
  omega
theorem less_len {free a : List Int} (hf : free.Nodup) (ha : a.Nodup) : (lessL free a).length + a.length ≥ free.length ∧ ((lessL free a).length + a.length = free.length ↔ ∀ x ∈ a, x ∈ free) := by
  have p := part_len (fun x => decide (x ∈ a)) free
  have cn : (free.filter fun x => decide (x ∈ a)).Nodup := hf.sublist List.filter_sublist
  have cs : ∀ x ∈ free.filter (fun x => decide (x ∈ a)), x ∈ a := fun x hx => of_decide_eq_true (List.mem_filter.mp hx).2
  have cl := len_sub cn cs
  unfold lessL
  refine ⟨by omega, fun e => ?_, fun h => ?_⟩
  · have back := sub_back cn cs (by omega)
    exact fun x hx => (List.mem_filter.mp (back x hx)).1
  · have := len_sub ha (ys := free.filter fun x => decide (x ∈ a)) fun x hx => List.mem_filter.mpr ⟨h x hx, decide_eq_true hx⟩
    omega
/-- the law's own test -/
theorem rest_can {free a : List Int} (hf : free.Nodup) (ha : a.Nodup) : (decide (((lessL free a).length : Int) = (free.length : Int) - (a.length : Int)) && !decide (lessL free a = [])) = ((a.all fun x => decide (x ∈ free)) && decide (a.length < free.length)) := by
  obtain ⟨h1, h2⟩ := less_len hf ha
  rw [Bool.eq_iff_iff]
  simp only [Bool.and_eq_true, Bool.not_eq_true', decide_eq_true_eq, decide_eq_false_iff_not, List.all_eq_true]
  constructor
  · rintro ⟨e, n⟩
    have l : 0 < (lessL free a).length := List.length_pos_iff.mpr n
    exact ⟨h2.mp (by omega), by omega⟩
  · rintro ⟨s, l⟩
    have e := h2.mpr s
    refine ⟨by omega, fun z => ?_⟩
    rw [z] at e
    simp at e
    omega
theorem step_yes {acc : List Str × List Int} {r : Gr} (c : canA r acc.2 = true) : stepG acc r = (acc.1 ++ [r.nm], lessL acc.2 (askL r.asks)) := if_pos c
theorem step_no {acc : List Str × List Int} {r : Gr} (c : ¬ canA r acc.2 = true) : stepG acc r = acc := if_neg c
theorem greedy_mono {x : Str} : ∀ {ks : List Gr} {acc : List Str × List Int}, x ∈ acc.1 → x ∈ (ks.foldl stepG acc).1
  | [], acc, h => h
  | r :: ks, acc, h => by
    rw [List.foldl_cons]
    refine greedy_mono ?_
    unfold stepG
    split
    · exact List.mem_append_left _ h
    · exact h
theorem kids_nd {rows : List Gr} (g : GoodRows rows) (nm : Str) : ((kidsR rows nm).map (·.nm)).Nodup := g.nd.sublist (List.Sublist.map _ List.filter_sublist)
theorem greedy_at {ks : List Gr} (nd : (ks.map (·.nm)).Nodup) {own : List Int} {i : Nat} {r : Gr} (h : ks[i]? = some r) : (r.nm ∈ (greedy ks own).1) ↔ canA r ((ks.take i).foldl stepG ([], own)).2 = true := by
  obtain ⟨lt, e⟩ := List.getElem?_eq_some_iff.mp h
  have nin : ∀ j r2, ks[j]? = some r2 → j ≠ i → r2.nm ≠ r.nm := fun j r2 hj ne z => by
    obtain ⟨lj, ej⟩ := List.getElem?_eq_some_iff.mp hj
    have e2 : (ks.map (·.nm))[j]'(by rw [List.length_map]; exact lj) = (ks.map (·.nm))[i]'(by rw [List.length_map]; exact lt) := by rw [List.getElem_map, List.getElem_map, ej, e, z]
    exact ne ((List.getElem_inj nd).mp e2)
  have no1 : r.nm ∉ ((ks.take i).foldl stepG ([], own)).1 := fun z => by
    rcases greedy_mem z with z | ⟨r2, h2, h3, _⟩
    · cases z
    · obtain ⟨j, hj, ej⟩ := List.mem_iff_getElem.mp h2
      rw [List.length_take] at hj
      rw [List.getElem_take] at ej
      exact nin j r2 (List.getElem?_eq_some_iff.mpr ⟨by omega, ej⟩) (by omega) h3
  have e3 : greedy ks own = (ks.drop (i + 1)).foldl stepG (stepG ((ks.take i).foldl stepG ([], own)) r) := by
    rw [← fold_snoc (f := stepG) (b := (([] : List Str), own)) h, ← List.foldl_append, List.take_append_drop]
    rfl
  rw [e3]
  constructor
  · intro z
    rcases greedy_mem z with z | ⟨r2, h2, h3, _⟩
    · unfold stepG at z
      split at z
      · assumption
      · exact absurd z no1
    · obtain ⟨j, hj, ej⟩ := List.mem_iff_getElem.mp h2
      rw [List.length_drop] at hj
      rw [List.getElem_drop] at ej
      exact absurd h3 (nin (i + 1 + j) r2 (List.getElem?_eq_some_iff.mpr ⟨by omega, ej⟩) (by omega))
  · intro c
    refine greedy_mono ?_
    rw [step_yes c]
    exact List.mem_append_right _ List.mem_cons_self
theorem greedy_ahead {ks : List Gr} (nd : (ks.map (·.nm)).Nodup) {own : List Int} {ch : List Str} (hch : ∀ r ∈ ks, (r.nm ∈ ch ↔ r.nm ∈ (greedy ks own).1)) : ∀ i, i ≤ ks.length → ((ks.take i).filter fun r => decide (r.nm ∈ ch)).map (·.nm) = ((ks.take i).foldl stepG ([], own)).1
  | 0, _ => rfl
  | i + 1, h => by
    have e : ks[i]? = some ks[i] := List.getElem?_eq_getElem h
    have ih := greedy_ahead nd hch i (Nat.le_of_lt h)
    rw [fold_snoc e, take_snoc e, List.filter_append, List.map_append, ih]
    have b := (hch _ (List.getElem_mem h)).trans (greedy_at nd e)
    by_cases c : canA ks[i] ((ks.take i).foldl stepG ([], own)).2 = true
    · rw [step_yes c, List.filter_cons_of_pos (p := fun r : Gr => decide (r.nm ∈ ch)) (decide_eq_true (b.mpr c))]
      rfl
    · rw [step_no c, List.filter_cons_of_neg (by simp only [decide_eq_true_eq]; exact fun z => c (b.mp z))]
      simp
def sumN (rows : List Gr) (nms : List Str) : Int := (nms.map fun n => ((askN rows n).length : Int)).sum
theorem can_sub {r : Gr} {free : List Int} (c : canA r free = true) : ∀ x ∈ askL r.asks, x ∈ free := by
  unfold canA at c
  simp only [Bool.and_eq_true, List.all_eq_true, decide_eq_true_eq] at c
  exact c.2.2.1
theorem fold_sum {rows : List Gr} (g : GoodRows rows) {own : Int} : ∀ {ks : List Gr} {acc : List Str × List Int}, (∀ r ∈ ks, r ∈ rows) → GoodS acc.2 → (acc.2.length : Int) = own - sumN rows acc.1 → ((ks.foldl stepG acc).2.length : Int) = own - sumN rows (ks.foldl stepG acc).1
  | [], acc, _, _, h => h
  | r :: ks, acc, hk, gs, h => by
    have rm := hk r List.mem_cons_self
    have gr := ask_good (g.asks r rm)
    rw [List.foldl_cons]
    refine fold_sum g (ks := ks) (fun x hx => hk x (List.mem_cons_of_mem _ hx)) ?_ ?_
    · exact greedy_good (ks := [r]) gs
    · unfold stepG
      split
      · rename_i c
        have e := (less_len gs.nodup gr.nodup).2.mpr (can_sub c)
        have e2 : sumN rows (acc.1 ++ [r.nm]) = sumN rows acc.1 + ((askL r.asks).length : Int) := by
          unfold sumN
          rw [List.map_append, List.sum_append, List.map_cons, List.map_nil, ask_self g rm]
          simp
        show ((lessL acc.2 (askL r.asks)).length : Int) = own - sumN rows (acc.1 ++ [r.nm])
        rw [e2]
        omega
      · exact h
/-- the test of pairs -/
def preA (own : List Int) (r : Gr) : Bool := decide (r.mrk = 1) && (!decide (askL r.asks = []) && decide ((askL r.asks).filter (fun x => !decide (x ∈ own)) = []))
def disjN (rows : List Gr) (r : Gr) (o : Str) : Bool := decide ((askL r.asks).filter (fun x => decide (x ∈ askN rows o)) = [])
theorem can_iff {rows : List Gr} (g : GoodRows rows) {ks : List Gr} (hk : ∀ r ∈ ks, r ∈ rows) {own : List Int} (go : GoodS own) {i : Nat} {r : Gr} {acc : List Str × List Int} (ea : (ks.take i).foldl stepG ([], own) = acc) :
    canA r acc.2 = ((preA own r && acc.1.all (disjN rows r)) && decide ((own.length : Int) - sumN rows acc.1 - ((askL r.asks).length : Int) > 0)) := by
  have hk2 : ∀ r ∈ ks.take i, r ∈ rows := fun x hx => hk x (List.mem_of_mem_take hx)
  have e1 := fold_free g (has := own) (ks := ks.take i) (acc := ([], own)) hk2 free_nil
  have e2 := fold_sum g (own := (own.length : Int)) (ks := ks.take i) (acc := ([], own)) hk2 go (by simp [sumN])
  rw [ea] at e1 e2
  have mem : ∀ x, x ∈ acc.2 ↔ x ∈ own ∧ ∀ o ∈ acc.1, x ∉ askN rows o := fun x => by
    rw [e1, List.mem_filter]
    simp [takenN]
  unfold canA preA disjN
  rw [Bool.eq_iff_iff]
  simp only [Bool.and_eq_true, List.all_eq_true, decide_eq_true_eq, Bool.not_eq_true', decide_eq_false_iff_not, List.filter_eq_nil_iff, mem]
  constructor
  · rintro ⟨h1, h2, h3, h4⟩
    exact ⟨⟨⟨h1, h2, fun x hx z => z (h3 x hx).1⟩, fun o ho x hx z => (h3 x hx).2 o ho z⟩, by omega⟩
  · rintro ⟨⟨⟨h1, h2, h3⟩, h4⟩, h5⟩
    exact ⟨h1, h2, fun x hx => ⟨Decidable.byContradiction fun z => h3 x hx z, fun o ho z => h4 o ho x hx z⟩, by omega⟩
end Bd

namespace Bd
open PySem PySem.Spec PyProof.Rows L2
theorem at_nat {α : Type} {xs : List α} {j : Nat} {v : α} (h : xs[j]? = some v) : atI xs (j : Int) = some v := by
  have lt := (List.getElem?_eq_some_iff.mp h).1
  unfold atI ixN
  rw [if_pos (Int.natCast_nonneg j), if_pos (Int.ofNat_lt.mpr lt)]
  exact h
section
variable {P : Program} {w : World} {K : PySem.W.Frag} {mg : Str → Option Value} {base : Heap}
/-! ### the draws -/
def zL (xs : List Int) : List V := xs.map V.int
def spCellAt (K : PySem.W.Frag) : Sp := fun vs H Q _ => ∃ (l : Addr) (xs : List Int) (k : Nat), vs = [.ref l, .int k] ∧ SqL K H l (zI xs) ∧ ∀ n, Q (.int n) H
theorem ok_law_cell_at (Z : Zs w K mg) (D : At K mg "_law_cell_at" s_law_cell_at) : Cal P w K mg base "_law_cell_at" 1 ["_law_script", "_law_k"] (spCellAt K) := by
  refine mk_cal D sc_law_cell_at (fun _ _ _ _ _ _ us hl => match us, hl with | [_, _], _ => rfl) (fun vs H Q E h => ?_) (fun f cdv A outer s H vs Q E hr h => ?_)
  · obtain ⟨l, xs, k, rfl, _⟩ := h
    rfl
  · obtain ⟨l, xs, k, rfl, hl, q⟩ := h
    refine ⟨_, (pss_cons (ps_if (pt_cmpR op_lt (pv 1) (pe_callB (r := rLenS K) call_len_seq rfl Z.len (by decide +kernel) (pa_cons (pv 0) pa_nil)) (nomark _)) (pss_one (ps_ret (pe_ix (r := rIxL K) ix_list (pv 0) (pv 1) (fun _ _ => rfl)))) pss_nil)
  (pss_one (ps_ret pe_int))), ?_⟩
    refine ⟨_, rfl, _, rfl, l, _, rfl, .inl (hl), _, _, rfl, rfl, _, rfl, ?_⟩
    rw [List.length_map]
    refine ite2 (fun c => ?_) (fun c => ?_)
    · have lt : k < xs.length := Int.ofNat_lt.mp (of_decide_eq_true c)
      have e : (zI xs)[k]? = some (.int xs[k]) := by rw [List.getElem?_map, List.getElem?_eq_getElem lt]; rfl
      exact ⟨_, rfl, _, rfl, l, _, _, _, rfl, rfl, hl, at_nat e, q _⟩
    · exact q 0
def spMixed : Sp := fun vs H Q _ => ∃ (a k : Int), vs = [.int a, .int k] ∧ ∀ n, 0 ≤ n → n < 2147483563 → Q (.int n) H
theorem ok_law_mixed (Z : Zs w K mg) (D : At K mg "_law_mixed" s_law_mixed) : Cal P w K mg base "_law_mixed" 1 ["_law_cell", "_law_k"] spMixed := by
  refine mk_cal D sc_law_mixed (fun _ _ _ _ _ _ us hl => match us, hl with | [_, _], _ => rfl) (fun vs H Q E h => ?_) (fun f cdv A outer s H vs Q E hr h => ?_)
  · obtain ⟨a, k, rfl, _⟩ := h
    rfl
  · obtain ⟨a, k, rfl, q⟩ := h
    refine ⟨_, (pss_cons (ps_set (i := 2) sc_law_mixed.nd rfl (.inl rfl) (pe_op op_add (pe_op op_mod (pe_callTy call_int1 rfl Z.int (by decide +kernel) (pa_cons (pv 0) pa_nil)) pe_int) (pe_op op_mul (pe_op op_fdivW (pv 0) pe_int) pe_int)))
  (pss_cons (ps_set (i := 2) sc_law_mixed.nd rfl (.inl rfl) (pe_op op_mod (pe_callTy call_int1 rfl Z.int (by decide +kernel) (pa_cons (pe_op op_mul (pe_op op_add (pe_op op_add (pv 2) (pe_op op_mul pe_int (pv 1))) pe_int) pe_int) pa_nil)) pe_int))
  (pss_cons (ps_set (i := 2) sc_law_mixed.nd rfl (.inl rfl) (pe_op op_mod (pe_callTy call_int1 rfl Z.int (by decide +kernel) (pa_cons (pe_op op_mul (pv 2) (pe_op op_add (pe_op op_add (pe_op op_fdiv (pv 2) pe_int) pe_int) (pv 1))) pa_nil)) pe_int))
  (pss_one (ps_ret (pe_op op_mod (pe_callTy call_int1 rfl Z.int (by decide +kernel) (pa_cons (pe_op op_mul (pv 2) (pe_op op_add (pe_op op_fdiv (pv 2) pe_int) pe_int)) pa_nil)) pe_int)))))), ?_⟩
    refine ⟨_, rfl, .inl ⟨_, rfl, _, _, rfl, rfl, (by show (0 : Int) < 2147483629; decide), ?_⟩⟩
    refine ⟨_, rfl, _, _, rfl, rfl, ⟨by decide, by decide +kernel⟩, _, _, rfl, rfl, .inr ⟨by decide, by decide⟩, _, _, rfl, rfl, ?_⟩
    refine ⟨_, rfl, _, rfl, _, _, rfl, rfl, .inl ⟨by decide, by decide⟩, _, _, rfl, rfl, _, _, rfl, rfl, _, _, rfl, rfl, .inr ⟨by decide, by decide⟩, .inl ⟨_, rfl, _, _, rfl, rfl, (by show (0 : Int) < 2147483629; decide), ?_⟩⟩
    have c3 : ∀ c : Int, 0 ≤ c → c < 2147483629 → CMul c (c / 907 + 16831 + k) := fun c h1 h2 => .inl ⟨by omega, by omega⟩
    have d3 : ∀ d : Int, 0 ≤ d → d < 2147483587 → CMul d (d / 1201 + 30011) := fun c h1 h2 => .inl ⟨by omega, by omega⟩
    refine ⟨_, rfl, _, rfl, _, _, rfl, rfl, ⟨by decide, by decide⟩, _, _, rfl, rfl, _, rfl, _, _, rfl, rfl, _, _, rfl, rfl, c3 _ (Int.emod_nonneg _ (by decide)) (Int.emod_lt_of_pos _ (by decide)), .inl ⟨_, rfl, _, _, rfl, rfl, (by show (0 : Int) < 2147483587; decide), ?_⟩⟩
    refine ⟨_, rfl, _, rfl, _, _, rfl, rfl, ⟨by decide, by decide⟩, _, _, rfl, rfl, _, _, rfl, rfl, d3 _ (Int.emod_nonneg _ (by decide)) (Int.emod_lt_of_pos _ (by decide)), .inl ⟨_, rfl, _, _, rfl, rfl, (by show (0 : Int) < 2147483563; decide), ?_⟩⟩
    exact q _ (Int.emod_nonneg _ (by decide)) (Int.emod_lt_of_pos _ (by decide))
def spSource (K : PySem.W.Frag) : Sp := fun vs H Q _ => ∃ (l : Addr) (xs : List Int) (k : Nat), vs = [.ref l, .int k] ∧ SqL K H l (zI xs) ∧ ∀ s H', Same H H' → H s = none → SrcAt H' s → Q (.ref s) H'
theorem ok_law_source (Z : Zs w K mg) (D : At K mg "_law_source" s_law_source) (C_law_cell_at : Cal P w K mg base "_law_cell_at" 1 ["_law_script", "_law_k"] (spCellAt K)) (C_law_mixed : Cal P w K mg base "_law_mixed" 1 ["_law_cell", "_law_k"] spMixed) :
    Cal P w K mg base "_law_source" 2 ["_law_script", "_law_k"] (spSource K) := by
  refine mk_cal D sc_law_source (fun _ _ _ _ _ _ us hl => match us, hl with | [_, _], _ => rfl) (fun vs H Q E h => ?_) (fun f cdv A outer s H vs Q E hr h => ?_)
  · obtain ⟨l, xs, k, rfl, _⟩ := h
    rfl
  · obtain ⟨l, xs, k, rfl, hl, q⟩ := h
    refine ⟨_, (pss_cons (ps_if (pt_cmpR op_lt (pv 1) (pe_callB (r := rLenS K) call_len_seq rfl Z.len (by decide +kernel) (pa_cons (pv 0) pa_nil)) (nomark _)) (pss_one (ps_ret (pe_lst (pa_cons (pe_ix (r := rIxL K) ix_list (pv 0) (pv 1) (fun _ _ => rfl)) (pa_cons (pe_ix (r := rIxL K) ix_list (pv 0) (pv 1) (fun _ _ => rfl)) (pa_cons pe_int pa_nil)))))) pss_nil)
  (pss_cons (ps_set (i := 2) sc_law_source.nd rfl (.inl rfl) (pe_cal C_law_mixed (hr.mono (by decide)) rfl (pa_cons (pe_cal C_law_cell_at (hr.mono (by decide)) rfl (pa_cons (pv 0) (pa_cons pe_int pa_nil))) (pa_cons (pe_op op_add pe_int (pv 1)) pa_nil))))
  (pss_one (ps_ret (pe_lst (pa_cons (pv 2) (pa_cons (pv 2) (pa_cons pe_int pa_nil)))))))), ?_⟩
    refine ⟨_, rfl, _, rfl, l, _, rfl, .inl (hl), _, _, rfl, rfl, _, rfl, ?_⟩
    rw [List.length_map]
    refine ite2 (fun c => ?_) (fun c => ?_)
    · have lt : k < xs.length := Int.ofNat_lt.mp (of_decide_eq_true c)
      have e : (zI xs)[k]? = some (.int xs[k]) := by rw [List.getElem?_map, List.getElem?_eq_getElem lt]; rfl
      refine ⟨_, rfl, _, rfl, l, _, _, _, rfl, rfl, hl, at_nat e, _, rfl, _, rfl, l, _, _, _, rfl, rfl, hl, at_nat e, line100 (by show 3 ≤ 1000; decide), ?_⟩
      walk_at "new"; rename_i p np H1 s1 h1
      exact q p H1 s1 np ⟨_, _, _, h1⟩
    · refine ⟨_, rfl, l, xs, 0, rfl, hl, fun n => ⟨_, rfl, _, _, rfl, rfl, _, _, rfl, fun m _ _ => ?_⟩⟩
      refine ⟨_, rfl, _, rfl, line100 (by show 3 ≤ 1000; decide), ?_⟩
      walk_at "new"; rename_i p np H1 s1 h1
      exact q p H1 s1 np ⟨_, _, _, h1⟩
def spNext : Sp := fun vs H Q _ => ∃ (s : Addr) (m : Int), vs = [.ref s, .int m] ∧ SrcAt H s ∧ 0 < m ∧ m ≤ 1000 ∧ ∀ r H', 0 ≤ r → r < m → But s H H' → SrcAt H' s → Q (.int r) H'
theorem ok_law_next (Z : Zs w K mg) (D : At K mg "_law_next" s_law_next) (C_law_mixed : Cal P w K mg base "_law_mixed" 1 ["_law_cell", "_law_k"] spMixed) : Cal P w K mg base "_law_next" 2 ["_law_source_here", "_law_many"] spNext := by
  refine mk_cal D sc_law_next (fun _ _ _ _ _ _ us hl => match us, hl with | [_, _], _ => rfl) (fun vs H Q E h => ?_) (fun f cdv A outer st H vs Q E hr h => ?_)
  · obtain ⟨s, m, rfl, _⟩ := h
    rfl
  · obtain ⟨s, m, rfl, ⟨a, b, c, hs⟩, m0, m1, q⟩ := h
    refine ⟨_, (pss_cons (ps_if (pt_cmpR op_ge (pe_ix (r := rIxL K) ix_list (pv 0) pe_int (fun _ _ => rfl)) (pe_op op_pow pe_int pe_int) (nomark _)) (pss_cons (ps_set (i := 2) sc_law_next.nd rfl (.inl rfl) (pe_op op_mod (pe_callTy call_int1 rfl Z.int (by decide +kernel) (pa_cons (pe_ix (r := rIxL K) ix_list (pv 0) pe_int (fun _ _ => rfl)) pa_nil)) (pv 1)))
  (pss_cons (ps_asg (pe_op op_fdiv (pe_ix (r := rIxL K) ix_list (pv 0) pe_int (fun _ _ => rfl)) (pv 1)) (pg_sub (pv 0) pe_int set_list))
  (pss_one (ps_ret (pv 2))))) pss_nil)
  (pss_cons (ps_asg (pe_op op_add (pe_ix (r := rIxL K) ix_list (pv 0) pe_int (fun _ _ => rfl)) pe_int) (pg_sub (pv 0) pe_int set_list))
  (pss_one (ps_ret (pe_op op_mod (pe_callTy call_int1 rfl Z.int (by decide +kernel) (pa_cons (pe_cal C_law_mixed (hr.mono (by decide)) rfl (pa_cons (pe_ix (r := rIxL K) ix_list (pv 0) pe_int (fun _ _ => rfl)) (pa_cons (pe_ix (r := rIxL K) ix_list (pv 0) pe_int (fun _ _ => rfl)) pa_nil))) pa_nil)) (pv 1)))))), ?_⟩
    refine ⟨_, rfl, s, _, _, _, rfl, rfl, SqL.of hs, rfl, _, _, rfl, rfl, ⟨by decide, by decide, by decide⟩, _, _, rfl, rfl, _, rfl, ite2 (fun c1 => ?_) (fun c1 => ?_)⟩
    · refine ⟨_, rfl, s, _, _, _, rfl, rfl, SqL.of hs, rfl, .inl ⟨_, rfl, _, rfl, _, _, rfl, rfl, m0, ?_⟩⟩
      refine ⟨_, rfl, s, _, _, _, rfl, rfl, SqL.of hs, rfl, _, rfl, _, _, rfl, rfl, ⟨m0, by omega⟩, ?_⟩
      refine ⟨_, rfl, s, _, 0, 0, rfl, rfl, hs, rfl, ?_⟩
      walk_at "put"; rename_i H1 b1 h1
      exact ⟨_, rfl, q _ _ (Int.emod_nonneg _ (by omega)) (Int.emod_lt_of_pos _ m0) b1 ⟨_, _, _, h1⟩⟩
    · refine ⟨_, rfl, s, _, _, _, rfl, rfl, SqL.of hs, rfl, _, _, rfl, rfl, ?_⟩
      refine ⟨_, rfl, s, _, 2, 2, rfl, rfl, hs, rfl, ?_⟩
      walk_at "put"; rename_i H1 b1 h1
      replace h1 : H1 s = some (.lst [.int a, .int b, .int (c + 1)]) := h1
      refine ⟨_, rfl, s, _, _, _, rfl, rfl, SqL.of h1, rfl, _, rfl, s, _, _, _, rfl, rfl, SqL.of h1, rfl, _, _, rfl, fun n _ _ => .inl ⟨_, rfl, _, rfl, _, _, rfl, rfl, m0, ?_⟩⟩
      exact q _ _ (Int.emod_nonneg _ (by omega)) (Int.emod_lt_of_pos _ m0) b1 ⟨_, _, _, h1⟩
def spOne : Sp := fun vs H Q _ => ∃ (s l : Addr) (ys : List V), vs = [.ref s, .ref l] ∧ SrcAt H s ∧ H l = some (.lst ys) ∧ l ≠ s ∧ ys ≠ [] ∧ ys.length ≤ 1000 ∧ ∀ v H', v ∈ ys → But s H H' → SrcAt H' s → Q v H'
theorem ok_law_one (Z : Zs w K mg) (D : At K mg "_law_one" s_law_one) (C_law_next : Cal P w K mg base "_law_next" 2 ["_law_source_here", "_law_many"] spNext) : Cal P w K mg base "_law_one" 3 ["_law_source_here", "_law_things"] spOne := by
  refine mk_cal D sc_law_one (fun _ _ _ _ _ _ us hl => match us, hl with | [_, _], _ => rfl) (fun vs H Q E h => ?_) (fun f cdv A outer st H vs Q E hr h => ?_)
  · obtain ⟨s, l, ys, rfl, _⟩ := h
    rfl
  · obtain ⟨s, l, ys, rfl, hs, hl, ne, n0, n1, q⟩ := h
    have pos : 0 < ys.length := List.length_pos_iff.mpr n0
    refine ⟨_, (pss_one (ps_ret (pe_ix (r := rIxL K) ix_list (pv 1) (pe_cal C_law_next (hr.mono (by decide)) rfl (pa_cons (pv 0) (pa_cons (pe_callB (r := rLenS K) call_len_seq rfl Z.len (by decide +kernel) (pa_cons (pv 1) pa_nil)) pa_nil))) (fun _ _ => rfl)))), ?_⟩
    refine ⟨_, rfl, _, rfl, _, rfl, l, _, rfl, .inl (SqL.of hl), s, _, rfl, hs, by omega, by omega, fun r H1 r0 r1 b1 hs1 => ?_⟩
    obtain ⟨k, rfl⟩ := Int.eq_ofNat_of_zero_le r0
    have lt : k < ys.length := by omega
    exact ⟨l, _, _, _, rfl, rfl, SqL.of (b1 _ _ ne hl), at_nat (List.getElem?_eq_getElem lt), q _ _ (List.getElem_mem lt) b1 hs1⟩
end
end Bd

namespace Bd
open PySem PySem.Spec PyProof.Rows L2
theorem sq_nat {n j : Nat} (h : j < n) : seqIndex? (j : Int) n = some j := by
  refine (ixN_seq ?_).1
  unfold ixN
  rw [if_pos (Int.natCast_nonneg j), if_pos (Int.ofNat_lt.mpr h)]
  rfl
theorem perm_out {α : Type} {l : List α} {k : Nat} (h : k < l.length) : (l[k] :: l.eraseIdx k).Perm l := by
  have e : l = l.take k ++ l[k] :: l.drop (k + 1) := by
    rw [List.getElem_cons_drop h, List.take_append_drop]
  rw [List.eraseIdx_eq_take_drop_succ]
  exact List.perm_middle.symm.trans (.of_eq e.symm)
theorem map_out {α β : Type} (f : α → β) (l : List α) (k : Nat) : (l.map f).eraseIdx k = (l.eraseIdx k).map f := by
  rw [List.eraseIdx_eq_take_drop_succ, List.eraseIdx_eq_take_drop_succ, List.map_append, List.map_take, List.map_drop]
theorem toNat_lt {m : Int} {i k : Nat} (h : i < m.toNat) (h2 : m ≤ k) : i < k := by omega
section
variable {P : Program} {w : World} {K : PySem.W.Frag} {mg : Str → Option Value} {base : Heap}
/-! ### names, sets, rows that are drawn -/
def namesB : List Str := ["a", "b", "c", "d", "e", "f", "g", "h", "k", "m", "pit", "shed", "tenletters", "zz"]
theorem namesB_nd : namesB.Nodup := by decide +kernel
theorem namesB_ok : ∀ x ∈ namesB, okName x := by
  unfold okName
  decide +kernel
def spNames : Sp := fun vs H Q _ => ∃ (s : Addr) (m : Int), vs = [.ref s, .int m] ∧ SrcAt H s ∧ 0 ≤ m ∧ m ≤ 12 ∧ ∀ l nms H', But s H H' → SrcAt H' s → H l = none → H' l = some (.lst (zS nms)) → nms.Nodup → (∀ x ∈ nms, okName x) → nms.length = m.toNat → Q (.ref l) H'
theorem ok_law_names (Z : Zs w K mg) (D : At K mg "_law_names" s_law_names) (C_law_next : Cal P w K mg base "_law_next" 2 ["_law_source_here", "_law_many"] spNext) : Cal P w K mg base "_law_names" 3 ["_law_source_here", "_law_many"] spNames := by
  refine mk_cal D sc_law_names (fun _ _ _ _ _ _ us hl => match us, hl with | [_, _], _ => rfl) (fun vs H Q E h => ?_) (fun f cdv A outer st H vs Q E hr h => ?_)
  · obtain ⟨s, m, rfl, _⟩ := h
    rfl
  · obtain ⟨s, m, rfl, hs0, m0, m1, q⟩ := h
    obtain ⟨o, hso⟩ := hs0.there
    refine ⟨_, (pss_cons (ps_set (i := 2) sc_law_names.nd rfl (.inl rfl) (pe_lst (pa_cons pe_str (pa_cons pe_str (pa_cons pe_str (pa_cons pe_str (pa_cons pe_str (pa_cons pe_str (pa_cons pe_str (pa_cons pe_str (pa_cons pe_str (pa_cons pe_str (pa_cons pe_str (pa_cons pe_str (pa_cons pe_str (pa_cons pe_str pa_nil))))))))))))))))
  (pss_cons (ps_set (i := 3) sc_law_names.nd rfl (.inl rfl) (pe_lst pa_nil))
  (pss_cons (ps_for PassesOwn.never rfl (pi_range1 rfl Z.range (pa_cons (pv 1) pa_nil)) (pg_name (i := 4) sc_law_names.nd rfl (.inl rfl))
  (pss_one (ps_expr (pe_bm PySem.F.plainAttrs_list PySem.F.slot_list_append PySem.F.type_list_append mt_append (pv 3) (pa_cons (pe_bm PySem.F.plainAttrs_list PySem.F.slot_list_pop PySem.F.type_list_pop mt_popAt (pv 2) (pa_cons (pe_cal C_law_next (hr.mono (by decide)) rfl (pa_cons (pv 0) (pa_cons (pe_callB (r := rLenS K) call_len_seq rfl Z.len (by decide +kernel) (pa_cons (pv 2) pa_nil)) pa_nil))) pa_nil)) pa_nil)))))
  (pss_one (ps_ret (pv 3)))))), ?_⟩
    refine ⟨line100 (by show 14 ≤ 1000; decide), ?_⟩
    walk_at "new"; rename_i S nS H1 s1 hS
    replace hS : H1 S = some (.lst (zS namesB)) := hS
    refine ⟨line100 (by show 0 ≤ 1000; decide), ?_⟩
    walk_at "new"; rename_i F nF H2 s2 hF
    have sS : s ≠ S := ne_of_none hso nS
    have nF0 : H F = none := Same.free s1 nF
    have sF : s ≠ F := ne_of_none hso nF0
    have SF : S ≠ F := ne_of_none hS nF
    have s02 := s1.trans s2
    refine ⟨_, rfl, m, rfl, by omega, by omega, for_it walk_range (fun i σ H' => (∃ x4, σ = [some (.ref s), some (.int m), some (.ref S), some (.ref F), x4]) ∧ But s H H' ∧ SrcAt H' s ∧ ∃ fn rest, H' S = some (.lst (zS rest)) ∧ H' F = some (.lst (zS fn)) ∧ (fn ++ rest).Perm namesB ∧ fn.length = i)
      ⟨⟨none, rfl⟩, Same.but s02, hs0.same s02, [], namesB, s2 _ _ hS, hF, .refl _, rfl⟩ (fun _ _ _ _ _ => trivial) ?_ ?_⟩
    · rintro i x σ Ha Hb hi ⟨⟨x4, rfl⟩, ba, hsa, fn, rest, hSa, hFa, pm, lf⟩ ⟨rfl, rfl⟩
      have ll := pm.length_eq
      rw [List.length_append, lf, show namesB.length = 14 from rfl] at ll
      refine ⟨_, rfl, .inl ⟨rfl, _, SqL.of hFa⟩, _, rfl, .inl ⟨rfl, _, SqL.of hSa⟩, _, rfl, _, rfl, S, _, rfl, .inl (SqL.of hSa), s, _, rfl, hsa, ?_, ?_, fun r H3 r0 r1 b3 hs3 => ?_⟩
      · rw [List.length_map]; omega
      · rw [List.length_map]; omega
      rw [List.length_map] at r1
      obtain ⟨k, rfl⟩ := Int.eq_ofNat_of_zero_le r0
      have lt : k < rest.length := by omega
      have e : (zS rest)[k]? = some (.str rest[k]) := by rw [List.getElem?_map, List.getElem?_eq_getElem lt]; rfl
      refine ⟨S, _, _, k, _, rfl, rfl, b3 _ _ sS.symm hSa, by omega, by omega, sq_nat (by rw [List.length_map]; exact lt), e, ?_⟩
      walk_at "put"; rename_i H4 b4 hS4
      have hF4 := b4 _ _ SF.symm (b3 _ _ sF.symm hFa)
      refine ⟨F, _, _, rfl, rfl, hF4, small1000 (by rw [List.length_map]; omega), ?_⟩
      walk_at "put"; rename_i H5 b5 hF5
      have hs5 : SrcAt H5 s := by
        obtain ⟨a, b, c, z⟩ := hs3
        exact ⟨a, b, c, b5 _ _ sF (b4 _ _ sS z)⟩
      refine ⟨⟨_, rfl⟩, But.new_put nF0 (But.new_put nS (ba.trans b3) b4) b5, hs5, fn ++ [rest[k]], rest.eraseIdx k, ?_, ?_, ?_, ?_⟩
      · rw [b5 _ _ SF hS4, map_out]
      · rw [hF5, show zS (fn ++ [rest[k]]) = zS fn ++ [.str rest[k]] from List.map_append]
      · rw [List.append_assoc]
        exact (List.Perm.append_left fn (perm_out lt)).trans pm
      · rw [List.length_append, lf]
        rfl
    · rintro σ Ha ⟨⟨x4, rfl⟩, ba, hsa, fn, rest, hSa, hFa, pm, lf⟩
      have nd : (fn ++ rest).Nodup := pm.nodup_iff.mpr namesB_nd
      exact ⟨_, rfl, q F fn Ha ba hsa nF0 hFa (List.nodup_append.mp nd).1 (fun x hx => namesB_ok x (pm.mem_iff.mp (List.mem_append_left _ hx))) lf⟩
def spSetL : Sp := fun vs H Q _ => ∃ (s : Addr) (m : Int), vs = [.ref s, .int m] ∧ SrcAt H s ∧ 0 ≤ m ∧ m ≤ 60 ∧ ∀ p xs H', But s H H' → SrcAt H' s → H' p = some (.tup (zI xs)) → GoodS xs → Q (.ref p) H'
theorem ok_law_set (Z : Zs w K mg) (D : At K mg "_law_set" s_law_set) (C_law_next : Cal P w K mg base "_law_next" 2 ["_law_source_here", "_law_many"] spNext) : Cal P w K mg base "_law_set" 3 ["_law_source_here", "_law_few"] spSetL := by
  refine mk_cal D sc_law_set (fun _ _ _ _ _ _ us hl => match us, hl with | [_, _], _ => rfl) (fun vs H Q E h => ?_) (fun f cdv A outer st H vs Q E hr h => ?_)
  · obtain ⟨s, m, rfl, _⟩ := h
    rfl
  · obtain ⟨s, m, rfl, hs0, m0, m1, q⟩ := h
    obtain ⟨o, hso⟩ := hs0.there
    refine ⟨_, (pss_cons (ps_par rfl sc_law_set.nd (i := 2) (j := 3) rfl rfl (by decide) rfl rfl (pa_cons (pe_cal C_law_next (hr.mono (by decide)) rfl (pa_cons (pv 0) (pa_cons pe_int pa_nil))) (pa_cons (pe_lst pa_nil) pa_nil)) (by rfl))
  (pss_cons (ps_for PassesOwn.never rfl (pi_range1 rfl Z.range (pa_cons (pe_cal C_law_next (hr.mono (by decide)) rfl (pa_cons (pv 0) (pa_cons (pe_op op_add (pv 1) pe_int) pa_nil))) pa_nil)) (pg_name (i := 4) sc_law_set.nd rfl (.inl rfl))
  (pss_cons (ps_set (i := 5) sc_law_set.nd rfl (.inl rfl) (pe_ifExp (pt_cmpR op_gt (pe_cal C_law_next (hr.mono (by decide)) rfl (pa_cons (pv 0) (pa_cons pe_int pa_nil))) pe_int (nomark _)) (pe_op op_add (pv 2) (pe_cal C_law_next (hr.mono (by decide)) rfl (pa_cons (pv 0) (pa_cons pe_int pa_nil)))) (pe_cal C_law_next (hr.mono (by decide)) rfl (pa_cons (pv 0) (pa_cons pe_int pa_nil)))))
  (pss_one (ps_expr (pe_bm PySem.F.plainAttrs_list PySem.F.slot_list_append PySem.F.type_list_append mt_append (pv 3) (pa_cons (pv 5) pa_nil))))))
  (pss_one (ps_ret (pe_callTy call_tuple_of rfl Z.tuple (by decide +kernel) (pa_cons (pe_callB (cr_sortedSet rfl) rfl Z.sorted (by decide +kernel) (pa_cons (pe_callTy (call_setI rfl) rfl Z.set (by decide +kernel) (pa_cons (pv 3) pa_nil)) pa_nil)) pa_nil)))))), ?_⟩
    refine ⟨_, rfl, s, 50, rfl, hs0, by decide, by decide, fun fi H1 f0 f1 b1 hs1 => ⟨line100 (by show 0 ≤ 1000; decide), ?_⟩⟩
    obtain ⟨o1, hso1⟩ := hs1.there
    walk_at "new"; rename_i L nL H2 s2 hL
    have sL : s ≠ L := ne_of_none hso1 nL
    refine ⟨_, _, rfl, ?_⟩
    refine ⟨_, rfl, _, rfl, _, _, rfl, rfl, s, _, rfl, hs1.same s2, by omega, by omega, fun n H3 n0 n1 b3 hs3 => ⟨_, rfl, by omega, by omega, ?_⟩⟩
    have nL0 : H L = none := by
      cases e : H L with
      | none => rfl
      | some o =>
        have := b1 _ _ sL.symm e
        rw [this] at nL
        cases nL
    have b03 : But s H H3 := (b1.trans (Same.but s2)).trans b3
    refine for_it walk_range (fun i σ H' => (∃ x4 x5, σ = [some (.ref s), some (.int m), some (.int fi), some (.ref L), x4, x5]) ∧ But s H H' ∧ SrcAt H' s ∧ ∃ xs, H' L = some (.lst (zI xs)) ∧ (∀ x ∈ xs, 0 ≤ x ∧ x ≤ 63) ∧ xs.length = i)
      ⟨⟨none, none, rfl⟩, b03, hs3, [], b3 _ _ sL.symm hL, (fun _ h => nomatch h), rfl⟩ (fun _ _ _ _ _ => trivial) ?_ ?_
    · rintro i x σ Ha Hb hi ⟨⟨x4, x5, rfl⟩, ba, hsa, xs, hLa, bd, lx⟩ ⟨rfl, rfl⟩
      refine name_ ?_
      dsimp only
      refine abs_ (fun R => ∀ x H', 0 ≤ x → x ≤ 63 → But s Hb H' → SrcAt H' s → R [some (.ref s), some (.int m), some (.int fi), some (.ref L), some (.int (0 + (i : Nat))), some (.int x)] H') ?_ ?_
      · intro x H4 x0 x1 b4 hs4
        have hL4 := b4 _ _ sL.symm hLa
        refine ⟨_, rfl, .inl ⟨rfl, _, SqL.of hL4⟩, _, rfl, L, _, _, rfl, rfl, hL4, small1000 (by rw [List.length_map]; omega), ?_⟩
        walk_at "put"; rename_i H5 b5 hL5
        refine ⟨⟨_, _, rfl⟩, But.new_put nL0 (ba.trans b4) b5, ?_, xs ++ [x], ?_, ?_, ?_⟩
        · obtain ⟨a, b, c, z⟩ := hs4
          exact ⟨a, b, c, b5 _ _ sL z⟩
        · rw [hL5, show zI (xs ++ [x]) = zI xs ++ [.int x] from List.map_append]
        · intro y hy
          rcases List.mem_append.mp hy with hy | hy
          · exact bd y hy
          · rw [List.mem_singleton.mp hy]
            exact ⟨x0, x1⟩
        · rw [List.length_append, lx]
          rfl
      · intro R hR
        refine ⟨_, rfl, s, 4, rfl, hsa, by decide, by decide, fun r H4 r0 r1 b4 hs4 => ⟨_, _, rfl, rfl, _, rfl, ite2 (fun c => ?_) (fun c => ?_)⟩⟩
        · refine ⟨_, rfl, _, rfl, s, 9, rfl, hs4, by decide, by decide, fun r2 H5 r20 r21 b5 hs5 => ⟨_, _, rfl, rfl, ?_⟩⟩
          exact hR _ _ (by omega) (by omega) (b4.trans b5) hs5
        · refine ⟨_, rfl, s, 64, rfl, hs4, by decide, by decide, fun r2 H5 r20 r21 b5 hs5 => ?_⟩
          exact hR _ _ (by omega) (by omega) (b4.trans b5) hs5
    · rintro σ Ha ⟨⟨x4, x5, rfl⟩, ba, hsa, xs, hLa, bd, lx⟩
      refine ⟨_, rfl, L, xs, rfl, SqL.of hLa, by omega, fun p c np hc => ?_⟩
      have s4 := Same.new (o := SetO w p (fun j => decide (j ∈ xs)) c) np
      have h4 : upd Ha p (SetO w p (fun j => decide (j ∈ xs)) c) p = some (SetO w p (fun j => decide (j ∈ xs)) c) := upd_same
      refine ⟨p, _, c, rfl, h4, by omega, fun ns q2 ris mem len nq => ?_⟩
      have s5 := Same.new (o := HO.lst (ns.map V.int)) nq
      refine ⟨q2, _, rfl, .inl ⟨SqL.of upd_same, ?_⟩⟩
      walk_at "new"; rename_i q3 nq3 H6 s6 h6
      have sa6 := s4.trans (s5.trans s6)
      refine q q3 ns H6 (ba.trans (Same.but sa6)) (hsa.same sa6) h6 ⟨ris, fun x hx => bd x ?_⟩
      exact of_decide_eq_true ((mem x).mp hx)
def spSome : Sp := fun vs H Q _ => ∃ (s p : Addr) (xs : List Int), vs = [.ref s, .ref p] ∧ SrcAt H s ∧ H p = some (.tup (zI xs)) ∧ GoodS xs ∧ ∀ p ys H', But s H H' → SrcAt H' s → H' p = some (.tup (zI ys)) → GoodS ys → Q (.ref p) H'
theorem ok_law_some_of (Z : Zs w K mg) (D : At K mg "_law_some_of" s_law_some_of) (C_law_next : Cal P w K mg base "_law_next" 2 ["_law_source_here", "_law_many"] spNext) : Cal P w K mg base "_law_some_of" 3 ["_law_source_here", "_law_many_so"] spSome := by
  refine mk_cal D sc_law_some_of (fun _ _ _ _ _ _ us hl => match us, hl with | [_, _], _ => rfl) (fun vs H Q E h => ?_) (fun f cdv A outer st H vs Q E hr h => ?_)
  · obtain ⟨s, p, xs, rfl, _⟩ := h
    rfl
  · obtain ⟨s, p, xs, rfl, hs0, hp, g, q⟩ := h
    obtain ⟨o, hso⟩ := hs0.there
    have ps : p ≠ s := by
      obtain ⟨_, _, _, z⟩ := hs0
      exact ne_of hp z (by intro z; cases z)
    have l64 := g.len
    refine ⟨_, (pss_one (ps_ret (pe_callTy call_tuple_of rfl Z.tuple (by decide +kernel) (pa_cons (pe_lc (own := [("_law_one_here", 2)]) rfl sc_law_some_of.nd (pi_tup (pv 1)) (blkOk_by (own := [("_law_one_here", 2)]) (N := N_law_some_of) (sc := defScope s_law_some_of) (by decide +kernel)) (fun _ _ _ _ _ => (pg_name (i := 2) sc_law_some_of.nd rfl (.inl rfl))) (fun _ _ _ _ _ => (pts_one (pt_cmpR op_gt (pe_cal C_law_next (hr.mono (by decide)) rfl (pa_cons (pv 0) (pa_cons pe_int pa_nil))) pe_int (nomark _)))) (fun _ _ _ _ _ => (pv 2))) pa_nil)))), ?_⟩
    refine ⟨_, rfl, p, rfl, ⟨_, SqT.of hp⟩, fun D nD => ?_⟩
    have sD : s ≠ D := ne_of_none hso nD
    refine lc_it walk_tup (fun i H' => But s H H' ∧ SrcAt H' s ∧ ∃ ys, H' D = some (.lst (zI ys)) ∧ ys.Sublist (xs.take i)) ⟨Same.but (Same.new nD), hs0.same (Same.new nD), [], upd_same, List.nil_sublist _⟩ (fun i H' _ h => SqT.of (h.1 _ _ ps hp)) ?_ ?_
    · rintro i v Ha Hb hi ⟨ba, hsa, ys, hDa, sub⟩ ⟨rfl, hv⟩
      rw [List.length_map] at hi
      rw [List.getElem?_map, List.getElem?_eq_getElem hi] at hv
      cases hv
      have ly := sub.length_le
      rw [List.length_take] at ly
      have et : xs.take (i + 1) = xs.take i ++ [xs[i]] := List.take_succ_eq_append_getElem hi
      refine ⟨rfl, ?_⟩
      refine ⟨_, rfl, s, 3, rfl, hsa, by decide, by decide, fun r H4 r0 r1 b4 hs4 => ⟨_, _, rfl, rfl, _, rfl, ite2 (fun c => ?_) (fun c => ?_)⟩⟩
      · have hD4 := b4 _ _ sD.symm hDa
        refine ⟨_, rfl, _, hD4, small1000 (by rw [List.length_map]; omega), But.new_put nD (ba.trans b4) But.upd, ?_, ys ++ [xs[i]], ?_, ?_⟩
        · obtain ⟨a, b, c, z⟩ := hs4
          exact ⟨a, b, c, by rw [upd_ne sD]; exact z⟩
        · rw [upd_same, show zI (ys ++ [xs[i]]) = zI ys ++ [.int xs[i]] from List.map_append]
        · rw [et]
          exact sub.append (List.Sublist.refl _)
      · refine ⟨ba.trans b4, hs4, ys, b4 _ _ sD.symm hDa, ?_⟩
        rw [et]
        exact sub.trans (List.sublist_append_left _ _)
    · rintro Ha ⟨ba, hsa, ys, hDa, sub⟩
      rw [List.length_map, List.take_length] at sub
      refine ⟨D, _, rfl, .inl ⟨SqL.of hDa, ?_⟩⟩
      walk_at "new"; rename_i p2 np2 H5 s5 hp2
      exact q p2 ys H5 (ba.trans (Same.but s5)) (hsa.same s5) hp2 (g.sub sub)
end
end Bd

namespace Bd
open PySem PySem.Spec PyProof.Rows L2
theorem But.stayS {H H' : Hp} {s : Addr} (hs : SrcAt H s) (b : But s H H') : Stay H H' := by
  obtain ⟨_, _, _, z⟩ := hs
  exact But.stay z b
def SomeT (H : Hp) (y : V) : Prop := ∃ q ys, y = .ref q ∧ H q = some (.tup (zI ys)) ∧ GoodS ys
theorem SomeT.stay {H H' : Hp} {y : V} (h : SomeT H y) (s : Stay H H') : SomeT H' y := by
  obtain ⟨q, ys, e, h1, h2⟩ := h
  exact ⟨q, ys, e, s _ _ h1 (fun l z => nomatch z), h2⟩
def AskG (H : Hp) (v : V) : Prop := ∃ a, AskAt H v a ∧ ∀ xs, a = some xs → GoodS xs
theorem AskG.stay {H H' : Hp} {y : V} (h : AskG H y) (s : Stay H H') : AskG H' y := by
  obtain ⟨a, h1, h2⟩ := h
  exact ⟨a, h1.stay s, h2⟩
theorem AskG.tup {H : Hp} {p : Addr} {xs : List Int} (h : H p = some (.tup (zI xs))) (g : GoodS xs) : AskG H (.ref p) := ⟨some xs, ⟨p, rfl, h⟩, fun ys e => by cases e; exact g⟩
theorem AskG.non {H : Hp} : AskG H .non := ⟨none, rfl, fun ys e => nomatch e⟩
theorem goodRows_nil : GoodRows [] := ⟨.nil, (fun _ h => nomatch h), (fun i r h => by simp at h), (fun _ h => nomatch h), (fun _ h => nomatch h)⟩
theorem rows_snoc {rs : List Gr} {r : Gr} (g : GoodRows rs) (h1 : okName r.nm) (h2 : r.nm ∉ namesR rs) (h3 : r.ab = ("" : Str) ∨ r.ab ∈ namesR rs) (h4 : ∀ a, r.asks = some a → GoodS a) (h5 : r.mrk = 0 ∨ r.mrk = 1) : GoodRows (rs ++ [r]) := by
  have mem : ∀ x ∈ rs ++ [r], x ∈ rs ∨ x = r := fun x hx => (List.mem_append.mp hx).imp id List.mem_singleton.mp
  refine ⟨?_, fun x hx => ?_, fun i x hx => ?_, fun x hx => ?_, fun x hx => ?_⟩
  · rw [List.map_append]
    refine List.nodup_append.mpr ⟨g.nd, by simp, fun x hx y hy => ?_⟩
    have e : y = r.nm := List.mem_singleton.mp hy
    rw [e]
    exact fun z => h2 (z ▸ hx)
  · rcases mem x hx with h | h
    · exact g.nms x h
    · rw [h]; exact h1
  · by_cases lt : i < rs.length
    · rw [List.getElem?_append_left lt] at hx
      rw [List.take_append_of_le_length (by omega)]
      exact g.abv i x hx
    · have hi := (List.getElem?_eq_some_iff.mp hx).1
      rw [List.length_append, List.length_singleton] at hi
      have e : i = rs.length := by omega
      subst e
      rw [List.getElem?_append_right (Nat.le_refl _), Nat.sub_self] at hx
      cases hx
      rw [List.take_left]
      exact h3
  · rcases mem x hx with h | h
    · exact g.asks x h
    · rw [h]; exact h4
  · rcases mem x hx with h | h
    · exact g.mrk x h
    · rw [h]; exact h5
section
variable {P : Program} {w : World} {K : PySem.W.Frag} {mg : Str → Option Value} {base : Heap}
def spRows : Sp := fun vs H Q _ => ∃ (s p : Addr) (m : Int) (xs : List Int), vs = [.ref s, .int m, .ref p] ∧ SrcAt H s ∧ 0 ≤ m ∧ m ≤ 12 ∧ H p = some (.tup (zI xs)) ∧ GoodS xs ∧
  ∀ F rows H', But s H H' → SrcAt H' s → RowsAt H' F rows → GoodRows rows → rows.length ≤ 12 → Q (.ref F) H'
theorem ok_law_set_rows (Z : Zs w K mg) (D : At K mg "_law_set_rows" s_law_set_rows) (C_law_next : Cal P w K mg base "_law_next" 2 ["_law_source_here", "_law_many"] spNext) (C_law_one : Cal P w K mg base "_law_one" 3 ["_law_source_here", "_law_things"] spOne)
    (C_law_names : Cal P w K mg base "_law_names" 3 ["_law_source_here", "_law_many"] spNames) (C_law_set : Cal P w K mg base "_law_set" 3 ["_law_source_here", "_law_few"] spSetL) (C_law_some_of : Cal P w K mg base "_law_some_of" 3 ["_law_source_here", "_law_many_so"] spSome) :
    Cal P w K mg base "_law_set_rows" 4 ["_law_source_here", "_law_many", "_law_every"] spRows := by
  refine mk_cal D sc_law_set_rows (fun _ _ _ _ _ _ us hl => match us, hl with | [_, _, _], _ => rfl) (fun vs H Q E h => ?_) (fun f cdv A outer st H vs Q E hr h => ?_)
  · obtain ⟨s, p, m, xs, rfl, _⟩ := h
    rfl
  · obtain ⟨s, p, m, xs, rfl, hs0, m0, m1, hp, gx, q⟩ := h
    obtain ⟨o, hso⟩ := hs0.there
    have ps : p ≠ s := by
      obtain ⟨_, _, _, z⟩ := hs0
      exact ne_of hp z (by intro z; cases z)
    refine ⟨_, (pss_cons (ps_par rfl sc_law_set_rows.nd (i := 3) (j := 4) rfl rfl (by decide) rfl rfl (pa_cons (pe_cal C_law_names (hr.mono (by decide)) rfl (pa_cons (pv 0) (pa_cons (pv 1) pa_nil))) (pa_cons (pe_lst pa_nil) pa_nil)) (by rfl))
  (pss_cons (ps_for PassesOwn.never rfl (pi_enum rfl Z.enumerate (pa_cons (pv 3) pa_nil)) (pg_tup rfl (pgs_cons (pg_name (i := 5) sc_law_set_rows.nd rfl (.inl rfl)) (pgs_cons (pg_name (i := 6) sc_law_set_rows.nd rfl (.inl rfl)) pgs_nil)))
  (pss_cons (ps_set (i := 7) sc_law_set_rows.nd rfl (.inl rfl) (pe_cal C_law_next (hr.mono (by decide)) rfl (pa_cons (pv 0) (pa_cons pe_int pa_nil))))
  (pss_cons (ps_set (i := 8) sc_law_set_rows.nd rfl (.inl rfl) (pe_ifExp (pt_cmpR op_eq (pv 7) pe_int (nomark _)) (pe_callB (call_max2 rfl) rfl Z.max (by decide +kernel) (pa_cons pe_int (pa_cons (pe_op op_sub (pv 5) pe_int) pa_nil))) (pe_cal C_law_next (hr.mono (by decide)) rfl (pa_cons (pv 0) (pa_cons (pe_callB (call_max2 rfl) rfl Z.max (by decide +kernel) (pa_cons pe_int (pa_cons (pv 5) pa_nil))) pa_nil)))))
  (pss_cons (ps_set (i := 9) sc_law_set_rows.nd rfl (.inr rfl) (pe_ifExp (PW.pt (pw_or (pt_cmpR op_eq (pv 5) pe_int (nomark _)) (pw_or1 (pt_cmpR op_eq (pv 7) pe_int (nomark _))))) pe_str (pe_ix (r := rIxL K) ix_list (pv 3) (pv 8) (fun _ _ => rfl))))
  (pss_cons (ps_set (i := 10) sc_law_set_rows.nd rfl (.inl rfl) (pe_op op_cat (pe_lc (own := [("_law_row", 12)]) rfl sc_law_set_rows.nd (pi_list (pv 4)) (blkOk_by (own := [("_law_row", 12)]) (N := N_law_set_rows) (sc := defScope s_law_set_rows) (by decide +kernel)) (fun _ _ _ _ _ => (pg_name (i := 12) sc_law_set_rows.nd rfl (.inl rfl))) (fun _ _ _ _ _ => (pts_one (PW.pt (pw_and (pt_cmpR op_eq (pe_ix (r := rIxT K) ix_tup (pv 12) pe_int (fun _ _ => rfl)) (pv 9) (nomark _)) (pw_and1 (pt_cmpR op_notN (pe_ix (r := rIxT K) ix_tup (pe_ix (r := rIxT K) ix_tup (pe_ix (r := rIxT K) ix_tup (pv 12) pe_int (fun _ _ => rfl)) pe_int (fun _ _ => rfl)) pe_int (fun _ _ => rfl)) pe_non (nomark _))))))) (fun _ _ _ _ _ => (pe_ix (r := rIxT K) ix_tup (pe_ix (r := rIxT K) ix_tup (pe_ix (r := rIxT K) ix_tup (pv 12) pe_int (fun _ _ => rfl)) pe_int (fun _ _ => rfl)) pe_int (fun _ _ => rfl)))) (pe_lst (pa_cons (pv 2) pa_nil))))
  (pss_cons (ps_set (i := 11) sc_law_set_rows.nd rfl (.inl rfl) (pe_cal C_law_one (hr.mono (by decide)) rfl (pa_cons (pv 0) (pa_cons (pe_lst (pa_cons pe_non (pa_cons (pe_cal C_law_some_of (hr.mono (by decide)) rfl (pa_cons (pv 0) (pa_cons (pe_ix (r := rIxL K) ix_list (pv 10) pe_int (fun _ _ => rfl)) pa_nil))) (pa_cons (pe_cal C_law_some_of (hr.mono (by decide)) rfl (pa_cons (pv 0) (pa_cons (pe_ix (r := rIxL K) ix_list (pv 10) pe_int (fun _ _ => rfl)) pa_nil))) (pa_cons (pe_slice (r := rSlA K) sl_tupA (pe_ix (r := rIxL K) ix_list (pv 10) pe_int (fun _ _ => rfl)) po_none (po_some pe_int)) pa_nil))))) pa_nil))))
  (pss_cons (ps_if (pt_cmpR op_eq (pe_cal C_law_next (hr.mono (by decide)) rfl (pa_cons (pv 0) (pa_cons pe_int pa_nil))) pe_int (nomark _)) (pss_one (ps_set (i := 11) sc_law_set_rows.nd rfl (.inl rfl) (pe_cal C_law_one (hr.mono (by decide)) rfl (pa_cons (pv 0) (pa_cons (pe_lst (pa_cons (pe_tup pa_nil) (pa_cons (pe_cal C_law_set (hr.mono (by decide)) rfl (pa_cons (pv 0) (pa_cons pe_int pa_nil))) (pa_cons (pv 2) pa_nil)))) pa_nil))))) pss_nil)
  (pss_one (ps_expr (pe_bm PySem.F.plainAttrs_list PySem.F.slot_list_append PySem.F.type_list_append mt_append (pv 4) (pa_cons (pe_tup (pa_cons (pv 6) (pa_cons (pv 9) (pa_cons (pe_tupF (pa_cons (pe_tup (pa_cons pe_str (pa_cons (pv 11) pa_nil))) (pa_cons (pe_tup (pa_cons pe_str (pa_cons (pe_callTy call_int1 rfl Z.int (by decide +kernel) (pa_cons (pe_cmpR op_gt (pe_cal C_law_next (hr.mono (by decide)) rfl (pa_cons (pv 0) (pa_cons pe_int pa_nil))) pe_int (nomark _)) pa_nil)) pa_nil))) pa_nil))) pa_nil)))) pa_nil)))))))))))
  (pss_one (ps_ret (pv 4))))), ?_⟩
    refine ⟨_, rfl, _, rfl, s, m, rfl, hs0, m0, m1, fun nl nms H1 b1 hs1 nnl hnl nd okn ln => ⟨line100 (by show 0 ≤ 1000; decide), ?_⟩⟩
    obtain ⟨o1, hso1⟩ := hs1.there
    walk_at "new"; rename_i F nF H2 s2 hF
    have sF : s ≠ F := ne_of_none hso1 nF
    have snl : nl ≠ s := (ne_of_none hso nnl).symm
    have nlF : nl ≠ F := ne_of_none hnl nF
    have pF : p ≠ F := ne_of_none (b1 _ _ ps hp) nF
    have nF0 : H F = none := by
      cases e : H F with
      | none => rfl
      | some o =>
        rw [b1 _ _ sF.symm e] at nF
        cases nF
    refine ⟨_, _, rfl, ?_⟩
    refine ⟨_, rfl, nl, zS nms, rfl, SqL.of (s2 _ _ hnl), for_it walk_enum (fun i σ H' => (∃ x5 x6 x7 x8 x9 x10 x11, σ = [some (.ref s), some (.int m), some (.ref p), some (.ref nl), some (.ref F), x5, x6, x7, x8, x9, x10, x11, none]) ∧ But s H H' ∧ SrcAt H' s ∧ H' nl = some (.lst (zS nms)) ∧ ∃ rs vs, H' F = some (.lst vs) ∧ Paired (RowAt H') rs vs ∧ GoodRows rs ∧ namesR rs = nms.take i)
      ⟨⟨none, none, none, none, none, none, none, rfl⟩, b1.trans (Same.but s2), hs1.same s2, s2 _ _ hnl, [], [], hF, .nil, goodRows_nil, rfl⟩ (fun i σ H' _ h => SqL.of h.2.2.2.1) ?_ ?_⟩
    · rintro i x σ Ha Hb hi ⟨⟨x5, x6, x7, x8, x9, x10, x11, rfl⟩, ba, hsa, hnla, rs, vs, hFa, pr, g, en⟩ ⟨T, i1, nv, rfl, nT, rfl, e1, e2⟩
      rw [List.length_map] at hi
      have e2' : (zS nms)[i]? = some nv := e2
      rw [List.getElem?_map, List.getElem?_eq_getElem hi] at e2'
      cases e2'
      cases (show some (V.int (i : Nat)) = some i1 from e1)
      have sT : Same Ha (upd Ha T (.tup [.int (i : Nat), .str nms[i]])) := Same.new nT
      have gT : upd Ha T (.tup [.int (i : Nat), .str nms[i]]) T = some (.tup [.int (i : Nat), .str nms[i]]) := upd_same
      generalize upd Ha T (.tup [.int (i : Nat), .str nms[i]]) = Hb at *
      have lrs : rs.length = i := by
        have := congrArg List.length en
        rw [List.length_map, List.length_take] at this
        omega
      have l12 : i < 12 := by omega
      have hsb := hsa.same sT
      have bb : But s H Hb := ba.trans (Same.but sT)
      have fp : ∀ H', But s Hb H' → H' p = some (.tup (zI xs)) := fun H' b => b _ _ ps (bb _ _ ps hp)
      have fn : ∀ H', But s Hb H' → H' nl = some (.lst (zS nms)) := fun H' b => b _ _ snl (sT _ _ hnla)
      have fF : ∀ H', But s Hb H' → H' F = some (.lst vs) := fun H' b => b _ _ sF.symm (sT _ _ hFa)
      have fr : ∀ H', But s Hb H' → Paired (RowAt H') rs vs := fun H' b => rows_stay pr (Stay.trans (Same.stay sT) (But.stayS hsb b))
      have lvs : vs.length = i := by rw [← Paired.length pr, lrs]
      refine ⟨T, _, rfl, SqT.of gT, rfl, _, _, rfl, _, _, rfl, rfl, ?_⟩
      refine seq_ (asg_ ?_)
      refine ⟨_, rfl, s, 4, rfl, hsb, by decide, by decide, fun way H3 w0 w1 b3 hs3 => ?_⟩
      refine name_ ?_
      dsimp only
      -- the place
      refine abs_ (fun R => ∀ (pl : Nat) H', But s Hb H' → SrcAt H' s → (i = 0 ∨ pl < i) → R [some (.ref s), some (.int m), some (.ref p), some (.ref nl), some (.ref F), some (.int (i : Nat)), some (.str nms[i]), some (.int way), some (.int (pl : Nat)), x9, x10, x11, none] H') ?_ ?_
      · intro pl H4 b4 hs4 hpl
        -- above
        refine abs_ (fun R => ∀ ab, (ab = ("" : Str) ∨ ab ∈ nms.take i) → R [some (.ref s), some (.int m), some (.ref p), some (.ref nl), some (.ref F), some (.int (i : Nat)), some (.str nms[i]), some (.int way), some (.int (pl : Nat)), some (.str ab), x10, x11, none] H4) ?_ ?_
        · intro ab hab
          -- the pool
          refine abs_ (fun R => ∀ L ys H', Same H4 H' → H' L = some (.lst ys) → ys ≠ [] → (∀ y ∈ ys, SomeT H' y) → L ≠ s → R [some (.ref s), some (.int m), some (.ref p), some (.ref nl), some (.ref F), some (.int (i : Nat)), some (.str nms[i]), some (.int way), some (.int (pl : Nat)), some (.str ab), some (.ref L), x11, none] H') ?_ ?_
          · intro L ys H5 s5 hL nL hys Ls
            have b5 : But s Hb H5 := b4.trans (Same.but s5)
            have hs5 := hs4.same s5
            obtain ⟨y0, yt, rfl⟩ : ∃ y0 yt, ys = y0 :: yt := List.exists_cons_of_ne_nil nL
            obtain ⟨q0, z0, rfl, hq0, g0⟩ := hys y0 List.mem_cons_self
            have q0s : q0 ≠ s := by
              obtain ⟨_, _, _, z⟩ := hs5
              exact ne_of hq0 z (by intro z; cases z)
            have a0 : atI (V.ref q0 :: yt) 0 = some (V.ref q0) := at_nat (j := 0) rfl
            -- the asks
            refine abs_ (fun R => ∀ v H', But s Hb H' → SrcAt H' s → AskG H' v → R [some (.ref s), some (.int m), some (.ref p), some (.ref nl), some (.ref F), some (.int (i : Nat)), some (.str nms[i]), some (.int way), some (.int (pl : Nat)), some (.str ab), some (.ref L), some v, none] H') ?_ ?_
            · intro v H6 b6 hs6 hv
              refine abs_ (fun R => ∀ v H', But s Hb H' → SrcAt H' s → AskG H' v → R [some (.ref s), some (.int m), some (.ref p), some (.ref nl), some (.ref F), some (.int (i : Nat)), some (.str nms[i]), some (.int way), some (.int (pl : Nat)), some (.str ab), some (.ref L), some v, none] H') ?_ ?_
              · intro v H7 b7 hs7 hv
                have hF7 := fF H7 b7
                have hso7 := hs7.there
                obtain ⟨av, hav, gav⟩ := hv
                refine ⟨_, rfl, .inl ⟨rfl, _, SqL.of hF7⟩, _, rfl, _, rfl, _, rfl, line100 (by show 2 ≤ 1000; decide), ?_⟩
                walk_at "new"; rename_i d1 nd1 H8 s8 hd1
                refine ⟨_, rfl, s, 3, rfl, hs7.same s8, by decide, by decide, fun r H9 r0 r1 b9 hs9 => ⟨_, _, rfl, rfl, .inr ⟨_, rfl, line100 (by show 2 ≤ 1000; decide), ?_⟩⟩⟩
                obtain ⟨mk, emk, hmk⟩ : ∃ mk : Int, mk = (if decide ((0 : Int) < r) = true then 1 else 0) ∧ (mk = 0 ∨ mk = 1) := ⟨_, rfl, by split; exact .inr rfl; exact .inl rfl⟩
                walk_at "new"; rename_i d2 nd2 H10 s10 hd2
                refine ⟨line100 (by show 2 ≤ 1000; decide), fun d od ndd hcd hnd => ?_⟩
                have s11 : Same H10 (upd H10 d (.frz od (.tup [.ref d1, .ref d2]))) := Same.new ndd
                have hd11 : upd H10 d (.frz od (.tup [.ref d1, .ref d2])) d = some (.frz od (.tup [.ref d1, .ref d2])) := upd_same
                generalize upd H10 d (.frz od (.tup [.ref d1, .ref d2])) = H11 at *
                refine ⟨line100 (by show 3 ≤ 1000; decide), ?_⟩
                walk_at "new"; rename_i qq nqq H12 s12 hqq
                have s912 := s10.trans (s11.trans s12)
                have b712 : But s H7 H12 := ((Same.but s8).trans b9).trans (Same.but s912)
                have b012 := b7.trans b712
                have hF12 := fF H12 b012
                refine ⟨F, _, _, rfl, rfl, hF12, small1000 (by omega), ?_⟩
                walk_at "put"; rename_i H13 b13 hF13
                have st13 : Stay H12 H13 := But.stay hF12 b13
                have hd1s : d1 ≠ s := by
                  obtain ⟨o, z⟩ := hso7
                  exact (ne_of_none z nd1).symm
                have row : RowAt H13 ⟨nms[i], ab, av, mk⟩ (.ref qq) := by
                  refine RowAt.stay ⟨qq, d, rfl, hqq, ⟨od, d1, d2, v, s12 _ _ hd11, hcd, hnd, s912 _ _ (b9 _ _ hd1s hd1), ?_, hav.stay (But.stayS hs7 b712)⟩⟩ st13
                  have z := (s11.trans s12) _ _ hd2
                  rw [emk]
                  exact z
                have nin : nms[i] ∉ namesR rs := by
                  rw [en]
                  intro z
                  obtain ⟨k, hk, ek⟩ := List.mem_iff_getElem.mp z
                  rw [List.length_take] at hk
                  rw [List.getElem_take] at ek
                  have := (List.getElem_inj nd).mp ek
                  omega
                refine ⟨⟨_, _, _, _, _, _, _, rfl⟩, But.new_put nF0 (bb.trans b012) b13, ?_, b13 _ _ nlF (fn H12 b012), rs ++ [⟨nms[i], ab, av, mk⟩], _, hF13, prd_append (rows_stay (fr H12 b012) st13) (.cons row .nil), rows_snoc g (okn _ (List.getElem_mem hi)) nin (by rw [en]; exact hab) gav hmk, ?_⟩
                · obtain ⟨a, b, c, z⟩ := hs9.same s912
                  exact ⟨a, b, c, b13 _ _ sF z⟩
                · show List.map _ (rs ++ [_]) = _
                  rw [List.map_append, List.take_succ_eq_append_getElem hi, ← en]
                  rfl
              · intro R hR
                refine ⟨_, rfl, s, 8, rfl, hs6, by decide, by decide, fun r H7 r0 r1 b7 hs7 => ⟨rfl, _, rfl, ite2 (fun c => ?_) (fun c => hR v H7 (b6.trans b7) hs7 (hv.stay (But.stayS hs6 b7)))⟩⟩
                refine ⟨_, rfl, line100 (by show 0 ≤ 1000; decide), ?_⟩
                walk_at "new"; rename_i E nE H8 s8 hE
                refine ⟨_, rfl, s, 4, rfl, hs7.same s8, by decide, by decide, fun p2 x2 H9 b9 hs9 h2 g2 => ⟨_, rfl, line100 (by show 3 ≤ 1000; decide), ?_⟩⟩
                walk_at "new"; rename_i L2 nL2 H10 s10 hL2
                have L2s : L2 ≠ s := by
                  obtain ⟨o, z⟩ := hs9.there
                  exact (ne_of_none z nL2).symm
                have b610 : But s H6 H10 := b7.trans ((Same.but s8).trans (b9.trans (Same.but s10)))
                refine ⟨s, L2, _, rfl, hs9.same s10, hL2, L2s, by simp, by show 3 ≤ 1000; decide, fun v2 H11 hv2 b11 hs11 => hR v2 H11 (b6.trans (b610.trans b11)) hs11 ?_⟩
                have st : Stay H10 H11 := But.stayS (hs9.same s10) b11
                simp only [List.mem_cons, List.not_mem_nil, or_false] at hv2
                rcases hv2 with rfl | rfl | rfl
                · have hE2 : H8 E = some (.tup (zI [])) := hE
                  exact ((AskG.tup hE2 GoodS.nil).stay (Stay.trans (But.stayS (hs7.same s8) b9) (Same.stay s10))).stay st
                · exact (AskG.tup (s10 _ _ h2) g2).stay st
                · exact (AskG.tup (fp H10 (b6.trans b610)) gx).stay st
            · intro R hR
              refine ⟨_, rfl, _, rfl, _, rfl, L, _, _, _, rfl, rfl, SqL.of hL, a0, s, q0, z0, rfl, hs5, hq0, g0, fun p1 y1 H6 b6 hs6 hp1 g1 => ?_⟩
              refine ⟨_, rfl, _, rfl, L, _, _, _, rfl, rfl, SqL.of (b6 _ _ Ls hL), a0, s, q0, z0, rfl, hs6, b6 _ _ q0s hq0, g0, fun p2 y2 H7 b7 hs7 hp2 g2 => ?_⟩
              have b57 := b6.trans b7
              refine ⟨_, rfl, L, _, _, _, rfl, rfl, SqL.of (b57 _ _ Ls hL), a0, ?_⟩
              refine no_part ?_
              refine ⟨_, rfl, ?_⟩
              refine sl_any (hi := some ((1 : Nat) : Int)) (b57 _ _ q0s hq0) fun p3 H8 s8 h8 => ?_
              rw [cut_to, show (zI z0).take 1 = zI (z0.take 1) from List.map_take.symm] at h8
              refine ⟨line100 (by show 4 ≤ 1000; decide), ?_⟩
              walk_at "new"; rename_i L2 nL2 H10 s10 hL2
              have L2s : L2 ≠ s := by
                obtain ⟨o, z⟩ := (hs7.same s8).there
                exact (ne_of_none z nL2).symm
              have s810 := s8.trans s10
              refine ⟨s, L2, _, rfl, hs7.same s810, hL2, L2s, by simp, by show 4 ≤ 1000; decide, fun v2 H11 hv2 b11 hs11 => hR v2 H11 (b5.trans (b57.trans ((Same.but s810).trans b11))) hs11 ?_⟩
              have st : Stay H10 H11 := But.stayS (hs7.same s810) b11
              simp only [List.mem_cons, List.not_mem_nil, or_false] at hv2
              rcases hv2 with rfl | rfl | rfl | rfl
              · exact AskG.non
              · exact ((AskG.tup hp1 g1).stay (Stay.trans (But.stayS hs6 b7) (Same.stay s810))).stay st
              · exact ((AskG.tup hp2 g2).stay (Same.stay s810)).stay st
              · exact (AskG.tup (s10 _ _ h8) (g0.sub (List.take_sublist _ _))).stay st
          · intro R hR
            refine ⟨_, rfl, F, rfl, ⟨_, SqL.of (fF H4 b4)⟩, fun D nD => lc_rel (n := vs.length) rs (Paired.length pr) walk_list (fun r => decide (r.nm = ab) && r.asks.isSome) (fun r y H' => SomeT H' y) (fun _ _ _ _ h s => h.stay s) nD (small1000 (by omega)) (fun H' s' => SqL.of (s' _ _ (fF H4 b4))) (fun j r v H5 H6 Yes No hc s5 y yes no => ?_) (fun H5 ys s5 e5 pr5 => ?_)⟩
            · obtain ⟨rfl, hv⟩ := y
              obtain ⟨y2, ey, q1, d, rfl, hq1, hd⟩ := prd_get' (fr H4 b4) hc
              rw [hv] at ey
              cases ey
              obtain ⟨o, d1, d2, av, h1, hc1, hn, h2, h3, h4⟩ := (hd.stay (Same.stay s5)).ex
              have hq5 := s5 _ _ hq1
              have gr := g.asks r (List.mem_of_getElem? hc)
              refine ⟨rfl, ?_⟩
              refine ⟨_, rfl, q1, _, _, _, rfl, rfl, SqT.of hq5, rfl, _, rfl, rfl, _, rfl, ite2 (fun c => ?_) (fun c => iteF ?_)⟩
              · have cc : r.nm = ab := V.str.inj (of_decide_eq_true c)
                cases ea : r.asks with
                | none =>
                  rw [ea] at h4
                  cases (show av = .non from h4)
                  refine ⟨_, rfl, q1, _, _, _, rfl, rfl, SqT.of hq5, rfl, d, _, _, _, rfl, rfl, .inl (.inr ⟨o, h1⟩), rfl, d1, _, _, _, rfl, rfl, SqT.of h2, rfl, rfl, false, rfl, iteF ?_⟩
                  exact no (by rw [ea]; simp) _ (Same.refl _)
                | some a =>
                  rw [ea] at h4
                  obtain ⟨pa, rfl, hpa⟩ := h4
                  refine ⟨_, rfl, q1, _, _, _, rfl, rfl, SqT.of hq5, rfl, d, _, _, _, rfl, rfl, .inl (.inr ⟨o, h1⟩), rfl, d1, _, _, _, rfl, rfl, SqT.of h2, rfl, rfl, true, rfl, iteT ?_⟩
                  refine ⟨_, rfl, q1, _, _, _, rfl, rfl, SqT.of hq5, rfl, d, _, _, _, rfl, rfl, .inl (.inr ⟨o, h1⟩), rfl, d1, _, _, _, rfl, rfl, SqT.of h2, rfl, ?_⟩
                  exact yes (by rw [ea, decide_eq_true cc]; rfl) _ _ ⟨pa, a, rfl, hpa, gr a ea⟩ (Same.refl _)
              · exact no (by rw [decide_eq_false (fun z => c (decide_eq_true (congrArg V.str z)))]; rfl) _ (Same.refl _)
            · refine ⟨_, rfl, line100 (by show 1 ≤ 1000; decide), ?_⟩
              walk_at "new"; rename_i L1 nL1 H6 s6 hL1
              have ly : ys.length ≤ 12 := by
                rw [← Paired.length pr5]
                have := List.length_filter_le (fun r : Gr => decide (r.nm = ab) && r.asks.isSome) rs
                omega
              refine ⟨D, L1, ys, _, rfl, rfl, s6 _ _ e5, hL1, line100 (by show ys.length + 1 ≤ 1000; omega), ?_⟩
              walk_at "new"; rename_i L nL H7 s7 hL
              have s57 := s6.trans s7
              have s47 := s5.trans s57
              refine hR L _ H7 s47 hL (by simp) (fun y hy => ?_) ?_
              · rcases List.mem_append.mp hy with hy | hy
                · obtain ⟨k, hk, ek⟩ := List.mem_iff_getElem.mp hy
                  obtain ⟨_, _, z⟩ := prd_get pr5 (List.getElem?_eq_some_iff.mpr ⟨hk, ek⟩)
                  exact z.stay (Same.stay s57)
                · rw [List.mem_singleton.mp hy]
                  exact ⟨p, xs, rfl, fp H7 (b4.trans (Same.but s47)), gx⟩
              · obtain ⟨o, z⟩ := (hs4.same (s5.trans s6)).there
                exact (ne_of_none z nL).symm
        · intro R hR
          refine ⟨_, rfl, rfl, _, rfl, ite2 (fun c => iteT (hR _ (.inl rfl))) (fun c => ⟨_, rfl, rfl, _, rfl, ite2 (fun c2 => hR _ (.inl rfl)) (fun c2 => ?_)⟩)⟩
          have i0 : i ≠ 0 := fun z => c (by rw [z]; exact decide_eq_true rfl)
          have lt := hpl.resolve_left i0
          have lt2 : pl < nms.length := by omega
          have e : (zS nms)[pl]? = some (.str nms[pl]) := by rw [List.getElem?_map, List.getElem?_eq_getElem lt2]; rfl
          exact ⟨_, rfl, _, rfl, nl, _, _, _, rfl, rfl, SqL.of (fn H4 b4), at_nat e, hR _ (.inr (List.mem_iff_getElem.mpr ⟨pl, by rw [List.length_take]; omega, List.getElem_take⟩))⟩
      · intro R hR
        refine ⟨_, rfl, rfl, _, rfl, ite2 (fun c => ?_) (fun c => ?_)⟩
        · refine ⟨_, rfl, _, _, rfl, rfl, _, _, rfl, ?_⟩
          have z := hR (i - 1) H3 b3 hs3 (by omega)
          have e : (if ((i : Nat) : Int) - 1 > 0 then ((i : Nat) : Int) - 1 else 0) = ((i - 1 : Nat) : Int) := by split <;> omega
          rw [← e] at z
          exact z
        · refine ⟨_, rfl, _, rfl, _, _, rfl, s, _, rfl, hs3, by split <;> omega, by split <;> omega, fun r H4 r0 r1 b4 hs4 => ?_⟩
          obtain ⟨k, rfl⟩ := Int.eq_ofNat_of_zero_le r0
          exact hR k H4 (b3.trans b4) hs4 (by split at r1 <;> omega)
    · rintro σ Ha ⟨⟨x5, x6, x7, x8, x9, x10, x11, rfl⟩, ba, hsa, hnla, rs, vs, hFa, pr, g, en⟩
      rw [List.length_map, List.take_length] at en
      refine ⟨_, rfl, q F rs Ha ba hsa ⟨vs, hFa, pr⟩ g ?_⟩
      have := congrArg List.length en
      rw [List.length_map] at this
      omega
end
end Bd

namespace Bd
open PySem PySem.Spec PyProof.Rows L2
section
variable {P : Program} {w : World} {K : PySem.W.Frag} {mg : Str → Option Value} {base : Heap}
/-! ### _law_asks, _law_alone -/
/-- x not in (None, ()) -/
theorem nin_two {H : Hp} {x : V} {T E : Addr} {a : Option (List Int)} {Q : VK} (hx : AskAt H x a) (hT : H T = some (.tup [.non, .ref E])) (hE : H E = some (.tup [])) (q : Q (.bl (!decide (askL a = []))) H) : rNotInT K x (.ref T) H Q := by
  have dT : Dp K H (.ref T) (.tuple [.none, .tuple []]) := .tup (SqT.of hT) (.cons .non (.cons (.tup (SqT.of hE) .nil) .nil))
  have sT : SeqAt.shaped (.tuple [.none, .tuple []]) = true := by decide +kernel
  cases a with
  | none =>
    cases (show x = .non from hx)
    exact ⟨_, _, .non, dT, by decide +kernel, sT, q⟩
  | some xs =>
    obtain ⟨p, rfl, hp⟩ := hx
    refine ⟨_, _, .tup (SqT.of hp) (dpI xs), dT, shT (layI xs), sT, ?_⟩
    cases xs with
    | nil => exact q
    | cons y r => exact q
structure Table (H : Hp) (R : Addr) (rows : List Gr) : Prop where
  at_ : RowsAt H R rows
  g : GoodRows rows
  l : rows.length ≤ 12
theorem Table.same {H H' : Hp} {R : Addr} {rows : List Gr} (h : Table H R rows) (s : Same H H') : Table H' R rows := ⟨h.at_.same s, h.g, h.l⟩
def PrA (r : Gr) (y : V) (H : Hp) : Prop := ∃ q av, y = .ref q ∧ H q = some (.tup [av, .int r.mrk]) ∧ AskAt H av r.asks
theorem PrA.stay {r : Gr} {y : V} {H H' : Hp} (h : PrA r y H) (s : Stay H H') : PrA r y H' := by
  obtain ⟨q, av, e, h1, h2⟩ := h
  exact ⟨q, av, e, s _ _ h1 (fun l z => nomatch z), h2.stay s⟩
def spLAsks : Sp := fun vs H Q _ => ∃ (R : Addr) (r : Gr) (rows : List Gr), vs = [.ref R, .str r.nm] ∧ Table H R rows ∧ r ∈ rows ∧ ∀ q av H', Same H H' → H' q = some (.tup [av, .int r.mrk]) → AskAt H' av r.asks → Q (.ref q) H'
theorem ok_law_asks (Z : Zs w K mg) (D : At K mg "_law_asks" s_law_asks) : Cal P w K mg base "_law_asks" 1 ["_law_rows", "_law_name"] spLAsks := by
  refine mk_cal D sc_law_asks (fun _ _ _ _ _ _ us hl => match us, hl with | [_, _], _ => rfl) (fun vs H Q E h => ?_) (fun f cdv A outer st H vs Q E hr h => ?_)
  · obtain ⟨R, r, rows, rfl, _⟩ := h
    rfl
  · obtain ⟨R, r0, rows, rfl, ⟨⟨vs, hR, pr⟩, g, l⟩, rm, q⟩ := h
    have lv : vs.length = rows.length := (Paired.length pr).symm
    refine ⟨_, (pss_one (ps_ret (pe_ix (r := rIxL K) ix_list (pe_lc (own := [("_law_row", 2)]) rfl sc_law_asks.nd (pi_list (pv 0)) (blkOk_by (own := [("_law_row", 2)]) (N := N_law_asks) (sc := defScope s_law_asks) (by decide +kernel)) (fun _ _ _ _ _ => (pg_name (i := 2) sc_law_asks.nd rfl (.inl rfl))) (fun _ _ _ _ _ => (pts_one (pt_cmpR op_eq (pe_ix (r := rIxT K) ix_tup (pv 2) pe_int (fun _ _ => rfl)) (pv 1) (nomark _)))) (fun _ _ _ _ _ => (pe_tup (pa_cons (pe_ix (r := rIxT K) ix_tup (pe_ix (r := rIxT K) ix_tup (pe_ix (r := rIxT K) ix_tup (pv 2) pe_int (fun _ _ => rfl)) pe_int (fun _ _ => rfl)) pe_int (fun _ _ => rfl)) (pa_cons (pe_ix (r := rIxT K) ix_tup (pe_ix (r := rIxT K) ix_tup (pe_ix (r := rIxT K) ix_tup (pv 2) pe_int (fun _ _ => rfl)) pe_int (fun _ _ => rfl)) pe_int (fun _ _ => rfl)) pa_nil))))) pe_int (fun _ _ => rfl)))), ?_⟩
    refine ⟨_, rfl, R, rfl, ⟨_, SqL.of hR⟩, fun D nD => lc_rel (n := vs.length) rows lv.symm walk_list (fun r => decide (r.nm = r0.nm)) (fun r y H' => PrA r y H') (fun _ _ _ _ h s => h.stay s) nD (small1000 (by omega)) (fun H' s' => SqL.of (s' _ _ hR)) (fun j r v H5 H6 Yes No hc s5 y yes no => ?_) (fun H5 ys s5 e5 pr5 => ?_)⟩
    · obtain ⟨rfl, hv⟩ := y
      obtain ⟨y2, ey, q1, d, rfl, hq1, hd⟩ := prd_get' pr hc
      rw [hv] at ey
      cases ey
      obtain ⟨o, d1, d2, av, h1, hc1, hn, h2, h3, h4⟩ := (hd.stay (Same.stay s5)).ex
      have hq5 := s5 _ _ hq1
      refine ⟨rfl, ?_⟩
      refine ⟨_, rfl, q1, _, _, _, rfl, rfl, SqT.of hq5, rfl, _, rfl, rfl, _, rfl, ite2 (fun c => ?_) (fun c => ?_)⟩
      · have cc : r.nm = r0.nm := V.str.inj (of_decide_eq_true c)
        refine ⟨_, rfl, q1, _, _, _, rfl, rfl, SqT.of hq5, rfl, d, _, _, _, rfl, rfl, .inl (.inr ⟨o, h1⟩), rfl, d1, _, _, _, rfl, rfl, SqT.of h2, rfl, ?_⟩
        refine ⟨_, rfl, q1, _, _, _, rfl, rfl, SqT.of hq5, rfl, d, _, _, _, rfl, rfl, .inl (.inr ⟨o, h1⟩), rfl, d2, _, _, _, rfl, rfl, SqT.of h3, rfl, line100 (by show 2 ≤ 1000; decide), ?_⟩
        walk_at "new"; rename_i T nT H7 s7 hT
        exact yes (decide_eq_true cc) _ _ ⟨T, av, rfl, hT, h4.stay (Same.stay s7)⟩ s7
      · exact no (decide_eq_false (fun z => c (decide_eq_true (congrArg V.str z)))) _ (Same.refl _)
    · cases ef : rows.filter (fun r => decide (r.nm = r0.nm)) with
      | nil =>
        have := List.filter_eq_nil_iff.mp ef r0 rm
        simp at this
      | cons r1 rest =>
        rw [ef] at pr5
        cases pr5 with
        | @cons _ y _ ys h t =>
          obtain ⟨q2, av, rfl, h1, h2⟩ := h
          have m1 := List.mem_filter.mp (show r1 ∈ rows.filter (fun r => decide (r.nm = r0.nm)) by rw [ef]; exact List.mem_cons_self)
          have e1 := row_eq g m1.1 rm (of_decide_eq_true m1.2)
          subst e1
          exact ⟨D, _, _, _, rfl, rfl, SqL.of e5, at_nat (j := 0) rfl, q q2 av _ s5 h1 h2⟩
def spLAlone : Sp := fun vs H Q _ => ∃ (R p : Addr) (nm : Str) (al : Bool) (has : List Int) (rows : List Gr), vs = [.ref R, .str nm, .ref p, .bl al] ∧ Table H R rows ∧ H p = some (.tup (zI has)) ∧ GoodS has ∧
  ∀ l H', Same H H' → H' l = some (.lst (zS (aloneG rows nm has al).1)) → Q (.ref l) H'
def foldA (al : Bool) (ks : List Gr) (has : List Int) : List Str × List Int := if al = true then ks.foldl stepG ([], has) else ([], has)
theorem foldA_snoc {al : Bool} {ks : List Gr} {has : List Int} {i : Nat} {r : Gr} (h : ks[i]? = some r) : foldA al (ks.take (i + 1)) has = if al = true then stepG (foldA al (ks.take i) has) r else foldA al (ks.take i) has := by
  unfold foldA
  cases al with
  | true => rw [if_pos rfl, if_pos rfl, if_pos rfl, fold_snoc h]
  | false => rfl
theorem kids_map (rows : List Gr) (nm : Str) : (rows.filter fun r => decide (r.ab = nm)).map (fun r => V.str r.nm) = zS (kidsN rows nm) := by
  rw [zS, kidsN, kidsR, List.map_map]
  rfl
theorem ok_law_alone (Z : Zs w K mg) (D : At K mg "_law_alone" s_law_alone) (C_law_asks : Cal P w K mg base "_law_asks" 1 ["_law_rows", "_law_name"] spLAsks) : Cal P w K mg base "_law_alone" 2 ["_law_rows", "_law_name", "_law_own", "_law_is_alone"] spLAlone := by
  refine mk_cal D sc_law_alone (fun _ _ _ _ _ _ us hl => match us, hl with | [_, _, _, _], _ => rfl) (fun vs H Q E h => ?_) (fun f cdv A outer st H vs Q E hr h => ?_)
  · obtain ⟨R, p, nm, al, has, rows, rfl, _⟩ := h
    rfl
  · obtain ⟨R, p, nm, al, has, rows, rfl, T0, hp, gh, Qk⟩ := h
    obtain ⟨vs, hR, pr⟩ := T0.at_
    have g := T0.g
    have l12 := T0.l
    have lv : vs.length = rows.length := (Paired.length pr).symm
    refine ⟨_, (pss_cons (ps_par rfl sc_law_alone.nd (i := 4) (j := 5) rfl rfl (by decide) rfl rfl (pa_cons (pe_lst pa_nil) (pa_cons (pe_callTy call_list_of rfl Z.list (by decide +kernel) (pa_cons (pv 2) pa_nil)) pa_nil)) (by rfl))
  (pss_cons (ps_for PassesOwn.never rfl (pi_list (pe_lc (own := [("_law_row", 10)]) rfl sc_law_alone.nd (pi_list (pv 0)) (blkOk_by (own := [("_law_row", 10)]) (N := N_law_alone) (sc := defScope s_law_alone) (by decide +kernel)) (fun _ _ _ _ _ => (pg_name (i := 10) sc_law_alone.nd rfl (.inl rfl))) (fun _ _ _ _ _ => (pts_one (pt_cmpR op_eq (pe_ix (r := rIxT K) ix_tup (pv 10) pe_int (fun _ _ => rfl)) (pv 1) (nomark _)))) (fun _ _ _ _ _ => (pe_ix (r := rIxT K) ix_tup (pv 10) pe_int (fun _ _ => rfl))))) (pg_name (i := 6) sc_law_alone.nd rfl (.inl rfl))
  (pss_cons (ps_asg (pe_cal C_law_asks (hr.mono (by decide)) rfl (pa_cons (pv 0) (pa_cons (pv 6) pa_nil))) (pg_tup rfl (pgs_cons (pg_name (i := 7) sc_law_alone.nd rfl (.inr rfl)) (pgs_cons (pg_name (i := 8) sc_law_alone.nd rfl (.inl rfl)) pgs_nil))))
  (pss_one (ps_if (PW.pt (pw_and (pt_val (pv 3)) (pw_and (pt_cmpR op_eq (pv 8) pe_int (nomark _)) (pw_and1 (pt_cmpR (r := rNotInT K) (op_notInTD (hu65 hr)) (pv 7) (pe_tup (pa_cons pe_non (pa_cons (pe_tup pa_nil) pa_nil))) rfl))))) (pss_cons (ps_setLc (i := 9) (own := [("_law_one_here", 11)]) rfl sc_law_alone.nd rfl rfl (sw_true rfl rfl rfl (by decide +kernel)) (pi_list (pv 5)) (blkOk_by (own := [("_law_one_here", 11)]) (N := N_law_alone) (sc := defScope s_law_alone) (by decide +kernel)) (fun _ _ _ _ _ => (pg_name (i := 11) sc_law_alone.nd rfl (.inl rfl))) (fun _ _ _ _ _ => (pts_one (pt_cmpR (r := rIn K true) op_notIn_seq (pv 11) (pv 7) rfl))) (fun _ _ _ _ _ => (pv 11)))
  (pss_one (ps_if (PW.pt (pw_and (pt_cmpR op_eq (pe_callB (r := rLenS K) call_len_seq rfl Z.len (by decide +kernel) (pa_cons (pv 9) pa_nil)) (pe_op op_sub (pe_callB (r := rLenS K) call_len_seq rfl Z.len (by decide +kernel) (pa_cons (pv 5) pa_nil)) (pe_callB (r := rLenS K) call_len_seq rfl Z.len (by decide +kernel) (pa_cons (pv 7) pa_nil))) (nomark _)) (pw_and1 (pt_cmpR (r := rNeD K) (op_neD hr.units) (pv 9) (pe_lst pa_nil) (nomark _))))) (pss_cons (ps_expr (pe_bm PySem.F.plainAttrs_list PySem.F.slot_list_append PySem.F.type_list_append mt_append (pv 4) (pa_cons (pv 6) pa_nil)))
  (pss_one (ps_set (i := 5) sc_law_alone.nd rfl (.inl rfl) (pv 9)))) pss_nil))) pss_nil))))
  (pss_one (ps_ret (pv 4))))), ?_⟩
    refine ⟨line100 (by show 0 ≤ 1000; decide), ?_⟩
    walk_at "new"; rename_i l nl H1 s1 hl1
    refine ⟨_, rfl, p, _, rfl, .inr (SqT.of (s1 _ _ hp)), ?_⟩
    walk_at "new"; rename_i fa nfa H2 s2 hf2
    refine ⟨_, _, rfl, ?_⟩
    have s02 := s1.trans s2
    refine ⟨_, rfl, R, rfl, ⟨_, SqL.of (s02 _ _ hR)⟩, fun D nD => lc_val (n := vs.length) rows lv.symm walk_list (fun r => if decide (r.ab = nm) = true then some (V.str r.nm) else none) nD (small1000 (by omega)) (fun H' s' => SqL.of (s' _ _ (s02 _ _ hR))) (fun j r v H5 H6 Yes No hc s5 y yes no => ?_) (fun HD sD eD => ?_)⟩
    · obtain ⟨rfl, hv⟩ := y
      obtain ⟨y2, ey, q1, d, rfl, hq1, _⟩ := prd_get' pr hc
      rw [hv] at ey
      cases ey
      have hq5 := s5 _ _ (s02 _ _ hq1)
      refine ⟨rfl, ?_⟩
      refine ⟨_, rfl, q1, _, _, _, rfl, rfl, SqT.of hq5, rfl, _, rfl, rfl, _, rfl, ite2 (fun c => ?_) (fun c => ?_)⟩
      · exact ⟨_, rfl, q1, _, _, _, rfl, rfl, SqT.of hq5, rfl, yes _ _ (if_pos (decide_eq_true (V.str.inj (of_decide_eq_true c)))) (Same.refl _)⟩
      · exact no (if_neg (fun z => c (decide_eq_true (congrArg V.str (of_decide_eq_true z))))) _ (Same.refl _)
    · rw [fm_filter, kids_map] at eD
      have s0D := s02.trans sD
      have Dl : D ≠ l := (ne_of_none (s2 _ _ hl1) nD).symm
      have kl : (kidsR rows nm).length ≤ rows.length := List.length_filter_le _ _
      have fa0 : foldA al ([] : List Gr) has = ([], has) := by
        unfold foldA
        split <;> rfl
      refine ⟨D, rfl, ⟨_, SqL.of eD⟩, for_it walk_list (fun i σ H' => ∃ x6 x7 x8 x9 fk, σ = [some (.ref R), some (.str nm), some (.ref p), some (.bl al), some (.ref l), some (.ref fk), x6, x7, x8, x9, none, none] ∧ fk ≠ l ∧ Same H H' ∧ H' D = some (.lst (zS (kidsN rows nm))) ∧ H' l = some (.lst (zS (foldA al ((kidsR rows nm).take i) has).1)) ∧ H' fk = some (.lst (zI (foldA al ((kidsR rows nm).take i) has).2)))
        ⟨none, none, none, none, fa, rfl, (ne_of_none hl1 nfa).symm, s0D, eD, by rw [List.take_zero, fa0]; exact sD _ _ (s2 _ _ hl1), by rw [List.take_zero, fa0]; exact sD _ _ hf2⟩ (fun i σ H' _ ⟨_, _, _, _, _, _, _, _, z, _⟩ => SqL.of z) ?_ ?_⟩
      · rintro i x σ Ha Hb hi ⟨x6, x7, x8, x9, fk, rfl, nfl, sa, hD, hla, hfa⟩ ⟨rfl, ex⟩
        obtain ⟨r, er, rfl⟩ := kid_get ex
        have rm : r ∈ rows := (kid_row (List.mem_of_getElem? er)).1
        have hsn := foldA_snoc (al := al) (has := has) er
        have gg : GoodS (foldA al ((kidsR rows nm).take i) has).2 := by
          unfold foldA
          split
          · exact greedy_good gh
          · exact gh
        have a1 : (foldA al ((kidsR rows nm).take i) has).1.length ≤ 12 := by
          unfold foldA
          split
          · have := (greedy_len ((kidsR rows nm).take i) ([], has)).1
            rw [List.length_take] at this
            simp at this
            omega
          · exact Nat.zero_le _
        generalize foldA al ((kidsR rows nm).take i) has = acc at *
        have a2 := gg.len
        have ga := ask_good (g.asks r rm)
        refine ⟨_, rfl, _, rfl, R, r, rows, rfl, T0.same sa, rm, fun q av H3 s3 hq hav => ?_⟩
        refine ⟨q, _, rfl, SqT.of hq, rfl, _, _, rfl, _, _, rfl, rfl, ?_⟩
        have skip : ∀ H' x9, Same Hb H' → foldA al ((kidsR rows nm).take (i + 1)) has = acc → ∃ y6 y7 y8 y9 fk', [some (V.ref R), some (.str nm), some (.ref p), some (.bl al), some (.ref l), some (.ref fk), some (.str r.nm), some av, some (.int r.mrk), x9, none, none] = [some (V.ref R), some (.str nm), some (.ref p), some (.bl al), some (.ref l), some (.ref fk'), y6, y7, y8, y9, none, none] ∧ fk' ≠ l ∧ Same H H' ∧ H' D = some (.lst (zS (kidsN rows nm))) ∧ H' l = some (.lst (zS (foldA al ((kidsR rows nm).take (i + 1)) has).1)) ∧ H' fk' = some (.lst (zI (foldA al ((kidsR rows nm).take (i + 1)) has).2)) := fun H' x9 s' e => by
          rw [e]
          exact ⟨_, _, _, _, fk, rfl, nfl, sa.trans s', s' _ _ hD, s' _ _ hla, s' _ _ hfa⟩
        refine ⟨_, rfl, al, rfl, ite2 (fun c1 => ?_) (fun c1 => iteF (skip _ _ s3 (hsn.trans (if_neg c1))))⟩
        rw [if_pos c1] at hsn
        have no : canA r acc.2 = false → foldA al ((kidsR rows nm).take (i + 1)) has = acc := fun z => hsn.trans (step_no (by rw [z]; decide))
        have ecan : canA r acc.2 = (decide (r.mrk = 1) && (!decide (askL r.asks = []) && (decide (((lessL acc.2 (askL r.asks)).length : Int) = (acc.2.length : Int) - ((askL r.asks).length : Int)) && !decide (lessL acc.2 (askL r.asks) = [])))) := by
          rw [rest_can gg.nodup ga.nodup]
          rfl
        refine ⟨_, rfl, rfl, _, rfl, ite2 (fun c2 => ?_) (fun c2 => iteF (skip _ _ s3 (no ?_)))⟩
        · have e2 := V.int.inj (of_decide_eq_true c2)
          refine ⟨_, rfl, line100 (by show 0 ≤ 1000; decide), ?_⟩
          walk_at "new"; rename_i E nE H4 s4 hE
          refine ⟨line100 (by show 2 ≤ 1000; decide), ?_⟩
          walk_at "new"; rename_i T nT H5 s5 hT
          have s35 := s3.trans (s4.trans s5)
          refine nin_two (hav.stay (Same.stay (s4.trans s5))) hT (s5 _ _ hE) ⟨_, rfl, ite2 (fun c3 => ?_) (fun c3 => skip _ _ s35 (no ?_))⟩
          · cases ea : r.asks with
            | none =>
              rw [ea] at c3
              cases c3
            | some a =>
              rw [ea] at hav ecan ga
              replace ecan : canA r acc.2 = (decide (r.mrk = 1) && (!decide (a = []) && (decide (((lessL acc.2 a).length : Int) = (acc.2.length : Int) - (a.length : Int)) && !decide (lessL acc.2 a = [])))) := ecan
              replace ga : GoodS a := ga
              have c3' : (!decide (a = [])) = true := by
                rw [ea] at c3
                exact c3
              rw [e2, c3'] at ecan
              replace ecan : canA r acc.2 = (decide (((lessL acc.2 a).length : Int) = (acc.2.length : Int) - (a.length : Int)) && !decide (lessL acc.2 a = [])) := ecan
              obtain ⟨pa, rfl, hpa⟩ := hav
              have hpa5 := s5 _ _ (s4 _ _ hpa)
              have hfa5 := s35 _ _ hfa
              refine ⟨_, rfl, fk, rfl, ⟨_, SqL.of hfa5⟩, fun D2 nD2 => lc_val (n := (zI acc.2).length) acc.2 (by simp) walk_list (fun c => if (!decide (c ∈ a)) = true then some (V.int c) else none) nD2 (by rw [List.length_map]; exact small1000 (by omega)) (fun H2 s2 => SqL.of (s2 _ _ hfa5)) (fun j c v H' H6 Yes No hc s6 y yes no => ?_) (fun H6 s6 e6 => ?_)⟩
              · obtain ⟨rfl, hv⟩ := y
                rw [List.getElem?_map, hc] at hv
                cases hv
                refine ⟨rfl, ?_⟩
                refine ⟨_, rfl, _, rfl, nin_I (.inr (SqT.of (s6 _ _ hpa5))) ⟨_, rfl, ite2 (fun m => ⟨_, rfl, ?_⟩) (fun m => ?_)⟩⟩
                · exact yes _ _ (if_pos m) (Same.refl _)
                · exact no (if_neg m) _ (Same.refl _)
              · rw [fm_filter] at e6
                replace e6 : H6 D2 = some (.lst (zI (lessL acc.2 a))) := e6
                have hla6 := s6 _ _ (s35 _ _ hla)
                refine ⟨_, rfl, D2, _, rfl, .inl (SqL.of e6), _, rfl, fk, _, rfl, .inl (SqL.of (s6 _ _ hfa5)), _, rfl, pa, _, rfl, .inr (SqT.of (s6 _ _ hpa5)), _, _, rfl, rfl, rfl, _, rfl, ?_⟩
                rw [List.length_map, List.length_map, List.length_map]
                refine ite2 (fun c4 => ?_) (fun c4 => iteF (skip _ _ (s35.trans s6) (no ?_)))
                · refine ⟨_, rfl, line100 (by show 0 ≤ 1000; decide), ?_⟩
                  walk_at "new"; rename_i E2 nE2 H7 s7 hE2
                  refine neL (ys := []) (s7 _ _ e6) hE2 ⟨_, rfl, ite2 (fun c5 => ?_) (fun c5 => skip _ _ (s35.trans (s6.trans s7)) (no ?_))⟩
                  · have can : canA r acc.2 = true := by
                      rw [ecan, decide_eq_true (V.int.inj (of_decide_eq_true c4)), c5]
                      rfl
                    rw [step_yes can] at hsn
                    have hla7 := s7 _ _ hla6
                    refine ⟨_, rfl, .inl ⟨rfl, _, SqL.of hla7⟩, _, rfl, l, _, _, rfl, rfl, hla7, small1000 (by rw [List.length_map]; omega), ?_⟩
                    walk_at "put"; rename_i H8 b8 hl8
                    have lD2 : D2 ≠ l := (ne_of_none (s35 _ _ hla) nD2).symm
                    refine ⟨_, rfl, ?_⟩
                    refine ⟨_, _, _, _, D2, rfl, lD2, Same.new_put nl (sa.trans (s35.trans (s6.trans s7))) b8, b8 _ _ Dl ((s35.trans (s6.trans s7)) _ _ hD), ?_, ?_⟩
                    · rw [hsn, hl8, show zS (acc.1 ++ [r.nm]) = zS acc.1 ++ [.str r.nm] from List.map_append]
                    · rw [hsn]
                      show H8 D2 = some (.lst (zI (lessL acc.2 (askL r.asks))))
                      rw [ea]
                      exact b8 _ _ lD2 (s7 _ _ e6)
                  · have c5' := Bool.not_eq_true _ |>.mp c5
                    rw [ecan, c5', Bool.and_false]
                · rw [ecan, decide_eq_false (fun z => c4 (decide_eq_true (congrArg V.int z))), Bool.false_and]
          · have c3' := Bool.not_eq_true _ |>.mp c3
            rw [ecan, c3', Bool.false_and, Bool.and_false]
        · rw [ecan, decide_eq_false (fun z => c2 (decide_eq_true (congrArg V.int z))), Bool.false_and]
      · rintro σ Ha ⟨x6, x7, x8, x9, fk, rfl, nfl, sa, hD, hla, hfa⟩
        have kk : (zS (kidsN rows nm)).length = (kidsR rows nm).length := by unfold kidsN; rw [List.length_map, List.length_map]
        rw [kk, List.take_length] at hla
        exact ⟨_, rfl, Qk l Ha sa hla⟩
end
end Bd

namespace Bd
open PySem PySem.Spec PyProof.Rows L2
section
variable {P : Program} {w : World} {K : PySem.W.Frag} {mg : Str → Option Value} {base : Heap}
/-! ### _law_pairs_right -/
def spPairs : Sp := fun vs H Q _ => ∃ (R p c : Addr) (nm : Str) (own : List Int) (ch : List Str) (rows : List Gr), vs = [.ref R, .str nm, .ref p, .ref c] ∧ Table H R rows ∧ H p = some (.tup (zI own)) ∧ GoodS own ∧ H c = some (.lst (zS ch)) ∧
  (∀ r ∈ kidsR rows nm, (r.nm ∈ ch ↔ r.nm ∈ (greedy (kidsR rows nm) own).1)) ∧ ∀ H', Same H H' → Q (.bl true) H'
theorem ok_law_pairs_right (Z : Zs w K mg) (D : At K mg "_law_pairs_right" s_law_pairs_right) (C_law_asks : Cal P w K mg base "_law_asks" 1 ["_law_rows", "_law_name"] spLAsks) : Cal P w K mg base "_law_pairs_right" 2 ["_law_rows", "_law_name", "_law_own", "_law_chosen"] spPairs := by
  refine mk_cal D sc_law_pairs_right (fun _ _ _ _ _ _ us hl => match us, hl with | [_, _, _, _], _ => rfl) (fun vs H Q E h => ?_) (fun f cdv A outer st H vs Q E hr h => ?_)
  · obtain ⟨R, p, c, nm, own, ch, rows, rfl, _⟩ := h
    rfl
  · obtain ⟨R, p, c, nm, own, ch, rows, rfl, T0, hp, go, hc0, hch, Qk⟩ := h
    obtain ⟨vs, hR, pr⟩ := T0.at_
    have g := T0.g
    have l12 := T0.l
    have lv : vs.length = rows.length := (Paired.length pr).symm
    have s00 : Same H H := Same.refl H
    have o64 := go.len
    have nd := kids_nd g nm
    refine ⟨_, (pss_cons (ps_setLc (i := 4) (own := [("_law_row", 14)]) rfl sc_law_pairs_right.nd rfl rfl (sw_true rfl rfl rfl (by decide +kernel)) (pi_list (pv 0)) (blkOk_by (own := [("_law_row", 14)]) (N := N_law_pairs_right) (sc := defScope s_law_pairs_right) (by decide +kernel)) (fun _ _ _ _ _ => (pg_name (i := 14) sc_law_pairs_right.nd rfl (.inl rfl))) (fun _ _ _ _ _ => (pts_one (pt_cmpR op_eq (pe_ix (r := rIxT K) ix_tup (pv 14) pe_int (fun _ _ => rfl)) (pv 1) (nomark _)))) (fun _ _ _ _ _ => (pe_ix (r := rIxT K) ix_tup (pv 14) pe_int (fun _ _ => rfl))))
  (pss_cons (ps_for PassesOwn.never rfl (pi_enum rfl Z.enumerate (pa_cons (pv 4) pa_nil)) (pg_tup rfl (pgs_cons (pg_name (i := 5) sc_law_pairs_right.nd rfl (.inl rfl)) (pgs_cons (pg_name (i := 6) sc_law_pairs_right.nd rfl (.inl rfl)) pgs_nil)))
  (pss_cons (ps_asg (pe_cal C_law_asks (hr.mono (by decide)) rfl (pa_cons (pv 0) (pa_cons (pv 6) pa_nil))) (pg_tup rfl (pgs_cons (pg_name (i := 7) sc_law_pairs_right.nd rfl (.inl rfl)) (pgs_cons (pg_name (i := 8) sc_law_pairs_right.nd rfl (.inl rfl)) pgs_nil))))
  (pss_cons (ps_setLc (i := 9) (own := [("_law_one_here", 15)]) rfl sc_law_pairs_right.nd rfl rfl (sw_true rfl rfl rfl (by decide +kernel)) (pi_list (pe_slice (r := rSlL K) sl_list (pv 4) po_none (po_some (pv 5)))) (blkOk_by (own := [("_law_one_here", 15)]) (N := N_law_pairs_right) (sc := defScope s_law_pairs_right) (by decide +kernel)) (fun _ _ _ _ _ => (pg_name (i := 15) sc_law_pairs_right.nd rfl (.inl rfl))) (fun _ _ _ _ _ => (pts_one (pt_cmpR (r := rIn K false) op_in_seq (pv 15) (pv 3) rfl))) (fun _ _ _ _ _ => (pv 15)))
  (pss_cons (ps_set (i := 10) sc_law_pairs_right.nd rfl (.inl rfl) (pe_and (pe_cmpR op_eq (pv 8) pe_int (nomark _)) (pe_and (pe_cmpR (r := rNotInT K) (op_notInTD (hu65 hr)) (pv 7) (pe_tup (pa_cons pe_non (pa_cons (pe_tup pa_nil) pa_nil))) rfl) (pe_one (pe_cmpR (r := rEqD K) (op_eqD hr.units) (pe_lc (own := [("_law_one_here", 15)]) rfl sc_law_pairs_right.nd (pi_tup (pe_orT (pv 7) (pe_one (pe_tup pa_nil)))) (blkOk_by (own := [("_law_one_here", 15)]) (N := N_law_pairs_right) (sc := defScope s_law_pairs_right) (by decide +kernel)) (fun _ _ _ _ _ => (pg_name (i := 15) sc_law_pairs_right.nd rfl (.inl rfl))) (fun _ _ _ _ _ => (pts_one (pt_cmpR (r := rIn K true) op_notIn_seq (pv 15) (pv 2) rfl))) (fun _ _ _ _ _ => (pv 15))) (pe_lst pa_nil) (nomark _))))))
  (pss_cons (ps_for PassesOwn.never rfl (pi_list (pv 9)) (pg_name (i := 11) sc_law_pairs_right.nd rfl (.inl rfl))
  (pss_cons (ps_set (i := 12) sc_law_pairs_right.nd rfl (.inr rfl) (pe_ix (r := rIxT K) ix_tup (pe_cal C_law_asks (hr.mono (by decide)) rfl (pa_cons (pv 0) (pa_cons (pv 11) pa_nil))) pe_int (fun _ _ => rfl)))
  (pss_one (ps_set (i := 10) sc_law_pairs_right.nd rfl (.inl rfl) (pe_and (pv 10) (pe_one (pe_cmpR (r := rEqD K) (op_eqD hr.units) (pe_lc (own := [("_law_one_here", 15)]) rfl sc_law_pairs_right.nd (pi_tup (pe_orT (pv 7) (pe_one (pe_tup pa_nil)))) (blkOk_by (own := [("_law_one_here", 15)]) (N := N_law_pairs_right) (sc := defScope s_law_pairs_right) (by decide +kernel)) (fun _ _ _ _ _ => (pg_name (i := 15) sc_law_pairs_right.nd rfl (.inl rfl))) (fun _ _ _ _ _ => (pts_one (pt_cmpR (r := rIn K false) op_in_seq (pv 15) (pv 12) rfl))) (fun _ _ _ _ _ => (pv 15))) (pe_lst pa_nil) (nomark _))))))))
  (pss_cons (ps_if (pt_val (pv 10)) (pss_cons (ps_set (i := 13) sc_law_pairs_right.nd rfl (.inl rfl) (pe_callB (r := rSum K) (cr_sum rfl) rfl Z.sum (by decide +kernel) (pa_cons (pe_lc (own := [("_law_other", 11)]) rfl sc_law_pairs_right.nd (pi_list (pv 9)) (blkOk_by (own := [("_law_other", 11)]) (N := N_law_pairs_right) (sc := defScope s_law_pairs_right) (by decide +kernel)) (fun _ _ _ _ _ => (pg_name (i := 11) sc_law_pairs_right.nd rfl (.inl rfl))) (fun _ _ _ _ _ => pts_nil) (fun _ _ _ _ _ => (pe_callB (r := rLenS K) call_len_seq rfl Z.len (by decide +kernel) (pa_cons (pe_ix (r := rIxT K) ix_tup (pe_cal C_law_asks (hr.mono (by decide)) rfl (pa_cons (pv 0) (pa_cons (pv 11) pa_nil))) pe_int (fun _ _ => rfl)) pa_nil)))) pa_nil)))
  (pss_one (ps_set (i := 10) sc_law_pairs_right.nd rfl (.inl rfl) (pe_cmpR op_gt (pe_op op_sub (pe_op op_sub (pe_callB (r := rLenS K) call_len_seq rfl Z.len (by decide +kernel) (pa_cons (pv 2) pa_nil)) (pv 13)) (pe_callB (r := rLenS K) call_len_seq rfl Z.len (by decide +kernel) (pa_cons (pv 7) pa_nil))) pe_int (nomark _))))) pss_nil)
  (pss_one (ps_if (pt_cmpR op_ne (pe_cmpR (r := rIn K false) op_in_seq (pv 6) (pv 3) rfl) (pv 10) (nomark _)) (pss_one (ps_ret pe_bl)) pss_nil))))))))
  (pss_one (ps_ret pe_bl)))), ?_⟩
    refine ⟨_, rfl, R, rfl, ⟨_, SqL.of (s00 _ _ hR)⟩, fun D nD => lc_val (n := vs.length) rows lv.symm walk_list (fun r => if decide (r.ab = nm) = true then some (V.str r.nm) else none) nD (small1000 (by omega)) (fun H' s' => SqL.of (s' _ _ (s00 _ _ hR))) (fun j r v H5 H6 Yes No hc s5 y yes no => ?_) (fun HD sD eD => ?_)⟩
    · obtain ⟨rfl, hv⟩ := y
      obtain ⟨y2, ey, q1, d, rfl, hq1, _⟩ := prd_get' pr hc
      rw [hv] at ey
      cases ey
      have hq5 := s5 _ _ (s00 _ _ hq1)
      refine ⟨rfl, ?_⟩
      refine ⟨_, rfl, q1, _, _, _, rfl, rfl, SqT.of hq5, rfl, _, rfl, rfl, _, rfl, ite2 (fun c => ?_) (fun c => ?_)⟩
      · exact ⟨_, rfl, q1, _, _, _, rfl, rfl, SqT.of hq5, rfl, yes _ _ (if_pos (decide_eq_true (V.str.inj (of_decide_eq_true c)))) (Same.refl _)⟩
      · exact no (if_neg (fun z => c (decide_eq_true (congrArg V.str (of_decide_eq_true z))))) _ (Same.refl _)
    · rw [fm_filter, kids_map] at eD
      have kl : (kidsR rows nm).length ≤ rows.length := List.length_filter_le _ _
      refine ⟨_, rfl, D, _, rfl, SqL.of eD, for_it walk_enum (fun i σ H' => (∃ x5 x6 x7 x8 x9 x10 x11 x12 x13, σ = [some (.ref R), some (.str nm), some (.ref p), some (.ref c), some (.ref D), x5, x6, x7, x8, x9, x10, x11, x12, x13, none, none]) ∧ Same HD H')
        ⟨⟨none, none, none, none, none, none, none, none, none, rfl⟩, Same.refl _⟩ (fun i σ H' _ h => SqL.of (h.2 _ _ eD)) ?_ ?_⟩
      · rintro i x σ Ha Hb hi ⟨⟨x5, x6, x7, x8, x9, x10, x11, x12, x13, rfl⟩, sa⟩ ⟨T, i1, nv, rfl, nT, rfl, e1, e2⟩
        obtain ⟨r, er, rfl⟩ := kid_get (show (zS (kidsN rows nm))[i]? = some nv from e2)
        cases (show some (V.int (i : Nat)) = some i1 from e1)
        have rk := List.mem_of_getElem? er
        have rm : r ∈ rows := (kid_row rk).1
        have hi2 : i < (kidsR rows nm).length := (List.getElem?_eq_some_iff.mp er).1
        have sT : Same Ha (upd Ha T (.tup [.int (i : Nat), .str r.nm])) := Same.new nT
        have gT : upd Ha T (.tup [.int (i : Nat), .str r.nm]) T = some (.tup [.int (i : Nat), .str r.nm]) := upd_same
        generalize upd Ha T (.tup [.int (i : Nat), .str r.nm]) = Hb at *
        have s0b : Same H Hb := sD.trans (sa.trans sT)
        have sDb : Same HD Hb := sa.trans sT
        -- the mathematics
        have ahead := greedy_ahead nd hch i (Nat.le_of_lt hi2)
        have here := (hch r rk).trans (greedy_at nd er)
        obtain ⟨acc, eacc⟩ : ∃ acc, ((kidsR rows nm).take i).foldl stepG ([], own) = acc := ⟨_, rfl⟩
        have ecan := can_iff g (fun r h => (kid_row h).1) go eacc (r := r)
        rw [eacc] at ahead here
        have a1 : acc.1.length ≤ 12 := by
          rw [← ahead, List.length_map]
          have := List.length_filter_le (fun r : Gr => decide (r.nm ∈ ch)) ((kidsR rows nm).take i)
          rw [List.length_take] at this
          omega
        have inr : ∀ o ∈ acc.1, ∃ r2 ∈ rows, r2.nm = o ∧ ∃ a, r2.asks = some a ∧ a ≠ [] := fun o ho => by
          rw [← eacc] at ho
          rcases greedy_mem ho with z | ⟨r2, h2, h3, h4⟩
          · cases z
          · refine ⟨r2, (kid_row (List.mem_of_mem_take h2)).1, h3, ?_⟩
            cases ea : r2.asks with
            | none => exact absurd (by rw [askL, ea]; rfl) h4
            | some a => exact ⟨a, rfl, fun z => h4 (by rw [askL, ea, z]; rfl)⟩
        refine ⟨T, _, rfl, SqT.of gT, rfl, _, _, rfl, _, _, rfl, rfl, ?_⟩
        -- asks, mark
        refine ⟨_, rfl, _, rfl, R, r, rows, rfl, T0.same s0b, rm, fun q av H3 s3 hq hav => ?_⟩
        refine ⟨q, _, rfl, SqT.of hq, rfl, _, _, rfl, _, _, rfl, rfl, ?_⟩
        have ga := ask_good (g.asks r rm)
        have gl := ga.len
        have s03 := s0b.trans s3
        -- ahead
        refine ⟨_, rfl, ?_⟩
        refine no_part ?_
        refine ⟨_, rfl, _, rfl, ?_⟩
        refine ⟨D, _, rfl, SqL.of (s3 _ _ (sDb _ _ eD)), ?_⟩
        walk_at "new"; rename_i S nS H4 s4 hS
        have hS2 : H4 S = some (.lst (((kidsR rows nm).take i).map fun r => V.str r.nm)) := by
          rw [hS, cut_to, kidsN, zS, List.map_map, ← List.map_take]
          rfl
        have lk : ((kidsR rows nm).take i).length ≤ 12 := by
          rw [List.length_take]
          omega
        have hc4 : H4 c = some (.lst (zS ch)) := s4 _ _ (s03 _ _ hc0)
        refine ⟨S, rfl, ⟨_, SqL.of hS2⟩, fun D2 nD2 => lc_val (n := (((kidsR rows nm).take i).map fun r => V.str r.nm).length) ((kidsR rows nm).take i) (by rw [List.length_map]) walk_list (fun r => if decide (r.nm ∈ ch) = true then some (V.str r.nm) else none) nD2 (by rw [List.length_map]; exact small1000 (by omega)) (fun H2 s2 => SqL.of (s2 _ _ hS2)) (fun j r2 v H' H6 Yes No hc s6 y yes no => ?_) (fun H5 s5 e5 => ?_)⟩
        · obtain ⟨rfl, hv⟩ := y
          rw [List.getElem?_map, hc] at hv
          cases hv
          refine ⟨rfl, ?_⟩
          refine ⟨_, rfl, _, rfl, in_S (.inl (SqL.of (s6 _ _ hc4))) ⟨_, rfl, ite2 (fun m => ⟨_, rfl, ?_⟩) (fun m => ?_)⟩⟩
          · exact yes _ _ (if_pos m) (Same.refl _)
          · exact no (if_neg m) _ (Same.refl _)
        · rw [fm_filter] at e5
          have hD2 : H5 D2 = some (.lst (zS acc.1)) := by
            rw [e5, ← ahead, zS, List.map_map]
            rfl
          have s35 := s4.trans s5
          have s05 := s03.trans s35
          have hav5 := hav.stay (Same.stay s35)
          -- can, first
          refine name_ ?_
          dsimp only
          refine abs_ (fun R' => ∀ H', Same H5 H' → R' [some (.ref R), some (.str nm), some (.ref p), some (.ref c), some (.ref D), some (.int (i : Nat)), some (.str r.nm), some av, some (.int r.mrk), some (.ref D2), some (.bl (preA own r)), x11, x12, x13, none, none] H') ?_ ?_
          · intro H6 s6
            have s56 := s6
            refine abs_ (fun R' => ∀ H' y11 y12, Same H6 H' → R' [some (.ref R), some (.str nm), some (.ref p), some (.ref c), some (.ref D), some (.int (i : Nat)), some (.str r.nm), some av, some (.int r.mrk), some (.ref D2), some (.bl (preA own r && acc.1.all (disjN rows r))), y11, y12, x13, none, none] H') ?_ ?_
            · intro H7 y11 y12 s7
              have s57 := s56.trans s7
              have s07 := s05.trans s57
              refine abs_ (fun R' => ∀ H' y11 y13, Same H7 H' → R' [some (.ref R), some (.str nm), some (.ref p), some (.ref c), some (.ref D), some (.int (i : Nat)), some (.str r.nm), some av, some (.int r.mrk), some (.ref D2), some (.bl (canA r acc.2)), y11, y12, y13, none, none] H') ?_ ?_
              · intro H8 z11 z13 s8
                have s08 := s07.trans s8
                refine ⟨_, rfl, _, rfl, in_S (.inl (SqL.of (s08 _ _ hc0))) ⟨_, rfl, rfl, false, ?_, iteF ?_⟩⟩
                · have e : decide (r.nm ∈ ch) = canA r acc.2 := by
                    rw [Bool.eq_iff_iff, decide_eq_true_eq]
                    exact here
                  show V.bl (!decide (V.bl (decide (r.nm ∈ ch)) = V.bl (canA r acc.2))) = V.bl false
                  rw [e, decide_eq_true rfl]
                  rfl
                · exact ⟨⟨_, _, _, _, _, _, _, _, _, rfl⟩, sDb.trans (s3.trans (s35.trans (s57.trans s8)))⟩
              · intro R' hR'
                refine ⟨_, rfl, _, rfl, ite2 (fun c1 => ?_) (fun c1 => ?_)⟩
                · have hav7 := hav5.stay (Same.stay s57)
                  cases ea : r.asks with
                  | none =>
                    unfold preA askL at c1
                    rw [ea] at c1
                    simp at c1
                  | some a =>
                    rw [ea] at hav7
                    obtain ⟨pa, rfl, hpa⟩ := hav7
                    have hD7 := s57 _ _ hD2
                    refine ⟨_, rfl, D2, rfl, ⟨_, SqL.of hD7⟩, fun D5 nD5 => lc_val (n := (zS acc.1).length) acc.1 (by simp) walk_list (fun o => some (.int ((askN rows o).length : Int))) nD5 (by rw [List.length_map]; exact small1000 (by omega)) (fun H2 s2 => SqL.of (s2 _ _ hD7)) (fun j o v H' H9 Yes No hc s9 y yes no => ?_) (fun H9 s9 e9 => ?_)⟩
                    · obtain ⟨rfl, hv⟩ := y
                      rw [List.getElem?_map, hc] at hv
                      cases hv
                      obtain ⟨r2, rm2, rfl, a2, ea2, _⟩ := inr o (List.mem_of_getElem? hc)
                      refine ⟨rfl, yes_ (iteT ?_)⟩
                      refine ⟨_, rfl, _, rfl, R, r2, rows, rfl, T0.same (s07.trans s9), rm2, fun q2 av2 H10 s10 hq2 hav2 => ?_⟩
                      rw [ea2] at hav2
                      obtain ⟨pa2, rfl, hpa2⟩ := hav2
                      refine ⟨_, _, _, _, rfl, rfl, SqT.of hq2, rfl, pa2, _, rfl, .inr (SqT.of hpa2), ?_⟩
                      rw [List.length_map]
                      exact yes _ _ (by rw [ask_self g rm2, askL, ea2]; rfl) s10
                    · rw [fm_some] at e9
                      have e9' : H9 D5 = some (.lst ((acc.1.map fun o => ((askN rows o).length : Int)).map V.int)) := by
                        rw [e9, List.map_map]
                        rfl
                      refine ⟨D5, _, rfl, SqL.of e9', ?_⟩
                      refine ⟨_, rfl, p, _, rfl, .inr (SqT.of (s9 _ _ (s07 _ _ hp))), _, rfl, _, _, rfl, rfl, _, rfl, pa, _, rfl, .inr (SqT.of (s9 _ _ hpa)), _, _, rfl, rfl, _, _, rfl, rfl, ?_⟩
                      rw [List.length_map, List.length_map]
                      have z := hR' H9 y11 (some (.int (sumN rows acc.1))) s9
                      rw [ecan, c1, Bool.true_and, askL, ea] at z
                      exact z
                · have z := hR' H7 y11 x13 (Same.refl _)
                  rw [ecan, Bool.not_eq_true _ |>.mp c1, Bool.false_and] at z
                  rw [Bool.not_eq_true _ |>.mp c1]
                  exact z
            · intro R' hR'
              have hD6 := s56 _ _ hD2
              refine ⟨_, rfl, D2, rfl, ⟨_, SqL.of hD6⟩, for_it walk_list (fun k σ H' => (∃ y11 y12, σ = [some (.ref R), some (.str nm), some (.ref p), some (.ref c), some (.ref D), some (.int (i : Nat)), some (.str r.nm), some av, some (.int r.mrk), some (.ref D2), some (.bl (preA own r && (acc.1.take k).all (disjN rows r))), y11, y12, x13, none, none]) ∧ Same H6 H')
                ⟨⟨x11, x12, by rw [List.take_zero, List.all_nil, Bool.and_true]⟩, Same.refl _⟩ (fun k σ H' _ h => SqL.of (h.2 _ _ hD6)) ?_ ?_⟩
              · rintro k x σ Hc Hd hk ⟨⟨y11, y12, rfl⟩, sc⟩ ⟨rfl, ex⟩
                rw [List.length_map] at hk
                rw [List.getElem?_map, List.getElem?_eq_getElem hk] at ex
                cases ex
                have eo : acc.1[k]? = some acc.1[k] := List.getElem?_eq_getElem hk
                generalize acc.1[k] = o at *
                have om := List.mem_of_getElem? eo
                obtain ⟨r2, rm2, rfl, a2, ea2, _⟩ := inr o om
                have s0d := s05.trans (s56.trans sc)
                refine ⟨_, rfl, _, rfl, R, r2, rows, rfl, T0.same s0d, rm2, fun q2 av2 H8 s8 hq2 hav2 => ?_⟩
                rw [ea2] at hav2
                obtain ⟨pa2, rfl, hpa2⟩ := hav2
                have sc8 := sc.trans s8
                refine ⟨_, _, _, _, rfl, rfl, SqT.of hq2, rfl, ?_⟩
                have enext : (acc.1.take (k + 1)).all (disjN rows r) = ((acc.1.take k).all (disjN rows r) && disjN rows r r2.nm) := by
                  rw [take_snoc eo, List.all_append, List.all_cons, List.all_nil, Bool.and_true]
                have edis : disjN rows r r2.nm = decide ((askL r.asks).filter (fun x => decide (x ∈ a2)) = []) := by
                  unfold disjN
                  rw [ask_self g rm2, show askL r2.asks = a2 from by rw [askL, ea2]; rfl]
                refine ⟨_, rfl, _, rfl, ite2 (fun c1 => ?_) (fun c1 => ?_)⟩
                · have hav8 := hav5.stay (Same.stay (s56.trans sc8))
                  show tOrT K (tVar 7) (tTup tNil) _ _ _
                  refine or_asks2 (i := 7) rfl hav8 fun A' H9 s9 hA' => ?_
                  replace hA' : H9 A' = some (.tup (zI (askL r.asks))) := hA'
                  refine ⟨A', rfl, ⟨_, SqT.of hA'⟩, fun D5 nD5 => lc_val (n := (zI (askL r.asks)).length) (askL r.asks) (by simp) walk_tup (fun x => if decide (x ∈ a2) = true then some (.int x) else none) nD5 (by rw [List.length_map]; exact small1000 (by omega)) (fun H2 s2 => SqT.of (s2 _ _ hA')) (fun j x v H' H10 Yes No hc s10 y yes no => ?_) (fun H10 s10 e10 => ?_)⟩
                  · obtain ⟨rfl, hv⟩ := y
                    rw [List.getElem?_map, hc] at hv
                    cases hv
                    refine ⟨rfl, ?_⟩
                    refine ⟨_, rfl, _, rfl, in_I (.inr (SqT.of (s10 _ _ (s9 _ _ hpa2)))) ⟨_, rfl, ite2 (fun m => ⟨_, rfl, ?_⟩) (fun m => ?_)⟩⟩
                    · exact yes _ _ (if_pos m) (Same.refl _)
                    · exact no (if_neg m) _ (Same.refl _)
                  · rw [fm_filter] at e10
                    refine ⟨line100 (by show 0 ≤ 1000; decide), ?_⟩
                    walk_at "new"; rename_i E nE H11 s11 hE
                    refine eqL (ys := []) (s11 _ _ e10) hE ?_
                    refine ⟨⟨some (.str r2.nm), some (.ref pa2), ?_⟩, sc8.trans (s9.trans (s10.trans s11))⟩
                    rw [enext, ← Bool.and_assoc, c1, Bool.true_and, edis]
                    rfl
                · refine ⟨⟨some (.str r2.nm), some (.ref pa2), ?_⟩, sc8⟩
                  rw [enext, ← Bool.and_assoc, Bool.not_eq_true _ |>.mp c1, Bool.false_and]
                  rfl
              · rintro σ Hc ⟨⟨y11, y12, rfl⟩, sc⟩
                rw [List.length_map, List.take_length]
                exact hR' Hc y11 y12 sc
          · intro R' hR'
            refine ⟨_, rfl, rfl, _, rfl, ite2 (fun c1 => ?_) (fun c1 => ?_)⟩
            · have e1 := V.int.inj (of_decide_eq_true c1)
              refine ⟨_, rfl, line100 (by show 0 ≤ 1000; decide), ?_⟩
              walk_at "new"; rename_i E nE H6 s6 hE
              refine ⟨line100 (by show 2 ≤ 1000; decide), ?_⟩
              walk_at "new"; rename_i T2 nT2 H7 s7 hT2
              have s57 := s6.trans s7
              have hav7 := hav5.stay (Same.stay s57)
              refine nin_two hav7 hT2 (s7 _ _ hE) ⟨_, rfl, ite2 (fun c2 => ?_) (fun c2 => ?_)⟩
              · have c2' : (!decide (askL r.asks = [])) = true := c2
                show tOrT K (tVar 7) (tTup tNil) _ _ _
                refine or_asks2 (i := 7) rfl hav7 fun A' H9 s9 hA' => ?_
                replace hA' : H9 A' = some (.tup (zI (askL r.asks))) := hA'
                have hp9 := s9 _ _ (s57 _ _ (s05 _ _ hp))
                refine ⟨A', rfl, ⟨_, SqT.of hA'⟩, fun D5 nD5 => lc_val (n := (zI (askL r.asks)).length) (askL r.asks) (by simp) walk_tup (fun x => if (!decide (x ∈ own)) = true then some (.int x) else none) nD5 (by rw [List.length_map]; exact small1000 (by omega)) (fun H2 s2 => SqT.of (s2 _ _ hA')) (fun j x v H' H10 Yes No hc s10 y yes no => ?_) (fun H10 s10 e10 => ?_)⟩
                · obtain ⟨rfl, hv⟩ := y
                  rw [List.getElem?_map, hc] at hv
                  cases hv
                  refine ⟨rfl, ?_⟩
                  refine ⟨_, rfl, _, rfl, nin_I (.inr (SqT.of (s10 _ _ hp9))) ⟨_, rfl, ite2 (fun m => ⟨_, rfl, ?_⟩) (fun m => ?_)⟩⟩
                  · exact yes _ _ (if_pos m) (Same.refl _)
                  · exact no (if_neg m) _ (Same.refl _)
                · rw [fm_filter] at e10
                  refine ⟨line100 (by show 0 ≤ 1000; decide), ?_⟩
                  walk_at "new"; rename_i E2 nE2 H11 s11 hE2
                  refine eqL (ys := []) (s11 _ _ e10) hE2 ?_
                  have z := hR' H11 (s57.trans (s9.trans (s10.trans s11)))
                  have e2 : preA own r = decide ((askL r.asks).filter (fun x => !decide (x ∈ own)) = []) := by
                    unfold preA
                    rw [e1, c2']
                    rfl
                  rw [e2] at z
                  exact z
              · have z := hR' H7 s57
                have c2' : (!decide (askL r.asks = [])) = false := Bool.not_eq_true _ |>.mp c2
                have e2 : preA own r = false := by
                  unfold preA
                  rw [c2', Bool.false_and, Bool.and_false]
                rw [e2] at z
                exact z
            · have z := hR' H5 (Same.refl _)
              have e2 : preA own r = false := by
                unfold preA
                rw [decide_eq_false (fun z => c1 (decide_eq_true (congrArg V.int z))), Bool.false_and]
              rw [e2] at z
              exact z
      · rintro σ Ha ⟨⟨x5, x6, x7, x8, x9, x10, x11, x12, x13, rfl⟩, sa⟩
        exact Qk Ha (sD.trans sa)
end
end Bd

namespace Bd
open PySem PySem.Spec PyProof.Rows L2
theorem askN_good {rows : List Gr} (g : GoodRows rows) (o : Str) : GoodS (askN rows o) := by
  unfold askN
  cases e : lookR rows o with
  | none => exact GoodS.nil
  | some r =>
    have m : r ∈ rows := by
      unfold lookR at e
      exact List.mem_of_find?_eq_some e
    exact ask_good (g.asks r m)
theorem taken_len {rows : List Gr} (g : GoodRows rows) : ∀ l : List Str, (takenN rows l).length ≤ 64 * l.length
  | [] => Nat.le_refl _
  | o :: l => by
    have ih := taken_len g l
    have h := (askN_good g o).len
    show (askN rows o ++ takenN rows l).length ≤ 64 * (l.length + 1)
    rw [List.length_append]
    omega
theorem mine_due {free : List Int} {r : Gr} {m : List Int} (h : m = free.filter fun x => match r.asks with | none => false | some a => decide (x ∈ a)) : mineOf false free r = if m = [] then free else m := by
  unfold mineOf
  rw [if_neg (by decide), h]
  cases r.asks with
  | none =>
    show free = if free.filter (fun _ => false) = [] then free else free.filter (fun _ => false)
    rw [if_pos (List.filter_eq_nil_iff.mpr fun _ _ => by decide)]
  | some a => rfl
section
variable {P : Program} {w : World} {K : PySem.W.Frag} {mg : Str → Option Value} {base : Heap}
/-! ### _law_due -/
def spDue (j : Nat) : Sp := fun vs H Q _ => ∃ (R p f : Addr) (nm : Str) (al : Bool) (has : List Int) (rows : List Gr) (H0 : Hp) (es : List Ent), vs = [.ref R, .str nm, .ref p, .bl al, .ref f] ∧ Table H0 R rows ∧ Fuel rows nm j ∧
  Same H0 H ∧ H0 f = none ∧ H p = some (.tup (zI has)) ∧ GoodS has ∧ FoundAt H f es ∧ GoodE rows es ∧ ∀ H', But f H H' → FoundAt H' f (putsE es (walkE rows j nm has al)) → Q (.ref f) H'
theorem ok_law_due (Z : Zs w K mg) (D : At K mg "_law_due" s_law_due) (C_law_asks : Cal P w K mg base "_law_asks" 1 ["_law_rows", "_law_name"] spLAsks) (C_law_alone : Cal P w K mg base "_law_alone" 2 ["_law_rows", "_law_name", "_law_own", "_law_is_alone"] spLAlone) :
    ∀ j, Cal P w K mg base "_law_due" (2 + j) ["_law_rows", "_law_name", "_law_own", "_law_is_alone", "_law_found"] (spDue j) := by
  refine rec_cal D sc_law_due (fun _ _ _ _ _ _ us hl => match us, hl with | [_, _, _, _, _], _ => rfl) (fun j vs H Q E h => ?_) (fun vs H Q E h => ?_) (fun j C_law_due => fun f0 cdv A outer s H vs Q E hr h => ?_)
  · obtain ⟨R, p, f, nm, al, has, rows, H0, es, rfl, _⟩ := h
    rfl
  · obtain ⟨R, p, f, nm, al, has, rows, H0, es, _, T0, fu, _⟩ := h
    exact fuel_pos T0.l fu
  · obtain ⟨R, p, f, nm, al, has, rows, H0, es, rfl, T0, fu, s0, nf, hp, gh, fd, ge, Qk⟩ := h
    have hrec := hr
    have hu := hu_of hr
    obtain ⟨vs, hR, pr⟩ := T0.at_
    have g := T0.g
    have l12 := T0.l
    have lv : vs.length = rows.length := (Paired.length pr).symm
    refine ⟨_, (pss_cons (ps_asg (pe_tup (pa_cons (pe_cal C_law_alone (hr.mono (by omega)) rfl (pa_cons (pv 0) (pa_cons (pv 1) (pa_cons (pv 2) (pa_cons (pv 3) pa_nil))))) (pa_cons (pe_tup pa_nil) pa_nil))) (pg_tup rfl (pgs_cons (pg_name (i := 5) sc_law_due.nd rfl (.inl rfl)) (pgs_cons (pg_name (i := 6) sc_law_due.nd rfl (.inr rfl)) pgs_nil))))
  (pss_cons (ps_for PassesOwn.never rfl (pi_list (pv 5)) (pg_name (i := 7) sc_law_due.nd rfl (.inl rfl))
  (pss_one (ps_set (i := 6) sc_law_due.nd rfl (.inr rfl) (pe_op (r := rCatA K) op_catA (pv 6) (pe_ix (r := rIxT K) ix_tup (pe_cal C_law_asks (hr.mono (by omega)) rfl (pa_cons (pv 0) (pa_cons (pv 7) pa_nil))) pe_int (fun _ _ => rfl))))))
  (pss_cons (ps_set (i := 8) sc_law_due.nd rfl (.inl rfl) (pe_callTy call_tuple_of rfl Z.tuple (by decide +kernel) (pa_cons (pe_lc (own := [("_law_one_here", 11)]) rfl sc_law_due.nd (pi_tup (pv 2)) (blkOk_by (own := [("_law_one_here", 11)]) (N := N_law_due) (sc := defScope s_law_due) (by decide +kernel)) (fun _ _ _ _ _ => (pg_name (i := 11) sc_law_due.nd rfl (.inl rfl))) (fun _ _ _ _ _ => (pts_one (pt_cmpR (r := rIn K true) op_notIn_seq (pv 11) (pv 6) rfl))) (fun _ _ _ _ _ => (pv 11))) pa_nil)))
  (pss_cons (ps_for PassesOwn.never rfl (pi_list (pe_lc (own := [("_law_row", 12)]) rfl sc_law_due.nd (pi_list (pv 0)) (blkOk_by (own := [("_law_row", 12)]) (N := N_law_due) (sc := defScope s_law_due) (by decide +kernel)) (fun _ _ _ _ _ => (pg_name (i := 12) sc_law_due.nd rfl (.inl rfl))) (fun _ _ _ _ _ => (pts_one (pt_cmpR op_eq (pe_ix (r := rIxT K) ix_tup (pv 12) pe_int (fun _ _ => rfl)) (pv 1) (nomark _)))) (fun _ _ _ _ _ => (pe_ix (r := rIxT K) ix_tup (pv 12) pe_int (fun _ _ => rfl))))) (pg_name (i := 7) sc_law_due.nd rfl (.inl rfl))
  (pss_cons (ps_set (i := 9) sc_law_due.nd rfl (.inr rfl) (pe_ix (r := rIxT K) ix_tup (pe_cal C_law_asks (hr.mono (by omega)) rfl (pa_cons (pv 0) (pa_cons (pv 7) pa_nil))) pe_int (fun _ _ => rfl)))
  (pss_cons (ps_set (i := 10) sc_law_due.nd rfl (.inl rfl) (pe_callTy call_tuple_of rfl Z.tuple (by decide +kernel) (pa_cons (pe_lc (own := [("_law_one_here", 11)]) rfl sc_law_due.nd (pi_tup (pv 8)) (blkOk_by (own := [("_law_one_here", 11)]) (N := N_law_due) (sc := defScope s_law_due) (by decide +kernel)) (fun _ _ _ _ _ => (pg_name (i := 11) sc_law_due.nd rfl (.inl rfl))) (fun _ _ _ _ _ => (pts_one (PW.pt (pw_and (pt_cmpR op_notN (pv 9) pe_non (nomark _)) (pw_and1 (pt_cmpR (r := rIn K false) op_in_seq (pv 11) (pv 9) rfl)))))) (fun _ _ _ _ _ => (pv 11))) pa_nil)))
  (pss_cons (ps_set (i := 10) sc_law_due.nd rfl (.inl rfl) (pe_ifExp (pt_cmpR (r := rIn K false) op_in_seq (pv 7) (pv 5) rfl) (pv 9) (pe_ifExp (pt_cmpR (r := rEqD K) (op_eqD hr.units) (pv 10) (pe_tup pa_nil) (nomark _)) (pv 8) (pv 10))))
  (pss_cons (ps_dput hu (pv 4) (pv 7) (pe_tup (pa_cons (pv 10) (pa_cons (pe_cmpR (r := rIn K false) op_in_seq (pv 7) (pv 5) rfl) pa_nil))) rfl)
  (pss_one (ps_expr (pe_cal C_law_due hrec rfl (pa_cons (pv 0) (pa_cons (pv 7) (pa_cons (pv 10) (pa_cons (pe_cmpR (r := rIn K false) op_in_seq (pv 7) (pv 5) rfl) (pa_cons (pv 4) pa_nil)))))))))))))
  (pss_one (ps_ret (pv 4))))))), ?_⟩
    refine ⟨_, rfl, _, rfl, _, rfl, _, rfl, R, p, nm, al, has, rows, rfl, T0.same s0, hp, gh, fun l H1 s1 hl => ⟨line100 (by show 0 ≤ 1000; decide), ?_⟩⟩
    walk_at "new"; rename_i e0 ne0 H2 s2 he0
    refine ⟨line100 (by show 2 ≤ 1000; decide), ?_⟩
    walk_at "new"; rename_i q0 nq0 H3 s3 hq0
    refine ⟨q0, _, rfl, SqT.of hq0, rfl, _, _, rfl, _, _, rfl, rfl, ?_⟩
    have s13 := s1.trans (s2.trans s3)
    have s03 := s0.trans s13
    have hl3 := s3 _ _ (s2 _ _ hl)
    have gg : GoodS (aloneG rows nm has al).2 := aloneG_good gh
    have gl := gg.len
    have efree := alone_free g (nm := nm) (has := has) (al := al)
    have h64 := gh.len
    have lch : (aloneG rows nm has al).1.length ≤ 12 := by
      unfold aloneG
      split
      · have := (greedy_len (kidsR rows nm) ([], has)).1
        have k2 : (kidsR rows nm).length ≤ rows.length := List.length_filter_le _ _
        simp at this
        unfold greedy
        omega
      · exact Nat.zero_le _
    have inr : ∀ o ∈ (aloneG rows nm has al).1, ∃ r2 ∈ rows, r2.nm = o ∧ ∃ a, r2.asks = some a := fun o ho => by
      have ho2 := ho
      unfold aloneG at ho2
      split at ho2
      · rcases greedy_mem ho2 with z | ⟨r2, h2, h3, h4⟩
        · cases z
        · obtain ⟨a, ea, _⟩ := alone_mem (nm := nm) (has := has) (al := al) g (kid_row h2).1 (by rw [h3]; exact ho)
          exact ⟨r2, (kid_row h2).1, h3, a, ea⟩
      · cases ho2
    generalize eG : aloneG rows nm has al = G at *
    dsimp only
    refine abs_ (fun R' => ∀ tk x7 H', Same H3 H' → H' tk = some (.tup (zI (takenN rows G.1))) → R' [some (.ref R), some (.str nm), some (.ref p), some (.bl al), some (.ref f), some (.ref l), some (.ref tk), x7, none, none, none, none, none] H') ?_ ?_
    · intro tk x7 H4 s4 htk
      have s04 := s03.trans s4
      have hp4 := s4 _ _ (s13 _ _ hp)
      have htk4 := htk
      -- kept
      refine ⟨_, rfl, p, rfl, ⟨_, SqT.of hp4⟩, fun D nD => lc_val (n := (zI has).length) has (by simp) walk_tup (fun x => if (!decide (x ∈ takenN rows G.1)) = true then some (V.int x) else none) nD (by rw [List.length_map]; exact small1000 (by omega)) (fun H2 s2 => SqT.of (s2 _ _ hp4)) (fun j x v H' H2 Yes No hc s2 y yes no => ?_) (fun H5 s5 e5 => ?_)⟩
      · obtain ⟨rfl, hv⟩ := y
        rw [List.getElem?_map, hc] at hv
        cases hv
        refine ⟨rfl, ?_⟩
        refine ⟨_, rfl, _, rfl, nin_I (.inr (SqT.of (s2 _ _ htk4))) ⟨_, rfl, ite2 (fun m => ⟨_, rfl, ?_⟩) (fun m => ?_)⟩⟩
        · exact yes _ _ (if_pos m) (Same.refl _)
        · exact no (if_neg m) _ (Same.refl _)
      · rw [fm_filter, ← efree] at e5
        refine ⟨D, _, rfl, .inl ⟨SqL.of e5, ?_⟩⟩
        walk_at "new"; rename_i fr nfr H6 s6 hfr
        have s06 := s04.trans (s5.trans s6)
        have sH6 : Same H H6 := s13.trans (s4.trans (s5.trans s6))
        clear nD e5 D
        refine ⟨_, rfl, R, rfl, ⟨_, SqL.of (s06 _ _ hR)⟩, fun D nD => lc_val (n := vs.length) rows lv.symm walk_list (fun r => if decide (r.ab = nm) = true then some (V.str r.nm) else none) nD (small1000 (by omega)) (fun H' s' => SqL.of (s' _ _ (s06 _ _ hR))) (fun j r v H5 H6 Yes No hc s5 y yes no => ?_) (fun HD sD eD => ?_)⟩
        · obtain ⟨rfl, hv⟩ := y
          obtain ⟨y2, ey, q1, d, rfl, hq1, _⟩ := prd_get' pr hc
          rw [hv] at ey
          cases ey
          have hq5 := s5 _ _ (s06 _ _ hq1)
          refine ⟨rfl, ?_⟩
          refine ⟨_, rfl, q1, _, _, _, rfl, rfl, SqT.of hq5, rfl, _, rfl, rfl, _, rfl, ite2 (fun c => ?_) (fun c => ?_)⟩
          · exact ⟨_, rfl, q1, _, _, _, rfl, rfl, SqT.of hq5, rfl, yes _ _ (if_pos (decide_eq_true (V.str.inj (of_decide_eq_true c)))) (Same.refl _)⟩
          · exact no (if_neg (fun z => c (decide_eq_true (congrArg V.str (of_decide_eq_true z))))) _ (Same.refl _)
        · rw [fm_filter, kids_map] at eD
          have s0D := s06.trans sD
          have sHD := sH6.trans sD
          have fdD := fd.same sHD
          have nlf : l ≠ f := by
            obtain ⟨_, z, _⟩ := fd.same s1
            exact ne_of hl z (by intro z; cases z)
          have nff : fr ≠ f := by
            obtain ⟨_, z, _⟩ := fd.same sH6
            exact ne_of hfr z (by intro z; cases z)
          have Df : D ≠ f := by
            obtain ⟨_, z, _⟩ := fdD
            exact ne_of eD z (by intro z; cases z)
          have hlD := sD _ _ (s6 _ _ (s5 _ _ (s4 _ _ hl3)))
          have hfrD := sD _ _ hfr
          refine ⟨D, rfl, ⟨_, SqL.of eD⟩, for_it walk_list (fun i σ H' => (∃ x7 x9 x10, σ = [some (.ref R), some (.str nm), some (.ref p), some (.bl al), some (.ref f), some (.ref l), some (.ref tk), x7, some (.ref fr), x9, x10, none, none]) ∧ But f HD H' ∧ FoundAt H' f (putsE es (((kidsR rows nm).take i).flatMap fun r => entG G r :: walkE rows j r.nm (entG G r).2.1 (entG G r).2.2)))
            ⟨⟨x7, none, none, rfl⟩, But.refl, fdD⟩ (fun i σ H' _ ⟨_, b', _⟩ => SqL.of (b' _ _ Df eD)) ?_ ?_⟩
          · rintro i x σ Ha Hb hi ⟨⟨y7, x9, x10, rfl⟩, ba, fda⟩ ⟨rfl, ex⟩
            obtain ⟨r, er, rfl⟩ := kid_get ex
            have rk := List.mem_of_getElem? er
            have rm : r ∈ rows := (kid_row rk).1
            have kt : r.nm ∈ namesR rows := List.mem_map.mpr ⟨r, rm, rfl⟩
            have s0b : Same H0 Hb := Same.new_put nf s0D ba
            have hl' : ∀ H', Same Hb H' → H' l = some (.lst (zS G.1)) := fun H' s' => s' _ _ (ba _ _ nlf hlD)
            have hfr' : ∀ H', Same Hb H' → H' fr = some (.tup (zI G.2)) := fun H' s' => s' _ _ (ba _ _ nff hfrD)
            have ga : ∀ a, r.asks = some a → GoodS a := g.asks r rm
            obtain ⟨b, eb⟩ : ∃ b, b = decide (r.nm ∈ G.1) := ⟨_, rfl⟩
            have ee : entG G r = (r.nm, mineOf b G.2 r, b) := by rw [eb]; rfl
            have gm : GoodS (mineOf b G.2 r) := mine_good gg ga
            -- asks
            refine ⟨_, rfl, _, rfl, R, r, rows, rfl, T0.same s0b, rm, fun q2 av Hc sc hq2 hav => ?_⟩
            refine ⟨_, _, _, _, rfl, rfl, SqT.of hq2, rfl, ?_⟩
            refine name_ ?_
            dsimp only
            -- mine, first
            refine abs_ (fun R' => ∀ m1 H', Same Hc H' → H' m1 = some (.tup (zI (G.2.filter fun x => match r.asks with | none => false | some a => decide (x ∈ a)))) → R' [some (.ref R), some (.str nm), some (.ref p), some (.bl al), some (.ref f), some (.ref l), some (.ref tk), some (.str r.nm), some (.ref fr), some av, some (.ref m1), none, none] H') ?_ ?_
            · intro m1 Hd sd hm1
              have sbd := sc.trans sd
              refine abs_ (fun R' => ∀ m H', Same Hd H' → H' m = some (.tup (zI (mineOf b G.2 r))) → R' [some (.ref R), some (.str nm), some (.ref p), some (.bl al), some (.ref f), some (.ref l), some (.ref tk), some (.str r.nm), some (.ref fr), some av, some (.ref m), none, none] H') ?_ ?_
              · intro m He se hm
                have s2 := sbd.trans se
                obtain ⟨kv2, hf2, pf2⟩ := fda.same s2
                refine ⟨_, rfl, _, rfl, _, rfl, in_S (.inl (SqL.of (hl' _ s2))) ⟨line100 (by show 2 ≤ 1000; decide), ?_⟩⟩
                rw [← eb]
                walk_at "new"; rename_i q nq H3 s3 hq
                have gE : GoodE rows (putsE es (((kidsR rows nm).take i).flatMap fun r => entG G r :: walkE rows j r.nm (entG G r).2.1 (entG G r).2.2)) := by
                  refine ge.puts fun e he => ?_
                  obtain ⟨r2, h2, he⟩ := List.mem_flatMap.mp he
                  have h3 := (kid_row (List.mem_of_mem_take h2)).1
                  rcases List.mem_cons.mp he with he | he
                  · rw [he]
                    exact List.mem_map.mpr ⟨r2, h3, rfl⟩
                  · exact walk_names _ _ _ _ _ he
                have lE := gE.len
                have lk := Paired.length pf2
                have hf3 := s3 _ _ hf2
                have hm3 := s3 _ _ hm
                refine ⟨_, rfl, _, rfl, f, _, rfl, DPut.k (k := Sum.inr r.nm) hf3 (small1000 (by omega)), ?_⟩
                walk_at "put"; rename_i H4 b4 hf4
                have tp := b4.tups hf3
                have fd4 : FoundAt H4 f (putE (putsE es (((kidsR rows nm).take i).flatMap fun r => entG G r :: walkE rows j r.nm (entG G r).2.1 (entG G r).2.2)) (entG G r)) := by
                  refine ⟨_, hf4, ?_⟩
                  have := prd_put (e := entG G r) (v := .ref q) (L2.Paired.mapP pf2 fun _ _ h => h.stay fun _ _ e => tp _ _ (s3 _ _ e)) ⟨rfl, q, m, rfl, by rw [ee]; exact tp _ _ hq, by rw [ee]; exact tp _ _ hm3⟩
                  exact this
                have hl4 : H4 l = some (.lst (zS G.1)) := b4 _ _ nlf (hl' _ (s2.trans s3))
                have b14 : But f HD H4 := ba.trans ((Same.but (s2.trans s3)).trans b4)
                refine ⟨_, rfl, _, rfl, _, rfl, _, rfl, _, rfl, in_S (.inl (SqL.of hl4)) ⟨_, rfl, ?_⟩⟩
                rw [← eb]
                refine ⟨R, m, f, r.nm, b, mineOf b G.2 r, rows, H0, _, rfl, T0, fuel_step g fu rk, Same.new_put nf s0D b14, nf, tp _ _ hm3, gm, fd4, gE.put kt, fun H5 b5 fd5 => ⟨⟨_, _, _, rfl⟩, b14.trans b5, ?_⟩⟩
                rw [take_snoc er, List.flatMap_append, List.flatMap_cons, List.flatMap_nil, List.append_nil]
                unfold putsE at fd5 ⊢
                rw [List.foldl_append, List.foldl_cons, ee]
                rw [ee] at fd5
                exact fd5
              · intro R' hR'
                refine ⟨_, rfl, _, rfl, in_S (.inl (SqL.of (hl' _ sbd))) ⟨_, rfl, ite2 (fun c => ?_) (fun c => ?_)⟩⟩
                · have b1 : b = true := by rw [eb]; exact c
                  subst b1
                  obtain ⟨a, ea, _⟩ := alone_mem (has := has) (al := al) (nm := nm) g rm (by rw [eG]; exact of_decide_eq_true eb.symm)
                  rw [ea] at hav
                  obtain ⟨pa, rfl, hpa⟩ := hav
                  rw [mine_alone ea] at hR'
                  exact ⟨_, rfl, hR' pa _ (Same.refl _) (sd _ _ hpa)⟩
                · have b0 : b = false := by rw [eb]; exact Bool.not_eq_true _ |>.mp c
                  subst b0
                  rw [mine_due rfl] at hR'
                  refine ⟨_, rfl, line100 (by show 0 ≤ 1000; decide), ?_⟩
                  walk_at "new"; rename_i E nE He se hE
                  refine eqT (ys := []) (se _ _ hm1) hE ⟨_, rfl, ite2 (fun c2 => ?_) (fun c2 => ?_)⟩
                  · rw [if_pos (of_decide_eq_true c2)] at hR'
                    exact ⟨_, rfl, hR' fr _ se (hfr' _ (sbd.trans se))⟩
                  · rw [if_neg (fun z => c2 (decide_eq_true z))] at hR'
                    exact ⟨_, rfl, hR' m1 _ se (se _ _ hm1)⟩
            · intro R' hR'
              have hfc := hfr' _ sc
              refine ⟨_, rfl, fr, rfl, ⟨_, SqT.of hfc⟩, fun D nD => lc_val (n := (zI G.2).length) G.2 (by simp) walk_tup (fun x => if (match r.asks with | none => false | some a => decide (x ∈ a)) = true then some (V.int x) else none) nD (by rw [List.length_map]; exact small1000 (by omega)) (fun H2 s2 => SqT.of (s2 _ _ hfc)) (fun j x v H' H2 Yes No hc s2 y yes no => ?_) (fun H2 s2 e2 => ?_)⟩
              · obtain ⟨rfl, hv⟩ := y
                rw [List.getElem?_map, hc] at hv
                cases hv
                refine ⟨rfl, ?_⟩
                replace hav := hav.stay (Same.stay s2)
                cases ea : r.asks with
                | none =>
                  rw [ea] at hav yes no
                  cases (show av = .non from hav)
                  exact ⟨_, rfl, rfl, false, rfl, iteF (iteF (no (if_neg (fun z => nomatch z)) _ (Same.refl _)))⟩
                | some a =>
                  rw [ea] at hav yes no
                  obtain ⟨pa, rfl, hpa⟩ := hav
                  refine ⟨_, rfl, rfl, true, rfl, iteT ⟨_, rfl, _, rfl, in_I (.inr (SqT.of hpa)) ⟨_, rfl, ite2 (fun m => ⟨_, rfl, ?_⟩) (fun m => ?_)⟩⟩⟩
                  · exact yes _ _ (if_pos m) (Same.refl _)
                  · exact no (if_neg m) _ (Same.refl _)
              · rw [fm_filter] at e2
                refine ⟨D, _, rfl, .inl ⟨SqL.of e2, ?_⟩⟩
                walk_at "new"; rename_i m1 nm3 H3 s3 hm
                exact hR' m1 _ (s2.trans s3) hm
          · rintro σ Ha ⟨⟨y7, x9, x10, rfl⟩, ba, fda⟩
            have kk : (zS (kidsN rows nm)).length = (kidsR rows nm).length := by unfold kidsN; rw [List.length_map, List.length_map]
            rw [kk, List.take_length] at fda
            refine ⟨_, rfl, Qk _ ((Same.but sHD).trans ba) ?_⟩
            rw [← eG] at fda
            exact fda
    · intro R' hR'
      refine ⟨_, rfl, l, rfl, ⟨_, SqL.of hl3⟩, for_it walk_list (fun k σ H' => ∃ tk x7, σ = [some (.ref R), some (.str nm), some (.ref p), some (.bl al), some (.ref f), some (.ref l), some (.ref tk), x7, none, none, none, none, none] ∧ Same H3 H' ∧ H' tk = some (.tup (zI (takenN rows (G.1.take k)))))
        ⟨e0, none, rfl, Same.refl _, s3 _ _ he0⟩ (fun k σ H' _ ⟨_, _, _, s', _⟩ => SqL.of (s' _ _ hl3)) ?_ ?_⟩
      · rintro k x σ Hc Hd hk ⟨tk, x7, rfl, sc, htk⟩ ⟨rfl, ex⟩
        rw [List.length_map] at hk
        rw [List.getElem?_map, List.getElem?_eq_getElem hk] at ex
        cases ex
        have eo : G.1[k]? = some G.1[k] := List.getElem?_eq_getElem hk
        generalize G.1[k] = o at *
        obtain ⟨r2, rm2, rfl, a2, ea2⟩ := inr o (List.mem_of_getElem? eo)
        refine ⟨_, rfl, _, rfl, _, rfl, R, r2, rows, rfl, T0.same (s03.trans sc), rm2, fun q2 av2 H8 s8 hq2 hav2 => ?_⟩
        rw [ea2] at hav2
        obtain ⟨pa2, rfl, hpa2⟩ := hav2
        have enext : takenN rows (G.1.take (k + 1)) = takenN rows (G.1.take k) ++ a2 := by
          rw [take_snoc eo]
          unfold takenN
          rw [List.flatMap_append, List.flatMap_cons, List.flatMap_nil, List.append_nil, ask_self g rm2, askL, ea2]
          rfl
        have l1 := taken_len g (G.1.take k)
        rw [List.length_take] at l1
        have l2 := (g.asks r2 rm2 a2 ea2).len
        have htk8 := s8 _ _ htk
        have fin : ∀ tk' H', Same H8 H' → H' tk' = some (.tup (zI (takenN rows (G.1.take k)) ++ zI a2)) → ∃ tk2 x7, [some (V.ref R), some (.str nm), some (.ref p), some (.bl al), some (.ref f), some (.ref l), some (.ref tk'), some (.str r2.nm), none, none, none, none, none] = [some (.ref R), some (.str nm), some (.ref p), some (.bl al), some (.ref f), some (.ref l), some (.ref tk2), x7, none, none, none, none, none] ∧ Same H3 H' ∧ H' tk2 = some (.tup (zI (takenN rows (G.1.take (k + 1))))) := fun tk' H' s' h' =>
          ⟨tk', _, rfl, sc.trans (s8.trans s'), by rw [h', enext, show zI (takenN rows (G.1.take k) ++ a2) = zI (takenN rows (G.1.take k)) ++ zI a2 from List.map_append]⟩
        refine ⟨_, _, _, _, rfl, rfl, SqT.of hq2, rfl, tk, pa2, _, _, rfl, rfl, SqT.of htk8, SqT.of hpa2, line100 (by rw [List.length_map, List.length_map]; omega), fun z => ?_, fun z1 z2 => ?_, fun z1 z2 => ?_⟩
        · exact fin pa2 H8 (Same.refl _) (by rw [z, List.nil_append]; exact hpa2)
        · exact fin tk H8 (Same.refl _) (by rw [z2, List.append_nil]; exact htk8)
        · walk_at "new"; rename_i p3 np3 H9 s9 h9
          exact fin p3 H9 s9 h9
      · rintro σ Hc ⟨tk, x7, rfl, sc, htk⟩
        rw [List.length_map, List.take_length] at htk
        exact hR' tk x7 Hc sc htk
end
end Bd

namespace Bd
open PySem PySem.Spec PyProof.Rows L2
theorem map_look {H : Hp} {nm : Str} {xs : List Int} : ∀ {ps : List (Str × List Int)} {kvs : List (Key × V)}, Paired (MapE H) ps kvs → (ps.map (·.1)).Nodup → (nm, xs) ∈ ps → ∃ m, valV kvs (Sum.inr nm) = some (.ref m) ∧ H m = some (.tup (zI xs))
  | _, _, .nil, _, h => nomatch h
  | e :: ps, kv :: kvs, .cons h t, nd, hm => by
    rw [List.map_cons] at nd
    obtain ⟨n1, n2⟩ := List.nodup_cons.mp nd
    by_cases z : e.1 = nm
    · obtain ⟨h1, p, h2, h3⟩ := h
      have e2 : e = (nm, xs) := by
        rcases List.mem_cons.mp hm with hm | hm
        · exact hm.symm
        · exact absurd (List.mem_map.mpr ⟨_, hm, rfl⟩) (by rw [z] at n1; exact n1)
      subst e2
      exact ⟨p, by rw [valV_pos h1, h2], h3⟩
    · have hm2 : (nm, xs) ∈ ps := (List.mem_cons.mp hm).resolve_left fun y => z (by rw [← y])
      rw [valV_neg (fun y => z (Sum.inr.inj (h.1.symm.trans y)))]
      exact map_look t n2 hm2
def chosenE (rows : List Gr) (xs : List Int) : List Str := (rows.filter fun r => (valE (foundE rows xs) r.nm).2).map (·.nm)
theorem chosen_iff {rows : List Gr} (g : GoodRows rows) (l12 : rows.length ≤ 12) {xs own : List Int} {nm : Str} (v : IsVal rows xs nm own true) : ∀ r ∈ kidsR rows nm, (r.nm ∈ chosenE rows xs ↔ r.nm ∈ (greedy (kidsR rows nm) own).1) := fun r hr => by
  have e := val_kid g l12 v hr
  have e2 : (valE (foundE rows xs) r.nm).2 = decide (r.nm ∈ (greedy (kidsR rows nm) own).1) := by
    rw [e]
    rfl
  have e3 : r.nm ∈ chosenE rows xs ↔ (valE (foundE rows xs) r.nm).2 = true := by
    unfold chosenE
    rw [List.mem_map]
    constructor
    · rintro ⟨r2, h2, en⟩
      rw [← en]
      exact (List.mem_filter.mp h2).2
    · intro h
      exact ⟨r, List.mem_filter.mpr ⟨(kid_row hr).1, h⟩, rfl⟩
  rw [e3, e2, decide_eq_true_eq]
theorem all64 : GoodS ((List.range 64).map fun i => (0 : Int) + (i : Nat)) := ⟨by decide +kernel, by decide +kernel⟩
section
variable {X : Cx} {t : TA} {e : Expr} {p pos : Pos}
/-- how a Tree is made -/
structure MakesTree (P : Program) (w : World) (K : PySem.W.Frag) (mg : Str → Option Value) (base : Heap) : Prop where
  ex : ∃ fd ds, FnOk P w K mg base CX0 6 (He.ma K (He.ga K "Tree") "__init__") fd ["self", "rows", "handing"] (spInit K) ∧ Binds K fd ["self", "rows", "handing"] ds ∧ Vals [.bl false] ds ∧ Mk K (He.ga K "Tree") (He.ma K (He.ga K "Tree") "__init__") ∧ mg "Tree" = some (.ref (He.ga K "Tree"))
theorem pe_makeTree (C : MakesTree X.prog X.w X.K X.mg X.base) (hr : Room 7 X.A) (hg : Gl X "Tree") (ha : PA X [e] t) (he : starEach [e] X.env = (false, eval e X.env) :: starEach [] X.env := by rfl) :
    PE X (.Call (.Name "Tree" p) [e] [] pos) (tMake (He.ga X.K "Tree") (spInit X.K) [.bl false] E0 t) := by
  obtain ⟨fd, ds, F, hb, hd, M, hm⟩ := C.ex
  exact pe_make M F hr hg hm hb hd pass0 ha (by decide) he
end
section
variable {P : Program} {w : World} {K : PySem.W.Frag} {mg : Str → Option Value} {base : Heap}
theorem makes_tree (Z : Zs w K mg) {fd : FuncData} (F : FunD K "__init__" "Tree.__init__" (defArgs s_Tree___init) (defBody s_Tree___init) (defScope s_Tree___init) [.bl false] [] (He.ma K (He.ga K "Tree") "__init__") fd) (Cis_row : Cal P w K mg base "is_row" 5 ["thing", "ahead"] spRow) : MakesTree P w K mg base := by
  obtain ⟨ds, h1, h2⟩ := F.binds1 (ps := ["self", "rows", "handing"]) 2 0 (by simp) rfl (fun T kV doc pm an cdv ct us its e1 e2 => match us, its, e1, e2 with | [_, _], [_], _, _ => ⟨_, rfl, rfl⟩)
  obtain ⟨u, hu, ru⟩ := Z.mTree
  cases (show u = Value.ref _ from ru)
  exact ⟨fd, ds, ok_init Z F Cis_row, h2, h1, Z.tmk, hu⟩
/-! ### _law_right, law -/
def spRight : Sp := fun vs H Q _ => ∃ (s : Addr), vs = [.ref s] ∧ SrcAt H s ∧ ∀ H', But s H H' → SrcAt H' s → Q (.bl true) H'
theorem ok_law_right (Z : Zs w K mg) (D : At K mg "_law_right" s_law_right) (CT : MakesTree P w K mg base) (C_law_next : Cal P w K mg base "_law_next" 2 ["_law_source_here", "_law_many"] spNext) (C_law_set : Cal P w K mg base "_law_set" 3 ["_law_source_here", "_law_few"] spSetL)
    (C_law_set_rows : Cal P w K mg base "_law_set_rows" 4 ["_law_source_here", "_law_many", "_law_every"] spRows) (C_law_due : Cal P w K mg base "_law_due" 15 ["_law_rows", "_law_name", "_law_own", "_law_is_alone", "_law_found"] (spDue 13))
    (Csets : Cal P w K mg base "sets" 16 ["tree", "whole"] (spSets K)) (Cstands_alone : Cal P w K mg base "stands_alone" 16 ["tree", "whole"] (spAlone K)) (C_law_pairs_right : Cal P w K mg base "_law_pairs_right" 2 ["_law_rows", "_law_name", "_law_own", "_law_chosen"] spPairs) :
    Cal P w K mg base "_law_right" 17 ["_law_source_here"] spRight := by
  refine mk_cal D sc_law_right (fun _ _ _ _ _ _ us hl => match us, hl with | [_], _ => rfl) (fun vs H Q E h => ?_) (fun f cdv A outer st H vs Q E hr h => ?_)
  · obtain ⟨s, rfl, _⟩ := h
    rfl
  · obtain ⟨s, rfl, hs0, Qk⟩ := h
    have hu := hu_of hr
    refine ⟨_, (pss_cons (ps_set (i := 1) sc_law_right.nd rfl (.inl rfl) (pe_cal C_law_set (hr.mono (by decide)) rfl (pa_cons (pv 0) (pa_cons pe_int pa_nil))))
  (pss_cons (ps_set (i := 1) sc_law_right.nd rfl (.inl rfl) (pe_ifExp (pt_cmpR (r := rNeD K) (op_neD hr.units) (pv 1) (pe_tup pa_nil) (nomark _)) (pv 1) (pe_tup (pa_cons pe_int pa_nil))))
  (pss_cons (ps_if (pt_cmpR op_eq (pe_cal C_law_next (hr.mono (by decide)) rfl (pa_cons (pv 0) (pa_cons pe_int pa_nil))) pe_int (nomark _)) (pss_one (ps_set (i := 1) sc_law_right.nd rfl (.inl rfl) (pe_callTy call_tuple_of rfl Z.tuple (by decide +kernel) (pa_cons (pe_listRg rfl rfl Z.list (prg_1 rfl Z.range pe_int)) pa_nil)))) pss_nil)
  (pss_cons (ps_set (i := 2) sc_law_right.nd rfl (.inr rfl) (pe_cal C_law_set_rows (hr.mono (by decide)) rfl (pa_cons (pv 0) (pa_cons (pe_op op_add pe_int (pe_cal C_law_next (hr.mono (by decide)) rfl (pa_cons (pv 0) (pa_cons pe_int pa_nil)))) (pa_cons (pv 1) pa_nil)))))
  (pss_cons (ps_asg (pe_tup (pa_cons (pe_makeTree CT (hr.mono (by decide)) rfl (pa_cons (pv 2) pa_nil)) (pa_cons (pe_cal C_law_due (hr.mono (by decide)) rfl (pa_cons (pv 2) (pa_cons pe_str (pa_cons (pv 1) (pa_cons pe_bl (pa_cons pe_dnewK pa_nil)))))) pa_nil))) (pg_tup rfl (pgs_cons (pg_name (i := 3) sc_law_right.nd rfl (.inl rfl)) (pgs_cons (pg_name (i := 4) sc_law_right.nd rfl (.inr rfl)) pgs_nil))))
  (pss_cons (ps_asg (pe_tup (pa_cons (pe_cal Csets (hr.mono (by decide)) rfl (pa_cons (pv 3) (pa_cons (pv 1) pa_nil))) (pa_cons (pe_cal Cstands_alone (hr.mono (by decide)) rfl (pa_cons (pv 3) (pa_cons (pv 1) pa_nil))) pa_nil))) (pg_tup rfl (pgs_cons (pg_name (i := 5) sc_law_right.nd rfl (.inr rfl)) (pgs_cons (pg_name (i := 6) sc_law_right.nd rfl (.inr rfl)) pgs_nil))))
  (pss_cons (ps_if (pt_cmpR (r := rNeDt K) (op_neDt (hu65 hr)) (pv 5) (pe_callTy (call_dictP rfl) rfl Z.dict (by decide +kernel) (pa_cons (pe_lock (pe_lc (own := [("_law_name", 7)]) rfl sc_law_right.nd (pi_keys (pv 4)) (blkOk_by (own := [("_law_name", 7)]) (N := N_law_right) (sc := defScope s_law_right) (by decide +kernel)) (fun _ _ _ _ _ => (pg_name (i := 7) sc_law_right.nd rfl (.inl rfl))) (fun _ _ _ _ _ => pts_nil) (fun _ _ _ _ _ => (pe_tup (pa_cons (pv 7) (pa_cons (pe_ix (r := rIxT K) ix_tup (pe_dget hu (pv 4) (pv 7) (fun _ _ => rfl)) pe_int (fun _ _ => rfl)) pa_nil)))))) pa_nil)) (nomark _)) (pss_one (ps_ret pe_bl)) pss_nil)
  (pss_cons (ps_if (pt_cmpR (r := rNeD K) (op_neD hr.units) (pv 6) (pe_lc (own := [("_law_row", 8)]) rfl sc_law_right.nd (pi_list (pv 2)) (blkOk_by (own := [("_law_row", 8)]) (N := N_law_right) (sc := defScope s_law_right) (by decide +kernel)) (fun _ _ _ _ _ => (pg_name (i := 8) sc_law_right.nd rfl (.inl rfl))) (fun _ _ _ _ _ => (pts_one (pt_val (pe_ix (r := rIxT K) ix_tup (pe_dget hu (pv 4) (pe_ix (r := rIxT K) ix_tup (pv 8) pe_int (fun _ _ => rfl)) (fun _ _ => rfl)) pe_int (fun _ _ => rfl))))) (fun _ _ _ _ _ => (pe_ix (r := rIxT K) ix_tup (pv 8) pe_int (fun _ _ => rfl)))) (nomark _)) (pss_one (ps_ret pe_bl)) pss_nil)
  (pss_cons (ps_if (pt_not (pt_val (pe_cal C_law_pairs_right (hr.mono (by decide)) rfl (pa_cons (pv 2) (pa_cons pe_str (pa_cons (pv 1) (pa_cons (pv 6) pa_nil))))))) (pss_one (ps_ret pe_bl)) pss_nil)
  (pss_one (ps_ret (pe_cmpR (r := rEqD K) (op_eqD hr.units) (pe_lc (own := [("_law_name", 7)]) rfl sc_law_right.nd (pi_list (pv 6)) (blkOk_by (own := [("_law_name", 7)]) (N := N_law_right) (sc := defScope s_law_right) (by decide +kernel)) (fun _ _ _ _ _ => (pg_name (i := 7) sc_law_right.nd rfl (.inl rfl))) (fun _ _ _ _ _ => (pts_one (pt_not (pt_val (pe_cal C_law_pairs_right (hr.mono (by decide)) rfl (pa_cons (pv 2) (pa_cons (pv 7) (pa_cons (pe_dget hu (pv 5) (pv 7) (fun _ _ => rfl)) (pa_cons (pv 6) pa_nil))))))))) (fun _ _ _ _ _ => (pv 7))) (pe_lst pa_nil) (nomark _))))))))))))), ?_⟩
    refine seq_ (asg_ ?_)
    refine ⟨_, rfl, s, 10, rfl, hs0, by decide, by decide, fun p1 x1 H1 b1 hs1 hp1 g1 => ?_⟩
    refine name_ ?_
    dsimp only
    refine abs_ (fun R => ∀ p xs H', But s H H' → SrcAt H' s → H' p = some (.tup (zI xs)) → GoodS xs → xs ≠ [] → R [some (.ref s), some (.ref p), none, none, none, none, none, none, none] H') ?_ ?_
    · intro p xs H2 b2 hs2 hp2 g2 n2
      refine abs_ (fun R => ∀ p xs H', But s H H' → SrcAt H' s → H' p = some (.tup (zI xs)) → GoodS xs → xs ≠ [] → R [some (.ref s), some (.ref p), none, none, none, none, none, none, none] H') ?_ ?_
      · intro p xs H3 b3 hs3 hp3 gx ne
        have ps : p ≠ s := by
          obtain ⟨_, _, _, z⟩ := hs3
          exact ne_of hp3 z (by intro z; cases z)
        -- rows
        refine ⟨_, rfl, _, rfl, s, 12, rfl, hs3, by decide, by decide, fun n H4 n0 n1 b4 hs4 => ⟨_, _, rfl, rfl, _, rfl, s, p, _, xs, rfl, hs4, by omega, by omega, b4 _ _ ps hp3, gx, fun R rows H5 b5 hs5 ra g l12 => ?_⟩⟩
        have hp5 := b5 _ _ ps (b4 _ _ ps hp3)
        have b05 : But s H H5 := b3.trans (b4.trans b5)
        have T5 : Table H5 R rows := ⟨ra, g, l12⟩
        have hall := fun nm (h : nm ∈ namesR rows) => found_all g l12 (xs := xs) h
        have ge : GoodE rows (foundE rows xs) := found_good
        -- Tree(rows), _law_due
        refine ⟨_, rfl, fun t dx nt ndx ndt => ?_⟩
        have s5 : Same H5 (upd (upd H5 dx (.own t)) t (.ins (He.ga K "Tree") dx [])) := (Same.new ndx).trans (Same.new (by rw [upd_ne (Ne.symm ndt)]; exact nt))
        refine ⟨t, R, dx, rows, H5, rfl, upd_same, s5, nt, ra, g, l12, fun H6 s6 T6 => ⟨rfl, ?_⟩⟩
        refine ⟨_, rfl, _, rfl, ?_⟩
        walk_at "new"; rename_i fd nfd H7 s7 hf7
        have s57 := s6.trans s7
        refine ⟨R, p, fd, ("" : Str), true, xs, rows, H6, [], rfl, T5.same s6, .inl ⟨rfl, Nat.le_refl _⟩, s7, nfd, s57 _ _ hp5, gx, ⟨_, hf7, .nil⟩, ⟨.nil, fun _ h => nomatch h⟩, fun H8 b8 fd8 => ⟨line100 (by show 2 ≤ 1000; decide), ?_⟩⟩
        have s68 : Same H6 H8 := Same.new_put nfd s7 b8
        replace fd8 : FoundAt H8 fd (foundE rows xs) := fd8
        walk_at "new"; rename_i q9 nq9 H9 s9 hq9
        refine ⟨q9, _, rfl, SqT.of hq9, rfl, _, _, rfl, _, _, rfl, rfl, ?_⟩
        have s59 := s6.trans (s68.trans s9)
        have hp9 := s59 _ _ hp5
        -- found, chosen
        refine ⟨_, rfl, _, rfl, t, p, rows, xs, rfl, ⟨T6.same (s68.trans s9), g, l12, hp9, gx, ne⟩, fun d H10 s10 md => ?_⟩
        refine ⟨_, rfl, _, rfl, t, p, rows, xs, rfl, ⟨T6.same (s68.trans (s9.trans s10)), g, l12, s10 _ _ hp9, gx, ne⟩, fun c H11 s11 hc => ⟨line100 (by show 2 ≤ 1000; decide), ?_⟩⟩
        walk_at "new"; rename_i q12 nq12 H12 s12 hq12
        refine ⟨q12, _, rfl, SqT.of hq12, rfl, _, _, rfl, _, _, rfl, rfl, ?_⟩
        have s812 := s9.trans (s10.trans (s11.trans s12))
        have s512 := s59.trans (s10.trans (s11.trans s12))
        have md12 := md.same (s11.trans s12)
        obtain ⟨fkv, hf, pf⟩ := fd8.same s812
        have hc12 := s12 _ _ hc
        have lfe : (foundE rows xs).length = rows.length := by
          have a := ge.len
          have b := len_sub (xs := namesR rows) (ys := (foundE rows xs).map (·.1)) g.nd hall
          rw [List.length_map, List.length_map] at b
          omega
        -- found != dict(..)
        refine ⟨_, rfl, fd, .dK fkv, hf, trivial, fun od => ?_⟩
        walk_at "put"; rename_i H13 b13 hf13
        have st13 : ∀ b xs, H12 b = some (.tup xs) → H13 b = some (.tup xs) := b13.tups hf
        have lk := Paired.length pf
        refine ⟨_, rfl, fd, od, rfl, .inl ⟨fkv, hf13, fun D nD => lc_rel (n := fkv.length) (foundE rows xs) lk walk_keys (fun _ => true) (fun e y H' => PairIs e.1 e.2.1 H' y) (fun e y H' H'' h s => h.stay s) nD (small1000 (by omega)) (fun H3 s3 => s3 _ _ hf13) (fun i e v H' H3 Yes No hc s3 y yes no => ?_) (fun H14 ys s14 e14 pr => ?_)⟩⟩
        · obtain ⟨rfl, kk, v, ekv, rfl⟩ := y
          obtain ⟨e2, er, ekk, _⟩ := prd_get pf ekv
          cases ekk
          rw [hc] at er
          cases er
          have em := List.mem_of_getElem? hc
          obtain ⟨q, m, g1, g2, g3⟩ := found_look pf (List.mem_map.mpr ⟨e, em, rfl⟩)
          rw [val_here ge.nd em] at g2 g3
          have hq := s3 _ _ (st13 _ _ g2)
          have hm := s3 _ _ (st13 _ _ g3)
          refine ⟨rfl, yes_ (iteT ?_)⟩
          refine ⟨_, rfl, _, rfl, _, rfl, fd, .ref q, rfl, .inl ⟨fkv, Sum.inr e.1, .inr ⟨od, s3 _ _ hf13⟩, rfl, g1.symm⟩, _, _, _, _, rfl, rfl, SqT.of hq, rfl, line100 (by show 2 ≤ 1000; decide), ?_⟩
          walk_at "new"; rename_i T nT H4 s4 hT
          exact yes rfl _ _ ⟨T, m, rfl, hT, s4 _ _ hm⟩ s4
        · rw [List.filter_eq_self.mpr (fun _ _ => rfl)] at pr
          refine ⟨s14 _ _ hf13, ?_⟩
          walk_at "put"; rename_i H15 b15 hf15
          have st15 : ∀ b xs, H14 b = some (.tup xs) → H15 b = some (.tup xs) := fun b xs e => b15 _ _ (fun z => by rw [z, s14 _ _ hf13] at e; cases e) e
          obtain ⟨ps', kv2, rfl, p1', p2'⟩ := pairs_out (K := K) (L2.Paired.mapP pr fun e y h => (by
            obtain ⟨q, m, e', h1, h2⟩ := h
            exact ⟨q, m, e', st15 _ _ h1, st15 _ _ h2⟩ : PairIs e.1 e.2.1 H15 y))
          have Df : D ≠ fd := (ne_of_none hf13 nD).symm
          refine ⟨D, ps', kv2, rfl, SqL.of (b15 _ _ Df e14), p1', ?_⟩
          walk_at "new"; rename_i d2 nd2 H16 s16 hd2
          have s1216 : Same H12 H16 := (show Same H12 H15 from fun b o e => by
            by_cases z : b = fd
            · rw [z] at e ⊢
              rw [hf] at e
              cases e
              exact hf15
            · exact b15 _ _ z (s14 _ _ (b13 _ _ z e))).trans s16
          have nds : (((foundE rows xs).map fun e => (e.1, e.2.1)).map (·.1)).Nodup := by
            rw [List.map_map]
            exact ge.nd
          rw [merge_map p2' nds] at hd2
          have md16 : Paired (MapE H16) ((foundE rows xs).map fun e => (e.1, e.2.1)) kv2 := L2.Paired.mapP p2' fun _ _ ⟨z, p, e, h⟩ => ⟨z, p, e, s16 _ _ h⟩
          obtain ⟨kv1, hd16, pd⟩ := md12.same s1216
          have l1 := Paired.length pd
          have l2 := Paired.length md16
          rw [List.length_map] at l1 l2
          have same : DataSame K H16 kv1 kv2 := fun kv hkv => by
            obtain ⟨k, hk, ek⟩ := List.mem_iff_getElem.mp hkv
            obtain ⟨e, ee, ekk, m, em, hm⟩ := prd_get pd (List.getElem?_eq_some_iff.mpr ⟨hk, ek⟩)
            rw [List.getElem?_map] at ee
            cases er : rows[k]? with
            | none => rw [er] at ee; cases ee
            | some r =>
              rw [er] at ee
              cases ee
              have rm := List.mem_of_getElem? er
              have v := val_in (hall r.nm (List.mem_map.mpr ⟨r, rm, rfl⟩))
              obtain ⟨m2, g1, g2⟩ := map_look (nm := r.nm) (xs := (valE (foundE rows xs) r.nm).1) md16 nds (List.mem_map.mpr ⟨_, v, rfl⟩)
              refine ⟨.ref m2, _, by rw [ekk]; exact g1, by rw [em]; exact .tup (SqT.of hm) (dpI _), .tup (SqT.of g2) (dpI _), shT (layI _)⟩
          refine ⟨d, d2, kv1, kv2, rfl, rfl, hd16, hd2, by omega, same, false, rfl, iteF ?_⟩
          have s516 := s512.trans s1216
          have hf16 := s1216 _ _ hf
          obtain ⟨vs, hR, pr2⟩ := (T5.same s516).at_
          have lv : vs.length = rows.length := (Paired.length pr2).symm
          have pf16 : Paired (FndE H16) (foundE rows xs) fkv := L2.Paired.mapP pf fun _ _ h => h.stay fun _ _ e => s1216 _ _ e
          have hc16 := s1216 _ _ hc12
          have hch : H16 c = some (.lst (zS (chosenE rows xs))) := hc16
          have okc : ∀ x ∈ chosenE rows xs, okName x := fun x hx => by
            obtain ⟨r, hr, rfl⟩ := List.mem_map.mp hx
            exact g.nms r (List.mem_filter.mp hr).1
          -- chosen != [..]
          refine ⟨_, rfl, _, rfl, R, rfl, ⟨_, SqL.of hR⟩, fun D2 nD2 => lc_val (n := vs.length) rows lv.symm walk_list (fun r => if (valE (foundE rows xs) r.nm).2 = true then some (V.str r.nm) else none) nD2 (small1000 (by omega)) (fun H' s' => SqL.of (s' _ _ hR)) (fun j r v H17 H18 Yes No hc s17 y yes no => ?_) (fun H17 s17 e17 => ?_)⟩
          · obtain ⟨rfl, hv⟩ := y
            obtain ⟨y2, ey, q1, dd, rfl, hq1, _⟩ := prd_get' pr2 hc
            rw [hv] at ey
            cases ey
            have hq17 := s17 _ _ hq1
            obtain ⟨q, m, g1, g2, g3⟩ := found_look pf16 (hall r.nm (List.mem_map.mpr ⟨r, List.mem_of_getElem? hc, rfl⟩))
            have hqq := s17 _ _ g2
            refine ⟨rfl, ?_⟩
            refine ⟨_, rfl, _, rfl, q1, _, _, _, rfl, rfl, SqT.of hq17, rfl, fd, .ref q, rfl, by rw [← g1]; exact DGet.k (k := Sum.inr r.nm) (s17 _ _ hf16), _, _, _, _, rfl, rfl, SqT.of hqq, rfl, _, rfl, ite2 (fun m => ?_) (fun m => ?_)⟩
            · exact ⟨_, rfl, q1, _, _, _, rfl, rfl, SqT.of hq17, rfl, yes _ _ (if_pos m) (Same.refl _)⟩
            · exact no (if_neg m) _ (Same.refl _)
          · rw [fm_filter] at e17
            have e17' : H17 D2 = some (.lst (zS (chosenE rows xs))) := by
              rw [e17, chosenE, zS, List.map_map]
              rfl
            refine neS okc okc (s17 _ _ hch) e17' ⟨false, by rw [decide_eq_true rfl]; rfl, iteF ?_⟩
            have T17 := (T5.same s516).same s17
            have hp17 := s17 _ _ (s516 _ _ hp5)
            have hc17 := s17 _ _ hch
            have hd17 := s17 _ _ hd16
            have pd17 : Paired (MapE H17) (rows.map fun r => (r.nm, (valE (foundE rows xs) r.nm).1)) kv1 := L2.Paired.mapP pd fun _ _ ⟨z, p, e, h⟩ => ⟨z, p, e, s17 _ _ h⟩
            have ndr : ((rows.map fun r => (r.nm, (valE (foundE rows xs) r.nm).1)).map (·.1)).Nodup := by
              rw [List.map_map]
              exact g.nd
            -- pairs right at the top
            refine ⟨_, rfl, _, rfl, _, rfl, R, p, c, ("" : Str), xs, chosenE rows xs, rows, rfl, T17, hp17, gx, hc17, chosen_iff g l12 .root, fun H18 s18 => ⟨true, rfl, iteF ?_⟩⟩
            have hc18 := s18 _ _ hc17
            have lce : (chosenE rows xs).length ≤ 12 := by
              unfold chosenE
              rw [List.length_map]
              have := List.length_filter_le (fun r : Gr => (valE (foundE rows xs) r.nm).2) rows
              omega
            refine ⟨_, rfl, c, rfl, ⟨_, SqL.of hc18⟩, fun D3 nD3 => lc_val (n := (zS (chosenE rows xs)).length) (rows.filter fun r => (valE (foundE rows xs) r.nm).2) (by rw [List.length_map, chosenE, List.length_map]) walk_list (fun _ => none) nD3 (by rw [List.length_map]; exact small1000 (by omega)) (fun H' s' => SqL.of (s' _ _ hc18)) (fun j r v H19 H20 Yes No hc s19 y yes no => ?_) (fun H19 s19 e19 => ?_)⟩
            · obtain ⟨rfl, hv⟩ := y
              rw [chosenE, zS, List.map_map, List.getElem?_map, hc] at hv
              cases hv
              obtain ⟨rm, bt⟩ := List.mem_filter.mp (List.mem_of_getElem? hc)
              have nn : r.nm ∈ namesR rows := List.mem_map.mpr ⟨r, rm, rfl⟩
              have v := val_is g l12 (xs := xs) nn
              rw [bt] at v
              obtain ⟨m, g1, g2⟩ := map_look (nm := r.nm) (xs := (valE (foundE rows xs) r.nm).1) pd17 ndr (List.mem_map.mpr ⟨r, rm, rfl⟩)
              refine ⟨rfl, ?_⟩
              have s1719 := s18.trans s19
              refine ⟨_, rfl, _, rfl, _, rfl, _, rfl, d, .ref m, rfl, by rw [← g1]; exact DGet.k (k := Sum.inr r.nm) (s1719 _ _ hd17), _, rfl, R, m, c, r.nm, _, chosenE rows xs, rows, rfl, T17.same s1719, s1719 _ _ g2, val_good g gx v, s1719 _ _ hc17, chosen_iff g l12 v, fun H20 s20 => ⟨true, rfl, iteF ?_⟩⟩
              exact no rfl _ s20
            · refine ⟨line100 (by show 0 ≤ 1000; decide), ?_⟩
              walk_at "new"; rename_i E nE H20 s20 hE
              have e20 : (rows.filter fun r => (valE (foundE rows xs) r.nm).2).filterMap (fun _ => (none : Option V)) = [] := by
                rw [List.filterMap_eq_nil_iff]
                exact fun _ _ => rfl
              rw [e20] at e19
              have sfin : Same H5 H20 := s516.trans (s17.trans (s18.trans (s19.trans s20)))
              exact eqL (xs := []) (ys := []) (s20 _ _ e19) hE (Qk H20 (b05.trans (Same.but sfin)) (hs5.same sfin))
      · intro R hR
        refine ⟨_, rfl, s, 8, rfl, hs2, by decide, by decide, fun r H3 r0 r1 b3 hs3 => ⟨rfl, _, rfl, ite2 (fun c => ?_) (fun c => ?_)⟩⟩
        · refine ⟨_, rfl, RgOk.of_le (by decide) (by decide) (by decide) (by decide), ?_⟩
          walk_at "new"; rename_i l nl H4 s4 hl
          refine ⟨l, _, rfl, .inl ⟨SqL.of hl, ?_⟩⟩
          walk_at "new"; rename_i p4 np4 H5 s5 hp5
          have s35 := s4.trans s5
          refine hR p4 ((List.range 64).map fun i => (0 : Int) + (i : Nat)) H5 (b2.trans (b3.trans (Same.but s35))) (hs3.same s35) ?_ all64 (by decide +kernel)
          rw [hp5, zI, List.map_map]
          rfl
        · have ps : p ≠ s := by
            obtain ⟨_, _, _, z⟩ := hs2
            exact ne_of hp2 z (by intro z; cases z)
          exact hR p xs H3 (b2.trans b3) hs3 (b3 _ _ ps hp2) g2 n2
    · intro R hR
      refine ⟨_, rfl, line100 (by show 0 ≤ 1000; decide), ?_⟩
      walk_at "new"; rename_i E nE H2 s2 hE
      refine neT (ys := []) (s2 _ _ hp1) hE ⟨_, rfl, ite2 (fun c => ?_) (fun c => ?_)⟩
      · refine ⟨_, rfl, hR p1 x1 H2 (b1.trans (Same.but s2)) (hs1.same s2) (s2 _ _ hp1) g1 (fun z => ?_)⟩
        rw [decide_eq_true z] at c
        cases c
      · refine ⟨line100 (by show 1 ≤ 1000; decide), ?_⟩
        walk_at "new"; rename_i p3 np3 H3 s3 hp3
        have s13 := s2.trans s3
        exact hR p3 [7] H3 (b1.trans (Same.but s13)) (hs1.same s13) hp3 ⟨by decide, by decide⟩ (by decide)
end
end Bd

namespace Bd
open PySem PySem.Spec PyProof.Rows L2
theorem SqL.same {K : PySem.W.Frag} {H H' : Hp} {a : Addr} {xs : List V} (h : SqL K H a xs) (s : Same H H') : SqL K H' a xs := by
  rcases h with (h | ⟨o, h⟩) | h
  · exact .inl (.inl (s _ _ h))
  · exact .inl (.inr ⟨o, s _ _ h⟩)
  · exact .inr h
section
variable {P : Program} {w : World} {K : PySem.W.Frag} {mg : Str → Option Value} {base : Heap}
/-! ### law -/
def spLaw (K : PySem.W.Frag) : Sp := fun vs H Q _ => ∃ (a : Addr) (ns : List Int), vs = [.ref a] ∧ SqL K H a (zI ns) ∧ ∀ H', Q (.bl true) H'
theorem mk_fn {x : Str} {st : Stmt} {N ps : List Str} {k : Nat} {sp : Sp} {f : Addr} {fd : FuncData} (F : FnP K x st f fd) (S : FnScope N ps (defScope st)) (len : ∀ vs H Q E, sp vs H Q E → vs.length = ps.length)
    (hbody : BodyH P w K mg base x st N k sp) : FnOk P w K mg base CX0 (k + 1) f fd ps sp :=
  F.ok S len fun cdv A outer s H vs Q E hr h => by
    obtain ⟨t, h1, h2⟩ := hbody f cdv A outer s H vs Q E hr h
    exact ⟨t, h1.nox, h2⟩
theorem ok_law (Z : Zs w K mg) {f0 : Addr} {fd : FuncData} (F : FnP K "law" s_law f0 fd) (C_law_source : Cal P w K mg base "_law_source" 2 ["_law_script", "_law_k"] (spSource K)) (C_law_right : Cal P w K mg base "_law_right" 17 ["_law_source_here"] spRight) : FnOk P w K mg base CX0 18 f0 fd ["_law_script"] (spLaw K) := by
  refine mk_fn F sc_law (fun vs H Q E h => ?_) (fun f cdv A outer st H vs Q E hr h => ?_)
  · obtain ⟨a, ns, rfl, _⟩ := h
    rfl
  · obtain ⟨a, ns, rfl, ha, Qk⟩ := h
    refine ⟨_, (pss_cons (ps_for PassesOwn.never rfl (pi_range1 rfl Z.range (pa_cons (pe_callB (call_max2 rfl) rfl Z.max (by decide +kernel) (pa_cons pe_int (pa_cons (pe_callB (call_min2 rfl) rfl Z.min (by decide +kernel) (pa_cons pe_int (pa_cons (pe_callB (r := rLenS K) call_len_seq rfl Z.len (by decide +kernel) (pa_cons (pv 0) pa_nil)) pa_nil))) pa_nil))) pa_nil)) (pg_name (i := 1) sc_law.nd rfl (.inl rfl))
  (pss_cons (ps_set (i := 2) sc_law.nd rfl (.inl rfl) (pe_cal C_law_source (hr.mono (by decide)) rfl (pa_cons (pv 0) (pa_cons (pv 1) pa_nil))))
  (pss_one (ps_for PassesOwn.never rfl (pi_range1 rfl Z.range (pa_cons pe_int pa_nil)) (pg_name (i := 3) sc_law.nd rfl (.inl rfl))
  (pss_one (ps_if (pt_not (pt_val (pe_cal C_law_right (hr.mono (by decide)) rfl (pa_cons (pv 2) pa_nil)))) (pss_one (ps_ret pe_bl)) pss_nil))))))
  (pss_one (ps_ret pe_bl))), ?_⟩
    refine ⟨_, rfl, a, _, rfl, .inl ha, _, _, rfl, _, _, rfl, _, rfl, by split <;> (split <;> omega), by split <;> (split <;> omega), for_it walk_range (fun i σ H' => (∃ x1 x2 x3, σ = [some (.ref a), x1, x2, x3]) ∧ Same H H') ⟨⟨none, none, none, rfl⟩, Same.refl _⟩ (fun _ _ _ _ _ => trivial) ?_ ?_⟩
    · rintro i x σ Ha Hb hi ⟨⟨x1, x2, x3, rfl⟩, sa⟩ ⟨rfl, rfl⟩
      have e0 : (0 : Int) + (i : Nat) = (i : Nat) := Int.zero_add _
      refine ⟨_, rfl, _, rfl, a, ns, i, by rw [← e0]; rfl, SqL.same ha sa, fun s H1 s1 ns1 hs1 => ?_⟩
      have n0 : H s = none := Same.free sa ns1
      refine ⟨6, rfl, by omega, by omega, for_it walk_range (fun j σ H' => (∃ x3, σ = [some (.ref a), some (.int (0 + (i : Nat))), some (.ref s), x3]) ∧ Same H H' ∧ SrcAt H' s) ⟨⟨_, rfl⟩, sa.trans s1, hs1⟩ (fun _ _ _ _ _ => trivial) ?_ ?_⟩
      · rintro j x σ Hc Hd hj ⟨⟨y3, rfl⟩, sc, hsc⟩ ⟨rfl, rfl⟩
        refine ⟨_, rfl, s, rfl, hsc, fun H2 b2 hs2 => ⟨true, rfl, iteF ?_⟩⟩
        exact ⟨⟨_, rfl⟩, Same.new_put n0 sc b2, hs2⟩
      · rintro σ Hc ⟨⟨y3, rfl⟩, sc, hsc⟩
        exact ⟨⟨_, _, _, rfl⟩, sc⟩
    · rintro σ Ha ⟨⟨x1, x2, x3, rfl⟩, sa⟩
      exact Qk Ha
end
end Bd

namespace Bd
open PySem PySem.Spec PyProof.Rows L2
/-! ### the facts -/
theorem at_of {w : World} {K : PySem.W.Frag} {h : Heap} {mg : Str → Option Value} (X : K.In h) (G : h.Ns mainGlobals mg) (c : He.SaysX fa fn tabs [] exB w h K) {x : Str} {st : Stmt} (i j : Nat)
    (hd : fn[i]? = some ⟨(x, none), x, x, defArgs st, defBody st, defScope st, [], []⟩) (hg : fa[j]? = some (.glo x)) : At K mg x st := by
  obtain ⟨fd, F⟩ := c.t.d.defs (List.mem_of_getElem? hd)
  exact ⟨_, fd, F, He.glo_ok X G (c.t.d.facts (List.mem_of_getElem? hg))⟩
theorem facts {P : Program} {w : World} {K : PySem.W.Frag} {h : Heap} {mg : Str → Option Value} {f : Addr} (X : K.In h) (G : h.Ns mainGlobals mg) (hfa : mg ("law" : Str) = some (.ref f)) (c : He.SaysX fa fn tabs [] exB w h K) :
    ∃ fd : FuncData, (∀ (s : Shared) (v : Value), BindsTo s fd ⟨[v], []⟩ [("_law_script", v)]) ∧ ∀ base : Heap, K.In base → base.Ns mainGlobals mg → FnOk P w K mg base CX0 18 f fd ["_law_script"] (spLaw K) := by
  have Z : Zs w K mg := zs_of X G c
  have hl := He.glo_ok X G (c.t.d.facts (List.mem_of_getElem? (i := 27) rfl : He.Fa.glo "law" ∈ fa))
  rw [hfa] at hl
  cases hl
  obtain ⟨fd, F⟩ := c.t.d.defs (List.mem_of_getElem? (i := 27) rfl : d_law ∈ fn)
  obtain ⟨fi, ini⟩ := c.t.d.defs (List.mem_of_getElem? (i := 28) rfl : d_Tree___init ∈ fn)
  replace F : FnP K "law" s_law (He.ga K "law") fd := F
  refine ⟨fd, fun s v => F.bindsA (ps := ["_law_script"]) (fun kV doc pm an cdv ct us hl => match us, hl with | [_], _ => rfl) s [v] rfl, fun base KB GB => ?_⟩
  have Cis_whole := ok_is_whole (P := P) (base := base) Z (at_of X G c (x := "is_whole") (st := s_is_whole) 0 0 rfl rfl)
  have Cis_name := ok_is_name (P := P) (base := base) Z (at_of X G c (x := "is_name") (st := s_is_name) 1 1 rfl rfl)
  have Cis_endless := ok_is_endless (P := P) (base := base) Z (at_of X G c (x := "is_endless") (st := s_is_endless) 2 2 rfl rfl)
  have Cis_set := ok_is_set (P := P) (base := base) Z (at_of X G c (x := "is_set") (st := s_is_set) 3 3 rfl rfl) Cis_whole
  have Cfits := ok_fits (P := P) (base := base) Z (at_of X G c (x := "fits") (st := s_fits) 4 4 rfl rfl) Cis_whole Cis_set
  have Care_dues := ok_are_dues (P := P) (base := base) Z (at_of X G c (x := "are_dues") (st := s_are_dues) 5 5 rfl rfl) Cfits
  have Cis_row := ok_is_row (P := P) (base := base) Z (at_of X G c (x := "is_row") (st := s_is_row) 6 6 rfl rfl) Cis_name Cis_endless Care_dues
  have Ccheck_tree := ok_check_tree (P := P) (base := base) Z (at_of X G c (x := "check_tree") (st := s_check_tree) 7 7 rfl rfl)
  have Cstanding := ok_standing (P := P) (base := base) Z (at_of X G c (x := "standing") (st := s_standing) 8 8 rfl rfl)
  have Chand_on := ok_hand_on (P := P) (base := base) Z (at_of X G c (x := "hand_on") (st := s_hand_on) 9 9 rfl rfl) Cstanding 13
  have Call_sets := ok_all_sets (P := P) (base := base) Z (at_of X G c (x := "all_sets") (st := s_all_sets) 10 10 rfl rfl) Ccheck_tree Cis_set Chand_on
  have Csets := ok_sets (P := P) (base := base) Z (at_of X G c (x := "sets") (st := s_sets) 11 11 rfl rfl) Call_sets
  have Cstands_alone := ok_stands_alone (P := P) (base := base) Z (at_of X G c (x := "stands_alone") (st := s_stands_alone) 12 12 rfl rfl) Call_sets
  have C_law_cell_at := ok_law_cell_at (P := P) (base := base) Z (at_of X G c (x := "_law_cell_at") (st := s_law_cell_at) 13 13 rfl rfl)
  have C_law_mixed := ok_law_mixed (P := P) (base := base) Z (at_of X G c (x := "_law_mixed") (st := s_law_mixed) 14 14 rfl rfl)
  have C_law_source := ok_law_source (P := P) (base := base) Z (at_of X G c (x := "_law_source") (st := s_law_source) 15 15 rfl rfl) C_law_cell_at C_law_mixed
  have C_law_next := ok_law_next (P := P) (base := base) Z (at_of X G c (x := "_law_next") (st := s_law_next) 16 16 rfl rfl) C_law_mixed
  have C_law_one := ok_law_one (P := P) (base := base) Z (at_of X G c (x := "_law_one") (st := s_law_one) 17 17 rfl rfl) C_law_next
  have C_law_names := ok_law_names (P := P) (base := base) Z (at_of X G c (x := "_law_names") (st := s_law_names) 18 18 rfl rfl) C_law_next
  have C_law_set := ok_law_set (P := P) (base := base) Z (at_of X G c (x := "_law_set") (st := s_law_set) 19 19 rfl rfl) C_law_next
  have C_law_some_of := ok_law_some_of (P := P) (base := base) Z (at_of X G c (x := "_law_some_of") (st := s_law_some_of) 20 20 rfl rfl) C_law_next
  have C_law_set_rows := ok_law_set_rows (P := P) (base := base) Z (at_of X G c (x := "_law_set_rows") (st := s_law_set_rows) 21 21 rfl rfl) C_law_next C_law_one C_law_names C_law_set C_law_some_of
  have C_law_asks := ok_law_asks (P := P) (base := base) Z (at_of X G c (x := "_law_asks") (st := s_law_asks) 22 22 rfl rfl)
  have C_law_alone := ok_law_alone (P := P) (base := base) Z (at_of X G c (x := "_law_alone") (st := s_law_alone) 23 23 rfl rfl) C_law_asks
  have C_law_pairs_right := ok_law_pairs_right (P := P) (base := base) Z (at_of X G c (x := "_law_pairs_right") (st := s_law_pairs_right) 24 24 rfl rfl) C_law_asks
  have C_law_due := ok_law_due (P := P) (base := base) Z (at_of X G c (x := "_law_due") (st := s_law_due) 25 25 rfl rfl) C_law_asks C_law_alone 13
  have CT : MakesTree P w K mg base := makes_tree Z ini Cis_row
  have C_law_right := ok_law_right (P := P) (base := base) Z (at_of X G c (x := "_law_right") (st := s_law_right) 26 26 rfl rfl) CT C_law_next C_law_set C_law_set_rows C_law_due Csets Cstands_alone C_law_pairs_right
  exact ok_law Z F C_law_source C_law_right
end Bd
open PySem PySem.W PySem.Calls PyProof.Rows
theorem PySem.Challenge.cw_branchdues_k68_whole_sets_holds : PySem.Challenge.rw_branchdues_k68_whole_sets.Holds := by
  w_on; o_law
  refine HandSHeadRun.head_any (r := OpenLaw.row PySem.Challenge.rw_branchdues_k68_whole_sets) (q := view (OpenLaw.row PySem.Challenge.rw_branchdues_k68_whole_sets).prog [47]) (H := Bd.hk) (ob := Bd.ob) (M := 3000) (loose := Bd.loose) (d := HandSHeadRun.topDef (OpenLaw.row PySem.Challenge.rw_branchdues_k68_whole_sets).prog 47) (kwd := []) Bd.ob_eq
    (by kernel_rfl) (fun s => by kernel_rfl) Bd.run (by kernel_rfl) (by kernel_rfl) (by kernel_rfl) (by rfl) (by first | assumption | decide +kernel) (by decide +kernel) ⟨rfl, rfl, rfl, rfl, rfl, by decide +kernel⟩ ?hw ?hc
  case hw => w_witness2
  case hc =>
    refine L2.walk_ofE (l := PySem.Challenge.rw_branchdues_k68_whole_sets) (n := 63) (k := 18) (x := "_law_script") (CX := L2.CX0) rfl (by decide) (by kernel_rfl) ⟨rfl, by decide, by decide⟩ ?F (fun _ _ _ _ z => z)
    intro w mg fa h Y G hmg0
    obtain ⟨K, KX, c⟩ := Y
    have hmg : mg ("law" : PySem.Str) = some (.ref fa) := by
      have e : (HandSHeadRun.topDef (OpenLaw.row PySem.Challenge.rw_branchdues_k68_whole_sets).prog 47).name = ("law" : PySem.Str) := by kernel_rfl
      rw [← e]
      exact hmg0
    obtain ⟨fd, hb, hF⟩ := Bd.facts (P := (PySem.Challenge.rw_branchdues_k68_whole_sets).prog) (w := w) KX G hmg c
    exact ⟨K, fd, Bd.spLaw K, KX, hb, fun H a ns hl _ hS => ⟨a, ns, rfl, hS, fun _ => rfl⟩, hF⟩
