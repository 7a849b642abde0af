import PyProof.Rows.All
import Wide.All
import OpenK.AllK
import Wide.FinOn
import KE.KStateDown
import HandS.Base
import HandS.Call
import HandS.Ends
import HandS.More
import HandS.Words
import HandS.Defaults
import HandS.Head0
import HandS.Head1
import HandS.Head2
import HandS.HeadEnd
import HandS.HeadHook1
import HandS.HeadHook2
import HandS.HeadNt
import HandS.Property
import HandS.Codes
import HandS.IsInst
import HandS.Star
import PySem.Challenge.RW_rowclash_k14_whole_orders_and_verdicts
import PyProof.EqAt
import PyProof.EqKinds
import PyProof.TupleCall
import KE.KStar
import KE.KCallOwn
import KE.KOpsOwn
import HandS.ForMost
import HandS.SlotsOwn
import PyProof.Draws
import KE.GoesMore
import KE.DataMinMax
import KE.KSortTup
import HandS.Sort
import HandS.SortOrd
import HandS.SortRule
import HandS.SortInts
import HandS.Walk
import KE.GoesEnum
import KE.DatumOrd
import HandS.Flow
import HandS.TupAny
import HandS.SetKeys
import HandS.Deep
import HandS.WideMore
import HandS.DictComp
import HandS.Conv
import HandS.Style
set_option Elab.async false
set_option linter.all false
set_option maxRecDepth 100000
set_option maxHeartbeats 0
namespace Rc
open PySem PySem.Spec PyProof.Rows L2 He He5 C8
/-! ### the text by places -/
def top (i : Nat) : Stmt := PySem.Challenge.pw_rowclash_k14_whole_orders_and_verdicts.main.body.getD i (.Pass ⟨0, 0, 0, 0⟩)
abbrev s_is_integer : Stmt := top 14
abbrev s_is_key : Stmt := top 15
abbrev s_is_row : Stmt := top 16
abbrev s_checked_rows : Stmt := top 18
abbrev s_more_rows : Stmt := top 19
abbrev s_keys_of : Stmt := top 21
abbrev s_need_table : Stmt := top 22
abbrev s_is_order : Stmt := top 25
abbrev s_need_order : Stmt := top 26
abbrev s_waited : Stmt := top 28
abbrev s_path_of : Stmt := top 29
abbrev s_rings_of : Stmt := top 30
abbrev s_by_new : Stmt := top 31
abbrev s_groups_of : Stmt := top 32
abbrev s_waiting_for : Stmt := top 33
abbrev s_ready : Stmt := top 35
abbrev s_first_order : Stmt := top 36
abbrev s_verdict : Stmt := top 37
abbrev s_passes : Stmt := top 38
abbrev s_is_free_of : Stmt := top 39
abbrev s_is_pair : Stmt := top 40
abbrev s_is_ring : Stmt := top 41
abbrev s_shows_verdict : Stmt := top 42
abbrev s_factorial : Stmt := top 43
abbrev s_chains_of : Stmt := top 44
abbrev s_orders_of : Stmt := top 45
abbrev s_passing_orders : Stmt := top 46
abbrev s_holder_of : Stmt := top 50
abbrev s_law_cell_at : Stmt := top 56
abbrev s_law_pen : Stmt := top 57
abbrev s_law_draw : Stmt := top 58
abbrev s_law_pick : Stmt := top 59
abbrev s_law_mixed : Stmt := top 60
abbrev s_law_pairs : Stmt := top 61
abbrev s_law_order_right : Stmt := top 62
abbrev s_law_barred_right : Stmt := top 63
abbrev s_law : Stmt := top 64
abbrev s_Table_init : Stmt := inClass (top 20) 0
abbrev s_Table_rows : Stmt := inClass (top 20) 1
abbrev s_Table_getitem : Stmt := inClass (top 20) 2
abbrev s_Table_contains : Stmt := inClass (top 20) 4
abbrev s_Table_len : Stmt := inClass (top 20) 6
abbrev s_Table_add : Stmt := inClass (top 20) 9
abbrev s_Outcome_init : Stmt := inClass (top 48) 0
abbrev s_Outcome_stop : Stmt := inClass (top 48) 2
abbrev s_Rule_call : Stmt := inClass (top 51) 4
abbrev s_Undoes_settle : Stmt := inClass (top 53) 0
abbrev s_Stops_halts : Stmt := inClass (top 52) 0
/-- the getter of a property of a class of the module -/
def getter (K : PySem.W.Frag) (C m : Str) : Addr := match PySem.W.recIn K (ma K (ga K C) m) "property" with
  | some (.ref g :: _) => g
  | _ => 0
def d_is_integer : DefA := ⟨fun K => ga K "is_integer", "is_integer", "is_integer", defArgs s_is_integer, defBody s_is_integer, defScope s_is_integer, [], []⟩
def d_is_key : DefA := ⟨fun K => ga K "is_key", "is_key", "is_key", defArgs s_is_key, defBody s_is_key, defScope s_is_key, [], []⟩
def d_is_row : DefA := ⟨fun K => ga K "is_row", "is_row", "is_row", defArgs s_is_row, defBody s_is_row, defScope s_is_row, [], []⟩
def d_checked_rows : DefA := ⟨fun K => ga K "checked_rows", "checked_rows", "checked_rows", defArgs s_checked_rows, defBody s_checked_rows, defScope s_checked_rows, [], []⟩
def d_more_rows : DefA := ⟨fun K => ga K "more_rows", "more_rows", "more_rows", defArgs s_more_rows, defBody s_more_rows, defScope s_more_rows, [], []⟩
def d_keys_of : DefA := ⟨fun K => ga K "keys_of", "keys_of", "keys_of", defArgs s_keys_of, defBody s_keys_of, defScope s_keys_of, [], []⟩
def d_need_table : DefA := ⟨fun K => ga K "need_table", "need_table", "need_table", defArgs s_need_table, defBody s_need_table, defScope s_need_table, [], []⟩
def d_is_order : DefA := ⟨fun K => ga K "is_order", "is_order", "is_order", defArgs s_is_order, defBody s_is_order, defScope s_is_order, [], []⟩
def d_need_order : DefA := ⟨fun K => ga K "need_order", "need_order", "need_order", defArgs s_need_order, defBody s_need_order, defScope s_need_order, [], []⟩
def d_waited : DefA := ⟨fun K => ga K "waited", "waited", "waited", defArgs s_waited, defBody s_waited, defScope s_waited, [], []⟩
def d_path_of : DefA := ⟨fun K => ga K "path_of", "path_of", "path_of", defArgs s_path_of, defBody s_path_of, defScope s_path_of, [], []⟩
def d_rings_of : DefA := ⟨fun K => ga K "rings_of", "rings_of", "rings_of", defArgs s_rings_of, defBody s_rings_of, defScope s_rings_of, [], []⟩
def d_by_new : DefA := ⟨fun K => ga K "by_new", "by_new", "by_new", defArgs s_by_new, defBody s_by_new, defScope s_by_new, [], []⟩
def d_groups_of : DefA := ⟨fun K => ga K "groups_of", "groups_of", "groups_of", defArgs s_groups_of, defBody s_groups_of, defScope s_groups_of, [], []⟩
def d_waiting_for : DefA := ⟨fun K => ga K "waiting_for", "waiting_for", "waiting_for", defArgs s_waiting_for, defBody s_waiting_for, defScope s_waiting_for, [], []⟩
def d_ready : DefA := ⟨fun K => ga K "ready", "ready", "ready", defArgs s_ready, defBody s_ready, defScope s_ready, [], []⟩
def d_first_order : DefA := ⟨fun K => ga K "first_order", "first_order", "first_order", defArgs s_first_order, defBody s_first_order, defScope s_first_order, [], []⟩
def d_verdict : DefA := ⟨fun K => ga K "verdict", "verdict", "verdict", defArgs s_verdict, defBody s_verdict, defScope s_verdict, [], []⟩
def d_passes : DefA := ⟨fun K => ga K "passes", "passes", "passes", defArgs s_passes, defBody s_passes, defScope s_passes, [], []⟩
def d_is_free_of : DefA := ⟨fun K => ga K "is_free_of", "is_free_of", "is_free_of", defArgs s_is_free_of, defBody s_is_free_of, defScope s_is_free_of, [], []⟩
def d_is_pair : DefA := ⟨fun K => ga K "is_pair", "is_pair", "is_pair", defArgs s_is_pair, defBody s_is_pair, defScope s_is_pair, [], []⟩
def d_is_ring : DefA := ⟨fun K => ga K "is_ring", "is_ring", "is_ring", defArgs s_is_ring, defBody s_is_ring, defScope s_is_ring, [], []⟩
def d_shows_verdict : DefA := ⟨fun K => ga K "shows_verdict", "shows_verdict", "shows_verdict", defArgs s_shows_verdict, defBody s_shows_verdict, defScope s_shows_verdict, [], []⟩
def d_factorial : DefA := ⟨fun K => ga K "factorial", "factorial", "factorial", defArgs s_factorial, defBody s_factorial, defScope s_factorial, [], []⟩
def d_chains_of : DefA := ⟨fun K => ga K "chains_of", "chains_of", "chains_of", defArgs s_chains_of, defBody s_chains_of, defScope s_chains_of, [], []⟩
def d_orders_of : DefA := ⟨fun K => ga K "orders_of", "orders_of", "orders_of", defArgs s_orders_of, defBody s_orders_of, defScope s_orders_of, [], []⟩
def d_passing_orders : DefA := ⟨fun K => ga K "passing_orders", "passing_orders", "passing_orders", defArgs s_passing_orders, defBody s_passing_orders, defScope s_passing_orders, [], []⟩
def d_holder_of : DefA := ⟨fun K => ga K "holder_of", "holder_of", "holder_of", defArgs s_holder_of, defBody s_holder_of, defScope s_holder_of, [], []⟩
def d_law_cell_at : DefA := ⟨fun K => ga K "_law_cell_at", "_law_cell_at", "_law_cell_at", defArgs s_law_cell_at, defBody s_law_cell_at, defScope s_law_cell_at, [], []⟩
def d_law_pen : DefA := ⟨fun K => ga K "_law_pen", "_law_pen", "_law_pen", defArgs s_law_pen, defBody s_law_pen, defScope s_law_pen, [], []⟩
def d_law_draw : DefA := ⟨fun K => ga K "_law_draw", "_law_draw", "_law_draw", defArgs s_law_draw, defBody s_law_draw, defScope s_law_draw, [], []⟩
def d_law_pick : DefA := ⟨fun K => ga K "_law_pick", "_law_pick", "_law_pick", defArgs s_law_pick, defBody s_law_pick, defScope s_law_pick, [], []⟩
def d_law_mixed : DefA := ⟨fun K => ga K "_law_mixed", "_law_mixed", "_law_mixed", defArgs s_law_mixed, defBody s_law_mixed, defScope s_law_mixed, [], []⟩
def d_law_pairs : DefA := ⟨fun K => ga K "_law_pairs", "_law_pairs", "_law_pairs", defArgs s_law_pairs, defBody s_law_pairs, defScope s_law_pairs, [], []⟩
def d_law_order_right : DefA := ⟨fun K => ga K "_law_order_right", "_law_order_right", "_law_order_right", defArgs s_law_order_right, defBody s_law_order_right, defScope s_law_order_right, [], []⟩
def d_law_barred_right : DefA := ⟨fun K => ga K "_law_barred_right", "_law_barred_right", "_law_barred_right", defArgs s_law_barred_right, defBody s_law_barred_right, defScope s_law_barred_right, [], []⟩
def d_law : DefA := ⟨fun K => ga K "law", "law", "law", defArgs s_law, defBody s_law, defScope s_law, [], []⟩
def d_Table_init : DefA := ⟨fun K => ma K (ga K "Table") "__init__", "__init__", "Table.__init__", defArgs s_Table_init, defBody s_Table_init, defScope s_Table_init, [], []⟩
def d_Table_rows : DefA := ⟨fun K => getter K "Table" "rows", "rows", "Table.rows", defArgs s_Table_rows, defBody s_Table_rows, defScope s_Table_rows, [], []⟩
def d_Table_getitem : DefA := ⟨fun K => ma K (ga K "Table") "__getitem__", "__getitem__", "Table.__getitem__", defArgs s_Table_getitem, defBody s_Table_getitem, defScope s_Table_getitem, [], []⟩
def d_Table_contains : DefA := ⟨fun K => ma K (ga K "Table") "__contains__", "__contains__", "Table.__contains__", defArgs s_Table_contains, defBody s_Table_contains, defScope s_Table_contains, [], []⟩
def d_Table_len : DefA := ⟨fun K => ma K (ga K "Table") "__len__", "__len__", "Table.__len__", defArgs s_Table_len, defBody s_Table_len, defScope s_Table_len, [], []⟩
def d_Table_add : DefA := ⟨fun K => ma K (ga K "Table") "__add__", "__add__", "Table.__add__", defArgs s_Table_add, defBody s_Table_add, defScope s_Table_add, [], []⟩
def d_Outcome_init : DefA := ⟨fun K => ma K (ga K "Outcome") "__init__", "__init__", "Outcome.__init__", defArgs s_Outcome_init, defBody s_Outcome_init, defScope s_Outcome_init, [], []⟩
def d_Outcome_stop : DefA := ⟨fun K => getter K "Outcome" "stop", "stop", "Outcome.stop", defArgs s_Outcome_stop, defBody s_Outcome_stop, defScope s_Outcome_stop, [], []⟩
def d_Rule_call : DefA := ⟨fun K => ma K (ga K "Abort") "__call__", "__call__", "Rule.__call__", defArgs s_Rule_call, defBody s_Rule_call, defScope s_Rule_call, [], []⟩
def d_Undoes_settle : DefA := ⟨fun K => ma K (ga K "Abort") "settle", "settle", "Undoes.settle", defArgs s_Undoes_settle, defBody s_Undoes_settle, defScope s_Undoes_settle, [], []⟩
def d_Stops_halts : DefA := ⟨fun K => ma K (ga K "Abort") "halts", "halts", "Stops.halts", defArgs s_Stops_halts, defBody s_Stops_halts, defScope s_Stops_halts, [], []⟩
def fn_0 : List DefA := [d_is_integer, d_is_key, d_is_row, d_checked_rows, d_more_rows, d_keys_of, d_need_table, d_is_order, d_need_order, d_waited, d_path_of, d_rings_of, d_by_new, d_groups_of, d_waiting_for, d_ready, d_first_order, d_verdict]
def fn_1 : List DefA := [d_passes, d_is_free_of, d_is_pair, d_is_ring, d_shows_verdict, d_factorial, d_chains_of, d_orders_of, d_passing_orders, d_holder_of, d_law_cell_at, d_law_pen, d_law_draw, d_law_pick, d_law_mixed, d_law_pairs, d_law_order_right, d_law_barred_right]
def fn_2 : List DefA := [d_law, d_Table_init, d_Table_rows, d_Table_getitem, d_Table_contains, d_Table_len, d_Table_add, d_Outcome_init, d_Outcome_stop, d_Rule_call, d_Undoes_settle, d_Stops_halts]
def fn : List DefA := fn_0 ++ fn_1 ++ fn_2
/-- the name is a property of the class -/
def propB (K : PySem.W.Frag) (C m : Str) : Bool := eqO (PySem.W.findIn K (.ref (ga K C)) m) (some (some (.ref (ma K (ga K C) m)))) &&
  (eqO (PySem.W.specialIn K (.ref (ma K (ga K C) m)) "__get__") (some (some (.builtin "property.__get__"))) && (decide (PySem.W.takesIn K (.ref (ma K (ga K C) m)) = some true) &&
  (match PySem.W.recIn K (ma K (ga K C) m) "property" with
  | some (.ref _ :: _) => true
  | _ => false)))
theorem propB_ok {K : PySem.W.Frag} {C m : Str} (h : propB K C m = true) : PropOf K (ga K C) m (ma K (ga K C) m) (getter K C m) := by
  obtain ⟨h1, h⟩ := ba h
  obtain ⟨h2, h⟩ := ba h
  obtain ⟨h3, h4⟩ := ba h
  refine ⟨eqO_ok h1, eqO_ok h2, of_decide_eq_true h3, ?_⟩
  unfold getter
  cases e : PySem.W.recIn K (ma K (ga K C) m) "property" with
  | none =>
    rw [e] at h4
    cases h4
  | some l =>
    rw [e] at h4
    cases l with
    | nil => cases h4
    | cons v r =>
      cases v with
      | ref g => exact ⟨r, rfl⟩
      | _ => cases h4
/-- what isinstance asks of the class -/
def insB (K : PySem.W.Frag) (C : Str) : Bool := eqO (PySem.W.findIn K (.ref (ga K C)) "__class__") (some (some (.builtin "object.__class__"))) && (eqO (PySem.W.specialIn K (.builtin "object.__class__") "__get__") (some (some (.builtin "getset_descriptor.__get__"))) &&
  (decide (PySem.W.takesIn K (.builtin "object.__class__") = some true) && (decide (PySem.W.mroIn K (ga K C) (.type "object") = some true) && decide (PySem.W.kitOne K (.ref (ga K C)) (.ref (ga K C)) = some true))))
theorem insB_ok {K : PySem.W.Frag} {C : Str} (c : Cls K (ga K C)) (h : insB K C = true) : InsC K (ga K C) := by
  obtain ⟨h1, h⟩ := ba h
  obtain ⟨h2, h⟩ := ba h
  obtain ⟨h3, h⟩ := ba h
  obtain ⟨h4, h5⟩ := ba h
  exact ⟨c, eqO_ok h1, eqO_ok h2, of_decide_eq_true h3, of_decide_eq_true h4, of_decide_eq_true h5⟩
def fa_0 : List Fa := [.glo "is_integer", .glo "is_key", .glo "is_row", .glo "checked_rows", .glo "more_rows", .glo "keys_of", .glo "need_table", .glo "is_order", .glo "need_order", .glo "waited", .glo "path_of", .glo "rings_of", .glo "by_new", .glo "groups_of", .glo "waiting_for", .glo "ready", .glo "first_order", .glo "verdict"]
def fa_1 : List Fa := [.glo "passes", .glo "is_free_of", .glo "is_pair", .glo "is_ring", .glo "shows_verdict", .glo "factorial", .glo "chains_of", .glo "orders_of", .glo "passing_orders", .glo "holder_of", .glo "_law_cell_at", .glo "_law_pen", .glo "_law_draw", .glo "_law_pick", .glo "_law_mixed", .glo "_law_pairs", .glo "_law_order_right", .glo "_law_barred_right"]
def fa_2 : List Fa := [.glo "law", .glo "Table", .glo "Outcome", .glo "Abort", .keep "is_integer", .keep "is_key", .keep "is_row", .keep "checked_rows", .keep "more_rows", .keep "keys_of", .keep "need_table", .keep "is_order", .keep "need_order", .keep "waited", .keep "path_of", .keep "rings_of", .keep "by_new", .keep "groups_of"]
def fa_3 : List Fa := [.keep "waiting_for", .keep "ready", .keep "first_order", .keep "verdict", .keep "passes", .keep "is_free_of", .keep "is_pair", .keep "is_ring", .keep "shows_verdict", .keep "factorial", .keep "chains_of", .keep "orders_of", .keep "passing_orders", .keep "holder_of", .keep "_law_cell_at", .keep "_law_pen", .keep "_law_draw", .keep "_law_pick"]
def fa_4 : List Fa := [.keep "_law_mixed", .keep "_law_pairs", .keep "_law_order_right", .keep "_law_barred_right", .keep "law", .keep "Table", .keep "Outcome", .keep "Abort", .free "isinstance", .free "int", .free "bool", .free "tuple", .free "len", .free "all", .free "sorted", .free "list", .free "min", .free "max"]
def fa_5 : List Fa := [.free "enumerate", .free "range", .free "str", .int "MOST_ROWS" 40, .int "KEY_BOUND" 1000000000000000000000000000000, .cls "Table", .cls "Outcome", .cls "Abort", .noat "Table" "wants", .noat "Outcome" "triple", .mkr "Table", .mkr "Outcome", .meth "Abort" "settle", .meth "Abort" "halts", .meth "Table" "__getitem__", .meth "Table" "__contains__", .meth "Table" "__len__", .meth "Table" "__add__"]
def fa_6 : List Fa := [.meth "Abort" "__call__"]
def fa : List Fa := fa_0 ++ fa_1 ++ fa_2 ++ fa_3 ++ fa_4 ++ fa_5 ++ fa_6
/-- what else is asked of the written part -/
def ex : List (PySem.W.Frag → Bool) := [
  fun K => PySem.W.fnIn K (ma K (ga K "Table") "__getitem__"),
  fun K => PySem.W.noSeq K (ga K "Table"),
  fun K => PySem.W.selfFirst K (ga K "Table"),
  fun K => eqO (PySem.W.findIn K (.ref (ga K "Table")) "__radd__") (some none),
  fun K => PySem.W.fnIn K (ma K (ga K "Abort") "__call__"),
  fun K => PySem.W.makesIn K (ga K "Abort"),
  fun K => eqO (PySem.W.findIn K (.ref (ga K "Abort")) "__init__") (some (some (.builtin "object.__init__"))),
  fun K => propB K "Table" "rows",
  fun K => propB K "Outcome" "stop",
  fun K => insB K "Table",
  fun K => decide (PySem.W.kitOne K (.type "tuple") (.ref (ga K "Table")) = some false),
  fun K => decide (PySem.W.subIn K (.type "tuple") (.ref (ga K "Table")) = some false),
  fun K => (PySem.W.findIn K (.type "tuple") "__add__").isSome,
  fun K => (PySem.W.findIn K (.type "tuple") "__radd__").isSome]
/-! ### the Hook -/
def obsB (K : PySem.W.Frag) : He.AlD := ((fa.all fun f => f.ok K) && ((ex.all fun f => f K) && fn.all fun d => d.ok K), fn.map fun d => fnA K (d.at_ K))
def valB : He.AlD := (true, fn.map DefA.val)
def clsN : List Str := ["Table", "Outcome", "Abort", "Stops", "Undoes", "Rule"]
def as0 : List Addr := [mainGlobals]
def as1 (g : Addr → Option Obj) : List Addr := mainGlobals :: clsN.map (ga (frG g as0))
def nsOf (g : Addr → Option Obj) (C : Addr) : Addr := match g C with
  | some ⟨_, _, .cls cd, _⟩ => cd.ns
  | _ => 0
def as2 (g : Addr → Option Obj) : List Addr := as1 g ++ (as1 g).tail.map (nsOf g)
def metN : List (Str × Str) := [("Table", "__init__"), ("Table", "rows"), ("Table", "__getitem__"), ("Table", "__contains__"), ("Table", "__len__"), ("Table", "__add__"), ("Outcome", "__init__"), ("Outcome", "stop"), ("Abort", "__call__"), ("Abort", "settle"), ("Abort", "halts")]
def as3 (g : Addr → Option Obj) : List Addr := as2 g ++ metN.map fun p => ma (frG g (as2 g)) (ga (frG g as0) p.1) p.2
def gloN_0 : List Str := ["is_integer", "is_key", "is_row", "checked_rows", "more_rows", "keys_of", "need_table", "is_order", "need_order", "waited", "path_of", "rings_of", "by_new", "groups_of", "waiting_for", "ready", "first_order", "verdict"]
def gloN_1 : List Str := ["passes", "is_free_of", "is_pair", "is_ring", "shows_verdict", "factorial", "chains_of", "orders_of", "passing_orders", "holder_of", "_law_cell_at", "_law_pen", "_law_draw", "_law_pick", "_law_mixed", "_law_pairs", "_law_order_right", "_law_barred_right"]
def gloN_2 : List Str := ["law"]
def gloN : List Str := gloN_0 ++ gloN_1 ++ gloN_2
def as4 (g : Addr → Option Obj) : List Addr := [getter (frG g (as3 g)) "Table" "rows", getter (frG g (as3 g)) "Outcome" "stop"] ++ gloN.map (ga (frG g as0))
def codeA (g : Addr → Option Obj) (a : Addr) : Addr := match g a with
  | some ⟨_, _, .func fd, _⟩ => (match fd.code with
    | .ref c => c
    | _ => 0)
  | _ => 0
def as5 (g : Addr → Option Obj) : List Addr := as3 g ++ as4 g
def asB (g : Addr → Option Obj) : List Addr := as5 g ++ ((as3 g).drop 13 ++ as4 g).map (codeA g)
def obsBG (g : Addr → Option Obj) : He.AlD := obsB (frG g (asB g))
def hk : PySem.W.Hook where
  α := He.AlD
  obs := fun s => obsBG s.heap.get?
  val := fun _ => valB
  says := fun _ h => ∃ K : PySem.W.Frag, K.In h ∧ obsB K = valB
  of := fun _ _ e => ⟨_, frG_in, e⟩
  keeps := fun _ _ _ ⟨K, hK, c⟩ k => ⟨K, PySem.W.Frag.In.keeps hK k, c⟩
abbrev R : PySem.W.OpenRow := PySem.W.OpenLaw.row PySem.Challenge.rw_rowclash_k14_whole_orders_and_verdicts
def ob (s : PySem.W.SharedT) : He.AlD := obsBG (HandSHeadRun.getT s)
theorem ob_eq (s : PySem.W.SharedT) : ob s = hk.obs s.abs := by
  have e : HandSHeadRun.getT s = s.abs.heap.get? := funext (HandSHeadRun.getT_eq s)
  show obsBG (HandSHeadRun.getT s) = obsBG s.abs.heap.get?
  rw [e]
def loose0 : List PySem.Str := ["_wall", "RowError", "NotRow", "NotTable", "NotKey", "NotRows", "NotOrder", "Missing", "Twice", "TooMany", "MOST_ROWS", "KEY_BOUND", "is_integer", "is_key", "is_row", "is_ascending", "checked_rows", "more_rows", "Table", "keys_of", "need_table", "is_set", "need_rows", "is_order", "need_order", "waited", "path_of", "rings_of", "by_new", "groups_of"]
def loose1 : List PySem.Str := ["waiting_for", "ready", "first_order", "verdict", "passes", "is_free_of", "is_pair", "is_ring", "shows_verdict", "factorial", "chains_of", "orders_of", "passing_orders", "Outcome", "holder_of", "Rule", "Stops", "Undoes", "Abort", "_law_cell_at", "_law_pen", "_law_draw", "_law_pick", "_law_mixed", "_law_pairs", "_law_order_right", "_law_barred_right"]
def loose : List PySem.Str := loose0 ++ loose1
theorem run (w : World) : HandSHeadRun.RunEq R (PySem.W.view R.prog [64]) hk ob 20000 loose w := by
  intro os
  kernel_rfl
end Rc
set_option Elab.async false
set_option linter.all false
set_option maxRecDepth 100000
set_option maxHeartbeats 4000000
/-! Own rules: operators of an instance of an own class (in, not in, [], len, +), C(*xs), C() of object's __init__, calls by positional promises. -/
namespace Rc
open PySem PySem.Spec PyProof.Rows L2

section
open PySem.W
variable {prog : Program} {w : World} {A : Around} {E : Value → Shared → Prop} {s : Shared} {K : PySem.W.Frag} {x C f : Addr} {ox : Obj} {od : Option Obj}
/-- the type of the right operand, told by the heap -/
structure RightTup (M : Model) (h : Heap) (b : Value) : Prop where
  ty : PySem.W.Looks M h (typeOf b) (.type "tuple")
theorem add_tup {b : Value} {fo ro : Option Value} {Q : Value → Shared → Prop} (X : K.In s.heap) (I : PySem.W.InstAt s.heap x ox C od) (hb : RightTup (model prog w) s.heap b) (hc : PySem.W.selfFirst K C = true)
    (hs : PySem.W.findIn K (.ref C) "__add__" = some (some (.ref f))) (hf : PySem.W.isFn K (.ref f) = true) (hr : PySem.W.findIn K (.ref C) "__radd__" = some none)
    (h1 : PySem.W.findIn K (.type "tuple") "__add__" = some fo) (h2 : PySem.W.findIn K (.type "tuple") "__radd__" = some ro) (hsub : PySem.W.subIn K (.type "tuple") (.ref C) = some false)
    (h : wpAny (model prog w) A (call (.ref f) [.ref x, b]) (PySem.W.CmpBack Q) E s) : wpAny (model prog w) A (binaryOp .Add (.ref x) b) Q E s := by
  obtain ⟨cd, rest, hcd, hm⟩ := PySem.W.ksp_first hc
  have tried := PySem.W.ksp_try X I hs hf h
  obtain ⟨hh, g, d, tt, os⟩ := s
  have k1 : Looks (model prog w) hh (typeOf (.ref x)) (.ref C) := I.type
  have k2 : Looks (model prog w) hh (typeOf b) (.type "tuple") := hb.ty
  have k3 : Looks (model prog w) hh (fillsNumberSlot (.ref C) "add") true := fills_K X hcd hm hs
  have k4 : Looks (model prog w) hh (fillsNumberSlot (.type "tuple") "add") ((fo.isSome && !isSeqSlot fo) || (ro.isSome && !isSeqSlot ro)) := PySem.W.ksp_fillsT X h1 h2
  have k5 : Looks (model prog w) hh (isSubtype (.type "tuple") (.ref C)) false := PySem.W.looks_subIn X hsub
  have k6 : Looks (model prog w) hh (numberSlotInPython (.ref C) "add") true := PySem.W.ksp_inPy X hs hr (.inl rfl)
  have k7 : Looks (model prog w) hh (numberSlotInPython (.type "tuple") "add") false := Looks.of_pure rfl
  have k8 : Looks (model prog w) hh (typeLookup (.type "tuple") (dunderR "add")) ro := PySem.W.looks_findIn X h2
  generalize ((fo.isSome && !isSeqSlot fo) || (ro.isSome && !isSeqSlot ro)) = right at k4
  have hne : (Value.ref C == Value.type "tuple") = false := Bool.eq_false_iff.mpr fun q => nomatch beq_iff_eq.mp q
  have hi : Operator.info .Add = ("+", "add") := rfl
  simp only [binaryOp, hi]
  refine wpAny_holding (wpAny_bind ?_)
  unfold binaryOp1
  refine wpAny_bind (k1.at (wpAny_bind (k2.at (wpAny_bind (k3.at ?_)))))
  simp only [hne, Bool.false_eq_true, if_false]
  cases right
  all_goals
    ksp_lk
    refine wpAny_mono tried (fun r s' hr' => ?_) fun _ _ e => e
    obtain ⟨v, rfl, hq⟩ := hr'
    ksp_lk
    exact hq
end

section
variable {X : Cx} {k : Nat} {f C : Addr} {sp : Sp} {x m : Str} {p pos apos sp_ : Pos} {e o a b : Expr} {es : List Expr} {ta tb te : TE} {t : TA}
abbrev Ok (P : Program) (w : World) (K : PySem.W.Frag) (mg : Str → Option Value) (base : Heap) (k : Nat) (f : Addr) (sp : Sp) : Prop := FnR P w K mg base CX0 k f sp
/-- f(e, ..), f a def of the module -/
def tFn (sp : Sp) (t : TA) : TE := fun σ H Q => t σ H fun vs H1 => sp vs H1 Q E0
theorem pe_fn (F : FnR X.prog X.w X.K X.mg X.base CX0 k f sp) (hr : Room k X.A) (hm : X.mg x = some (.ref f) ∧ PySem.W.keepIn X.K (.ref f) = true) (ha : PA X (e :: es) t) (hg : Gl X x := by rfl) (hdb : (x == ("__debug__" : Str)) = false := by decide)
    (he : starEach (e :: es) X.env = (false, eval e X.env) :: starEach es X.env := by rfl) (hpl : (backTo pos (starEach es X.env)).any (·.1) = false := by rfl) : PE X (.Call (.Name x p) (e :: es) [] pos) (tFn sp t) := by
  refine ⟨fun pins s σ H Q I h => ?_⟩
  refine wpAny_Call_Name_kw (ld_glob I hg hm.1 ?_ hdb)
  refine PySem.W.callWith_K (h₀ := X.base) I.ok.mod.kin hm.2 (thn (ha.run pos pins s σ H _ I h) fun us s1 ⟨vs, H1, I1, r, q⟩ => ⟨I1.kIn, ?_⟩) he hpl
  exact wpAny_call (run_fnR F hr pass0 I1 r q)

/-- x in o, o an instance of C -/
def rOwnIn (C : Addr) (sp : Sp) (neg : Bool) : R2 := fun x y H Q => ∃ a dx fs, y = .ref a ∧ H a = some (.ins C dx fs) ∧ sp [.ref a, x] H (fun v H' => ∃ c : Bool, v = .bl c ∧ Q (.bl (if neg then !c else c)) H') E0
theorem op_ownIn (hs : PySem.W.findIn X.K (.ref C) "__contains__" = some (some (.ref f))) (hf : PySem.W.isFn X.K (.ref f) = true) (F : FnR X.prog X.w X.K X.mg X.base CX0 k f sp) (hr : Room k X.A) : OpR X (compareOp .In) (rOwnIn C sp false) := by
  intro pins s σ H x y v u Q I rx ry h
  obtain ⟨a, dx, fs, rfl, ha, q⟩ := h
  cases (show u = Value.ref a from ry)
  obtain ⟨mA, O, _⟩ := ins_get I.hok ha
  obtain ⟨od, J, _⟩ := O.look
  obtain ⟨m, hF⟩ := I.fr
  refine PySem.W.in_K hF I.ok.mod.kin J hs hf (thn (wpAny_call (run_fnR (us := [.ref a, v]) (vs := [.ref a, x]) F hr pass0 I (.cons rfl (.cons rx .nil)) q)) fun r s' z => ?_)
  obtain ⟨z', H', I', rz, c, rfl, qz⟩ := z
  cases (show r = Value.bool c from rz)
  exact wpAny_truthy_bool ⟨.bl c, H', I', rfl, qz⟩
theorem op_ownNotIn (hs : PySem.W.findIn X.K (.ref C) "__contains__" = some (some (.ref f))) (hf : PySem.W.isFn X.K (.ref f) = true) (F : FnR X.prog X.w X.K X.mg X.base CX0 k f sp) (hr : Room k X.A) : OpR X (compareOp .NotIn) (rOwnIn C sp true) := by
  intro pins s σ H x y v u Q I rx ry h
  obtain ⟨a, dx, fs, rfl, ha, q⟩ := h
  cases (show u = Value.ref a from ry)
  obtain ⟨mA, O, _⟩ := ins_get I.hok ha
  obtain ⟨od, J, _⟩ := O.look
  obtain ⟨m, hF⟩ := I.fr
  refine PySem.W.notIn_K hF I.ok.mod.kin J hs hf (thn (wpAny_call (run_fnR (us := [.ref a, v]) (vs := [.ref a, x]) F hr pass0 I (.cons rfl (.cons rx .nil)) q)) fun r s' z => ?_)
  obtain ⟨z', H', I', rz, c, rfl, qz⟩ := z
  cases (show r = Value.bool c from rz)
  exact wpAny_truthy_bool ⟨.bl (!c), H', I', rfl, qz⟩

/-- the index is a plain expression: the call of __getitem__ is the lifetime's -/
def OwnIx (b : Expr) : Prop := ∀ v u : Value, subscripted b true v u = runValue (.builtin "lifetime.subscript" ⟨[v, u], []⟩)
/-- o[i], o an instance of C -/
def rOwnIx (C : Addr) (sp : Sp) : R2 := fun x y H Q => ∃ a dx fs, x = .ref a ∧ H a = some (.ins C dx fs) ∧ sp [.ref a, y] H Q E0
theorem pe_ownIx (hs : PySem.W.findIn X.K (.ref C) "__getitem__" = some (some (.ref f))) (hf : PySem.W.fnIn X.K f = true) (hfn : PySem.W.isFn X.K (.ref f) = true) (F : FnR X.prog X.w X.K X.mg X.base CX0 k f sp) (hr : Room (k + 1) X.A)
    (ha : PE X a ta) (hb : PE X b tb) (hx : OwnIx b) : PE X (.Subscript a b pos) (tOp (rOwnIx C sp) ta tb) := by
  refine ⟨fun pins s σ H Q I h => ?_⟩
  refine Subscript_ (binT ha hb I h fun v u s2 x y H2 I2 rx ry q => ?_)
  obtain ⟨c, dx, fs, rfl, hc, q⟩ := q
  cases (show v = Value.ref c from rx)
  obtain ⟨mA, O, _⟩ := ins_get I2.hok hc
  obtain ⟨od, J, _⟩ := O.look
  obtain ⟨m, hF⟩ := I2.fr
  exact PySem.W.sub_K hF I2.ok.mod.kin J hs hf hfn (wpAny_call (SlX.run_at (us := [.ref c, u]) (ws := [.ref c, y]) F hr.in1 I2.env0.in1 pass0 I2 (.cons rfl (.cons ry .nil)) q)) (hx _ _)

/-- len(o), o an instance of C -/
def rOwnLen (C : Addr) (sp : Sp) : List V → Hp → VK → Prop := fun xs H Q => ∃ a dx fs, xs = [.ref a] ∧ H a = some (.ins C dx fs) ∧ sp [.ref a] H (fun v H' => ∃ n : Nat, v = .int n ∧ n ≤ 1000000 ∧ Q (.int n) H') E0
theorem call_ownLen (hs : PySem.W.findIn X.K (.ref C) "__len__" = some (some (.ref f))) (hf : PySem.W.isFn X.K (.ref f) = true) (F : FnR X.prog X.w X.K X.mg X.base CX0 k f sp) (hr : Room (k + 1) X.A) : CallR X (.builtin "len") (rOwnLen C sp) := by
  intro pins s σ H xs us Q I r h
  obtain ⟨a, dx, fs, rfl, ha, q⟩ := h
  obtain ⟨u, rfl, ru⟩ := vals1 r
  cases (show u = Value.ref a from ru)
  obtain ⟨mA, O, _⟩ := ins_get I.hok ha
  obtain ⟨od, J, _⟩ := O.look
  obtain ⟨m, hF⟩ := I.fr
  refine PySem.W.len_K hF I.ok.mod.kin J hs hf (thn (wpAny_call (SlX.run_at (us := [.ref a]) (ws := [.ref a]) F hr.in1 I.env0.in1 pass0 I (.cons rfl .nil) q)) fun r s' z => ?_)
  obtain ⟨z', H', I', rz, n, rfl, hn, qz⟩ := z
  obtain ⟨t, rfl⟩ := (show ∃ t, r = Value.int (n : Int) t from rz)
  refine ⟨⟨by omega, ?_⟩, .int n, H', I'.tok _, ⟨_, rfl⟩, qz⟩
  have : (2 : Int) ^ 63 = 9223372036854775808 := by decide
  omega

/-- o + t, o an instance of C, t a tuple -/
def rOwnAdd (C : Addr) (sp : Sp) : R2 := fun x y H Q => ∃ a dx fs b xs, x = .ref a ∧ y = .ref b ∧ H a = some (.ins C dx fs) ∧ H b = some (.tup xs) ∧ sp [.ref a, .ref b] H Q E0
theorem op_ownAdd {fo ro : Option Value} (hc : PySem.W.selfFirst X.K C = true) (hs : PySem.W.findIn X.K (.ref C) "__add__" = some (some (.ref f))) (hf : PySem.W.isFn X.K (.ref f) = true) (hrd : PySem.W.findIn X.K (.ref C) "__radd__" = some none)
    (h1 : PySem.W.findIn X.K (.type "tuple") "__add__" = some fo) (h2 : PySem.W.findIn X.K (.type "tuple") "__radd__" = some ro) (hsub : PySem.W.subIn X.K (.type "tuple") (.ref C) = some false)
    (F : FnR X.prog X.w X.K X.mg X.base CX0 k f sp) (hr : Room k X.A) : OpR X (binaryOp .Add) (rOwnAdd C sp) := by
  intro pins s σ H x y v u Q I rx ry h
  obtain ⟨a, dx, fs, b, xs, rfl, rfl, ha, hb, q⟩ := h
  cases (show v = Value.ref a from rx)
  cases (show u = Value.ref b from ry)
  obtain ⟨mA, O, _⟩ := ins_get I.hok ha
  obtain ⟨od, J, _⟩ := O.look
  obtain ⟨m, hF⟩ := I.fr
  obtain ⟨_, its, rv, o, ho, hcl, n, hd⟩ := (show ObjOk X.prog X.w H s.heap b (.tup xs) from I.hok b _ hb)
  refine add_tup I.kIn J ⟨fun A' Q' E' s' kp q' => wpAny_typeOf_ref (kp _ _ ho) (by rw [hcl]; exact q')⟩ hc hs hf hrd h1 h2 hsub (thn (wpAny_call (run_fnR (us := [.ref a, .ref b]) (vs := [.ref a, .ref b]) F hr pass0 I (.cons rfl (.cons rfl .nil)) q)) fun r s' z => ?_)
  obtain ⟨z', H', I', rz, qz⟩ := z
  exact SlX.cmpback rz ⟨z', H', I', rz, qz⟩
end
end Rc
set_option Elab.async false
set_option linter.all false
set_option maxRecDepth 100000
set_option maxHeartbeats 4000000
/-! Own rules: sorted of a list of tuples of ints of any lengths (some arrangement); sorted of a tuple of ints; enumerate of a tuple; min of a tuple of ints. -/
namespace Rc
open PySem PySem.Spec PyProof.Rows L2 Srt

section
variable {prog : Program} {w : World} {A : Around} {E : Value → Shared → Prop} {s : Shared}
/-- two runs of ints compare, somehow -/
theorem lex_ints (fin : Bool) : ∀ {us vs : List Value} {ns ms : List Int} (i : Nat), IntsAre us ns → IntsAre vs ms → ∃ b : Bool, PySem.W.KatLex prog w A true fin (fun r s' => s' = s ∧ r = b) (us.zip vs) i s
  | _, _, _, _, i, .nil, _ => ⟨fin, by rw [List.zip_nil_left]; exact PySem.W.kat_nil ⟨rfl, rfl⟩⟩
  | _, _, _, _, i, .cons _ _ _, .nil => ⟨fin, by rw [List.zip_nil_right]; exact PySem.W.kat_nil ⟨rfl, rfl⟩⟩
  | _, _, _, _, i, .cons n t r, .cons m u q => by
    by_cases e : n = m
    · obtain ⟨b, h⟩ := lex_ints fin (i + 1) r q
      refine ⟨b, ?_⟩
      rw [List.zip_cons_cons]
      refine PySem.W.kat_cons (SeqAt.EqAt.int_int n t m u prog w _ _ ?_)
      exact PySem.W.kat_go (fun _ => PySem.W.kat_yes h) (fun e1 => absurd e (by simpa using e1))
    · refine ⟨decide (n < m), ?_⟩
      rw [List.zip_cons_cons]
      refine PySem.W.kat_cons (SeqAt.EqAt.int_int n t m u prog w _ _ ?_)
      exact PySem.W.kat_go (fun e1 => absurd (by simpa using e1) e) (fun _ => PySem.W.kat_no (TS.oneLt_ints _ ⟨rfl, rfl⟩))
/-- v is a tuple of ints, one at least -/
def IsInts (h : Heap) (v : Value) : Prop := ∃ a o us ns n, v = .ref a ∧ h.get? a = some o ∧ o.cls = .type "tuple" ∧ o.data = .seq us.toArray n ∧ IntsAre us ns ∧ us ≠ []
theorem IsInts.keeps {h h' : Heap} {v : Value} (p : IsInts h v) (k : ∀ b o, h.get? b = some o → o.cls = .type "tuple" → h'.get? b = some o) : IsInts h' v := by
  obtain ⟨a, o, us, ns, n, e, ho, hc, r⟩ := p
  exact ⟨a, o, us, ns, n, e, k _ _ ho hc, hc, r⟩
theorem ints_total {vs : List Value} (hp : ∀ v ∈ vs, IsInts s.heap v) : Tot prog w A s (tuples' true) (fun p => p.1 ∈ vs) := by
  intro p q hm hm'
  obtain ⟨a, o, us, ns, n, e, ho, hc, hd, hi, _⟩ := hp _ hm
  obtain ⟨a', o', us', ns', n', e', ho', hc', hd', hi', _⟩ := hp _ hm'
  rw [e, e']
  obtain ⟨b, h⟩ := lex_ints (prog := prog) (w := w) (A := A) (s := s) (decide (us.toArray.size < us'.toArray.size)) 0 hi hi'
  exact ⟨b, PySem.W.kat_lt ho hd ho' hd' (by simpa using h)⟩
theorem ints_firsts {h : Heap} : ∀ {vs : List Value}, (∀ v ∈ vs, IsInts h v) → ∃ fs : List Value, PySem.W.KatTups h vs fs ∧ fs.length = vs.length ∧ ∀ f ∈ fs, ∃ x t, f = Value.int x t
  | [], _ => ⟨[], PySem.W.KatTups.nil, rfl, fun _ hm => nomatch hm⟩
  | v :: vs, hp => by
    obtain ⟨fs, h1, h2, h3⟩ := ints_firsts (vs := vs) fun y hy => hp y (List.mem_cons_of_mem _ hy)
    obtain ⟨a, o, us, ns, n, rfl, ho, hc, hd, hi, hne⟩ := hp v List.mem_cons_self
    cases hi with
    | nil => exact absurd rfl hne
    | cons m t r =>
      refine ⟨.int m t :: fs, PySem.W.KatTups.cons ho hc hd (by simp) h1, by simp [h2], fun f hf => ?_⟩
      rcases List.mem_cons.mp hf with e | hf
      · exact ⟨m, t, e⟩
      · exact h3 f hf
theorem ints_sortable {a : Addr} {vs : List Value} (h0 : 0 < vs.length) (hp : ∀ v ∈ vs, IsInts s.heap v) (ha : ∀ o, s.heap.get? a = some o → o.cls ≠ .type "tuple") : Sortable prog w A s a vs := by
  intro h' keep
  have hp' : ∀ v ∈ vs, IsInts h' v := fun v hm => (hp v hm).keeps fun b o e c => keep b o (fun z => ha o (z ▸ e) c) e
  obtain ⟨fs, h1, h2, h3⟩ := ints_firsts hp'
  refine ⟨tuples' true, fun Q E hq => PySem.W.kat_kind (T := .type "int") h1 (by omega) (fun f hm => ?_) (by rfl) ?_, ints_total hp'⟩
  · obtain ⟨x, t, rfl⟩ := h3 f hm
    exact PySem.W.Looks.now
  · rw [show (Value.type "int" != Value.type "tuple") = true by decide +kernel]
    exact hq
end
section
variable {X : Cx}
/-- sorted(xs), xs a list of tuples of ints, none of them empty: a new list of them in some order -/
def rSortIs (K : PySem.W.Frag) : List V → Hp → VK → Prop := fun vs H Q => ∃ a xs, vs = [V.ref a] ∧ SqL K H a xs ∧ (∀ x ∈ xs, ∃ (t : Addr) (ns : List Int), x = V.ref t ∧ H t = some (.tup (ns.map V.int)) ∧ ns ≠ []) ∧
  ∀ ys p, ys.Perm xs → H p = none → Q (.ref p) (upd H p (.lst ys))
theorem cr_sortIs : CallR X (.builtin "sorted") (rSortIs X.K) := by
  intro pins s σ H vs us Q I r h
  obtain ⟨a, xs, rfl, hs, hx, q⟩ := h
  obtain ⟨its, rv, hl, hz⟩ := I.list hs
  obtain ⟨u, rfl, ru⟩ := vals1 r
  obtain rfl : u = Value.ref a := ru
  obtain ⟨e1, e2⟩ := refs_back rv fun x m => by
    obtain ⟨t, _, e, _⟩ := hx x m
    exact ⟨t, e⟩
  have hi : ∀ v ∈ its, IsInts s.heap v := fun v hv => by
    obtain ⟨t, rfl⟩ := e2 v hv
    have hm : V.ref t ∈ xs := by rw [e1]; exact List.mem_map.mpr ⟨_, hv, rfl⟩
    obtain ⟨t', ns, e, ht, hne⟩ := hx _ hm
    cases e
    obtain ⟨_, its2, r2, o, ho, hc, n, hd⟩ := I.hok _ _ ht
    refine ⟨t, o, its2, ns, n, rfl, ho, hc, hd, r2.ints, fun z => hne ?_⟩
    have l := r2.length
    rw [z, List.length_map] at l
    exact List.eq_nil_of_length_eq_zero l
  refine Srt.sorted_any hl.isList (by rw [← rv.length]; exact hz) (fun h2 h₁ d ha k => ints_sortable (s := { s with heap := h₁ }) (by omega) (fun v hv => (hi v hv).keeps fun b o e _ => (k b o e).2) fun o e c => ?_) fun out hp => ?_
  · have e' : some o = some (seqObj "list" its.toArray 0) := e.symm.trans ha
    cases e'
    exact absurd (Value.type.inj c) (by decide)
  · have h3 : ∀ u ∈ out, ∃ a, u = Value.ref a := fun u hu => e2 u (hp.mem_iff.mp hu)
    obtain ⟨n, hn⟩ := PyProof.Rows.sortedAll_at s.heap its out.toArray
    refine ⟨.ref _, upd H (s.heap.objs.size + 1) (.lst (out.map backV)), I.laid (t' := s.toks) (fun _ _ => PyProof.Rows.sortedAll_old) (Nat.le_succ _) ⟨?_, out, n, vals_back h3, hn⟩, rfl, q _ _ ?_ (I.hok.fresh (Nat.le_succ _))⟩
    · rw [List.length_map, hp.length_eq, ← rv.length]
      exact hz
    · rw [e1]
      exact hp.map backV
end

/-! ### sorted of a tuple of ints -/
section
variable {prog : Program} {w : World} {A : Around} {E : Value → Shared → Prop} {s : Shared}
theorem sorted_tuple {l : Addr} {vs : List Value} {ns : List Int} {Q : Value → Shared → Prop} (hl : IsTup s.heap l vs.toArray) (hi : IntsAre vs ns) (hz : vs.length ≤ sizeLine)
    (h : ∀ (h1 h' : Heap) (d : Addr) (out : List Value) (ms : List Int), (∀ b o, s.heap.get? b = some o → h1.get? b = some o) → IntsAre out ms → ms.Perm ns → ms.Pairwise (· ≤ ·) → (∀ b o, h1.get? b = some o → h'.get? b = some o) → h1.objs.size ≤ d →
      (∃ n, h'.get? d = some (seqObj "list" out.toArray n)) → Q (.ref d) { s with heap := h' }) : wpAny (model prog w) A (call (.builtin "sorted") [.ref l]) Q E s := by
  obtain ⟨o, ho, hc, n, hd⟩ := hl
  refine Calls.call_function_entry kind_sorted plain_sorted entry_sorted (args_sorted1 _) ?_
  unfold Builtin.«sorted»
  refine wpAny_bind (m := checkCount "sorted" 1 1 _) (wpAny_pure ?_)
  refine wpAny_bind (wpAny_collect_seq l (.inr rfl) ho hc hd (fun h1 k1 => ?_) (by rw [List.size_toArray]; exact hz))
  refine wpAny_bind (wpAny_newList ?_ (by simpa using hz))
  have ev : vs.toArray.toList = vs := by simp
  rw [ev]
  have hL : (h1.push (seqObj "list" vs.toArray 0)).get? h1.objs.size = some (seqObj "list" vs.toArray 0) := Heap.get?_push_size _ rfl
  show wpAny _ _ _ _ _ { s with heap := h1.push (seqObj "list" vs.toArray 0) }
  refine wpAny_bind (wpAny_holding (wpAny_call_entry slot_list_sort ⟨_, hL, rfl⟩ entry_list_sort (SrtO.list_sort_ord SrtO.swo_int hL hz (fun h2 => SrtO.ints_sortable hi h2) fun out hs hb => ⟨_, rfl, ?_⟩) (args_list_sort _)))
  obtain ⟨q1, q2, q3⟩ := SrtO.ints_out hi hs hb
  refine wpAny_pure ⟨_, rfl, h h1 _ h1.objs.size out _ k1 q1 q2 q3 (fun b u e => ?_) (Nat.le_refl _) (PyProof.Rows.sortedHeap_at (vs := vs) (out := out.toArray) hL)⟩
  have hlt : b < h1.objs.size := Heap.lt_size e
  rw [PyProof.Rows.sortedHeap_old (Nat.ne_of_lt hlt) (Nat.lt_of_lt_of_le hlt (by rw [Heap.size_push]; exact Nat.le_succ _))]
  exact Heap.get?_push_of_some _ e
end
section
variable {X : Cx}
/-- sorted(t), t a tuple of ints -/
def rSortTI (K : PySem.W.Frag) : List V → Hp → VK → Prop := fun vs H Q => ∃ (a : Addr) (ns : List Int), vs = [V.ref a] ∧ SqT K H a (ns.map V.int) ∧
  ∀ (ms : List Int) (p : Addr), ms.Perm ns → ms.Pairwise (· ≤ ·) → H p = none → Q (.ref p) (upd H p (.lst (ms.map V.int)))
theorem cr_sortTI : CallR X (.builtin "sorted") (rSortTI X.K) := by
  intro pins s σ H vs us Q I r h
  obtain ⟨a, ns, rfl, hs, q⟩ := h
  obtain ⟨its, rv, hl, hz⟩ := I.tuple hs
  rw [Vals.ref1 r]
  refine sorted_tuple hl rv.ints (by rw [← rv.length]; exact hz) fun h1 h' d out ms k1 hi hp hs k2 hd ⟨n, hn⟩ => ?_
  have I1 : Inv X pins σ H { s with heap := h1 } := I.kept (t' := s.toks) k1
  have hlen : (ms.map V.int).length ≤ sizeLine := by
    rw [List.length_map, hp.length_eq]
    rw [List.length_map] at hz
    exact hz
  exact ⟨.ref d, upd H d (.lst (ms.map V.int)), I1.laid (t' := s.toks) k2 hd ⟨hlen, out, n, vals_of_ints hi, hn⟩, rfl, q ms d hp hs (I1.hok.fresh hd)⟩
end
end Rc
set_option Elab.async false
set_option linter.all false
set_option maxRecDepth 100000
set_option maxHeartbeats 4000000
/-! Own rules: enumerate of a tuple; min of a tuple of ints. -/
namespace Rc
open PySem PySem.W

/-! ### min of a tuple of ints -/
theorem minOf_least : ∀ (ns : List Int) (n : Int), (minOf n ns = n ∨ minOf n ns ∈ ns) ∧ minOf n ns ≤ n ∧ ∀ k ∈ ns, minOf n ns ≤ k
  | [], n => ⟨.inl rfl, Int.le_refl _, fun _ h => nomatch h⟩
  | m :: ns, n => by
    have e : minOf n (m :: ns) = minOf (if decide (m < n) = true then m else n) ns := rfl
    rw [e]
    by_cases c : m < n
    · rw [if_pos (decide_eq_true c)]
      obtain ⟨a, b, d⟩ := minOf_least ns m
      refine ⟨.inr ?_, by omega, fun k hk => ?_⟩
      · rcases a with a | a
        · rw [a]; exact List.mem_cons_self
        · exact List.mem_cons_of_mem _ a
      · rcases List.mem_cons.mp hk with z | z
        · rw [z]; exact b
        · exact d k z
    · rw [if_neg (by simpa using c)]
      obtain ⟨a, b, d⟩ := minOf_least ns n
      refine ⟨a.imp id (List.mem_cons_of_mem _), b, fun k hk => ?_⟩
      rcases List.mem_cons.mp hk with z | z
      · rw [z]; omega
      · exact d k z
end Rc
namespace Rc
open PySem PySem.Spec PyProof.Rows L2
theorem holds_ints (h : Heap) : ∀ {us : List Value} {ns : List Int}, IntsAre us ns → PySem.W.HoldAll h us ns
  | _, _, .nil => ⟨[], .nil⟩
  | _, _, .cons n t r => by
    obtain ⟨as, q⟩ := holds_ints h r
    exact ⟨[] ++ as, .cons (.int n t) q⟩
section
variable {X : Cx}
/-- min(t), t a tuple of ints, not empty -/
def rMinT (K : PySem.W.Frag) : List V → Hp → VK → Prop := fun vs H Q => ∃ (a : Addr) (ns : List Int), vs = [V.ref a] ∧ SqT K H a (ns.map V.int) ∧ 0 < ns.length ∧ ∀ m, m ∈ ns → (∀ k ∈ ns, m ≤ k) → Q (.int m) H
theorem cr_minT (hc : X.calm = true) (hu : X.A.units + 64 < cLine) : CallR X (.builtin "min") (rMinT X.K) := by
  intro pins s σ H vs us Q I r h
  obtain ⟨a, ns, rfl, hs, hne, q⟩ := h
  obtain ⟨its, rv, hl, _⟩ := I.tuple hs
  rw [Vals.ref1 r]
  match ns, hne, rv, q with
  | n :: ns, _, rv, q =>
    have hall : PySem.W.HoldAll s.heap its.toArray.toList (n :: ns) := by
      rw [show its.toArray.toList = its by simp]
      exact holds_ints _ rv.ints
    refine PySem.W.min_tuple_datum (I.ok.hd hc) hl hall ?_ fun i v h' tk _ hv k => ?_
    · have e : PySem.W.Datum.depth Int ≤ 1 := by decide
      omega
    · obtain ⟨bs, hr⟩ := hv
      obtain ⟨t, rfl⟩ : ∃ t, v = Value.int (PySem.W.minOf n ns) t := by
        have hr' : Reads h' v (.int (PySem.W.minOf n ns)) bs := hr
        cases hr' with
        | int i t => exact ⟨t, rfl⟩
      obtain ⟨x1, x2, x3⟩ := minOf_least ns n
      refine ⟨.int (PySem.W.minOf n ns), H, I.kept k, ⟨_, rfl⟩, q _ ?_ fun k hk => ?_⟩
      · rcases x1 with z | z
        · rw [z]; exact List.mem_cons_self
        · exact List.mem_cons_of_mem _ z
      · rcases List.mem_cons.mp hk with z | z
        · rw [z]; exact x2
        · exact x3 k z
end

/-! ### enumerate of a tuple -/
set_option maxHeartbeats 4000000 in
theorem enum_new1 {v : Value} {o : Obj} {H : Heap → Prop} (B : Begins v o H) :
    Meets (Builtin.«enumerate.__new__» ⟨[.type "enumerate", v], []⟩) (fun _ R s => H s.heap ∧
      R (.ok (.ret (.ref (s.heap.push o).objs.size))) { s with heap := (s.heap.push o).push { cls := .type "enumerate", data := .fields #[.none, .bool false, .ref s.heap.objs.size, rawInt 0, .none, .none] } }) :=
  .of_wp fun prog w A R s h => by
    obtain ⟨hp, g, d, tk, os⟩ := s
    obtain ⟨h1, h⟩ := h
    have hsub := sub_enumerate
    have begun : ∀ {A' : Around} {E : Value → Shared → Prop} {Q : Value → Shared → Prop}, Q (.ref hp.objs.size) ⟨hp.push o, g, d, tk, os⟩ → wpAny (model prog w) A' (pyIter v) Q E ⟨hp, g, d, tk, os⟩ :=
      fun q => B.iter prog w _ _ ⟨hp, g, d, tk, os⟩ _ h1 q
    wp_walk using begun
    refine wpAny_stack_any fun st => wpAny_pure ?_
    split
    · rename_i c _ _ _ _ _
      cases (c == Value.type "enumerate") <;> (wp_walk using begun; exact ⟨_, rfl, h⟩)
    · wp_walk using begun
      exact ⟨_, rfl, h⟩
section
variable {prog : Program} {w : World} {A : Around} {E : Value → Shared → Prop} {s : Shared}
theorem enum_made {t : Addr} {its : Array Value} {Q : Value → Shared → Prop} (hl : s.heap.IsTuple t its)
    (h : ∀ h', IsEnum h' (s.heap.objs.size + 1) s.heap.objs.size 0 .none → h'.IsTupleIter s.heap.objs.size t 0 → (∀ b o, s.heap.get? b = some o → h'.get? b = some o) → Q (.ref (s.heap.objs.size + 1)) { s with heap := h' }) :
    wpAny (model prog w) A (call (.type "enumerate") [.ref t]) Q E s := by
  refine callType_new F.called_enumerate (by decide) (F.typeCall_enumerate_1 _) (F.newCall_enumerate_1 _) (fun obj => F.args_object_init_2 obj _) F.entry_enumerate_new (enum_new1 (begins_tuple t its)) ⟨hl, ?_⟩
  have hz : (s.heap.push { cls := .type "tuple_iterator", data := .fields #[.ref t, .int 0 0] }).objs.size = s.heap.objs.size + 1 := Heap.size_push ..
  have he : IsEnum ((s.heap.push { cls := .type "tuple_iterator", data := .fields #[.ref t, .int 0 0] }).push { cls := .type "enumerate", data := .fields #[.none, .bool false, .ref s.heap.objs.size, rawInt 0, .none, .none] }) (s.heap.objs.size + 1) s.heap.objs.size 0 .none := by
    have q := Heap.get?_push_size (s.heap.push { cls := .type "tuple_iterator", data := .fields #[.ref t, .int 0 0] }) (o := { cls := .type "enumerate", data := .fields #[.none, .bool false, .ref s.heap.objs.size, rawInt 0, .none, .none] }) rfl
    rw [hz] at q
    exact q
  show _ ∧ _
  rw [hz]
  exact ⟨⟨_, he, rfl⟩, h _ he ⟨_, Heap.get?_push_of_some _ (Heap.get?_push_size _ rfl), rfl, rfl⟩ fun b o x => Heap.get?_push_of_some _ (Heap.get?_push_of_some _ x)⟩
end
/-- the tuple at a: its items, each in a new pair with its place -/
def Itet (K : PySem.W.Frag) (a : Addr) : It :=
  ⟨fun i H => ∃ (xs : List V) (x : V), SqT K H a xs ∧ xs[i]? = some x, fun i H v H' => ∃ T x, v = .ref T ∧ H T = none ∧ H' = upd H T (.tup [.int (i : Nat), x]) ∧ ∀ xs, SqT K H a xs → xs[i]? = some x, fun i H => ∃ xs : List V, SqT K H a xs ∧ xs.length = i⟩
theorem walk_enumT {K : PySem.W.Frag} {a : Addr} {xs : List V} : Walk (Itet K a) xs.length (fun H => SqT K H a xs) (YPair (fun i => some (.int (i : Nat))) (fun i => xs[i]?)) := by
  refine ⟨fun i _ hi q => ⟨xs, xs[i], q, by simp [hi]⟩, fun _ q => ⟨xs, q, rfl⟩, fun i H v H' _ q y => ?_⟩
  obtain ⟨T, x, h1, h2, h3, h4⟩ := y
  exact ⟨T, .int (i : Nat), x, h1, h2, h3, rfl, h4 xs q⟩
theorem turn_enumT {P : Program} {w : World} {K : PySem.W.Frag} {elts : List Expr} {kk : Nat} {tpos : Pos} (a e it : Addr) :
    Turn P w K (.Tuple elts kk tpos) (Itet K a) [e, it] e (fun i h => (∃ old, IsEnum h e it ((i : Nat) : Int) old) ∧ h.IsTupleIter it a i ∧ e ≠ it ∧ a ≠ it ∧ a ≠ e) where
  mem := by simp
  obj := fun i h st b hb => by
    obtain ⟨⟨old, he⟩, ⟨o, ho, _, hd⟩, _⟩ := st
    rcases (show b = e ∨ b = it by simpa using hb) with z | z
    · subst z
      exact ⟨_, he, fun v q => nomatch q⟩
    · subst z
      exact ⟨o, ho, fun v q => by rw [hd] at q; cases q⟩
  keep := fun i h h' st k => by
    obtain ⟨⟨old, he⟩, ht, r⟩ := st
    exact ⟨⟨old, k e (by simp) _ he⟩, ht.at fun o q => k it (by simp) o q, r⟩
  item := by
    intro X hP hw hK hc i pins s σ H E I hf st hg
    subst hP hw hK
    obtain ⟨⟨old, he⟩, hit, hne, hai, hae⟩ := st
    obtain ⟨xs, x, hq, hx⟩ := hg
    obtain ⟨its, rv, p, hz⟩ := I.tuple hq
    obtain ⟨u, hu, ru⟩ := rv.get hx
    have hel : e < s.heap.objs.size := Heap.lt_size he
    have hil : it < s.heap.objs.size := by
      obtain ⟨_, q, _⟩ := hit
      exact Heap.lt_size q
    have hlen : i < its.toArray.size := by
      have := (List.getElem?_eq_some_iff.mp hu).1
      simpa using this
    refine wpAny_pyNext_enum_itemD (Draws.tuple (prog := X.prog) (w := X.w) (A := X.A.in1) (show X.A.in1.handled = none from I.ok.hd hc) it a hai its.toArray) he ⟨hit, p⟩ hlen hne (fun z => ?_) fun y h' tk hy ho hst hT hsz hk => ?_
    · rcases (show e = it ∨ e = a by simpa using z) with q | q
      · exact hne q
      · exact hae q.symm
    · obtain rfl : y = u := by
        have e1 : its[i]? = some y := by simpa using hy
        rw [hu] at e1
        exact (Option.some.inj e1).symm
      refine ⟨_, rfl, wpAny_letOwnedTupleGo_enum (s := { s with heap := h', toks := tk + 1 }) ho fun h'' he' sb => ?_⟩
      have hT2 : h''.get? s.heap.objs.size = some { cls := .type "tuple", data := .seq #[.int i tk, y] } := (sb.2 _ (Nat.ne_of_gt hel)).trans hT
      have new : ObjOk X.prog X.w (upd H s.heap.objs.size (.tup [.int (i : Nat), x])) h'' s.heap.objs.size (.tup [.int (i : Nat), x]) :=
        ⟨by show 2 ≤ sizeLine; decide, [.int i tk, y], .cons ⟨_, rfl⟩ (.cons ru .nil), ⟨_, hT2, rfl, _, rfl⟩⟩
      have I1 : Inv X pins σ (upd H s.heap.objs.size (.tup [.int (i : Nat), x])) { s with heap := h'', toks := tk + 1 } :=
        I.turnedNew (ch := [e, it]) (fun b ob hb q => (sb.2 b (fun z => hb (by simp [z]))).trans (hk b ob (fun z => hb (by simp [z])) (fun z => hb (by simp [z])) q)) hf (Nat.le_refl _) new
      refine ⟨.ref s.heap.objs.size, _, I1, rfl, ⟨_, x, rfl, I.hok.fresh (Nat.le_refl _), rfl, fun ys hy => by rw [I.tuple_inj hy hq]; exact hx⟩, ⟨⟨y, ?_⟩, hst.1.at fun o q => (sb.2 it (Ne.symm hne)).trans q, hne, hai, hae⟩, fun b hb => ?_⟩
      · rw [show ((i + 1 : Nat) : Int) = (i : Int) + 1 by omega]
        exact he'
      · have hb' : b < s.heap.objs.size := by
          rcases (show b = e ∨ b = it by simpa using hb) with z | z
          · exact z ▸ hel
          · exact z ▸ hil
        rw [upd_ne (Nat.ne_of_lt hb')]
        exact (hf b hb).1
  done := by
    intro X hP hw hK hc i pins s σ H E I hf st hg
    subst hP hw hK
    obtain ⟨⟨old, he⟩, hit, hne, hai, hae⟩ := st
    obtain ⟨xs, hq, hx⟩ := hg
    obtain ⟨its, rv, p, hz⟩ := I.tuple hq
    have hlen : i = its.toArray.size := by
      have := rv.length
      simp only [List.size_toArray]
      omega
    obtain ⟨f0, f1, f2, f3, f4, f5⟩ := hf it (by simp)
    subst hlen
    exact wpAny_pyNext_enum_endD (Draws.tuple (prog := X.prog) (w := X.w) (A := X.A.in1) (show X.A.in1.handled = none from I.ok.hd hc) it a hai its.toArray) he ⟨hit, p⟩ fun h' eb => ⟨rfl, I.turned (t' := s.toks) (fun b o hb q => eb b o hb q) f0 f1 f3 f4 f5⟩
  self := fun A i s Q E st h => let ⟨⟨_, he⟩, _⟩ := st; wpAny_pyIter_enum he h
def iEnumT (K : PySem.W.Frag) (ta : TA) : TI := fun σ H R => ta σ H fun vs H1 => ∃ a xs, vs = [.ref a] ∧ SqT K H1 a xs ∧ R (Itet K a) H1
theorem pi_enumT {X : Cx} {e : Expr} {ta : TA} {p pos tpos : Pos} {elts : List Expr} {kk : Nat} (hg : Gl X "enumerate") (hm : X.mg "enumerate" = none) (ha : PA X [e] ta) (hs : starEach [e] X.env = [(false, eval e X.env)] := by rfl) :
    PI X (.Tuple elts kk tpos) (.Call (.Name "enumerate" p) [e] [] pos) (iEnumT X.K ta) := by
  refine ⟨fun pins s σ H R I h => ?_⟩
  refine Call_ (ld_blt I hg hm boot_enumerate (PyProof.Rows.callWith_type1 (thn (ha.run pos pins s σ H _ I h) fun us s1 ⟨vs, H1, I1, r1, q1⟩ => ?_) hs rfl))
  obtain ⟨a, xs, rfl, hq, q⟩ := q1
  obtain ⟨u, rfl, ru⟩ := vals1 r1
  cases (show u = Value.ref a from ru)
  obtain ⟨its, rv, tp, hz⟩ := I1.tuple hq
  have hal : a < s1.heap.objs.size := by
    obtain ⟨o, ho, _⟩ := tp
    exact Heap.lt_size ho
  refine enum_made tp fun h' he hit hk => wpAny_pyIter_enum he ?_
  have I2 : Inv X pins σ H1 { s1 with heap := h' } := I1.kept (t' := s1.toks) hk
  refine ⟨s1.heap.objs.size + 1, [s1.heap.objs.size + 1, s1.heap.objs.size], _, _, H1, rfl, I2, turn_enumT a (s1.heap.objs.size + 1) s1.heap.objs.size, ⟨⟨.none, he⟩, hit, Nat.succ_ne_self _, Nat.ne_of_lt hal, Nat.ne_of_lt (Nat.lt_succ_of_lt hal)⟩, fun b hb => ?_, q⟩
  have hle : s1.heap.objs.size ≤ b := by
    rcases (show b = s1.heap.objs.size + 1 ∨ b = s1.heap.objs.size by simpa using hb) with z | z
    · exact z ▸ Nat.le_succ _
    · exact Nat.le_of_eq z.symm
  exact I1.fpOk hle (I1.hok.fresh hle)
end Rc
set_option Elab.async false
set_option linter.all false
set_option maxRecDepth 100000
set_option maxHeartbeats 4000000
/-! Own rules: C(*xs); C() with object's __init__; o.m(e, ..) by positional promises; a property by positional promises; a def's promise by its body. -/
namespace Rc
open PySem PySem.Spec PyProof.Rows L2
section
variable {X : Cx} {k : Nat} {f C : Addr} {sp : Sp} {x m : Str} {p pos apos sp_ : Pos} {e o a b : Expr} {es : List Expr} {ta tb te : TE} {t : TA}
/-- C(*e) -/
def tMakeS (K : PySem.W.Frag) (C : Addr) (sp : Sp) (te : TE) : TE := fun σ H Q => te σ H fun y H1 => ∃ a xs, y = V.ref a ∧ (SqT K H1 a xs ∨ SqL K H1 a xs) ∧ ∀ x dx, H1 x = Option.none → H1 dx = Option.none → dx ≠ x →
  sp (V.ref x :: xs) (upd (upd H1 dx (.own x)) x (.ins C dx [])) (fun v H2 => v = .non ∧ Q (.ref x) H2) E0
theorem pe_makeS (M : Mk X.K C f) (F : FnR X.prog X.w X.K X.mg X.base CX0 k f sp) (hr : Room (k + 1) X.A) (hm : X.mg x = some (.ref C)) (he : PE X e te) (hg : Gl X x := by rfl) (hdb : (x == ("__debug__" : Str)) = false := by decide)
    (hst : starEach [.Starred e sp_] X.env = [(true, eval e X.env)] := by rfl) : PE X (.Call (.Name x p) [.Starred e sp_] [] pos) (tMakeS X.K C sp te) := by
  refine ⟨fun pins s σ H Q I h => ?_⟩
  refine wpAny_Call_Name_kw (ld_glob I hg hm ?_ hdb)
  refine PySem.W.callWith_S (h₀ := X.base) I.ok.mod.kin M.kp (thn (he.run pins s σ H _ I h) fun v s1 ⟨y, H1, I1, ry, a, xs, ey, hxs, q⟩ => ?_) hst
  subst ey
  obtain rfl : v = Value.ref a := ry
  exact StX.star_any I1 hxs fun us s2 I2 rv => ⟨I2.kIn, StX.run_makeR M F hr pass0 I2 rv q⟩
/-- C(), __init__ a def of the text that is told by positional promises -/
def tMakeR0 (C : Addr) (sp : Sp) : TE := fun σ H Q => ∀ x dx, H x = Option.none → H dx = Option.none → dx ≠ x → sp [V.ref x] (upd (upd H dx (.own x)) x (.ins C dx [])) (fun v H2 => v = .non ∧ Q (.ref x) H2) E0
theorem pe_makeR0 (M : Mk X.K C f) (F : FnR X.prog X.w X.K X.mg X.base CX0 k f sp) (hr : Room (k + 1) X.A) (hm : X.mg x = some (.ref C)) (hg : Gl X x := by rfl) (hdb : (x == ("__debug__" : Str)) = false := by decide) : PE X (.Call (.Name x p) [] [] pos) (tMakeR0 C sp) := by
  refine ⟨fun pins s σ H Q I h => ?_⟩
  refine wpAny_Call_Name_kw (ld_glob I hg hm ?_ hdb)
  exact PySem.W.callWith_K0 I.kIn M.kp (StX.run_makeR (us := []) M F hr pass0 I .nil h)
/-- C(e, ..) -/
theorem pe_makeRn (M : Mk X.K C f) (F : FnR X.prog X.w X.K X.mg X.base CX0 k f sp) (hr : Room (k + 1) X.A) (hm : X.mg x = some (.ref C)) (ha : PA X (e :: es) t) (hg : Gl X x := by rfl) (hdb : (x == ("__debug__" : Str)) = false := by decide)
    (he : starEach (e :: es) X.env = (false, eval e X.env) :: starEach es X.env := by rfl) (hpl : (backTo pos (starEach es X.env)).any (·.1) = false := by rfl) : PE X (.Call (.Name x p) (e :: es) [] pos) (StX.tMakeR C sp E0 t) :=
  StX.pe_makeR M F hr hg hm pass0 ha hdb he hpl
/-- C() where object's __init__ stands -/
structure Mk0 (K : PySem.W.Frag) (C : Addr) : Prop where
  makes : PySem.W.makesIn K C = true
  init : PySem.W.findIn K (.ref C) "__init__" = some (some (.builtin "object.__init__"))
  kp : PySem.W.keepIn K (.ref C) = true
def tMake0 (C : Addr) : TE := fun σ H Q => ∀ x dx, H x = Option.none → H dx = Option.none → dx ≠ x → Q (.ref x) (upd (upd H dx (.own x)) x (.ins C dx []))
theorem pe_new0 (M : Mk0 X.K C) (hm : X.mg x = some (.ref C)) (hg : Gl X x := by rfl) (hdb : (x == ("__debug__" : Str)) = false := by decide) : PE X (.Call (.Name x p) [] [] pos) (tMake0 C) := by
  refine ⟨fun pins s σ H Q I h => ?_⟩
  refine wpAny_Call_Name_kw (ld_glob I hg hm ?_ hdb)
  refine PySem.W.callWith_K0 I.kIn M.kp (wpAny_call (make_map0 I.kIn M.makes M.init (fun self => PySem.W.Looks.of_pure (PySem.W.oi_bind self)) ?_))
  have hq := h (s.heap.objs.size + 1) s.heap.objs.size (I.hok.fresh (Nat.le_succ _)) (I.hok.fresh (Nat.le_refl _)) (Nat.ne_of_lt (Nat.lt_succ_self _))
  have I2 := Inv.made (C := C) I
  obtain ⟨mA, O, _⟩ := ins_get I2.hok upd_same
  obtain ⟨od, J, _⟩ := O.look
  have Y := PySem.W.makes_of (M := model X.prog X.w) I2.kIn M.makes
  have t2 : PySem.W.Looks (model X.prog X.w) ((s.heap.push PySem.W.emptyDict).push (PySem.W.instObj C s.heap.objs.size)) (isInstance (.ref (s.heap.objs.size + 1)) (.type "object")) true := J.type.andThen Y.top
  refine codeAny_call_builtin PySem.W.oi_plain PySem.W.entry_oi (@PySem.W.check_slot (model X.prog X.w) _ _ _ "object.__init__" "object" "__init__" (.ref (s.heap.objs.size + 1)) [] [] _ PySem.W.oi_kind PySem.W.oi_split t2 (PySem.W.oi_args (.ref (s.heap.objs.size + 1))) ?_)
  rw [PySem.W.oi_run]
  exact wpAny_pure (And.intro rfl (show EP X pins σ Q _ _ from ⟨.ref (s.heap.objs.size + 1), _, I2, rfl, hq⟩))
/-- o.m(e, ..) -/
def tMethR (C : Addr) (m : Str) (sp : Sp) (ta : TE) (t : TA) : TE := fun σ H Q => ta σ H fun x H1 => ∃ a dx fs, x = .ref a ∧ H1 a = some (.ins C dx fs) ∧ fs.lookup m = none ∧ t σ H1 fun vs H2 => sp (.ref a :: vs) H2 Q E0
theorem pe_methR {pl : Sem Bool} (he : PE X o ta) (c : Cls X.K C) (hm : Meth X.K C m f) (F : FnR X.prog X.w X.K X.mg X.base CX0 k f sp) (hr : Room k X.A) (ha : PA X (e :: es) t)
    (hst : starEach (e :: es) X.env = (false, eval e X.env) :: starEach es X.env := by rfl) (hpl : (backTo pos (starEach es X.env)).any (·.1) = false := by rfl)
    (ht : eval (.Call (.Attribute o m apos) (e :: es) [] pos) X.env = (do
      let ov ← eval o X.env
      standAt apos.atName
      let (g, first) ← holding [ov] (getMethod ov m pl)
      callWith pos g first (backTo pos (starEach (e :: es) X.env)) (backToKw pos (keywordEach [] X.env))) := by rfl) :
    PE X (.Call (.Attribute o m apos) (e :: es) [] pos) (tMethR C m sp ta t) := by
  refine ⟨fun pins s σ H Q I h => ?_⟩
  refine PySem.W.methodCall_KW (pl := pl) (thn (he.run pins s σ H _ I h) fun u s1 ⟨x, H1, I1, rx, a, dx, fs, ex, ea, l, q⟩ => ?_) ht
  subst ex
  obtain rfl : u = Value.ref a := rx
  refine getmeth_ok I1 ea c hm l (PySem.W.callWith_K (first := [.ref a]) (h₀ := X.base) I.ok.mod.kin hm.kp (thn (ha.run pos pins s1 σ H1 _ I1 q) fun us s2 ⟨vs, H2, I2, r, q2⟩ => ⟨I2.kIn, ?_⟩) hst hpl)
  exact wpAny_call (run_fnR (us := .ref a :: us) (vs := .ref a :: vs) F hr pass0 I2 (.cons rfl r) q2)
/-- o.m() -/
def tMethR0 (C : Addr) (m : Str) (sp : Sp) (ta : TE) : TE := fun σ H Q => ta σ H fun x H1 => ∃ a dx fs, x = .ref a ∧ H1 a = some (.ins C dx fs) ∧ fs.lookup m = none ∧ sp [.ref a] H1 Q E0
theorem pe_methR0 {pl : Sem Bool} (he : PE X o ta) (c : Cls X.K C) (hm : Meth X.K C m f) (F : FnR X.prog X.w X.K X.mg X.base CX0 k f sp) (hr : Room k X.A)
    (ht : eval (.Call (.Attribute o m apos) [] [] pos) X.env = (do
      let ov ← eval o X.env
      standAt apos.atName
      let (g, first) ← holding [ov] (getMethod ov m pl)
      callWith pos g first (backTo pos (starEach [] X.env)) (backToKw pos (keywordEach [] X.env))) := by rfl) :
    PE X (.Call (.Attribute o m apos) [] [] pos) (tMethR0 C m sp ta) := by
  refine ⟨fun pins s σ H Q I h => ?_⟩
  refine PySem.W.methodCall_KW (pl := pl) (thn (he.run pins s σ H _ I h) fun u s1 ⟨x, H1, I1, rx, a, dx, fs, ex, ea, l, q⟩ => ?_) ht
  subst ex
  obtain rfl : u = Value.ref a := rx
  exact getmeth_ok I1 ea c hm l (PySem.W.callWith_K0 (first := [.ref a]) I1.kIn hm.kp (wpAny_call (run_fnR (us := [.ref a]) (vs := [.ref a]) F hr pass0 I1 (.cons rfl .nil) q)))
end
section
variable {X : Cx} {k : Nat} {g p C : Addr} {sp : Sp} {f : Str} {pos : Pos} {e : Expr} {ta : TE}
/-- e.f, a property told by positional promises -/
def tPropR (C : Addr) (sp : Sp) (ta : TE) : TE := fun σ H Q => ta σ H fun x H1 => ∃ a dx fs, x = .ref a ∧ H1 a = some (.ins C dx fs) ∧ sp [.ref a] H1 Q E0
theorem pe_propR (he : PE X e ta) (c : Cls X.K C) (hp : PropOf X.K C f p g) (F : FnR X.prog X.w X.K X.mg X.base CX0 k g sp) (hr : Room (k + 1) X.A) (hab : attributeBase e f X.env (eval e X.env) = eval e X.env := by rfl) : PE X (.Attribute e f pos) (tPropR C sp ta) := by
  refine ⟨fun pins s σ H Q I h => ?_⟩
  refine attr_of hab (thn (he.run pins s σ H _ I h) fun u s1 ⟨x, H1, I0, rx, a, dx, fs, ex, ea, q⟩ => ?_)
  subst ex
  obtain rfl : u = Value.ref a := rx
  obtain ⟨mA, O, _⟩ := ins_get I0.hok ea
  obtain ⟨od, J, _⟩ := O.look
  obtain ⟨rest, hrec⟩ := hp.rec_
  have I1 := I0.tok (s1.toks + 1)
  have hc : (PySem.W.clsIn X.K C).isSome = true := by
    obtain ⟨cd, hc, _⟩ := PySem.W.any_some c.hd
    rw [hc]
    rfl
  refine PySem.W.get_bind I0.kIn J (PySem.W.plainGet_of (c.get f)).1 (PySem.W.findObj_data hc hp.at_ hp.get hp.tak) (PySem.W.plainGet_of (c.get f)).2 (wpAny_call (PySem.W.prop_get (s := { s1 with toks := s1.toks + 1 }) I0.kIn hrec ?_))
  refine codeAny_mono (F X.A.in1 X.stack { s1 with toks := s1.toks + 1 } H1 [.ref a] [.ref a] Q E0 hr.in1 I1.env0.in1 (.cons rfl .nil) q) fun r s' hq => ?_
  cases r with
  | error er => exact False.elim hq
  | ok fl =>
    cases fl with
    | ret u =>
      obtain ⟨v, H', I3, rv, q3⟩ := I1.after hq
      show wpAny _ _ (handedOut u) _ _ _
      rw [PySem.W.handedOut_of (handed_of rv)]
      exact wpAny_pure ⟨v, H', I3, rv, q3⟩
    | next => exact False.elim hq
    | brk => exact False.elim hq
    | cont => exact False.elim hq
end
section
variable {P : Program} {w : World} {K : PySem.W.Frag} {mg : Str → Option Value} {base : Heap}
/-- a def's promise, by its body -/
theorem ok_of {x qual : Str} {st : Stmt} {f : Addr} {fd : FuncData} {N ps : List Str} {k : Nat} {sp : Sp} (F : Fun K x qual st f fd) (S : FnScope N ps (defScope st)) (b : Binds K fd ps []) (len : ∀ vs H Q E, sp vs H Q E → vs.length = ps.length)
    (hbody : ∀ (cdv : Value) (A : Around) (outer : List Env) (s : Shared) (H : Hp) (vs : List V) (Q : VK) (E : XK), Room k (A.deeper (envOfC qual (defScope st) s.heap.objs.size f cdv)) → sp vs H Q E →
      ∃ t, PSs (cxOf CX0 P w K mg base N qual (defScope st) f cdv A outer s H E).nox (defBody st) t ∧ t { nx := fun _ H' => Q .non H', rt := Q } (start N vs) H) : FnR P w K mg base CX0 (k + 1) f sp := by
  have G : FnOk P w K mg base CX0 (k + 1) f fd ps sp := F.ok S len hbody
  exact (G.raw b .nil).imp fun vs H Q E h => by rw [List.append_nil]; exact h
end
end Rc
set_option Elab.async false
set_option linter.all false
set_option maxRecDepth 100000
set_option maxHeartbeats 4000000
/-! What the written part tells, by names. -/
namespace Rc
open PySem PySem.Spec PyProof.Rows L2 He He5 C8
/-- the written part of the row and the module's names -/
structure Txt (K : PySem.W.Frag) (mg : Str → Option Value) : Prop where
  X : ∃ h : Heap, K.In h ∧ h.Ns mainGlobals mg
  c : obsB K = valB
section
variable {K : PySem.W.Frag} {mg : Str → Option Value}
theorem Txt.fact (T : Txt K mg) (i : Nat) {f : Fa} (h : fa[i]? = some f := by rfl) : f.ok K = true :=
  List.all_eq_true.mp (ba (show ((fa.all fun f => f.ok K) && ((ex.all fun f => f K) && fn.all fun d => d.ok K)) = true from congrArg (fun z : He.AlD => z.1) T.c)).1 f (List.mem_of_getElem? h)
theorem Txt.more (T : Txt K mg) (i : Nat) {f : PySem.W.Frag → Bool} (h : ex[i]? = some f := by rfl) : f K = true :=
  List.all_eq_true.mp (ba (ba (show ((fa.all fun f => f.ok K) && ((ex.all fun f => f K) && fn.all fun d => d.ok K)) = true from congrArg (fun z : He.AlD => z.1) T.c)).2).1 f (List.mem_of_getElem? h)
theorem Txt.def_ (T : Txt K mg) (i : Nat) {d : DefA} (h : fn[i]? = some d := by rfl) : ∃ fd, FunD K d.name d.qual d.params d.body d.scope (d.dvs K) (d.kws K) (d.at_ K) fd := by
  have c2 := (ba (ba (show ((fa.all fun f => f.ok K) && ((ex.all fun f => f K) && fn.all fun d => d.ok K)) = true from congrArg (fun z : He.AlD => z.1) T.c)).2).2
  have e : fn.map (fun d => fnA K (d.at_ K)) = fn.map DefA.val := congrArg (fun z : He.AlD => z.2) T.c
  have e2 : (fn.map fun d => fnA K (d.at_ K))[i]? = (fn.map DefA.val)[i]? := by rw [e]
  rw [List.getElem?_map, List.getElem?_map, h] at e2
  exact DefA.funD (Option.some.inj e2) (List.all_eq_true.mp c2 d (List.mem_of_getElem? h))
theorem Txt.glo (T : Txt K mg) {x : Str} (h : (Fa.glo x).ok K = true) : mg x = some (.ref (ga K x)) := by
  obtain ⟨hh, X, G⟩ := T.X
  exact glo_ok X G h
theorem Txt.free (T : Txt K mg) {x : Str} (h : (Fa.free x).ok K = true) : mg x = none := by
  obtain ⟨hh, X, G⟩ := T.X
  exact free_ok X G h
theorem Txt.int (T : Txt K mg) {x : Str} {i : Int} (h : (Fa.int x i).ok K = true) : ∃ t, mg x = some (.int i t) := by
  obtain ⟨hh, X, G⟩ := T.X
  exact int_ok X G h

theorem Txt.g_is_integer (T : Txt K mg) : mg "is_integer" = some (.ref (ga K "is_integer")) ∧ PySem.W.keepIn K (.ref (ga K "is_integer")) = true := ⟨T.glo (T.fact 0 (f := .glo "is_integer") rfl), keep_ok (T.fact 40 (f := .keep "is_integer") rfl)⟩
theorem Txt.g_is_key (T : Txt K mg) : mg "is_key" = some (.ref (ga K "is_key")) ∧ PySem.W.keepIn K (.ref (ga K "is_key")) = true := ⟨T.glo (T.fact 1 (f := .glo "is_key") rfl), keep_ok (T.fact 41 (f := .keep "is_key") rfl)⟩
theorem Txt.g_is_row (T : Txt K mg) : mg "is_row" = some (.ref (ga K "is_row")) ∧ PySem.W.keepIn K (.ref (ga K "is_row")) = true := ⟨T.glo (T.fact 2 (f := .glo "is_row") rfl), keep_ok (T.fact 42 (f := .keep "is_row") rfl)⟩
theorem Txt.g_checked_rows (T : Txt K mg) : mg "checked_rows" = some (.ref (ga K "checked_rows")) ∧ PySem.W.keepIn K (.ref (ga K "checked_rows")) = true := ⟨T.glo (T.fact 3 (f := .glo "checked_rows") rfl), keep_ok (T.fact 43 (f := .keep "checked_rows") rfl)⟩
theorem Txt.g_more_rows (T : Txt K mg) : mg "more_rows" = some (.ref (ga K "more_rows")) ∧ PySem.W.keepIn K (.ref (ga K "more_rows")) = true := ⟨T.glo (T.fact 4 (f := .glo "more_rows") rfl), keep_ok (T.fact 44 (f := .keep "more_rows") rfl)⟩
theorem Txt.g_keys_of (T : Txt K mg) : mg "keys_of" = some (.ref (ga K "keys_of")) ∧ PySem.W.keepIn K (.ref (ga K "keys_of")) = true := ⟨T.glo (T.fact 5 (f := .glo "keys_of") rfl), keep_ok (T.fact 45 (f := .keep "keys_of") rfl)⟩
theorem Txt.g_need_table (T : Txt K mg) : mg "need_table" = some (.ref (ga K "need_table")) ∧ PySem.W.keepIn K (.ref (ga K "need_table")) = true := ⟨T.glo (T.fact 6 (f := .glo "need_table") rfl), keep_ok (T.fact 46 (f := .keep "need_table") rfl)⟩
theorem Txt.g_is_order (T : Txt K mg) : mg "is_order" = some (.ref (ga K "is_order")) ∧ PySem.W.keepIn K (.ref (ga K "is_order")) = true := ⟨T.glo (T.fact 7 (f := .glo "is_order") rfl), keep_ok (T.fact 47 (f := .keep "is_order") rfl)⟩
theorem Txt.g_need_order (T : Txt K mg) : mg "need_order" = some (.ref (ga K "need_order")) ∧ PySem.W.keepIn K (.ref (ga K "need_order")) = true := ⟨T.glo (T.fact 8 (f := .glo "need_order") rfl), keep_ok (T.fact 48 (f := .keep "need_order") rfl)⟩
theorem Txt.g_waited (T : Txt K mg) : mg "waited" = some (.ref (ga K "waited")) ∧ PySem.W.keepIn K (.ref (ga K "waited")) = true := ⟨T.glo (T.fact 9 (f := .glo "waited") rfl), keep_ok (T.fact 49 (f := .keep "waited") rfl)⟩
theorem Txt.g_path_of (T : Txt K mg) : mg "path_of" = some (.ref (ga K "path_of")) ∧ PySem.W.keepIn K (.ref (ga K "path_of")) = true := ⟨T.glo (T.fact 10 (f := .glo "path_of") rfl), keep_ok (T.fact 50 (f := .keep "path_of") rfl)⟩
theorem Txt.g_rings_of (T : Txt K mg) : mg "rings_of" = some (.ref (ga K "rings_of")) ∧ PySem.W.keepIn K (.ref (ga K "rings_of")) = true := ⟨T.glo (T.fact 11 (f := .glo "rings_of") rfl), keep_ok (T.fact 51 (f := .keep "rings_of") rfl)⟩
theorem Txt.g_by_new (T : Txt K mg) : mg "by_new" = some (.ref (ga K "by_new")) ∧ PySem.W.keepIn K (.ref (ga K "by_new")) = true := ⟨T.glo (T.fact 12 (f := .glo "by_new") rfl), keep_ok (T.fact 52 (f := .keep "by_new") rfl)⟩
theorem Txt.g_groups_of (T : Txt K mg) : mg "groups_of" = some (.ref (ga K "groups_of")) ∧ PySem.W.keepIn K (.ref (ga K "groups_of")) = true := ⟨T.glo (T.fact 13 (f := .glo "groups_of") rfl), keep_ok (T.fact 53 (f := .keep "groups_of") rfl)⟩
theorem Txt.g_waiting_for (T : Txt K mg) : mg "waiting_for" = some (.ref (ga K "waiting_for")) ∧ PySem.W.keepIn K (.ref (ga K "waiting_for")) = true := ⟨T.glo (T.fact 14 (f := .glo "waiting_for") rfl), keep_ok (T.fact 54 (f := .keep "waiting_for") rfl)⟩
theorem Txt.g_ready (T : Txt K mg) : mg "ready" = some (.ref (ga K "ready")) ∧ PySem.W.keepIn K (.ref (ga K "ready")) = true := ⟨T.glo (T.fact 15 (f := .glo "ready") rfl), keep_ok (T.fact 55 (f := .keep "ready") rfl)⟩
theorem Txt.g_first_order (T : Txt K mg) : mg "first_order" = some (.ref (ga K "first_order")) ∧ PySem.W.keepIn K (.ref (ga K "first_order")) = true := ⟨T.glo (T.fact 16 (f := .glo "first_order") rfl), keep_ok (T.fact 56 (f := .keep "first_order") rfl)⟩
theorem Txt.g_verdict (T : Txt K mg) : mg "verdict" = some (.ref (ga K "verdict")) ∧ PySem.W.keepIn K (.ref (ga K "verdict")) = true := ⟨T.glo (T.fact 17 (f := .glo "verdict") rfl), keep_ok (T.fact 57 (f := .keep "verdict") rfl)⟩
theorem Txt.g_passes (T : Txt K mg) : mg "passes" = some (.ref (ga K "passes")) ∧ PySem.W.keepIn K (.ref (ga K "passes")) = true := ⟨T.glo (T.fact 18 (f := .glo "passes") rfl), keep_ok (T.fact 58 (f := .keep "passes") rfl)⟩
theorem Txt.g_is_free_of (T : Txt K mg) : mg "is_free_of" = some (.ref (ga K "is_free_of")) ∧ PySem.W.keepIn K (.ref (ga K "is_free_of")) = true := ⟨T.glo (T.fact 19 (f := .glo "is_free_of") rfl), keep_ok (T.fact 59 (f := .keep "is_free_of") rfl)⟩
theorem Txt.g_is_pair (T : Txt K mg) : mg "is_pair" = some (.ref (ga K "is_pair")) ∧ PySem.W.keepIn K (.ref (ga K "is_pair")) = true := ⟨T.glo (T.fact 20 (f := .glo "is_pair") rfl), keep_ok (T.fact 60 (f := .keep "is_pair") rfl)⟩
theorem Txt.g_is_ring (T : Txt K mg) : mg "is_ring" = some (.ref (ga K "is_ring")) ∧ PySem.W.keepIn K (.ref (ga K "is_ring")) = true := ⟨T.glo (T.fact 21 (f := .glo "is_ring") rfl), keep_ok (T.fact 61 (f := .keep "is_ring") rfl)⟩
theorem Txt.g_shows_verdict (T : Txt K mg) : mg "shows_verdict" = some (.ref (ga K "shows_verdict")) ∧ PySem.W.keepIn K (.ref (ga K "shows_verdict")) = true := ⟨T.glo (T.fact 22 (f := .glo "shows_verdict") rfl), keep_ok (T.fact 62 (f := .keep "shows_verdict") rfl)⟩
theorem Txt.g_factorial (T : Txt K mg) : mg "factorial" = some (.ref (ga K "factorial")) ∧ PySem.W.keepIn K (.ref (ga K "factorial")) = true := ⟨T.glo (T.fact 23 (f := .glo "factorial") rfl), keep_ok (T.fact 63 (f := .keep "factorial") rfl)⟩
theorem Txt.g_chains_of (T : Txt K mg) : mg "chains_of" = some (.ref (ga K "chains_of")) ∧ PySem.W.keepIn K (.ref (ga K "chains_of")) = true := ⟨T.glo (T.fact 24 (f := .glo "chains_of") rfl), keep_ok (T.fact 64 (f := .keep "chains_of") rfl)⟩
theorem Txt.g_orders_of (T : Txt K mg) : mg "orders_of" = some (.ref (ga K "orders_of")) ∧ PySem.W.keepIn K (.ref (ga K "orders_of")) = true := ⟨T.glo (T.fact 25 (f := .glo "orders_of") rfl), keep_ok (T.fact 65 (f := .keep "orders_of") rfl)⟩
theorem Txt.g_passing_orders (T : Txt K mg) : mg "passing_orders" = some (.ref (ga K "passing_orders")) ∧ PySem.W.keepIn K (.ref (ga K "passing_orders")) = true := ⟨T.glo (T.fact 26 (f := .glo "passing_orders") rfl), keep_ok (T.fact 66 (f := .keep "passing_orders") rfl)⟩
theorem Txt.g_holder_of (T : Txt K mg) : mg "holder_of" = some (.ref (ga K "holder_of")) ∧ PySem.W.keepIn K (.ref (ga K "holder_of")) = true := ⟨T.glo (T.fact 27 (f := .glo "holder_of") rfl), keep_ok (T.fact 67 (f := .keep "holder_of") rfl)⟩
theorem Txt.g_law_cell_at (T : Txt K mg) : mg "_law_cell_at" = some (.ref (ga K "_law_cell_at")) ∧ PySem.W.keepIn K (.ref (ga K "_law_cell_at")) = true := ⟨T.glo (T.fact 28 (f := .glo "_law_cell_at") rfl), keep_ok (T.fact 68 (f := .keep "_law_cell_at") rfl)⟩
theorem Txt.g_law_pen (T : Txt K mg) : mg "_law_pen" = some (.ref (ga K "_law_pen")) ∧ PySem.W.keepIn K (.ref (ga K "_law_pen")) = true := ⟨T.glo (T.fact 29 (f := .glo "_law_pen") rfl), keep_ok (T.fact 69 (f := .keep "_law_pen") rfl)⟩
theorem Txt.g_law_draw (T : Txt K mg) : mg "_law_draw" = some (.ref (ga K "_law_draw")) ∧ PySem.W.keepIn K (.ref (ga K "_law_draw")) = true := ⟨T.glo (T.fact 30 (f := .glo "_law_draw") rfl), keep_ok (T.fact 70 (f := .keep "_law_draw") rfl)⟩
theorem Txt.g_law_pick (T : Txt K mg) : mg "_law_pick" = some (.ref (ga K "_law_pick")) ∧ PySem.W.keepIn K (.ref (ga K "_law_pick")) = true := ⟨T.glo (T.fact 31 (f := .glo "_law_pick") rfl), keep_ok (T.fact 71 (f := .keep "_law_pick") rfl)⟩
theorem Txt.g_law_mixed (T : Txt K mg) : mg "_law_mixed" = some (.ref (ga K "_law_mixed")) ∧ PySem.W.keepIn K (.ref (ga K "_law_mixed")) = true := ⟨T.glo (T.fact 32 (f := .glo "_law_mixed") rfl), keep_ok (T.fact 72 (f := .keep "_law_mixed") rfl)⟩
theorem Txt.g_law_pairs (T : Txt K mg) : mg "_law_pairs" = some (.ref (ga K "_law_pairs")) ∧ PySem.W.keepIn K (.ref (ga K "_law_pairs")) = true := ⟨T.glo (T.fact 33 (f := .glo "_law_pairs") rfl), keep_ok (T.fact 73 (f := .keep "_law_pairs") rfl)⟩
theorem Txt.g_law_order_right (T : Txt K mg) : mg "_law_order_right" = some (.ref (ga K "_law_order_right")) ∧ PySem.W.keepIn K (.ref (ga K "_law_order_right")) = true := ⟨T.glo (T.fact 34 (f := .glo "_law_order_right") rfl), keep_ok (T.fact 74 (f := .keep "_law_order_right") rfl)⟩
theorem Txt.g_law_barred_right (T : Txt K mg) : mg "_law_barred_right" = some (.ref (ga K "_law_barred_right")) ∧ PySem.W.keepIn K (.ref (ga K "_law_barred_right")) = true := ⟨T.glo (T.fact 35 (f := .glo "_law_barred_right") rfl), keep_ok (T.fact 75 (f := .keep "_law_barred_right") rfl)⟩
theorem Txt.g_law (T : Txt K mg) : mg "law" = some (.ref (ga K "law")) ∧ PySem.W.keepIn K (.ref (ga K "law")) = true := ⟨T.glo (T.fact 36 (f := .glo "law") rfl), keep_ok (T.fact 76 (f := .keep "law") rfl)⟩
theorem Txt.g_Table (T : Txt K mg) : mg "Table" = some (.ref (ga K "Table")) ∧ PySem.W.keepIn K (.ref (ga K "Table")) = true := ⟨T.glo (T.fact 37 (f := .glo "Table") rfl), keep_ok (T.fact 77 (f := .keep "Table") rfl)⟩
theorem Txt.g_Outcome (T : Txt K mg) : mg "Outcome" = some (.ref (ga K "Outcome")) ∧ PySem.W.keepIn K (.ref (ga K "Outcome")) = true := ⟨T.glo (T.fact 38 (f := .glo "Outcome") rfl), keep_ok (T.fact 78 (f := .keep "Outcome") rfl)⟩
theorem Txt.g_Abort (T : Txt K mg) : mg "Abort" = some (.ref (ga K "Abort")) ∧ PySem.W.keepIn K (.ref (ga K "Abort")) = true := ⟨T.glo (T.fact 39 (f := .glo "Abort") rfl), keep_ok (T.fact 79 (f := .keep "Abort") rfl)⟩
theorem Txt.b_isinstance (T : Txt K mg) : mg "isinstance" = none := T.free (T.fact 80 (f := .free "isinstance") rfl)
theorem Txt.b_int (T : Txt K mg) : mg "int" = none := T.free (T.fact 81 (f := .free "int") rfl)
theorem Txt.b_bool (T : Txt K mg) : mg "bool" = none := T.free (T.fact 82 (f := .free "bool") rfl)
theorem Txt.b_tuple (T : Txt K mg) : mg "tuple" = none := T.free (T.fact 83 (f := .free "tuple") rfl)
theorem Txt.b_len (T : Txt K mg) : mg "len" = none := T.free (T.fact 84 (f := .free "len") rfl)
theorem Txt.b_all (T : Txt K mg) : mg "all" = none := T.free (T.fact 85 (f := .free "all") rfl)
theorem Txt.b_sorted (T : Txt K mg) : mg "sorted" = none := T.free (T.fact 86 (f := .free "sorted") rfl)
theorem Txt.b_list (T : Txt K mg) : mg "list" = none := T.free (T.fact 87 (f := .free "list") rfl)
theorem Txt.b_min (T : Txt K mg) : mg "min" = none := T.free (T.fact 88 (f := .free "min") rfl)
theorem Txt.b_max (T : Txt K mg) : mg "max" = none := T.free (T.fact 89 (f := .free "max") rfl)
theorem Txt.b_enumerate (T : Txt K mg) : mg "enumerate" = none := T.free (T.fact 90 (f := .free "enumerate") rfl)
theorem Txt.b_range (T : Txt K mg) : mg "range" = none := T.free (T.fact 91 (f := .free "range") rfl)
theorem Txt.b_str (T : Txt K mg) : mg "str" = none := T.free (T.fact 92 (f := .free "str") rfl)
theorem Txt.i_most (T : Txt K mg) : ∃ t, mg "MOST_ROWS" = some (.int 40 t) := T.int (T.fact 93 (f := .int "MOST_ROWS" 40) rfl)
theorem Txt.i_bound (T : Txt K mg) : ∃ t, mg "KEY_BOUND" = some (.int 1000000000000000000000000000000 t) := T.int (T.fact 94 (f := .int "KEY_BOUND" 1000000000000000000000000000000) rfl)
theorem Txt.cl_Table (T : Txt K mg) : Cls K (ga K "Table") := cls_ok (T.fact 95 (f := .cls "Table") rfl)
theorem Txt.cl_Outcome (T : Txt K mg) : Cls K (ga K "Outcome") := cls_ok (T.fact 96 (f := .cls "Outcome") rfl)
theorem Txt.cl_Abort (T : Txt K mg) : Cls K (ga K "Abort") := cls_ok (T.fact 97 (f := .cls "Abort") rfl)
theorem Txt.no_wants (T : Txt K mg) : NoAttr K (ga K "Table") "wants" := noat_ok (T.fact 98 (f := .noat "Table" "wants") rfl)
theorem Txt.no_triple (T : Txt K mg) : NoAttr K (ga K "Outcome") "triple" := noat_ok (T.fact 99 (f := .noat "Outcome" "triple") rfl)
theorem Txt.mk_Table (T : Txt K mg) : Mk K (ga K "Table") (ma K (ga K "Table") "__init__") := mkr_ok (T.fact 100 (f := .mkr "Table") rfl)
theorem Txt.mk_Outcome (T : Txt K mg) : Mk K (ga K "Outcome") (ma K (ga K "Outcome") "__init__") := mkr_ok (T.fact 101 (f := .mkr "Outcome") rfl)
theorem Txt.m_settle (T : Txt K mg) : Meth K (ga K "Abort") "settle" (ma K (ga K "Abort") "settle") := meth_ok (T.fact 102 (f := .meth "Abort" "settle") rfl)
theorem Txt.m_halts (T : Txt K mg) : Meth K (ga K "Abort") "halts" (ma K (ga K "Abort") "halts") := meth_ok (T.fact 103 (f := .meth "Abort" "halts") rfl)
theorem Txt.m_getitem (T : Txt K mg) : Meth K (ga K "Table") "__getitem__" (ma K (ga K "Table") "__getitem__") := meth_ok (T.fact 104 (f := .meth "Table" "__getitem__") rfl)
theorem Txt.m_contains (T : Txt K mg) : Meth K (ga K "Table") "__contains__" (ma K (ga K "Table") "__contains__") := meth_ok (T.fact 105 (f := .meth "Table" "__contains__") rfl)
theorem Txt.m_len (T : Txt K mg) : Meth K (ga K "Table") "__len__" (ma K (ga K "Table") "__len__") := meth_ok (T.fact 106 (f := .meth "Table" "__len__") rfl)
theorem Txt.m_add (T : Txt K mg) : Meth K (ga K "Table") "__add__" (ma K (ga K "Table") "__add__") := meth_ok (T.fact 107 (f := .meth "Table" "__add__") rfl)
theorem Txt.m_call (T : Txt K mg) : Meth K (ga K "Abort") "__call__" (ma K (ga K "Abort") "__call__") := meth_ok (T.fact 108 (f := .meth "Abort" "__call__") rfl)
theorem Txt.fn_getitem (T : Txt K mg) : PySem.W.fnIn K (ma K (ga K "Table") "__getitem__") = true := T.more 0 rfl
theorem Txt.noseq (T : Txt K mg) : PySem.W.noSeq K (ga K "Table") = true := T.more 1 rfl
theorem Txt.first (T : Txt K mg) : PySem.W.selfFirst K (ga K "Table") = true := T.more 2 rfl
theorem Txt.noradd (T : Txt K mg) : PySem.W.findIn K (.ref (ga K "Table")) "__radd__" = some none := eqO_ok (T.more 3 (f := fun K => eqO (PySem.W.findIn K (.ref (ga K "Table")) "__radd__") (some none)) rfl)
theorem Txt.callo (T : Txt K mg) : StX.CallO K (ga K "Abort") (ma K (ga K "Abort") "__call__") := ⟨T.m_call.at_, T.m_call.fn, T.more 4 rfl⟩
theorem Txt.mk_Abort (T : Txt K mg) : Mk0 K (ga K "Abort") := ⟨T.more 5 rfl, eqO_ok (T.more 6 (f := fun K => eqO (PySem.W.findIn K (.ref (ga K "Abort")) "__init__") (some (some (.builtin "object.__init__")))) rfl), T.g_Abort.2⟩
theorem Txt.p_rows (T : Txt K mg) : PropOf K (ga K "Table") "rows" (ma K (ga K "Table") "rows") (getter K "Table" "rows") := propB_ok (T.more 7 (f := fun K => propB K "Table" "rows") rfl)
theorem Txt.p_stop (T : Txt K mg) : PropOf K (ga K "Outcome") "stop" (ma K (ga K "Outcome") "stop") (getter K "Outcome" "stop") := propB_ok (T.more 8 (f := fun K => propB K "Outcome" "stop") rfl)
theorem Txt.ins (T : Txt K mg) : InsC K (ga K "Table") := insB_ok T.cl_Table (T.more 9 (f := fun K => insB K "Table") rfl)
theorem Txt.tup_no (T : Txt K mg) : PySem.W.kitOne K (.type "tuple") (.ref (ga K "Table")) = some false := of_decide_eq_true (T.more 10 (f := fun K => decide (PySem.W.kitOne K (.type "tuple") (.ref (ga K "Table")) = some false)) rfl)
theorem Txt.tup_sub (T : Txt K mg) : PySem.W.subIn K (.type "tuple") (.ref (ga K "Table")) = some false := of_decide_eq_true (T.more 11 (f := fun K => decide (PySem.W.subIn K (.type "tuple") (.ref (ga K "Table")) = some false)) rfl)
theorem Txt.tup_add (T : Txt K mg) : ∃ fo, PySem.W.findIn K (.type "tuple") "__add__" = some fo := Option.isSome_iff_exists.mp (T.more 12 rfl)
theorem Txt.tup_radd (T : Txt K mg) : ∃ fo, PySem.W.findIn K (.type "tuple") "__radd__" = some fo := Option.isSome_iff_exists.mp (T.more 13 rfl)
theorem Txt.f_is_integer (T : Txt K mg) : ∃ fd, L2.Fun K "is_integer" "is_integer" s_is_integer (d_is_integer.at_ K) fd := by
  obtain ⟨fd, h⟩ := T.def_ 0 (d := d_is_integer) rfl
  exact ⟨fd, fun_of (show FunD K "is_integer" "is_integer" (defArgs s_is_integer) (defBody s_is_integer) (defScope s_is_integer) [] [] (d_is_integer.at_ K) fd from h)⟩
theorem Txt.f_is_key (T : Txt K mg) : ∃ fd, L2.Fun K "is_key" "is_key" s_is_key (d_is_key.at_ K) fd := by
  obtain ⟨fd, h⟩ := T.def_ 1 (d := d_is_key) rfl
  exact ⟨fd, fun_of (show FunD K "is_key" "is_key" (defArgs s_is_key) (defBody s_is_key) (defScope s_is_key) [] [] (d_is_key.at_ K) fd from h)⟩
theorem Txt.f_is_row (T : Txt K mg) : ∃ fd, L2.Fun K "is_row" "is_row" s_is_row (d_is_row.at_ K) fd := by
  obtain ⟨fd, h⟩ := T.def_ 2 (d := d_is_row) rfl
  exact ⟨fd, fun_of (show FunD K "is_row" "is_row" (defArgs s_is_row) (defBody s_is_row) (defScope s_is_row) [] [] (d_is_row.at_ K) fd from h)⟩
theorem Txt.f_checked_rows (T : Txt K mg) : ∃ fd, L2.Fun K "checked_rows" "checked_rows" s_checked_rows (d_checked_rows.at_ K) fd := by
  obtain ⟨fd, h⟩ := T.def_ 3 (d := d_checked_rows) rfl
  exact ⟨fd, fun_of (show FunD K "checked_rows" "checked_rows" (defArgs s_checked_rows) (defBody s_checked_rows) (defScope s_checked_rows) [] [] (d_checked_rows.at_ K) fd from h)⟩
theorem Txt.f_more_rows (T : Txt K mg) : ∃ fd, L2.Fun K "more_rows" "more_rows" s_more_rows (d_more_rows.at_ K) fd := by
  obtain ⟨fd, h⟩ := T.def_ 4 (d := d_more_rows) rfl
  exact ⟨fd, fun_of (show FunD K "more_rows" "more_rows" (defArgs s_more_rows) (defBody s_more_rows) (defScope s_more_rows) [] [] (d_more_rows.at_ K) fd from h)⟩
theorem Txt.f_keys_of (T : Txt K mg) : ∃ fd, L2.Fun K "keys_of" "keys_of" s_keys_of (d_keys_of.at_ K) fd := by
  obtain ⟨fd, h⟩ := T.def_ 5 (d := d_keys_of) rfl
  exact ⟨fd, fun_of (show FunD K "keys_of" "keys_of" (defArgs s_keys_of) (defBody s_keys_of) (defScope s_keys_of) [] [] (d_keys_of.at_ K) fd from h)⟩
theorem Txt.f_need_table (T : Txt K mg) : ∃ fd, L2.Fun K "need_table" "need_table" s_need_table (d_need_table.at_ K) fd := by
  obtain ⟨fd, h⟩ := T.def_ 6 (d := d_need_table) rfl
  exact ⟨fd, fun_of (show FunD K "need_table" "need_table" (defArgs s_need_table) (defBody s_need_table) (defScope s_need_table) [] [] (d_need_table.at_ K) fd from h)⟩
theorem Txt.f_is_order (T : Txt K mg) : ∃ fd, L2.Fun K "is_order" "is_order" s_is_order (d_is_order.at_ K) fd := by
  obtain ⟨fd, h⟩ := T.def_ 7 (d := d_is_order) rfl
  exact ⟨fd, fun_of (show FunD K "is_order" "is_order" (defArgs s_is_order) (defBody s_is_order) (defScope s_is_order) [] [] (d_is_order.at_ K) fd from h)⟩
theorem Txt.f_need_order (T : Txt K mg) : ∃ fd, L2.Fun K "need_order" "need_order" s_need_order (d_need_order.at_ K) fd := by
  obtain ⟨fd, h⟩ := T.def_ 8 (d := d_need_order) rfl
  exact ⟨fd, fun_of (show FunD K "need_order" "need_order" (defArgs s_need_order) (defBody s_need_order) (defScope s_need_order) [] [] (d_need_order.at_ K) fd from h)⟩
theorem Txt.f_waited (T : Txt K mg) : ∃ fd, L2.Fun K "waited" "waited" s_waited (d_waited.at_ K) fd := by
  obtain ⟨fd, h⟩ := T.def_ 9 (d := d_waited) rfl
  exact ⟨fd, fun_of (show FunD K "waited" "waited" (defArgs s_waited) (defBody s_waited) (defScope s_waited) [] [] (d_waited.at_ K) fd from h)⟩
theorem Txt.f_path_of (T : Txt K mg) : ∃ fd, L2.Fun K "path_of" "path_of" s_path_of (d_path_of.at_ K) fd := by
  obtain ⟨fd, h⟩ := T.def_ 10 (d := d_path_of) rfl
  exact ⟨fd, fun_of (show FunD K "path_of" "path_of" (defArgs s_path_of) (defBody s_path_of) (defScope s_path_of) [] [] (d_path_of.at_ K) fd from h)⟩
theorem Txt.f_rings_of (T : Txt K mg) : ∃ fd, L2.Fun K "rings_of" "rings_of" s_rings_of (d_rings_of.at_ K) fd := by
  obtain ⟨fd, h⟩ := T.def_ 11 (d := d_rings_of) rfl
  exact ⟨fd, fun_of (show FunD K "rings_of" "rings_of" (defArgs s_rings_of) (defBody s_rings_of) (defScope s_rings_of) [] [] (d_rings_of.at_ K) fd from h)⟩
theorem Txt.f_by_new (T : Txt K mg) : ∃ fd, L2.Fun K "by_new" "by_new" s_by_new (d_by_new.at_ K) fd := by
  obtain ⟨fd, h⟩ := T.def_ 12 (d := d_by_new) rfl
  exact ⟨fd, fun_of (show FunD K "by_new" "by_new" (defArgs s_by_new) (defBody s_by_new) (defScope s_by_new) [] [] (d_by_new.at_ K) fd from h)⟩
theorem Txt.f_groups_of (T : Txt K mg) : ∃ fd, L2.Fun K "groups_of" "groups_of" s_groups_of (d_groups_of.at_ K) fd := by
  obtain ⟨fd, h⟩ := T.def_ 13 (d := d_groups_of) rfl
  exact ⟨fd, fun_of (show FunD K "groups_of" "groups_of" (defArgs s_groups_of) (defBody s_groups_of) (defScope s_groups_of) [] [] (d_groups_of.at_ K) fd from h)⟩
theorem Txt.f_waiting_for (T : Txt K mg) : ∃ fd, L2.Fun K "waiting_for" "waiting_for" s_waiting_for (d_waiting_for.at_ K) fd := by
  obtain ⟨fd, h⟩ := T.def_ 14 (d := d_waiting_for) rfl
  exact ⟨fd, fun_of (show FunD K "waiting_for" "waiting_for" (defArgs s_waiting_for) (defBody s_waiting_for) (defScope s_waiting_for) [] [] (d_waiting_for.at_ K) fd from h)⟩
theorem Txt.f_ready (T : Txt K mg) : ∃ fd, L2.Fun K "ready" "ready" s_ready (d_ready.at_ K) fd := by
  obtain ⟨fd, h⟩ := T.def_ 15 (d := d_ready) rfl
  exact ⟨fd, fun_of (show FunD K "ready" "ready" (defArgs s_ready) (defBody s_ready) (defScope s_ready) [] [] (d_ready.at_ K) fd from h)⟩
theorem Txt.f_first_order (T : Txt K mg) : ∃ fd, L2.Fun K "first_order" "first_order" s_first_order (d_first_order.at_ K) fd := by
  obtain ⟨fd, h⟩ := T.def_ 16 (d := d_first_order) rfl
  exact ⟨fd, fun_of (show FunD K "first_order" "first_order" (defArgs s_first_order) (defBody s_first_order) (defScope s_first_order) [] [] (d_first_order.at_ K) fd from h)⟩
theorem Txt.f_verdict (T : Txt K mg) : ∃ fd, L2.Fun K "verdict" "verdict" s_verdict (d_verdict.at_ K) fd := by
  obtain ⟨fd, h⟩ := T.def_ 17 (d := d_verdict) rfl
  exact ⟨fd, fun_of (show FunD K "verdict" "verdict" (defArgs s_verdict) (defBody s_verdict) (defScope s_verdict) [] [] (d_verdict.at_ K) fd from h)⟩
theorem Txt.f_passes (T : Txt K mg) : ∃ fd, L2.Fun K "passes" "passes" s_passes (d_passes.at_ K) fd := by
  obtain ⟨fd, h⟩ := T.def_ 18 (d := d_passes) rfl
  exact ⟨fd, fun_of (show FunD K "passes" "passes" (defArgs s_passes) (defBody s_passes) (defScope s_passes) [] [] (d_passes.at_ K) fd from h)⟩
theorem Txt.f_is_free_of (T : Txt K mg) : ∃ fd, L2.Fun K "is_free_of" "is_free_of" s_is_free_of (d_is_free_of.at_ K) fd := by
  obtain ⟨fd, h⟩ := T.def_ 19 (d := d_is_free_of) rfl
  exact ⟨fd, fun_of (show FunD K "is_free_of" "is_free_of" (defArgs s_is_free_of) (defBody s_is_free_of) (defScope s_is_free_of) [] [] (d_is_free_of.at_ K) fd from h)⟩
theorem Txt.f_is_pair (T : Txt K mg) : ∃ fd, L2.Fun K "is_pair" "is_pair" s_is_pair (d_is_pair.at_ K) fd := by
  obtain ⟨fd, h⟩ := T.def_ 20 (d := d_is_pair) rfl
  exact ⟨fd, fun_of (show FunD K "is_pair" "is_pair" (defArgs s_is_pair) (defBody s_is_pair) (defScope s_is_pair) [] [] (d_is_pair.at_ K) fd from h)⟩
theorem Txt.f_is_ring (T : Txt K mg) : ∃ fd, L2.Fun K "is_ring" "is_ring" s_is_ring (d_is_ring.at_ K) fd := by
  obtain ⟨fd, h⟩ := T.def_ 21 (d := d_is_ring) rfl
  exact ⟨fd, fun_of (show FunD K "is_ring" "is_ring" (defArgs s_is_ring) (defBody s_is_ring) (defScope s_is_ring) [] [] (d_is_ring.at_ K) fd from h)⟩
theorem Txt.f_shows_verdict (T : Txt K mg) : ∃ fd, L2.Fun K "shows_verdict" "shows_verdict" s_shows_verdict (d_shows_verdict.at_ K) fd := by
  obtain ⟨fd, h⟩ := T.def_ 22 (d := d_shows_verdict) rfl
  exact ⟨fd, fun_of (show FunD K "shows_verdict" "shows_verdict" (defArgs s_shows_verdict) (defBody s_shows_verdict) (defScope s_shows_verdict) [] [] (d_shows_verdict.at_ K) fd from h)⟩
theorem Txt.f_factorial (T : Txt K mg) : ∃ fd, L2.Fun K "factorial" "factorial" s_factorial (d_factorial.at_ K) fd := by
  obtain ⟨fd, h⟩ := T.def_ 23 (d := d_factorial) rfl
  exact ⟨fd, fun_of (show FunD K "factorial" "factorial" (defArgs s_factorial) (defBody s_factorial) (defScope s_factorial) [] [] (d_factorial.at_ K) fd from h)⟩
theorem Txt.f_chains_of (T : Txt K mg) : ∃ fd, L2.Fun K "chains_of" "chains_of" s_chains_of (d_chains_of.at_ K) fd := by
  obtain ⟨fd, h⟩ := T.def_ 24 (d := d_chains_of) rfl
  exact ⟨fd, fun_of (show FunD K "chains_of" "chains_of" (defArgs s_chains_of) (defBody s_chains_of) (defScope s_chains_of) [] [] (d_chains_of.at_ K) fd from h)⟩
theorem Txt.f_orders_of (T : Txt K mg) : ∃ fd, L2.Fun K "orders_of" "orders_of" s_orders_of (d_orders_of.at_ K) fd := by
  obtain ⟨fd, h⟩ := T.def_ 25 (d := d_orders_of) rfl
  exact ⟨fd, fun_of (show FunD K "orders_of" "orders_of" (defArgs s_orders_of) (defBody s_orders_of) (defScope s_orders_of) [] [] (d_orders_of.at_ K) fd from h)⟩
theorem Txt.f_passing_orders (T : Txt K mg) : ∃ fd, L2.Fun K "passing_orders" "passing_orders" s_passing_orders (d_passing_orders.at_ K) fd := by
  obtain ⟨fd, h⟩ := T.def_ 26 (d := d_passing_orders) rfl
  exact ⟨fd, fun_of (show FunD K "passing_orders" "passing_orders" (defArgs s_passing_orders) (defBody s_passing_orders) (defScope s_passing_orders) [] [] (d_passing_orders.at_ K) fd from h)⟩
theorem Txt.f_holder_of (T : Txt K mg) : ∃ fd, L2.Fun K "holder_of" "holder_of" s_holder_of (d_holder_of.at_ K) fd := by
  obtain ⟨fd, h⟩ := T.def_ 27 (d := d_holder_of) rfl
  exact ⟨fd, fun_of (show FunD K "holder_of" "holder_of" (defArgs s_holder_of) (defBody s_holder_of) (defScope s_holder_of) [] [] (d_holder_of.at_ K) fd from h)⟩
theorem Txt.f_law_cell_at (T : Txt K mg) : ∃ fd, L2.Fun K "_law_cell_at" "_law_cell_at" s_law_cell_at (d_law_cell_at.at_ K) fd := by
  obtain ⟨fd, h⟩ := T.def_ 28 (d := d_law_cell_at) rfl
  exact ⟨fd, fun_of (show FunD K "_law_cell_at" "_law_cell_at" (defArgs s_law_cell_at) (defBody s_law_cell_at) (defScope s_law_cell_at) [] [] (d_law_cell_at.at_ K) fd from h)⟩
theorem Txt.f_law_pen (T : Txt K mg) : ∃ fd, L2.Fun K "_law_pen" "_law_pen" s_law_pen (d_law_pen.at_ K) fd := by
  obtain ⟨fd, h⟩ := T.def_ 29 (d := d_law_pen) rfl
  exact ⟨fd, fun_of (show FunD K "_law_pen" "_law_pen" (defArgs s_law_pen) (defBody s_law_pen) (defScope s_law_pen) [] [] (d_law_pen.at_ K) fd from h)⟩
theorem Txt.f_law_draw (T : Txt K mg) : ∃ fd, L2.Fun K "_law_draw" "_law_draw" s_law_draw (d_law_draw.at_ K) fd := by
  obtain ⟨fd, h⟩ := T.def_ 30 (d := d_law_draw) rfl
  exact ⟨fd, fun_of (show FunD K "_law_draw" "_law_draw" (defArgs s_law_draw) (defBody s_law_draw) (defScope s_law_draw) [] [] (d_law_draw.at_ K) fd from h)⟩
theorem Txt.f_law_pick (T : Txt K mg) : ∃ fd, L2.Fun K "_law_pick" "_law_pick" s_law_pick (d_law_pick.at_ K) fd := by
  obtain ⟨fd, h⟩ := T.def_ 31 (d := d_law_pick) rfl
  exact ⟨fd, fun_of (show FunD K "_law_pick" "_law_pick" (defArgs s_law_pick) (defBody s_law_pick) (defScope s_law_pick) [] [] (d_law_pick.at_ K) fd from h)⟩
theorem Txt.f_law_mixed (T : Txt K mg) : ∃ fd, L2.Fun K "_law_mixed" "_law_mixed" s_law_mixed (d_law_mixed.at_ K) fd := by
  obtain ⟨fd, h⟩ := T.def_ 32 (d := d_law_mixed) rfl
  exact ⟨fd, fun_of (show FunD K "_law_mixed" "_law_mixed" (defArgs s_law_mixed) (defBody s_law_mixed) (defScope s_law_mixed) [] [] (d_law_mixed.at_ K) fd from h)⟩
theorem Txt.f_law_pairs (T : Txt K mg) : ∃ fd, L2.Fun K "_law_pairs" "_law_pairs" s_law_pairs (d_law_pairs.at_ K) fd := by
  obtain ⟨fd, h⟩ := T.def_ 33 (d := d_law_pairs) rfl
  exact ⟨fd, fun_of (show FunD K "_law_pairs" "_law_pairs" (defArgs s_law_pairs) (defBody s_law_pairs) (defScope s_law_pairs) [] [] (d_law_pairs.at_ K) fd from h)⟩
theorem Txt.f_law_order_right (T : Txt K mg) : ∃ fd, L2.Fun K "_law_order_right" "_law_order_right" s_law_order_right (d_law_order_right.at_ K) fd := by
  obtain ⟨fd, h⟩ := T.def_ 34 (d := d_law_order_right) rfl
  exact ⟨fd, fun_of (show FunD K "_law_order_right" "_law_order_right" (defArgs s_law_order_right) (defBody s_law_order_right) (defScope s_law_order_right) [] [] (d_law_order_right.at_ K) fd from h)⟩
theorem Txt.f_law_barred_right (T : Txt K mg) : ∃ fd, L2.Fun K "_law_barred_right" "_law_barred_right" s_law_barred_right (d_law_barred_right.at_ K) fd := by
  obtain ⟨fd, h⟩ := T.def_ 35 (d := d_law_barred_right) rfl
  exact ⟨fd, fun_of (show FunD K "_law_barred_right" "_law_barred_right" (defArgs s_law_barred_right) (defBody s_law_barred_right) (defScope s_law_barred_right) [] [] (d_law_barred_right.at_ K) fd from h)⟩
theorem Txt.f_law (T : Txt K mg) : ∃ fd, L2.Fun K "law" "law" s_law (d_law.at_ K) fd := by
  obtain ⟨fd, h⟩ := T.def_ 36 (d := d_law) rfl
  exact ⟨fd, fun_of (show FunD K "law" "law" (defArgs s_law) (defBody s_law) (defScope s_law) [] [] (d_law.at_ K) fd from h)⟩
theorem Txt.f_Table_init (T : Txt K mg) : ∃ fd, L2.Fun K "__init__" "Table.__init__" s_Table_init (d_Table_init.at_ K) fd := by
  obtain ⟨fd, h⟩ := T.def_ 37 (d := d_Table_init) rfl
  exact ⟨fd, fun_of (show FunD K "__init__" "Table.__init__" (defArgs s_Table_init) (defBody s_Table_init) (defScope s_Table_init) [] [] (d_Table_init.at_ K) fd from h)⟩
theorem Txt.f_Table_rows (T : Txt K mg) : ∃ fd, L2.Fun K "rows" "Table.rows" s_Table_rows (d_Table_rows.at_ K) fd := by
  obtain ⟨fd, h⟩ := T.def_ 38 (d := d_Table_rows) rfl
  exact ⟨fd, fun_of (show FunD K "rows" "Table.rows" (defArgs s_Table_rows) (defBody s_Table_rows) (defScope s_Table_rows) [] [] (d_Table_rows.at_ K) fd from h)⟩
theorem Txt.f_Table_getitem (T : Txt K mg) : ∃ fd, L2.Fun K "__getitem__" "Table.__getitem__" s_Table_getitem (d_Table_getitem.at_ K) fd := by
  obtain ⟨fd, h⟩ := T.def_ 39 (d := d_Table_getitem) rfl
  exact ⟨fd, fun_of (show FunD K "__getitem__" "Table.__getitem__" (defArgs s_Table_getitem) (defBody s_Table_getitem) (defScope s_Table_getitem) [] [] (d_Table_getitem.at_ K) fd from h)⟩
theorem Txt.f_Table_contains (T : Txt K mg) : ∃ fd, L2.Fun K "__contains__" "Table.__contains__" s_Table_contains (d_Table_contains.at_ K) fd := by
  obtain ⟨fd, h⟩ := T.def_ 40 (d := d_Table_contains) rfl
  exact ⟨fd, fun_of (show FunD K "__contains__" "Table.__contains__" (defArgs s_Table_contains) (defBody s_Table_contains) (defScope s_Table_contains) [] [] (d_Table_contains.at_ K) fd from h)⟩
theorem Txt.f_Table_len (T : Txt K mg) : ∃ fd, L2.Fun K "__len__" "Table.__len__" s_Table_len (d_Table_len.at_ K) fd := by
  obtain ⟨fd, h⟩ := T.def_ 41 (d := d_Table_len) rfl
  exact ⟨fd, fun_of (show FunD K "__len__" "Table.__len__" (defArgs s_Table_len) (defBody s_Table_len) (defScope s_Table_len) [] [] (d_Table_len.at_ K) fd from h)⟩
theorem Txt.f_Table_add (T : Txt K mg) : ∃ fd, L2.Fun K "__add__" "Table.__add__" s_Table_add (d_Table_add.at_ K) fd := by
  obtain ⟨fd, h⟩ := T.def_ 42 (d := d_Table_add) rfl
  exact ⟨fd, fun_of (show FunD K "__add__" "Table.__add__" (defArgs s_Table_add) (defBody s_Table_add) (defScope s_Table_add) [] [] (d_Table_add.at_ K) fd from h)⟩
theorem Txt.f_Outcome_init (T : Txt K mg) : ∃ fd, L2.Fun K "__init__" "Outcome.__init__" s_Outcome_init (d_Outcome_init.at_ K) fd := by
  obtain ⟨fd, h⟩ := T.def_ 43 (d := d_Outcome_init) rfl
  exact ⟨fd, fun_of (show FunD K "__init__" "Outcome.__init__" (defArgs s_Outcome_init) (defBody s_Outcome_init) (defScope s_Outcome_init) [] [] (d_Outcome_init.at_ K) fd from h)⟩
theorem Txt.f_Outcome_stop (T : Txt K mg) : ∃ fd, L2.Fun K "stop" "Outcome.stop" s_Outcome_stop (d_Outcome_stop.at_ K) fd := by
  obtain ⟨fd, h⟩ := T.def_ 44 (d := d_Outcome_stop) rfl
  exact ⟨fd, fun_of (show FunD K "stop" "Outcome.stop" (defArgs s_Outcome_stop) (defBody s_Outcome_stop) (defScope s_Outcome_stop) [] [] (d_Outcome_stop.at_ K) fd from h)⟩
theorem Txt.f_Rule_call (T : Txt K mg) : ∃ fd, L2.Fun K "__call__" "Rule.__call__" s_Rule_call (d_Rule_call.at_ K) fd := by
  obtain ⟨fd, h⟩ := T.def_ 45 (d := d_Rule_call) rfl
  exact ⟨fd, fun_of (show FunD K "__call__" "Rule.__call__" (defArgs s_Rule_call) (defBody s_Rule_call) (defScope s_Rule_call) [] [] (d_Rule_call.at_ K) fd from h)⟩
theorem Txt.f_Undoes_settle (T : Txt K mg) : ∃ fd, L2.Fun K "settle" "Undoes.settle" s_Undoes_settle (d_Undoes_settle.at_ K) fd := by
  obtain ⟨fd, h⟩ := T.def_ 46 (d := d_Undoes_settle) rfl
  exact ⟨fd, fun_of (show FunD K "settle" "Undoes.settle" (defArgs s_Undoes_settle) (defBody s_Undoes_settle) (defScope s_Undoes_settle) [] [] (d_Undoes_settle.at_ K) fd from h)⟩
theorem Txt.f_Stops_halts (T : Txt K mg) : ∃ fd, L2.Fun K "halts" "Stops.halts" s_Stops_halts (d_Stops_halts.at_ K) fd := by
  obtain ⟨fd, h⟩ := T.def_ 47 (d := d_Stops_halts) rfl
  exact ⟨fd, fun_of (show FunD K "halts" "Stops.halts" (defArgs s_Stops_halts) (defBody s_Stops_halts) (defScope s_Stops_halts) [] [] (d_Stops_halts.at_ K) fd from h)⟩
end
end Rc
set_option maxRecDepth 100000
set_option maxHeartbeats 1000000
/-! The plain side: tables as lists of rows in ascending order, and what the program computes of them. -/
namespace Rc
abbrev Rows := List (Int × Int)
/-- the greatest key is below this -/
def KB : Int := 1000000000000000000000000000000
def inB (i : Int) : Bool := decide (-KB < i) && decide (i < KB)
def keys (T : Rows) : List Int := T.map (·.1)
def news (T : Rows) : List Int := T.map (·.2)
/-- the new key of a row -/
def look : Rows → Int → Option Int
  | [], _ => none
  | r :: T, k => if r.1 = k then some r.2 else look T k
structure Good (T : Rows) : Prop where
  srt : T.Pairwise fun a b => a.1 < b.1
  len : T.length ≤ 40
  key : ∀ r ∈ T, inB r.1 = true
  new : ∀ r ∈ T, inB r.2 = true
/-- the row that a row waits for -/
def waitT (T : Rows) (k : Int) : Option Int := match look T k with
  | none => none
  | some n => if n ≠ k ∧ (look T n).isSome = true then some n else none
def pathGo (T : Rows) : Nat → List Int → Option Int → List Int
  | 0, found, _ => found
  | _ + 1, found, none => found
  | f + 1, found, some r => if r ∈ found then found else pathGo T f (found ++ [r]) (waitT T r)
def pathT (T : Rows) (k : Int) : List Int := pathGo T (T.length + 1) [k] (waitT T k)
/-- the last row of the path waits for the first, which is the least -/
def ringAt (T : Rows) (k : Int) : Bool := match (pathT T k).getLast? with
  | none => false
  | some l => decide (waitT T l = some k) && (pathT T k).all fun x => decide (k ≤ x)
def ringsT (T : Rows) : List (List Int) := ((keys T).filter (ringAt T)).map (pathT T)
def grpT (T : Rows) (n : Int) : List Int := keys (T.filter fun r => decide (r.2 = n))
def waitingT (T : Rows) (k : Int) : List Int := keys (T.filter fun r => decide (r.2 = k) && decide (r.1 ≠ k))
def readyB (T : Rows) (done : List Int) (k : Int) : Bool := decide (k ∉ done) && (match waitT T k with
  | none => true
  | some r => decide (r ∈ done))
def readyT (T : Rows) (done : List Int) : List Int := (keys T).filter (readyB T done)
/-- no two rows compete -/
def NoPair (T : Rows) : Prop := (news T).Nodup
def NoRing (T : Rows) : Prop := ringsT T = []
def Free (T : Rows) : Prop := NoPair T ∧ NoRing T
/-- two rows at least, ascending, of one new key -/
def Group (T : Rows) (g : List Int) : Prop := 2 ≤ g.length ∧ g.Pairwise (· < ·) ∧ ∃ n, ∀ k ∈ g, look T k = some n
/-- each row behind the one that it waits for -/
def Passes (T : Rows) (o : List Int) : Prop := ∀ i k, o[i]? = some k → ∀ r, waitT T k = some r → r ∈ o.take i
/-- what first_order keeps -/
structure First (T : Rows) (o : List Int) : Prop where
  nd : o.Nodup
  sub : ∀ k ∈ o, k ∈ keys T
  pass : Passes T o
  least : ∀ i a b, o[i]? = some a → o[i + 1]? = some b → waitT T b ≠ some a → a < b
/-- no conflict happens in this order -/
def Runs (T : Rows) (o : List Int) : Prop := ∀ i k n, o[i]? = some k → look T k = some n → n ≠ k → (∀ x ∈ o.take i, look T x ≠ some n) ∧ ∀ x ∈ o.drop i, x ≠ n
/-! ### what follows of look -/
theorem look_mem : ∀ {T : Rows} {k n : Int}, look T k = some n → (k, n) ∈ T
  | r :: T, k, n, h => by
    unfold look at h
    split at h
    · rename_i c
      have e : r.2 = n := Option.some.inj h
      have : r = (k, n) := by rw [← c, ← e]
      rw [this]
      exact List.mem_cons_self
    · exact List.mem_cons_of_mem _ (look_mem h)
theorem look_none : ∀ {T : Rows} {k : Int}, look T k = none ↔ k ∉ keys T
  | [], k => by simp [look, keys]
  | r :: T, k => by
    have ih := look_none (T := T) (k := k)
    unfold look
    split
    · rename_i c
      simp [keys, c]
    · rename_i c
      rw [ih]
      simp only [keys, List.map_cons, List.mem_cons, not_or]
      exact ⟨fun h => ⟨fun e => c e.symm, h⟩, fun h => h.2⟩
theorem look_some {T : Rows} {k : Int} : (look T k).isSome = true ↔ k ∈ keys T := by
  have h := look_none (T := T) (k := k)
  cases e : look T k with
  | none => simp [h.mp e]
  | some n =>
    simp only [Option.isSome_some, true_iff]
    by_cases c : k ∈ keys T
    · exact c
    · rw [h.mpr c] at e
      cases e
theorem look_of {T : Rows} {k n : Int} (hn : (keys T).Nodup) (h : (k, n) ∈ T) : look T k = some n := by
  induction T with
  | nil => cases h
  | cons r T ih =>
    have hn' : (r.1 :: keys T).Nodup := hn
    obtain ⟨h1, h2⟩ := List.nodup_cons.mp hn'
    unfold look
    rcases List.mem_cons.mp h with e | h
    · rw [← e]
      simp
    · have c : ¬ r.1 = k := fun e => h1 (e ▸ List.mem_map.mpr ⟨(k, n), h, rfl⟩)
      rw [if_neg c]
      exact ih h2 h
theorem keys_nodup {T : Rows} (h : T.Pairwise fun a b => a.1 < b.1) : (keys T).Nodup := by
  unfold keys List.Nodup
  rw [List.pairwise_map]
  exact h.imp fun {a b} c => Int.ne_of_lt c
theorem look_perm {T U : Rows} (hn : (keys T).Nodup) (p : U.Perm T) (k : Int) : look U k = look T k := by
  have hu : (keys U).Nodup := (show (keys U).Perm (keys T) from List.Perm.map (fun r : Int × Int => r.1) p).nodup_iff.mpr hn
  cases e : look T k with
  | none =>
    rw [look_none] at e ⊢
    exact fun h => e ((show (keys U).Perm (keys T) from List.Perm.map (fun r : Int × Int => r.1) p).mem_iff.mp h)
  | some n => exact look_of hu (p.mem_iff.mpr (look_mem e))
theorem look_key {T : Rows} {k n : Int} (h : look T k = some n) : k ∈ keys T := look_some.mp (by rw [h]; rfl)
theorem look_at {T : Rows} (h : T.Pairwise fun a b => a.1 < b.1) {i : Nat} {r : Int × Int} (e : T[i]? = some r) : look T r.1 = some r.2 := look_of (keys_nodup h) (List.mem_of_getElem? e)
theorem Good.look_in {T : Rows} (g : Good T) {k n : Int} (h : look T k = some n) : inB k = true ∧ inB n = true := ⟨g.key _ (look_mem h), g.new _ (look_mem h)⟩
/-- two arrangements in ascending order are one -/
theorem sorted_one : ∀ {T U : Rows}, (T.Pairwise fun a b => a.1 < b.1) → (U.Pairwise fun a b => ¬ (b.1 < a.1)) → U.Perm T → U = T
  | [], U, _, _, p => List.perm_nil.mp p
  | r :: T, [], _, _, p => by cases List.nil_perm.mp p
  | r :: T, u :: U, ht, hu, p => by
    obtain ⟨h1, h2⟩ := List.pairwise_cons.mp ht
    obtain ⟨g1, g2⟩ := List.pairwise_cons.mp hu
    have e : u = r := by
      rcases List.mem_cons.mp (p.mem_iff.mp (List.mem_cons_self (a := u) (l := U))) with e | m
      · exact e
      · rcases List.mem_cons.mp (p.mem_iff.mpr (List.mem_cons_self (a := r) (l := T))) with e | m'
        · exact e.symm
        · exact absurd (h1 u m) (g1 r m')
    subst e
    rw [sorted_one h2 g2 (List.Perm.cons_inv p)]
structure RowsOk (R : Rows) : Prop where
  nd : (keys R).Nodup
  len : R.length ≤ 40
  key : ∀ r ∈ R, inB r.1 = true
  new : ∀ r ∈ R, inB r.2 = true
/-- the rows in ascending order -/
theorem rows_sorted {R : Rows} (ok : RowsOk R) : ∃ T : Rows, R.Perm T ∧ Good T := by
  have p : (R.mergeSort fun a b => decide (a.1 ≤ b.1)).Perm R := List.mergeSort_perm R _
  refine ⟨R.mergeSort fun a b => decide (a.1 ≤ b.1), p.symm, ?_, (by rw [p.length_eq]; exact ok.len), (fun r hr => ok.key r (p.mem_iff.mp hr)), (fun r hr => ok.new r (p.mem_iff.mp hr))⟩
  have le : (R.mergeSort fun a b => decide (a.1 ≤ b.1)).Pairwise fun a b => a.1 ≤ b.1 := by
    refine (List.pairwise_mergeSort (le := fun a b => decide (a.1 ≤ b.1)) (fun a b c h1 h2 => ?_) (fun a b => ?_) R).imp fun h => of_decide_eq_true h
    · exact decide_eq_true (Int.le_trans (of_decide_eq_true h1) (of_decide_eq_true h2))
    · rcases Int.le_total a.1 b.1 with h | h
      · rw [decide_eq_true h]; rfl
      · rw [decide_eq_true h]; exact Bool.or_true _
  have nd : (keys (R.mergeSort fun a b => decide (a.1 ≤ b.1))).Nodup := (show (keys (R.mergeSort fun a b => decide (a.1 ≤ b.1))).Perm (keys R) from List.Perm.map (fun r : Int × Int => r.1) p).nodup_iff.mpr ok.nd
  have ne : (R.mergeSort fun a b => decide (a.1 ≤ b.1)).Pairwise fun a b => a.1 ≠ b.1 := List.pairwise_map.mp nd
  exact (le.and ne).imp fun {a b} h => by have := h.1; have := h.2; omega
theorem good_nil : Good [] := ⟨List.Pairwise.nil, Nat.zero_le _, (fun _ h => nomatch h), (fun _ h => nomatch h)⟩
end Rc
set_option Elab.async false
set_option linter.all false
set_option maxRecDepth 100000
set_option maxHeartbeats 4000000
namespace Rc
open PySem PySem.Spec PyProof.Rows L2 He He5 C8
section
variable {X : Cx} {p q pos : Pos} {e : Expr} {te : TE} {T : Str}
/-- isinstance(e, T), T a built-in type -/
theorem pe_isTy (n : String) (hm : X.mg "isinstance" = none) (ht : X.mg T = none) (he : PE X e te) (hv : bootBuiltins T = some (.type n) := by decide +kernel) (hg : Gl X "isinstance" := by rfl) (hgt : Gl X T := by rfl) (hn : T ≠ "__name__" := by decide) (hd : (T == ("__debug__" : Str)) = false := by decide)
    (h1 : starEach [e, .Name T q] X.env = (false, eval e X.env) :: starEach [.Name T q] X.env := by rfl) (h2 : starEach [.Name T q] X.env = (false, eval (.Name T q) X.env) :: starEach [] X.env := by rfl) (h3 : (backTo pos (starEach [.Name T q] X.env)).any (·.1) = false := by rfl) :
    PE X (.Call (.Name "isinstance" p) [e, .Name T q] [] pos) (tCB (rIsi X.K) (tCons te (tCons (tC (.ty n)) tNil))) :=
  pe_callB call_isi hg hm (by decide +kernel) (pa_cons he (pa_cons (pe_bltn (v := .ty n) hgt ht hv rfl hn hd) pa_nil h2) h1) (by decide) (by decide) h1 h3
end
section
variable {P : Program} {w : World} {K : PySem.W.Frag} {mg : Str → Option Value} {base : Heap}
/-! ### is_integer, is_key, is_row -/
def spInteger : Sp := fun vs H Q _ => ∃ i, vs = [.int i] ∧ Q (.bl true) H
theorem sc_is_integer : FnScope ["thing"] ["thing"] (defScope s_is_integer) := ⟨rfl, rfl, rfl, by decide +kernel, rfl, by decide +kernel, by decide +kernel⟩
theorem ok_is_integer (T : Txt K mg) : Ok P w K mg base 1 (ga K "is_integer") spInteger := by
  obtain ⟨fd, F⟩ := T.f_is_integer
  refine ok_of F sc_is_integer (F.binds fun _ _ _ _ _ _ us hl => match us, hl with | [_], _ => rfl) (fun vs H Q E h => ?_) (fun cdv A outer s H vs Q E hr h => ?_)
  · obtain ⟨i, rfl, _⟩ := h
    rfl
  · obtain ⟨i, rfl, k⟩ := h
    refine ⟨_, pss_one (ps_ret (pe_and (pe_isTy "int" T.b_isinstance T.b_int (pv 0)) (pe_one (pe_not (pe_isTy "bool" T.b_isinstance T.b_bool (pv 0)))))), ?_⟩
    refine ⟨_, rfl, _, _, .type "int", .type "int", true, rfl, .ty _, .base (.int i), kit_ty (by decide +kernel), true, rfl, ?_⟩
    exact ⟨_, rfl, _, _, .type "int", .type "bool", false, rfl, .ty _, .base (.int i), kit_ty (by decide +kernel), false, rfl, k⟩
def spKey : Sp := fun vs H Q _ => ∃ i, vs = [.int i] ∧ Q (.bl (inB i)) H
theorem sc_is_key : FnScope ["thing"] ["thing"] (defScope s_is_key) := ⟨rfl, rfl, rfl, by decide +kernel, rfl, by decide +kernel, by decide +kernel⟩
theorem ok_is_key (T : Txt K mg) : Ok P w K mg base 2 (ga K "is_key") spKey := by
  obtain ⟨fd, F⟩ := T.f_is_key
  have G : Ok P w K mg base 1 (ga K "is_integer") spInteger := ok_is_integer T
  obtain ⟨tb, hb⟩ := T.i_bound
  refine ok_of F sc_is_key (F.binds fun _ _ _ _ _ _ us hl => match us, hl with | [_], _ => rfl) (fun vs H Q E h => ?_) (fun cdv A outer s H vs Q E hr h => ?_)
  · obtain ⟨i, rfl, _⟩ := h
    rfl
  · obtain ⟨i, rfl, k⟩ := h
    refine ⟨_, pss_one (ps_ret (pe_and (pe_fn G hr T.g_is_integer (pa_cons (pv 0) pa_nil)) (pe_one (pe_chain op_lt op_lt (pe_un un_neg (pe_glob (v := .int KB) rfl hb ⟨_, rfl⟩)) (pv 0) (pe_glob (v := .int KB) rfl hb ⟨_, rfl⟩))))), ?_⟩
    refine ⟨_, rfl, i, rfl, true, rfl, ⟨_, rfl, _, rfl, _, _, rfl, rfl, _, rfl, ?_⟩⟩
    unfold inB at k
    by_cases c : -KB < i
    · rw [decide_eq_true c] at k ⊢
      exact iteT ⟨_, _, rfl, rfl, k⟩
    · rw [decide_eq_false c] at k ⊢
      exact iteF k
end
end Rc
set_option Elab.async false
set_option linter.all false
set_option maxRecDepth 100000
set_option maxHeartbeats 4000000
namespace Rc
open PySem PySem.Spec PyProof.Rows L2 He He5 C8
/-! ### tables, pairs, tuples in the heap -/
def dkv (R : Rows) : List (Key × V) := R.map fun r => ((Sum.inl r.1 : Key), V.int r.2)
theorem valV_dkv : ∀ (R : Rows) (k : Int), valV (dkv R) (Sum.inl k : Key) = (look R k).map V.int
  | [], _ => rfl
  | r :: R, k => by
    show valV (((Sum.inl r.1 : Key), V.int r.2) :: dkv R) (Sum.inl k) = _
    unfold look
    by_cases c : r.1 = k
    · rw [if_pos c, valV_pos (by rw [c])]
      rfl
    · rw [if_neg c, valV_neg (fun e => c (Sum.inl.inj e))]
      exact valV_dkv R k
theorem dkv_take {R : Rows} {i : Nat} {r : Int × Int} (h : R[i]? = some r) : dkv (R.take (i + 1)) = dkv (R.take i) ++ [((Sum.inl r.1 : Key), V.int r.2)] := by
  unfold dkv
  rw [List.take_add_one, h, List.map_append]
  rfl
/-- a table stands at t -/
structure TabAt (C : Addr) (H : Hp) (t : Addr) (T : Rows) : Prop where
  good : Good T
  ex : ∃ (dx d : Addr) (R : Rows), H t = some (.ins C dx [(("wants" : Str), V.ref d)]) ∧ H d = some (.dK (dkv R)) ∧ R.Perm T
theorem TabAt.same {C : Addr} {H H' : Hp} {t : Addr} {T : Rows} (h : TabAt C H t T) (s : Same H H') : TabAt C H' t T := by
  obtain ⟨g, dx, d, R, h1, h2, p⟩ := h
  exact ⟨g, dx, d, R, s _ _ h1, s _ _ h2, p⟩
/-- references to pairs -/
def Pairs (H : Hp) (xs : List V) (R : Rows) : Prop := xs.length = R.length ∧ ∀ (i : Nat) (x : V), xs[i]? = some x → ∃ (p : Addr) (r : Int × Int), R[i]? = some r ∧ x = V.ref p ∧ H p = some (.tup [.int r.1, .int r.2])
/-- references to tuples of ints -/
def Tups (H : Hp) (xs : List V) (ls : List (List Int)) : Prop := xs.length = ls.length ∧ ∀ (i : Nat) (x : V), xs[i]? = some x → ∃ (p : Addr) (l : List Int), ls[i]? = some l ∧ x = V.ref p ∧ H p = some (.tup (l.map V.int))
theorem Pairs.same {H H' : Hp} {xs : List V} {R : Rows} (h : Pairs H xs R) (s : Same H H') : Pairs H' xs R := by
  refine ⟨h.1, fun i x e => ?_⟩
  obtain ⟨p, r, h1, h2, h3⟩ := h.2 i x e
  exact ⟨p, r, h1, h2, s _ _ h3⟩
theorem Tups.same {H H' : Hp} {xs : List V} {ls : List (List Int)} (h : Tups H xs ls) (s : Same H H') : Tups H' xs ls := by
  refine ⟨h.1, fun i x e => ?_⟩
  obtain ⟨p, r, h1, h2, h3⟩ := h.2 i x e
  exact ⟨p, r, h1, h2, s _ _ h3⟩
theorem sameNew {H H' : Hp} {p : Addr} {o : HO} (s : Same H H') (h : H p = none) : Same H (upd H' p o) := fun b u e => by
  rw [upd_ne (ne_of_none e h)]
  exact s b u e
theorem sameUpd {H : Hp} {p : Addr} {o : HO} (h : H p = none) : Same H (L2.upd H p o) := sameNew (Same.refl H) h
theorem sameUnlock {H H' : Hp} {d : Addr} {od : Obj} {u : HO} (h : H d = some u) (s : Same (L2.upd H d (.frz od u)) H') : Same H (L2.upd H' d u) := fun b o e => by
  by_cases c : b = d
  · subst c
    rw [h] at e
    cases e
    exact upd_same
  · rw [upd_ne c]
    exact s b o (by rw [upd_ne c]; exact e)
theorem getE_lt {α : Type} {l : List α} {i : Nat} {x : α} (h : l[i]? = some x) : i < l.length := (List.getElem?_eq_some_iff.mp h).1
theorem map_at {α β : Type} {f : α → β} {l : List α} {i : Nat} {y : β} (h : (l.map f)[i]? = some y) : ∃ x, l[i]? = some x ∧ y = f x := by
  rw [List.getElem?_map] at h
  cases e : l[i]? with
  | none =>
    rw [e] at h
    cases h
  | some x =>
    rw [e] at h
    exact ⟨x, rfl, (Option.some.inj h).symm⟩
theorem small40 {n : Nat} (h : n ≤ 40) : n < sizeLine := small1000 (by omega)
section
variable {P : Program} {w : World} {K : PySem.W.Frag} {mg : Str → Option Value} {base : Heap}
/-! ### is_row, checked_rows, more_rows -/
def spIsRow : Sp := fun vs H Q _ => ∃ p i j, vs = [.ref p] ∧ H p = some (.tup [.int i, .int j]) ∧ inB i = true ∧ inB j = true ∧ Q (.bl true) H
theorem sc_is_row : FnScope ["thing"] ["thing"] (defScope s_is_row) := ⟨rfl, rfl, rfl, by decide +kernel, rfl, by decide +kernel, by decide +kernel⟩
theorem ok_is_row (T : Txt K mg) : Ok P w K mg base 3 (ga K "is_row") spIsRow := by
  obtain ⟨fd, F⟩ := T.f_is_row
  have G : Ok P w K mg base 2 (ga K "is_key") spKey := ok_is_key T
  refine ok_of F sc_is_row (F.binds fun _ _ _ _ _ _ us hl => match us, hl with | [_], _ => rfl) (fun vs H Q E h => ?_) (fun cdv A outer s H vs Q E hr h => ?_)
  · obtain ⟨p, i, j, rfl, _⟩ := h
    rfl
  · obtain ⟨p, i, j, rfl, hp, hi, hj, k⟩ := h
    refine ⟨_, pss_one (ps_ret (pe_and (pe_isTy "tuple" T.b_isinstance T.b_tuple (pv 0)) (pe_and (pe_cmpR op_eq (pe_callB call_len_seq (by rfl) T.b_len boot_len (pa_cons (pv 0) pa_nil)) pe_int (nomark _))
      (pe_and (pe_fn G hr T.g_is_key (pa_cons (pe_ix ix_tup (pv 0) pe_int (fun _ _ => rfl)) pa_nil)) (pe_one (pe_fn G hr T.g_is_key (pa_cons (pe_ix ix_tup (pv 0) pe_int (fun _ _ => rfl)) pa_nil))))))), ?_⟩
    refine ⟨_, rfl, _, _, .type "tuple", .type "tuple", true, rfl, .ty _, .base (.tup hp), kit_ty (by decide +kernel), true, rfl, ?_⟩
    refine ⟨_, rfl, p, _, rfl, .inr (SqT.of hp), rfl, true, rfl, ?_⟩
    refine ⟨_, rfl, p, _, 0, .int i, rfl, rfl, SqT.of hp, rfl, i, rfl, true, by rw [hi], ?_⟩
    exact ⟨_, rfl, p, _, 1, .int j, rfl, rfl, SqT.of hp, rfl, j, rfl, by rw [hj]; exact k⟩
def spChecked : Sp := fun vs H Q _ => ∃ l xs R, vs = [.ref l] ∧ H l = some (.lst xs) ∧ Pairs H xs R ∧ RowsOk R ∧ ∀ d, H d = none → Q (.ref d) (upd H d (.dK (dkv R)))
theorem sc_checked_rows : FnScope ["rows", "row", "wants", "key", "new"] ["rows"] (defScope s_checked_rows) := ⟨rfl, rfl, rfl, by decide +kernel, rfl, by decide +kernel, by decide +kernel⟩
theorem ok_checked_rows (T : Txt K mg) : Ok P w K mg base 4 (ga K "checked_rows") spChecked := by
  obtain ⟨fd, F⟩ := T.f_checked_rows
  have G : Ok P w K mg base 3 (ga K "is_row") spIsRow := ok_is_row T
  obtain ⟨tm, hm⟩ := T.i_most
  refine ok_of F sc_checked_rows (F.binds fun _ _ _ _ _ _ us hl => match us, hl with | [_], _ => rfl) (fun vs H Q E h => ?_) (fun cdv A outer s H vs Q E hr h => ?_)
  · obtain ⟨p, i, j, rfl, _⟩ := h
    rfl
  · obtain ⟨l, xs, R, rfl, hl, hp, ok, k⟩ := h
    have hu := hu_of hr
    have nd := sc_checked_rows.nd
    refine ⟨_, pss_cons (ps_for PassesOwn.never rfl (pi_list (pv 0)) (pg_name (i := 1) nd rfl (Or.inl rfl)) (pss_one (ps_if (pt_not (pt_val (pe_fn G hr T.g_is_row (pa_cons (pv 1) pa_nil)))) (pss_one ps_never) pss_nil)))
      (pss_cons (ps_set (i := 2) nd rfl (Or.inl rfl) pe_dnewK)
      (pss_cons (ps_for PassesOwn.never rfl (pi_list (pv 0)) (pg_tup rfl (pgs_cons (pg_name (i := 3) nd rfl (Or.inl rfl)) (pgs_cons (pg_name (i := 4) nd rfl (Or.inl rfl)) pgs_nil)))
        (pss_cons (ps_if (pt_cmp (pc_din hu (pv 3) (pv 2))) (pss_one ps_never) pss_nil) (pss_one (ps_dput hu (pv 2) (pv 3) (pv 4) rfl))))
      (pss_cons (ps_if (pt_cmpR op_gt (pe_callB call_len_seq (by rfl) T.b_len boot_len (pa_cons (pv 0) pa_nil)) (pe_glob (v := .int 40) rfl hm ⟨_, rfl⟩) (nomark _)) (pss_one ps_never) pss_nil)
      (pss_one (ps_ret (pv 2)))))), ?_⟩
    refine ⟨_, rfl, l, rfl, ⟨_, SqL.of hl⟩, for_list (K := K) (a := l) (xs := xs) (fun i σ H' => H' = H ∧ ∃ v, σ = [some (.ref l), v, none, none, none]) ⟨rfl, none, rfl⟩ (fun i σ H' _ ⟨e, _⟩ => by rw [e]; exact SqL.of hl) ?_ ?_⟩
    · rintro i x σ H' hi ⟨rfl, v, rfl⟩
      obtain ⟨p, r, h1, rfl, h2⟩ := hp.2 i x hi
      have m := List.mem_of_getElem? h1
      refine ⟨_, rfl, p, r.1, r.2, rfl, h2, ok.key _ m, ok.new _ m, true, rfl, ?_⟩
      exact iteF ⟨rfl, _, rfl⟩
    · rintro σ H' ⟨rfl, v, rfl⟩
      intro d hd
      have ndl : l ≠ d := ne_of_none hl hd
      refine ⟨_, rfl, l, rfl, ⟨_, SqL.of (by rw [upd_ne ndl]; exact hl)⟩, for_list (K := K) (a := l) (xs := xs) (fun i σ H2 => H2 = upd H' d (.dK (dkv (R.take i))) ∧ ∃ v3 v4, σ = [some (.ref l), v, some (.ref d), v3, v4]) ⟨rfl, none, none, rfl⟩
        (fun i σ H2 _ ⟨e, _⟩ => by rw [e]; exact SqL.of (by rw [upd_ne ndl]; exact hl)) ?_ ?_⟩
      · rintro i x σ H2 hi ⟨rfl, v3, v4, rfl⟩
        obtain ⟨p, r, h1, rfl, h2⟩ := hp.2 i x hi
        have hlt : i < R.length := getE_lt h1
        refine ⟨p, _, rfl, SqT.of (by rw [upd_ne (ne_of_none h2 hd)]; exact h2), rfl, _, _, rfl, _, _, rfl, rfl, ?_⟩
        have fresh : valV (dkv (R.take i)) (Sum.inl r.1 : Key) = none := by
          rw [valV_dkv]
          have : look (R.take i) r.1 = none := by
            rw [look_none]
            intro hm
            have hnd := ok.nd
            rw [← List.take_append_drop i R] at hnd
            unfold keys at hnd
            rw [List.map_append] at hnd
            have hd2 := (List.nodup_append.mp hnd).2.2
            refine hd2 _ hm r.1 ?_ rfl
            have : r ∈ R.drop i := List.mem_of_getElem? (i := 0) (by rw [List.getElem?_drop]; exact h1)
            exact List.mem_map.mpr ⟨r, this, rfl⟩
          rw [this]
          rfl
        refine ⟨_, rfl, _, rfl, d, _, rfl, DGet.k (k := Sum.inl r.1) upd_same, _, rfl, ?_⟩
        rw [fresh]
        refine iteF ⟨_, rfl, _, rfl, _, rfl, d, _, rfl, DPut.k (k := Sum.inl r.1) upd_same ?_, ?_⟩
        · unfold dkv
          rw [List.length_map, List.length_take]
          exact small40 (by have := ok.len; omega)
        · refine ⟨?_, _, _, rfl⟩
          rw [upd_upd, putK_new _ fresh, dkv_take h1]
      · rintro σ H2 ⟨rfl, v3, v4, rfl⟩
        rw [show xs.length = R.length from hp.1, List.take_length]
        refine ⟨_, rfl, l, _, rfl, .inl (SqL.of (by rw [upd_ne ndl]; exact hl)), _, _, rfl, rfl, _, rfl, ?_⟩
        rw [show decide ((40 : Int) < ((xs.length : Nat) : Int)) = false from decide_eq_false (by have := ok.len; have := hp.1; omega)]
        exact iteF ⟨_, rfl, k d hd⟩
end
end Rc
set_option Elab.async false
set_option linter.all false
set_option maxRecDepth 100000
set_option maxHeartbeats 4000000
namespace Rc
open PySem PySem.Spec PyProof.Rows L2 He He5 C8
abbrev CT (K : PySem.W.Frag) : Addr := ga K "Table"
section
variable {P : Program} {w : World} {K : PySem.W.Frag} {mg : Str → Option Value} {base : Heap}
/-! ### more_rows, Table -/
def spMore : Sp := fun vs H Q _ => ∃ (p : Addr) (xs : List V), vs = [.ref p] ∧ H p = some (.tup xs) ∧ ∀ l, H l = none → Q (.ref l) (upd H l (.lst xs))
theorem sc_more_rows : FnScope ["other"] ["other"] (defScope s_more_rows) := ⟨rfl, rfl, rfl, by decide +kernel, rfl, by decide +kernel, by decide +kernel⟩
theorem ok_more_rows (T : Txt K mg) : Ok P w K mg base 1 (ga K "more_rows") spMore := by
  obtain ⟨fd, F⟩ := T.f_more_rows
  refine ok_of F sc_more_rows (F.binds fun _ _ _ _ _ _ us hl => match us, hl with | [_], _ => rfl) (fun vs H Q E h => ?_) (fun cdv A outer s H vs Q E hr h => ?_)
  · obtain ⟨p, xs, rfl, _⟩ := h
    rfl
  · obtain ⟨p, xs, rfl, hp, k⟩ := h
    refine ⟨_, pss_cons (ps_if (pt_val (pe_callB call_isi (by rfl) T.b_isinstance (by decide +kernel) (pa_cons (pv 0) (pa_cons (pe_glob (v := .ref (CT K)) rfl T.g_Table.1 rfl) pa_nil)))) (pss_one ps_never) pss_nil)
      (pss_cons (ps_if (pt_val (pe_isTy "tuple" T.b_isinstance T.b_tuple (pv 0))) (pss_one (ps_ret (pe_callTy call_list_of (by rfl) T.b_list (by decide +kernel) (pa_cons (pv 0) pa_nil)))) pss_nil) (pss_one ps_never)), ?_⟩
    refine ⟨_, rfl, _, _, .type "tuple", .ref (CT K), false, rfl, .own _, .base (.tup hp), T.tup_no, false, rfl, iteF ?_⟩
    refine ⟨_, rfl, _, _, .type "tuple", .type "tuple", true, rfl, .ty _, .base (.tup hp), kit_ty (by decide +kernel), true, rfl, iteT ?_⟩
    exact ⟨_, rfl, p, xs, rfl, .inr (SqT.of hp), k⟩
def spTInit (C : Addr) : Sp := fun vs H Q _ => ∃ (x dx : Addr) (xs : List V) (R : Rows), vs = .ref x :: xs ∧ xs.length ≤ sizeLine ∧ H x = some (.ins C dx []) ∧ Pairs H xs R ∧ RowsOk R ∧
  ∀ (H' : Hp) (d : Addr), (∀ b o, b ≠ x → H b = some o → H' b = some o) → H' x = some (.ins C dx [(("wants" : Str), .ref d)]) → H' d = some (.dK (dkv R)) → Q .non H'
theorem sc_Table_init : FnScope ["self", "rows"] ["self", "rows"] (defScope s_Table_init) := ⟨rfl, rfl, rfl, by decide +kernel, rfl, by decide +kernel, by decide +kernel⟩
theorem ok_Table_init (T : Txt K mg) : Ok P w K mg base 5 (ma K (CT K) "__init__") (spTInit (CT K)) := by
  obtain ⟨fd, F⟩ := T.f_Table_init
  have G : Ok P w K mg base 4 (ga K "checked_rows") spChecked := ok_checked_rows T
  obtain ⟨oc, od, kV, doc, pm, an, cdv, ct, osl, rfl, lk, hcd⟩ := F.ex
  refine (StX.fn_star (ps := ["self"]) (pv := "rows") (N := ["self", "rows"]) (sp := fun vs H Q _ => ∃ (x dx p : Addr) (xs : List V) (R : Rows), vs = [.ref x, .ref p] ∧ H p = some (.tup xs) ∧ H x = some (.ins (CT K) dx []) ∧ Pairs H xs R ∧ RowsOk R ∧
    ∀ (H' : Hp) (d : Addr), (∀ b o, b ≠ x → H b = some o → H' b = some o) → H' x = some (.ins (CT K) dx [(("wants" : Str), .ref d)]) → H' d = some (.dK (dkv R)) → Q .non H') lk hcd sc_Table_init StX.cxUp_none
    (StX.bind_star1 (B := fun us => bindArgs _ ⟨us, []⟩) (fun a => rfl) (fun a r rs => rfl)) fun A outer s H vs Q E hr h => ?_).imp fun vs H Q E h => ?_
  · obtain ⟨x, dx, p, xs, R, rfl, hp, hx, hps, ok, k⟩ := h
    refine ⟨_, PSs.nox (pss_one (ps_fld (pv 0) (pe_fn G hr T.g_checked_rows (pa_cons (pe_callTy call_list_of (by rfl) T.b_list (by decide +kernel) (pa_cons (pv 1) pa_nil)) pa_nil)) rfl)), ?_⟩
    refine ⟨_, rfl, p, xs, rfl, .inr (SqT.of hp), fun l hl => ?_⟩
    refine ⟨l, xs, R, rfl, upd_same, hps.same (sameUpd hl), ok, fun d hd => ?_⟩
    have nxl : x ≠ l := ne_of_none hx hl
    have hx2 : (upd H l (.lst xs)) x = some (.ins (CT K) dx []) := by rw [upd_ne nxl]; exact hx
    have nxd : x ≠ d := ne_of_none hx2 hd
    refine ⟨_, rfl, x, CT K, dx, [], rfl, by rw [upd_ne nxd]; exact hx2, T.cl_Table, T.no_wants, (by show 0 < 1000; decide), ?_⟩
    refine k _ d (fun b o hb e => ?_) upd_same ?_
    · rw [upd_ne hb]
      exact sameNew (sameUpd hl) ((sameUpd hl).free hd) b o e
    · rw [upd_ne nxd.symm]
      exact upd_same
  · obtain ⟨x, dx, xs, R, rfl, hz, hx, hps, ok, k⟩ := h
    refine ⟨[.ref x], xs, rfl, rfl, hz, fun p hp => ⟨x, dx, p, xs, R, rfl, upd_same, ?_, hps.same (sameUpd hp), ok, fun H' d hs h1 h2 => k H' d (fun b o hb e => hs b o hb (sameUpd hp b o e)) h1 h2⟩⟩
    rw [upd_ne (ne_of_none hx hp)]
    exact hx
def spGet (C : Addr) : Sp := fun vs H Q _ => ∃ (t : Addr) (T : Rows) (k n : Int), vs = [.ref t, .int k] ∧ TabAt C H t T ∧ look T k = some n ∧ Q (.int n) H
def spHas (C : Addr) : Sp := fun vs H Q _ => ∃ (t : Addr) (T : Rows) (k : Int), vs = [.ref t, .int k] ∧ TabAt C H t T ∧ Q (.bl (look T k).isSome) H
def spLen (C : Addr) : Sp := fun vs H Q _ => ∃ (t : Addr) (T : Rows), vs = [.ref t] ∧ TabAt C H t T ∧ Q (.int (T.length : Nat)) H
theorem fs_wants (v : V) : [(("wants" : Str), v)].lookup ("wants" : Str) = some v := by simp [List.lookup]
theorem sc_Table_contains : FnScope ["self", "thing"] ["self", "thing"] (defScope s_Table_contains) := ⟨rfl, rfl, rfl, by decide +kernel, rfl, by decide +kernel, by decide +kernel⟩
theorem ok_Table_contains (T : Txt K mg) : Ok P w K mg base 3 (ma K (CT K) "__contains__") (spHas (CT K)) := by
  obtain ⟨fd, F⟩ := T.f_Table_contains
  have G : Ok P w K mg base 2 (ga K "is_key") spKey := ok_is_key T
  refine ok_of F sc_Table_contains (F.binds fun _ _ _ _ _ _ us hl => match us, hl with | [_, _], _ => rfl) (fun vs H Q E h => ?_) (fun cdv A outer s H vs Q E hr h => ?_)
  · obtain ⟨t, U, k, rfl, _⟩ := h
    rfl
  · obtain ⟨t, U, i, rfl, ⟨g, dx, d, R, h1, h2, p⟩, k⟩ := h
    have hu := hu_of hr
    refine ⟨_, pss_one (ps_ret (pe_and (pe_fn G hr T.g_is_key (pa_cons (pv 1) pa_nil)) (pe_one (pe_cmp (pc_din hu (pv 1) (pe_fld (pv 0) rfl)))))), ?_⟩
    refine ⟨_, rfl, i, rfl, inB i, rfl, ?_⟩
    have hlook : look R i = look U i := look_perm (keys_nodup g.srt) p i
    by_cases c : inB i = true
    · rw [c]
      refine iteT ⟨_, rfl, _, rfl, t, CT K, dx, _, _, rfl, h1, T.cl_Table, T.no_wants, fs_wants _, d, _, rfl, DGet.k (k := Sum.inl i) h2, ?_⟩
      rw [valV_dkv, hlook, Option.isSome_map]
      exact k
    · rw [Bool.eq_false_iff.mpr c]
      refine iteF ?_
      have : look U i = none := by
        cases e : look U i with
        | none => rfl
        | some n => exact absurd (g.look_in e).1 c
      rw [this] at k
      exact k
theorem sc_Table_getitem : FnScope ["self", "key"] ["self", "key"] (defScope s_Table_getitem) := ⟨rfl, rfl, rfl, by decide +kernel, rfl, by decide +kernel, by decide +kernel⟩
theorem ok_Table_getitem (T : Txt K mg) : Ok P w K mg base 4 (ma K (CT K) "__getitem__") (spGet (CT K)) := by
  obtain ⟨fd, F⟩ := T.f_Table_getitem
  have G : Ok P w K mg base 3 (ma K (CT K) "__contains__") (spHas (CT K)) := ok_Table_contains T
  refine ok_of F sc_Table_getitem (F.binds fun _ _ _ _ _ _ us hl => match us, hl with | [_, _], _ => rfl) (fun vs H Q E h => ?_) (fun cdv A outer s H vs Q E hr h => ?_)
  · obtain ⟨t, U, k, n, rfl, _⟩ := h
    rfl
  · obtain ⟨t, U, i, n, rfl, ht, hl, k⟩ := h
    have hu := hu_of hr
    refine ⟨_, pss_cons (ps_if (pt_cmpR (op_ownNotIn T.m_contains.at_ T.m_contains.fn G hr) (pv 1) (pv 0) rfl) (pss_one ps_never) pss_nil) (pss_one (ps_ret (pe_dget hu (pe_fld (pv 0) rfl) (pv 1) (fun _ _ => rfl)))), ?_⟩
    obtain ⟨g, dx, d, R, h1, h2, p⟩ := id ht
    refine ⟨_, rfl, _, rfl, t, dx, _, rfl, h1, t, U, i, rfl, ht, _, rfl, _, rfl, ?_⟩
    rw [hl]
    refine iteF ⟨_, rfl, t, CT K, dx, _, _, rfl, h1, T.cl_Table, T.no_wants, fs_wants _, _, rfl, d, .int n, rfl, ?_, k⟩
    have q := DGet.k (k := Sum.inl i) h2
    rw [valV_dkv, look_perm (keys_nodup g.srt) p i, hl] at q
    exact q
theorem sc_Table_len : FnScope ["self"] ["self"] (defScope s_Table_len) := ⟨rfl, rfl, rfl, by decide +kernel, rfl, by decide +kernel, by decide +kernel⟩
theorem ok_Table_len (T : Txt K mg) : Ok P w K mg base 1 (ma K (CT K) "__len__") (spLen (CT K)) := by
  obtain ⟨fd, F⟩ := T.f_Table_len
  refine ok_of F sc_Table_len (F.binds fun _ _ _ _ _ _ us hl => match us, hl with | [_], _ => rfl) (fun vs H Q E h => ?_) (fun cdv A outer s H vs Q E hr h => ?_)
  · obtain ⟨t, U, rfl, _⟩ := h
    rfl
  · obtain ⟨t, U, rfl, ⟨g, dx, d, R, h1, h2, p⟩, k⟩ := h
    refine ⟨_, pss_one (ps_ret (pe_callB call_lenD (by rfl) T.b_len PySem.boot_len (pa_cons (pe_fld (pv 0) rfl) pa_nil))), ?_⟩
    refine ⟨_, rfl, t, CT K, dx, _, _, rfl, h1, T.cl_Table, T.no_wants, fs_wants _, d, _, rfl, h2, ?_⟩
    have : (dkv R).length = U.length := by unfold dkv; rw [List.length_map]; exact p.length_eq
    rw [this]
    exact k
end
end Rc
set_option Elab.async false
set_option linter.all false
set_option maxRecDepth 100000
set_option maxHeartbeats 4000000
namespace Rc
open PySem PySem.Spec PyProof.Rows L2 He He5 C8
/-- the pair that a reference stands for -/
def pk (H : Hp) (x : V) : Int × Int := match x with
  | .ref t => (match H t with
    | some (.tup [.int i, .int j]) => (i, j)
    | _ => (0, 0))
  | _ => (0, 0)
theorem pk_of {H : Hp} {p : Addr} {r : Int × Int} (h : H p = some (.tup [.int r.1, .int r.2])) : pk H (.ref p) = r := by
  unfold pk
  simp only [h]
theorem Pairs.mem {H : Hp} {xs : List V} {R : Rows} (h : Pairs H xs R) : ∀ x ∈ xs, ∃ p, x = V.ref p ∧ H p = some (.tup [.int (pk H x).1, .int (pk H x).2]) := fun x hx => by
  obtain ⟨i, hi, e⟩ := List.mem_iff_getElem.mp hx
  obtain ⟨p, r, h1, h2, h3⟩ := h.2 i x (by rw [List.getElem?_eq_getElem hi, e])
  exact ⟨p, h2, by rw [h2, pk_of h3]; exact h3⟩
theorem Pairs.map {H : Hp} {xs : List V} {R : Rows} (h : Pairs H xs R) : xs.map (pk H) = R := by
  refine List.ext_getElem? fun i => ?_
  rw [List.getElem?_map]
  cases e : xs[i]? with
  | none =>
    have : R[i]? = none := List.getElem?_eq_none_iff.mpr (by have := List.getElem?_eq_none_iff.mp e; have := h.1; omega)
    rw [this]
    rfl
  | some x =>
    obtain ⟨p, r, h1, h2, h3⟩ := h.2 i x e
    rw [h1, h2]
    exact congrArg some (pk_of h3)
theorem pairs_of {H : Hp} {xs : List V} {R : Rows} (h : ∀ x ∈ xs, ∃ p, x = V.ref p ∧ H p = some (.tup [.int (pk H x).1, .int (pk H x).2])) (e : xs.map (pk H) = R) : Pairs H xs R := by
  refine ⟨by rw [← e, List.length_map], fun i x hx => ?_⟩
  obtain ⟨p, h1, h2⟩ := h x (List.mem_of_getElem? hx)
  exact ⟨p, pk H x, by rw [← e, List.getElem?_map, hx]; rfl, h1, h2⟩
theorem pairs_sorted {H : Hp} {xs ys : List V} {R T : Rows} (h : Pairs H xs R) (p : R.Perm T) (st : T.Pairwise fun a b => a.1 < b.1) (hs : SrtO.Srtd (ltP (pk H)) ys) (hp : ys.Perm xs) : Pairs H ys T := by
  refine pairs_of (fun x hx => h.mem x (hp.mem_iff.mp hx)) (sorted_one st ?_ ?_)
  · refine List.pairwise_map.mpr (List.Pairwise.imp (fun {a b} c => ?_) hs)
    have q := SrtO.lexB_no.mp c
    omega
  · have q := (hp.map (pk H)).trans (by rw [h.map])
    exact q.trans p
theorem Pairs.at {H H' : Hp} {xs : List V} {R : Rows} (h : Pairs H xs R) (k : ∀ b l, H b = some (.tup l) → H' b = some (.tup l)) : Pairs H' xs R := by
  refine ⟨h.1, fun i x e => ?_⟩
  obtain ⟨p, r, h1, h2, h3⟩ := h.2 i x e
  exact ⟨p, r, h1, h2, k _ _ h3⟩
theorem pairs_nil {H : Hp} : Pairs H [] [] := ⟨rfl, fun i x h => by simp at h⟩
theorem pairs_snoc {H : Hp} {xs : List V} {R : Rows} {p : Addr} {r : Int × Int} (h : Pairs H xs R) (hp : H p = some (.tup [.int r.1, .int r.2])) : Pairs H (xs ++ [.ref p]) (R ++ [r]) := by
  refine ⟨by rw [List.length_append, List.length_append, h.1]; rfl, fun i x e => ?_⟩
  by_cases c : i < xs.length
  · rw [List.getElem?_append_left c] at e
    obtain ⟨q, s, h1, h2, h3⟩ := h.2 i x e
    exact ⟨q, s, by rw [List.getElem?_append_left (by rw [← h.1]; exact c)]; exact h1, h2, h3⟩
  · have hi : i = xs.length := by
      have := getE_lt e
      rw [List.length_append, List.length_singleton] at this
      omega
    subst hi
    rw [List.getElem?_append_right (Nat.le_refl _), Nat.sub_self] at e
    have ex : x = V.ref p := (Option.some.inj e).symm
    exact ⟨p, r, by rw [h.1, List.getElem?_append_right (Nat.le_refl _), Nat.sub_self]; rfl, ex, hp⟩
theorem take_more {α : Type} {l : List α} {i : Nat} {x : α} (h : l[i]? = some x) : l.take (i + 1) = l.take i ++ [x] := by
  rw [List.take_add_one, h]
  rfl
section
variable {P : Program} {w : World} {K : PySem.W.Frag} {mg : Str → Option Value} {base : Heap}
def spRows (C : Addr) : Sp := fun vs H Q _ => ∃ (t : Addr) (T : Rows), vs = [.ref t] ∧ TabAt C H t T ∧ ∀ (H' : Hp) (p : Addr) (xs : List V), Same H H' → H' p = some (.tup xs) → Pairs H' xs T → Q (.ref p) H'
theorem sc_Table_rows : FnScope ["self", "key"] ["self"] (defScope s_Table_rows) := ⟨rfl, rfl, rfl, by decide +kernel, rfl, by decide +kernel, by decide +kernel⟩
theorem ok_Table_rows (T : Txt K mg) : Ok P w K mg base 1 (getter K "Table" "rows") (spRows (CT K)) := by
  obtain ⟨fd, F⟩ := T.f_Table_rows
  refine ok_of F sc_Table_rows (F.binds fun _ _ _ _ _ _ us hl => match us, hl with | [_], _ => rfl) (fun vs H Q E h => ?_) (fun cdv A outer s H vs Q E hr h => ?_)
  · obtain ⟨t, U, rfl, _⟩ := h
    rfl
  · obtain ⟨t, U, rfl, ⟨g, dx, d, R, h1, h2, p⟩, k⟩ := h
    have hu := hu_of hr
    have nd := sc_Table_rows.nd
    refine ⟨_, pss_one (ps_ret (pe_callTy call_tuple_of (by rfl) T.b_tuple (by decide +kernel) (pa_cons (pe_callB cr_sortedPO (by rfl) T.b_sorted (by decide +kernel) (pa_cons (pe_lock (pe_lc (own := [("key", 1)]) (g := gName 1) (tt := tYes) (te := tTup (tCons (tVar 1) (tCons (tDGet (tFld K (tVar 0) "wants") (tVar 1)) tNil))) rfl nd (pi_keys (pe_fld (pv 0) rfl))
      (blkOk_by (N := ["self", "key"]) (sc := defScope s_Table_rows) (by decide +kernel)) (fun _ _ _ _ _ => pg_name (i := 1) nd rfl (Or.inl rfl)) (fun _ _ _ _ _ => pts_nil) ?he)) pa_nil)) pa_nil))), ?_⟩
    · intro s1 H1 C cl fp
      exact pe_tup (pa_cons (pv 1) (pa_cons (pe_dget hu (pe_fld (pv 0) rfl) (pv 1) (fun _ _ => rfl)) pa_nil))
    refine ⟨d, .dK (dkv R), h2, trivial, fun od => ?_⟩
    have ntd : t ≠ d := ne_of h1 h2 (by intro z; cases z)
    have hlen : (dkv R).length = R.length := by unfold dkv; exact List.length_map ..
    have ht2 : (upd H d (.frz od (.dK (dkv R)))) t = some (.ins (CT K) dx [(("wants" : Str), .ref d)]) := by rw [upd_ne ntd]; exact h1
    refine ⟨_, rfl, t, CT K, dx, _, _, rfl, ht2, T.cl_Table, T.no_wants, fs_wants _, d, od, rfl, .inl ⟨_, upd_same, fun D hD => ?_⟩⟩
    refine lc_it (walk_keys (d := d) (o := od) (kvs := dkv R)) (fun i H' => Same (upd H d (.frz od (.dK (dkv R)))) H' ∧ ∃ xs, H' D = some (.lst xs) ∧ Pairs H' xs (R.take i)) ⟨sameUpd hD, [], upd_same, pairs_nil⟩
      (fun i H' _ q => q.1 _ _ upd_same) ?_ ?_
    · rintro i x H' H'' hi ⟨s1, xs, hx, hps⟩ ⟨rfl, kk, v, e1, rfl⟩
      obtain ⟨r, e2, e3⟩ := map_at e1
      cases e3
      have hlt : i < R.length := by rw [← hlen]; exact hi
      refine ⟨rfl, ?_⟩
      refine ⟨_, rfl, _, rfl, t, CT K, dx, _, _, rfl, s1 _ _ ht2, T.cl_Table, T.no_wants, fs_wants _, _, rfl, d, .int r.2, rfl, ?_, (by show 2 ≤ sizeLine; decide), fun q hq => ?_⟩
      · have z : DGet H'' d (.int r.1) (valV (dkv R) (Sum.inl r.1 : Key)) := .inl ⟨_, _, .inr ⟨_, s1 _ _ upd_same⟩, rfl, rfl⟩
        rw [valV_dkv, look_of ((show (keys R).Perm (keys U) from List.Perm.map (fun r : Int × Int => r.1) p).nodup_iff.mpr (keys_nodup g.srt)) (List.mem_of_getElem? e2)] at z
        exact z
      · have nDq : D ≠ q := ne_of_none hx hq
        refine ⟨xs, by rw [upd_ne nDq]; exact hx, ?_, ?_⟩
        · rw [hps.1, List.length_take]
          exact small40 (by have := g.len; have := p.length_eq; omega)
        · have st : Same H'' (upd H'' q (.tup [.int r.1, .int r.2])) := sameUpd hq
          refine ⟨fun b o e => ?_, _, upd_same, ?_⟩
          · have nb : b ≠ D := ne_of_none e hD
            rw [upd_ne nb]
            exact st _ _ (s1 _ _ e)
          · rw [take_more e2]
            have hps2 : Pairs (upd H'' q (.tup [.int r.1, .int r.2])) (xs ++ [.ref q]) (R.take i ++ [r]) := pairs_snoc (hps.same st) upd_same
            refine hps2.at fun b l hb => ?_
            rw [upd_ne]
            · exact hb
            · intro z
              rw [z, upd_ne nDq, hx] at hb
              cases hb
    · rintro H' ⟨s1, xs, hx, hps⟩
      rw [hlen, List.take_length] at hps
      have s2 : Same H (upd H' d (.dK (dkv R))) := sameUnlock h2 s1
      have nDd : D ≠ d := fun z => by
        rw [z, upd_same] at hD
        cases hD
      have fz : H' d = some (.frz od (.dK (dkv R))) := s1 _ _ upd_same
      have hps2 : Pairs (upd H' d (.dK (dkv R))) xs R := hps.at fun b l hb => by
        rw [upd_ne (ne_of hb fz (by intro z; cases z))]
        exact hb
      refine ⟨fz, D, xs, pk (upd H' d (.dK (dkv R))), rfl, SqL.of (by rw [upd_ne nDd]; exact hx), hps2.mem, fun ys l hs hb hl => ?_⟩
      refine ⟨l, ys, rfl, .inl ⟨SqL.of upd_same, fun m hm => ?_⟩⟩
      have s3 : Same (upd H' d (.dK (dkv R))) (upd (upd H' d (.dK (dkv R))) l (.lst ys)) := sameUpd hl
      have s4 := sameUpd (o := .tup ys) hm
      exact k _ m ys (s2.trans (s3.trans s4)) upd_same ((pairs_sorted hps2 p g.srt hs hb.perm).same (s3.trans s4))
end
end Rc
set_option Elab.async false
set_option linter.all false
set_option maxRecDepth 100000
set_option maxHeartbeats 4000000
namespace Rc
open PySem PySem.Spec PyProof.Rows L2 He He5 C8
section
variable {P : Program} {w : World} {K : PySem.W.Frag} {mg : Str → Option Value} {base : Heap}
def spAdd (C : Addr) : Sp := fun vs H Q _ => ∃ (t p : Addr) (xs : List V) (R : Rows), vs = [.ref t, .ref p] ∧ TabAt C H t [] ∧ H p = some (.tup xs) ∧ Pairs H xs R ∧ RowsOk R ∧
  ∀ (H' : Hp) (u : Addr) (T : Rows), Same H H' → R.Perm T → TabAt C H' u T → Q (.ref u) H'
theorem sc_Table_add : FnScope ["self", "other", "rows"] ["self", "other"] (defScope s_Table_add) := ⟨rfl, rfl, rfl, by decide +kernel, rfl, by decide +kernel, by decide +kernel⟩
theorem ok_Table_add (T : Txt K mg) : Ok P w K mg base 7 (ma K (CT K) "__add__") (spAdd (CT K)) := by
  obtain ⟨fd, F⟩ := T.f_Table_add
  have GR : Ok P w K mg base 1 (getter K "Table" "rows") (spRows (CT K)) := ok_Table_rows T
  have GM : Ok P w K mg base 1 (ga K "more_rows") spMore := ok_more_rows T
  have GI : Ok P w K mg base 5 (ma K (CT K) "__init__") (spTInit (CT K)) := ok_Table_init T
  refine ok_of F sc_Table_add (F.binds fun _ _ _ _ _ _ us hl => match us, hl with | [_, _], _ => rfl) (fun vs H Q E h => ?_) (fun cdv A outer s H vs Q E hr h => ?_)
  · obtain ⟨t, p, xs, R, rfl, _⟩ := h
    rfl
  · obtain ⟨t, p, xs, R, rfl, ht, hp, hps, ok, k⟩ := h
    have nd := sc_Table_add.nd
    refine ⟨_, pss_cons (ps_set (i := 2) nd rfl (Or.inl rfl) (pe_op op_cat (pe_callTy call_list_of (by rfl) T.b_list (by decide +kernel) (pa_cons (pe_propR (pv 0) T.cl_Table T.p_rows GR (hr.mono (by decide))) pa_nil)) (pe_fn GM (hr.mono (by decide)) T.g_more_rows (pa_cons (pv 1) pa_nil))))
      (pss_one (ps_ret (pe_makeS T.mk_Table GI hr T.g_Table.1 (pv 2)))), ?_⟩
    obtain ⟨g, dx, d, R0, h1, h2, p0⟩ := id ht
    refine ⟨_, rfl, t, dx, _, rfl, h1, t, [], rfl, ht, fun H1 q ys s1 hq hy => ?_⟩
    have ey : ys = [] := List.eq_nil_of_length_eq_zero hy.1
    subst ey
    refine ⟨q, [], rfl, .inr (SqT.of hq), fun l hl => ?_⟩
    have s2 : Same H (upd H1 l (.lst [])) := sameNew s1 (s1.free hl)
    refine ⟨_, rfl, p, xs, rfl, s2 _ _ hp, fun m hm => ?_⟩
    have nlm : l ≠ m := ne_of_none upd_same hm
    have hz : xs.length ≤ 40 := by rw [hps.1]; exact ok.len
    refine ⟨l, m, [], xs, rfl, rfl, by rw [upd_ne nlm]; exact upd_same, upd_same, Nat.le_of_lt (small40 (by simpa using hz)), fun n hn => ?_⟩
    have s3 := sameNew (o := .lst xs) s2 (s2.free hm)
    have s4 := sameNew (o := .lst ([] ++ xs)) s3 (s3.free hn)
    refine ⟨_, rfl, n, xs, rfl, .inr (SqL.of upd_same), fun x dx' hx hdx ne => ?_⟩
    have s5 := sameNew (o := .own x) s4 (s4.free hdx)
    have s6 := sameNew (o := .ins (CT K) dx' []) s5 (by rw [s5.free (l := x) (by rw [upd_ne ne.symm]; exact hx)])
    refine ⟨x, dx', xs, R, rfl, Nat.le_of_lt (small40 hz), upd_same, hps.same s6, ok, fun H' d' hk hx' hd' => ⟨rfl, ?_⟩⟩
    obtain ⟨T', pT, gT⟩ := rows_sorted ok
    refine k H' x T' (fun b o e => hk b o ?_ (s6 b o e)) pT ⟨gT, dx', d', R, hx', hd', pT⟩
    intro z
    rw [z, s5.free (l := x) (by rw [upd_ne ne.symm]; exact hx)] at e
    cases e
def spKeys (C : Addr) : Sp := fun vs H Q _ => ∃ (t : Addr) (T : Rows), vs = [.ref t] ∧ TabAt C H t T ∧ ∀ (H' : Hp) (p : Addr), Same H H' → H p = none → H' p = some (.lst ((keys T).map V.int)) → Q (.ref p) H'
theorem sc_keys_of : FnScope ["table", "key", "new"] ["table"] (defScope s_keys_of) := ⟨rfl, rfl, rfl, by decide +kernel, rfl, by decide +kernel, by decide +kernel⟩
theorem ok_keys_of (T : Txt K mg) : Ok P w K mg base 3 (ga K "keys_of") (spKeys (CT K)) := by
  obtain ⟨fd, F⟩ := T.f_keys_of
  have GR : Ok P w K mg base 1 (getter K "Table" "rows") (spRows (CT K)) := ok_Table_rows T
  refine ok_of F sc_keys_of (F.binds fun _ _ _ _ _ _ us hl => match us, hl with | [_], _ => rfl) (fun vs H Q E h => ?_) (fun cdv A outer s H vs Q E hr h => ?_)
  · obtain ⟨t, U, rfl, _⟩ := h
    rfl
  · obtain ⟨t, U, rfl, ht, k⟩ := h
    have nd := sc_keys_of.nd
    refine ⟨_, pss_one (ps_ret (pe_lc (own := [("key", 1), ("new", 2)]) (g := gTup K 2 (gCons (gName 1) (gCons (gName 2) gNil))) (tt := tYes) (te := tVar 1) rfl nd (pi_tup (pe_propR (pv 0) T.cl_Table T.p_rows GR hr))
      (blkOk_by (N := ["table", "key", "new"]) (sc := defScope s_keys_of) (by decide +kernel)) (fun _ _ _ _ _ => pg_tup rfl (pgs_cons (pg_name (i := 1) nd rfl (Or.inl rfl)) (pgs_cons (pg_name (i := 2) nd rfl (Or.inl rfl)) pgs_nil))) (fun _ _ _ _ _ => pts_nil) (fun _ _ _ _ _ => pv 1))), ?_⟩
    obtain ⟨g, dx, d, R0, h1, h2, p0⟩ := id ht
    refine ⟨_, rfl, t, dx, _, rfl, h1, t, U, rfl, ht, fun H1 q xs s1 hq hy => ?_⟩
    refine ⟨q, rfl, ⟨xs, SqT.of hq⟩, fun D hD => ?_⟩
    refine lc_it (walk_tup (K := K) (a := q) (xs := xs)) (fun i H2 => Same H1 H2 ∧ H2 D = some (.lst ((keys (U.take i)).map V.int))) ⟨sameUpd hD, upd_same⟩ (fun i H2 _ z => SqT.of (z.1 _ _ hq)) ?_ ?_
    · rintro i x H2 H3 hi ⟨s2, hx⟩ ⟨rfl, e1⟩
      obtain ⟨a, r, e2, rfl, e3⟩ := hy.2 i x e1
      refine ⟨a, _, rfl, SqT.of (s2 _ _ e3), rfl, _, _, rfl, _, _, rfl, rfl, rfl, ?_⟩
      refine ⟨_, rfl, _, hx, ?_, sameNew s2 hD, ?_⟩
      · unfold keys
        rw [List.length_map, List.length_map, List.length_take]
        exact small40 (by have := g.len; omega)
      · rw [upd_same, take_more e2]
        unfold keys
        rw [List.map_append, List.map_append]
        rfl
    · rintro H2 ⟨s2, hx⟩
      rw [hy.1, List.take_length] at hx
      exact k H2 D (s1.trans s2) (s1.free hD) hx
def spNeed (C : Addr) : Sp := fun vs H Q _ => ∃ (t : Addr) (T : Rows), vs = [.ref t] ∧ TabAt C H t T ∧ Q .non H
theorem sc_need_table : FnScope ["table"] ["table"] (defScope s_need_table) := ⟨rfl, rfl, rfl, by decide +kernel, rfl, by decide +kernel, by decide +kernel⟩
theorem ok_need_table (T : Txt K mg) : Ok P w K mg base 1 (ga K "need_table") (spNeed (CT K)) := by
  obtain ⟨fd, F⟩ := T.f_need_table
  refine ok_of F sc_need_table (F.binds fun _ _ _ _ _ _ us hl => match us, hl with | [_], _ => rfl) (fun vs H Q E h => ?_) (fun cdv A outer s H vs Q E hr h => ?_)
  · obtain ⟨t, U, rfl, _⟩ := h
    rfl
  · obtain ⟨t, U, rfl, ⟨g, dx, d, R, h1, h2, p⟩, k⟩ := h
    refine ⟨_, pss_one (ps_if (pt_not (pt_val (pe_callB call_isi (by rfl) T.b_isinstance (by decide +kernel) (pa_cons (pv 0) (pa_cons (pe_glob (v := .ref (CT K)) rfl T.g_Table.1 rfl) pa_nil))))) (pss_one ps_never) pss_nil), ?_⟩
    refine ⟨_, rfl, _, _, .ref (CT K), .ref (CT K), true, rfl, .own _, .base (.ins h1 T.ins.cl T.ins.ha T.ins.hn T.ins.htk T.ins.hm), T.ins.me, true, rfl, iteF k⟩
end
end Rc
set_option Elab.async false
set_option linter.all false
set_option maxRecDepth 100000
set_option maxHeartbeats 4000000
namespace Rc
open PySem PySem.Spec PyProof.Rows L2 He He5 C8
/-! ### data: lists and tuples of ints, lists of tuples of ints -/
theorem dp_ints {K : PySem.W.Frag} {H : Hp} : ∀ ns : List Int, DpAll K H (ns.map V.int) (ns.map PyData.int)
  | [] => .nil
  | n :: ns => .cons (.int n) (dp_ints ns)
theorem eqv_int (i j : Int) : PyData.eqv (.int i) (.int j) = decide (i = j) := by
  unfold PyData.eqv
  by_cases h : i = j <;> simp [h]
theorem eqvAll_ints : ∀ ns ms : List Int, PyData.eqvAll (ns.map PyData.int) (ms.map PyData.int) = decide (ns = ms)
  | [], [] => by simp [PyData.eqvAll]
  | [], _ :: _ => by simp [PyData.eqvAll]
  | _ :: _, [] => by simp [PyData.eqvAll]
  | n :: ns, m :: ms => by
    show PyData.eqvAll (.int n :: ns.map PyData.int) (.int m :: ms.map PyData.int) = _
    unfold PyData.eqvAll
    rw [eqv_int, eqvAll_ints ns ms]
    by_cases h : n = m <;> by_cases h2 : ns = ms <;> simp [h, h2]
theorem eqv_lists (ns ms : List Int) : PyData.eqv (.list (ns.map PyData.int)) (.list (ms.map PyData.int)) = decide (ns = ms) := by
  unfold PyData.eqv
  exact eqvAll_ints ns ms
theorem eqv_tuples (ns ms : List Int) : PyData.eqv (.tuple (ns.map PyData.int)) (.tuple (ms.map PyData.int)) = decide (ns = ms) := by
  unfold PyData.eqv
  exact eqvAll_ints ns ms
def tupD (l : List Int) : PyData := .tuple (l.map PyData.int)
theorem eqvAll_nil : ∀ ls : List (List Int), PyData.eqv (.list (ls.map tupD)) (.list []) = decide (ls = [])
  | [] => by simp [PyData.eqv, PyData.eqvAll]
  | l :: ls => by simp [PyData.eqv, PyData.eqvAll]
theorem dp_tups {K : PySem.W.Frag} {H : Hp} : ∀ {xs : List V} {ls : List (List Int)}, Tups H xs ls → DpAll K H xs (ls.map tupD)
  | [], [], _ => .nil
  | [], _ :: _, h => by
    have := h.1
    simp at this
  | _ :: _, [], h => by
    have := h.1
    simp at this
  | x :: xs, l :: ls, h => by
    obtain ⟨p, m, h1, h2, h3⟩ := h.2 0 x rfl
    obtain rfl : l = m := Option.some.inj h1
    rw [h2]
    refine .cons (.tup (SqT.of h3) (dp_ints l)) (dp_tups ⟨by have := h.1; simpa using this, fun i y e => ?_⟩)
    obtain ⟨q, n, g1, g2, g3⟩ := h.2 (i + 1) y (by simpa using e)
    exact ⟨q, n, by simpa using g1, g2, g3⟩
theorem shp_ints : ∀ ns : List Int, PyData.canLayAll0 (ns.map PyData.int) = true ∧ PyData.depthAll (ns.map PyData.int) = 0
  | [] => ⟨rfl, rfl⟩
  | n :: ns => by
    obtain ⟨h1, h2⟩ := shp_ints ns
    refine ⟨?_, ?_⟩
    · show PyData.canLayAll0 (.int n :: ns.map PyData.int) = true
      simp [PyData.canLayAll0, PyData.canLay0, h1]
    · show PyData.depthAll (.int n :: ns.map PyData.int) = 0
      simp [PyData.depthAll, PyData.depth, h2]
theorem sh_list (ns : List Int) : SeqAt.shaped (.list (ns.map PyData.int)) = true := by
  unfold SeqAt.shaped
  simp [PyData.canLay0, PyData.depth, shp_ints ns]
theorem sh_tup (ns : List Int) : SeqAt.shaped (.tuple (ns.map PyData.int)) = true := by
  unfold SeqAt.shaped
  simp [PyData.canLay0, PyData.depth, shp_ints ns]
theorem shp_tups : ∀ ls : List (List Int), PyData.canLayAll0 (ls.map tupD) = true ∧ PyData.depthAll (ls.map tupD) ≤ 1
  | [] => ⟨rfl, Nat.zero_le _⟩
  | l :: ls => by
    obtain ⟨h1, h2⟩ := shp_tups ls
    refine ⟨?_, ?_⟩
    · show PyData.canLayAll0 (tupD l :: ls.map tupD) = true
      simp [PyData.canLayAll0, tupD, PyData.canLay0, shp_ints l, h1]
    · show PyData.depthAll (tupD l :: ls.map tupD) ≤ 1
      show max (PyData.depthAll (l.map PyData.int) + 1) (PyData.depthAll (ls.map tupD)) ≤ 1
      rw [(shp_ints l).2]
      exact Nat.max_le.mpr ⟨Nat.le_refl _, h2⟩
theorem sh_tups (ls : List (List Int)) : SeqAt.shaped (.list (ls.map tupD)) = true := by
  obtain ⟨h1, h2⟩ := shp_tups ls
  unfold SeqAt.shaped
  rw [show PyData.canLay0 (.list (ls.map tupD)) = true from h1, Bool.true_and, decide_eq_true_eq]
  show PyData.depthAll (ls.map tupD) + 1 ≤ 64
  omega
theorem sh_nil : SeqAt.shaped (.list []) = true := sh_list []
theorem sh_nilT : SeqAt.shaped (.tuple []) = true := sh_tup []
/-- two arrangements of ints in ascending order are one -/
theorem ints_one : ∀ {ms ks : List Int}, ms.Pairwise (· ≤ ·) → ks.Pairwise (· < ·) → ms.Perm ks → ms = ks
  | [], ks, _, _, p => (List.nil_perm.mp p).symm
  | m :: ms, [], _, _, p => by cases List.perm_nil.mp p
  | m :: ms, k :: ks, h, g, p => by
    obtain ⟨h1, h2⟩ := List.pairwise_cons.mp h
    obtain ⟨g1, g2⟩ := List.pairwise_cons.mp g
    have e : m = k := by
      rcases List.mem_cons.mp (p.mem_iff.mp (List.mem_cons_self (a := m) (l := ms))) with e | c
      · exact e
      · rcases List.mem_cons.mp (p.mem_iff.mpr (List.mem_cons_self (a := k) (l := ks))) with e | c'
        · exact e.symm
        · have a := h1 k c'
          have b := g1 m c
          omega
    subst e
    rw [ints_one h2 g2 (List.Perm.cons_inv p)]
theorem keys_asc {T : Rows} (g : Good T) : (keys T).Pairwise (· < ·) := List.pairwise_map.mpr g.srt
end Rc
set_option maxRecDepth 100000
set_option maxHeartbeats 1000000
/-! Paths. -/
namespace Rc
theorem wait_some {T : Rows} {k r : Int} (h : waitT T k = some r) : look T k = some r ∧ r ≠ k ∧ r ∈ keys T := by
  unfold waitT at h
  cases e : look T k with
  | none =>
    rw [e] at h
    cases h
  | some n =>
    rw [e] at h
    simp only at h
    split at h
    · rename_i c
      cases h
      exact ⟨rfl, c.1, look_some.mp c.2⟩
    · cases h
theorem wait_eq {T : Rows} {k n : Int} (h : look T k = some n) : waitT T k = if n ≠ k ∧ (look T n).isSome = true then some n else none := by
  unfold waitT
  rw [h]
/-- a list of different numbers out of another is no longer -/
theorem nodup_le : ∀ {l m : List Int}, l.Nodup → (∀ x ∈ l, x ∈ m) → l.length ≤ m.length
  | [], _, _, _ => Nat.zero_le _
  | x :: l, m, h, s => by
    obtain ⟨h1, h2⟩ := List.nodup_cons.mp h
    have hx : x ∈ m := s x List.mem_cons_self
    have q := nodup_le (l := l) (m := m.erase x) h2 fun y hy => (List.mem_erase_of_ne (fun e : y = x => h1 (by rw [← e]; exact hy))).mpr (s y (List.mem_cons_of_mem _ hy))
    rw [List.length_erase_of_mem hx] at q
    have := List.length_pos_of_mem hx
    rw [List.length_cons]
    omega
/-- the loop of path_of -/
structure PathInv (T : Rows) (k : Int) (found : List Int) (row : Option Int) : Prop where
  nd : found.Nodup
  sub : ∀ x ∈ found, x ∈ keys T
  inn : ∀ r, row = some r → r ∈ keys T
  goes : pathGo T (T.length + 2 - found.length) found row = pathT T k
  ne : found ≠ []
  pre : ∃ rest, found = k :: rest
  ch : ∀ i a b, found[i]? = some a → found[i + 1]? = some b → waitT T a = some b
  last : ∃ l, found.getLast? = some l ∧ row = waitT T l
theorem PathInv.small {T : Rows} {k : Int} {found : List Int} {row : Option Int} (h : PathInv T k found row) : found.length ≤ T.length := by
  have q := nodup_le h.nd h.sub
  unfold keys at q
  rw [List.length_map] at q
  exact q
theorem path_start {T : Rows} {k : Int} (h : k ∈ keys T) : PathInv T k [k] (waitT T k) := by
  refine ⟨by simp, fun x hx => by rw [List.mem_singleton.mp hx]; exact h, fun r e => (wait_some e).2.2, rfl, by simp, ⟨[], rfl⟩, fun i a b h1 h2 => ?_, k, rfl, rfl⟩
  have : i + 1 < 1 := (List.getElem?_eq_some_iff.mp h2).1
  omega
theorem path_step {T : Rows} {k r : Int} {found : List Int} (h : PathInv T k found (some r)) (hr : r ∉ found) : PathInv T k (found ++ [r]) (waitT T r) := by
  have small := h.small
  obtain ⟨rest, hpre⟩ := h.pre
  obtain ⟨l, hl, hrow⟩ := h.last
  refine ⟨?_, fun x hx => ?_, fun r' e => (wait_some e).2.2, ?_, by simp, ⟨rest ++ [r], by rw [hpre]; rfl⟩, fun i a b h1 h2 => ?_, r, by simp, rfl⟩
  · refine List.nodup_append.mpr ⟨h.nd, by simp, fun a ha b hb e => ?_⟩
    rw [List.mem_singleton.mp hb] at e
    exact hr (e ▸ ha)
  · rcases List.mem_append.mp hx with hx | hx
    · exact h.sub x hx
    · rw [List.mem_singleton.mp hx]
      exact h.inn r rfl
  · rw [← h.goes]
    have e : T.length + 2 - found.length = (T.length + 2 - (found ++ [r]).length) + 1 := by
      rw [List.length_append, List.length_singleton]
      omega
    rw [e]
    show _ = (if r ∈ found then found else pathGo T (T.length + 2 - (found ++ [r]).length) (found ++ [r]) (waitT T r))
    rw [if_neg hr]
  · by_cases c : i + 1 < found.length
    · rw [List.getElem?_append_left c] at h2
      rw [List.getElem?_append_left (by omega)] at h1
      exact h.ch i a b h1 h2
    · have hi : i + 1 < (found ++ [r]).length := (List.getElem?_eq_some_iff.mp h2).1
      rw [List.length_append, List.length_singleton] at hi
      have e : i + 1 = found.length := by omega
      rw [List.getElem?_append_right (by omega), e, Nat.sub_self] at h2
      have eb : r = b := Option.some.inj h2
      rw [List.getElem?_append_left (by omega)] at h1
      rw [List.getLast?_eq_getElem?, show found.length - 1 = i by omega, h1] at hl
      cases hl
      rw [← hrow, eb]
theorem path_end {T : Rows} {k : Int} {found : List Int} {row : Option Int} (h : PathInv T k found row) (he : ∀ r, row = some r → r ∈ found) : found = pathT T k := by
  have small := h.small
  rw [← h.goes]
  have e : T.length + 2 - found.length = (T.length + 1 - found.length) + 1 := by omega
  rw [e]
  cases row with
  | none => rfl
  | some r =>
    show found = (if r ∈ found then found else _)
    rw [if_pos (he r rfl)]
/-- what holds at the end: the path of k, by its end -/
theorem path_run {T : Rows} {k : Int} : ∀ (f : Nat) {found : List Int} {row : Option Int}, PathInv T k found row → T.length + 1 ≤ found.length + f → ∃ row', PathInv T k (pathT T k) row' ∧ ∀ r, row' = some r → r ∈ pathT T k
  | 0, found, row, h, hf => by
    have := h.small
    omega
  | f + 1, found, row, h, hf => by
    by_cases c : ∀ r, row = some r → r ∈ found
    · have e := path_end h c
      rw [e] at h c
      exact ⟨row, h, c⟩
    · cases row with
      | none => exact absurd (fun r e => nomatch e) c
      | some r =>
        have hr : r ∉ found := fun m => c fun r' e => by cases e; exact m
        exact path_run f (path_step h hr) (by rw [List.length_append, List.length_singleton]; omega)
theorem path_ok {T : Rows} {k : Int} (h : k ∈ keys T) : (pathT T k).Nodup ∧ (∀ x ∈ pathT T k, x ∈ keys T) ∧ pathT T k ≠ [] ∧ (pathT T k).length ≤ T.length := by
  obtain ⟨row, q, _⟩ := path_run (T.length + 1) (path_start h) (by simp)
  exact ⟨q.nd, q.sub, q.ne, q.small⟩
/-- the path of a row: it begins with it, each waits for the next, the last waits for none or for one of them -/
structure IsPath (T : Rows) (k : Int) (l : List Int) : Prop where
  nd : l.Nodup
  sub : ∀ x ∈ l, x ∈ keys T
  pre : ∃ rest, l = k :: rest
  ch : ∀ i a b, l[i]? = some a → l[i + 1]? = some b → waitT T a = some b
  fin : ∃ z, l.getLast? = some z ∧ ∀ r, waitT T z = some r → r ∈ l
theorem path_is {T : Rows} {k : Int} (h : k ∈ keys T) : IsPath T k (pathT T k) := by
  obtain ⟨row, q, he⟩ := path_run (T.length + 1) (path_start h) (by simp)
  obtain ⟨z, hz, e⟩ := q.last
  exact ⟨q.nd, q.sub, q.pre, q.ch, z, hz, fun r hr => he r (e.trans hr)⟩
theorem path_mem {T : Rows} {k : Int} (h : k ∈ keys T) : k ∈ pathT T k := by
  obtain ⟨rest, e⟩ := (path_is h).pre
  rw [e]
  exact List.mem_cons_self
theorem ringAt_iff {T : Rows} {k : Int} : ringAt T k = true ↔ ∃ z, (pathT T k).getLast? = some z ∧ waitT T z = some k ∧ ∀ x ∈ pathT T k, k ≤ x := by
  unfold ringAt
  cases e : (pathT T k).getLast? with
  | none => simp
  | some z => simp [List.all_eq_true]
end Rc
set_option Elab.async false
set_option linter.all false
set_option maxRecDepth 100000
set_option maxHeartbeats 4000000
namespace Rc
open PySem PySem.Spec PyProof.Rows L2 He He5 C8
theorem inV_ints (r : Int) : ∀ ns : List Int, inV (.int r) (ns.map V.int) = decide (r ∈ ns)
  | [] => rfl
  | n :: ns => by
    show (eqV (.int n) (.int r) || inV (.int r) (ns.map V.int)) = _
    rw [inV_ints r ns]
    show ((n == r) || decide (r ∈ ns)) = _
    by_cases h : n = r
    · simp [h]
    · have h' : ¬ r = n := fun e => h e.symm
      simp [h, h']
theorem flat_ints (ns : List Int) : (ns.map V.int).all flatV = true := by
  rw [List.all_map, List.all_eq_true]
  intro _ _
  rfl
theorem ints_snoc (ns : List Int) (r : Int) : ns.map V.int ++ [V.int r] = (ns ++ [r]).map V.int := by
  rw [List.map_append]
  rfl
/-- a row or None -/
def ov : Option Int → V
  | none => .non
  | some r => .int r
section
variable {P : Program} {w : World} {K : PySem.W.Frag} {mg : Str → Option Value} {base : Heap}
def spIsOrder (C : Addr) : Sp := fun vs H Q _ => ∃ (t p : Addr) (T : Rows) (o : List Int), vs = [.ref t, .ref p] ∧ TabAt C H t T ∧ H p = some (.tup (o.map V.int)) ∧ o.Perm (keys T) ∧ ∀ H', Same H H' → Q (.bl true) H'
theorem sc_is_order : FnScope ["table", "thing", "key"] ["table", "thing"] (defScope s_is_order) := ⟨rfl, rfl, rfl, by decide +kernel, rfl, by decide +kernel, by decide +kernel⟩
theorem ok_is_order (T : Txt K mg) : Ok P w K mg base 4 (ga K "is_order") (spIsOrder (CT K)) := by
  obtain ⟨fd, F⟩ := T.f_is_order
  have GC : Ok P w K mg base 3 (ma K (CT K) "__contains__") (spHas (CT K)) := ok_Table_contains T
  have GK : Ok P w K mg base 3 (ga K "keys_of") (spKeys (CT K)) := ok_keys_of T
  refine ok_of F sc_is_order (F.binds fun _ _ _ _ _ _ us hl => match us, hl with | [_, _], _ => rfl) (fun vs H Q E h => ?_) (fun cdv A outer s H vs Q E hr h => ?_)
  · obtain ⟨t, p, U, o, rfl, _⟩ := h
    rfl
  · obtain ⟨t, p, U, o, rfl, ht, hp, hperm, k⟩ := h
    have nd := sc_is_order.nd
    refine ⟨_, pss_cons (ps_if (PW.pt (pw_or (pt_not (pt_val (pe_isTy "tuple" T.b_isinstance T.b_tuple (pv 1)))) (pw_or1 (pt_not (pt_val (pe_callB (cr_all rfl) (by rfl) T.b_all (by decide +kernel) (pa_cons
      (pe_lc (own := [("key", 2)]) (g := gName 2) (tt := tYes) (te := tOp (rOwnIn (CT K) (spHas (CT K)) false) (tVar 2) (tVar 0)) rfl nd (pi_tup (pv 1)) (blkOk_by (N := ["table", "thing", "key"]) (sc := defScope s_is_order) (by decide +kernel))
        (fun _ _ _ _ _ => pg_name (i := 2) nd rfl (Or.inl rfl)) (fun _ _ _ _ _ => pts_nil) ?he) pa_nil))))))) (pss_one (ps_ret pe_bl)) pss_nil)
      (pss_one (ps_ret (pe_cmpR (op_eqD hr.units) (pe_callB cr_sortTI (by rfl) T.b_sorted (by decide +kernel) (pa_cons (pv 1) pa_nil)) (pe_fn GK hr T.g_keys_of (pa_cons (pv 0) pa_nil)) (nomark _)))), ?_⟩
    · intro s1 H1 C cl fp
      exact pe_cmpR (op_ownIn T.m_contains.at_ T.m_contains.fn GC hr) (pv 2) (pv 0) rfl
    obtain ⟨g, dx, d, R0, h1, h2, p0⟩ := id ht
    refine ⟨_, rfl, _, _, .type "tuple", .type "tuple", true, rfl, .ty _, .base (.tup hp), kit_ty (by decide +kernel), true, rfl, ?_⟩
    refine iteF ?_
    refine ⟨_, rfl, p, rfl, ⟨_, SqT.of hp⟩, fun D hD => ?_⟩
    have hz : o.length ≤ 40 := by
      have := hperm.length_eq
      unfold keys at this
      rw [List.length_map] at this
      have := g.len
      omega
    refine lc_it (walk_tup (K := K) (a := p) (xs := o.map V.int)) (fun i H2 => Same H H2 ∧ H2 D = some (.lst ((List.replicate i true).map V.bl))) ⟨sameUpd hD, upd_same⟩ (fun i H2 _ z => SqT.of (z.1 _ _ hp)) ?_ ?_
    · rintro i x H2 H3 hi ⟨s2, hx⟩ ⟨rfl, e1⟩
      obtain ⟨y, e2, rfl⟩ := map_at e1
      have ht2 := ht.same s2
      refine ⟨rfl, ?_⟩
      refine ⟨_, rfl, _, rfl, t, dx, _, rfl, s2 _ _ h1, t, U, y, rfl, ht2, _, rfl, ?_⟩
      rw [List.length_map] at hi
      refine ⟨_, hx, ?_, sameNew s2 hD, ?_⟩
      · rw [List.length_map, List.length_replicate]
        exact small40 (by omega)
      · rw [upd_same, List.replicate_succ', List.map_append]
        have : (look U y).isSome = true := look_some.mpr (hperm.mem_iff.mp (List.mem_of_getElem? e2))
        rw [this]
        rfl
    · rintro H2 ⟨s2, hx⟩
      refine ⟨D, _, rfl, SqL.of hx, true, by rw [List.all_replicate]; simp, ?_⟩
      refine iteF ?_
      refine ⟨_, rfl, p, o, rfl, SqT.of (s2 _ _ hp), fun ms l hm1 hm2 hl => ?_⟩
      have s3 : Same H2 (upd H2 l (.lst (ms.map V.int))) := sameUpd hl
      refine ⟨_, rfl, t, U, rfl, (ht.same s2).same s3, fun H4 q s4 hq hk => ?_⟩
      refine ⟨.list (ms.map PyData.int), .list ((keys U).map PyData.int), .lst (SqL.of (s4 _ _ upd_same)) (dp_ints ms), .lst (SqL.of hk) (dp_ints _), sh_list _, sh_list _, ?_⟩
      rw [eqv_lists, decide_eq_true (ints_one hm2 (keys_asc g) (hm1.trans hperm))]
      exact k H4 (s2.trans (s3.trans s4))
def spNeedOrder (C : Addr) : Sp := fun vs H Q _ => ∃ (t p : Addr) (T : Rows) (o : List Int), vs = [.ref t, .ref p] ∧ TabAt C H t T ∧ H p = some (.tup (o.map V.int)) ∧ o.Perm (keys T) ∧ ∀ H', Same H H' → Q .non H'
theorem sc_need_order : FnScope ["table", "order"] ["table", "order"] (defScope s_need_order) := ⟨rfl, rfl, rfl, by decide +kernel, rfl, by decide +kernel, by decide +kernel⟩
theorem ok_need_order (T : Txt K mg) : Ok P w K mg base 5 (ga K "need_order") (spNeedOrder (CT K)) := by
  obtain ⟨fd, F⟩ := T.f_need_order
  have GN : Ok P w K mg base 1 (ga K "need_table") (spNeed (CT K)) := ok_need_table T
  have GO : Ok P w K mg base 4 (ga K "is_order") (spIsOrder (CT K)) := ok_is_order T
  refine ok_of F sc_need_order (F.binds fun _ _ _ _ _ _ us hl => match us, hl with | [_, _], _ => rfl) (fun vs H Q E h => ?_) (fun cdv A outer s H vs Q E hr h => ?_)
  · obtain ⟨t, p, U, o, rfl, _⟩ := h
    rfl
  · obtain ⟨t, p, U, o, rfl, ht, hp, hperm, k⟩ := h
    refine ⟨_, pss_cons (ps_expr (pe_fn GN (hr.mono (by decide)) T.g_need_table (pa_cons (pv 0) pa_nil))) (pss_one (ps_if (pt_not (pt_val (pe_fn GO hr T.g_is_order (pa_cons (pv 0) (pa_cons (pv 1) pa_nil))))) (pss_one ps_never) pss_nil)), ?_⟩
    refine ⟨_, rfl, t, U, rfl, ht, ?_⟩
    exact ⟨_, rfl, _, rfl, t, p, U, o, rfl, ht, hp, hperm, fun H' s' => ⟨true, rfl, iteF (k H' s')⟩⟩
def spWaited (C : Addr) : Sp := fun vs H Q _ => ∃ (t : Addr) (T : Rows) (k : Int), vs = [.ref t, .int k] ∧ TabAt C H t T ∧ k ∈ keys T ∧ Q (ov (waitT T k)) H
theorem sc_waited : FnScope ["table", "key", "new"] ["table", "key"] (defScope s_waited) := ⟨rfl, rfl, rfl, by decide +kernel, rfl, by decide +kernel, by decide +kernel⟩
theorem ok_waited (T : Txt K mg) : Ok P w K mg base 6 (ga K "waited") (spWaited (CT K)) := by
  obtain ⟨fd, F⟩ := T.f_waited
  have GC : Ok P w K mg base 3 (ma K (CT K) "__contains__") (spHas (CT K)) := ok_Table_contains T
  have GG : Ok P w K mg base 4 (ma K (CT K) "__getitem__") (spGet (CT K)) := ok_Table_getitem T
  refine ok_of F sc_waited (F.binds fun _ _ _ _ _ _ us hl => match us, hl with | [_, _], _ => rfl) (fun vs H Q E h => ?_) (fun cdv A outer s H vs Q E hr h => ?_)
  · obtain ⟨t, U, i, rfl, _⟩ := h
    rfl
  · obtain ⟨t, U, i, rfl, ht, hi, k⟩ := h
    have nd := sc_waited.nd
    refine ⟨_, pss_cons (ps_set (i := 2) nd rfl (Or.inl rfl) (pe_ownIx T.m_getitem.at_ T.fn_getitem T.m_getitem.fn GG hr (pv 0) (pv 1) (fun _ _ => rfl)))
      (pss_one (ps_ret (pe_ifExp (PW.pt (pw_and (pt_cmpR op_ne (pv 2) (pv 1) (nomark _)) (pw_and1 (pt_cmpR (op_ownIn T.m_contains.at_ T.m_contains.fn GC (hr.mono (by decide))) (pv 2) (pv 0) rfl)))) (pv 2) pe_non))), ?_⟩
    obtain ⟨g, dx, d, R0, h1, h2, p0⟩ := id ht
    obtain ⟨n, hn⟩ := Option.isSome_iff_exists.mp (look_some.mpr hi)
    rw [wait_eq hn] at k
    refine ⟨_, rfl, _, rfl, t, dx, _, rfl, h1, t, U, i, n, rfl, ht, hn, ?_⟩
    refine ⟨_, rfl, _, rfl, rfl, _, rfl, ?_⟩
    by_cases c : n = i
    · subst c
      rw [if_neg (fun z => z.1 rfl)] at k
      rw [show (!decide (V.int n = V.int n)) = false by simp]
      exact iteF (iteF k)
    · rw [show (!decide (V.int n = V.int i)) = true by simp [c]]
      refine iteT ⟨_, rfl, _, rfl, t, dx, _, rfl, h1, t, U, n, rfl, ht, _, rfl, _, rfl, ?_⟩
      cases e : (look U n).isSome with
      | true =>
        rw [if_pos ⟨c, e⟩] at k
        exact iteT ⟨_, rfl, k⟩
      | false =>
        rw [if_neg (fun z => by rw [e] at z; exact absurd z.2 (by decide))] at k
        exact iteF k
end
end Rc
set_option Elab.async false
set_option linter.all false
set_option maxRecDepth 100000
set_option maxHeartbeats 4000000
namespace Rc
open PySem PySem.Spec PyProof.Rows L2 He He5 C8
section
variable {P : Program} {w : World} {K : PySem.W.Frag} {mg : Str → Option Value} {base : Heap}
def spPath (C : Addr) : Sp := fun vs H Q _ => ∃ (t : Addr) (T : Rows) (k : Int), vs = [.ref t, .int k] ∧ TabAt C H t T ∧ k ∈ keys T ∧ ∀ (H' : Hp) (p : Addr), Same H H' → H p = none → H' p = some (.lst ((pathT T k).map V.int)) → Q (.ref p) H'
theorem sc_path_of : FnScope ["table", "key", "found", "row"] ["table", "key"] (defScope s_path_of) := ⟨rfl, rfl, rfl, by decide +kernel, rfl, by decide +kernel, by decide +kernel⟩
theorem ok_path_of (T : Txt K mg) : Ok P w K mg base 7 (ga K "path_of") (spPath (CT K)) := by
  obtain ⟨fd, F⟩ := T.f_path_of
  have GW : Ok P w K mg base 6 (ga K "waited") (spWaited (CT K)) := ok_waited T
  refine ok_of F sc_path_of (F.binds fun _ _ _ _ _ _ us hl => match us, hl with | [_, _], _ => rfl) (fun vs H Q E h => ?_) (fun cdv A outer s H vs Q E hr h => ?_)
  · obtain ⟨t, U, i, rfl, _⟩ := h
    rfl
  · obtain ⟨t, U, i, rfl, ht, hi, k⟩ := h
    have nd := sc_path_of.nd
    refine ⟨_, pss_cons (ps_par (i := 2) (j := 3) (by rfl) nd rfl rfl (by decide) rfl rfl (pa_cons (pe_lst (pa_cons (pv 1) pa_nil)) (pa_cons (pe_fn GW hr T.g_waited (pa_cons (pv 0) (pa_cons (pv 1) pa_nil))) pa_nil)) (by rfl))
      (pss_cons (ps_while PassesOwn.never (PW.pt (pw_and (pt_cmpR op_notN (pv 3) pe_non (nomark _)) (pw_and1 (pt_cmpR op_notIn_seq (pv 3) (pv 2) rfl))))
        (pss_cons (ps_expr (pe_bm PySem.F.plainAttrs_list PySem.F.slot_list_append PySem.F.type_list_append mt_append (pv 2) (pa_cons (pv 3) pa_nil)))
          (pss_one (ps_set (i := 3) nd rfl (Or.inl rfl) (pe_fn GW hr T.g_waited (pa_cons (pv 0) (pa_cons (pv 3) pa_nil)))))))
      (pss_one (ps_ret (pv 2)))), ?_⟩
    refine ⟨_, rfl, by show 1 ≤ sizeLine; decide, fun l hl => ?_⟩
    have s1 : Same H (upd H l (.lst [.int i])) := sameUpd hl
    refine ⟨_, rfl, _, rfl, t, U, i, rfl, ht.same s1, hi, ?_⟩
    refine ⟨_, _, rfl, ?_⟩
    refine ⟨fun m σ H' => ∃ found row, m = 41 - found.length ∧ σ = [some (.ref t), some (.int i), some (.ref l), some (ov row)] ∧ Same H H' ∧ H' l = some (.lst (found.map V.int)) ∧ PathInv U i found row,
      ⟨_, [i], waitT U i, rfl, rfl, s1, upd_same, path_start hi⟩, ?_⟩
    rintro m σ H' ⟨found, row, rfl, rfl, s2, hx, pi⟩
    have small := pi.small
    have g40 := ht.good.len
    refine ⟨_, rfl, rfl, _, rfl, ?_⟩
    cases row with
    | none =>
      refine iteF ⟨_, rfl, ?_⟩
      refine k H' l s2 hl ?_
      rw [← path_end pi (fun r e => nomatch e)]
      exact hx
    | some r =>
      refine iteT ⟨_, rfl, _, rfl, l, _, rfl, .inl (SqL.of hx), rfl, flat_ints _, _, rfl, ?_⟩
      have ei := inV_ints r found
      by_cases c : r ∈ found
      · rw [decide_eq_true c] at ei
        rw [show inV (ov (some r)) (found.map V.int) = true from ei]
        refine iteF ⟨_, rfl, k H' l s2 hl ?_⟩
        rw [← path_end pi (fun r' e => by cases e; exact c)]
        exact hx
      · rw [decide_eq_false c] at ei
        rw [show inV (ov (some r)) (found.map V.int) = false from ei]
        refine iteT ⟨fun σ' H2 => ∃ m', m' < 41 - found.length ∧ ∃ found row, m' = 41 - found.length ∧ σ' = [some (.ref t), some (.int i), some (.ref l), some (ov row)] ∧ Same H H2 ∧ H2 l = some (.lst (found.map V.int)) ∧ PathInv U i found row, fun _ _ z => z, ?_⟩
        have hz : found.length < sizeLine := small40 (by omega)
        refine ⟨_, rfl, .inl ⟨rfl, _, SqL.of hx⟩, _, rfl, l, _, _, rfl, rfl, hx, (by rw [List.length_map]; exact hz), ?_⟩
        have s3 : Same H (upd H' l (.lst (found.map V.int ++ [.int r]))) := sameNew s2 hl
        refine ⟨_, rfl, _, rfl, t, U, r, rfl, ht.same s3, pi.inn r rfl, ?_⟩
        have small2 := (path_step pi c).small
        rw [List.length_append, List.length_singleton] at small2
        refine ⟨_, ?_, found ++ [r], waitT U r, rfl, rfl, s3, ?_, path_step pi c⟩
        · rw [List.length_append, List.length_singleton]
          omega
        · rw [upd_same, ← ints_snoc]
          rfl
end
end Rc
set_option Elab.async false
set_option linter.all false
set_option maxRecDepth 100000
set_option maxHeartbeats 4000000
namespace Rc
open PySem PySem.Spec PyProof.Rows L2 He He5 C8
theorem tups_nil {H : Hp} : Tups H [] [] := ⟨rfl, fun i x h => by simp at h⟩
theorem tups_snoc {H : Hp} {xs : List V} {ls : List (List Int)} {p : Addr} {l : List Int} (h : Tups H xs ls) (hp : H p = some (.tup (l.map V.int))) : Tups H (xs ++ [.ref p]) (ls ++ [l]) := by
  refine ⟨by rw [List.length_append, List.length_append, h.1]; rfl, fun i x e => ?_⟩
  by_cases c : i < xs.length
  · rw [List.getElem?_append_left c] at e
    obtain ⟨q, s, h1, h2, h3⟩ := h.2 i x e
    exact ⟨q, s, by rw [List.getElem?_append_left (by rw [← h.1]; exact c)]; exact h1, h2, h3⟩
  · have hi : i = xs.length := by
      have := getE_lt e
      rw [List.length_append, List.length_singleton] at this
      omega
    subst hi
    rw [List.getElem?_append_right (Nat.le_refl _), Nat.sub_self] at e
    have ex : x = V.ref p := (Option.some.inj e).symm
    exact ⟨p, l, by rw [h.1, List.getElem?_append_right (Nat.le_refl _), Nat.sub_self]; rfl, ex, hp⟩
theorem Tups.at {H H' : Hp} {xs : List V} {ls : List (List Int)} (h : Tups H xs ls) (k : ∀ b l, H b = some (.tup l) → H' b = some (.tup l)) : Tups H' xs ls := by
  refine ⟨h.1, fun i x e => ?_⟩
  obtain ⟨p, r, h1, h2, h3⟩ := h.2 i x e
  exact ⟨p, r, h1, h2, k _ _ h3⟩
theorem ov_int {o : Option Int} {k : Int} : decide (ov o = V.int k) = decide (o = some k) := by
  cases o with
  | none => simp [ov]
  | some r => simp [ov]
theorem scal_ov (o : Option Int) (k : Int) : scal (ov o) (.int k) = true := by cases o <;> rfl
section
variable {P : Program} {w : World} {K : PySem.W.Frag} {mg : Str → Option Value} {base : Heap}
def ringsK (T : Rows) (ks : List Int) : List (List Int) := (ks.filter (ringAt T)).map (pathT T)
def spRings (C : Addr) : Sp := fun vs H Q _ => ∃ (t : Addr) (T : Rows), vs = [.ref t] ∧ TabAt C H t T ∧ ∀ (H' : Hp) (p : Addr) (xs : List V), Same H H' → H p = none → H' p = some (.lst xs) → Tups H' xs (ringsT T) → Q (.ref p) H'
theorem sc_rings_of : FnScope ["table", "found", "key", "rows"] ["table"] (defScope s_rings_of) := ⟨rfl, rfl, rfl, by decide +kernel, rfl, by decide +kernel, by decide +kernel⟩
theorem ok_rings_of (T : Txt K mg) : Ok P w K mg base 8 (ga K "rings_of") (spRings (CT K)) := by
  obtain ⟨fd, F⟩ := T.f_rings_of
  have GK : Ok P w K mg base 3 (ga K "keys_of") (spKeys (CT K)) := ok_keys_of T
  have GW : Ok P w K mg base 6 (ga K "waited") (spWaited (CT K)) := ok_waited T
  have GP : Ok P w K mg base 7 (ga K "path_of") (spPath (CT K)) := ok_path_of T
  refine ok_of F sc_rings_of (F.binds fun _ _ _ _ _ _ us hl => match us, hl with | [_], _ => rfl) (fun vs H Q E h => ?_) (fun cdv A outer s H vs Q E hr h => ?_)
  · obtain ⟨t, U, rfl, _⟩ := h
    rfl
  · obtain ⟨t, U, rfl, ht, k⟩ := h
    have nd := sc_rings_of.nd
    refine ⟨_, pss_cons (ps_set (i := 1) nd rfl (Or.inl rfl) (pe_lst pa_nil))
      (pss_cons (ps_for PassesOwn.never rfl (pi_list (pe_fn GK (hr.mono (by decide)) T.g_keys_of (pa_cons (pv 0) pa_nil))) (pg_name (i := 2) nd rfl (Or.inl rfl))
        (pss_cons (ps_set (i := 3) nd rfl (Or.inl rfl) (pe_fn GP hr T.g_path_of (pa_cons (pv 0) (pa_cons (pv 2) pa_nil))))
        (pss_one (ps_if (PW.pt (pw_and (pt_cmpR op_eq (pe_fn GW (hr.mono (by decide)) T.g_waited (pa_cons (pv 0) (pa_cons (pe_ix ix_list (pv 3) (pe_un un_neg pe_int) (fun _ _ => rfl)) pa_nil))) (pv 2) (nomark _))
            (pw_and1 (pt_cmpR op_eq (pv 2) (pe_callB (cr_min rfl) (by rfl) T.b_min (by decide +kernel) (pa_cons (pv 3) pa_nil)) (nomark _)))))
          (pss_one (ps_expr (pe_bm PySem.F.plainAttrs_list PySem.F.slot_list_append PySem.F.type_list_append mt_append (pv 1) (pa_cons (pe_callTy call_tuple_of (by rfl) T.b_tuple (by decide +kernel) (pa_cons (pv 3) pa_nil)) pa_nil)))) pss_nil))))
      (pss_one (ps_ret (pv 1)))), ?_⟩
    refine ⟨Nat.zero_le _, fun l hl => ?_⟩
    have s1 : Same H (upd H l (.lst [])) := sameUpd hl
    refine ⟨_, rfl, t, U, rfl, ht.same s1, fun H1 kl s2 hkl hk => ?_⟩
    have hl1 : H1 l = some (.lst []) := s2 _ _ upd_same
    have nkl : kl ≠ l := fun z => by
      rw [z, upd_same] at hkl
      cases hkl
    refine ⟨kl, rfl, ⟨_, SqL.of hk⟩, for_list (K := K) (a := kl) (xs := (keys U).map V.int) (fun i σ H' => ∃ v2 v3 xs, σ = [some (.ref t), some (.ref l), v2, v3] ∧ Same H H' ∧ H' kl = some (.lst ((keys U).map V.int)) ∧ H' l = some (.lst xs) ∧ Tups H' xs (ringsK U ((keys U).take i)))
      ⟨none, none, [], rfl, s1.trans s2, hk, hl1, tups_nil⟩ (fun i σ H' _ ⟨_, _, _, _, _, q, _⟩ => SqL.of q) ?_ ?_⟩
    · rintro i x σ H' hi ⟨v2, v3, xs, rfl, s3, hk', hx, hps⟩
      obtain ⟨key, e2, rfl⟩ := map_at hi
      have hkey : key ∈ keys U := List.mem_of_getElem? e2
      have g40 := ht.good.len
      have hlen : (keys U).length = U.length := by unfold keys; exact List.length_map ..
      have hi40 : i < 40 := by have := getE_lt e2; omega
      have hxs : xs.length ≤ i := by
        rw [hps.1]
        unfold ringsK
        rw [List.length_map]
        refine Nat.le_trans (List.length_filter_le _ _) ?_
        rw [List.length_take]
        omega
      refine ⟨_, rfl, _, rfl, t, U, key, rfl, ht.same s3, hkey, fun H2 pl s4 hpl hp => ?_⟩
      obtain ⟨z, hz, hfin⟩ := (path_is hkey).fin
      have pne : 0 < (pathT U key).length := List.length_pos_of_mem (path_mem hkey)
      have hstep : ringsK U ((keys U).take (i + 1)) = ringsK U ((keys U).take i) ++ (if ringAt U key = true then [pathT U key] else []) := by
        unfold ringsK
        rw [take_more e2, List.filter_append, List.map_append]
        congr 1
        rw [List.filter_cons, List.filter_nil]
        split <;> rfl
      refine ⟨_, rfl, _, rfl, _, rfl, pl, _, -1, .int z, rfl, rfl, SqL.of hp, ?_, ?_⟩
      · obtain ⟨pre, hpre⟩ := List.getLast?_eq_some_iff.mp hz
        rw [hpre, List.map_append]
        exact atI_last _ _
      have s5 := s3.trans s4
      have hx2 : H2 l = some (.lst xs) := s4 _ _ hx
      have hkk : H2 kl = some (.lst ((keys U).map V.int)) := s4 _ _ hk'
      have hps2 := hps.same s4
      refine ⟨t, U, z, rfl, ht.same s5, (path_is hkey).sub z (List.mem_of_getLast? hz), ?_⟩
      refine ⟨_, rfl, scal_ov _ _, _, rfl, ?_⟩
      rw [ov_int]
      by_cases c1 : waitT U z = some key
      · rw [decide_eq_true c1]
        refine iteT ⟨_, rfl, _, rfl, pl, _, rfl, SqL.of hp, pne, fun m hm hle => ?_⟩
        refine ⟨rfl, _, rfl, ?_⟩
        by_cases c2 : key = m
        · have ring : ringAt U key = true := ringAt_iff.mpr ⟨z, hz, c1, fun x hx => by rw [c2]; exact hle x hx⟩
          rw [show decide (V.int key = V.int m) = true from decide_eq_true (by rw [c2])]
          refine iteT ⟨_, rfl, .inl ⟨rfl, _, SqL.of hx2⟩, _, rfl, pl, _, rfl, .inl ⟨SqL.of hp, fun q hq => ?_⟩⟩
          have s6 : Same H2 (upd H2 q (.tup ((pathT U key).map V.int))) := sameUpd hq
          have nlq : l ≠ q := ne_of_none hx2 hq
          refine ⟨l, xs, _, rfl, rfl, s6 _ _ hx2, small40 (by omega), _, _, _, rfl, sameNew (s5.trans s6) hl, ?_, upd_same, ?_⟩
          · rw [upd_ne nkl]
            exact s6 _ _ hkk
          · rw [hstep, if_pos ring]
            refine (tups_snoc (hps2.same s6) upd_same).at fun b o hb => ?_
            rw [upd_ne]
            · exact hb
            · intro e
              rw [e, s6 _ _ hx2] at hb
              cases hb
        · have noring : ¬ ringAt U key = true := fun r => by
            obtain ⟨z', _, _, h4⟩ := ringAt_iff.mp r
            have a := h4 m hm
            have b := hle key (path_mem hkey)
            exact c2 (by omega)
          rw [show decide (V.int key = V.int m) = false from decide_eq_false (fun e => c2 (V.int.inj e))]
          refine iteF ⟨_, _, _, rfl, s5, hkk, hx2, ?_⟩
          rw [hstep, if_neg noring, List.append_nil]
          exact hps2
      · have noring : ¬ ringAt U key = true := fun r => by
          obtain ⟨z', h3, h4, _⟩ := ringAt_iff.mp r
          rw [hz] at h3
          cases h3
          exact c1 h4
        rw [decide_eq_false c1]
        refine iteF (iteF ⟨_, _, _, rfl, s5, hkk, hx2, ?_⟩)
        rw [hstep, if_neg noring, List.append_nil]
        exact hps2
    · rintro σ H' ⟨v2, v3, xs, rfl, s3, hk', hx, hps⟩
      rw [List.length_map, List.take_length] at hps
      exact ⟨_, rfl, k H' l xs s3 hl hx hps⟩
end
end Rc
set_option Elab.async false
set_option linter.all false
set_option maxRecDepth 100000
set_option maxHeartbeats 4000000
namespace Rc
open PySem PySem.Spec PyProof.Rows L2 He He5 C8
/-! ### the rows by their new key -/
theorem grp_snoc (T : Rows) (r : Int × Int) (n : Int) : grpT (T ++ [r]) n = grpT T n ++ (if r.2 = n then [r.1] else []) := by
  unfold grpT keys
  rw [List.filter_append, List.map_append]
  congr 1
  rw [List.filter_cons, List.filter_nil]
  by_cases c : r.2 = n <;> simp [c]
theorem grp_none {T : Rows} {n : Int} (h : n ∉ news T) : grpT T n = [] := by
  unfold grpT keys
  rw [List.map_eq_nil_iff, List.filter_eq_nil_iff]
  intro r hr c
  exact h (List.mem_map.mpr ⟨r, hr, of_decide_eq_true c⟩)
/-- a dict of references -/
def dkr (es : List (Int × Addr)) : List (Key × V) := es.map fun e => ((Sum.inl e.1 : Key), V.ref e.2)
theorem dkr_some : ∀ {es : List (Int × Addr)} {n : Int} {v : V}, valV (dkr es) (Sum.inl n : Key) = some v → ∃ a, (n, a) ∈ es ∧ v = V.ref a
  | e :: es, n, v, h => by
    have h' : valV (((Sum.inl e.1 : Key), V.ref e.2) :: dkr es) (Sum.inl n) = some v := h
    by_cases c : e.1 = n
    · rw [valV_pos (by rw [c])] at h'
      exact ⟨e.2, by rw [← c]; exact List.mem_cons_self, (Option.some.inj h').symm⟩
    · rw [valV_neg (fun z => c (Sum.inl.inj z))] at h'
      obtain ⟨a, h1, h2⟩ := dkr_some h'
      exact ⟨a, List.mem_cons_of_mem _ h1, h2⟩
theorem dkr_none {es : List (Int × Addr)} {n : Int} (h : valV (dkr es) (Sum.inl n : Key) = none) : n ∉ es.map (·.1) := by
  intro m
  obtain ⟨e, he, rfl⟩ := List.mem_map.mp m
  refine valV_not h (List.mem_map.mpr ⟨((Sum.inl e.1 : Key), V.ref e.2), List.mem_map.mpr ⟨e, he, rfl⟩, rfl⟩)
theorem dkr_of {es : List (Int × Addr)} (hn : (es.map (·.1)).Nodup) {n : Int} {a : Addr} (h : (n, a) ∈ es) : valV (dkr es) (Sum.inl n : Key) = some (.ref a) := by
  induction es with
  | nil => cases h
  | cons e es ih =>
    obtain ⟨h1, h2⟩ := List.nodup_cons.mp (show (e.1 :: es.map (·.1)).Nodup from hn)
    show valV (((Sum.inl e.1 : Key), V.ref e.2) :: dkr es) (Sum.inl n) = some (.ref a)
    rcases List.mem_cons.mp h with q | q
    · rw [← q, valV_pos rfl]
    · rw [valV_neg (fun z => h1 (by rw [Sum.inl.inj z]; exact List.mem_map.mpr ⟨(n, a), q, rfl⟩))]
      exact ih h2 q
/-- by_new's dict -/
structure ByNew (H0 H : Hp) (d : Addr) (es : List (Int × Addr)) (T : Rows) : Prop where
  dict : H d = some (.dK (dkr es))
  nd : (es.map (·.1)).Nodup
  mem : ∀ n, n ∈ es.map (·.1) ↔ n ∈ news T
  lst : ∀ e ∈ es, H e.2 = some (.lst ((grpT T e.1).map V.int))
  ad : (es.map (·.2)).Nodup
  fr : ∀ e ∈ es, H0 e.2 = none
theorem nodup_snd {es : List (Int × Addr)} (h : (es.map (·.2)).Nodup) {a b : Int × Addr} (ha : a ∈ es) (hb : b ∈ es) (e : a.2 = b.2) : a = b := by
  induction es with
  | nil => cases ha
  | cons x es ih =>
    obtain ⟨h1, h2⟩ := List.nodup_cons.mp (show (x.2 :: es.map (·.2)).Nodup from h)
    rcases List.mem_cons.mp ha with qa | qa <;> rcases List.mem_cons.mp hb with qb | qb
    · rw [qa, qb]
    · subst qa
      exact absurd (by rw [e]; exact List.mem_map.mpr ⟨b, qb, rfl⟩) h1
    · subst qb
      exact absurd (by rw [← e]; exact List.mem_map.mpr ⟨a, qa, rfl⟩) h1
    · exact ih h2 qa qb
section
variable {P : Program} {w : World} {K : PySem.W.Frag} {mg : Str → Option Value} {base : Heap}
def spByNew (C : Addr) : Sp := fun vs H Q _ => ∃ (t : Addr) (T : Rows), vs = [.ref t] ∧ TabAt C H t T ∧ ∀ (H' : Hp) (d : Addr) (es : List (Int × Addr)), Same H H' → H d = none → ByNew H H' d es T → Q (.ref d) H'
theorem sc_by_new : FnScope ["table", "found", "key", "new"] ["table"] (defScope s_by_new) := ⟨rfl, rfl, rfl, by decide +kernel, rfl, by decide +kernel, by decide +kernel⟩
theorem ok_by_new (T : Txt K mg) : Ok P w K mg base 3 (ga K "by_new") (spByNew (CT K)) := by
  obtain ⟨fd, F⟩ := T.f_by_new
  have GR : Ok P w K mg base 1 (getter K "Table" "rows") (spRows (CT K)) := ok_Table_rows T
  refine ok_of F sc_by_new (F.binds fun _ _ _ _ _ _ us hl => match us, hl with | [_], _ => rfl) (fun vs H Q E h => ?_) (fun cdv A outer s H vs Q E hr h => ?_)
  · obtain ⟨t, U, rfl, _⟩ := h
    rfl
  · obtain ⟨t, U, rfl, ht, k⟩ := h
    have nd := sc_by_new.nd
    refine ⟨_, pss_cons (ps_set (i := 1) nd rfl (Or.inl rfl) pe_dnewK)
      (pss_cons (ps_for PassesOwn.never rfl (pi_tup (pe_propR (pv 0) T.cl_Table T.p_rows GR hr)) (pg_tup rfl (pgs_cons (pg_name (i := 2) nd rfl (Or.inl rfl)) (pgs_cons (pg_name (i := 3) nd rfl (Or.inl rfl)) pgs_nil)))
        (pss_one (ps_expr (pe_bm PySem.F.plainAttrs_list PySem.F.slot_list_append PySem.F.type_list_append mt_append (pe_dsetd (pv 1) (pv 3) (pe_lst pa_nil) ⟨rfl, rfl, rfl, rfl⟩) (pa_cons (pv 2) pa_nil)))))
      (pss_one (ps_ret (pv 1)))), ?_⟩
    intro d hd
    have s1 : Same H (upd H d (.dK [])) := sameUpd hd
    obtain ⟨g, dx, dd, R0, h1, h2, p0⟩ := id ht
    refine ⟨_, rfl, t, dx, _, rfl, s1 _ _ h1, t, U, rfl, ht.same s1, fun H1 q xs s2 hq hy => ?_⟩
    have s12 := s1.trans s2
    refine ⟨q, rfl, ⟨xs, SqT.of hq⟩, for_tup (K := K) (a := q) (xs := xs) (fun i σ H' => ∃ v2 v3 es, σ = [some (.ref t), some (.ref d), v2, v3] ∧ Same H H' ∧ (∀ b l, H1 b = some (.tup l) → H' b = some (.tup l)) ∧ ByNew H H' d es (U.take i))
      ⟨none, none, [], rfl, s12, fun _ _ e => e, s2 _ _ upd_same, List.nodup_nil, (fun n => by simp [news]), (fun _ h => nomatch h), List.nodup_nil, (fun _ h => nomatch h)⟩ (fun i σ H' _ ⟨_, _, _, _, _, z, _⟩ => SqT.of (z _ _ hq)) ?_ ?_⟩
    · rintro i x σ H' hi ⟨v2, v3, es, rfl, s3, tu, b⟩
      obtain ⟨a, r, e2, rfl, e3⟩ := hy.2 i x hi
      have hi40 : i < 40 := by have := getE_lt e2; have := g.len; omega
      refine ⟨a, _, rfl, SqT.of (tu _ _ e3), rfl, _, _, rfl, _, _, rfl, rfl, ?_⟩
      have hes : es.length ≤ i := by
        have q := nodup_le b.nd (fun n hn => (b.mem n).mp hn)
        unfold news at q
        rw [List.length_map, List.length_map, List.length_take] at q
        omega
      refine ⟨_, rfl, d, rfl, .inl ⟨_, .inl b.dict⟩, _, rfl, Nat.zero_le _, fun z hz => ?_⟩
      have ndz : d ≠ z := ne_of_none b.dict hz
      have hz0 : H z = none := s3.free hz
      have dict2 : (upd H' z (.lst [])) d = some (.dK (dkr es)) := by rw [upd_ne ndz]; exact b.dict
      have hlen : (dkr es).length < sizeLine := by
        unfold dkr
        rw [List.length_map]
        exact small40 (by omega)
      refine ⟨dkr es, Sum.inl r.2, dict2, rfl, hlen, fun v hv => ?_, fun hv => ?_⟩
      · obtain ⟨c, hc, rfl⟩ := dkr_some hv
        have hl := b.lst _ hc
        have ncz : c ≠ z := ne_of_none hl hz
        have hl2 : (upd H' z (.lst [])) c = some (.lst ((grpT (U.take i) r.2).map V.int)) := by rw [upd_ne ncz]; exact hl
        refine ⟨.inl ⟨rfl, _, SqL.of hl2⟩, _, rfl, c, _, _, rfl, rfl, hl2, ?_, ?_⟩
        · rw [List.length_map]
          unfold grpT keys
          rw [List.length_map]
          have := List.length_filter_le (fun r' : Int × Int => decide (r'.2 = r.2)) (U.take i)
          rw [List.length_take] at this
          exact small40 (by omega)
        · refine ⟨_, _, es, rfl, sameNew (sameNew s3 hz0) (b.fr _ hc), fun bb l hb => ?_, ?_⟩
          · have hb' := tu _ _ hb
            rw [upd_ne (ne_of hb' hl (by intro z; cases z)), upd_ne (ne_of_none hb' hz)]
            exact hb'
          · rw [take_more e2]
            have hrn : r.2 ∈ news (U.take i) := (b.mem _).mp (List.mem_map.mpr ⟨_, hc, rfl⟩)
            refine ⟨?_, b.nd, fun n => ?_, fun e he => ?_, b.ad, b.fr⟩
            · rw [upd_ne (ne_of b.dict hl (by intro z; cases z)), upd_ne ndz]
              exact b.dict
            · rw [b.mem n]
              unfold news
              rw [List.map_append, List.mem_append]
              refine ⟨Or.inl, fun h => h.elim id fun h => ?_⟩
              rw [List.mem_singleton.mp h]
              exact hrn
            · by_cases ce : e.2 = c
              · have : e = (r.2, c) := nodup_snd b.ad he hc ce
                rw [this, upd_same, grp_snoc, if_pos rfl, ← ints_snoc]
              · have : ¬ r.2 = e.1 := fun z => ce (by
                  have q1 := dkr_of b.nd (n := e.1) (a := e.2) he
                  have q2 := dkr_of b.nd hc
                  rw [z] at q2
                  rw [q1] at q2
                  exact V.ref.inj (Option.some.inj q2))
                rw [upd_ne ce, upd_ne (ne_of_none (b.lst _ he) hz), grp_snoc, if_neg this, List.append_nil]
                exact b.lst _ he
      · have fresh := dkr_none hv
        rw [putK_new _ hv]
        have hlz : (upd (upd H' z (.lst [])) d (.dK (dkr es ++ [((Sum.inl r.2 : Key), V.ref z)]))) z = some (.lst []) := by rw [upd_ne ndz.symm, upd_same]
        refine ⟨.inl ⟨rfl, _, SqL.of hlz⟩, _, rfl, z, _, _, rfl, rfl, hlz, (by show 0 < sizeLine; decide), ?_⟩
        refine ⟨_, _, es ++ [(r.2, z)], rfl, sameNew (sameNew (sameNew s3 hz0) hd) hz0, fun bb l hb => ?_, ?_⟩
        · have hb' := tu _ _ hb
          rw [upd_ne (ne_of_none hb' hz), upd_ne (ne_of hb' b.dict (by intro z; cases z)), upd_ne (ne_of_none hb' hz)]
          exact hb'
        · rw [take_more e2]
          have hrn : r.2 ∉ news (U.take i) := fun h => fresh ((b.mem _).mpr h)
          refine ⟨?_, ?_, fun n => ?_, fun e he => ?_, ?_, fun e he => ?_⟩
          · rw [upd_ne ndz, upd_same]
            unfold dkr
            rw [List.map_append]
            rfl
          · rw [List.map_append]
            exact nd_snoc b.nd fresh
          · unfold news
            rw [List.map_append, List.map_append, List.mem_append, List.mem_append, b.mem n]
            rfl
          · rcases List.mem_append.mp he with he | he
            · have nez : e.2 ≠ z := ne_of_none (b.lst _ he) hz
              have : ¬ r.2 = e.1 := fun q => fresh (by rw [q]; exact List.mem_map.mpr ⟨e, he, rfl⟩)
              rw [upd_ne nez, upd_ne (ne_of (b.lst _ he) b.dict (by intro z; cases z)), upd_ne nez, grp_snoc, if_neg this, List.append_nil]
              exact b.lst _ he
            · rw [List.mem_singleton.mp he, upd_same, grp_snoc, if_pos rfl, grp_none hrn]
              rfl
          · rw [List.map_append]
            refine nd_snoc b.ad fun m => ?_
            obtain ⟨e, he, q⟩ := List.mem_map.mp m
            have q' : e.2 = z := q
            have := b.lst _ he
            rw [q', hz] at this
            cases this
          · rcases List.mem_append.mp he with he | he
            · exact b.fr _ he
            · rw [List.mem_singleton.mp he]
              exact hz0
    · rintro σ H' ⟨v2, v3, es, rfl, s3, tu, b⟩
      rw [hy.1, List.take_length] at b
      exact ⟨_, rfl, k H' d es s3 hd b⟩
end
end Rc
set_option maxRecDepth 100000
set_option maxHeartbeats 1000000
/-! Groups. -/
namespace Rc
theorem grp_mem {T : Rows} {n k : Int} : k ∈ grpT T n ↔ (k, n) ∈ T := by
  unfold grpT keys
  rw [List.mem_map]
  constructor
  · rintro ⟨r, hr, rfl⟩
    obtain ⟨h1, h2⟩ := List.mem_filter.mp hr
    have e := of_decide_eq_true h2
    rw [← e]
    exact h1
  · intro h
    exact ⟨(k, n), List.mem_filter.mpr ⟨h, by simp⟩, rfl⟩
theorem grp_asc {T : Rows} (g : Good T) (n : Int) : (grpT T n).Pairwise (· < ·) := List.pairwise_map.mpr (g.srt.sublist List.filter_sublist)
theorem grp_group {T : Rows} (g : Good T) {n : Int} (h : 1 < (grpT T n).length) : Group T (grpT T n) :=
  ⟨h, grp_asc g n, n, fun k hk => look_of (keys_nodup g.srt) (grp_mem.mp hk)⟩
theorem grp_le {T : Rows} : NoPair T ↔ ∀ n ∈ news T, (grpT T n).length ≤ 1 := by
  induction T with
  | nil => simp [NoPair, news]
  | cons r T ih =>
    have hl : ∀ n, (grpT (r :: T) n).length = (if r.2 = n then 1 else 0) + (grpT T n).length := fun n => by
      unfold grpT keys
      rw [List.length_map, List.length_map, List.filter_cons]
      by_cases c : r.2 = n <;> simp [c]
      omega
    have hno : ∀ n, n ∉ news T → (grpT T n).length = 0 := fun n hn => by
      rw [List.length_eq_zero_iff]
      cases e : grpT T n with
      | nil => rfl
      | cons k l =>
        have : k ∈ grpT T n := by rw [e]; exact List.mem_cons_self
        exact absurd (List.mem_map.mpr ⟨(k, n), grp_mem.mp this, rfl⟩) hn
    have hyes : ∀ n, n ∈ news T → 1 ≤ (grpT T n).length := fun n hn => by
      obtain ⟨q, hq, e⟩ := List.mem_map.mp hn
      have : q.1 ∈ grpT T n := grp_mem.mpr (by rw [← e]; exact hq)
      exact List.length_pos_of_mem this
    have key : NoPair (r :: T) ↔ r.2 ∉ news T ∧ NoPair T := List.nodup_cons
    rw [key, ih]
    constructor
    · rintro ⟨h1, h2⟩ n hn
      rw [hl n]
      rcases List.mem_cons.mp (show n ∈ r.2 :: news T from hn) with e | m
      · rw [e, hno _ h1]
        simp
      · have : ¬ r.2 = n := fun e => h1 (e ▸ m)
        rw [if_neg this]
        have := h2 n m
        omega
    · intro h
      refine ⟨fun m => ?_, fun n hn => ?_⟩
      · have a := h r.2 (show r.2 ∈ r.2 :: news T from List.mem_cons_self)
        rw [hl, if_pos rfl] at a
        have := hyes _ m
        omega
      · have a := h n (show n ∈ r.2 :: news T from List.mem_cons_of_mem _ hn)
        rw [hl] at a
        omega
end Rc
set_option Elab.async false
set_option linter.all false
set_option maxRecDepth 100000
set_option maxHeartbeats 4000000
namespace Rc
open PySem PySem.Spec PyProof.Rows L2 He He5 C8
/-- the ints of the tuple that a reference stands for -/
def tk (H : Hp) (x : V) : List Int := match x with
  | .ref t => (match H t with
    | some (.tup vs) => vs.map fun v => match v with
      | .int i => i
      | _ => 0
    | _ => [])
  | _ => []
theorem tk_of {H : Hp} {p : Addr} {l : List Int} (h : H p = some (.tup (l.map V.int))) : tk H (.ref p) = l := by
  unfold tk
  simp only [h, List.map_map]
  exact List.map_id l
theorem Tups.mem {H : Hp} {xs : List V} {ls : List (List Int)} (h : Tups H xs ls) : ∀ x ∈ xs, tk H x ∈ ls ∧ ∃ p, x = V.ref p ∧ H p = some (.tup ((tk H x).map V.int)) := fun x hx => by
  obtain ⟨i, hi, e⟩ := List.mem_iff_getElem.mp hx
  obtain ⟨p, r, h1, h2, h3⟩ := h.2 i x (by rw [List.getElem?_eq_getElem hi, e])
  rw [h2, tk_of h3]
  exact ⟨List.mem_of_getElem? h1, p, rfl, h3⟩
theorem Tups.map {H : Hp} {xs : List V} {ls : List (List Int)} (h : Tups H xs ls) : xs.map (tk H) = ls := by
  refine List.ext_getElem? fun i => ?_
  rw [List.getElem?_map]
  cases e : xs[i]? with
  | none =>
    have : ls[i]? = none := List.getElem?_eq_none_iff.mpr (by have := List.getElem?_eq_none_iff.mp e; have := h.1; omega)
    rw [this]
    rfl
  | some x =>
    obtain ⟨p, r, h1, h2, h3⟩ := h.2 i x e
    rw [h1, h2]
    exact congrArg some (tk_of h3)
theorem tups_perm {H : Hp} {xs ys : List V} {ls : List (List Int)} (h : Tups H xs ls) (p : ys.Perm xs) : Tups H ys (ys.map (tk H)) ∧ (ys.map (tk H)).Perm ls := by
  refine ⟨⟨(List.length_map ..).symm, fun i x e => ?_⟩, by rw [← h.map]; exact p.map _⟩
  obtain ⟨_, q, h1, h2⟩ := h.mem x (p.mem_iff.mp (List.mem_of_getElem? e))
  exact ⟨q, tk H x, by rw [List.getElem?_map, e]; rfl, h1, h2⟩
def rLenQ (K : PySem.W.Frag) : List V → Hp → VK → Prop := fun xs H Q => ∃ p ys, xs = [.ref p] ∧ (SqL K H p ys ∨ SqT K H p ys) ∧ Q (.int (ys.length : Nat)) H
def rTupQ (K : PySem.W.Frag) : List V → Hp → VK → Prop := fun xs H Q => ∃ p ys, xs = [.ref p] ∧ ((SqL K H p ys ∧ ∀ l, H l = none → Q (.ref l) (upd H l (.tup ys))) ∨ (SqT K H p ys ∧ Q (.ref p) H))
def rGtQ : R2 := rI0 fun i j => .bl (decide (j < i))
section
variable {P : Program} {w : World} {K : PySem.W.Frag} {mg : Str → Option Value} {base : Heap}
def spGroups (C : Addr) : Sp := fun vs H Q _ => ∃ (t : Addr) (T : Rows), vs = [.ref t] ∧ TabAt C H t T ∧ ∀ (H' : Hp) (p : Addr) (xs : List V) (gs : List (List Int)), Same H H' → H p = none → H' p = some (.lst xs) → Tups H' xs gs → (∀ g ∈ gs, Group T g) → (gs = [] ↔ NoPair T) → Q (.ref p) H'
theorem sc_groups_of : FnScope ["table", "wants", "new"] ["table"] (defScope s_groups_of) := ⟨rfl, rfl, rfl, by decide +kernel, rfl, by decide +kernel, by decide +kernel⟩
theorem ok_groups_of (T : Txt K mg) : Ok P w K mg base 4 (ga K "groups_of") (spGroups (CT K)) := by
  obtain ⟨fd, F⟩ := T.f_groups_of
  have GB : Ok P w K mg base 3 (ga K "by_new") (spByNew (CT K)) := ok_by_new T
  refine ok_of F sc_groups_of (F.binds fun _ _ _ _ _ _ us hl => match us, hl with | [_], _ => rfl) (fun vs H Q E h => ?_) (fun cdv A outer s H vs Q E hr h => ?_)
  · obtain ⟨t, U, rfl, _⟩ := h
    rfl
  · obtain ⟨t, U, rfl, ht, k⟩ := h
    have nd := sc_groups_of.nd
    have hu := hu_of hr
    refine ⟨_, pss_cons (ps_set (i := 1) nd rfl (Or.inr rfl) (pe_fn GB hr T.g_by_new (pa_cons (pv 0) pa_nil)))
      (pss_one (ps_ret (pe_callB cr_sortIs (by rfl) T.b_sorted (by decide +kernel) (pa_cons (pe_lock (pe_lc (own := [("new", 2)]) (g := gName 2)
        (tt := tTest (tOp rGtQ (tCB (rLenQ K) (tCons (tDGet (tVar 1) (tVar 2)) tNil)) (tC (.int 1)))) (te := tCB (rTupQ K) (tCons (tDGet (tVar 1) (tVar 2)) tNil)) rfl nd (pi_keys (pv 1)) (blkOk_by (N := ["table", "wants", "new"]) (sc := defScope s_groups_of) (by decide +kernel))
        (fun _ _ _ _ _ => pg_name (i := 2) nd rfl (Or.inl rfl)) ?ht ?he)) pa_nil)))), ?_⟩
    · intro s1 H1 C cl fp
      exact pts_one (pt_cmpR op_gt (pe_callB call_len_seq (by rfl) T.b_len boot_len (pa_cons (pe_dget hu (pv 1) (pv 2) (fun _ _ => rfl)) pa_nil)) pe_int (nomark _))
    · intro s1 H1 C cl fp
      exact pe_callTy call_tuple_of (by rfl) T.b_tuple (by decide +kernel) (pa_cons (pe_dget hu (pv 1) (pv 2) (fun _ _ => rfl)) pa_nil)
    refine ⟨_, rfl, t, U, rfl, ht, fun H1 d es s1 hd b => ?_⟩
    refine ⟨d, .dK (dkr es), b.dict, trivial, fun od => ?_⟩
    have hlen : (dkr es).length = es.length := by unfold dkr; exact List.length_map ..
    have hes : es.length ≤ 40 := by
      have q := nodup_le b.nd (fun n hn => (b.mem n).mp hn)
      unfold news at q
      rw [List.length_map, List.length_map] at q
      have := ht.good.len
      omega
    refine ⟨_, rfl, d, od, rfl, .inl ⟨_, upd_same, fun D hD => ?_⟩⟩
    have lst : ∀ e ∈ es, (upd H1 d (.frz od (.dK (dkr es)))) e.2 = some (.lst ((grpT U e.1).map V.int)) := fun e he => by
      rw [upd_ne (ne_of (b.lst e he) b.dict (by intro z; cases z))]
      exact b.lst e he
    refine lc_it (walk_keys (d := d) (o := od) (kvs := dkr es)) (fun i H' => Same (upd H1 d (.frz od (.dK (dkr es)))) H' ∧ ∃ xs, H' D = some (.lst xs) ∧ xs.length ≤ i ∧ Tups H' xs ((((es.take i).map (·.1)).filter fun n => decide (1 < (grpT U n).length)).map (grpT U)))
      ⟨sameUpd hD, [], upd_same, Nat.le_refl _, tups_nil⟩ (fun i H' _ q => q.1 _ _ upd_same) ?_ ?_
    · rintro i x H' H'' hi ⟨s2, xs, hx, hxi, hps⟩ ⟨rfl, kk, v, e1, rfl⟩
      obtain ⟨e, e2, e3⟩ := map_at e1
      cases e3
      have he := List.mem_of_getElem? e2
      have hl := s2 _ _ (lst e he)
      have dg : DGet H'' d (.int e.1) (some (.ref e.2)) := by
        have z : DGet H'' d (.int e.1) (valV (dkr es) (Sum.inl e.1 : Key)) := .inl ⟨_, _, .inr ⟨_, s2 _ _ upd_same⟩, rfl, rfl⟩
        rw [dkr_of b.nd (n := e.1) (a := e.2) he] at z
        exact z
      have hstep : (((es.take (i + 1)).map (·.1)).filter fun n => decide (1 < (grpT U n).length)).map (grpT U) = ((((es.take i).map (·.1)).filter fun n => decide (1 < (grpT U n).length)).map (grpT U)) ++ (if 1 < (grpT U e.1).length then [grpT U e.1] else []) := by
        rw [take_more e2, List.map_append, List.filter_append, List.map_append]
        congr 1
        rw [List.map_cons, List.map_nil, List.filter_cons, List.filter_nil]
        by_cases c : 1 < (grpT U e.1).length <;> simp [c]
      refine ⟨rfl, _, rfl, _, rfl, d, _, rfl, dg, e.2, _, rfl, .inl (SqL.of hl), _, _, rfl, rfl, _, rfl, ?_⟩
      rw [List.length_map]
      by_cases c : 1 < (grpT U e.1).length
      · rw [show decide ((1 : Int) < ((grpT U e.1).length : Nat)) = true from decide_eq_true (by omega)]
        refine iteT ⟨_, rfl, _, rfl, d, _, rfl, dg, e.2, _, rfl, .inl ⟨SqL.of hl, fun q hq => ?_⟩⟩
        have nDq : D ≠ q := ne_of_none hx hq
        have st : Same H'' (upd H'' q (.tup ((grpT U e.1).map V.int))) := sameUpd hq
        refine ⟨xs, st _ _ hx, small40 (by omega), fun bb o hb => ?_, _, upd_same, ?_, ?_⟩
        · rw [upd_ne (ne_of_none hb hD)]
          exact st _ _ (s2 _ _ hb)
        · rw [List.length_append, List.length_singleton]
          omega
        · rw [hstep, if_pos c]
          refine (tups_snoc (hps.same st) upd_same).at fun bb l hb => ?_
          rw [upd_ne]
          · exact hb
          · intro z
            rw [z, st _ _ hx] at hb
            cases hb
      · rw [show decide ((1 : Int) < ((grpT U e.1).length : Nat)) = false from decide_eq_false (by omega)]
        refine iteF ⟨s2, xs, hx, by omega, ?_⟩
        rw [hstep, if_neg c, List.append_nil]
        exact hps
    · rintro H' ⟨s2, xs, hx, hxi, hps⟩
      rw [hlen, List.take_length] at hps
      have fz : H' d = some (.frz od (.dK (dkr es))) := s2 _ _ upd_same
      have nDd : D ≠ d := fun z => by
        rw [z, upd_same] at hD
        cases hD
      have s3 : Same H1 (upd H' d (.dK (dkr es))) := sameUnlock b.dict s2
      have hps2 := hps.at (H' := upd H' d (.dK (dkr es))) fun bb l hb => by
        rw [upd_ne (ne_of hb fz (by intro z; cases z))]
        exact hb
      have two : ∀ g ∈ ((es.map (·.1)).filter fun n => decide (1 < (grpT U n).length)).map (grpT U), Group U g := fun g hg => by
        obtain ⟨n, hn, rfl⟩ := List.mem_map.mp hg
        exact grp_group ht.good (of_decide_eq_true (List.mem_filter.mp hn).2)
      refine ⟨fz, D, xs, rfl, SqL.of (by rw [upd_ne nDd]; exact hx), fun x hx' => ?_, fun ys l hp hl => ?_⟩
      · obtain ⟨m1, q, h1, h2⟩ := hps2.mem x hx'
        refine ⟨q, _, h1, h2, fun z => ?_⟩
        have := (two _ m1).1
        rw [z] at this
        exact absurd this (by decide)
      · obtain ⟨t1, t2⟩ := tups_perm hps2 hp
        have s4 : Same (upd H' d (.dK (dkr es))) (upd (upd H' d (.dK (dkr es))) l (.lst ys)) := sameUpd hl
        refine k _ l ys _ (s1.trans (s3.trans s4)) ((s1.trans s3).free hl) upd_same (t1.same s4) (fun g hg => two g (t2.mem_iff.mp hg)) ?_
        rw [grp_le]
        constructor
        · intro e n hn
          have e0 := List.Perm.nil_eq (e ▸ t2)
          have hm := (b.mem n).mpr hn
          rcases Nat.lt_or_ge 1 (grpT U n).length with c | c
          · have : grpT U n ∈ ((es.map (·.1)).filter fun n => decide (1 < (grpT U n).length)).map (grpT U) := List.mem_map.mpr ⟨n, List.mem_filter.mpr ⟨hm, decide_eq_true c⟩, rfl⟩
            rw [← e0] at this
            cases this
          · exact c
        · intro h
          have e0 : ((es.map (·.1)).filter fun n => decide (1 < (grpT U n).length)).map (grpT U) = [] := by
            rw [List.map_eq_nil_iff, List.filter_eq_nil_iff]
            intro n hn c
            have := h n ((b.mem n).mp hn)
            have := of_decide_eq_true c
            omega
          rw [e0] at t2
          exact List.perm_nil.mp t2
end
end Rc
set_option Elab.async false
set_option linter.all false
set_option maxRecDepth 100000
set_option maxHeartbeats 4000000
namespace Rc
open PySem PySem.Spec PyProof.Rows L2 He He5 C8
theorem scal_int (a b : Int) : scal (.int a) (.int b) = true := rfl
theorem dec_ii (a b : Int) : decide (V.int a = V.int b) = decide (a = b) := by simp
section
variable {P : Program} {w : World} {K : PySem.W.Frag} {mg : Str → Option Value} {base : Heap}
def spWaiting (C : Addr) : Sp := fun vs H Q _ => ∃ (t : Addr) (T : Rows) (k : Int), vs = [.ref t, .int k] ∧ TabAt C H t T ∧ ∀ (H' : Hp) (p : Addr), Same H H' → H p = none → H' p = some (.lst ((waitingT T k).map V.int)) → Q (.ref p) H'
theorem sc_waiting_for : FnScope ["table", "key", "one", "new"] ["table", "key"] (defScope s_waiting_for) := ⟨rfl, rfl, rfl, by decide +kernel, rfl, by decide +kernel, by decide +kernel⟩
theorem ok_waiting_for (T : Txt K mg) : Ok P w K mg base 3 (ga K "waiting_for") (spWaiting (CT K)) := by
  obtain ⟨fd, F⟩ := T.f_waiting_for
  have GR : Ok P w K mg base 1 (getter K "Table" "rows") (spRows (CT K)) := ok_Table_rows T
  refine ok_of F sc_waiting_for (F.binds fun _ _ _ _ _ _ us hl => match us, hl with | [_, _], _ => rfl) (fun vs H Q E h => ?_) (fun cdv A outer s H vs Q E hr h => ?_)
  · obtain ⟨t, U, i, rfl, _⟩ := h
    rfl
  · obtain ⟨t, U, i, rfl, ht, k⟩ := h
    have nd := sc_waiting_for.nd
    refine ⟨_, pss_one (ps_ret (pe_lc (own := [("one", 2), ("new", 3)]) (g := gTup K 2 (gCons (gName 2) (gCons (gName 3) gNil))) (tt := tAnd (tTest (tOp rEq (tVar 3) (tVar 1))) (tTest (tOp rNe (tVar 2) (tVar 1)))) (te := tVar 2) rfl nd (pi_tup (pe_propR (pv 0) T.cl_Table T.p_rows GR hr))
      (blkOk_by (N := ["table", "key", "one", "new"]) (sc := defScope s_waiting_for) (by decide +kernel)) (fun _ _ _ _ _ => pg_tup rfl (pgs_cons (pg_name (i := 2) nd rfl (Or.inl rfl)) (pgs_cons (pg_name (i := 3) nd rfl (Or.inl rfl)) pgs_nil))) ?ht (fun _ _ _ _ _ => pv 2))), ?_⟩
    · intro s1 H1 C cl fp
      exact pts_one (PW.pt (pw_and (pt_cmpR op_eq (pv 3) (pv 1) (nomark _)) (pw_and1 (pt_cmpR op_ne (pv 2) (pv 1) (nomark _)))))
    obtain ⟨g, dx, d, R0, h1, h2, p0⟩ := id ht
    refine ⟨_, rfl, t, dx, _, rfl, h1, t, U, rfl, ht, fun H1 q xs s1 hq hy => ?_⟩
    refine ⟨q, rfl, ⟨xs, SqT.of hq⟩, fun D hD => ?_⟩
    refine lc_it (walk_tup (K := K) (a := q) (xs := xs)) (fun j H2 => Same H1 H2 ∧ H2 D = some (.lst ((waitingT (U.take j) i).map V.int))) ⟨sameUpd hD, upd_same⟩ (fun j H2 _ z => SqT.of (z.1 _ _ hq)) ?_ ?_
    · rintro j x H2 H3 hi ⟨s2, hx⟩ ⟨rfl, e1⟩
      obtain ⟨a, r, e2, rfl, e3⟩ := hy.2 j x e1
      have hstep : waitingT (U.take (j + 1)) i = waitingT (U.take j) i ++ (if r.2 = i ∧ r.1 ≠ i then [r.1] else []) := by
        unfold waitingT keys
        rw [take_more e2, List.filter_append, List.map_append]
        congr 1
        rw [List.filter_cons, List.filter_nil]
        by_cases c1 : r.2 = i <;> by_cases c2 : r.1 = i <;> simp [c1, c2]
      have hlen : (waitingT (U.take j) i).length < sizeLine := by
        unfold waitingT keys
        rw [List.length_map]
        have q := List.length_filter_le (fun r : Int × Int => decide (r.2 = i) && decide (r.1 ≠ i)) (U.take j)
        rw [List.length_take] at q
        exact small40 (by have := g.len; omega)
      refine ⟨a, _, rfl, SqT.of (s2 _ _ e3), rfl, _, _, rfl, _, _, rfl, rfl, rfl, ?_⟩
      refine ⟨_, rfl, _, rfl, rfl, _, rfl, ?_⟩
      rw [dec_ii]
      by_cases c1 : r.2 = i
      · rw [decide_eq_true c1]
        refine iteT ⟨_, rfl, _, rfl, rfl, _, rfl, ?_⟩
        rw [dec_ii]
        by_cases c2 : r.1 = i
        · rw [decide_eq_true c2]
          refine iteF ⟨s2, ?_⟩
          rw [hstep, if_neg (fun z => z.2 c2), List.append_nil]
          exact hx
        · rw [decide_eq_false c2]
          refine iteT ⟨_, rfl, _, hx, by rw [List.length_map]; exact hlen, sameNew s2 hD, ?_⟩
          rw [upd_same, hstep, if_pos ⟨c1, c2⟩, ← ints_snoc]
      · rw [decide_eq_false c1]
        refine iteF (iteF ⟨s2, ?_⟩)
        rw [hstep, if_neg (fun z => c1 z.1), List.append_nil]
        exact hx
    · rintro H2 ⟨s2, hx⟩
      rw [hy.1, List.take_length] at hx
      exact k H2 D (s1.trans s2) (s1.free hD) hx
def spReady (C : Addr) : Sp := fun vs H Q _ => ∃ (t l : Addr) (T : Rows) (done : List Int), vs = [.ref t, .ref l] ∧ TabAt C H t T ∧ H l = some (.lst (done.map V.int)) ∧ ∀ (H' : Hp) (p : Addr), Same H H' → H p = none → H' p = some (.lst ((readyT T done).map V.int)) → Q (.ref p) H'
theorem sc_ready : FnScope ["table", "done", "found", "key", "row"] ["table", "done"] (defScope s_ready) := ⟨rfl, rfl, rfl, by decide +kernel, rfl, by decide +kernel, by decide +kernel⟩
theorem ok_ready (T : Txt K mg) : Ok P w K mg base 7 (ga K "ready") (spReady (CT K)) := by
  obtain ⟨fd, F⟩ := T.f_ready
  have GK : Ok P w K mg base 3 (ga K "keys_of") (spKeys (CT K)) := ok_keys_of T
  have GW : Ok P w K mg base 6 (ga K "waited") (spWaited (CT K)) := ok_waited T
  refine ok_of F sc_ready (F.binds fun _ _ _ _ _ _ us hl => match us, hl with | [_, _], _ => rfl) (fun vs H Q E h => ?_) (fun cdv A outer s H vs Q E hr h => ?_)
  · obtain ⟨t, l, U, done, rfl, _⟩ := h
    rfl
  · obtain ⟨t, dl, U, done, rfl, ht, hdl, k⟩ := h
    have nd := sc_ready.nd
    refine ⟨_, pss_cons (ps_set (i := 2) nd rfl (Or.inl rfl) (pe_lst pa_nil))
      (pss_cons (ps_for PassesOwn.never rfl (pi_list (pe_fn GK (hr.mono (by decide)) T.g_keys_of (pa_cons (pv 0) pa_nil))) (pg_name (i := 3) nd rfl (Or.inl rfl))
        (pss_cons (ps_set (i := 4) nd rfl (Or.inl rfl) (pe_fn GW hr T.g_waited (pa_cons (pv 0) (pa_cons (pv 3) pa_nil))))
        (pss_one (ps_if (PW.pt (pw_and (pt_cmpR op_notIn_seq (pv 3) (pv 1) rfl) (pw_and1 (PW.pt (pw_or (pt_cmpR op_isN (pv 4) pe_non (nomark _)) (pw_or1 (pt_cmpR op_in_seq (pv 4) (pv 1) rfl)))))))
          (pss_one (ps_expr (pe_bm PySem.F.plainAttrs_list PySem.F.slot_list_append PySem.F.type_list_append mt_append (pv 2) (pa_cons (pv 3) pa_nil)))) pss_nil))))
      (pss_one (ps_ret (pv 2)))), ?_⟩
    refine ⟨Nat.zero_le _, fun l hl => ?_⟩
    have s1 : Same H (upd H l (.lst [])) := sameUpd hl
    refine ⟨_, rfl, t, U, rfl, ht.same s1, fun H1 kl s2 hkl hk => ?_⟩
    have hl1 : H1 l = some (.lst []) := s2 _ _ upd_same
    have nkl : kl ≠ l := fun z => by
      rw [z, upd_same] at hkl
      cases hkl
    refine ⟨kl, rfl, ⟨_, SqL.of hk⟩, for_list (K := K) (a := kl) (xs := (keys U).map V.int) (fun i σ H' => ∃ v3 v4, σ = [some (.ref t), some (.ref dl), some (.ref l), v3, v4] ∧ Same H H' ∧ H' kl = some (.lst ((keys U).map V.int)) ∧ H' l = some (.lst ((((keys U).take i).filter (readyB U done)).map V.int)))
      ⟨none, none, rfl, s1.trans s2, hk, hl1⟩ (fun i σ H' _ ⟨_, _, _, _, q, _⟩ => SqL.of q) ?_ ?_⟩
    · rintro i x σ H' hi ⟨v3, v4, rfl, s3, hk', hx⟩
      obtain ⟨key, e2, rfl⟩ := map_at hi
      have hkey : key ∈ keys U := List.mem_of_getElem? e2
      have hz : (((keys U).take i).filter (readyB U done)).length < sizeLine := by
        have q := List.length_filter_le (readyB U done) ((keys U).take i)
        have q2 : (keys U).length = U.length := by unfold keys; exact List.length_map ..
        rw [List.length_take] at q
        exact small40 (by have := ht.good.len; omega)
      have hstep : ((keys U).take (i + 1)).filter (readyB U done) = ((keys U).take i).filter (readyB U done) ++ (if readyB U done key = true then [key] else []) := by
        rw [take_more e2, List.filter_append, List.filter_cons, List.filter_nil]
      refine ⟨_, rfl, _, rfl, t, U, key, rfl, ht.same s3, hkey, ?_⟩
      refine ⟨_, rfl, _, rfl, dl, _, rfl, .inl (SqL.of (s3 _ _ hdl)), rfl, flat_ints _, _, rfl, ?_⟩
      have e1 := inV_ints key done
      by_cases c1 : key ∈ done
      · rw [decide_eq_true c1] at e1
        rw [show inV (V.int key) (done.map V.int) = true from e1]
        have no : ¬ readyB U done key = true := by simp [readyB, c1]
        refine iteF (iteF ⟨_, _, rfl, s3, hk', ?_⟩)
        rw [hstep, if_neg no, List.append_nil]
        exact hx
      · rw [decide_eq_false c1] at e1
        rw [show inV (V.int key) (done.map V.int) = false from e1]
        refine iteT ⟨_, rfl, rfl, _, rfl, ?_⟩
        have good : readyB U done key = true → (∃ v3 v4, [some (V.ref t), some (V.ref dl), some (V.ref l), some (V.int key), some (ov (waitT U key))] = [some (V.ref t), some (V.ref dl), some (V.ref l), v3, v4] ∧ Same H (upd H' l (.lst ((((keys U).take i).filter (readyB U done)).map V.int ++ [V.int key]))) ∧
            (upd H' l (.lst ((((keys U).take i).filter (readyB U done)).map V.int ++ [V.int key]))) kl = some (.lst ((keys U).map V.int)) ∧ (upd H' l (.lst ((((keys U).take i).filter (readyB U done)).map V.int ++ [V.int key]))) l = some (.lst ((((keys U).take (i + 1)).filter (readyB U done)).map V.int))) := fun yes => by
          refine ⟨_, _, rfl, sameNew s3 hl, by rw [upd_ne nkl]; exact hk', ?_⟩
          rw [upd_same, hstep, if_pos yes, ← ints_snoc]
        cases e : waitT U key with
        | none =>
          have yes : readyB U done key = true := by simp [readyB, c1, e]
          refine iteT (iteT ⟨_, rfl, .inl ⟨rfl, _, SqL.of hx⟩, _, rfl, l, _, _, rfl, rfl, hx, by rw [List.length_map]; exact hz, ?_⟩)
          have q := good yes
          rw [e] at q
          exact q
        | some r =>
          refine iteF ⟨_, rfl, _, rfl, dl, _, rfl, .inl (SqL.of (s3 _ _ hdl)), rfl, flat_ints _, _, rfl, ?_⟩
          have e3 := inV_ints r done
          by_cases c3 : r ∈ done
          · rw [decide_eq_true c3] at e3
            rw [show inV (ov (some r)) (done.map V.int) = true from e3]
            have yes : readyB U done key = true := by simp [readyB, c1, e, c3]
            refine iteT ⟨_, rfl, .inl ⟨rfl, _, SqL.of hx⟩, _, rfl, l, _, _, rfl, rfl, hx, by rw [List.length_map]; exact hz, ?_⟩
            have q := good yes
            rw [e] at q
            exact q
          · rw [decide_eq_false c3] at e3
            rw [show inV (ov (some r)) (done.map V.int) = false from e3]
            have no : ¬ readyB U done key = true := by simp [readyB, c1, e, c3]
            refine iteF ⟨_, _, rfl, s3, hk', ?_⟩
            rw [hstep, if_neg no, List.append_nil]
            exact hx
    · rintro σ H' ⟨v3, v4, rfl, s3, hk', hx⟩
      rw [List.length_map, List.take_length] at hx
      exact ⟨_, rfl, k H' l s3 hl hx⟩
end
end Rc
set_option maxRecDepth 100000
set_option maxHeartbeats 1000000
set_option linter.unusedVariables false
/-! Rings; the first order. -/
namespace Rc
theorem path_not_longer {T : Rows} {k : Int} {l m : List Int} (h : IsPath T k l) (g : IsPath T k m) : ¬ l.length < m.length := by
  intro lt
  have eq : ∀ i, i < l.length → l[i]? = m[i]? := by
    intro i
    induction i with
    | zero =>
      intro _
      obtain ⟨_, e1⟩ := h.pre
      obtain ⟨_, e2⟩ := g.pre
      rw [e1, e2]
      rfl
    | succ i ih =>
      intro hi
      have a1 : l[i]? = some l[i] := List.getElem?_eq_getElem (by omega)
      have b1 : l[i + 1]? = some l[i + 1] := List.getElem?_eq_getElem hi
      have b2 : m[i + 1]? = some m[i + 1] := List.getElem?_eq_getElem (by omega)
      have a2 : m[i]? = some l[i] := (ih (by omega)).symm.trans a1
      have w1 := h.ch i _ _ a1 b1
      have w2 := g.ch i _ _ a2 b2
      rw [b1, b2, ← w1, ← w2]
  obtain ⟨z, hz, fin⟩ := h.fin
  have pos : 0 < l.length := by
    obtain ⟨_, e⟩ := h.pre
    rw [e]
    exact Nat.succ_pos _
  rw [List.getLast?_eq_getElem?] at hz
  have mz : m[l.length - 1]? = some z := (eq _ (by omega)).symm.trans hz
  have my : m[l.length - 1 + 1]? = some m[l.length] := by
    rw [show l.length - 1 + 1 = l.length by omega]
    exact List.getElem?_eq_getElem lt
  have w := g.ch _ _ _ mz my
  obtain ⟨j, hj, ej⟩ := List.mem_iff_getElem.mp (fin _ w)
  have mj : m[j]? = some m[l.length] := by
    rw [← eq j hj, List.getElem?_eq_getElem hj, ej]
  have hjm : j < m.length := by omega
  rw [List.getElem?_eq_getElem hjm] at mj
  have := (List.getElem_inj g.nd).mp (Option.some.inj mj)
  omega
theorem path_uniq {T : Rows} {k : Int} {l m : List Int} (h : IsPath T k l) (g : IsPath T k m) : l = m := by
  have hl : l.length = m.length := by
    have a := path_not_longer h g
    have b := path_not_longer g h
    omega
  refine List.ext_getElem? fun i => ?_
  induction i with
  | zero =>
    obtain ⟨_, e1⟩ := h.pre
    obtain ⟨_, e2⟩ := g.pre
    rw [e1, e2]
    rfl
  | succ i ih =>
    by_cases c : i + 1 < l.length
    · have a1 : l[i]? = some l[i] := List.getElem?_eq_getElem (by omega)
      have b1 : l[i + 1]? = some l[i + 1] := List.getElem?_eq_getElem c
      have b2 : m[i + 1]? = some m[i + 1] := List.getElem?_eq_getElem (by omega)
      have w1 := h.ch i _ _ a1 b1
      have w2 := g.ch i _ _ (ih.symm.trans a1) b2
      rw [b1, b2, ← w1, ← w2]
    · rw [List.getElem?_eq_none (by omega), List.getElem?_eq_none (by omega)]
theorem least_of : ∀ {l : List Int}, l ≠ [] → ∃ m ∈ l, ∀ y ∈ l, m ≤ y
  | [], h => absurd rfl h
  | [x], _ => ⟨x, by simp, fun y hy => by rw [List.mem_singleton.mp hy]; exact Int.le_refl _⟩
  | x :: y :: l, _ => by
    obtain ⟨m, hm, hle⟩ := least_of (l := y :: l) (by simp)
    by_cases c : x ≤ m
    · exact ⟨x, by simp, fun z hz => (List.mem_cons.mp hz).elim (fun e => by rw [e]; exact Int.le_refl _) fun q => Int.le_trans c (hle z q)⟩
    · exact ⟨m, List.mem_cons_of_mem _ hm, fun z hz => (List.mem_cons.mp hz).elim (fun e => by rw [e]; omega) fun q => hle z q⟩
/-- the last row of a path waits for one of its rows: there is a ring among them -/
theorem cycle_ring {T : Rows} {k z x : Int} {l : List Int} (h : IsPath T k l) (hz : l.getLast? = some z) (hx : waitT T z = some x) (m : x ∈ l) : ∃ k' ∈ l, ringAt T k' = true := by
  obtain ⟨a, b, rfl⟩ := List.append_of_mem m
  -- the rows behind x are a ring
  have hzc : (x :: b).getLast? = some z := by
    rw [List.getLast?_append] at hz
    cases e : (x :: b).getLast? with
    | none => simp at e
    | some y =>
      rw [e] at hz
      exact hz
  have chc : ∀ i u v, (x :: b)[i]? = some u → (x :: b)[i + 1]? = some v → waitT T u = some v := fun i u v h1 h2 => by
    refine h.ch (a.length + i) u v ?_ ?_
    · rw [List.getElem?_append_right (by omega), show a.length + i - a.length = i by omega]
      exact h1
    · rw [List.getElem?_append_right (by omega), show a.length + i + 1 - a.length = i + 1 by omega]
      exact h2
  obtain ⟨y, hy, hle⟩ := least_of (l := x :: b) (by simp)
  obtain ⟨p, q, e⟩ := List.append_of_mem hy
  have perm : (y :: q ++ p).Perm (x :: b) := by
    rw [e]
    exact List.perm_append_comm
  have sub : ∀ u ∈ y :: q ++ p, u ∈ a ++ x :: b := fun u hu => List.mem_append_right _ (perm.mem_iff.mp hu)
  -- the last of the turned ring waits for its first
  have turned : ∃ z', (y :: q ++ p).getLast? = some z' ∧ waitT T z' = some y := by
    cases p with
    | nil =>
      rw [List.nil_append] at e
      refine ⟨z, ?_, ?_⟩
      · rw [List.append_nil, ← e]
        exact hzc
      · rw [hx]
        exact congrArg some (List.cons.inj e).1
    | cons u p =>
      obtain ⟨w, hw⟩ : ∃ w, (u :: p).getLast? = some w := by
        cases e2 : (u :: p).getLast? with
        | none => simp at e2
        | some w => exact ⟨w, rfl⟩
      refine ⟨w, ?_, ?_⟩
      · rw [List.getLast?_append, hw]
        rfl
      · refine chc ((u :: p).length - 1) w y ?_ ?_
        · rw [e, List.getElem?_append_left (by simp), ← List.getLast?_eq_getElem?]
          exact hw
        · rw [e, List.getElem?_append_right (by simp)]
          simp
  obtain ⟨z', hz', hw'⟩ := turned
  have is : IsPath T y (y :: q ++ p) := by
    refine ⟨?_, fun u hu => h.sub u (sub u hu), ⟨q ++ p, rfl⟩, fun i u v h1 h2 => ?_, z', hz', fun r hr => ?_⟩
    · exact perm.nodup_iff.mpr (List.nodup_append.mp h.nd).2.1
    · by_cases c1 : i + 1 < (y :: q).length
      · rw [List.getElem?_append_left (by omega)] at h1
        rw [List.getElem?_append_left c1] at h2
        refine chc (p.length + i) u v ?_ ?_
        · rw [e, List.getElem?_append_right (by omega), show p.length + i - p.length = i by omega]
          exact h1
        · rw [e, List.getElem?_append_right (by omega), show p.length + i + 1 - p.length = i + 1 by omega]
          exact h2
      · by_cases c2 : i + 1 = (y :: q).length
        · rw [List.getElem?_append_left (by omega)] at h1
          rw [List.getElem?_append_right (by omega), show i + 1 - (y :: q).length = 0 by omega] at h2
          have uz : u = z := by
            rw [e, List.getLast?_append, List.getLast?_eq_getElem?, show (y :: q).length - 1 = i by omega, h1] at hzc
            exact Option.some.inj hzc
          have vx : v = x := by
            cases p with
            | nil => simp at h2
            | cons w p =>
              have q1 : w = v := Option.some.inj h2
              have q2 : x = w := (List.cons.inj e).1
              rw [← q1, ← q2]
          rw [uz, vx]
          exact hx
        · rw [List.getElem?_append_right (by omega)] at h1
          rw [List.getElem?_append_right (by omega), show i + 1 - (y :: q).length = (i - (y :: q).length) + 1 by omega] at h2
          have l2 : i - (y :: q).length + 1 < p.length := (List.getElem?_eq_some_iff.mp h2).1
          refine chc (i - (y :: q).length) u v ?_ ?_
          · rw [e, List.getElem?_append_left (by omega)]
            exact h1
          · rw [e, List.getElem?_append_left l2]
            exact h2
    · rw [hw'] at hr
      cases hr
      exact List.mem_cons_self
  have hyk : y ∈ keys T := h.sub y (sub y (by simp))
  refine ⟨y, sub y (by simp), ringAt_iff.mpr ⟨z', ?_, hw', fun u hu => ?_⟩⟩
  · rw [path_uniq (path_is hyk) is]
    exact hz'
  · rw [path_uniq (path_is hyk) is] at hu
    exact hle u (perm.mem_iff.mp hu)
end Rc
set_option maxRecDepth 100000
set_option maxHeartbeats 1000000
set_option linter.unusedVariables false
/-! The first order that passes. -/
namespace Rc
theorem ready_ne {T : Rows} {done : List Int} (g : Good T) (nr : NoRing T) (nd : done.Nodup) (sub : ∀ k ∈ done, k ∈ keys T) (lt : done.length < T.length) : readyT T done ≠ [] := by
  intro e
  have none_ready : ∀ k ∈ keys T, ¬ readyB T done k = true := fun k hk c => by
    have : k ∈ readyT T done := List.mem_filter.mpr ⟨hk, c⟩
    rw [e] at this
    cases this
  have goes : ∀ k ∈ keys T, k ∉ done → ∃ r, waitT T k = some r ∧ r ∉ done := fun k hk hd => by
    have q := none_ready k hk
    cases ew : waitT T k with
    | none => simp [readyB, hd, ew] at q
    | some r => exact ⟨r, rfl, fun m => q (by simp [readyB, hd, ew, m])⟩
  obtain ⟨k0, hk0, hd0⟩ : ∃ k ∈ keys T, k ∉ done := by
    by_cases c : ∃ k ∈ keys T, k ∉ done
    · exact c
    · have : ∀ k ∈ keys T, k ∈ done := fun k hk => by
        by_cases c2 : k ∈ done
        · exact c2
        · exact absurd ⟨k, hk, c2⟩ c
      have q := nodup_le (keys_nodup g.srt) this
      unfold keys at q
      rw [List.length_map] at q
      omega
  have is := path_is hk0
  have out : ∀ (i : Nat) (u : Int), (pathT T k0)[i]? = some u → u ∉ done := by
    intro i
    induction i with
    | zero =>
      intro u hu
      obtain ⟨_, e1⟩ := is.pre
      rw [e1] at hu
      have : k0 = u := Option.some.inj hu
      rw [← this]
      exact hd0
    | succ i ih =>
      intro u hu
      have hi : i + 1 < (pathT T k0).length := (List.getElem?_eq_some_iff.mp hu).1
      have h1 : (pathT T k0)[i]? = some (pathT T k0)[i] := List.getElem?_eq_getElem (by omega)
      obtain ⟨r, hr, hrd⟩ := goes _ (is.sub _ (List.mem_of_getElem? h1)) (ih _ h1)
      rw [is.ch i _ _ h1 hu] at hr
      cases hr
      exact hrd
  obtain ⟨z, hz, fin⟩ := is.fin
  have hzd : z ∉ done := by
    rw [List.getLast?_eq_getElem?] at hz
    exact out _ _ hz
  obtain ⟨r, hr, _⟩ := goes z (is.sub z (List.mem_of_getLast? hz)) hzd
  obtain ⟨k', hk', ring⟩ := cycle_ring is hz hr (fin r hr)
  have : pathT T k' ∈ ringsT T := List.mem_map.mpr ⟨k', List.mem_filter.mpr ⟨is.sub k' hk', ring⟩, rfl⟩
  rw [show ringsT T = [] from nr] at this
  cases this
/-- each is the first that is ready behind those ahead of it -/
def Fst (T : Rows) (o : List Int) : Prop := ∀ i a, o[i]? = some a → (readyT T (o.take i)).head? = some a
theorem ready_mem {T : Rows} {done : List Int} {k : Int} : k ∈ readyT T done ↔ k ∈ keys T ∧ k ∉ done ∧ ∀ r, waitT T k = some r → r ∈ done := by
  unfold readyT
  rw [List.mem_filter]
  refine and_congr_right fun _ => ?_
  unfold readyB
  cases e : waitT T k with
  | none => simp
  | some r => simp
theorem Fst.at {T : Rows} {o : List Int} (f : Fst T o) {i : Nat} {a : Int} (h : o[i]? = some a) : a ∈ keys T ∧ a ∉ o.take i ∧ ∀ r, waitT T a = some r → r ∈ o.take i := by
  have q := f i a h
  rw [List.head?_eq_some_iff] at q
  obtain ⟨rest, e⟩ := q
  exact ready_mem.mp (by rw [e]; exact List.mem_cons_self)
theorem fst_nil {T : Rows} : Fst T [] := fun i a h => by simp at h
theorem fst_snoc {T : Rows} {o : List Int} {a : Int} (f : Fst T o) (h : (readyT T o).head? = some a) : Fst T (o ++ [a]) := fun i b e => by
  by_cases c : i < o.length
  · rw [List.getElem?_append_left c] at e
    rw [List.take_append_of_le_length (by omega)]
    exact f i b e
  · have hi : i < (o ++ [a]).length := (List.getElem?_eq_some_iff.mp e).1
    rw [List.length_append, List.length_singleton] at hi
    have ei : i = o.length := by omega
    subst ei
    rw [List.getElem?_append_right (Nat.le_refl _), Nat.sub_self] at e
    have : a = b := Option.some.inj e
    rw [List.take_left', ← this]
    · exact h
    · rfl
theorem Fst.nd {T : Rows} {o : List Int} (f : Fst T o) : o.Nodup := by
  refine List.pairwise_iff_getElem.mpr fun i j hi hj lt e => ?_
  obtain ⟨_, h, _⟩ := f.at (List.getElem?_eq_getElem hj)
  refine h ?_
  rw [← e]
  exact List.mem_take_iff_getElem.mpr ⟨i, by omega, rfl⟩
theorem Fst.first {T : Rows} {o : List Int} (g : Good T) (f : Fst T o) : First T o := by
  refine ⟨f.nd, fun k hk => ?_, fun i k h r hr => (f.at h).2.2 r hr, fun i a b ha hb hw => ?_⟩
  · obtain ⟨i, hi, e⟩ := List.mem_iff_getElem.mp hk
    exact (f.at (by rw [List.getElem?_eq_getElem hi, e])).1
  · obtain ⟨b1, b2, b3⟩ := f.at hb
    have tk : o.take (i + 1) = o.take i ++ [a] := by
      rw [List.take_add_one, ha]
      rfl
    rw [tk] at b2 b3
    have rb : b ∈ readyT T (o.take i) := ready_mem.mpr ⟨b1, fun m => b2 (List.mem_append_left _ m), fun r hr => by
      rcases List.mem_append.mp (b3 r hr) with m | m
      · exact m
      · rw [List.mem_singleton.mp m] at hr
        exact absurd hr hw⟩
    have ra := f i a ha
    rw [List.head?_eq_some_iff] at ra
    obtain ⟨rest, e⟩ := ra
    have asc : (readyT T (o.take i)).Pairwise (· < ·) := (show (keys T).Pairwise (· < ·) from List.pairwise_map.mpr g.srt).sublist List.filter_sublist
    rw [e] at rb asc
    rcases List.mem_cons.mp rb with q | q
    · exact absurd (List.mem_append_right _ (by rw [q]; exact List.mem_singleton_self _)) b2
    · exact (List.pairwise_cons.mp asc).1 b q
theorem perm_of : ∀ {l m : List Int}, l.Nodup → (∀ x ∈ l, x ∈ m) → m.length ≤ l.length → l.Perm m
  | [], m, _, _, h => by rw [List.eq_nil_of_length_eq_zero (Nat.le_zero.mp h)]
  | x :: l, m, h, s, le => by
    obtain ⟨h1, h2⟩ := List.nodup_cons.mp h
    have hx : x ∈ m := s x List.mem_cons_self
    have q := perm_of (l := l) (m := m.erase x) h2 (fun y hy => (List.mem_erase_of_ne (fun e : y = x => h1 (by rw [← e]; exact hy))).mpr (s y (List.mem_cons_of_mem _ hy))) (by
      rw [List.length_erase_of_mem hx]
      rw [List.length_cons] at le
      omega)
    exact (q.cons x).trans (List.perm_cons_erase hx).symm
/-- an order: all keys, each once -/
theorem Fst.perm {T : Rows} {o : List Int} (g : Good T) (f : Fst T o) (h : o.length = T.length) : o.Perm (keys T) := by
  have hk : (keys T).length = T.length := by unfold keys; exact List.length_map ..
  exact perm_of f.nd (f.first g).sub (by omega)
end Rc
set_option Elab.async false
set_option linter.all false
set_option maxRecDepth 100000
set_option maxHeartbeats 4000000
namespace Rc
open PySem PySem.Spec PyProof.Rows L2 He He5 C8
theorem getE_map {l : List Int} {i : Nat} {x : Int} (h : l[i]? = some x) : (l.map V.int)[i]? = some (V.int x) := by rw [List.getElem?_map, h]; rfl
/-- t[:i] -/
theorem slice_to {K : PySem.W.Frag} {H : Hp} {a : Addr} {xs : List V} {i : Nat} {Q : VK} (h : SqT K H a xs) (hk : ∀ (H' : Hp) (p : Addr), Same H H' → SqT K H' p (xs.take i) → Q (.ref p) H') : rSlA K (.ref a) none (some (i : Int)) H Q := by
  refine ⟨a, xs, rfl, h, fun e => ?_, fun e p hp => ?_⟩
  · rw [HT.sIx_nat] at e
    have : xs.take i = xs := List.take_of_length_le (by omega)
    exact hk H a (Same.refl H) (by rw [this]; exact h)
  · refine hk _ p (sameUpd hp) ?_
    have : cutV xs none (some (i : Int)) = xs.take i := by
      unfold cutV
      rw [HT.sIx_nat, HT.sIx_none, List.drop_zero, Nat.sub_zero, List.take_eq_take_iff]
      omega
    rw [← this]
    exact SqT.of upd_same
section
variable {P : Program} {w : World} {K : PySem.W.Frag} {mg : Str → Option Value} {base : Heap}
def spFirst (C : Addr) : Sp := fun vs H Q _ => ∃ (t : Addr) (T : Rows), vs = [.ref t] ∧ TabAt C H t T ∧ NoRing T ∧ ∀ (H' : Hp) (p : Addr) (o : List Int), Same H H' → H' p = some (.tup (o.map V.int)) → First T o → o.Perm (keys T) → Q (.ref p) H'
theorem sc_first_order : FnScope ["table", "done"] ["table"] (defScope s_first_order) := ⟨rfl, rfl, rfl, by decide +kernel, rfl, by decide +kernel, by decide +kernel⟩
theorem ok_first_order (T : Txt K mg) : Ok P w K mg base 8 (ga K "first_order") (spFirst (CT K)) := by
  obtain ⟨fd, F⟩ := T.f_first_order
  have GR : Ok P w K mg base 7 (ga K "ready") (spReady (CT K)) := ok_ready T
  have GL : Ok P w K mg base 1 (ma K (CT K) "__len__") (spLen (CT K)) := ok_Table_len T
  refine ok_of F sc_first_order (F.binds fun _ _ _ _ _ _ us hl => match us, hl with | [_], _ => rfl) (fun vs H Q E h => ?_) (fun cdv A outer s H vs Q E hr h => ?_)
  · obtain ⟨t, U, rfl, _⟩ := h
    rfl
  · obtain ⟨t, U, rfl, ht, nr, k⟩ := h
    have nd := sc_first_order.nd
    refine ⟨_, pss_cons (ps_set (i := 1) nd rfl (Or.inl rfl) (pe_lst pa_nil))
      (pss_cons (ps_while PassesOwn.never (pt_cmpR op_lt (pe_callB call_len_seq (by rfl) T.b_len boot_len (pa_cons (pv 1) pa_nil)) (pe_callB (call_ownLen T.m_len.at_ T.m_len.fn GL (hr.mono (by decide))) (by rfl) T.b_len boot_len (pa_cons (pv 0) pa_nil)) (nomark _))
        (pss_one (ps_expr (pe_bm PySem.F.plainAttrs_list PySem.F.slot_list_append PySem.F.type_list_append mt_append (pv 1) (pa_cons (pe_ix ix_list (pe_fn GR hr T.g_ready (pa_cons (pv 0) (pa_cons (pv 1) pa_nil))) pe_int (fun _ _ => rfl)) pa_nil)))))
      (pss_one (ps_ret (pe_callTy call_tuple_of (by rfl) T.b_tuple (by decide +kernel) (pa_cons (pv 1) pa_nil))))), ?_⟩
    refine ⟨Nat.zero_le _, fun l hl => ?_⟩
    have s1 : Same H (upd H l (.lst [])) := sameUpd hl
    have g40 := ht.good.len
    refine ⟨fun m σ H' => ∃ done : List Int, m = 41 - done.length ∧ σ = [some (.ref t), some (.ref l)] ∧ Same H H' ∧ H' l = some (.lst (done.map V.int)) ∧ Fst U done ∧ done.length ≤ U.length,
      ⟨_, [], rfl, rfl, s1, upd_same, fst_nil, Nat.zero_le _⟩, ?_⟩
    rintro m σ H' ⟨done, rfl, rfl, s2, hx, f, hle⟩
    have ht2 := ht.same s2
    obtain ⟨g, dx, d, R0, h1, h2, p0⟩ := id ht2
    refine ⟨_, rfl, l, _, rfl, .inl (SqL.of hx), _, rfl, t, dx, _, rfl, h1, t, U, rfl, ht2, U.length, rfl, by omega, _, _, rfl, rfl, _, rfl, ?_⟩
    rw [List.length_map]
    by_cases c : done.length < U.length
    · rw [show decide (((done.length : Nat) : Int) < ((U.length : Nat) : Int)) = true from decide_eq_true (by omega)]
      refine iteT ⟨fun σ' H2 => ∃ m', m' < 41 - done.length ∧ ∃ done : List Int, m' = 41 - done.length ∧ σ' = [some (.ref t), some (.ref l)] ∧ Same H H2 ∧ H2 l = some (.lst (done.map V.int)) ∧ Fst U done ∧ done.length ≤ U.length, fun _ _ z => z, ?_⟩
      have ne := ready_ne ht.good nr f.nd (f.first ht.good).sub c
      obtain ⟨a, rest, er⟩ := List.exists_cons_of_ne_nil ne
      refine ⟨_, rfl, .inl ⟨rfl, _, SqL.of hx⟩, _, rfl, _, rfl, t, l, U, done, rfl, ht2, hx, fun H2 p s3 hp hp2 => ?_⟩
      refine ⟨p, _, 0, .int a, rfl, rfl, SqL.of hp2, by rw [er]; exact atI_nat (j := 0) rfl, l, _, _, rfl, rfl, s3 _ _ hx, by rw [List.length_map]; exact small40 (by omega), ?_⟩
      refine ⟨_, ?_, done ++ [a], rfl, rfl, sameNew (s2.trans s3) hl, by rw [upd_same, ints_snoc], fst_snoc f (by rw [er]; rfl), ?_⟩
      · rw [List.length_append, List.length_singleton]
        omega
      · rw [List.length_append, List.length_singleton]
        omega
    · rw [show decide (((done.length : Nat) : Int) < ((U.length : Nat) : Int)) = false from decide_eq_false (by omega)]
      refine iteF ⟨_, rfl, l, _, rfl, .inl ⟨SqL.of hx, fun q hq => ?_⟩⟩
      exact k _ q done (s2.trans (sameUpd hq)) upd_same (f.first ht.good) (f.perm ht.good (by omega))
def spFree (C : Addr) : Sp := fun vs H Q _ => ∃ (t : Addr) (T : Rows), vs = [.ref t] ∧ TabAt C H t T ∧ ∀ (H' : Hp) (b : Bool), Same H H' → (b = true ↔ Free T) → Q (.bl b) H'
theorem sc_is_free_of : FnScope ["table"] ["table"] (defScope s_is_free_of) := ⟨rfl, rfl, rfl, by decide +kernel, rfl, by decide +kernel, by decide +kernel⟩
theorem ok_is_free_of (T : Txt K mg) : Ok P w K mg base 9 (ga K "is_free_of") (spFree (CT K)) := by
  obtain ⟨fd, F⟩ := T.f_is_free_of
  have GG : Ok P w K mg base 4 (ga K "groups_of") (spGroups (CT K)) := ok_groups_of T
  have GR : Ok P w K mg base 8 (ga K "rings_of") (spRings (CT K)) := ok_rings_of T
  refine ok_of F sc_is_free_of (F.binds fun _ _ _ _ _ _ us hl => match us, hl with | [_], _ => rfl) (fun vs H Q E h => ?_) (fun cdv A outer s H vs Q E hr h => ?_)
  · obtain ⟨t, U, rfl, _⟩ := h
    rfl
  · obtain ⟨t, U, rfl, ht, k⟩ := h
    refine ⟨_, pss_one (ps_ret (pe_and (pe_cmpR (op_eqD hr.units) (pe_fn GG (hr.mono (by decide)) T.g_groups_of (pa_cons (pv 0) pa_nil)) (pe_lst pa_nil) (nomark _)) (pe_one (pe_cmpR (op_eqD hr.units) (pe_fn GR hr T.g_rings_of (pa_cons (pv 0) pa_nil)) (pe_lst pa_nil) (nomark _))))), ?_⟩
    refine ⟨_, rfl, t, U, rfl, ht, fun H1 p xs gs s1 hp0 hp hg _ he => ⟨Nat.zero_le _, fun l hl => ?_⟩⟩
    have s2 : Same H1 (upd H1 l (.lst [])) := sameUpd hl
    refine ⟨_, .list [], .lst (SqL.of (s2 _ _ hp)) (dp_tups (hg.same s2)), .lst (SqL.of upd_same) .nil, sh_tups gs, sh_nil, _, rfl, ?_⟩
    rw [eqvAll_nil]
    by_cases c : gs = []
    · rw [decide_eq_true c]
      refine iteT ⟨_, rfl, t, U, rfl, (ht.same s1).same s2, fun H2 q ys s3 hq0 hq hy => ⟨Nat.zero_le _, fun l2 hl2 => ?_⟩⟩
      have s4 : Same H2 (upd H2 l2 (.lst [])) := sameUpd hl2
      refine ⟨_, .list [], .lst (SqL.of (s4 _ _ hq)) (dp_tups (hy.same s4)), .lst (SqL.of upd_same) .nil, sh_tups _, sh_nil, ?_⟩
      rw [eqvAll_nil]
      refine k _ _ (s1.trans (s2.trans (s3.trans s4))) ?_
      rw [decide_eq_true_eq]
      exact ⟨fun e => ⟨he.mp c, e⟩, fun z => z.2⟩
    · rw [decide_eq_false c]
      exact iteF (k _ false (s1.trans s2) ⟨fun z => absurd z (by decide), fun z => absurd (he.mpr z.1) c⟩)
def spPasses (C : Addr) : Sp := fun vs H Q _ => ∃ (t p : Addr) (T : Rows) (o : List Int), vs = [.ref t, .ref p] ∧ TabAt C H t T ∧ H p = some (.tup (o.map V.int)) ∧ (∀ k ∈ o, k ∈ keys T) ∧ ∀ (H' : Hp) (b : Bool), Same H H' → (b = true ↔ Passes T o) → Q (.bl b) H'
theorem sc_passes : FnScope ["table", "order", "at", "key", "row"] ["table", "order"] (defScope s_passes) := ⟨rfl, rfl, rfl, by decide +kernel, rfl, by decide +kernel, by decide +kernel⟩
theorem ok_passes (T : Txt K mg) : Ok P w K mg base 7 (ga K "passes") (spPasses (CT K)) := by
  obtain ⟨fd, F⟩ := T.f_passes
  have GW : Ok P w K mg base 6 (ga K "waited") (spWaited (CT K)) := ok_waited T
  refine ok_of F sc_passes (F.binds fun _ _ _ _ _ _ us hl => match us, hl with | [_, _], _ => rfl) (fun vs H Q E h => ?_) (fun cdv A outer s H vs Q E hr h => ?_)
  · obtain ⟨t, p, U, o, rfl, _⟩ := h
    rfl
  · obtain ⟨t, p, U, o, rfl, ht, hp, sub, k⟩ := h
    have nd := sc_passes.nd
    refine ⟨_, pss_cons (ps_for PassesOwn.never rfl (pi_enumT (by rfl) T.b_enumerate (pa_cons (pv 1) pa_nil)) (pg_tup rfl (pgs_cons (pg_name (i := 2) nd rfl (Or.inl rfl)) (pgs_cons (pg_name (i := 3) nd rfl (Or.inl rfl)) pgs_nil)))
        (pss_cons (ps_set (i := 4) nd rfl (Or.inl rfl) (pe_fn GW hr T.g_waited (pa_cons (pv 0) (pa_cons (pv 3) pa_nil))))
        (pss_one (ps_if (PW.pt (pw_and (pt_cmpR op_notN (pv 4) pe_non (nomark _)) (pw_and1 (pt_cmpR op_notIn_seq (pv 4) (pe_slice sl_tupA (pv 1) po_none (po_some (pv 2))) rfl)))) (pss_one (ps_ret pe_bl)) pss_nil))))
      (pss_one (ps_ret pe_bl)), ?_⟩
    refine ⟨_, rfl, p, _, rfl, SqT.of hp, ?_⟩
    refine for_it (walk_enumT (K := K) (a := p) (xs := o.map V.int)) (fun i σ H' => ∃ v2 v3 v4, σ = [some (.ref t), some (.ref p), v2, v3, v4] ∧ Same H H' ∧ ∀ j q, j < i → o[j]? = some q → ∀ r, waitT U q = some r → r ∈ o.take j)
      ⟨none, none, none, rfl, Same.refl H, fun j q hj => absurd hj (Nat.not_lt_zero _)⟩ (fun i σ H' _ ⟨_, _, _, _, z, _⟩ => SqT.of (z _ _ hp)) ?_ ?_
    · rintro i x σ H' H'' hi ⟨v2, v3, v4, rfl, s1, inv⟩ ⟨a, y, z, rfl, ha, rfl, ey, ez⟩
      obtain ⟨q, e2, rfl⟩ := map_at ez
      obtain rfl : V.int (i : Nat) = y := Option.some.inj ey
      have s2 : Same H (upd H' a (.tup [.int (i : Nat), .int q])) := sameNew s1 (s1.free ha)
      refine ⟨a, _, rfl, SqT.of upd_same, rfl, _, _, rfl, _, _, rfl, rfl, ?_⟩
      refine ⟨_, rfl, _, rfl, t, U, q, rfl, ht.same s2, sub q (List.mem_of_getElem? e2), ?_⟩
      refine ⟨_, rfl, rfl, _, rfl, ?_⟩
      cases e : waitT U q with
      | none =>
        refine iteF (iteF ⟨_, _, _, rfl, s2, fun j b hj hb r hr => ?_⟩)
        rcases Nat.lt_or_ge j i with c | c
        · exact inv j b c hb r hr
        · have : j = i := by omega
          subst this
          rw [e2] at hb
          cases hb
          rw [e] at hr
          cases hr
      | some r =>
        refine iteT ⟨_, rfl, _, rfl, _, rfl, _, rfl, ?_⟩
        refine slice_to (SqT.of (s2 _ _ hp)) fun H3 l s3 hl => ?_
        have e3 := inV_ints r (o.take i)
        rw [List.map_take] at e3
        refine ⟨l, _, rfl, .inr hl, rfl, ?_, _, rfl, ?_⟩
        · rw [← List.map_take]
          exact flat_ints _
        by_cases c : r ∈ o.take i
        · rw [decide_eq_true c] at e3
          rw [show inV (ov (some r)) ((o.map V.int).take i) = true from e3]
          refine iteF ⟨_, _, _, rfl, s2.trans s3, fun j b hj hb r' hr => ?_⟩
          rcases Nat.lt_or_ge j i with c' | c'
          · exact inv j b c' hb r' hr
          · have : j = i := by omega
            subst this
            rw [e2] at hb
            cases hb
            rw [e] at hr
            cases hr
            exact c
        · rw [decide_eq_false c] at e3
          rw [show inV (ov (some r)) ((o.map V.int).take i) = false from e3]
          exact iteT (k _ false (s2.trans s3) ⟨fun z => absurd z (by decide), fun z => absurd (z i q e2 r e) c⟩)
    · rintro σ H' ⟨v2, v3, v4, rfl, s1, inv⟩
      rw [List.length_map] at inv
      exact k H' true s1 ⟨fun _ i q h => inv i q (getE_lt h) h, fun _ => rfl⟩
end
end Rc
set_option Elab.async false
set_option linter.all false
set_option maxRecDepth 100000
set_option maxHeartbeats 4000000
namespace Rc
open PySem PySem.Spec PyProof.Rows L2 He He5 C8
/-- a pair that competes, the lesser one first -/
def PairT (T : Rows) (l : List Int) : Prop := ∃ a b n, l = [a, b] ∧ a < b ∧ look T a = some n ∧ look T b = some n
/-- what verdict tells -/
inductive Told (T : Rows) : Str → List Int → Prop
  | pair {l} : PairT T l → Told T "compete" l
  | ring {l} : l ∈ ringsT T → Told T "ring" l
  | order {l} : Free T → First T l → l.Perm (keys T) → Told T "order" l
theorem Group.pair {T : Rows} {g : List Int} (h : Group T g) : PairT T (g.take 2) := by
  obtain ⟨h1, h2, n, h3⟩ := h
  match g, h1, h2, h3 with
  | a :: b :: r, _, h2, h3 => exact ⟨a, b, n, rfl, (List.pairwise_cons.mp h2).1 b List.mem_cons_self, h3 a List.mem_cons_self, h3 b (List.mem_cons_of_mem _ List.mem_cons_self)⟩
theorem slice_at {K : PySem.W.Frag} {H : Hp} {a : Addr} {xs : List V} {i : Nat} {Q : VK} (h : H a = some (.tup xs)) (hk : ∀ (H' : Hp) (p : Addr), Same H H' → H' p = some (.tup (xs.take i)) → Q (.ref p) H') : rSlA K (.ref a) none (some (i : Int)) H Q := by
  refine ⟨a, xs, rfl, SqT.of h, fun e => ?_, fun e p hp => ?_⟩
  · rw [HT.sIx_nat] at e
    have : xs.take i = xs := List.take_of_length_le (by omega)
    exact hk H a (Same.refl H) (by rw [this]; exact h)
  · refine hk _ p (sameUpd hp) ?_
    have : cutV xs none (some (i : Int)) = xs.take i := by
      unfold cutV
      rw [HT.sIx_nat, HT.sIx_none, List.drop_zero, Nat.sub_zero, List.take_eq_take_iff]
      omega
    rw [← this]
    exact upd_same
theorem slice_from {K : PySem.W.Frag} {H : Hp} {a : Addr} {xs : List V} {i : Nat} {Q : VK} (h : H a = some (.tup xs)) (hk : ∀ (H' : Hp) (p : Addr), Same H H' → H' p = some (.tup (xs.drop i)) → Q (.ref p) H') : rSlA K (.ref a) (some (i : Int)) none H Q := by
  refine ⟨a, xs, rfl, SqT.of h, fun e => ?_, fun e p hp => ?_⟩
  · rw [HT.sIx_nat] at e
    have : xs.drop i = xs := by
      by_cases c : xs = []
      · rw [c, List.drop_nil]
      · have := List.length_pos_iff.mpr c
        rw [show i = 0 by omega, List.drop_zero]
    exact hk H a (Same.refl H) (by rw [this]; exact h)
  · refine hk _ p (sameUpd hp) ?_
    have : cutV xs (some (i : Int)) none = xs.drop i := by
      unfold cutV
      rw [HT.sIx_nat, HT.sIx_none]
      by_cases c : i ≤ xs.length
      · rw [Nat.min_eq_left c]
        exact List.take_of_length_le (by rw [List.length_drop]; omega)
      · rw [List.drop_of_length_le (by omega), List.drop_of_length_le (by omega), List.take_nil]
    rw [← this]
    exact upd_same
theorem hu65 {A : Around} {k : Nat} (hr : Room k A) : A.units + 65 < cLine := by have := hr.un; omega
section
variable {P : Program} {w : World} {K : PySem.W.Frag} {mg : Str → Option Value} {base : Heap}
def spVerdict (C : Addr) : Sp := fun vs H Q _ => ∃ (t : Addr) (T : Rows), vs = [.ref t] ∧ TabAt C H t T ∧ ∀ (H' : Hp) (p q : Addr) (x : Str) (l : List Int), Same H H' → H' p = some (.tup [.str x, .ref q]) → H' q = some (.tup (l.map V.int)) → Told T x l → Q (.ref p) H'
theorem sc_verdict : FnScope ["table", "groups", "rings"] ["table"] (defScope s_verdict) := ⟨rfl, rfl, rfl, by decide +kernel, rfl, by decide +kernel, by decide +kernel⟩
theorem ok_verdict (T : Txt K mg) : Ok P w K mg base 9 (ga K "verdict") (spVerdict (CT K)) := by
  obtain ⟨fd, F⟩ := T.f_verdict
  have GN : Ok P w K mg base 1 (ga K "need_table") (spNeed (CT K)) := ok_need_table T
  have GG : Ok P w K mg base 4 (ga K "groups_of") (spGroups (CT K)) := ok_groups_of T
  have GR : Ok P w K mg base 8 (ga K "rings_of") (spRings (CT K)) := ok_rings_of T
  have GF : Ok P w K mg base 8 (ga K "first_order") (spFirst (CT K)) := ok_first_order T
  refine ok_of F sc_verdict (F.binds fun _ _ _ _ _ _ us hl => match us, hl with | [_], _ => rfl) (fun vs H Q E h => ?_) (fun cdv A outer s H vs Q E hr h => ?_)
  · obtain ⟨t, U, rfl, _⟩ := h
    rfl
  · obtain ⟨t, U, rfl, ht, k⟩ := h
    have nd := sc_verdict.nd
    refine ⟨_, pss_cons (ps_expr (pe_fn GN (hr.mono (by decide)) T.g_need_table (pa_cons (pv 0) pa_nil)))
      (pss_cons (ps_par (i := 1) (j := 2) (by rfl) nd rfl rfl (by decide) rfl rfl (pa_cons (pe_fn GG (hr.mono (by decide)) T.g_groups_of (pa_cons (pv 0) pa_nil)) (pa_cons (pe_fn GR hr T.g_rings_of (pa_cons (pv 0) pa_nil)) pa_nil)) (by rfl))
      (pss_cons (ps_if (pt_cmpR (op_neD hr.units) (pv 1) (pe_lst pa_nil) (nomark _)) (pss_one (ps_ret (pe_tup (pa_cons pe_str (pa_cons (pe_slice sl_tupA (pe_ix ix_list (pv 1) pe_int (fun _ _ => rfl)) po_none (po_some pe_int)) pa_nil))))) pss_nil)
      (pss_cons (ps_if (pt_cmpR (op_neD hr.units) (pv 2) (pe_lst pa_nil) (nomark _)) (pss_one (ps_ret (pe_tup (pa_cons pe_str (pa_cons (pe_ix ix_list (pv 2) pe_int (fun _ _ => rfl)) pa_nil))))) pss_nil)
      (pss_one (ps_ret (pe_tup (pa_cons pe_str (pa_cons (pe_fn GF hr T.g_first_order (pa_cons (pv 0) pa_nil)) pa_nil)))))))), ?_⟩
    refine ⟨_, rfl, t, U, rfl, ht, ?_⟩
    refine ⟨_, rfl, t, U, rfl, ht, fun H1 p xs gs s1 hp0 hp hg hgg he => ?_⟩
    refine ⟨_, rfl, t, U, rfl, ht.same s1, fun H2 q ys s2 hq0 hq hy => ?_⟩
    have s12 := s1.trans s2
    refine ⟨_, _, rfl, ?_⟩
    refine ⟨_, rfl, Nat.zero_le _, fun l hl => ?_⟩
    have s3 : Same H2 (upd H2 l (.lst [])) := sameUpd hl
    have hp2 := s3 _ _ (s2 _ _ hp)
    have hg2 := (hg.same s2).same s3
    refine ⟨_, .list [], .lst (SqL.of hp2) (dp_tups hg2), .lst (SqL.of upd_same) .nil, sh_tups gs, sh_nil, _, rfl, ?_⟩
    rw [eqvAll_nil]
    match gs, hg2, hgg, he with
    | g0 :: gr, hg2, hgg, he =>
      refine iteT ?_
      match xs, hg2, hp2 with
      | [], hg2, _ => exact absurd hg2.1 (by simp)
      | x :: xs, hg2, hp2 =>
        obtain ⟨r, m, e1, rfl, e3⟩ := hg2.2 0 x rfl
        obtain rfl : g0 = m := Option.some.inj e1
        refine ⟨_, rfl, p, _, 0, .ref r, rfl, rfl, SqL.of hp2, atI_nat (j := 0) rfl, _, rfl, ?_⟩
        refine slice_at (i := 2) e3 fun H3 z s4 hz => ?_
        refine ⟨(by show 2 ≤ sizeLine; decide), fun u hu => ?_⟩
        have s5 : Same H3 (upd H3 u (.tup [.str "compete", .ref z])) := sameUpd hu
        rw [← List.map_take] at hz
        exact k _ u z _ _ (s12.trans (s3.trans (s4.trans s5))) upd_same (s5 _ _ hz) (.pair (hgg g0 List.mem_cons_self).pair)
    | [], _, _, he =>
      refine iteF ?_
      have np : NoPair U := he.mp rfl
      refine ⟨_, rfl, Nat.zero_le _, fun l2 hl2 => ?_⟩
      have s4 := sameUpd (o := .lst []) hl2
      have s34 := s3.trans s4
      have hq2 := s34 _ _ hq
      have hy2 := hy.same s34
      refine ⟨_, .list [], .lst (SqL.of hq2) (dp_tups hy2), .lst (SqL.of upd_same) .nil, sh_tups _, sh_nil, _, rfl, ?_⟩
      rw [eqvAll_nil]
      by_cases c : ringsT U = []
      · rw [decide_eq_true c]
        refine iteF ⟨_, rfl, t, U, rfl, (ht.same s12).same s34, c, fun H3 z o s5 hz hf ho => ?_⟩
        refine ⟨(by show 2 ≤ sizeLine; decide), fun u hu => ?_⟩
        have s6 : Same H3 (upd H3 u (.tup [.str "order", .ref z])) := sameUpd hu
        exact k _ u z _ _ (s12.trans (s34.trans (s5.trans s6))) upd_same (s6 _ _ hz) (.order ⟨np, c⟩ hf ho)
      · rw [decide_eq_false c]
        refine iteT ?_
        obtain ⟨r0, rr, er⟩ := List.exists_cons_of_ne_nil c
        have hy3 := hy2
        rw [er] at hy3
        match ys, hy3, hq2 with
        | [], hy3, _ => exact absurd hy3.1 (by simp)
        | x :: ys, hy3, hq2 =>
          obtain ⟨r, m, e1, rfl, e3⟩ := hy3.2 0 x rfl
          obtain rfl : r0 = m := Option.some.inj e1
          refine ⟨_, rfl, q, _, 0, .ref r, rfl, rfl, SqL.of hq2, atI_nat (j := 0) rfl, ?_⟩
          refine ⟨(by show 2 ≤ sizeLine; decide), fun u hu => ?_⟩
          have s6 := sameUpd (o := .tup [.str "ring", .ref r]) hu
          exact k _ u r _ _ (s12.trans (s34.trans s6)) upd_same (s6 _ _ e3) (.ring (by rw [er]; exact List.mem_cons_self))
end
end Rc
set_option Elab.async false
set_option linter.all false
set_option maxRecDepth 100000
set_option maxHeartbeats 4000000
namespace Rc
open PySem PySem.Spec PyProof.Rows L2 He He5 C8
theorem eqvAll_tups : ∀ (ls : List (List Int)) (l : List Int), (ls.map tupD).any (fun z => PyData.eqv z (tupD l)) = decide (l ∈ ls)
  | [], l => by simp
  | m :: ls, l => by
    rw [List.map_cons, List.any_cons, eqvAll_tups ls l]
    show (PyData.eqv (.tuple (m.map PyData.int)) (.tuple (l.map PyData.int)) || _) = _
    rw [eqv_tuples]
    by_cases c : m = l
    · simp [c]
    · have c' : ¬ l = m := fun e => c e.symm
      simp [c, c']
theorem PairT.sub {T : Rows} {l : List Int} (h : PairT T l) : ∀ k ∈ l, k ∈ keys T := by
  obtain ⟨a, b, n, rfl, _, h1, h2⟩ := h
  intro k hk
  rcases List.mem_cons.mp hk with e | hk
  · rw [e]; exact look_key h1
  · rw [List.mem_singleton.mp hk]; exact look_key h2
theorem rings_sub {T : Rows} {l : List Int} (h : l ∈ ringsT T) : l.Nodup ∧ l ≠ [] ∧ (∀ k ∈ l, k ∈ keys T) ∧ l.length ≤ T.length := by
  obtain ⟨k, hk, rfl⟩ := List.mem_map.mp h
  obtain ⟨h1, h2, h3, h4⟩ := path_ok (List.mem_filter.mp hk).1
  exact ⟨h1, h3, h2, h4⟩
section
variable {P : Program} {w : World} {K : PySem.W.Frag} {mg : Str → Option Value} {base : Heap}
def spPair (C : Addr) : Sp := fun vs H Q _ => ∃ (t p : Addr) (T : Rows) (l : List Int), vs = [.ref t, .ref p] ∧ TabAt C H t T ∧ H p = some (.tup (l.map V.int)) ∧ PairT T l ∧ ∀ H', Same H H' → Q (.bl true) H'
theorem sc_is_pair : FnScope ["table", "thing", "key"] ["table", "thing"] (defScope s_is_pair) := ⟨rfl, rfl, rfl, by decide +kernel, rfl, by decide +kernel, by decide +kernel⟩
theorem ok_is_pair (T : Txt K mg) : Ok P w K mg base 6 (ga K "is_pair") (spPair (CT K)) := by
  obtain ⟨fd, F⟩ := T.f_is_pair
  have GC : Ok P w K mg base 3 (ma K (CT K) "__contains__") (spHas (CT K)) := ok_Table_contains T
  have GG : Ok P w K mg base 4 (ma K (CT K) "__getitem__") (spGet (CT K)) := ok_Table_getitem T
  refine ok_of F sc_is_pair (F.binds fun _ _ _ _ _ _ us hl => match us, hl with | [_, _], _ => rfl) (fun vs H Q E h => ?_) (fun cdv A outer s H vs Q E hr h => ?_)
  · obtain ⟨t, p, U, o, rfl, _⟩ := h
    rfl
  · obtain ⟨t, p, U, o, rfl, ht, hp, hpair, k⟩ := h
    have nd := sc_is_pair.nd
    refine ⟨_, pss_cons (ps_if (PW.pt (pw_or (pt_not (pt_val (pe_isTy "tuple" T.b_isinstance T.b_tuple (pv 1)))) (pw_or (pt_cmpR op_ne (pe_callB call_len_seq (by rfl) T.b_len boot_len (pa_cons (pv 1) pa_nil)) pe_int (nomark _)) (pw_or1 (pt_not (pt_val (pe_callB (cr_all rfl) (by rfl) T.b_all (by decide +kernel) (pa_cons
      (pe_lc (own := [("key", 2)]) (g := gName 2) (tt := tYes) (te := tOp (rOwnIn (CT K) (spHas (CT K)) false) (tVar 2) (tVar 0)) rfl nd (pi_tup (pv 1)) (blkOk_by (N := ["table", "thing", "key"]) (sc := defScope s_is_pair) (by decide +kernel))
        (fun _ _ _ _ _ => pg_name (i := 2) nd rfl (Or.inl rfl)) (fun _ _ _ _ _ => pts_nil) ?he) pa_nil)))))))) (pss_one (ps_ret pe_bl)) pss_nil)
      (pss_one (ps_ret (pe_and (pe_cmpR op_lt (pe_ix ix_tup (pv 1) pe_int (fun _ _ => rfl)) (pe_ix ix_tup (pv 1) pe_int (fun _ _ => rfl)) (nomark _))
        (pe_one (pe_cmpR op_eq (pe_ownIx T.m_getitem.at_ T.fn_getitem T.m_getitem.fn GG hr (pv 0) (pe_ix ix_tup (pv 1) pe_int (fun _ _ => rfl)) (fun _ _ => rfl)) (pe_ownIx T.m_getitem.at_ T.fn_getitem T.m_getitem.fn GG hr (pv 0) (pe_ix ix_tup (pv 1) pe_int (fun _ _ => rfl)) (fun _ _ => rfl)) (nomark _)))))), ?_⟩
    · intro s1 H1 C cl fp
      exact pe_cmpR (op_ownIn T.m_contains.at_ T.m_contains.fn GC (hr.mono (by decide))) (pv 2) (pv 0) rfl
    obtain ⟨g, dx, d, R0, h1, h2, p0⟩ := id ht
    have sub := hpair.sub
    obtain ⟨a, b, n, rfl, hab, ha, hb⟩ := hpair
    refine ⟨_, rfl, _, _, .type "tuple", .type "tuple", true, rfl, .ty _, .base (.tup hp), kit_ty (by decide +kernel), true, rfl, ?_⟩
    refine iteF ?_
    refine ⟨_, rfl, p, _, rfl, .inr (SqT.of hp), rfl, _, rfl, iteF ?_⟩
    refine ⟨_, rfl, p, rfl, ⟨_, SqT.of hp⟩, fun D hD => ?_⟩
    refine lc_it (walk_tup (K := K) (a := p) (xs := [a, b].map V.int)) (fun i H2 => Same H H2 ∧ H2 D = some (.lst ((List.replicate i true).map V.bl))) ⟨sameUpd hD, upd_same⟩ (fun i H2 _ z => SqT.of (z.1 _ _ hp)) ?_ ?_
    · rintro i x H2 H3 hi ⟨s2, hx⟩ ⟨rfl, e1⟩
      obtain ⟨y, e2, rfl⟩ := map_at e1
      have ht2 := ht.same s2
      refine ⟨rfl, ?_⟩
      refine ⟨_, rfl, _, rfl, t, dx, _, rfl, s2 _ _ h1, t, U, y, rfl, ht2, _, rfl, ?_⟩
      rw [List.length_map] at hi
      refine ⟨_, hx, ?_, sameNew s2 hD, ?_⟩
      · rw [List.length_map, List.length_replicate]
        exact small40 (by have : i < 2 := hi; omega)
      · rw [upd_same, List.replicate_succ', List.map_append]
        have : (look U y).isSome = true := look_some.mpr (sub y (List.mem_of_getElem? e2))
        rw [this]
        rfl
    · rintro H2 ⟨s2, hx⟩
      refine ⟨D, _, rfl, SqL.of hx, true, by rw [List.all_replicate]; simp, ?_⟩
      refine iteF ?_
      have hp2 := s2 _ _ hp
      refine ⟨_, rfl, p, _, 0, .int a, rfl, rfl, SqT.of hp2, atI_nat (j := 0) rfl, _, rfl, p, _, 1, .int b, rfl, rfl, SqT.of hp2, atI_nat (j := 1) rfl, _, _, rfl, rfl, _, rfl, ?_⟩
      rw [decide_eq_true hab]
      refine iteT ⟨_, rfl, _, rfl, p, _, 0, .int a, rfl, rfl, SqT.of hp2, atI_nat (j := 0) rfl, t, dx, _, rfl, s2 _ _ h1, t, U, a, n, rfl, ht.same s2, ha, ?_⟩
      refine ⟨_, rfl, _, rfl, p, _, 1, .int b, rfl, rfl, SqT.of hp2, atI_nat (j := 1) rfl, t, dx, _, rfl, s2 _ _ h1, t, U, b, n, rfl, ht.same s2, hb, rfl, ?_⟩
      rw [decide_eq_true rfl]
      exact k _ s2
def spRing (C : Addr) : Sp := fun vs H Q _ => ∃ (t p : Addr) (T : Rows) (l : List Int), vs = [.ref t, .ref p] ∧ TabAt C H t T ∧ H p = some (.tup (l.map V.int)) ∧ l ∈ ringsT T ∧ ∀ H', Same H H' → Q (.bl true) H'
theorem sc_is_ring : FnScope ["table", "thing", "key"] ["table", "thing"] (defScope s_is_ring) := ⟨rfl, rfl, rfl, by decide +kernel, rfl, by decide +kernel, by decide +kernel⟩
theorem ok_is_ring (T : Txt K mg) : Ok P w K mg base 9 (ga K "is_ring") (spRing (CT K)) := by
  obtain ⟨fd, F⟩ := T.f_is_ring
  have GC : Ok P w K mg base 3 (ma K (CT K) "__contains__") (spHas (CT K)) := ok_Table_contains T
  have GR : Ok P w K mg base 8 (ga K "rings_of") (spRings (CT K)) := ok_rings_of T
  refine ok_of F sc_is_ring (F.binds fun _ _ _ _ _ _ us hl => match us, hl with | [_, _], _ => rfl) (fun vs H Q E h => ?_) (fun cdv A outer s H vs Q E hr h => ?_)
  · obtain ⟨t, p, U, o, rfl, _⟩ := h
    rfl
  · obtain ⟨t, p, U, o, rfl, ht, hp, hring, k⟩ := h
    have nd := sc_is_ring.nd
    refine ⟨_, pss_one (ps_ret (pe_and (pe_isTy "tuple" T.b_isinstance T.b_tuple (pv 1)) (pe_and (pe_callB (cr_all rfl) (by rfl) T.b_all (by decide +kernel) (pa_cons
      (pe_lc (own := [("key", 2)]) (g := gName 2) (tt := tYes) (te := tOp (rOwnIn (CT K) (spHas (CT K)) false) (tVar 2) (tVar 0)) rfl nd (pi_tup (pv 1)) (blkOk_by (N := ["table", "thing", "key"]) (sc := defScope s_is_ring) (by decide +kernel))
        (fun _ _ _ _ _ => pg_name (i := 2) nd rfl (Or.inl rfl)) (fun _ _ _ _ _ => pts_nil) ?he) pa_nil))
      (pe_one (pe_cmpR (op_inD (hu65 hr)) (pv 1) (pe_fn GR hr T.g_rings_of (pa_cons (pv 0) pa_nil)) rfl))))), ?_⟩
    · intro s1 H1 C cl fp
      exact pe_cmpR (op_ownIn T.m_contains.at_ T.m_contains.fn GC (hr.mono (by decide))) (pv 2) (pv 0) rfl
    obtain ⟨g, dx, d, R0, h1, h2, p0⟩ := id ht
    obtain ⟨_, _, sub, hz⟩ := rings_sub hring
    have g40 := g.len
    refine ⟨_, rfl, _, _, .type "tuple", .type "tuple", true, rfl, .ty _, .base (.tup hp), kit_ty (by decide +kernel), true, rfl, ?_⟩
    refine ⟨_, rfl, p, rfl, ⟨_, SqT.of hp⟩, fun D hD => ?_⟩
    refine lc_it (walk_tup (K := K) (a := p) (xs := o.map V.int)) (fun i H2 => Same H H2 ∧ H2 D = some (.lst ((List.replicate i true).map V.bl))) ⟨sameUpd hD, upd_same⟩ (fun i H2 _ z => SqT.of (z.1 _ _ hp)) ?_ ?_
    · rintro i x H2 H3 hi ⟨s2, hx⟩ ⟨rfl, e1⟩
      obtain ⟨y, e2, rfl⟩ := map_at e1
      have ht2 := ht.same s2
      refine ⟨rfl, ?_⟩
      refine ⟨_, rfl, _, rfl, t, dx, _, rfl, s2 _ _ h1, t, U, y, rfl, ht2, _, rfl, ?_⟩
      rw [List.length_map] at hi
      refine ⟨_, hx, ?_, sameNew s2 hD, ?_⟩
      · rw [List.length_map, List.length_replicate]
        exact small40 (by omega)
      · rw [upd_same, List.replicate_succ', List.map_append]
        have : (look U y).isSome = true := look_some.mpr (sub y (List.mem_of_getElem? e2))
        rw [this]
        rfl
    · rintro H2 ⟨s2, hx⟩
      refine ⟨D, _, rfl, SqL.of hx, true, by rw [List.all_replicate]; simp, ?_⟩
      refine ⟨_, rfl, _, rfl, t, U, rfl, ht.same s2, fun H3 q xs s3 hq0 hq hy => ?_⟩
      refine ⟨tupD o, (ringsT U).map tupD, .tup (SqT.of (s3 _ _ (s2 _ _ hp))) (dp_ints o), .lst (SqL.of hq) (dp_tups hy), sh_tup o, sh_tups _, ?_⟩
      rw [eqvAll_tups, decide_eq_true hring]
      exact k _ (s2.trans s3)
def spShows (C : Addr) : Sp := fun vs H Q _ => ∃ (t p q : Addr) (T : Rows) (x : Str) (l : List Int), vs = [.ref t, .ref p] ∧ TabAt C H t T ∧ H p = some (.tup [.str x, .ref q]) ∧ H q = some (.tup (l.map V.int)) ∧
  ((x = "compete" ∧ PairT T l) ∨ (x = "ring" ∧ l ∈ ringsT T) ∨ (x = "order" ∧ l.Perm (keys T))) ∧
  ∀ (H' : Hp) (b : Bool), Same H H' → (x ≠ "order" → b = true) → (x = "order" → (b = true ↔ Free T ∧ Passes T l)) → Q (.bl b) H'
theorem sc_shows_verdict : FnScope ["table", "thing", "word", "shown"] ["table", "thing"] (defScope s_shows_verdict) := ⟨rfl, rfl, rfl, by decide +kernel, rfl, by decide +kernel, by decide +kernel⟩
theorem ok_shows_verdict (T : Txt K mg) : Ok P w K mg base 10 (ga K "shows_verdict") (spShows (CT K)) := by
  obtain ⟨fd, F⟩ := T.f_shows_verdict
  have GN : Ok P w K mg base 1 (ga K "need_table") (spNeed (CT K)) := ok_need_table T
  have GP : Ok P w K mg base 6 (ga K "is_pair") (spPair (CT K)) := ok_is_pair T
  have GR : Ok P w K mg base 9 (ga K "is_ring") (spRing (CT K)) := ok_is_ring T
  have GF : Ok P w K mg base 9 (ga K "is_free_of") (spFree (CT K)) := ok_is_free_of T
  have GO : Ok P w K mg base 4 (ga K "is_order") (spIsOrder (CT K)) := ok_is_order T
  have GS : Ok P w K mg base 7 (ga K "passes") (spPasses (CT K)) := ok_passes T
  refine ok_of F sc_shows_verdict (F.binds fun _ _ _ _ _ _ us hl => match us, hl with | [_, _], _ => rfl) (fun vs H Q E h => ?_) (fun cdv A outer s H vs Q E hr h => ?_)
  · obtain ⟨t, p, q, U, x, o, rfl, _⟩ := h
    rfl
  · obtain ⟨t, p, q, U, x, o, rfl, ht, hp, hq, cs, k⟩ := h
    have nd := sc_shows_verdict.nd
    refine ⟨_, pss_cons (ps_expr (pe_fn GN (hr.mono (by decide)) T.g_need_table (pa_cons (pv 0) pa_nil)))
      (pss_cons (ps_if (PW.pt (pw_or (pt_not (pt_val (pe_isTy "tuple" T.b_isinstance T.b_tuple (pv 1)))) (pw_or (pt_cmpR op_ne (pe_callB call_len_seq (by rfl) T.b_len boot_len (pa_cons (pv 1) pa_nil)) pe_int (nomark _)) (pw_or1 (pt_not (pt_val (pe_isTy "str" T.b_isinstance T.b_str (pe_ix ix_tup (pv 1) pe_int (fun _ _ => rfl))))))))) (pss_one (ps_ret pe_bl)) pss_nil)
      (pss_cons (ps_asg (pv 1) (pg_tup rfl (pgs_cons (pg_name (i := 2) nd rfl (Or.inl rfl)) (pgs_cons (pg_name (i := 3) nd rfl (Or.inl rfl)) pgs_nil))))
      (pss_cons (ps_if (pt_cmpR op_eq (pv 2) pe_str (nomark _)) (pss_one (ps_ret (pe_fn GP (hr.mono (by decide)) T.g_is_pair (pa_cons (pv 0) (pa_cons (pv 3) pa_nil))))) pss_nil)
      (pss_cons (ps_if (pt_cmpR op_eq (pv 2) pe_str (nomark _)) (pss_one (ps_ret (pe_fn GR hr T.g_is_ring (pa_cons (pv 0) (pa_cons (pv 3) pa_nil))))) pss_nil)
      (pss_one (ps_ret (pe_and (pe_cmpR op_eq (pv 2) pe_str (nomark _)) (pe_and (pe_fn GF hr T.g_is_free_of (pa_cons (pv 0) pa_nil)) (pe_and (pe_fn GO (hr.mono (by decide)) T.g_is_order (pa_cons (pv 0) (pa_cons (pv 3) pa_nil))) (pe_one (pe_fn GS (hr.mono (by decide)) T.g_passes (pa_cons (pv 0) (pa_cons (pv 3) pa_nil))))))))))))), ?_⟩
    refine ⟨_, rfl, t, U, rfl, ht, ?_⟩
    refine ⟨_, rfl, _, _, .type "tuple", .type "tuple", true, rfl, .ty _, .base (.tup hp), kit_ty (by decide +kernel), true, rfl, iteF ?_⟩
    refine ⟨_, rfl, p, _, rfl, .inr (SqT.of hp), rfl, _, rfl, iteF ?_⟩
    refine ⟨_, rfl, p, _, 0, .str x, rfl, rfl, SqT.of hp, atI_nat (j := 0) rfl, _, _, .type "str", .type "str", true, rfl, .ty _, .base (.str x), kit_ty (by decide +kernel), true, rfl, iteF ?_⟩
    refine ⟨_, rfl, p, _, rfl, SqT.of hp, rfl, _, _, rfl, _, _, rfl, rfl, ?_⟩
    refine ⟨_, rfl, rfl, _, rfl, ?_⟩
    rcases cs with ⟨rfl, c⟩ | ⟨rfl, c⟩ | ⟨rfl, c⟩
    · exact iteT ⟨_, rfl, _, rfl, t, q, U, o, rfl, ht, hq, c, fun H' s' => k H' true s' (fun _ => rfl) (fun e => absurd e (by decide))⟩
    · refine iteF ⟨_, rfl, rfl, _, rfl, ?_⟩
      exact iteT ⟨_, rfl, _, rfl, t, q, U, o, rfl, ht, hq, c, fun H' s' => k H' true s' (fun _ => rfl) (fun e => absurd e (by decide))⟩
    · refine iteF ⟨_, rfl, rfl, _, rfl, iteF ?_⟩
      refine ⟨_, rfl, rfl, _, rfl, iteT ?_⟩
      refine ⟨_, rfl, t, U, rfl, ht, fun H1 b s1 hb => ⟨b, rfl, ?_⟩⟩
      cases b with
      | false => exact iteF (k H1 false s1 (fun z => absurd rfl z) (fun _ => ⟨fun e => absurd e (by decide), fun z => absurd (hb.mpr z.1) (by decide)⟩))
      | true =>
        refine iteT ⟨_, rfl, _, rfl, t, q, U, o, rfl, ht.same s1, s1 _ _ hq, c, fun H2 s2 => ⟨true, rfl, iteT ?_⟩⟩
        have s12 := s1.trans s2
        exact ⟨_, rfl, _, rfl, t, q, U, o, rfl, ht.same s12, s12 _ _ hq, fun k hk => c.mem_iff.mp hk, fun H3 b s3 hb2 => k H3 b (s12.trans s3) (fun z => absurd rfl z) (fun _ => ⟨fun e => ⟨hb.mp rfl, hb2.mp e⟩, fun z => hb2.mpr z.2⟩)⟩
end
end Rc
set_option maxRecDepth 100000
set_option maxHeartbeats 1000000
set_option linter.all false
/-! Chains and factorials; orders that run. -/
namespace Rc
/-! ### factorials -/
def fac : Nat → Nat
  | 0 => 1
  | n + 1 => (n + 1) * fac n
theorem fac_pos : ∀ n, 0 < fac n
  | 0 => Nat.one_pos
  | n + 1 => Nat.mul_pos (Nat.succ_pos _) (fac_pos n)
theorem fac_le {a b : Nat} (h : a ≤ b) : fac a ≤ fac b := by
  induction h with
  | refl => exact Nat.le_refl _
  | step _ ih => exact Nat.le_trans ih (Nat.le_mul_of_pos_left _ (Nat.succ_pos _))
theorem fac_mul (a : Nat) : ∀ b, fac a * fac b ≤ fac (a + b)
  | 0 => by simp [fac]
  | b + 1 => by
    show fac a * ((b + 1) * fac b) ≤ (a + b + 1) * fac (a + b)
    rw [Nat.mul_left_comm]
    exact Nat.mul_le_mul (by omega) (fac_mul a b)
theorem fac40 : fac 40 < 2 ^ 200 := by decide +kernel
/-- what is left of f after the floor divisions -/
def divs (f : Nat) (ls : List Nat) : Nat := ls.foldl (fun f l => f / fac l) f
theorem divs_snoc (f : Nat) (ls : List Nat) (l : Nat) : divs f (ls ++ [l]) = divs f ls / fac l := by
  unfold divs
  rw [List.foldl_append]
  rfl
theorem divs_le : ∀ (ls : List Nat) (f : Nat), divs f ls ≤ f
  | [], _ => Nat.le_refl _
  | l :: ls, f => Nat.le_trans (divs_le ls (f / fac l)) (Nat.div_le_self _ _)
theorem divs_pos : ∀ (ls : List Nat) (f m : Nat), ls.sum ≤ m → fac m ≤ f → 0 < divs f ls
  | [], f, m, _, h => Nat.lt_of_lt_of_le (fac_pos m) h
  | l :: ls, f, m, hs, h => by
    rw [List.sum_cons] at hs
    refine divs_pos ls (f / fac l) (m - l) (by omega) ((Nat.le_div_iff_mul_le (fac_pos l)).mpr ?_)
    have q := fac_mul (m - l) l
    rw [show m - l + l = m by omega] at q
    exact Nat.le_trans q h
/-! ### chains -/
def chainsK (T : Rows) (ks : List Int) : List (List Int) := (ks.filter fun k => decide (waitingT T k = [])).map (pathT T)
def chainsT (T : Rows) : List (List Int) := chainsK T (keys T)
theorem pair_inj {T : Rows} (h : NoPair T) {a b n : Int} (ha : look T a = some n) (hb : look T b = some n) : a = b := by
  have h1 := look_mem ha
  have h2 := look_mem hb
  unfold NoPair news at h
  generalize n = n at *
  induction T with
  | nil => cases h1
  | cons r T ih =>
    obtain ⟨g1, g2⟩ := List.nodup_cons.mp (show (r.2 :: T.map (·.2)).Nodup from h)
    rcases List.mem_cons.mp h1 with e1 | m1 <;> rcases List.mem_cons.mp h2 with e2 | m2
    · have := congrArg Prod.fst (e1.trans e2.symm); exact this
    · exact absurd (List.mem_map.mpr ⟨(b, n), m2, by rw [← e1]⟩) g1
    · exact absurd (List.mem_map.mpr ⟨(a, n), m1, by rw [← e2]⟩) g1
    · clear ha hb ih
      induction T with
      | nil => cases m1
      | cons q T ih =>
        obtain ⟨k1, k2⟩ := List.nodup_cons.mp (show (q.2 :: T.map (·.2)).Nodup from g2)
        rcases List.mem_cons.mp m1 with e1 | m1 <;> rcases List.mem_cons.mp m2 with e2 | m2
        · have := congrArg Prod.fst (e1.trans e2.symm); exact this
        · exact absurd (List.mem_map.mpr ⟨(b, n), m2, by rw [← e1]⟩) k1
        · exact absurd (List.mem_map.mpr ⟨(a, n), m1, by rw [← e2]⟩) k1
        · exact ih (List.nodup_cons.mpr ⟨fun m => g1 (List.mem_cons_of_mem _ m), k2⟩) (List.mem_cons_of_mem _ m1) (List.mem_cons_of_mem _ m2) (fun m => g1 (List.mem_cons_of_mem _ m)) k2 m1 m2
theorem waiting_none {T : Rows} {k a : Int} (h : waitingT T k = []) : waitT T a ≠ some k := fun e => by
  obtain ⟨h1, h2, h3⟩ := wait_some e
  have : a ∈ waitingT T k := List.mem_map.mpr ⟨(a, k), List.mem_filter.mpr ⟨look_mem h1, by simp; exact fun z => h2 z.symm⟩, rfl⟩
  rw [h] at this
  cases this
theorem chain_apart {T : Rows} (np : NoPair T) {a b : Int} (ha : a ∈ keys T) (hb : b ∈ keys T) (wa : waitingT T a = []) (wb : waitingT T b = []) (ne : a ≠ b) : ∀ (i j : Nat) (x : Int), (pathT T a)[i]? = some x → (pathT T b)[j]? = some x → False := by
  have pa := path_is ha
  have pb := path_is hb
  have a0 : (pathT T a)[0]? = some a := by obtain ⟨_, e⟩ := pa.pre; rw [e]; rfl
  have b0 : (pathT T b)[0]? = some b := by obtain ⟨_, e⟩ := pb.pre; rw [e]; rfl
  have prev : ∀ {l : List Int} {i : Nat} {x : Int}, l[i + 1]? = some x → ∃ y, l[i]? = some y := fun {l i x} h => by
    have := (List.getElem?_eq_some_iff.mp h).1
    exact ⟨l[i], List.getElem?_eq_getElem (by omega)⟩
  intro i
  induction i with
  | zero =>
    intro j x h1 h2
    rw [a0] at h1
    cases h1
    cases j with
    | zero =>
      rw [b0] at h2
      exact ne (Option.some.inj h2).symm
    | succ j =>
      obtain ⟨y, hy⟩ := prev h2
      exact waiting_none wa (pb.ch _ _ _ hy h2)
  | succ i ih =>
    intro j x h1 h2
    obtain ⟨y, hy⟩ := prev h1
    have w1 := pa.ch _ _ _ hy h1
    cases j with
    | zero =>
      rw [b0] at h2
      cases h2
      exact waiting_none wb w1
    | succ j =>
      obtain ⟨z, hz⟩ := prev h2
      have w2 := pb.ch _ _ _ hz h2
      have e := pair_inj np (wait_some w1).1 (wait_some w2).1
      rw [e] at hy
      exact ih j z hy hz
theorem chains_sum {T : Rows} (g : Good T) (np : NoPair T) : ((chainsT T).map List.length).sum ≤ T.length := by
  rw [← List.length_flatten]
  have hk : (keys T).length = T.length := by unfold keys; exact List.length_map ..
  rw [← hk]
  refine nodup_le ?_ fun x hx => ?_
  · refine List.pairwise_flatten.mpr ⟨fun l hl => ?_, ?_⟩
    · obtain ⟨k, hk, rfl⟩ := List.mem_map.mp hl
      exact (path_is (List.mem_filter.mp hk).1).nd
    · refine List.pairwise_map.mpr ?_
      have nd : ((keys T).filter fun k => decide (waitingT T k = [])).Nodup := (keys_nodup g.srt).sublist List.filter_sublist
      refine List.Pairwise.imp_of_mem (fun {a b} ha hb hab x hx y hy e => ?_) nd
      obtain ⟨ha1, ha2⟩ := List.mem_filter.mp ha
      obtain ⟨hb1, hb2⟩ := List.mem_filter.mp hb
      obtain ⟨i, hi⟩ := List.mem_iff_getElem?.mp hx
      obtain ⟨j, hj⟩ := List.mem_iff_getElem?.mp hy
      rw [← e] at hj
      exact chain_apart np ha1 hb1 (of_decide_eq_true ha2) (of_decide_eq_true hb2) hab i j x hi hj
  · obtain ⟨l, hl, hx⟩ := List.mem_flatten.mp hx
    obtain ⟨k, hk, rfl⟩ := List.mem_map.mp hl
    exact (path_is (List.mem_filter.mp hk).1).sub x hx
theorem orders_pos {T : Rows} (g : Good T) (np : NoPair T) : 0 < divs (fac T.length) ((chainsT T).map List.length) := divs_pos _ _ _ (chains_sum g np) (Nat.le_refl _)
/-! ### rings -/
theorem ring_is {T : Rows} {l : List Int} (h : l ∈ ringsT T) : ∃ k rest, l = k :: rest ∧ rest ≠ [] ∧ (∀ x ∈ l, k ≤ x) ∧ l.map (fun k => (look T k).getD 0) = rest ++ [k] ∧ (∀ x ∈ l, ∃ r ∈ l, waitT T x = some r) ∧ (∀ x ∈ l, x ∈ keys T) := by
  obtain ⟨k, hk, rfl⟩ := List.mem_map.mp h
  obtain ⟨hk1, hk2⟩ := List.mem_filter.mp hk
  obtain ⟨z, hz, hw, hle⟩ := ringAt_iff.mp hk2
  have p := path_is hk1
  obtain ⟨rest, e⟩ := p.pre
  have e0 := e
  generalize hl : pathT T k = l at *
  subst e
  rw [List.getLast?_eq_getElem?] at hz
  have hz' : (k :: rest)[rest.length]? = some z := by simpa using hz
  have nxt : ∀ i, i < rest.length → ∀ x, (k :: rest)[i]? = some x → ∃ r, rest[i]? = some r ∧ waitT T x = some r := fun i hi x hx => by
    have : (k :: rest)[i + 1]? = some rest[i] := by rw [List.getElem?_cons_succ, List.getElem?_eq_getElem hi]
    exact ⟨rest[i], List.getElem?_eq_getElem hi, p.ch _ _ _ hx this⟩
  refine ⟨k, rest, rfl, ?_, hle, ?_, fun x hx => ?_, p.sub⟩
  · rintro rfl
    have : z = k := by simpa using hz'.symm
    rw [this] at hw
    exact (wait_some hw).2.1 rfl
  · refine List.ext_getElem? fun i => ?_
    rw [List.getElem?_map]
    rcases Nat.lt_trichotomy i rest.length with c | c | c
    · have hlt : i < (k :: rest).length := by simp; omega
      have hx : (k :: rest)[i]? = some (k :: rest)[i] := List.getElem?_eq_getElem hlt
      obtain ⟨r, h1, h2⟩ := nxt i c _ hx
      rw [hx, List.getElem?_append_left c, h1, Option.map_some, (wait_some h2).1]
      rfl
    · subst c
      rw [hz', List.getElem?_append_right (Nat.le_refl _), Nat.sub_self, Option.map_some, (wait_some hw).1]
      rfl
    · rw [List.getElem?_eq_none (by simp; omega), List.getElem?_eq_none (by simp; omega)]
      rfl
  · obtain ⟨i, hi⟩ := List.mem_iff_getElem?.mp hx
    have hlt := (List.getElem?_eq_some_iff.mp hi).1
    by_cases c : i < rest.length
    · obtain ⟨r, h1, h2⟩ := nxt i c x hi
      exact ⟨r, List.mem_cons_of_mem _ (List.mem_of_getElem? h1), h2⟩
    · have : i = rest.length := by simp at hlt; omega
      subst this
      rw [hz'] at hi
      cases hi
      exact ⟨k, List.mem_cons_self, hw⟩
/-! ### orders that run -/
theorem take_drop_apart {o : List Int} (nd : o.Nodup) {i : Nat} {x : Int} (h1 : x ∈ o.take i) (h2 : x ∈ o.drop i) : False := by
  rw [← List.take_append_drop i o] at nd
  exact (List.nodup_append.mp nd).2.2 x h1 x h2 rfl
theorem runs_of {T : Rows} {o : List Int} (np : NoPair T) (nd : o.Nodup) (p : o.Perm (keys T)) (h : Passes T o) : Runs T o := by
  intro i k n hi hl hn
  have hk : k ∈ o.drop i := by
    refine List.mem_iff_getElem?.mpr ⟨0, ?_⟩
    rw [List.getElem?_drop]
    exact hi
  refine ⟨fun x hx e => ?_, fun x hx e => ?_⟩
  · have := pair_inj np e hl
    rw [this] at hx
    exact take_drop_apart nd hx hk
  · subst e
    have hx2 : x ∈ keys T := p.mem_iff.mp (List.mem_of_mem_drop hx)
    have w : waitT T k = some x := by
      rw [wait_eq hl, if_pos ⟨hn, look_some.mpr hx2⟩]
    exact take_drop_apart nd (h i k hi x w) hx
theorem passes_of {T : Rows} {o : List Int} (p : o.Perm (keys T)) (h : Runs T o) : Passes T o := by
  intro i k hi r hr
  obtain ⟨h1, h2, h3⟩ := wait_some hr
  have q := (h i k r hi h1 h2).2
  have : r ∈ o := p.mem_iff.mpr h3
  rw [← List.take_append_drop i o] at this
  rcases List.mem_append.mp this with c | c
  · exact c
  · exact absurd rfl (q r c)
theorem runs_iff {T : Rows} {o : List Int} (g : Good T) (np : NoPair T) (p : o.Perm (keys T)) : Runs T o ↔ Passes T o :=
  ⟨passes_of p, runs_of np (p.nodup_iff.mpr (keys_nodup g.srt)) p⟩
/-- two neighbours exchanged -/
def swap (o : List Int) (i : Nat) (a b : Int) : List Int := o.take i ++ [b, a] ++ o.drop (i + 2)
theorem at_two {o : List Int} {i : Nat} {a b : Int} (ha : o[i]? = some a) (hb : o[i + 1]? = some b) : o = o.take i ++ a :: b :: o.drop (i + 2) := by
  have h1 := (List.getElem?_eq_some_iff.mp ha).1
  have h2 := (List.getElem?_eq_some_iff.mp hb).1
  conv => lhs; rw [← List.take_append_drop i o]
  rw [List.drop_eq_getElem_cons h1, List.drop_eq_getElem_cons h2]
  rw [(List.getElem?_eq_some_iff.mp ha).2, (List.getElem?_eq_some_iff.mp hb).2]
theorem swap_perm {o : List Int} {i : Nat} {a b : Int} (ha : o[i]? = some a) (hb : o[i + 1]? = some b) : (swap o i a b).Perm o := by
  conv => rhs; rw [at_two ha hb]
  unfold swap
  rw [List.append_assoc]
  exact List.Perm.append_left _ (List.Perm.swap _ _ _)
theorem swap_passes {T : Rows} {o : List Int} {i : Nat} {a b : Int} (nd : o.Nodup) (sub : ∀ k ∈ o, k ∈ keys T) (ha : o[i]? = some a) (hb : o[i + 1]? = some b) (h : Passes T o) : Passes T (swap o i a b) ↔ look T b ≠ some a := by
  have eo := at_two ha hb
  have hi : i + 1 < o.length := (List.getElem?_eq_some_iff.mp hb).1
  have hpl : (o.take i).length = i := by rw [List.length_take]; omega
  have nd2 : (o.take i ++ a :: b :: o.drop (i + 2)).Nodup := by rw [← eo]; exact nd
  have anb : a ≠ b := by
    intro e
    have := (List.nodup_append.mp nd2).2.1
    rw [e] at this
    exact (List.nodup_cons.mp this).1 List.mem_cons_self
  have ani : a ∉ o.take i := fun m => (List.nodup_append.mp nd2).2.2 a m a List.mem_cons_self rfl
  have es : swap o i a b = o.take i ++ b :: a :: o.drop (i + 2) := by unfold swap; rw [List.append_assoc]; rfl
  have t0 : (swap o i a b).take i = o.take i := by
    rw [es, List.take_append_of_le_length (by omega), List.take_take, Nat.min_self]
  have s0 : (swap o i a b)[i]? = some b := by rw [es, List.getElem?_append_right (by omega), hpl, Nat.sub_self]; rfl
  constructor
  · intro hp e
    have w : waitT T b = some a := by
      rw [wait_eq e, if_pos ⟨anb, look_some.mpr (sub a (List.mem_of_getElem? ha))⟩]
    have := hp i b s0 a w
    rw [t0] at this
    exact ani this
  · intro hne j k hj r hr
    have hr1 := (wait_some hr).1
    rcases Nat.lt_trichotomy j i with c | c | c
    · have e1 : o[j]? = some k := by
        rw [es, List.getElem?_append_left (by omega)] at hj
        rwa [List.getElem?_take_of_lt c] at hj
      have := h j k e1 r hr
      rw [es, List.take_append_of_le_length (by omega), List.take_take, Nat.min_eq_left (by omega)]
      exact this
    · subst c
      rw [s0] at hj
      cases hj
      rw [t0]
      have := h (j + 1) b hb r hr
      rw [List.take_add_one, ha] at this
      rcases List.mem_append.mp this with m | m
      · exact m
      · have : r = a := by simpa using m
        rw [this] at hr1
        exact absurd hr1 hne
    · by_cases c2 : j = i + 1
      · subst c2
        have e1 : k = a := by
          rw [es, List.getElem?_append_right (by omega), hpl] at hj
          rw [show i + 1 - i = 1 by omega] at hj
          exact (Option.some.inj hj).symm
        subst e1
        have := h i k ha r hr
        rw [List.take_add_one, t0]
        exact List.mem_append_left _ this
      · have e1 : o[j]? = some k := by
          rw [es, List.getElem?_append_right (by omega), hpl] at hj
          rw [eo, List.getElem?_append_right (by omega), hpl]
          obtain ⟨d, hd⟩ : ∃ d, j - i = d + 2 := ⟨j - i - 2, by omega⟩
          rw [hd] at hj ⊢
          exact hj
        have := h j k e1 r hr
        have tk : ((swap o i a b).take j).Perm (o.take j) := by
          conv => rhs; rw [eo]
          rw [es, List.take_append, List.take_append, hpl]
          obtain ⟨d, hd⟩ : ∃ d, j - i = d + 2 := ⟨j - i - 2, by omega⟩
          rw [hd]
          exact List.Perm.append_left _ (List.Perm.swap _ _ _)
        exact tk.mem_iff.mpr this
theorem first_gap {T : Rows} {o : List Int} {i : Nat} {a b : Int} (f : First T o) (ha : o[i]? = some a) (hb : o[i + 1]? = some b) (h : look T b ≠ some a) : a < b :=
  f.least i a b ha hb fun e => h (wait_some e).1
theorem clash {T : Rows} {o : List Int} {a b n : Int} {i j : Nat} (hi : o[i]? = some a) (hj : o[j]? = some b) (ij : i < j) (ha : look T a = some n) (hb : look T b = some n) (ne : a ≠ b) : ¬ Runs T o := by
  intro h
  by_cases c : n = b
  · subst c
    refine (h i a n hi ha (fun e => ne e.symm)).2 n ?_ rfl
    refine List.mem_iff_getElem?.mpr ⟨j - i, ?_⟩
    rw [List.getElem?_drop, show i + (j - i) = j by omega]
    exact hj
  · refine (h j b n hj hb c).1 a ?_ ha
    refine List.mem_iff_getElem?.mpr ⟨i, ?_⟩
    rw [List.getElem?_take_of_lt ij]
    exact hi
theorem pair_stops {T : Rows} {o : List Int} {a b n : Int} (p : o.Perm (keys T)) (ne : a ≠ b) (ha : look T a = some n) (hb : look T b = some n) : ¬ Runs T o := by
  obtain ⟨i, hi⟩ := List.mem_iff_getElem?.mp (p.mem_iff.mpr (look_key ha))
  obtain ⟨j, hj⟩ := List.mem_iff_getElem?.mp (p.mem_iff.mpr (look_key hb))
  rcases Nat.lt_trichotomy i j with c | c | c
  · exact clash hi hj c ha hb ne
  · subst c
    rw [hi] at hj
    exact absurd (Option.some.inj hj) ne
  · exact clash hj hi c hb ha ne.symm
theorem ring_stops {T : Rows} {o l : List Int} (p : o.Perm (keys T)) (h : l ∈ ringsT T) : ¬ Runs T o := by
  intro hr
  have hp := passes_of p hr
  obtain ⟨k, rest, e, _, _, _, hw, hsub⟩ := ring_is h
  have no : ∀ (i : Nat) (x : Int), o[i]? = some x → x ∈ l → False := by
    intro i
    induction i using Nat.strongRecOn with
    | _ i ih =>
      intro x hx hm
      obtain ⟨r, hr1, hr2⟩ := hw x hm
      obtain ⟨j, hj⟩ := List.mem_iff_getElem?.mp (hp i x hx r hr2)
      have hlt := (List.getElem?_eq_some_iff.mp hj).1
      rw [List.length_take] at hlt
      rw [List.getElem?_take_of_lt (by omega)] at hj
      exact ih j (by omega) r hj hr1
  have hk : k ∈ l := by rw [e]; exact List.mem_cons_self
  obtain ⟨i, hi⟩ := List.mem_iff_getElem?.mp (p.mem_iff.mpr (hsub k hk))
  exact no i k hi hk
theorem pair_not_free {T : Rows} {a b n : Int} (ne : a ≠ b) (ha : look T a = some n) (hb : look T b = some n) : ¬ Free T := fun h => ne (pair_inj h.1 ha hb)
theorem ring_not_free {T : Rows} {l : List Int} (h : l ∈ ringsT T) : ¬ Free T := fun f => by
  have := f.2
  unfold NoRing at this
  rw [this] at h
  cases h
end Rc
set_option Elab.async false
set_option linter.all false
set_option maxRecDepth 100000
set_option maxHeartbeats 4000000
namespace Rc
open PySem PySem.Spec PyProof.Rows L2 He He5 C8
/-- references to lists of ints, none of them at D -/
def LstsO (D : Addr) (H : Hp) (xs : List V) (ls : List (List Int)) : Prop := xs.length = ls.length ∧ ∀ (i : Nat) (x : V), xs[i]? = some x → ∃ (p : Addr) (l : List Int), ls[i]? = some l ∧ x = V.ref p ∧ p ≠ D ∧ H p = some (.lst (l.map V.int))
theorem LstsO.same {D : Addr} {H H' : Hp} {xs : List V} {ls : List (List Int)} (h : LstsO D H xs ls) (s : Same H H') : LstsO D H' xs ls := by
  refine ⟨h.1, fun i x e => ?_⟩
  obtain ⟨p, r, h1, h2, h3, h4⟩ := h.2 i x e
  exact ⟨p, r, h1, h2, h3, s _ _ h4⟩
theorem LstsO.upd {D : Addr} {H : Hp} {xs : List V} {ls : List (List Int)} {o : HO} (h : LstsO D H xs ls) : LstsO D (L2.upd H D o) xs ls := by
  refine ⟨h.1, fun i x e => ?_⟩
  obtain ⟨p, r, h1, h2, h3, h4⟩ := h.2 i x e
  exact ⟨p, r, h1, h2, h3, by rw [upd_ne h3]; exact h4⟩
theorem lstsO_snoc {D : Addr} {H : Hp} {xs : List V} {ls : List (List Int)} {p : Addr} {l : List Int} (h : LstsO D H xs ls) (hn : p ≠ D) (hp : H p = some (.lst (l.map V.int))) : LstsO D H (xs ++ [.ref p]) (ls ++ [l]) := by
  refine ⟨by rw [List.length_append, List.length_append, h.1]; rfl, fun i x e => ?_⟩
  by_cases c : i < xs.length
  · rw [List.getElem?_append_left c] at e
    obtain ⟨q, s, h1, h2, h3, h4⟩ := h.2 i x e
    exact ⟨q, s, by rw [List.getElem?_append_left (by rw [← h.1]; exact c)]; exact h1, h2, h3, h4⟩
  · have hi : i = xs.length := by
      have := getE_lt e
      rw [List.length_append, List.length_singleton] at this
      omega
    subst hi
    rw [List.getElem?_append_right (Nat.le_refl _), Nat.sub_self] at e
    have ex : x = V.ref p := (Option.some.inj e).symm
    exact ⟨p, l, by rw [h.1, List.getElem?_append_right (Nat.le_refl _), Nat.sub_self]; rfl, ex, hn, hp⟩
section
variable {P : Program} {w : World} {K : PySem.W.Frag} {mg : Str → Option Value} {base : Heap}
def spFac : Sp := fun vs H Q _ => ∃ n : Nat, vs = [.int (n : Int)] ∧ n ≤ 40 ∧ Q (.int (fac n : Nat)) H
theorem sc_factorial : FnScope ["many", "found", "number"] ["many"] (defScope s_factorial) := ⟨rfl, rfl, rfl, by decide +kernel, rfl, by decide +kernel, by decide +kernel⟩
theorem ok_factorial (T : Txt K mg) : Ok P w K mg base 1 (ga K "factorial") spFac := by
  obtain ⟨fd, F⟩ := T.f_factorial
  refine ok_of F sc_factorial (F.binds fun _ _ _ _ _ _ us hl => match us, hl with | [_], _ => rfl) (fun vs H Q E h => ?_) (fun cdv A outer s H vs Q E hr h => ?_)
  · obtain ⟨n, rfl, _⟩ := h
    rfl
  · obtain ⟨n, rfl, hn, k⟩ := h
    have nd := sc_factorial.nd
    refine ⟨_, pss_cons (ps_set (i := 1) nd rfl (Or.inl rfl) pe_int)
      (pss_cons (ps_for PassesOwn.never rfl (pi_range2 rfl T.b_range (pa_cons pe_int (pa_cons (pe_op op_add (pv 0) pe_int) pa_nil))) (pg_name (i := 2) nd rfl (Or.inl rfl))
        (pss_one (ps_aug (i := 1) nd rfl (Or.inl rfl) (pv 2) iop_mul)))
      (pss_one (ps_ret (pv 1)))), ?_⟩
    refine ⟨_, rfl, _, _, rfl, rfl, _, _, rfl, ⟨by omega, by omega, by omega, by omega⟩, ?_⟩
    refine for_range (fun i σ H' => H' = H ∧ ∃ v, σ = [some (.int (n : Int)), some (.int (fac (i + 1) : Nat)), v]) ⟨rfl, none, rfl⟩ ?_ ?_
    · rintro i σ H' hi ⟨rfl, v, rfl⟩
      refine ⟨_, rfl, _, rfl, _, _, rfl, rfl, .inr ⟨by omega, by omega⟩, rfl, some (.int (2 + (i : Int))), ?_⟩
      show [_, _, _] = [_, _, _]
      have : (fac (i + 1) : Int) * (2 + (i : Int)) = (fac (i + 1 + 1) : Nat) := by
        show _ = (((i + 1 + 1) * fac (i + 1) : Nat) : Int)
        rw [Int.natCast_mul, Int.mul_comm]
        congr 1
        omega
      rw [← this]
    · rintro σ H' ⟨rfl, v, rfl⟩
      refine ⟨_, rfl, ?_⟩
      have : fac ((((n : Int) + 1 - 2).toNat) + 1) = fac n := by
        rcases n with _ | n
        · rfl
        · rw [show (((n + 1 : Nat) : Int) + 1 - 2).toNat = n by omega]
      rw [this]
      exact k
def spChains (C : Addr) : Sp := fun vs H Q _ => ∃ (t : Addr) (T : Rows), vs = [.ref t] ∧ TabAt C H t T ∧ ∀ (H' : Hp) (p : Addr) (xs : List V), Same H H' → H' p = some (.lst xs) → LstsO p H' xs (chainsT T) → Q (.ref p) H'
theorem sc_chains_of : FnScope ["table", "key"] ["table"] (defScope s_chains_of) := ⟨rfl, rfl, rfl, by decide +kernel, rfl, by decide +kernel, by decide +kernel⟩
theorem ok_chains_of (T : Txt K mg) : Ok P w K mg base 8 (ga K "chains_of") (spChains (CT K)) := by
  obtain ⟨fd, F⟩ := T.f_chains_of
  have GK : Ok P w K mg base 3 (ga K "keys_of") (spKeys (CT K)) := ok_keys_of T
  have GP : Ok P w K mg base 7 (ga K "path_of") (spPath (CT K)) := ok_path_of T
  have GW : Ok P w K mg base 3 (ga K "waiting_for") (spWaiting (CT K)) := ok_waiting_for T
  refine ok_of F sc_chains_of (F.binds fun _ _ _ _ _ _ us hl => match us, hl with | [_], _ => rfl) (fun vs H Q E h => ?_) (fun cdv A outer s H vs Q E hr h => ?_)
  · obtain ⟨t, U, rfl, _⟩ := h
    rfl
  · obtain ⟨t, U, rfl, ht, k⟩ := h
    have nd := sc_chains_of.nd
    refine ⟨_, pss_one (ps_ret (pe_lc (own := [("key", 1)]) (g := gName 1) (tt := tTest (tOp (rEqD K) (tFn (spWaiting (CT K)) (tCons (tVar 0) (tCons (tVar 1) tNil))) (tLst tNil))) (te := tFn (spPath (CT K)) (tCons (tVar 0) (tCons (tVar 1) tNil))) rfl nd
      (pi_list (pe_fn GK (hr.mono (by decide)) T.g_keys_of (pa_cons (pv 0) pa_nil))) (blkOk_by (N := ["table", "key"]) (sc := defScope s_chains_of) (by decide +kernel)) (fun _ _ _ _ _ => pg_name (i := 1) nd rfl (Or.inl rfl)) ?ht ?he)), ?_⟩
    · intro s1 H1 C cl fp
      exact pts_one (pt_cmpR (op_eqD hr.units) (pe_fn GW (hr.mono (by decide)) T.g_waiting_for (pa_cons (pv 0) (pa_cons (pv 1) pa_nil))) (pe_lst pa_nil) (nomark _))
    · intro s1 H1 C cl fp
      exact pe_fn GP hr T.g_path_of (pa_cons (pv 0) (pa_cons (pv 1) pa_nil))
    refine ⟨_, rfl, t, U, rfl, ht, fun H1 kl s1 hkl hk => ?_⟩
    refine ⟨kl, rfl, ⟨_, SqL.of hk⟩, fun D hD => ?_⟩
    have g40 := ht.good.len
    have hlen : (keys U).length = U.length := by unfold keys; exact List.length_map ..
    refine lc_it (walk_list (K := K) (a := kl) (xs := (keys U).map V.int)) (fun j H2 => Same H1 H2 ∧ ∃ xs, H2 D = some (.lst xs) ∧ LstsO D H2 xs (chainsK U ((keys U).take j))) ⟨sameUpd hD, [], upd_same, rfl, fun i x e => by simp at e⟩ (fun j H2 _ z => SqL.of (z.1 _ _ hk)) ?_ ?_
    · rintro j x H2 H3 hi ⟨s2, xs, hx, hl⟩ ⟨rfl, e1⟩
      obtain ⟨key, e2, rfl⟩ := map_at e1
      have hkey : key ∈ keys U := List.mem_of_getElem? e2
      have hj : j < 40 := by have := getE_lt e2; omega
      have hxs : xs.length ≤ j := by
        rw [hl.1]
        unfold chainsK
        rw [List.length_map]
        refine Nat.le_trans (List.length_filter_le _ _) ?_
        rw [List.length_take]
        omega
      have hstep : chainsK U ((keys U).take (j + 1)) = chainsK U ((keys U).take j) ++ (if waitingT U key = [] then [pathT U key] else []) := by
        unfold chainsK
        rw [take_more e2, List.filter_append, List.map_append]
        congr 1
        rw [List.filter_cons, List.filter_nil]
        by_cases c : waitingT U key = [] <;> simp [c]
      have ht2 := (ht.same s1).same s2
      refine ⟨rfl, _, rfl, _, rfl, t, U, key, rfl, ht2, fun H4 q s4 hq0 hq => ⟨Nat.zero_le _, fun l hl0 => ?_⟩⟩
      have s5 : Same H4 (upd H4 l (.lst [])) := sameUpd hl0
      have s45 := s4.trans s5
      refine ⟨.list ((waitingT U key).map PyData.int), .list ([].map PyData.int), .lst (SqL.of (s5 _ _ hq)) (dp_ints _), .lst (SqL.of upd_same) .nil, sh_list _, sh_nil, _, rfl, ?_⟩
      rw [eqv_lists]
      by_cases c : waitingT U key = []
      · rw [decide_eq_true c]
        refine iteT ⟨_, rfl, _, rfl, t, U, key, rfl, ht2.same s45, hkey, fun H6 p s6 hp0 hp => ?_⟩
        have s456 := s45.trans s6
        have hx6 := s456 _ _ hx
        have nDp : p ≠ D := fun z => by
          rw [z, s45 _ _ hx] at hp0
          cases hp0
        refine ⟨xs, hx6, small40 (by omega), sameNew (s2.trans s456) hD, _, upd_same, ?_⟩
        rw [hstep, if_pos c]
        exact (lstsO_snoc (hl.same s456) nDp hp).upd
      · rw [decide_eq_false c]
        refine iteF ⟨s2.trans s45, xs, s45 _ _ hx, ?_⟩
        rw [hstep, if_neg c, List.append_nil]
        exact hl.same s45
    · rintro H2 ⟨s2, xs, hx, hl⟩
      rw [List.length_map, List.take_length] at hl
      exact k H2 D xs (s1.trans s2) hx hl
def spOrders (C : Addr) : Sp := fun vs H Q _ => ∃ (t : Addr) (T : Rows), vs = [.ref t] ∧ TabAt C H t T ∧ ∀ (H' : Hp) (c : Nat), Same H H' → (¬ Free T → c = 0) → (Free T → 0 < c) → Q (.int (c : Nat)) H'
theorem sc_orders_of : FnScope ["table", "found", "chain"] ["table"] (defScope s_orders_of) := ⟨rfl, rfl, rfl, by decide +kernel, rfl, by decide +kernel, by decide +kernel⟩
theorem ok_orders_of (T : Txt K mg) : Ok P w K mg base 10 (ga K "orders_of") (spOrders (CT K)) := by
  obtain ⟨fd, F⟩ := T.f_orders_of
  have GF : Ok P w K mg base 9 (ga K "is_free_of") (spFree (CT K)) := ok_is_free_of T
  have GC : Ok P w K mg base 8 (ga K "chains_of") (spChains (CT K)) := ok_chains_of T
  have GA : Ok P w K mg base 1 (ga K "factorial") spFac := ok_factorial T
  have GL : Ok P w K mg base 1 (ma K (CT K) "__len__") (spLen (CT K)) := ok_Table_len T
  refine ok_of F sc_orders_of (F.binds fun _ _ _ _ _ _ us hl => match us, hl with | [_], _ => rfl) (fun vs H Q E h => ?_) (fun cdv A outer s H vs Q E hr h => ?_)
  · obtain ⟨t, U, rfl, _⟩ := h
    rfl
  · obtain ⟨t, U, rfl, ht, k⟩ := h
    have nd := sc_orders_of.nd
    refine ⟨_, pss_cons (ps_if (pt_not (pt_val (pe_fn GF hr T.g_is_free_of (pa_cons (pv 0) pa_nil)))) (pss_one (ps_ret pe_int)) pss_nil)
      (pss_cons (ps_set (i := 1) nd rfl (Or.inl rfl) (pe_fn GA (hr.mono (by decide)) T.g_factorial (pa_cons (pe_callB (call_ownLen T.m_len.at_ T.m_len.fn GL (hr.mono (by decide))) (by rfl) T.b_len boot_len (pa_cons (pv 0) pa_nil)) pa_nil)))
      (pss_cons (ps_for PassesOwn.never rfl (pi_list (pe_fn GC (hr.mono (by decide)) T.g_chains_of (pa_cons (pv 0) pa_nil))) (pg_name (i := 2) nd rfl (Or.inl rfl))
        (pss_one (ps_aug (i := 1) nd rfl (Or.inl rfl) (pe_fn GA (hr.mono (by decide)) T.g_factorial (pa_cons (pe_callB call_len_seq (by rfl) T.b_len boot_len (pa_cons (pv 2) pa_nil)) pa_nil)) iop_fdivW)))
      (pss_one (ps_ret (pv 1))))), ?_⟩
    refine ⟨_, rfl, t, U, rfl, ht, fun H1 b s1 hb => ⟨b, rfl, ?_⟩⟩
    have ht1 := ht.same s1
    have g40 := ht.good.len
    cases b with
    | false => exact iteT (k H1 0 s1 (fun _ => rfl) (fun f => absurd (hb.mpr f) (by decide)))
    | true =>
      have fr : Free U := hb.mp rfl
      obtain ⟨g, dx, d, R0, h1, h2, p0⟩ := id ht1
      refine iteF ⟨_, rfl, t, dx, _, rfl, h1, t, U, rfl, ht1, U.length, rfl, by omega, U.length, rfl, g40, ?_⟩
      refine ⟨_, rfl, t, U, rfl, ht1, fun H2 p xs s2 hp hl => ?_⟩
      refine ⟨p, rfl, ⟨_, SqL.of hp⟩, for_list (K := K) (a := p) (xs := xs) (fun i σ H' => H' = H2 ∧ ∃ v, σ = [some (.ref t), some (.int (divs (fac U.length) (((chainsT U).take i).map List.length) : Nat)), v]) ⟨rfl, none, rfl⟩ (fun i σ H' _ ⟨e, _⟩ => by rw [e]; exact SqL.of hp) ?_ ?_⟩
      · rintro i x σ H' hi ⟨rfl, v, rfl⟩
        obtain ⟨q, l, e1, rfl, nq, hq⟩ := hl.2 i x hi
        have hmem : l ∈ chainsT U := List.mem_of_getElem? e1
        have hl40 : l.length ≤ 40 := by
          obtain ⟨kk, hk, rfl⟩ := List.mem_map.mp hmem
          have := (path_ok (List.mem_filter.mp hk).1).2.2.2
          omega
        refine ⟨_, rfl, _, rfl, q, _, rfl, .inl (SqL.of hq), l.length, by rw [List.length_map], hl40, ?_⟩
        refine ⟨_, _, rfl, rfl, wide_div (b := 200) ?_ ?_ (by decide) (by decide), rfl, some (.ref q), ?_⟩
        · have := fac_pos l.length
          omega
        · have a := fac_le hl40
          have b := fac40
          omega
        · rw [take_more e1, List.map_append]
          show [_, _, _] = [_, _, _]
          rw [show List.map List.length [l] = [l.length] from rfl, divs_snoc, Int.natCast_ediv]
      · rintro σ H' ⟨rfl, v, rfl⟩
        rw [hl.1, List.take_length]
        exact ⟨_, rfl, k H' _ (s1.trans s2) (fun z => absurd fr z) (fun _ => orders_pos ht.good fr.1)⟩
theorem sc_passing_orders : FnScope ["table"] ["table"] (defScope s_passing_orders) := ⟨rfl, rfl, rfl, by decide +kernel, rfl, by decide +kernel, by decide +kernel⟩
theorem ok_passing_orders (T : Txt K mg) : Ok P w K mg base 11 (ga K "passing_orders") (spOrders (CT K)) := by
  obtain ⟨fd, F⟩ := T.f_passing_orders
  have GN : Ok P w K mg base 1 (ga K "need_table") (spNeed (CT K)) := ok_need_table T
  have GO : Ok P w K mg base 10 (ga K "orders_of") (spOrders (CT K)) := ok_orders_of T
  refine ok_of F sc_passing_orders (F.binds fun _ _ _ _ _ _ us hl => match us, hl with | [_], _ => rfl) (fun vs H Q E h => ?_) (fun cdv A outer s H vs Q E hr h => ?_)
  · obtain ⟨t, U, rfl, _⟩ := h
    rfl
  · obtain ⟨t, U, rfl, ht, k⟩ := h
    refine ⟨_, pss_cons (ps_expr (pe_fn GN (hr.mono (by decide)) T.g_need_table (pa_cons (pv 0) pa_nil))) (pss_one (ps_ret (pe_fn GO hr T.g_orders_of (pa_cons (pv 0) pa_nil)))), ?_⟩
    exact ⟨_, rfl, t, U, rfl, ht, _, rfl, t, U, rfl, ht, k⟩
end
end Rc
set_option Elab.async false
set_option linter.all false
set_option maxRecDepth 100000
set_option maxHeartbeats 4000000
namespace Rc
open PySem PySem.Spec PyProof.Rows L2 He He5 C8
/-! ### what the rows hold -/
def plv (o : List Int) (f : Int → Int) : List (Key × V) := o.map fun k => ((Sum.inl k : Key), V.int (f k))
theorem plv_dkv (o : List Int) (f : Int → Int) : plv o f = dkv (o.map fun k => (k, f k)) := by
  unfold plv dkv
  rw [List.map_map]
  rfl
theorem plv_congr {o : List Int} {f g : Int → Int} (h : ∀ x ∈ o, f x = g x) : plv o f = plv o g := by
  unfold plv
  exact List.map_congr_left fun x hx => by rw [h x hx]
theorem valV_plv : ∀ {o : List Int} {f : Int → Int} {k : Int}, k ∈ o → valV (plv o f) (Sum.inl k : Key) = some (.int (f k))
  | x :: o, f, k, h => by
    show valV (((Sum.inl x : Key), V.int (f x)) :: plv o f) (Sum.inl k) = _
    by_cases c : x = k
    · rw [valV_pos (by rw [c]), c]
    · rw [valV_neg (fun e => c (Sum.inl.inj e))]
      exact valV_plv ((List.mem_cons.mp h).resolve_left fun e => c e.symm)
theorem valV_plv_not : ∀ {o : List Int} {f : Int → Int} {k : Int}, k ∉ o → valV (plv o f) (Sum.inl k : Key) = none
  | [], _, _, _ => rfl
  | x :: o, f, k, h => by
    show valV (((Sum.inl x : Key), V.int (f x)) :: plv o f) (Sum.inl k) = _
    rw [valV_neg (fun e => h (by rw [← Sum.inl.inj e]; exact List.mem_cons_self))]
    exact valV_plv_not fun m => h (List.mem_cons_of_mem _ m)
theorem putK_old {κ : Type} [DecidableEq κ] {kvs : List (κ × V)} {k : κ} {v : V} (h : (valV kvs k).isSome = true) : putK kvs k v = kvs.map fun kv => if kv.1 = k then (kv.1, v) else kv := by
  unfold putK
  rw [valV_any, h]
  exact if_pos rfl
theorem putK_plv {o : List Int} {f : Int → Int} {k v : Int} (h : k ∈ o) : putK (plv o f) (Sum.inl k : Key) (V.int v) = plv o fun x => if x = k then v else f x := by
  rw [putK_old (by rw [valV_plv h]; rfl)]
  unfold plv
  rw [List.map_map]
  refine List.map_congr_left fun x _ => ?_
  show (if (Sum.inl x : Key) = Sum.inl k then ((Sum.inl x : Key), V.int v) else (Sum.inl x, V.int (f x))) = ((Sum.inl x : Key), V.int (if x = k then v else f x))
  by_cases c : x = k
  · rw [if_pos (by rw [c]), if_pos c]
  · rw [if_neg (fun e => c (Sum.inl.inj e)), if_neg c]
theorem plv_snoc (o : List Int) (k : Int) (f : Int → Int) : plv (o ++ [k]) f = plv o f ++ [((Sum.inl k : Key), V.int (f k))] := by
  unfold plv
  rw [List.map_append]
  rfl
theorem plv_len (o : List Int) (f : Int → Int) : (plv o f).length = o.length := by unfold plv; exact List.length_map ..
theorem upd_back {H : Hp} {d : Addr} {u z : HO} (h : H d = some u) : upd (upd H d z) d u = H := by
  rw [upd_upd]
  funext b
  by_cases c : b = d
  · rw [c, upd_same, h]
  · rw [upd_ne c]
abbrev CO (K : PySem.W.Frag) : Addr := ga K "Outcome"
abbrev CA (K : PySem.W.Frag) : Addr := ga K "Abort"
theorem fs_triple (v : V) : [(("triple" : Str), v)].lookup ("triple" : Str) = some v := by simp [List.lookup]
/-- an outcome whose stop is l -/
def OutAt (C : Addr) (H : Hp) (x : Addr) (l : List Int) : Prop := ∃ (dx q a b c : Addr), H x = some (.ins C dx [(("triple" : Str), V.ref q)]) ∧ H q = some (.tup [.ref a, .ref b, .ref c]) ∧ H b = some (.tup (l.map V.int))
section
variable {P : Program} {w : World} {K : PySem.W.Frag} {mg : Str → Option Value} {base : Heap}
def spOInit (C : Addr) : Sp := fun vs H Q _ => ∃ (x dx a b c : Addr), vs = [.ref x, .ref a, .ref b, .ref c] ∧ H x = some (.ins C dx []) ∧ ∀ (H' : Hp) (q : Addr), (∀ b o, b ≠ x → H b = some o → H' b = some o) → H' x = some (.ins C dx [(("triple" : Str), V.ref q)]) → H' q = some (.tup [.ref a, .ref b, .ref c]) → Q .non H'
theorem sc_Outcome_init : FnScope ["self", "rows", "stop", "ends"] ["self", "rows", "stop", "ends"] (defScope s_Outcome_init) := ⟨rfl, rfl, rfl, by decide +kernel, rfl, by decide +kernel, by decide +kernel⟩
theorem ok_Outcome_init (T : Txt K mg) : Ok P w K mg base 1 (ma K (CO K) "__init__") (spOInit (CO K)) := by
  obtain ⟨fd, F⟩ := T.f_Outcome_init
  refine ok_of F sc_Outcome_init (F.binds fun _ _ _ _ _ _ us hl => match us, hl with | [_, _, _, _], _ => rfl) (fun vs H Q E h => ?_) (fun cdv A outer s H vs Q E hr h => ?_)
  · obtain ⟨x, dx, a, b, c, rfl, _⟩ := h
    rfl
  · obtain ⟨x, dx, a, b, c, rfl, hx, k⟩ := h
    refine ⟨_, pss_one (ps_fld (pv 0) (pe_tup (pa_cons (pv 1) (pa_cons (pv 2) (pa_cons (pv 3) pa_nil)))) rfl), ?_⟩
    refine ⟨_, rfl, _, rfl, _, rfl, (by show 3 ≤ sizeLine; decide), fun q hq => ?_⟩
    have nxq : x ≠ q := ne_of_none hx hq
    refine ⟨_, rfl, x, CO K, dx, [], rfl, by rw [upd_ne nxq]; exact hx, T.cl_Outcome, T.no_triple, (by show 0 < 1000; decide), ?_⟩
    refine k _ q (fun b' o hb e => ?_) upd_same ?_
    · rw [upd_ne hb]
      exact sameUpd hq b' o e
    · rw [upd_ne nxq.symm]
      exact upd_same
def spStop (C : Addr) : Sp := fun vs H Q _ => ∃ (x dx q a b c : Addr), vs = [.ref x] ∧ H x = some (.ins C dx [(("triple" : Str), V.ref q)]) ∧ H q = some (.tup [.ref a, .ref b, .ref c]) ∧ Q (.ref b) H
theorem sc_Outcome_stop : FnScope ["self"] ["self"] (defScope s_Outcome_stop) := ⟨rfl, rfl, rfl, by decide +kernel, rfl, by decide +kernel, by decide +kernel⟩
theorem ok_Outcome_stop (T : Txt K mg) : Ok P w K mg base 1 (getter K "Outcome" "stop") (spStop (CO K)) := by
  obtain ⟨fd, F⟩ := T.f_Outcome_stop
  refine ok_of F sc_Outcome_stop (F.binds fun _ _ _ _ _ _ us hl => match us, hl with | [_], _ => rfl) (fun vs H Q E h => ?_) (fun cdv A outer s H vs Q E hr h => ?_)
  · obtain ⟨x, dx, q, a, b, c, rfl, _⟩ := h
    rfl
  · obtain ⟨x, dx, q, a, b, c, rfl, hx, hq, k⟩ := h
    refine ⟨_, pss_one (ps_ret (pe_ix ix_tup (pe_fld (pv 0) rfl) pe_int (fun _ _ => rfl))), ?_⟩
    exact ⟨_, rfl, x, CO K, dx, _, _, rfl, hx, T.cl_Outcome, T.no_triple, fs_triple _, q, _, 1, .ref b, rfl, rfl, SqT.of hq, atI_nat (j := 1) rfl, k⟩
def spHolder : Sp := fun vs H Q _ => ∃ (d : Addr) (n : Int) (o : List Int) (f : Int → Int), vs = [.ref d, .int n] ∧ H d = some (.dK (plv o f)) ∧ ((∀ x ∈ o, f x ≠ n) → Q .non H) ∧ ∀ k ∈ o, f k = n → Q (.int k) H
theorem sc_holder_of : FnScope ["places", "key", "row"] ["places", "key"] (defScope s_holder_of) := ⟨rfl, rfl, rfl, by decide +kernel, rfl, by decide +kernel, by decide +kernel⟩
theorem ok_holder_of (T : Txt K mg) : Ok P w K mg base 1 (ga K "holder_of") spHolder := by
  obtain ⟨fd, F⟩ := T.f_holder_of
  refine ok_of F sc_holder_of (F.binds fun _ _ _ _ _ _ us hl => match us, hl with | [_, _], _ => rfl) (fun vs H Q E h => ?_) (fun cdv A outer s H vs Q E hr h => ?_)
  · obtain ⟨d, n, o, f, rfl, _⟩ := h
    rfl
  · obtain ⟨d, n, o, f, rfl, hd, k1, k2⟩ := h
    have nd := sc_holder_of.nd
    have hu := hu_of hr
    refine ⟨_, pss_cons (ps_lock (ps_for PassesOwn.never rfl (pi_keys (pv 0)) (pg_name (i := 2) nd rfl (Or.inl rfl))
        (pss_one (ps_if (pt_cmpR op_eq (pe_dget hu (pv 0) (pv 2) (fun _ _ => rfl)) (pv 1) (nomark _)) (pss_one (ps_ret (pv 2))) pss_nil))))
      (pss_one (ps_ret pe_non)), ?_⟩
    refine ⟨d, .dK (plv o f), hd, trivial, fun od => ?_⟩
    refine ⟨_, rfl, d, od, rfl, .inl ⟨_, upd_same, ?_⟩⟩
    refine for_it (walk_keys (d := d) (o := od) (kvs := plv o f)) (fun i σ H' => H' = upd H d (.frz od (.dK (plv o f))) ∧ (∃ v, σ = [some (.ref d), some (.int n), v]) ∧ ∀ x ∈ o.take i, f x ≠ n)
      ⟨rfl, ⟨none, rfl⟩, fun x hx => by simp at hx⟩ (fun i σ H' _ z => by rw [z.1]; exact upd_same) ?_ ?_
    · rintro i x σ H' H'' hi ⟨rfl, ⟨v, rfl⟩, inv⟩ ⟨rfl, kk, vv, e1, rfl⟩
      obtain ⟨key, e2, e3⟩ := map_at e1
      cases e3
      have hk : key ∈ o := List.mem_of_getElem? e2
      refine ⟨_, rfl, _, rfl, d, .int (f key), rfl, .inl ⟨_, _, .inr ⟨_, upd_same⟩, rfl, (valV_plv hk).symm⟩, _, rfl, rfl, _, rfl, ?_⟩
      rw [dec_ii]
      by_cases c : f key = n
      · rw [decide_eq_true c]
        refine iteT ⟨_, rfl, upd_same, ?_⟩
        rw [upd_back hd]
        exact k2 key hk c
      · rw [decide_eq_false c]
        refine iteF ⟨rfl, ⟨_, rfl⟩, fun x hx => ?_⟩
        rw [take_more e2] at hx
        rcases List.mem_append.mp hx with m | m
        · exact inv x m
        · rw [List.mem_singleton.mp m]
          exact c
    · rintro σ H' ⟨rfl, ⟨v, rfl⟩, inv⟩
      rw [plv_len, List.take_length] at inv
      refine ⟨upd_same, ?_⟩
      rw [upd_back hd]
      exact k1 inv
def spSettle : Sp := fun vs H Q _ => ∃ (x d : Addr) (a b c : Int) (o : List Int) (f : Int → Int), vs = [.ref x, .ref d, .int a, .int b, .int c] ∧ H d = some (.dK (plv o f)) ∧ o.length ≤ 40 ∧
  ∀ (H' : Hp) (g : Int → Int), (∀ b u, b ≠ d → H b = some u → H' b = some u) → H' d = some (.dK (plv o g)) → Q .non H'
theorem sc_Undoes_settle : FnScope ["self", "places", "row", "holder", "new", "key"] ["self", "places", "row", "holder", "new"] (defScope s_Undoes_settle) := ⟨rfl, rfl, rfl, by decide +kernel, rfl, by decide +kernel, by decide +kernel⟩
theorem ok_Undoes_settle (T : Txt K mg) : Ok P w K mg base 1 (ma K (CA K) "settle") spSettle := by
  obtain ⟨fd, F⟩ := T.f_Undoes_settle
  refine ok_of F sc_Undoes_settle (F.binds fun _ _ _ _ _ _ us hl => match us, hl with | [_, _, _, _, _], _ => rfl) (fun vs H Q E h => ?_) (fun cdv A outer s H vs Q E hr h => ?_)
  · obtain ⟨x, d, a, b, c, o, f, rfl, _⟩ := h
    rfl
  · obtain ⟨x, d, a, b, c, o, f, rfl, hd, hz, k⟩ := h
    have nd := sc_Undoes_settle.nd
    have hu := hu_of hr
    refine ⟨_, pss_one (ps_for PassesOwn.never rfl (pi_list (pe_callTy (call_list_dK rfl) (by rfl) T.b_list (by decide +kernel) (pa_cons (pv 1) pa_nil))) (pg_name (i := 5) nd rfl (Or.inl rfl))
        (pss_one (ps_dput hu (pv 1) (pv 5) (pv 5) rfl))), ?_⟩
    refine ⟨_, rfl, d, _, rfl, hd, fun q hq => ?_⟩
    have ndq : d ≠ q := ne_of_none hd hq
    have ek : (plv o f).map (fun kv => kV kv.1) = o.map V.int := by
      unfold plv
      rw [List.map_map]
      rfl
    rw [ek]
    refine ⟨q, rfl, ⟨_, SqL.of upd_same⟩, for_list (K := K) (a := q) (xs := o.map V.int) (fun i σ H' => (∃ v, σ = [some (.ref x), some (.ref d), some (.int a), some (.int b), some (.int c), v]) ∧ (∀ b u, b ≠ d → (upd H q (.lst (o.map V.int))) b = some u → H' b = some u) ∧ ∃ g, H' d = some (.dK (plv o g)))
      ⟨⟨none, rfl⟩, fun _ _ _ e => e, f, by rw [upd_ne ndq]; exact hd⟩ (fun i σ H' _ z => SqL.of (z.2.1 q _ ndq.symm upd_same)) ?_ ?_⟩
    · rintro i x' σ H' hi ⟨⟨v, rfl⟩, kp, g, hg⟩
      obtain ⟨key, e2, rfl⟩ := map_at hi
      refine ⟨_, rfl, _, rfl, _, rfl, d, _, rfl, DPut.k (k := Sum.inl key) hg (by rw [plv_len]; exact small40 hz), ?_⟩
      refine ⟨⟨some (.int key), rfl⟩, fun b u hb e => by rw [upd_ne hb]; exact kp b u hb e, fun x => if x = key then key else g x, ?_⟩
      rw [upd_same, ← putK_plv (List.mem_of_getElem? e2)]
    · rintro σ H' ⟨⟨v, rfl⟩, kp, g, hg⟩
      refine k H' g (fun b u hb e => kp b u hb ?_) hg
      exact sameUpd hq b u e
def spHalts : Sp := fun vs H Q _ => ∃ x : Addr, vs = [.ref x] ∧ Q (.bl true) H
theorem sc_Stops_halts : FnScope ["self"] ["self"] (defScope s_Stops_halts) := ⟨rfl, rfl, rfl, by decide +kernel, rfl, by decide +kernel, by decide +kernel⟩
theorem ok_Stops_halts (T : Txt K mg) : Ok P w K mg base 1 (ma K (CA K) "halts") spHalts := by
  obtain ⟨fd, F⟩ := T.f_Stops_halts
  refine ok_of F sc_Stops_halts (F.binds fun _ _ _ _ _ _ us hl => match us, hl with | [_], _ => rfl) (fun vs H Q E h => ?_) (fun cdv A outer s H vs Q E hr h => ?_)
  · obtain ⟨x, rfl, _⟩ := h
    rfl
  · obtain ⟨x, rfl, k⟩ := h
    exact ⟨_, pss_one (ps_ret pe_bl), k⟩
end
end Rc
set_option Elab.async false
set_option linter.all false
set_option maxRecDepth 100000
set_option maxHeartbeats 4000000
namespace Rc
open PySem PySem.Spec PyProof.Rows L2 He He5 C8
/-! ### the statement, row by row -/
/-- what each row holds before turn i, if there was no conflict -/
def fAt (T : Rows) (o : List Int) (i : Nat) (x : Int) : Int := if x ∈ o.take i then (look T x).getD x else x
theorem fAt_zero (T : Rows) (o : List Int) (x : Int) : fAt T o 0 x = x := by simp [fAt]
theorem not_take {o : List Int} (nd : o.Nodup) {i : Nat} {k : Int} (h : o[i]? = some k) : k ∉ o.take i := fun m =>
  take_drop_apart nd m (List.mem_iff_getElem?.mpr ⟨0, by rw [List.getElem?_drop]; exact h⟩)
theorem fAt_cur {T : Rows} {o : List Int} (nd : o.Nodup) {i : Nat} {k : Int} (h : o[i]? = some k) : fAt T o i k = k := if_neg (not_take nd h)
theorem fAt_succ {T : Rows} {o : List Int} {i : Nat} {k n : Int} (h : o[i]? = some k) (hl : look T k = some n) (x : Int) : fAt T o (i + 1) x = if x = k then n else fAt T o i x := by
  unfold fAt
  rw [take_more h]
  by_cases c : x = k
  · rw [if_pos c, if_pos (by rw [c]; exact List.mem_append_right _ List.mem_cons_self), c, hl]
    rfl
  · rw [if_neg c]
    have : x ∈ o.take i ++ [k] ↔ x ∈ o.take i := by simp [c]
    simp only [this]
def UpTo (T : Rows) (o : List Int) (i : Nat) : Prop := ∀ j k n, j < i → o[j]? = some k → look T k = some n → n ≠ k → (∀ x ∈ o.take j, look T x ≠ some n) ∧ ∀ x ∈ o.drop j, x ≠ n
theorem upTo_zero (T : Rows) (o : List Int) : UpTo T o 0 := fun _ _ _ h => absurd h (Nat.not_lt_zero _)
theorem upTo_step {T : Rows} {o : List Int} (nd : o.Nodup) {i : Nat} {k n : Int} (u : UpTo T o i) (h : o[i]? = some k) (hl : look T k = some n) (c : n = k ∨ ∀ x ∈ o, fAt T o i x ≠ n) : UpTo T o (i + 1) := by
  intro j k' n' hj hk' hn' ne
  rcases Nat.lt_or_ge j i with q | q
  · exact u j k' n' q hk' hn' ne
  · have : j = i := by omega
    subst this
    rw [h] at hk'
    cases hk'
    rw [hl] at hn'
    cases hn'
    have c' := c.resolve_left ne
    refine ⟨fun x hx e => c' x (List.mem_of_mem_take hx) ?_, fun x hx e => c' x (List.mem_of_mem_drop hx) ?_⟩
    · unfold fAt
      rw [if_pos hx, e]
      rfl
    · unfold fAt
      rw [if_neg (fun m => take_drop_apart nd m hx)]
      exact e
theorem upTo_end {T : Rows} {o : List Int} (u : UpTo T o o.length) : Runs T o := fun i k n h => u i k n (getE_lt h) h
theorem stop_bad {T : Rows} {o : List Int} {i : Nat} {k n x : Int} (h : o[i]? = some k) (hl : look T k = some n) (ne : n ≠ k) (hx : x ∈ o) (hf : fAt T o i x = n) (hk : x ∈ keys T) : ¬ Runs T o := by
  intro r
  obtain ⟨r1, r2⟩ := r i k n h hl ne
  unfold fAt at hf
  by_cases c : x ∈ o.take i
  · rw [if_pos c] at hf
    obtain ⟨m, hm⟩ := Option.isSome_iff_exists.mp (look_some.mpr hk)
    rw [hm] at hf
    exact r1 x c (by rw [hm]; exact congrArg some hf)
  · rw [if_neg c] at hf
    rw [← List.take_append_drop i o] at hx
    rcases List.mem_append.mp hx with m | m
    · exact c m
    · exact r2 x m hf
def rNN : R2 := fun x y H Q => y = .non ∧ Q (.bl (!decide (x = .non))) H
theorem op_notNN {X : Cx} : OpR X (compareOp .IsNot) rNN := op_notN
/-- the same end behind the last turn and behind a break -/
theorem for_tup2 {K : PySem.W.Frag} {a : Addr} {xs : List V} {g : TG} {tb : TS} {D : Ends} {σ : L2.St} {H : Hp} (Pv : Nat → L2.St → Hp → Prop) (Pe : L2.St → Hp → Prop) (h0 : Pv 0 σ H) (hl : ∀ i σ H, i ≤ xs.length → Pv i σ H → SqT K H a xs)
    (hd : ∀ σ H, Pv xs.length σ H → Pe σ H) (he : ∀ σ H, Pe σ H → D.nx σ H)
    (hs : (∀ σ H, Pe σ H → D.nx σ H) → ∀ i x σ H, xs[i]? = some x → Pv i σ H → g x σ H fun σ2 H2 => tb { D with nx := Pv (i + 1), ct := Pv (i + 1), bk := D.nx } σ2 H2) :
    ∃ W : Nat → Nat → L2.St → Hp → Prop, (∃ m, W 0 m σ H) ∧ ∀ i m σ H, W i m σ H →
      ((Itt K a).stop i H ∧ D.nx σ H) ∨ ((Itt K a).go i H ∧ ∃ N : L2.St → Hp → Prop, (∀ σ' H', N σ' H' → ∃ m', m' < m ∧ W (i + 1) m' σ' H') ∧ ∀ x H', (Itt K a).yld i H x H' → g x σ H' fun σ2 H2 => tb { D with nx := N, ct := N, bk := D.nx } σ2 H2) :=
  for_tup Pv h0 hl (hs he) fun σ H p => he σ H (hd σ H p)
section
variable {P : Program} {w : World} {K : PySem.W.Frag} {mg : Str → Option Value} {base : Heap}
def spRule (C CO CA : Addr) : Sp := fun vs H Q _ => ∃ (r t p : Addr) (T : Rows) (o : List Int), vs = [.ref r, .ref t, .ref p] ∧ (∃ dx, H r = some (.ins CA dx [])) ∧ TabAt C H t T ∧ H p = some (.tup (o.map V.int)) ∧ o.Perm (keys T) ∧
  ∀ (H' : Hp) (x : Addr) (l : List Int), Same H H' → OutAt CO H' x l → (l = [] ↔ Runs T o) → Q (.ref x) H'
theorem sc_Rule_call : FnScope ["self", "table", "order", "places", "stop", "row", "new", "holder", "ends", "key"] ["self", "table", "order"] (defScope s_Rule_call) := ⟨rfl, rfl, rfl, by decide +kernel, rfl, by decide +kernel, by decide +kernel⟩
theorem ok_Rule_call (T : Txt K mg) : Ok P w K mg base 6 (ma K (CA K) "__call__") (spRule (CT K) (CO K) (CA K)) := by
  obtain ⟨fd, F⟩ := T.f_Rule_call
  have GN : Ok P w K mg base 5 (ga K "need_order") (spNeedOrder (CT K)) := ok_need_order T
  have GG : Ok P w K mg base 4 (ma K (CT K) "__getitem__") (spGet (CT K)) := ok_Table_getitem T
  have GH : Ok P w K mg base 1 (ga K "holder_of") spHolder := ok_holder_of T
  have GS : Ok P w K mg base 1 (ma K (CA K) "settle") spSettle := ok_Undoes_settle T
  have GB : Ok P w K mg base 1 (ma K (CA K) "halts") spHalts := ok_Stops_halts T
  have GR : Ok P w K mg base 1 (getter K "Table" "rows") (spRows (CT K)) := ok_Table_rows T
  have GI : Ok P w K mg base 1 (ma K (CO K) "__init__") (spOInit (CO K)) := ok_Outcome_init T
  refine ok_of F sc_Rule_call (F.binds fun _ _ _ _ _ _ us hl => match us, hl with | [_, _, _], _ => rfl) (fun vs H Q E h => ?_) (fun cdv A outer s H vs Q E hr h => ?_)
  · obtain ⟨r, t, p, U, o, rfl, _⟩ := h
    rfl
  · obtain ⟨r, t, p, U, o, rfl, ⟨rdx, hrr⟩, ht, hp, hperm, k⟩ := h
    have nd := sc_Rule_call.nd
    have hu := hu_of hr
    refine ⟨_, pss_cons (ps_expr (pe_fn GN hr T.g_need_order (pa_cons (pv 1) (pa_cons (pv 2) pa_nil))))
      (pss_cons (ps_asg (pe_tup (pa_cons (pe_dc (own := [("key", 9)]) (g := gName 9) (tt := tYes) (tk := tVar 9) (tv := tVar 9) rfl nd (pi_tup (pv 2)) (blkOk_by (N := ["self", "table", "order", "places", "stop", "row", "new", "holder", "ends", "key"]) (sc := defScope s_Rule_call) (by decide +kernel))
          (fun _ _ _ _ _ => pg_name (i := 9) nd rfl (Or.inl rfl)) (fun _ _ _ _ _ => pts_nil) (fun _ _ _ _ _ => pv 9) (fun _ _ _ _ _ => pv 9)) (pa_cons (pe_tup pa_nil) pa_nil)))
          (pg_tup rfl (pgs_cons (pg_name (i := 3) nd rfl (Or.inr rfl)) (pgs_cons (pg_name (i := 4) nd rfl (Or.inl rfl)) pgs_nil))))
      (pss_cons (ps_for PassesOwn.never rfl (pi_tup (pv 2)) (pg_name (i := 5) nd rfl (Or.inl rfl))
        (pss_cons (ps_set (i := 6) nd rfl (Or.inl rfl) (pe_ownIx T.m_getitem.at_ T.fn_getitem T.m_getitem.fn GG hr (pv 1) (pv 5) (fun _ _ => rfl)))
        (pss_cons (ps_if (PW.pt (pw_or (pt_cmpR op_isN (pe_dget hu (pv 3) (pv 5) (fun _ _ => rfl)) pe_non (nomark _)) (pw_or1 (pt_cmpR op_eq (pv 6) (pv 5) (nomark _))))) (pss_one ps_continue) pss_nil)
        (pss_cons (ps_set (i := 7) nd rfl (Or.inl rfl) (pe_fn GH (hr.mono (by decide)) T.g_holder_of (pa_cons (pv 3) (pa_cons (pv 6) pa_nil))))
        (pss_cons (ps_if (pt_cmpR op_isN (pv 7) pe_non (nomark _)) (pss_cons (ps_dput hu (pv 3) (pv 5) (pv 6) rfl) (pss_one ps_continue)) pss_nil)
        (pss_cons (ps_expr (pe_methR (pv 0) T.cl_Abort T.m_settle GS (hr.mono (by decide)) (pa_cons (pv 3) (pa_cons (pv 5) (pa_cons (pv 7) (pa_cons (pv 6) pa_nil))))))
        (pss_one (ps_if (pt_val (pe_methR0 (pv 0) T.cl_Abort T.m_halts GB (hr.mono (by decide)))) (pss_cons (ps_set (i := 4) nd rfl (Or.inl rfl) (pe_tup (pa_cons (pv 5) (pa_cons (pv 7) pa_nil)))) (pss_one ps_break)) pss_nil))))))))
      (pss_cons (ps_set (i := 8) nd rfl (Or.inl rfl) (pe_callTy call_tuple_of (by rfl) T.b_tuple (by decide +kernel) (pa_cons (pe_callB cr_sortedPO (by rfl) T.b_sorted (by decide +kernel) (pa_cons (pe_lock (pe_lc (own := [("row", 5)]) (g := gName 5)
          (tt := tTest (tOp rNN (tDGet (tVar 3) (tVar 5)) (tC .non))) (te := tTup (tCons (tVar 5) (tCons (tDGet (tVar 3) (tVar 5)) tNil))) rfl nd (pi_keys (pv 3)) (blkOk_by (N := ["self", "table", "order", "places", "stop", "row", "new", "holder", "ends", "key"]) (sc := defScope s_Rule_call) (by decide +kernel))
          (fun _ _ _ _ _ => pg_name (i := 5) nd rfl (Or.inl rfl)) ?ht ?he)) pa_nil)) pa_nil)))
      (pss_one (ps_ret (pe_makeRn T.mk_Outcome GI (hr.mono (by decide)) T.g_Outcome.1 (pa_cons (pe_propR (pv 1) T.cl_Table T.p_rows GR (hr.mono (by decide))) (pa_cons (pv 4) (pa_cons (pv 8) pa_nil))))))))), ?_⟩
    · intro s1 H1 C cl fp
      exact pts_one (pt_cmpR op_notNN (pe_dget hu (pv 3) (pv 5) (fun _ _ => rfl)) pe_non (nomark _))
    · intro s1 H1 C cl fp
      exact pe_tup (pa_cons (pv 5) (pa_cons (pe_dget hu (pv 3) (pv 5) (fun _ _ => rfl)) pa_nil))
    have ndo : o.Nodup := hperm.nodup_iff.mpr (keys_nodup ht.good.srt)
    have hz : o.length ≤ 40 := by
      have := hperm.length_eq
      unfold keys at this
      rw [List.length_map] at this
      have := ht.good.len
      omega
    refine ⟨_, rfl, _, rfl, t, p, U, o, rfl, ht, hp, hperm, fun H1 s1 => ?_⟩
    have hp1 := s1 _ _ hp
    refine ⟨_, rfl, p, rfl, ⟨_, SqT.of hp1⟩, fun d hd => ?_⟩
    refine dc_tup (K := K) (a := p) (xs := o.map V.int) (fun i H2 => Same H1 H2 ∧ H2 d = some (.dK (plv (o.take i) id))) ⟨sameUpd hd, upd_same⟩ (fun i H2 _ z => SqT.of (z.1 _ _ hp1)) ?_ ?_
    · rintro i x H2 hi ⟨s2, hx⟩
      obtain ⟨key, e2, rfl⟩ := map_at hi
      refine ⟨rfl, ?_⟩
      refine ⟨_, rfl, _, rfl, _, Sum.inl key, rfl, hx, ?_, sameNew s2 hd, ?_⟩
      · rw [plv_len, List.length_take]
        exact small40 (by omega)
      · rw [upd_same, putK_new _ (valV_plv_not (not_take ndo e2)), take_more e2, plv_snoc]
        rfl
    · rintro H2 ⟨s2, hx⟩
      rw [List.length_map, List.take_length] at hx
      refine ⟨Nat.zero_le _, fun e0 he0 => ⟨(by show 2 ≤ sizeLine; decide), fun q hq => ?_⟩⟩
      have s3 : Same H2 (upd H2 e0 (.tup [])) := sameUpd he0
      have s4 : Same (upd H2 e0 (.tup [])) (upd (upd H2 e0 (.tup [])) q (.tup [.ref d, .ref e0])) := sameUpd hq
      have s34 := s3.trans s4
      have sa := s1.trans (s2.trans s34)
      refine ⟨q, _, rfl, SqT.of upd_same, rfl, _, _, rfl, _, _, rfl, rfl, ?_⟩
      generalize hH3 : upd (upd H2 e0 (.tup [])) q (.tup [.ref d, .ref e0]) = H3 at *
      have hd3 : H3 d = some (.dK (plv o id)) := s34 _ _ hx
      have he3 : H3 e0 = some (.tup []) := s4 _ _ upd_same
      have hdn : H d = none := by
        cases e : H d with
        | none => rfl
        | some u =>
          rw [s1 _ _ e] at hd
          cases hd
      refine ⟨_, rfl, p, rfl, ⟨_, SqT.of (sa _ _ hp)⟩, ?_⟩
      refine for_tup2 (K := K) (a := p) (xs := o.map V.int)
        (fun i σ H' => (∃ v5 v6 v7, σ = [some (.ref r), some (.ref t), some (.ref p), some (.ref d), some (.ref e0), v5, v6, v7, none, none]) ∧ Same H H' ∧ H' d = some (.dK (plv o (fAt U o i))) ∧ H' e0 = some (.tup []) ∧ UpTo U o i)
        (fun σ H' => ∃ v5 v6 v7 st g l, σ = [some (.ref r), some (.ref t), some (.ref p), some (.ref d), some (.ref st), v5, v6, v7, none, none] ∧ Same H H' ∧ H' d = some (.dK (plv o g)) ∧ H' st = some (.tup (l.map V.int)) ∧ (l = [] ↔ Runs U o))
        ⟨⟨none, none, none, rfl⟩, sa, by rw [hd3]; exact congrArg (fun z => some (HO.dK z)) (plv_congr fun x _ => (fAt_zero U o x).symm), he3, upTo_zero U o⟩ (fun i σ H' _ z => SqT.of (z.2.1 _ _ hp)) ?_ ?_ ?_
      · rintro σ H' ⟨⟨v5, v6, v7, rfl⟩, sx, hd', he', ut⟩
        rw [List.length_map] at ut
        exact ⟨v5, v6, v7, e0, _, [], rfl, sx, hd', he', fun _ => upTo_end ut, fun _ => rfl⟩
      · rintro σ H' ⟨v5, v6, v7, st, g, l, rfl, sx, hd', hst, hl⟩
        have ht' := ht.same sx
        refine ⟨d, .dK (plv o g), hd', trivial, fun od => ?_⟩
        refine ⟨_, rfl, d, od, rfl, .inl ⟨_, upd_same, fun D hD => ?_⟩⟩
        refine lc_it (walk_keys (d := d) (o := od) (kvs := plv o g)) (fun i H2 => Same (upd H' d (.frz od (.dK (plv o g)))) H2 ∧ ∃ xs, H2 D = some (.lst xs) ∧ Pairs H2 xs ((o.map fun k => (k, g k)).take i)) ⟨sameUpd hD, [], upd_same, pairs_nil⟩
          (fun i H2 _ q => q.1 _ _ upd_same) ?_ ?_
        · rintro i x H4 H5 hi ⟨s5, xs, hxs, hps⟩ ⟨rfl, kk, v, e1, rfl⟩
          obtain ⟨key, e2, e3⟩ := map_at e1
          cases e3
          have hk : key ∈ o := List.mem_of_getElem? e2
          have hg : DGet H5 d (.int key) (some (.int (g key))) := .inl ⟨_, _, .inr ⟨_, s5 _ _ upd_same⟩, rfl, (valV_plv hk).symm⟩
          refine ⟨rfl, ?_⟩
          refine ⟨_, rfl, _, rfl, d, .int (g key), rfl, hg, rfl, _, rfl, iteT ?_⟩
          refine ⟨_, rfl, _, rfl, _, rfl, d, .int (g key), rfl, hg, (by show 2 ≤ sizeLine; decide), fun z hz' => ?_⟩
          have nDz : D ≠ z := ne_of_none hxs hz'
          have st' : Same H5 (upd H5 z (.tup [.int key, .int (g key)])) := sameUpd hz'
          refine ⟨xs, by rw [upd_ne nDz]; exact hxs, ?_, ?_⟩
          · rw [hps.1, List.length_take, List.length_map]
            exact small40 (by omega)
          · refine ⟨fun b u e => ?_, _, upd_same, ?_⟩
            · rw [upd_ne (ne_of_none e hD)]
              exact st' _ _ (s5 _ _ e)
            · have e4 : (o.map fun k => (k, g k))[i]? = some (key, g key) := by rw [List.getElem?_map, e2]; rfl
              rw [take_more e4]
              have hps2 : Pairs (upd H5 z (.tup [.int key, .int (g key)])) (xs ++ [.ref z]) ((o.map fun k => (k, g k)).take i ++ [(key, g key)]) := pairs_snoc (r := (key, g key)) (hps.same st') upd_same
              refine hps2.at fun b u hb => ?_
              rw [upd_ne]
              · exact hb
              · intro e
                rw [e, upd_ne nDz, hxs] at hb
                cases hb
        · rintro H4 ⟨s5, xs, hxs, hps⟩
          have s6 : Same H' (upd H4 d (.dK (plv o g))) := sameUnlock hd' s5
          have fz : H4 d = some (.frz od (.dK (plv o g))) := s5 _ _ upd_same
          have nDd : D ≠ d := fun z => by
            rw [z, upd_same] at hD
            cases hD
          have hps2 : Pairs (upd H4 d (.dK (plv o g))) xs _ := hps.at fun b u hb => by
            rw [upd_ne (ne_of hb fz (by intro z; cases z))]
            exact hb
          refine ⟨fz, D, xs, pk (upd H4 d (.dK (plv o g))), rfl, SqL.of (by rw [upd_ne nDd]; exact hxs), hps2.mem, fun ys m hs hb hm => ?_⟩
          refine ⟨m, ys, rfl, .inl ⟨SqL.of upd_same, fun en hen => ?_⟩⟩
          have s7 := s6.trans ((sameUpd (o := .lst ys) hm).trans (sameUpd (o := .tup ys) hen))
          have sx7 := sx.trans s7
          have hst7 := s7 _ _ hst
          generalize hH6 : upd (upd (upd H4 d (.dK (plv o g))) m (.lst ys)) en (.tup ys) = H6 at *
          obtain ⟨gd, dx, dd, R0, h1, h2, p0⟩ := ht.same sx7
          refine ⟨_, rfl, t, dx, _, rfl, h1, t, U, rfl, ht.same sx7, fun H7 rw_ zs s8 hrw _ => ?_⟩
          refine ⟨_, rfl, _, rfl, fun x dx' hx0 hdx0 ne => ?_⟩
          have s9 : Same H7 (upd H7 dx' (.own x)) := sameUpd hdx0
          have s10 := sameNew (o := .ins (CO K) dx' []) s9 hx0
          refine ⟨x, dx', rw_, st, en, rfl, upd_same, fun H8 q' kp hx8 hq8 => ⟨rfl, ?_⟩⟩
          have s11 : Same H7 H8 := fun b u e => kp b u (fun z => by rw [z, hx0] at e; cases e) (s10 b u e)
          exact k H8 x l (sx7.trans (s8.trans s11)) ⟨dx', q', rw_, st, en, hx8, hq8, s11 _ _ (s8 _ _ hst7)⟩ hl
      · rintro fin i x σ H' hi ⟨⟨v5, v6, v7, rfl⟩, sx, hd', he', ut⟩
        obtain ⟨key, e2, rfl⟩ := map_at hi
        have hk : key ∈ o := List.mem_of_getElem? e2
        have hkk : key ∈ keys U := hperm.mem_iff.mp hk
        have ht' := ht.same sx
        obtain ⟨gd, dx, dd, R0, h1, h2, p0⟩ := id ht'
        obtain ⟨n, hn⟩ := Option.isSome_iff_exists.mp (look_some.mpr hkk)
        refine ⟨_, rfl, _, rfl, t, dx, _, rfl, h1, t, U, key, n, rfl, ht', hn, ?_⟩
        refine ⟨_, rfl, _, rfl, d, .int (fAt U o i key), rfl, ?_, rfl, _, rfl, ?_⟩
        · have q := DGet.k (k := Sum.inl key) hd'
          rw [valV_plv hk] at q
          exact q
        refine iteF ⟨_, rfl, _, rfl, rfl, _, rfl, ?_⟩
        rw [dec_ii]
        have hsucc : ∀ x ∈ o, (if x = key then n else fAt U o i x) = fAt U o (i + 1) x := fun x _ => (fAt_succ e2 hn x).symm
        by_cases c : n = key
        · rw [decide_eq_true c]
          refine iteT ⟨⟨_, _, _, rfl⟩, sx, ?_, he', upTo_step ndo ut e2 hn (.inl c)⟩
          rw [hd', plv_congr (g := fAt U o (i + 1)) fun x hx => ?_]
          rw [← hsucc x hx]
          by_cases cx : x = key
          · rw [if_pos cx, cx, fAt_cur ndo e2]
            exact c.symm
          · rw [if_neg cx]
        · rw [decide_eq_false c]
          refine iteF ⟨_, rfl, _, rfl, d, n, o, fAt U o i, rfl, hd', fun no => ?_, fun h hh hf => ?_⟩
          · refine ⟨_, rfl, rfl, _, rfl, iteT ⟨_, rfl, _, rfl, _, rfl, d, _, rfl, DPut.k (k := Sum.inl key) hd' (by rw [plv_len]; exact small40 hz), ?_⟩⟩
            refine ⟨⟨_, _, _, rfl⟩, sameNew sx hdn, ?_, ?_, upTo_step ndo ut e2 hn (.inr no)⟩
            · rw [upd_same, putK_plv hk, plv_congr hsucc]
            · rw [upd_ne (ne_of he' hd' (by intro z; cases z))]
              exact he'
          · have bad : ¬ Runs U o := stop_bad e2 hn c hh hf (hperm.mem_iff.mp hh)
            refine ⟨_, rfl, rfl, _, rfl, iteF ?_⟩
            refine ⟨_, rfl, r, rdx, _, rfl, sx _ _ hrr, rfl, _, rfl, _, rfl, _, rfl, _, rfl, r, d, key, h, n, o, fAt U o i, rfl, hd', hz, fun H4 g kp hg => ?_⟩
            have sy : Same H H4 := fun b u e => kp b u (fun z => by rw [z, hdn] at e; cases e) (sx b u e)
            refine ⟨_, rfl, r, rdx, _, rfl, sy _ _ hrr, rfl, r, rfl, true, rfl, iteT ?_⟩
            refine ⟨_, rfl, _, rfl, (by show 2 ≤ sizeLine; decide), fun z hz0 => ?_⟩
            refine fin _ _ ⟨_, _, _, z, g, [key, h], rfl, sy.trans (sameUpd hz0), ?_, upd_same, ⟨fun e => (nomatch e), fun e => absurd e bad⟩⟩
            exact sameUpd hz0 _ _ hg
end
end Rc
set_option Elab.async false
set_option linter.all false
set_option maxRecDepth 100000
set_option maxHeartbeats 4000000
namespace Rc
open PySem PySem.Spec PyProof.Rows L2 He He5 C8
/-- a pen stands at a -/
def PenAt (H : Hp) (a : Addr) : Prop := ∃ p0 p1 p2 : Int, H a = some (.lst [.int p0, .int p1, .int p2]) ∧ 0 ≤ p1 ∧ p1 < 2147483647
/-- all but a stays -/
def SB (a : Addr) (H H' : Hp) : Prop := ∀ b o, b ≠ a → H b = some o → H' b = some o
theorem SB.refl {a : Addr} {H : Hp} : SB a H H := fun _ _ _ e => e
theorem SB.trans {a : Addr} {H H' H'' : Hp} (s : SB a H H') (t : SB a H' H'') : SB a H H'' := fun b o n e => t b o n (s b o n e)
theorem SB.same {a : Addr} {H H' : Hp} (s : Same H H') : SB a H H' := fun b o _ e => s b o e
theorem SB.pen {a : Addr} {H H' : Hp} {o : HO} (s : SB a H H') : SB a H (L2.upd H' a o) := fun b u n e => by rw [upd_ne n]; exact s b u n e
theorem SB.free {a l : Addr} {H H' : Hp} (s : SB a H H') (p : PenAt H' a) (h : H' l = none) : H l = none := by
  cases e : H l with
  | none => rfl
  | some u =>
    by_cases c : l = a
    · subst c
      obtain ⟨_, _, _, q, _⟩ := p
      rw [h] at q
      cases q
    · rw [s l u c e] at h
      cases h
theorem SB.new {a l : Addr} {H H' : Hp} {o : HO} (s : SB a H H') (h : H l = none) : SB a H (L2.upd H' l o) := fun b u n e => by
  rw [upd_ne (ne_of_none e h)]
  exact s b u n e
theorem PenAt.same {a : Addr} {H H' : Hp} (p : PenAt H a) (s : Same H H') : PenAt H' a := by
  obtain ⟨p0, p1, p2, q, r⟩ := p
  exact ⟨p0, p1, p2, s _ _ q, r⟩
theorem PenAt.new {a l : Addr} {H : Hp} {o : HO} (p : PenAt H a) (h : l ≠ a) : PenAt (L2.upd H l o) a := by
  obtain ⟨p0, p1, p2, q, r⟩ := p
  exact ⟨p0, p1, p2, by rw [upd_ne h.symm]; exact q, r⟩
theorem PenAt.ne {a l : Addr} {H : Hp} (p : PenAt H a) (h : H l = none) : l ≠ a := fun e => by
  obtain ⟨_, _, _, q, _⟩ := p
  rw [e, q] at h
  cases h
theorem PenAt.neT {a l : Addr} {H : Hp} {xs : List V} (p : PenAt H a) (h : H l = some (.tup xs)) : l ≠ a := fun e => by
  obtain ⟨_, _, _, q, _⟩ := p
  rw [e, q] at h
  cases h
theorem PenAt.neI {a l C dx : Addr} {H : Hp} {fs : List (Str × V)} (p : PenAt H a) (h : H l = some (.ins C dx fs)) : l ≠ a := fun e => by
  obtain ⟨_, _, _, q, _⟩ := p
  rw [e, q] at h
  cases h
theorem PenAt.neD {a l : Addr} {H : Hp} {ks : List (Key × V)} (p : PenAt H a) (h : H l = some (.dK ks)) : l ≠ a := fun e => by
  obtain ⟨_, _, _, q, _⟩ := p
  rw [e, q] at h
  cases h
theorem TabAt.sb {C a : Addr} {H H' : Hp} {t : Addr} {T : Rows} (h : TabAt C H t T) (p : PenAt H a) (s : SB a H H') : TabAt C H' t T := by
  obtain ⟨g, dx, d, R, h1, h2, q⟩ := h
  exact ⟨g, dx, d, R, s _ _ (p.neI h1) h1, s _ _ (p.neD h2) h2, q⟩
section
variable {P : Program} {w : World} {K : PySem.W.Frag} {mg : Str → Option Value} {base : Heap}
def spCell (K : PySem.W.Frag) : Sp := fun vs H Q _ => ∃ (l : Addr) (ns : List Int), vs = [.ref l, .int 0] ∧ SqL K H l (ns.map V.int) ∧ ∀ i : Int, Q (.int i) H
theorem sc_law_cell_at : FnScope ["_law_script", "_law_k"] ["_law_script", "_law_k"] (defScope s_law_cell_at) := ⟨rfl, rfl, rfl, by decide +kernel, rfl, by decide +kernel, by decide +kernel⟩
theorem ok_law_cell_at (T : Txt K mg) : Ok P w K mg base 1 (ga K "_law_cell_at") (spCell K) := by
  obtain ⟨fd, F⟩ := T.f_law_cell_at
  refine ok_of F sc_law_cell_at (F.binds fun _ _ _ _ _ _ us hl => match us, hl with | [_, _], _ => rfl) (fun vs H Q E h => ?_) (fun cdv A outer s H vs Q E hr h => ?_)
  · obtain ⟨l, ns, rfl, _⟩ := h
    rfl
  · obtain ⟨l, ns, rfl, hl, k⟩ := h
    refine ⟨_, pss_cons (ps_if (pt_cmpR op_lt (pv 1) (pe_callB call_len_seq (by rfl) T.b_len boot_len (pa_cons (pv 0) pa_nil)) (nomark _)) (pss_one (ps_ret (pe_ix ix_list (pv 0) (pv 1) (fun _ _ => rfl)))) pss_nil) (pss_one (ps_ret pe_int)), ?_⟩
    refine ⟨_, rfl, _, rfl, l, _, rfl, .inl hl, _, _, rfl, rfl, _, rfl, ?_⟩
    cases ns with
    | nil => exact iteF (k 0)
    | cons n ns =>
      rw [show decide ((0 : Int) < (((n :: ns).map V.int).length : Nat)) = true from decide_eq_true (by simp)]
      exact iteT ⟨_, rfl, _, rfl, l, _, 0, .int n, rfl, rfl, hl, atI_nat (j := 0) rfl, k n⟩
def spPen : Sp := fun vs H Q _ => ∃ i : Int, vs = [.int i] ∧ ∀ (a : Addr) (o : HO), H a = none → PenAt (upd H a o) a → Q (.ref a) (upd H a o)
theorem sc_law_pen : FnScope ["_law_cell"] ["_law_cell"] (defScope s_law_pen) := ⟨rfl, rfl, rfl, by decide +kernel, rfl, by decide +kernel, by decide +kernel⟩
theorem ok_law_pen (T : Txt K mg) : Ok P w K mg base 1 (ga K "_law_pen") spPen := by
  obtain ⟨fd, F⟩ := T.f_law_pen
  refine ok_of F sc_law_pen (F.binds fun _ _ _ _ _ _ us hl => match us, hl with | [_], _ => rfl) (fun vs H Q E h => ?_) (fun cdv A outer s H vs Q E hr h => ?_)
  · obtain ⟨l, rfl, _⟩ := h
    rfl
  · obtain ⟨i, rfl, k⟩ := h
    refine ⟨_, pss_one (ps_ret (pe_lst (pa_cons (pe_callB (call_max2 rfl) (by rfl) T.b_max (by decide +kernel) (pa_cons pe_int (pa_cons (pe_op op_sub (pv 0) (pe_op op_pow pe_int pe_int)) pa_nil)))
      (pa_cons (pe_op op_mod (pe_callTy call_int1 (by rfl) T.b_int (by decide +kernel) (pa_cons (pv 0) pa_nil)) pe_int) (pa_cons pe_int pa_nil))))), ?_⟩
    refine ⟨_, rfl, _, _, rfl, rfl, ⟨by decide, by decide, by decide⟩, _, _, rfl, rfl, _, _, rfl, ?_⟩
    refine ⟨_, rfl, .inl ⟨_, rfl, _, _, rfl, rfl, (by show (0 : Int) < 2147483629; decide), (by show 3 ≤ sizeLine; decide), fun a ha => ?_⟩⟩
    exact k a _ ha ⟨_, _, _, upd_same, Int.emod_nonneg _ (by decide), by have := Int.emod_lt_of_pos i (show (0 : Int) < 2147483629 by decide); show i % 2147483629 < 2147483647; omega⟩
def spDraw : Sp := fun vs H Q _ => ∃ (a : Addr) (m : Int), vs = [.ref a, .int m] ∧ PenAt H a ∧ 0 < m ∧ m < 1000000 ∧ ∀ (H' : Hp) (d : Int), SB a H H' → PenAt H' a → 0 ≤ d → d < m → Q (.int d) H'
theorem sc_law_draw : FnScope ["_law_pen_here", "_law_many", "_law_digit", "_law_stirred"] ["_law_pen_here", "_law_many"] (defScope s_law_draw) := ⟨rfl, rfl, rfl, by decide +kernel, rfl, by decide +kernel, by decide +kernel⟩
theorem ok_law_draw (T : Txt K mg) : Ok P w K mg base 1 (ga K "_law_draw") spDraw := by
  obtain ⟨fd, F⟩ := T.f_law_draw
  refine ok_of F sc_law_draw (F.binds fun _ _ _ _ _ _ us hl => match us, hl with | [_, _], _ => rfl) (fun vs H Q E h => ?_) (fun cdv A outer s H vs Q E hr h => ?_)
  · obtain ⟨a, m, rfl, _⟩ := h
    rfl
  · obtain ⟨a, m, rfl, ⟨p0, p1, p2, ha, hp0, hp1⟩, hm, hm2, k⟩ := h
    have nd := sc_law_draw.nd
    refine ⟨_, pss_cons (ps_if (pt_cmpR op_gt (pe_ix ix_list (pv 0) pe_int (fun _ _ => rfl)) pe_int (nomark _))
        (pss_cons (ps_set (i := 2) nd rfl (Or.inl rfl) (pe_op op_mod (pe_callTy call_int1 (by rfl) T.b_int (by decide +kernel) (pa_cons (pe_ix ix_list (pv 0) pe_int (fun _ _ => rfl)) pa_nil)) (pv 1)))
        (pss_cons (ps_asg (pe_op op_fdiv (pe_ix ix_list (pv 0) pe_int (fun _ _ => rfl)) (pv 1)) (pg_sub (pv 0) pe_int set_list))
        (pss_one (ps_ret (pv 2))))) pss_nil)
      (pss_cons (ps_asg (pe_op op_add (pe_ix ix_list (pv 0) pe_int (fun _ _ => rfl)) pe_int) (pg_sub (pv 0) pe_int set_list))
      (pss_cons (ps_asg (pe_op op_mod (pe_callTy call_int1 (by rfl) T.b_int (by decide +kernel) (pa_cons (pe_op op_add (pe_op op_add (pe_op op_mul (pe_ix ix_list (pv 0) pe_int (fun _ _ => rfl)) pe_int) (pe_op op_mul pe_int (pe_ix ix_list (pv 0) pe_int (fun _ _ => rfl)))) pe_int) pa_nil)) pe_int) (pg_sub (pv 0) pe_int set_list))
      (pss_cons (ps_set (i := 3) nd rfl (Or.inl rfl) (pe_op op_mod (pe_callTy call_int1 (by rfl) T.b_int (by decide +kernel) (pa_cons (pe_op op_add (pe_op op_add (pe_op op_mul (pe_ix ix_list (pv 0) pe_int (fun _ _ => rfl)) (pe_ix ix_list (pv 0) pe_int (fun _ _ => rfl))) (pe_op op_mul pe_int (pe_ix ix_list (pv 0) pe_int (fun _ _ => rfl)))) (pe_ix ix_list (pv 0) pe_int (fun _ _ => rfl))) pa_nil)) pe_int))
      (pss_one (ps_ret (pe_op op_mod (pe_callTy call_int1 (by rfl) T.b_int (by decide +kernel) (pa_cons (pe_op op_fdiv (pe_op op_mod (pe_callTy call_int1 (by rfl) T.b_int (by decide +kernel) (pa_cons (pe_op op_mul (pv 3) pe_int) pa_nil)) pe_int) pe_int) pa_nil)) (pv 1))))))), ?_⟩
    refine ⟨_, rfl, a, _, 0, .int p0, rfl, rfl, SqL.of ha, atI_nat (j := 0) rfl, _, _, rfl, rfl, _, rfl, ?_⟩
    by_cases c : 0 < p0
    · rw [decide_eq_true c]
      refine iteT ⟨_, rfl, a, _, 0, .int p0, rfl, rfl, SqL.of ha, atI_nat (j := 0) rfl, .inl ⟨_, rfl, _, rfl, _, _, rfl, rfl, hm, ?_⟩⟩
      refine ⟨_, rfl, a, _, 0, .int p0, rfl, rfl, SqL.of ha, atI_nat (j := 0) rfl, _, rfl, _, _, rfl, rfl, ⟨hm, by omega⟩, ?_⟩
      refine ⟨_, rfl, a, _, 0, 0, rfl, rfl, ha, rfl, ?_⟩
      exact ⟨_, rfl, k _ _ SB.refl.pen ⟨_, _, _, upd_same, hp0, hp1⟩ (Int.emod_nonneg _ (by omega)) (Int.emod_lt_of_pos _ hm)⟩
    · rw [decide_eq_false c]
      refine iteF ⟨_, rfl, a, _, 2, .int p2, rfl, rfl, SqL.of ha, atI_nat (j := 2) rfl, _, _, rfl, rfl, ?_⟩
      refine ⟨_, rfl, a, _, 2, 2, rfl, rfl, ha, rfl, ?_⟩
      have ha2 : (upd H a (.lst ([V.int p0, V.int p1, V.int p2].set 2 (.int (p2 + 1))))) a = some (.lst [.int p0, .int p1, .int (p2 + 1)]) := upd_same
      refine ⟨_, rfl, a, _, 1, .int p1, rfl, rfl, SqL.of ha2, atI_nat (j := 1) rfl, _, _, rfl, rfl, .inr ⟨by decide, by decide⟩, ?_⟩
      refine ⟨_, rfl, a, _, 2, .int (p2 + 1), rfl, rfl, SqL.of ha2, atI_nat (j := 2) rfl, _, _, rfl, rfl, .inl ⟨by decide, by decide⟩, _, _, rfl, rfl, _, _, rfl, rfl, .inl ⟨_, rfl, _, _, rfl, rfl, (by show (0 : Int) < 2147483647; decide), ?_⟩⟩
      generalize hv : (p1 * 48271 + 7919 * (p2 + 1) + 11) = v
      refine ⟨_, rfl, a, _, 1, 1, rfl, rfl, ha2, rfl, ?_⟩
      rw [upd_upd]
      have ha3 : (upd H a (.lst (([V.int p0, V.int p1, V.int (p2 + 1)]).set 1 (.int (v % 2147483647))))) a = some (.lst [.int p0, .int (v % 2147483647), .int (p2 + 1)]) := upd_same
      have b1 : 0 ≤ v % 2147483647 := Int.emod_nonneg _ (by decide)
      have b2 : v % 2147483647 < 2147483647 := Int.emod_lt_of_pos _ (by decide)
      refine ⟨_, rfl, a, _, 1, .int (v % 2147483647), rfl, rfl, SqL.of ha3, atI_nat (j := 1) rfl, _, rfl, a, _, 1, .int (v % 2147483647), rfl, rfl, SqL.of ha3, atI_nat (j := 1) rfl, _, _, rfl, rfl, .inl ⟨by omega, by omega⟩, ?_⟩
      refine ⟨_, rfl, a, _, 1, .int (v % 2147483647), rfl, rfl, SqL.of ha3, atI_nat (j := 1) rfl, _, _, rfl, rfl, .inl ⟨by decide, by decide⟩, _, _, rfl, rfl, ?_⟩
      refine ⟨_, rfl, a, _, 2, .int (p2 + 1), rfl, rfl, SqL.of ha3, atI_nat (j := 2) rfl, _, _, rfl, rfl, .inl ⟨_, rfl, _, _, rfl, rfl, (by show (0 : Int) < 2147483563; decide), ?_⟩⟩
      refine ⟨_, rfl, _, _, rfl, rfl, .inr ⟨by decide, by decide⟩, .inl ⟨_, rfl, _, _, rfl, rfl, (by show (0 : Int) < 2147483647; decide), _, _, rfl, rfl, ⟨by decide, by decide⟩, .inl ⟨_, rfl, _, rfl, _, _, rfl, rfl, hm, ?_⟩⟩⟩
      exact k _ _ SB.refl.pen ⟨_, _, _, upd_same, b1, b2⟩ (Int.emod_nonneg _ (by omega)) (Int.emod_lt_of_pos _ hm)
end
end Rc
set_option Elab.async false
set_option linter.all false
set_option maxRecDepth 100000
set_option maxHeartbeats 4000000
namespace Rc
open PySem PySem.Spec PyProof.Rows L2 He He5 C8
theorem ixN_nat {n j : Nat} (h : j < n) : ixN n (j : Int) = some j := by
  unfold ixN
  rw [if_pos (by omega), if_pos (by omega)]
  simp
theorem erase_map {α β : Type} (f : α → β) : ∀ (l : List α) (k : Nat), (l.map f).eraseIdx k = (l.eraseIdx k).map f
  | [], _ => rfl
  | _ :: _, 0 => rfl
  | x :: l, k + 1 => by
    show f x :: (l.map f).eraseIdx k = f x :: (l.eraseIdx k).map f
    rw [erase_map f l k]
theorem erase_perm {α : Type} : ∀ {l : List α} {k : Nat} {x : α}, l[k]? = some x → (x :: l.eraseIdx k).Perm l
  | y :: l, 0, x, h => by
    cases h
    exact List.Perm.refl _
  | y :: l, k + 1, x, h => (List.Perm.swap y x _).trans (List.Perm.cons y (erase_perm (l := l) (k := k) (by simpa using h)))
/-- a natural place for a drawn number -/
theorem nat_of {d : Int} {n : Nat} (h0 : 0 ≤ d) (h1 : d < (n : Int)) : ∃ j : Nat, d = (j : Int) ∧ j < n := ⟨d.toNat, by omega, by omega⟩
section
variable {P : Program} {w : World} {K : PySem.W.Frag} {mg : Str → Option Value} {base : Heap}
def spPick : Sp := fun vs H Q _ => ∃ (a l : Addr) (ns : List Int), vs = [.ref a, .ref l] ∧ PenAt H a ∧ H l = some (.lst (ns.map V.int)) ∧ l ≠ a ∧ 0 < ns.length ∧ ns.length ≤ 1000 ∧ ∀ (H' : Hp) (n : Int), SB a H H' → PenAt H' a → n ∈ ns → Q (.int n) H'
theorem sc_law_pick : FnScope ["_law_pen_here", "_law_things"] ["_law_pen_here", "_law_things"] (defScope s_law_pick) := ⟨rfl, rfl, rfl, by decide +kernel, rfl, by decide +kernel, by decide +kernel⟩
theorem ok_law_pick (T : Txt K mg) : Ok P w K mg base 2 (ga K "_law_pick") spPick := by
  obtain ⟨fd, F⟩ := T.f_law_pick
  have GD : Ok P w K mg base 1 (ga K "_law_draw") spDraw := ok_law_draw T
  refine ok_of F sc_law_pick (F.binds fun _ _ _ _ _ _ us hl => match us, hl with | [_, _], _ => rfl) (fun vs H Q E h => ?_) (fun cdv A outer s H vs Q E hr h => ?_)
  · obtain ⟨a, l, ns, rfl, _⟩ := h
    rfl
  · obtain ⟨a, l, ns, rfl, hp, hl, hne, h0, h1, k⟩ := h
    refine ⟨_, pss_one (ps_ret (pe_ix ix_list (pv 1) (pe_fn GD hr T.g_law_draw (pa_cons (pv 0) (pa_cons (pe_callB call_len_seq (by rfl) T.b_len boot_len (pa_cons (pv 1) pa_nil)) pa_nil))) (fun _ _ => rfl))), ?_⟩
    refine ⟨_, rfl, _, rfl, _, rfl, l, _, rfl, .inl (SqL.of hl), a, _, rfl, hp, by rw [List.length_map]; omega, by rw [List.length_map]; omega, fun H' d s p d0 d1 => ?_⟩
    rw [List.length_map] at d1
    obtain ⟨j, rfl, hj⟩ := nat_of d0 d1
    have e : ns[j]? = some ns[j] := List.getElem?_eq_getElem hj
    exact ⟨l, _, j, .int ns[j], rfl, rfl, SqL.of (s l _ hne hl), atI_nat (getE_map e), k H' _ s p (List.getElem_mem hj)⟩
def spMixed : Sp := fun vs H Q _ => ∃ (a l : Addr) (ns : List Int), vs = [.ref a, .ref l] ∧ PenAt H a ∧ H l = some (.lst (ns.map V.int)) ∧ ns.length ≤ 1000 ∧ ∀ (H' : Hp) (p : Addr) (ms : List Int), SB a H H' → PenAt H' a → H p = none → H' p = some (.lst (ms.map V.int)) → ms.Perm ns → Q (.ref p) H'
theorem sc_law_mixed : FnScope ["_law_pen_here", "_law_things", "_law_left", "_law_found"] ["_law_pen_here", "_law_things"] (defScope s_law_mixed) := ⟨rfl, rfl, rfl, by decide +kernel, rfl, by decide +kernel, by decide +kernel⟩
theorem ok_law_mixed (T : Txt K mg) : Ok P w K mg base 2 (ga K "_law_mixed") spMixed := by
  obtain ⟨fd, F⟩ := T.f_law_mixed
  have GD : Ok P w K mg base 1 (ga K "_law_draw") spDraw := ok_law_draw T
  refine ok_of F sc_law_mixed (F.binds fun _ _ _ _ _ _ us hl => match us, hl with | [_, _], _ => rfl) (fun vs H Q E h => ?_) (fun cdv A outer s H vs Q E hr h => ?_)
  · obtain ⟨a, l, ns, rfl, _⟩ := h
    rfl
  · obtain ⟨a, l, ns, rfl, hp, hl, hz, k⟩ := h
    have nd := sc_law_mixed.nd
    refine ⟨_, pss_cons (ps_par (i := 2) (j := 3) (by rfl) nd rfl rfl (by decide) rfl rfl (pa_cons (pe_callTy call_list_of (by rfl) T.b_list (by decide +kernel) (pa_cons (pv 1) pa_nil)) (pa_cons (pe_lst pa_nil) pa_nil)) (by rfl))
      (pss_cons (ps_while PassesOwn.never (pt_cmpR (op_neD hr.units) (pv 2) (pe_lst pa_nil) (nomark _))
        (pss_one (ps_expr (pe_bm PySem.F.plainAttrs_list PySem.F.slot_list_append PySem.F.type_list_append mt_append (pv 3) (pa_cons (pe_bm PySem.F.plainAttrs_list PySem.F.slot_list_pop PySem.F.type_list_pop mt_popAt (pv 2)
          (pa_cons (pe_fn GD hr T.g_law_draw (pa_cons (pv 0) (pa_cons (pe_callB call_len_seq (by rfl) T.b_len boot_len (pa_cons (pv 2) pa_nil)) pa_nil))) pa_nil)) pa_nil)))))
      (pss_one (ps_ret (pv 3)))), ?_⟩
    refine ⟨_, rfl, l, _, rfl, .inl (SqL.of hl), fun q hq => ?_⟩
    refine ⟨Nat.zero_le _, fun f hf => ?_⟩
    have nqa : q ≠ a := hp.ne hq
    have s1 : Same H (upd H q (.lst (ns.map V.int))) := sameUpd hq
    have s2 : Same H (upd (upd H q (.lst (ns.map V.int))) f (.lst [])) := sameNew s1 (s1.free hf)
    have nqf : q ≠ f := ne_of_none upd_same hf
    have hp2 := hp.same s2
    have nfa : f ≠ a := (hp.same s1).ne hf
    refine ⟨_, _, rfl, ?_⟩
    refine ⟨fun m σ H' => ∃ lf ms : List Int, m = lf.length ∧ σ = [some (.ref a), some (.ref l), some (.ref q), some (.ref f)] ∧ SB a H H' ∧ PenAt H' a ∧ H' q = some (.lst (lf.map V.int)) ∧ H' f = some (.lst (ms.map V.int)) ∧ (ms ++ lf).Perm ns,
      ⟨_, ns, [], rfl, rfl, SB.same s2, hp2, by rw [upd_ne nqf]; exact upd_same, upd_same, List.Perm.refl _⟩, ?_⟩
    rintro m σ H' ⟨lf, ms, rfl, rfl, sx, hp', hq', hf', pm⟩
    have hlen : ms.length + lf.length ≤ 1000 := by
      have := pm.length_eq
      rw [List.length_append] at this
      omega
    refine ⟨_, rfl, Nat.zero_le _, fun e he => ?_⟩
    have s3 : Same H' (upd H' e (.lst [])) := sameUpd he
    refine ⟨.list (lf.map PyData.int), .list ([].map PyData.int), .lst (SqL.of (s3 _ _ hq')) (dp_ints _), .lst (SqL.of upd_same) .nil, sh_list _, sh_nil, _, rfl, ?_⟩
    rw [eqv_lists]
    have sx3 := sx.trans (SB.same s3)
    have hp3 := hp'.same s3
    by_cases c : lf = []
    · subst c
      refine iteF ⟨_, rfl, ?_⟩
      rw [List.append_nil] at pm
      exact k _ f ms sx3 hp3 (s1.free hf) (s3 _ _ hf') pm
    · rw [decide_eq_false c]
      refine iteT ⟨fun σ' H2 => ∃ m', m' < lf.length ∧ ∃ lf ms : List Int, m' = lf.length ∧ σ' = [some (.ref a), some (.ref l), some (.ref q), some (.ref f)] ∧ SB a H H2 ∧ PenAt H2 a ∧ H2 q = some (.lst (lf.map V.int)) ∧ H2 f = some (.lst (ms.map V.int)) ∧ (ms ++ lf).Perm ns, fun _ _ z => z, ?_⟩
      have lpos : 0 < lf.length := List.length_pos_iff.mpr c
      have hq3 := s3 _ _ hq'
      have hf3 := s3 _ _ hf'
      refine ⟨_, rfl, .inl ⟨rfl, _, SqL.of hf3⟩, _, rfl, .inl ⟨rfl, _, SqL.of hq3⟩, ?_⟩
      refine ⟨_, rfl, _, rfl, q, _, rfl, .inl (SqL.of hq3), a, _, rfl, hp3, by rw [List.length_map]; omega, by rw [List.length_map]; omega, fun H4 d s4 p4 d0 d1 => ?_⟩
      rw [List.length_map] at d1
      obtain ⟨j, rfl, hj⟩ := nat_of d0 d1
      have e : lf[j]? = some lf[j] := List.getElem?_eq_getElem hj
      have hq4 := s4 q _ nqa hq3
      have hf4 := s4 f _ nfa hf3
      refine ⟨q, _, _, j, .int lf[j], rfl, rfl, hq4, by omega, by omega, (ixN_seq (ixN_nat (by rw [List.length_map]; exact hj))).1, getE_map e, ?_⟩
      have hf5 : (upd H4 q (.lst ((lf.map V.int).eraseIdx j))) f = some (.lst (ms.map V.int)) := by rw [upd_ne nqf.symm]; exact hf4
      refine ⟨f, _, .int lf[j], rfl, rfl, hf5, by rw [List.length_map]; exact small1000 (by omega), ?_⟩
      have hq0 : H q = none := hq
      refine ⟨_, ?_, lf.eraseIdx j, ms ++ [lf[j]], rfl, rfl, ((sx3.trans s4).new hq0).new (s1.free hf), (p4.new nqa).new nfa, ?_, ?_, ?_⟩
      · rw [List.length_eraseIdx_of_lt hj]
        omega
      · rw [upd_ne nqf, upd_same, erase_map]
      · rw [upd_same, ints_snoc]
      · rw [List.append_assoc]
        exact (List.Perm.append_left ms (erase_perm e)).trans pm
end
end Rc
set_option Elab.async false
set_option linter.all false
set_option maxRecDepth 100000
set_option maxHeartbeats 4000000
namespace Rc
open PySem PySem.Spec PyProof.Rows L2 He He5 C8
theorem cut_to {xs : List V} {i : Nat} : cutV xs none (some (i : Int)) = xs.take i := by
  unfold cutV
  rw [HT.sIx_nat, HT.sIx_none, List.drop_zero, Nat.sub_zero, List.take_eq_take_iff]
  omega
theorem cut_from {xs : List V} {i : Nat} : cutV xs (some (i : Int)) none = xs.drop i := by
  unfold cutV
  rw [HT.sIx_nat, HT.sIx_none]
  by_cases c : i ≤ xs.length
  · rw [Nat.min_eq_left c]
    exact List.take_of_length_le (by rw [List.length_drop]; omega)
  · rw [List.drop_of_length_le (by omega), List.drop_of_length_le (by omega), List.take_nil]
/-- l[:i], l[i:] of a list of ints -/
theorem slL_to {K : PySem.W.Frag} {H : Hp} {a : Addr} {ns : List Int} {i : Nat} {Q : VK} (h : H a = some (.lst (ns.map V.int))) (hk : ∀ p, H p = none → Q (.ref p) (upd H p (.lst ((ns.take i).map V.int)))) : rSlL K (.ref a) none (some (i : Int)) H Q := by
  refine ⟨a, _, rfl, SqL.of h, fun p hp => ?_⟩
  rw [cut_to, ← List.map_take]
  exact hk p hp
theorem slL_from {K : PySem.W.Frag} {H : Hp} {a : Addr} {ns : List Int} {i : Nat} {Q : VK} (h : H a = some (.lst (ns.map V.int))) (hk : ∀ p, H p = none → Q (.ref p) (upd H p (.lst ((ns.drop i).map V.int)))) : rSlL K (.ref a) (some (i : Int)) none H Q := by
  refine ⟨a, _, rfl, SqL.of h, fun p hp => ?_⟩
  rw [cut_from, ← List.map_drop]
  exact hk p hp
/-- a statement, what it reaches told by Pv -/
def tJ (t : TS) : TS := fun D σ H => ∃ Pv : L2.St → Hp → Prop, (∀ D' : Ends, (∀ σ H, Pv σ H → D'.nx σ H) → t D' σ H) ∧ ∀ σ H, Pv σ H → D.nx σ H
theorem ps_join {X : Cx} {st : Stmt} {t : TS} (h : PS X st t) : PS X st (tJ t) := ⟨fun pins s σ H D I hw => let ⟨_, h1, h2⟩ := hw; h.run pins s σ H D I (h1 D h2)⟩
/-- the lists that _law_pairs works with -/
structure PInv (a sp kk fr tu pr : Addr) (ms tm : List Int) (m : Nat) (H0 H : Hp) (xs : List V) (R : Rows) : Prop where
  sb : SB a H0 H
  pen : PenAt H a
  h1 : H sp = some (.lst (ms.map V.int))
  h2 : H kk = some (.lst ((ms.take m).map V.int))
  h3 : H fr = some (.lst ((ms.drop m).map V.int))
  h4 : H tu = some (.lst (tm.map V.int))
  h5 : H pr = some (.lst xs)
  ps : Pairs H xs R
  n1 : sp ≠ a
  n2 : kk ≠ a
  n3 : fr ≠ a
  n4 : tu ≠ a
  n5 : pr ≠ a
  r1 : sp ≠ pr
  r2 : kk ≠ pr
  r3 : fr ≠ pr
  r4 : tu ≠ pr
  fr0 : H0 pr = none
theorem PInv.step {a sp kk fr tu pr : Addr} {ms tm : List Int} {m : Nat} {H0 H H' : Hp} {xs : List V} {R : Rows} (p : PInv a sp kk fr tu pr ms tm m H0 H xs R) (s : SB a H H') (q : PenAt H' a) : PInv a sp kk fr tu pr ms tm m H0 H' xs R :=
  ⟨p.sb.trans s, q, s _ _ p.n1 p.h1, s _ _ p.n2 p.h2, s _ _ p.n3 p.h3, s _ _ p.n4 p.h4, s _ _ p.n5 p.h5, p.ps.at fun b l e => s b _ (p.pen.neT e) e, p.n1, p.n2, p.n3, p.n4, p.n5, p.r1, p.r2, p.r3, p.r4, p.fr0⟩
theorem PInv.new {a sp kk fr tu pr z : Addr} {o : HO} {ms tm : List Int} {m : Nat} {H0 H : Hp} {xs : List V} {R : Rows} (p : PInv a sp kk fr tu pr ms tm m H0 H xs R) (h : H z = none) : PInv a sp kk fr tu pr ms tm m H0 (L2.upd H z o) xs R :=
  p.step (SB.same (sameUpd h)) (p.pen.same (sameUpd h))
theorem PInv.app {a sp kk fr tu pr z : Addr} {ms tm : List Int} {m : Nat} {H0 H : Hp} {xs : List V} {R : Rows} {r : Int × Int} (p : PInv a sp kk fr tu pr ms tm m H0 H xs R) (h : H z = some (.tup [.int r.1, .int r.2])) :
    PInv a sp kk fr tu pr ms tm m H0 (L2.upd H pr (.lst (xs ++ [.ref z]))) (xs ++ [.ref z]) (R ++ [r]) :=
  ⟨p.sb.new p.fr0, p.pen.new p.n5, by rw [upd_ne p.r1]; exact p.h1, by rw [upd_ne p.r2]; exact p.h2, by rw [upd_ne p.r3]; exact p.h3, by rw [upd_ne p.r4]; exact p.h4, upd_same, (pairs_snoc p.ps h).at fun b l e => by
    rw [upd_ne (fun z => by rw [z, p.h5] at e; cases e)]; exact e, p.n1, p.n2, p.n3, p.n4, p.n5, p.r1, p.r2, p.r3, p.r4, p.fr0⟩
/-! ### the numbers -/
def scales : List Int := [1, 1, 3, 1000000000, 10000000000000000000000000000]
theorem scaled_in {x sh sc : Int} (hx : 0 ≤ x) (hx2 : x < 82) (hs : 0 ≤ sh) (hs2 : sh < 82) (h : sc ∈ scales) : inB ((x - sh) * sc) = true := by
  have : sc = 1 ∨ sc = 3 ∨ sc = 1000000000 ∨ sc = 10000000000000000000000000000 := by
    simp [scales] at h
    omega
  unfold inB KB
  rw [Bool.and_eq_true, decide_eq_true_eq, decide_eq_true_eq]
  rcases this with e | e | e | e <;> subst e <;> omega
theorem scaled_inj {x y sh sc : Int} (h : sc ∈ scales) (e : (x - sh) * sc = (y - sh) * sc) : x = y := by
  have : sc = 1 ∨ sc = 3 ∨ sc = 1000000000 ∨ sc = 10000000000000000000000000000 := by
    simp [scales] at h
    omega
  rcases this with q | q | q | q <;> subst q <;> omega
theorem pairs_rows {ks : List Int} {R : Rows} {sh sc : Int} (h : sc ∈ scales) (nd : ks.Nodup) (hz : ks.length ≤ 40) (e : keys R = ks.map fun k => (k - sh) * sc) (hk : ∀ r ∈ R, inB r.1 = true ∧ inB r.2 = true) : RowsOk R := by
  refine ⟨?_, ?_, fun r hr => (hk r hr).1, fun r hr => (hk r hr).2⟩
  · rw [e]
    exact (List.pairwise_map.mpr (List.Pairwise.imp (fun {a b} (hab : a ≠ b) q => hab (scaled_inj h q)) nd))
  · have : (keys R).length = R.length := by unfold keys; exact List.length_map ..
    rw [← this, e, List.length_map]
    exact hz
theorem range_ints (n : Nat) : rgV 0 (n : Int) = ((List.range n).map fun i => ((i : Nat) : Int)).map V.int := by
  unfold rgV
  rw [List.map_map, show ((n : Int) - 0).toNat = n by omega]
  refine List.map_congr_left fun i _ => ?_
  show V.int (0 + (i : Nat)) = V.int (i : Nat)
  rw [Int.zero_add]
section
variable {P : Program} {w : World} {K : PySem.W.Frag} {mg : Str → Option Value} {base : Heap}
def spLPairs : Sp := fun vs H Q _ => ∃ a : Addr, vs = [.ref a, .int 40] ∧ PenAt H a ∧ ∀ (H' : Hp) (p : Addr) (xs : List V) (R : Rows), SB a H H' → PenAt H' a → H p = none → H' p = some (.lst xs) → Pairs H' xs R → RowsOk R → Q (.ref p) H'
theorem sc_law_pairs : FnScope ["_law_pen_here", "_law_most", "_law_many", "_law_scale", "_law_shift", "_law_way", "_law_spots", "_law_keys", "_law_free", "_law_turned", "_law_pairs_here", "_law_at", "_law_key", "_law_to"] ["_law_pen_here", "_law_most"] (defScope s_law_pairs) := ⟨rfl, rfl, rfl, by decide +kernel, rfl, by decide +kernel, by decide +kernel⟩
theorem ok_law_pairs (T : Txt K mg) : Ok P w K mg base 3 (ga K "_law_pairs") spLPairs := by
  obtain ⟨fd, F⟩ := T.f_law_pairs
  have GD : Ok P w K mg base 1 (ga K "_law_draw") spDraw := ok_law_draw T
  have GP : Ok P w K mg base 2 (ga K "_law_pick") spPick := ok_law_pick T
  have GM : Ok P w K mg base 2 (ga K "_law_mixed") spMixed := ok_law_mixed T
  refine ok_of F sc_law_pairs (F.binds fun _ _ _ _ _ _ us hl => match us, hl with | [_, _], _ => rfl) (fun vs H Q E h => ?_) (fun cdv A outer s H vs Q E hr h => ?_)
  · obtain ⟨a, rfl, _⟩ := h
    rfl
  · obtain ⟨a, rfl, hp, k⟩ := h
    have nd := sc_law_pairs.nd
    have hr1 : Room 1 _ := hr.mono (by decide)
    refine ⟨_, pss_cons (ps_set (i := 2) nd rfl (Or.inl rfl) (pe_fn GD hr1 T.g_law_draw (pa_cons (pv 0) (pa_cons (pe_op op_add (pv 1) pe_int) pa_nil))))
      (pss_cons (ps_par3 (i := 3) (j := 4) (l := 5) (by rfl) nd rfl rfl rfl (by decide) (by decide) (by decide) rfl rfl rfl
        (pa_cons (pe_fn GP hr T.g_law_pick (pa_cons (pv 0) (pa_cons (pe_lst (pa_cons pe_int (pa_cons pe_int (pa_cons pe_int (pa_cons (pe_op op_pow pe_int pe_int) (pa_cons (pe_op op_pow pe_int pe_int) pa_nil)))))) pa_nil)))
        (pa_cons (pe_fn GD hr1 T.g_law_draw (pa_cons (pv 0) (pa_cons (pe_op op_add (pe_op op_mul pe_int (pv 2)) pe_int) pa_nil)))
        (pa_cons (pe_fn GD hr1 T.g_law_draw (pa_cons (pv 0) (pa_cons pe_int pa_nil))) pa_nil))) (by rfl))
      (pss_cons (ps_set (i := 6) nd rfl (Or.inl rfl) (pe_fn GM hr T.g_law_mixed (pa_cons (pv 0) (pa_cons (pe_listRg rfl (by rfl) T.b_list (prg_1 (by rfl) T.b_range (pe_op op_add (pe_op op_mul pe_int (pv 2)) pe_int))) pa_nil))))
      (pss_cons (ps_par3 (i := 7) (j := 8) (l := 9) (by rfl) nd rfl rfl rfl (by decide) (by decide) (by decide) rfl rfl rfl
        (pa_cons (pe_slice sl_list (pv 6) po_none (po_some (pv 2))) (pa_cons (pe_slice sl_list (pv 6) (po_some (pv 2)) po_none) (pa_cons (pe_fn GM hr T.g_law_mixed (pa_cons (pv 0) (pa_cons (pe_slice sl_list (pv 6) po_none (po_some (pv 2))) pa_nil))) pa_nil))) (by rfl))
      (pss_cons (ps_set (i := 10) nd rfl (Or.inl rfl) (pe_lst pa_nil))
      (pss_cons (ps_for PassesOwn.never rfl (pi_enum (by rfl) T.b_enumerate (pa_cons (pv 7) pa_nil)) (pg_tup rfl (pgs_cons (pg_name (i := 11) nd rfl (Or.inl rfl)) (pgs_cons (pg_name (i := 12) nd rfl (Or.inl rfl)) pgs_nil)))
        (pss_cons (ps_set (i := 13) nd rfl (Or.inl rfl) (pe_fn GP hr T.g_law_pick (pa_cons (pv 0) (pa_cons (pe_lst (pa_cons (pe_fn GP hr T.g_law_pick (pa_cons (pv 0) (pa_cons (pv 6) pa_nil))) (pa_cons (pe_fn GP hr T.g_law_pick (pa_cons (pv 0) (pa_cons (pv 8) pa_nil))) (pa_cons (pv 12) (pa_cons (pe_fn GP hr T.g_law_pick (pa_cons (pv 0) (pa_cons (pv 7) pa_nil))) pa_nil))))) pa_nil))))
        (pss_cons (ps_join (ps_if (pt_cmpR op_eq (pv 5) pe_int (nomark _)) (pss_one (ps_set (i := 13) nd rfl (Or.inl rfl) (pe_ix ix_list (pv 9) (pv 11) (fun _ _ => rfl)))) pss_nil))
        (pss_cons (ps_join (ps_if (PW.pt (pw_and (pt_cmpR op_eq (pv 5) pe_int (nomark _)) (pw_and1 (pt_cmpR op_gt (pe_fn GD hr1 T.g_law_draw (pa_cons (pv 0) (pa_cons pe_int pa_nil))) pe_int (nomark _)))))
          (pss_one (ps_set (i := 13) nd rfl (Or.inl rfl) (pe_ix ix_list (pe_op op_cat (pv 7) (pv 8)) (pe_op op_add (pv 11) pe_int) (fun _ _ => rfl)))) pss_nil))
        (pss_cons (ps_join (ps_if (pt_cmpR op_eq (pv 5) pe_int (nomark _)) (pss_one (ps_set (i := 13) nd rfl (Or.inl rfl) (pe_ix ix_list (pe_op op_cat (pv 7) (pv 8)) (pe_op op_sub (pe_op op_add (pv 11) pe_int) (pe_op op_mul (pe_fn GD hr1 T.g_law_draw (pa_cons (pv 0) (pa_cons pe_int pa_nil))) (pv 11))) (fun _ _ => rfl)))) pss_nil))
        (pss_cons (ps_join (ps_if (pt_cmpR op_eq (pv 5) pe_int (nomark _)) (pss_one (ps_set (i := 13) nd rfl (Or.inl rfl) (pe_ix ix_list (pe_op op_cat (pe_slice sl_list (pv 8) po_none (po_some pe_int)) (pv 7))
          (pe_callB (call_max2 rfl) (by rfl) T.b_max (by decide +kernel) (pa_cons pe_int (pa_cons (pe_op op_sub (pv 11) (pe_fn GD hr1 T.g_law_draw (pa_cons (pv 0) (pa_cons pe_int pa_nil)))) pa_nil))) (fun _ _ => rfl)))) pss_nil))
        (pss_cons (ps_join (ps_if (PW.pt (pw_and (pt_cmpR op_eq (pv 5) pe_int (nomark _)) (pw_and1 (pt_cmpR op_gt (pv 11) pe_int (nomark _))))) (pss_one (ps_set (i := 13) nd rfl (Or.inl rfl) (pe_fn GP hr T.g_law_pick (pa_cons (pv 0) (pa_cons (pe_op op_cat (pe_slice sl_list (pv 7) po_none (po_some (pv 11))) (pe_slice sl_list (pv 8) po_none (po_some pe_int))) pa_nil))))) pss_nil))
        (pss_one (ps_expr (pe_bm PySem.F.plainAttrs_list PySem.F.slot_list_append PySem.F.type_list_append mt_append (pv 10) (pa_cons (pe_tup (pa_cons (pe_op op_mul (pe_op op_sub (pv 12) (pv 4)) (pv 3)) (pa_cons (pe_op op_mul (pe_op op_sub (pv 13) (pv 4)) (pv 3)) pa_nil))) pa_nil)))))))))))
      (pss_one (ps_ret (pv 10)))))))), ?_⟩
    refine ⟨_, rfl, _, rfl, _, _, rfl, rfl, a, _, rfl, hp, by decide, by decide, fun H1 d1 s1 p1 d1a d1b => ?_⟩
    obtain ⟨m, rfl, hm⟩ := nat_of (n := 41) d1a d1b
    refine ⟨_, rfl, _, _, rfl, rfl, ⟨by decide, by decide, by decide⟩, _, _, rfl, rfl, ⟨by decide, by decide, by decide⟩, (by show 5 ≤ sizeLine; decide), fun l hl => ?_⟩
    have s2 := s1.trans (SB.same (sameUpd (o := .lst [.int 1, .int 1, .int 3, .int (10 ^ (9 : Int).toNat), .int (10 ^ (28 : Int).toNat)]) hl))
    have p2 := p1.same (sameUpd (o := .lst [.int 1, .int 1, .int 3, .int (10 ^ (9 : Int).toNat), .int (10 ^ (28 : Int).toNat)]) hl)
    refine ⟨a, l, scales, rfl, p2, upd_same, p1.ne hl, by decide, by decide, fun H2 sc s3 p3 hsc => ?_⟩
    have s23 := s2.trans s3
    refine ⟨_, rfl, _, rfl, _, _, rfl, rfl, .inl ⟨by decide, by decide⟩, _, _, rfl, rfl, a, _, rfl, p3, by omega, by omega, fun H3 sh s4 p4 sh0 sh1 => ?_⟩
    refine ⟨_, rfl, a, _, rfl, p4, by decide, by decide, fun H4 way s5 p5 _ _ => ?_⟩
    have s45 := (s23.trans s4).trans s5
    refine ⟨_, _, _, rfl, ?_⟩
    refine ⟨_, rfl, _, rfl, _, _, rfl, rfl, .inl ⟨by decide, by decide⟩, _, _, rfl, rfl, _, rfl, RgOk.of_le (by omega) (by omega) (by omega) (by omega), fun l2 hl2 => ?_⟩
    rw [show (2 * (m : Int) + 2) = ((2 * m + 2 : Nat) : Int) by omega, range_ints]
    have s6 := SB.same (a := a) (sameUpd (o := .lst (((List.range (2 * m + 2)).map fun i => ((i : Nat) : Int)).map V.int)) hl2)
    refine ⟨a, l2, (List.range (2 * m + 2)).map fun i => ((i : Nat) : Int), rfl, p5.same (sameUpd hl2), upd_same, by rw [List.length_map, List.length_range]; omega, fun H5 sp ms s7 p7 hsp0 hsp pms => ?_⟩
    have mlen : ms.length = 2 * m + 2 := by rw [pms.length_eq, List.length_map, List.length_range]
    have mnd : ms.Nodup := pms.nodup_iff.mpr (List.pairwise_map.mpr (List.Pairwise.imp (fun {a b} (h : a ≠ b) e => h (Int.ofNat_inj.mp e)) List.nodup_range))
    have mb : ∀ x ∈ ms, 0 ≤ x ∧ x < 82 := fun x hx => by
      obtain ⟨i, hi, rfl⟩ := List.mem_map.mp (pms.mem_iff.mp hx)
      have := List.mem_range.mp hi
      omega
    have s57 := (s45.trans s6).trans s7
    have n1 : sp ≠ a := (p5.same (sameUpd hl2)).ne hsp0
    refine ⟨_, rfl, _, rfl, _, rfl, ?_⟩
    refine slL_to (i := m) hsp fun kk hkk => ?_
    have n2 : kk ≠ a := p7.ne hkk
    have q8 := p7.same (sameUpd (o := .lst ((ms.take m).map V.int)) hkk)
    have t8 := SB.same (a := a) (sameUpd (o := .lst ((ms.take m).map V.int)) hkk)
    have hsp8 := t8 _ _ n1 hsp
    refine ⟨_, rfl, _, rfl, _, rfl, sp, _, rfl, SqL.of hsp8, fun fr hfr => ?_⟩
    rw [cut_from, ← List.map_drop]
    have n3 : fr ≠ a := q8.ne hfr
    have q9 := q8.same (sameUpd (o := .lst ((ms.drop m).map V.int)) hfr)
    have t9 := SB.same (a := a) (sameUpd (o := .lst ((ms.drop m).map V.int)) hfr)
    have hsp9 := t9 _ _ n1 hsp8
    have hkk9 := t9 kk _ n2 upd_same
    refine ⟨_, rfl, _, rfl, _, rfl, _, rfl, ?_⟩
    refine slL_to (i := m) hsp9 fun l3 hl3 => ?_
    have q10 := q9.same (sameUpd (o := .lst ((ms.take m).map V.int)) hl3)
    have t10 := SB.same (a := a) (sameUpd (o := .lst ((ms.take m).map V.int)) hl3)
    refine ⟨a, l3, ms.take m, rfl, q10, upd_same, by rw [List.length_take]; omega, fun H6 tu tm s11 p11 htu0 htu ptm => ?_⟩
    have hsp11 := s11 _ _ n1 (t10 _ _ n1 hsp9)
    have hkk11 := s11 _ _ n2 (t10 _ _ n2 hkk9)
    have hfr11 := s11 fr _ n3 (t10 _ _ n3 upd_same)
    have n4 : tu ≠ a := q10.ne htu0
    have tlen : tm.length = m := by rw [ptm.length_eq, List.length_take]; omega
    have klen : (ms.take m).length = m := by rw [List.length_take]; omega
    have flen : (ms.drop m).length = m + 2 := by rw [List.length_drop]; omega
    have sAll := (((s57.trans t8).trans t9).trans t10).trans s11
    refine ⟨_, _, _, rfl, ?_⟩
    refine ⟨Nat.zero_le _, fun pr hpr => ?_⟩
    have s12 := SB.same (a := a) (sameUpd (o := .lst []) hpr)
    have p12 := p11.same (sameUpd (o := .lst []) hpr)
    have base : PInv a sp kk fr tu pr ms tm m H (upd H6 pr (.lst [])) [] [] :=
      ⟨sAll.trans s12, p12, s12 _ _ n1 hsp11, s12 _ _ n2 hkk11, s12 _ _ n3 hfr11, s12 _ _ n4 htu, upd_same, pairs_nil, n1, n2, n3, n4, p11.ne hpr, ne_of_none hsp11 hpr, ne_of_none hkk11 hpr, ne_of_none hfr11 hpr, ne_of_none htu hpr, sAll.free p11 hpr⟩
    refine ⟨_, rfl, kk, _, rfl, SqL.of base.h2, ?_⟩
    refine for_it (walk_enum (K := K) (a := kk) (xs := (ms.take m).map V.int)) (fun i σ H' => ∃ v11 v12 v13 xs R, σ = [some (.ref a), some (.int 40), some (.int (m : Int)), some (.int sc), some (.int sh), some (.int way), some (.ref sp), some (.ref kk), some (.ref fr), some (.ref tu), some (.ref pr), v11, v12, v13] ∧
        PInv a sp kk fr tu pr ms tm m H H' xs R ∧ keys R = ((ms.take m).take i).map (fun k => (k - sh) * sc) ∧ ∀ r ∈ R, inB r.1 = true ∧ inB r.2 = true)
      ⟨none, none, none, [], [], rfl, base, rfl, fun _ h => nomatch h⟩ (fun i σ H' _ ⟨_, _, _, _, _, _, z, _⟩ => SqL.of z.h2) ?_ ?_
    · rintro i x σ H' H'' hi ⟨v11, v12, v13, xs, R, rfl, inv, hk, hb⟩ ⟨z, y, y2, rfl, hz, rfl, ey, ez⟩
      obtain ⟨key, e2, rfl⟩ := map_at ez
      obtain rfl : V.int (i : Nat) = y := Option.some.inj ey
      rw [List.length_map, klen] at hi
      have hkey : key ∈ ms := List.mem_of_mem_take (List.mem_of_getElem? e2)
      have inv1 : PInv a sp kk fr tu pr ms tm m H (upd H' z (.tup [.int (i : Nat), .int key])) xs R := inv.new hz
      refine ⟨z, _, rfl, SqT.of upd_same, rfl, _, _, rfl, _, _, rfl, rfl, ?_⟩
      -- to = pick(..)
      refine ⟨_, rfl, _, rfl, _, rfl, a, sp, ms, rfl, inv1.pen, inv1.h1, n1, by omega, by omega, fun H7 x1 sA pA hx1 => ?_⟩
      have inv2 := inv1.step sA pA
      refine ⟨_, rfl, _, rfl, a, fr, ms.drop m, rfl, inv2.pen, inv2.h3, n3, by omega, by omega, fun H8 x2 sB pB hx2 => ?_⟩
      have inv3 := inv2.step sB pB
      refine ⟨_, rfl, _, rfl, _, rfl, a, kk, ms.take m, rfl, inv3.pen, inv3.h2, n2, by omega, by omega, fun H9 x3 sC pC hx3 => ?_⟩
      have inv4 := inv3.step sC pC
      refine ⟨(by show 4 ≤ sizeLine; decide), fun l5 hl5 => ?_⟩
      have inv5 : PInv a sp kk fr tu pr ms tm m H (upd H9 l5 (.lst [.int x1, .int x2, .int key, .int x3])) xs R := inv4.new hl5
      refine ⟨a, l5, [x1, x2, key, x3], rfl, inv5.pen, upd_same, inv4.pen.ne hl5, (by show 0 < 4; decide), (by show 4 ≤ 1000; decide), fun H10 to sD pD hto => ?_⟩
      have inv6 := inv5.step sD pD
      have hto : to ∈ ms := by
        rcases List.mem_cons.mp hto with e | hto
        · rw [e]; exact hx1
        rcases List.mem_cons.mp hto with e | hto
        · rw [e]; exact List.mem_of_mem_drop hx2
        rcases List.mem_cons.mp hto with e | hto
        · rw [e]; exact hkey
        · rw [List.mem_singleton.mp hto]; exact List.mem_of_mem_take hx3
      clear inv1 inv2 inv3 inv4 inv5 sA sB sC sD pA pB pC pD hx1 hx2 hx3 hl5
      have one : ∀ (j : Nat) (t : Int), ms[j]? = some t → t ∈ ms := fun j t e => List.mem_of_getElem? e
      let Pv : L2.St → Hp → Prop := fun σ H' => ∃ to : Int, to ∈ ms ∧ σ = [some (.ref a), some (.int 40), some (.int (m : Int)), some (.int sc), some (.int sh), some (.int way), some (.ref sp), some (.ref kk), some (.ref fr), some (.ref tu), some (.ref pr), some (.int (i : Nat)), some (.int key), some (.int to)] ∧ PInv a sp kk fr tu pr ms tm m H H' xs R
      have inv := inv6
      clear inv6
      -- way 1
      refine ⟨Pv, fun D' dn => ?_, ?_⟩
      · refine ⟨_, rfl, rfl, _, rfl, ?_⟩
        generalize decide (V.int way = V.int 1) = c
        cases c with
        | false => exact iteF (dn _ _ ⟨_, hto, rfl, inv⟩)
        | true =>
          have et : tm[i]? = some (tm[i]'(by omega)) := List.getElem?_eq_getElem (by omega)
          refine iteT ⟨_, rfl, _, rfl, tu, _, (i : Nat), _, rfl, rfl, SqL.of inv.h4, atI_nat (getE_map et), ?_⟩
          exact dn _ _ ⟨_, List.mem_of_mem_take (ptm.mem_iff.mp (List.mem_of_getElem? et)), rfl, inv⟩
      rintro σ Hx ⟨to, hto, rfl, inv⟩
      -- way 2
      refine ⟨Pv, fun D' dn => ?_, ?_⟩
      · refine ⟨_, rfl, rfl, _, rfl, ?_⟩
        generalize decide (V.int way = V.int 2) = c
        cases c with
        | false => exact iteF (iteF (dn _ _ ⟨_, hto, rfl, inv⟩))
        | true =>
          refine iteT ⟨_, rfl, a, _, rfl, inv.pen, by decide, by decide, fun H7 d sA pA _ _ => ?_⟩
          have inv2 := inv.step sA pA
          refine ⟨_, _, rfl, rfl, _, rfl, ?_⟩
          generalize decide ((0 : Int) < d) = c
          cases c with
          | false => exact iteF (dn _ _ ⟨_, hto, rfl, inv2⟩)
          | true =>
            have et : ms[i + 1]? = some (ms[i + 1]'(by omega)) := List.getElem?_eq_getElem (by omega)
            refine iteT ⟨_, rfl, _, rfl, kk, fr, _, _, rfl, rfl, inv2.h2, inv2.h3, Nat.le_of_lt (small1000 (by rw [List.length_map, List.length_map]; omega)), fun q hq => ?_⟩
            refine ⟨_, rfl, _, _, rfl, rfl, q, _, _, .int (ms[i + 1]'(by omega)), rfl, rfl, SqL.of upd_same, ?_, dn _ _ ⟨_, one _ _ et, rfl, inv2.new hq⟩⟩
            rw [← List.map_append, List.take_append_drop, show (((i : Nat) : Int) + 1) = ((i + 1 : Nat) : Int) by omega]
            exact atI_nat (getE_map et)
      rintro σ Hx ⟨to, hto, rfl, inv⟩
      -- way 3
      refine ⟨Pv, fun D' dn => ?_, ?_⟩
      · refine ⟨_, rfl, rfl, _, rfl, ?_⟩
        generalize decide (V.int way = V.int 3) = c
        cases c with
        | false => exact iteF (dn _ _ ⟨_, hto, rfl, inv⟩)
        | true =>
          refine iteT ⟨_, rfl, _, rfl, kk, fr, _, _, rfl, rfl, inv.h2, inv.h3, Nat.le_of_lt (small1000 (by rw [List.length_map, List.length_map]; omega)), fun q hq => ?_⟩
          have inv2 : PInv a sp kk fr tu pr ms tm m H (upd Hx q (.lst ((ms.take m).map V.int ++ (ms.drop m).map V.int))) xs R := inv.new hq
          have nq : q ≠ a := inv.pen.ne hq
          refine ⟨_, rfl, _, _, rfl, rfl, _, rfl, a, _, rfl, inv2.pen, by decide, by decide, fun H7 d sA pA d0 d1 => ?_⟩
          have hq7 := sA q _ nq upd_same
          rw [← List.map_append, List.take_append_drop] at hq7
          have inv3 := inv2.step sA pA
          refine ⟨_, rfl, _, _, rfl, rfl, .inl ⟨by omega, by omega⟩, _, _, rfl, rfl, ?_⟩
          have hd : d = 0 ∨ d = 1 := by omega
          rcases hd with rfl | rfl
          · have et : ms[i + 1]? = some (ms[i + 1]'(by omega)) := List.getElem?_eq_getElem (by omega)
            refine ⟨q, _, _, .int (ms[i + 1]'(by omega)), rfl, rfl, SqL.of hq7, ?_, dn _ _ ⟨_, one _ _ et, rfl, inv3⟩⟩
            rw [show (((i : Nat) : Int) + 1 - 0 * ((i : Nat) : Int)) = ((i + 1 : Nat) : Int) by omega]
            exact atI_nat (getE_map et)
          · have et : ms[1]? = some (ms[1]'(by omega)) := List.getElem?_eq_getElem (by omega)
            refine ⟨q, _, _, .int (ms[1]'(by omega)), rfl, rfl, SqL.of hq7, ?_, dn _ _ ⟨_, one _ _ et, rfl, inv3⟩⟩
            rw [show (((i : Nat) : Int) + 1 - 1 * ((i : Nat) : Int)) = ((1 : Nat) : Int) by omega]
            exact atI_nat (getE_map et)
      rintro σ Hx ⟨to, hto, rfl, inv⟩
      -- way 4
      refine ⟨Pv, fun D' dn => ?_, ?_⟩
      · refine ⟨_, rfl, rfl, _, rfl, ?_⟩
        generalize decide (V.int way = V.int 4) = c
        cases c with
        | false => exact iteF (dn _ _ ⟨_, hto, rfl, inv⟩)
        | true =>
          refine iteT ⟨_, rfl, _, rfl, ?_⟩
          refine slL_to (i := 1) inv.h3 fun q hq => ?_
          have inv2 : PInv a sp kk fr tu pr ms tm m H (upd Hx q (.lst (((ms.drop m).take 1).map V.int))) xs R := inv.new hq
          refine ⟨_, rfl, q, kk, _, _, rfl, rfl, upd_same, inv2.h2, Nat.le_of_lt (small1000 (by rw [List.length_map, List.length_map, List.length_take]; omega)), fun q2 hq2 => ?_⟩
          have inv3 : PInv a sp kk fr tu pr ms tm m H _ xs R := inv2.new (o := .lst (((ms.drop m).take 1).map V.int ++ (ms.take m).map V.int)) hq2
          have nq2 : q2 ≠ a := inv2.pen.ne hq2
          refine ⟨_, rfl, _, rfl, a, _, rfl, inv3.pen, by decide, by decide, fun H7 d sA pA d0 d1 => ?_⟩
          have hq7 := sA q2 _ nq2 upd_same
          rw [← List.map_append] at hq7
          have inv4 := inv3.step sA pA
          refine ⟨_, _, rfl, rfl, _, _, rfl, ?_⟩
          have hlen : ((ms.drop m).take 1 ++ ms.take m).length = 1 + m := by rw [List.length_append, List.length_take, klen]; omega
          obtain ⟨j, ej, hj⟩ := nat_of (d := if ((i : Nat) : Int) - d > 0 then ((i : Nat) : Int) - d else 0) (n := 1 + m) (by split <;> omega) (by split <;> omega)
          have et : ((ms.drop m).take 1 ++ ms.take m)[j]? = some (((ms.drop m).take 1 ++ ms.take m)[j]'(by omega)) := List.getElem?_eq_getElem (by omega)
          refine ⟨q2, _, _, .int (((ms.drop m).take 1 ++ ms.take m)[j]'(by omega)), rfl, rfl, SqL.of hq7, ?_, dn _ _ ⟨_, ?_, rfl, inv4⟩⟩
          · rw [ej]
            exact atI_nat (getE_map et)
          · rcases List.mem_append.mp (List.mem_of_getElem? et) with h | h
            · exact List.mem_of_mem_drop (List.mem_of_mem_take h)
            · exact List.mem_of_mem_take h
      rintro σ Hx ⟨to, hto, rfl, inv⟩
      -- way 5
      refine ⟨Pv, fun D' dn => ?_, ?_⟩
      · refine ⟨_, rfl, rfl, _, rfl, ?_⟩
        generalize decide (V.int way = V.int 5) = c
        cases c with
        | false => exact iteF (iteF (dn _ _ ⟨_, hto, rfl, inv⟩))
        | true =>
          refine iteT ⟨_, rfl, _, _, rfl, rfl, _, rfl, ?_⟩
          generalize decide ((0 : Int) < ((i : Nat) : Int)) = c
          cases c with
          | false => exact iteF (dn _ _ ⟨_, hto, rfl, inv⟩)
          | true =>
            refine iteT ⟨_, rfl, _, rfl, _, rfl, _, rfl, ?_⟩
            have l6 : ((ms.take m).take i).length ≤ 40 := by rw [List.length_take]; omega
            have l7 : ((ms.drop m).take 2).length = 2 := by rw [List.length_take]; omega
            refine slL_to (i := i) inv.h2 fun q hq => ?_
            have inv2 : PInv a sp kk fr tu pr ms tm m H (upd Hx q (.lst (((ms.take m).take i).map V.int))) xs R := inv.new hq
            refine ⟨_, rfl, _, rfl, ?_⟩
            refine slL_to (i := 2) inv2.h3 fun q2 hq2 => ?_
            have inv3 : PInv a sp kk fr tu pr ms tm m H _ xs R := inv2.new (o := .lst (((ms.drop m).take 2).map V.int)) hq2
            have hqq : q ≠ q2 := ne_of_none upd_same hq2
            refine ⟨q, q2, _, _, rfl, rfl, by rw [upd_ne hqq]; exact upd_same, upd_same, Nat.le_of_lt (small1000 (by rw [List.length_map, List.length_map]; omega)), fun q3 hq3 => ?_⟩
            have inv4 : PInv a sp kk fr tu pr ms tm m H _ xs R := inv3.new (o := .lst (((ms.take m).take i).map V.int ++ ((ms.drop m).take 2).map V.int)) hq3
            refine ⟨a, q3, (ms.take m).take i ++ (ms.drop m).take 2, rfl, inv4.pen, by rw [upd_same, List.map_append], inv3.pen.ne hq3, by rw [List.length_append]; omega, by rw [List.length_append]; omega, fun H7 t sA pA ht => ?_⟩
            refine dn _ _ ⟨t, ?_, rfl, inv4.step sA pA⟩
            rcases List.mem_append.mp ht with h | h
            · exact List.mem_of_mem_take (List.mem_of_mem_take h)
            · exact List.mem_of_mem_drop (List.mem_of_mem_take h)
      rintro σ Hx ⟨to, hto, rfl, inv⟩
      -- append
      have hsc1 : -(2 ^ 64) < key - sh ∧ key - sh < 2 ^ 64 := by have := mb key hkey; omega
      have hsc2 : -(2 ^ 64) < to - sh ∧ to - sh < 2 ^ 64 := by have := mb to hto; omega
      refine ⟨_, rfl, .inl ⟨rfl, _, SqL.of inv.h5⟩, _, rfl, _, rfl, _, _, rfl, rfl, _, rfl, _, _, rfl, rfl, .inl hsc1, _, rfl, _, rfl, _, _, rfl, rfl, _, rfl, _, _, rfl, rfl, .inl hsc2, (by show 2 ≤ sizeLine; decide), fun u hu => ?_⟩
      have inv2 : PInv a sp kk fr tu pr ms tm m H (upd Hx u (.tup [.int ((key - sh) * sc), .int ((to - sh) * sc)])) xs R := inv.new hu
      have Rlen : R.length = i := by
        have := congrArg List.length hk
        unfold keys at this
        rw [List.length_map, List.length_map, List.length_take] at this
        omega
      refine ⟨pr, xs, _, rfl, rfl, inv2.h5, small1000 (by rw [inv.ps.1, Rlen]; omega), ?_⟩
      refine ⟨_, _, _, _, R ++ [((key - sh) * sc, (to - sh) * sc)], rfl, inv2.app upd_same, ?_, fun r hr => ?_⟩
      · rw [take_more e2, List.map_append]
        unfold keys at hk ⊢
        rw [List.map_append, hk]
        rfl
      · rcases List.mem_append.mp hr with h | h
        · exact hb r h
        · rw [List.mem_singleton.mp h]
          have a1 := mb key hkey
          have a2 := mb to hto
          exact ⟨scaled_in a1.1 a1.2 sh0 (by omega) hsc, scaled_in a2.1 a2.2 sh0 (by omega) hsc⟩
    · rintro σ H' ⟨v11, v12, v13, xs, R, rfl, inv, hk, hb⟩
      rw [List.length_map, List.take_length] at hk
      refine ⟨_, rfl, k H' pr xs R inv.sb inv.pen inv.fr0 inv.h5 inv.ps ?_⟩
      exact pairs_rows hsc (mnd.sublist (List.take_sublist _ _)) (by omega) hk hb
end
end Rc
set_option Elab.async false
set_option linter.all false
set_option maxRecDepth 100000
set_option maxHeartbeats 4000000
namespace Rc
open PySem PySem.Spec PyProof.Rows L2 He He5 C8
theorem po_no {X : Cx} : PO X none (fun _ H Q => Q none H) := po_none
theorem catA_at {K : PySem.W.Frag} {H : Hp} {a b : Addr} {xs ys : List V} {Q : VK} (ha : H a = some (.tup xs)) (hb : H b = some (.tup ys)) (hz : xs.length + ys.length ≤ sizeLine) (hk : ∀ (H' : Hp) (p : Addr), Same H H' → H' p = some (.tup (xs ++ ys)) → Q (.ref p) H') : rCatA K (.ref a) (.ref b) H Q := by
  refine ⟨a, b, xs, ys, rfl, rfl, SqT.of ha, SqT.of hb, hz, fun e => ?_, fun _ e => ?_, fun _ _ p hp => hk _ p (sameUpd hp) upd_same⟩
  · subst e
    exact hk H b (Same.refl H) hb
  · subst e
    exact hk H a (Same.refl H) (by rw [List.append_nil]; exact ha)
theorem sh_tups_ (l : List Int) : SeqAt.shaped (.tuple (l.map PyData.int)) = true := sh_tup l
section
variable {P : Program} {w : World} {K : PySem.W.Frag} {mg : Str → Option Value} {base : Heap}
def spORight (C : Addr) : Sp := fun vs H Q _ => ∃ (a t p : Addr) (T : Rows) (o : List Int), vs = [.ref a, .ref t, .ref p] ∧ PenAt H a ∧ TabAt C H t T ∧ H p = some (.tup (o.map V.int)) ∧ Free T ∧ First T o ∧ o.Perm (keys T) ∧ ∀ H' : Hp, SB a H H' → PenAt H' a → Q (.bl true) H'
theorem sc_law_order_right : FnScope ["_law_pen_here", "_law_table", "_law_order", "_law_rule", "_law_turn", "_law_at", "_law_one", "_law_other", "_law_swapped", "_law_is_good"] ["_law_pen_here", "_law_table", "_law_order"] (defScope s_law_order_right) := ⟨rfl, rfl, rfl, by decide +kernel, rfl, by decide +kernel, by decide +kernel⟩
theorem ok_law_order_right (T : Txt K mg) : Ok P w K mg base 12 (ga K "_law_order_right") (spORight (CT K)) := by
  obtain ⟨fd, F⟩ := T.f_law_order_right
  have GD : Ok P w K mg base 1 (ga K "_law_draw") spDraw := ok_law_draw T
  have GC : Ok P w K mg base 6 (ma K (CA K) "__call__") (spRule (CT K) (CO K) (CA K)) := ok_Rule_call T
  have GS : Ok P w K mg base 1 (getter K "Outcome" "stop") (spStop (CO K)) := ok_Outcome_stop T
  have GO : Ok P w K mg base 11 (ga K "passing_orders") (spOrders (CT K)) := ok_passing_orders T
  have GV : Ok P w K mg base 10 (ga K "shows_verdict") (spShows (CT K)) := ok_shows_verdict T
  have GG : Ok P w K mg base 4 (ma K (CT K) "__getitem__") (spGet (CT K)) := ok_Table_getitem T
  refine ok_of F sc_law_order_right (F.binds fun _ _ _ _ _ _ us hl => match us, hl with | [_, _, _], _ => rfl) (fun vs H Q E h => ?_) (fun cdv A outer s H vs Q E hr h => ?_)
  · obtain ⟨a, t, p, U, o, rfl, _⟩ := h
    rfl
  · obtain ⟨a, t, p, U, o, rfl, hpen, ht, hp, fr, fo, hperm, k⟩ := h
    have nd := sc_law_order_right.nd
    have hr1 : Room 1 _ := hr.mono (by decide)
    have hr2 : Room 2 _ := hr.mono (by decide)
    have hr5 : Room 5 _ := hr.mono (by decide)
    have hr6 : Room 6 _ := hr.mono (by decide)
    have hrX : Room 10 _ := hr.mono (by decide)
    refine ⟨_, pss_cons (ps_set (i := 3) nd rfl (Or.inl rfl) (pe_new0 T.mk_Abort T.g_Abort.1))
      (pss_cons (ps_if (PW.pt (pw_or (pt_cmpR (op_neD hr.units) (pe_propR (StX.pe_callO (pv 3) T.callo GC hr6 L2.pass0 (pa_cons (pv 1) (pa_cons (pv 2) pa_nil))) T.cl_Outcome T.p_stop GS hr2) (pe_tup pa_nil) (nomark _))
          (pw_or1 (pt_not (pt_cmpR op_gt (pe_fn GO hr T.g_passing_orders (pa_cons (pv 1) pa_nil)) pe_int (nomark _)))))) (pss_one (ps_ret pe_bl)) pss_nil)
      (pss_cons (ps_for PassesOwn.never rfl (pi_range1 (by rfl) T.b_range (pa_cons (pe_callB (call_min2 rfl) (by rfl) T.b_min (by decide +kernel) (pa_cons pe_int (pa_cons (pe_op op_sub (pe_callB call_len_seq (by rfl) T.b_len boot_len (pa_cons (pv 2) pa_nil)) pe_int) pa_nil))) pa_nil)) (pg_name (i := 4) nd rfl (Or.inl rfl))
        (pss_cons (ps_set (i := 5) nd rfl (Or.inl rfl) (pe_fn GD hr1 T.g_law_draw (pa_cons (pv 0) (pa_cons (pe_op op_sub (pe_callB call_len_seq (by rfl) T.b_len boot_len (pa_cons (pv 2) pa_nil)) pe_int) pa_nil))))
        (pss_cons (ps_par (i := 6) (j := 7) (by rfl) nd rfl rfl (by decide) rfl rfl (pa_cons (pe_ix ix_tup (pv 2) (pv 5) (fun _ _ => rfl)) (pa_cons (pe_ix ix_tup (pv 2) (pe_op op_add (pv 5) pe_int) (fun _ _ => rfl)) pa_nil)) (by rfl))
        (pss_cons (ps_set (i := 8) nd rfl (Or.inl rfl) (pe_op op_catA (pe_op op_catA (pe_slice sl_tupA (pv 2) po_no (po_some (pv 5))) (pe_tup (pa_cons (pv 7) (pa_cons (pv 6) pa_nil)))) (pe_slice sl_tupA (pv 2) (po_some (pe_op op_add (pv 5) pe_int)) po_no)))
        (pss_cons (ps_set (i := 9) nd rfl (Or.inl rfl) (pe_cmpR op_ne (pe_ownIx T.m_getitem.at_ T.fn_getitem T.m_getitem.fn GG hr5 (pv 1) (pv 7) (fun _ _ => rfl)) (pv 6) (nomark _)))
        (pss_cons (ps_if (pt_cmpR op_ne (pe_cmpR (op_eqD hr.units) (pe_propR (StX.pe_callO (pv 3) T.callo GC hr6 L2.pass0 (pa_cons (pv 1) (pa_cons (pv 8) pa_nil))) T.cl_Outcome T.p_stop GS hr2) (pe_tup pa_nil) (nomark _)) (pv 9) (nomark _)) (pss_one (ps_ret pe_bl)) pss_nil)
        (pss_cons (ps_if (pt_cmpR op_ne (pe_fn GV hrX T.g_shows_verdict (pa_cons (pv 1) (pa_cons (pe_tup (pa_cons pe_str (pa_cons (pv 8) pa_nil))) pa_nil))) (pv 9) (nomark _)) (pss_one (ps_ret pe_bl)) pss_nil)
        (pss_one (ps_if (PW.pt (pw_and (pt_val (pv 9)) (pw_and1 (pt_cmpR op_lt (pv 7) (pv 6) (nomark _))))) (pss_one (ps_ret pe_bl)) pss_nil)))))))))
      (pss_one (ps_ret pe_bl)))), ?_⟩
    have g := ht.good
    have hz : o.length ≤ 40 := by
      have := hperm.length_eq
      unfold keys at this
      rw [List.length_map] at this
      have := g.len
      omega
    intro x dx hx hdx hne
    have s1 : Same H (upd (upd H dx (.own x)) x (.ins (CA K) dx [])) := sameNew (sameUpd hdx) hx
    have hx1 : (upd (upd H dx (.own x)) x (.ins (CA K) dx [])) x = some (.ins (CA K) dx []) := upd_same
    generalize upd (upd H dx (.own x)) x (.ins (CA K) dx []) = H1 at *
    have runs : Runs U o := (runs_iff g fr.1 hperm).mpr fo.pass
    refine ⟨_, rfl, x, rfl, _, rfl, _, rfl, .inr ⟨dx, [], hx1⟩, x, t, p, U, o, rfl, ⟨dx, hx1⟩, ht.same s1, s1 _ _ hp, hperm, fun H2 y l s2 hy hl => ?_⟩
    obtain ⟨ydx, yq, ya, yb, yc, hy1, hy2, hy3⟩ := hy
    have el : l = [] := hl.mpr runs
    subst el
    refine ⟨y, ydx, _, rfl, hy1, y, ydx, yq, ya, yb, yc, rfl, hy1, hy2, Nat.zero_le _, fun e he => ?_⟩
    have s3 : Same H2 (upd H2 e (.tup [])) := sameUpd he
    refine ⟨.tuple ([].map PyData.int), .tuple ([].map PyData.int), .tup (SqT.of (s3 _ _ hy3)) (dp_ints _), .tup (SqT.of upd_same) .nil, sh_tup _, sh_tup _, _, rfl, ?_⟩
    rw [eqv_tuples]
    have s123 := s1.trans (s2.trans s3)
    refine iteF ⟨_, rfl, t, U, rfl, ht.same s123, fun H3 c s4 _ hc => ?_⟩
    have cpos := hc fr
    refine ⟨_, _, rfl, rfl, _, rfl, ?_⟩
    rw [decide_eq_true (show (0 : Int) < (c : Int) by omega)]
    have s14 := s123.trans s4
    refine iteF ⟨_, rfl, p, _, rfl, .inr (SqT.of (s14 _ _ hp)), _, _, rfl, rfl, _, _, rfl, _, rfl, ?_⟩
    rw [List.length_map]
    refine ⟨by split <;> omega, by split <;> omega, ?_⟩
    refine for_range (fun i σ H' => (∃ v4 v5 v6 v7 v8 v9, σ = [some (.ref a), some (.ref t), some (.ref p), some (.ref x), v4, v5, v6, v7, v8, v9]) ∧ SB a H H' ∧ PenAt H' a ∧ TabAt (CT K) H' t U ∧ H' p = some (.tup (o.map V.int)) ∧ H' x = some (.ins (CA K) dx []))
      ⟨⟨none, none, none, none, none, none, rfl⟩, SB.same s14, hpen.same s14, ht.same s14, s14 _ _ hp, (s2.trans (s3.trans s4)) _ _ hx1⟩ ?_ ?_
    · rintro i σ H' hi ⟨⟨v4, v5, v6, v7, v8, v9, rfl⟩, sb, pen, ht', hp', hx'⟩
      have hlen : 2 ≤ o.length := by
        have : (if (o.length : Int) - 1 < 6 then (o.length : Int) - 1 else 6) ≤ (o.length : Int) - 1 := by split <;> omega
        omega
      refine ⟨_, rfl, _, rfl, p, _, rfl, .inr (SqT.of hp'), _, _, rfl, rfl, a, _, rfl, pen, by rw [List.length_map]; omega, by rw [List.length_map]; omega, fun H4 d sA pA d0 d1 => ?_⟩
      rw [List.length_map] at d1
      obtain ⟨j, rfl, hj⟩ := nat_of (n := o.length - 1) d0 (by omega)
      have ha : o[j]? = some (o[j]'(by omega)) := List.getElem?_eq_getElem (by omega)
      have hb : o[j + 1]? = some (o[j + 1]'(by omega)) := List.getElem?_eq_getElem (by omega)
      generalize o[j]'(by omega) = one at ha
      generalize o[j + 1]'(by omega) = other at hb
      have sb4 := sb.trans sA
      have ht4 := ht'.sb pen sA
      have hp4 := sA _ _ (pen.neT hp') hp'
      have hx4 := sA _ _ (pen.neI hx') hx'
      refine ⟨_, rfl, _, rfl, p, _, j, .int one, rfl, rfl, SqT.of hp4, atI_nat (getE_map ha), ?_⟩
      refine ⟨_, rfl, _, rfl, _, _, rfl, rfl, p, _, ((j + 1 : Nat) : Int), .int other, rfl, congrArg V.int (by omega), SqT.of hp4, atI_nat (getE_map hb), ?_⟩
      refine ⟨_, _, rfl, ?_⟩
      refine ⟨_, rfl, _, rfl, _, rfl, ?_⟩
      refine slice_at (i := j) hp4 fun H5 q1 s5 hq1 => ?_
      refine ⟨_, rfl, _, rfl, (by show 2 ≤ sizeLine; decide), fun q2 hq2 => ?_⟩
      have s6 : Same H5 (upd H5 q2 (.tup [.int other, .int one])) := sameUpd hq2
      refine catA_at (s6 _ _ hq1) upd_same (Nat.le_of_lt (small1000 (by rw [List.length_take, List.length_map]; show _ + 2 ≤ 1000; omega))) fun H7 q3 s7 hq3 => ?_
      have s57 := s5.trans (s6.trans s7)
      refine ⟨_, rfl, _, rfl, _, _, rfl, rfl, ((j + 2 : Nat) : Int), congrArg V.int (by omega), ?_⟩
      refine slice_from (i := j + 2) (s57 _ _ hp4) fun H8 q4 s8 hq4 => ?_
      refine catA_at (s8 _ _ hq3) hq4 (Nat.le_of_lt (small1000 (by rw [List.length_append, List.length_take, List.length_drop, List.length_map]; show _ + 2 + _ ≤ 1000; omega))) fun H9 q5 s9 hq5 => ?_
      have s59 := s57.trans (s8.trans s9)
      have esw : (o.map V.int).take j ++ [V.int other, V.int one] ++ (o.map V.int).drop (j + 2) = (swap o j one other).map V.int := by
        unfold swap
        rw [List.map_append, List.map_append, List.map_take, List.map_drop]
        rfl
      rw [esw] at hq5
      have ht9 := ht4.same s59
      have hx9 := s59 _ _ hx4
      have pen9 := pA.same s59
      have sb9 := sb4.trans (SB.same s59)
      have hp9 := s59 _ _ hp4
      obtain ⟨_, tdx, td, R0, h1, h2, p0⟩ := id ht9
      have hother : other ∈ keys U := hperm.mem_iff.mp (List.mem_of_getElem? hb)
      obtain ⟨n, hn⟩ := Option.isSome_iff_exists.mp (look_some.mpr hother)
      refine ⟨_, rfl, _, rfl, t, tdx, _, rfl, h1, t, U, other, n, rfl, ht9, hn, ?_⟩
      refine ⟨_, rfl, rfl, ?_⟩
      have swp := swap_perm ha hb
      have swpk := swp.trans hperm
      have good : (n ≠ one) ↔ Passes U (swap o j one other) := by
        rw [swap_passes fo.nd fo.sub ha hb fo.pass, hn]
        exact ⟨fun h e => h (Option.some.inj e), fun h e => h (congrArg some e)⟩
      have rgood : Runs U (swap o j one other) ↔ n ≠ one := (runs_iff g fr.1 swpk).trans good.symm
      refine ⟨_, rfl, x, rfl, _, rfl, _, rfl, .inr ⟨dx, [], hx9⟩, x, t, q5, U, swap o j one other, rfl, ⟨dx, hx9⟩, ht9, hq5, swpk, fun H10 y l s10 hy hl => ?_⟩
      obtain ⟨ydx, yq, ya, yb, yc, hy1, hy2, hy3⟩ := hy
      refine ⟨y, ydx, _, rfl, hy1, y, ydx, yq, ya, yb, yc, rfl, hy1, hy2, Nat.zero_le _, fun e he => ?_⟩
      have s11 : Same H10 (upd H10 e (.tup [])) := sameUpd he
      refine ⟨.tuple (l.map PyData.int), .tuple ([].map PyData.int), .tup (SqT.of (s11 _ _ hy3)) (dp_ints _), .tup (SqT.of upd_same) .nil, sh_tup _, sh_tup _, _, rfl, rfl, _, rfl, ?_⟩
      rw [eqv_tuples]
      have eb : decide (l = []) = !decide (V.int n = V.int one) := by
        rw [dec_ii, Bool.eq_iff_iff, decide_eq_true_eq, hl, rgood]
        simp
      rw [eb, show decide (V.bl (!decide (V.int n = V.int one)) = V.bl (!decide (V.int n = V.int one))) = true from decide_eq_true rfl]
      have s911 := s10.trans s11
      refine iteF ⟨_, rfl, _, rfl, (by show 2 ≤ sizeLine; decide), fun u hu => ?_⟩
      have s12 : Same (upd H10 e (.tup [])) (upd (upd H10 e (.tup [])) u (.tup [.str "order", .ref q5])) := sameUpd hu
      have s912 := s911.trans s12
      refine ⟨t, u, q5, U, "order", swap o j one other, rfl, ht9.same s912, upd_same, s912 _ _ hq5, .inr (.inr ⟨rfl, swpk⟩), fun H13 b s13 _ hb2 => ?_⟩
      refine ⟨_, rfl, rfl, _, rfl, ?_⟩
      have eb2 : b = !decide (V.int n = V.int one) := by
        rw [dec_ii, Bool.eq_iff_iff, hb2 rfl]
        rw [← good]
        simp [fr]
      rw [eb2, show decide (V.bl (!decide (V.int n = V.int one)) = V.bl (!decide (V.int n = V.int one))) = true from decide_eq_true rfl]
      have s913 := s912.trans s13
      refine iteF ⟨_, rfl, _, rfl, ?_⟩
      rw [dec_ii]
      have fin : ∀ v9, ∃ v4 v5 v6 v7 v8 v9', [some (V.ref a), some (.ref t), some (.ref p), some (.ref x), some (.int (0 + (i : Int))), some (.int (j : Int)), some (.int one), some (.int other), some (.ref q5), some v9] = [some (V.ref a), some (.ref t), some (.ref p), some (.ref x), v4, v5, v6, v7, v8, v9'] := fun v9 => ⟨_, _, _, _, _, _, rfl⟩
      have fin2 : SB a H H13 ∧ PenAt H13 a ∧ TabAt (CT K) H13 t U ∧ H13 p = some (.tup (o.map V.int)) ∧ H13 x = some (.ins (CA K) dx []) := ⟨sb9.trans (SB.same s913), pen9.same s913, ht9.same s913, s913 _ _ hp9, s913 _ _ hx9⟩
      by_cases c : n = one
      · rw [decide_eq_true c]
        exact iteF (iteF ⟨fin _, fin2⟩)
      · rw [decide_eq_false c]
        refine iteT ⟨_, rfl, _, rfl, _, _, rfl, rfl, _, rfl, ?_⟩
        have lt : one < other := first_gap fo ha hb (by rw [hn]; exact fun e => c (Option.some.inj e))
        rw [show decide (other < one) = false from decide_eq_false (by omega)]
        exact iteF ⟨fin _, fin2⟩
    · rintro σ H' ⟨⟨v4, v5, v6, v7, v8, v9, rfl⟩, sb, pen, ht', hp', hx'⟩
      exact k H' sb pen
end
end Rc
set_option Elab.async false
set_option linter.all false
set_option maxRecDepth 100000
set_option maxHeartbeats 4000000
namespace Rc
open PySem PySem.Spec PyProof.Rows L2 He He5 C8
/-- a pair that competes, or a ring: what its new keys are -/
def newsOf (T : Rows) (l : List Int) : List Int := l.map fun k => (look T k).getD 0
/-- what bars a table -/
inductive Bars (T : Rows) : Str → List Int → Prop
  | pair {a b n : Int} : a < b → look T a = some n → look T b = some n → Bars T "compete" [a, b]
  | ring {l : List Int} : l ∈ ringsT T → Bars T "ring" l
theorem Bars.sub {T : Rows} {x : Str} {l : List Int} (h : Bars T x l) : ∀ k ∈ l, k ∈ keys T := by
  cases h with
  | pair h1 h2 h3 => exact PairT.sub ⟨_, _, _, rfl, h1, h2, h3⟩
  | ring h => exact (rings_sub h).2.2.1
theorem Bars.len {T : Rows} {x : Str} {l : List Int} (g : Good T) (h : Bars T x l) : l.length ≤ 40 := by
  cases h with
  | pair h1 h2 h3 => exact (by decide : 2 ≤ 40)
  | ring h => have := (rings_sub h).2.2.2; have := g.len; omega
theorem Bars.stops {T : Rows} {x : Str} {l o : List Int} (h : Bars T x l) (p : o.Perm (keys T)) : ¬ Runs T o := by
  cases h with
  | pair h1 h2 h3 => exact pair_stops p (by omega) h2 h3
  | ring h => exact ring_stops p h
theorem Bars.not_free {T : Rows} {x : Str} {l : List Int} (h : Bars T x l) : ¬ Free T := by
  cases h with
  | pair h1 h2 h3 => exact pair_not_free (by omega) h2 h3
  | ring h => exact ring_not_free h
section
variable {P : Program} {w : World} {K : PySem.W.Frag} {mg : Str → Option Value} {base : Heap}
def spBarred (C : Addr) : Sp := fun vs H Q _ => ∃ (a t kl q r : Addr) (T : Rows) (ks l : List Int) (x : Str), vs = [.ref a, .ref t, .ref kl, .ref q] ∧ PenAt H a ∧ TabAt C H t T ∧ H kl = some (.lst (ks.map V.int)) ∧ kl ≠ a ∧ ks.Perm (keys T) ∧ H q = some (.tup [.str x, .ref r]) ∧ H r = some (.tup (l.map V.int)) ∧ Bars T x l ∧
  ∀ H' : Hp, SB a H H' → PenAt H' a → Q (.bl true) H'
theorem sc_law_barred_right : FnScope ["_law_pen_here", "_law_table", "_law_keys", "_law_told", "_law_word", "_law_rows", "_law_rule", "_law_news", "_law_turn", "_law_order", "_law_row"] ["_law_pen_here", "_law_table", "_law_keys", "_law_told"] (defScope s_law_barred_right) := ⟨rfl, rfl, rfl, by decide +kernel, rfl, by decide +kernel, by decide +kernel⟩
theorem ok_law_barred_right (T : Txt K mg) : Ok P w K mg base 12 (ga K "_law_barred_right") (spBarred (CT K)) := by
  obtain ⟨fd, F⟩ := T.f_law_barred_right
  have GM : Ok P w K mg base 2 (ga K "_law_mixed") spMixed := ok_law_mixed T
  have GC : Ok P w K mg base 6 (ma K (CA K) "__call__") (spRule (CT K) (CO K) (CA K)) := ok_Rule_call T
  have GS : Ok P w K mg base 1 (getter K "Outcome" "stop") (spStop (CO K)) := ok_Outcome_stop T
  have GO : Ok P w K mg base 11 (ga K "passing_orders") (spOrders (CT K)) := ok_passing_orders T
  have GV : Ok P w K mg base 10 (ga K "shows_verdict") (spShows (CT K)) := ok_shows_verdict T
  have GG : Ok P w K mg base 4 (ma K (CT K) "__getitem__") (spGet (CT K)) := ok_Table_getitem T
  refine ok_of F sc_law_barred_right (F.binds fun _ _ _ _ _ _ us hl => match us, hl with | [_, _, _, _], _ => rfl) (fun vs H Q E h => ?_) (fun cdv A outer s H vs Q E hr h => ?_)
  · obtain ⟨a, t, kl, q, r, U, ks, l, x, rfl, _⟩ := h
    rfl
  · obtain ⟨a, t, kl, q, r, U, ks, l, wd, rfl, hpen, ht, hkl, nkl, hks, hq, hr0, bars, k⟩ := h
    have nd := sc_law_barred_right.nd
    have hr2 : Room 2 _ := hr.mono (by decide)
    have hr5 : Room 5 _ := hr.mono (by decide)
    have hr6 : Room 6 _ := hr.mono (by decide)
    have hrX : Room 10 _ := hr.mono (by decide)
    have hu := hr.units0
    refine ⟨_, pss_cons (ps_asg (pv 3) (pg_tup rfl (pgs_cons (pg_name (i := 4) nd rfl (Or.inl rfl)) (pgs_cons (pg_name (i := 5) nd rfl (Or.inl rfl)) pgs_nil))))
      (pss_cons (ps_par (i := 6) (j := 7) (by rfl) nd rfl rfl (by decide) rfl rfl (pa_cons (pe_new0 T.mk_Abort T.g_Abort.1) (pa_cons (pe_lc (own := [("_law_row", 10)]) (g := gName 10) (tt := tYes) (te := tOp (rOwnIx (CT K) (spGet (CT K))) (tVar 1) (tVar 10)) rfl nd (pi_tup (pv 5))
          (blkOk_by (N := ["_law_pen_here", "_law_table", "_law_keys", "_law_told", "_law_word", "_law_rows", "_law_rule", "_law_news", "_law_turn", "_law_order", "_law_row"]) (sc := defScope s_law_barred_right) (by decide +kernel)) (fun _ _ _ _ _ => pg_name (i := 10) nd rfl (Or.inl rfl)) (fun _ _ _ _ _ => pts_nil) ?he) pa_nil)) (by rfl))
      (pss_cons (ps_join (ps_if (PW.pt (pw_and (pt_cmpR op_eq (pv 4) pe_str (nomark _)) (pw_and1 (PW.pt (pw_or (pt_cmpR op_ne (pe_callB call_len_seq (by rfl) T.b_len boot_len (pa_cons (pv 5) pa_nil)) pe_int (nomark _))
          (pw_or (pt_not (pt_cmpR op_lt (pe_ix ix_tup (pv 5) pe_int (fun _ _ => rfl)) (pe_ix ix_tup (pv 5) pe_int (fun _ _ => rfl)) (nomark _))) (pw_or1 (pt_cmpR op_ne (pe_ix ix_list (pv 7) pe_int (fun _ _ => rfl)) (pe_ix ix_list (pv 7) pe_int (fun _ _ => rfl)) (nomark _))))))))) (pss_one (ps_ret pe_bl)) pss_nil))
      (pss_cons (ps_join (ps_if (PW.pt (pw_and (pt_cmpR op_eq (pv 4) pe_str (nomark _)) (pw_and1 (PW.pt (pw_or (pt_cmpR op_lt (pe_callB call_len_seq (by rfl) T.b_len boot_len (pa_cons (pv 5) pa_nil)) pe_int (nomark _))
          (pw_or1 (pt_cmpR op_ne (pe_ix ix_tup (pv 5) pe_int (fun _ _ => rfl)) (pe_callB (cr_minT rfl hr.units) (by rfl) T.b_min (by decide +kernel) (pa_cons (pv 5) pa_nil)) (nomark _)))))))) (pss_one (ps_ret pe_bl)) pss_nil))
      (pss_cons (ps_join (ps_if (PW.pt (pw_and (pt_cmpR op_eq (pv 4) pe_str (nomark _)) (pw_and1 (pt_cmpR (op_neD hr.units) (pe_callTy call_tuple_of (by rfl) T.b_tuple (by decide +kernel) (pa_cons (pv 7) pa_nil)) (pe_op op_catA (pe_slice sl_tupA (pv 5) (po_some pe_int) po_no) (pe_slice sl_tupA (pv 5) po_no (po_some pe_int))) (nomark _))))) (pss_one (ps_ret pe_bl)) pss_nil))
      (pss_cons (ps_if (PW.pt (pw_or (pt_cmpR op_notIn_seq (pv 4) (pe_tup (pa_cons pe_str (pa_cons pe_str pa_nil))) rfl) (pw_or1 (pt_cmpR op_ne (pe_fn GO hr T.g_passing_orders (pa_cons (pv 1) pa_nil)) pe_int (nomark _))))) (pss_one (ps_ret pe_bl)) pss_nil)
      (pss_cons (ps_for PassesOwn.never rfl (pi_range1 (by rfl) T.b_range (pa_cons pe_int pa_nil)) (pg_name (i := 8) nd rfl (Or.inl rfl))
        (pss_cons (ps_set (i := 9) nd rfl (Or.inl rfl) (pe_callTy call_tuple_of (by rfl) T.b_tuple (by decide +kernel) (pa_cons (pe_fn GM hr2 T.g_law_mixed (pa_cons (pv 0) (pa_cons (pv 2) pa_nil))) pa_nil)))
        (pss_one (ps_if (PW.pt (pw_or (pt_cmpR (op_eqD hr.units) (pe_propR (StX.pe_callO (pv 6) T.callo GC hr6 L2.pass0 (pa_cons (pv 1) (pa_cons (pv 9) pa_nil))) T.cl_Outcome T.p_stop GS hr2) (pe_tup pa_nil) (nomark _))
          (pw_or1 (pt_cmpR op_notBl (pe_fn GV hrX T.g_shows_verdict (pa_cons (pv 1) (pa_cons (pe_tup (pa_cons pe_str (pa_cons (pv 9) pa_nil))) pa_nil))) pe_bl (nomark _))))) (pss_one (ps_ret pe_bl)) pss_nil))))
      (pss_one (ps_ret pe_bl)))))))), ?_⟩
    · intro s1 H1 C cl fp
      exact pe_ownIx T.m_getitem.at_ T.fn_getitem T.m_getitem.fn GG hr5 (pv 1) (pv 10) (fun _ _ => rfl)
    have g := ht.good
    have lz := bars.len g
    have sub := bars.sub
    refine ⟨_, rfl, q, _, rfl, SqT.of hq, rfl, _, _, rfl, _, _, rfl, rfl, ?_⟩
    intro x dx hx hdx hne
    have s1 : Same H (upd (upd H dx (.own x)) x (.ins (CA K) dx [])) := sameNew (sameUpd hdx) hx
    have hx1 : (upd (upd H dx (.own x)) x (.ins (CA K) dx [])) x = some (.ins (CA K) dx []) := upd_same
    generalize upd (upd H dx (.own x)) x (.ins (CA K) dx []) = H1 at *
    have ht1 := ht.same s1
    obtain ⟨_, tdx, td, R0, h1, h2, p0⟩ := id ht1
    refine ⟨_, rfl, r, rfl, ⟨_, SqT.of (s1 _ _ hr0)⟩, fun D hD => ?_⟩
    refine lc_it (walk_tup (K := K) (a := r) (xs := l.map V.int)) (fun i H2 => Same H1 H2 ∧ H2 D = some (.lst ((newsOf U (l.take i)).map V.int))) ⟨sameUpd hD, upd_same⟩ (fun i H2 _ z => SqT.of (z.1 _ _ (s1 _ _ hr0))) ?_ ?_
    · rintro i y H2 H3 hi ⟨s2, hy⟩ ⟨rfl, e1⟩
      obtain ⟨key, e2, rfl⟩ := map_at e1
      obtain ⟨n, hn⟩ := Option.isSome_iff_exists.mp (look_some.mpr (sub key (List.mem_of_getElem? e2)))
      refine ⟨rfl, ?_⟩
      refine ⟨_, rfl, _, rfl, t, tdx, _, rfl, s2 _ _ h1, t, U, key, n, rfl, ht1.same s2, hn, ?_⟩
      refine ⟨_, hy, ?_, sameNew s2 hD, ?_⟩
      · unfold newsOf
        rw [List.length_map, List.length_map, List.length_take]
        exact small40 (by omega)
      · rw [upd_same, take_more e2]
        unfold newsOf
        rw [List.map_append, List.map_append]
        show some (HO.lst (_ ++ [V.int n])) = some (HO.lst (_ ++ [V.int ((look U key).getD 0)]))
        rw [hn]
        rfl
    · rintro H2 ⟨s2, hy⟩
      rw [List.length_map, List.take_length] at hy
      have s12 := s1.trans s2
      have hx2 := s2 _ _ hx1
      refine ⟨_, _, rfl, ?_⟩
      let Pv : L2.St → Hp → Prop := fun σ H' => σ = [some (.ref a), some (.ref t), some (.ref kl), some (.ref q), some (.str wd), some (.ref r), some (.ref x), some (.ref D), none, none, none] ∧ Same H2 H'
      have hr2' := s12 _ _ hr0
      -- compete
      refine ⟨Pv, fun D' dn => ?_, ?_⟩
      · refine ⟨_, rfl, rfl, _, rfl, ?_⟩
        cases bars with
        | ring hl => exact iteF (iteF (dn _ _ ⟨rfl, Same.refl _⟩))
        | pair hab ha hb =>
          rename_i va vb n
          have e1 : newsOf U [va, vb] = [n, n] := by
            show [(look U va).getD 0, (look U vb).getD 0] = [n, n]
            rw [ha, hb]
            rfl
          rw [e1] at hy
          refine iteT ⟨_, rfl, r, _, rfl, .inr (SqT.of hr2'), rfl, _, rfl, iteF ?_⟩
          refine ⟨_, rfl, r, _, 0, .int va, rfl, rfl, SqT.of hr2', atI_nat (j := 0) rfl, _, rfl, r, _, 1, .int vb, rfl, rfl, SqT.of hr2', atI_nat (j := 1) rfl, _, _, rfl, rfl, _, rfl, ?_⟩
          rw [decide_eq_true hab]
          refine iteF ⟨_, rfl, D, _, 0, .int n, rfl, rfl, SqL.of hy, atI_nat (j := 0) rfl, _, rfl, D, _, 1, .int n, rfl, rfl, SqL.of hy, atI_nat (j := 1) rfl, rfl, _, rfl, ?_⟩
          rw [show decide (V.int n = V.int n) = true from decide_eq_true rfl]
          exact iteF (dn _ _ ⟨rfl, Same.refl _⟩)
      rintro σ Ha ⟨rfl, sa⟩
      -- ring: the least first
      have hra := sa _ _ hr2'
      refine ⟨Pv, fun D' dn => ?_, ?_⟩
      · refine ⟨_, rfl, rfl, _, rfl, ?_⟩
        cases bars with
        | pair hab ha hb => exact iteF (iteF (dn _ _ ⟨rfl, sa⟩))
        | ring hl =>
          obtain ⟨k0, rest, e, hne0, hle, hmap, _, _⟩ := ring_is hl
          subst e
          have hlen : 2 ≤ ((k0 :: rest).map V.int).length := by
            have := List.length_pos_iff.mpr hne0
            rw [List.length_map, List.length_cons]
            omega
          refine iteT ⟨_, rfl, r, _, rfl, .inr (SqT.of hra), _, _, rfl, rfl, _, rfl, ?_⟩
          rw [show decide (((((k0 :: rest).map V.int).length : Nat) : Int) < 2) = false from decide_eq_false (by omega)]
          refine iteF ⟨_, rfl, r, _, 0, .int k0, rfl, rfl, SqT.of hra, atI_nat (j := 0) rfl, _, rfl, r, k0 :: rest, rfl, SqT.of hra, Nat.succ_pos _, fun m hm hmin => ⟨rfl, _, rfl, ?_⟩⟩
          have em : k0 = m := by
            have a1 := hle m hm
            have a2 := hmin k0 List.mem_cons_self
            omega
          rw [decide_eq_true (by rw [em] : V.int k0 = V.int m)]
          exact iteF (dn _ _ ⟨rfl, sa⟩)
      clear hra sa
      rintro σ Hb ⟨rfl, sb⟩
      -- ring: each wants the next
      have hrb := sb _ _ hr2'
      refine ⟨Pv, fun D' dn => ?_, ?_⟩
      · refine ⟨_, rfl, rfl, _, rfl, ?_⟩
        cases bars with
        | pair hab ha hb => exact iteF (iteF (dn _ _ ⟨rfl, sb⟩))
        | ring hl =>
          obtain ⟨k0, rest, e, hne0, hle, hmap, _, _⟩ := ring_is hl
          have hD := sb _ _ hy
          have en : newsOf U l = rest ++ [k0] := hmap
          refine iteT ⟨_, rfl, D, _, rfl, .inl ⟨SqL.of hD, fun u hu' => ?_⟩⟩
          have s3 : Same Hb (upd Hb u (.tup ((newsOf U l).map V.int))) := sameUpd hu'
          refine ⟨_, rfl, _, rfl, ?_⟩
          refine slice_from (i := 1) (s3 _ _ hrb) fun H4 z1 s4 hz1 => ?_
          refine ⟨_, rfl, _, rfl, ?_⟩
          refine slice_at (i := 1) (s4 _ _ (s3 _ _ hrb)) fun H5 z2 s5 hz2 => ?_
          refine catA_at (s5 _ _ hz1) hz2 (Nat.le_of_lt (small1000 (by rw [List.length_take, List.length_drop, List.length_map]; omega))) fun H6 z3 s6 hz3 => ?_
          have e3 : (l.map V.int).drop 1 ++ (l.map V.int).take 1 = (rest ++ [k0]).map V.int := by
            subst e
            rw [List.map_append]
            rfl
          rw [e3] at hz3
          have s36 := s4.trans (s5.trans s6)
          refine ⟨.tuple ((newsOf U l).map PyData.int), .tuple ((rest ++ [k0]).map PyData.int), .tup (SqT.of (s36 _ _ upd_same)) (dp_ints _), .tup (SqT.of hz3) (dp_ints _), sh_tup _, sh_tup _, _, rfl, ?_⟩
          rw [eqv_tuples, decide_eq_true en]
          exact iteF (dn _ _ ⟨rfl, sb.trans (s3.trans s36)⟩)
      clear hrb sb
      rintro σ Hc ⟨rfl, sc⟩
      -- word, count
      have hw : inV (.str wd) [V.str "compete", V.str "ring"] = true := by
        cases bars with
        | pair _ _ _ => decide
        | ring _ => decide
      refine ⟨_, rfl, (by show 2 ≤ sizeLine; decide), fun u hu' => ?_⟩
      have s3 : Same Hc (upd Hc u (.tup [.str "compete", .str "ring"])) := sameUpd hu'
      refine ⟨u, _, rfl, .inr (SqT.of upd_same), rfl, rfl, _, rfl, ?_⟩
      rw [hw]
      have s13 := s12.trans (sc.trans s3)
      refine iteF ⟨_, rfl, t, U, rfl, ht.same s13, fun H5 c s4 hc _ => ?_⟩
      have c0 := hc bars.not_free
      subst c0
      refine ⟨rfl, _, rfl, ?_⟩
      rw [show decide (V.int ((0 : Nat) : Int) = V.int 0) = true from decide_eq_true rfl]
      have s14 := s13.trans s4
      refine iteF ⟨_, rfl, by decide, by decide, ?_⟩
      refine for_range (fun i σ H' => (∃ v8 v9, σ = [some (.ref a), some (.ref t), some (.ref kl), some (.ref q), some (.str wd), some (.ref r), some (.ref x), some (.ref D), v8, v9, none]) ∧ SB a H H' ∧ PenAt H' a ∧ TabAt (CT K) H' t U ∧ H' kl = some (.lst (ks.map V.int)) ∧ H' x = some (.ins (CA K) dx []))
        ⟨⟨none, none, rfl⟩, SB.same s14, hpen.same s14, ht.same s14, s14 _ _ hkl, (sc.trans (s3.trans s4)) _ _ hx2⟩ ?_ ?_
      · rintro i σ H' hi ⟨⟨v8, v9, rfl⟩, sb, pen, ht', hkl', hx'⟩
        have kz : ks.length ≤ 1000 := by
          have := hks.length_eq
          unfold keys at this
          rw [List.length_map] at this
          have := g.len
          omega
        refine ⟨_, rfl, _, rfl, a, kl, ks, rfl, pen, hkl', kz, fun H6 p ms sA pA hp0 hpm pm => ?_⟩
        refine ⟨p, _, rfl, .inl ⟨SqL.of hpm, fun o ho => ?_⟩⟩
        have s6 : Same H6 (upd H6 o (.tup (ms.map V.int))) := sameUpd ho
        have ht6 := (ht'.sb pen sA).same s6
        have hx6 := s6 _ _ (sA _ _ (pen.neI hx') hx')
        have pen6 := pA.same s6
        have sb6 := (sb.trans sA).trans (SB.same s6)
        have hkl6 := s6 _ _ (sA _ _ nkl hkl')
        have hperm := pm.trans hks
        have bad : ¬ Runs U ms := bars.stops hperm
        refine ⟨_, rfl, x, rfl, _, rfl, _, rfl, .inr ⟨dx, [], hx6⟩, x, t, o, U, ms, rfl, ⟨dx, hx6⟩, ht6, upd_same, hperm, fun H7 y l' s7 hy' hl' => ?_⟩
        obtain ⟨ydx, yq, ya, yb, yc, hy1, hy2, hy3⟩ := hy'
        refine ⟨y, ydx, _, rfl, hy1, y, ydx, yq, ya, yb, yc, rfl, hy1, hy2, Nat.zero_le _, fun e he => ?_⟩
        have s8 : Same H7 (upd H7 e (.tup [])) := sameUpd he
        refine ⟨.tuple (l'.map PyData.int), .tuple ([].map PyData.int), .tup (SqT.of (s8 _ _ hy3)) (dp_ints _), .tup (SqT.of upd_same) .nil, sh_tup _, sh_tup _, _, rfl, ?_⟩
        rw [eqv_tuples, decide_eq_false (fun e => bad (hl'.mp e))]
        have s78 := s7.trans s8
        refine iteF ⟨_, rfl, _, rfl, (by show 2 ≤ sizeLine; decide), fun u2 hu2 => ?_⟩
        have s9 : Same (upd H7 e (.tup [])) (upd (upd H7 e (.tup [])) u2 (.tup [.str "order", .ref o])) := sameUpd hu2
        have s79 := s78.trans s9
        refine ⟨t, u2, o, U, "order", ms, rfl, ht6.same s79, upd_same, s79 _ _ upd_same, .inr (.inr ⟨rfl, hperm⟩), fun H10 b s10 _ hb2 => ?_⟩
        have eb : b = false := by
          cases b with
          | false => rfl
          | true => exact absurd ((hb2 rfl).mp rfl).1 bars.not_free
        subst eb
        have s710 := s79.trans s10
        refine ⟨_, _, rfl, rfl, _, rfl, iteF ?_⟩
        exact ⟨⟨_, _, rfl⟩, sb6.trans (SB.same s710), pen6.same s710, ht6.same s710, s710 _ _ hkl6, s710 _ _ hx6⟩
      · rintro σ H' ⟨⟨v8, v9, rfl⟩, sb, pen, ht', hkl', hx'⟩
        exact k H' sb pen
end
end Rc
set_option Elab.async false
set_option linter.all false
set_option maxRecDepth 100000
set_option maxHeartbeats 4000000
namespace Rc
open PySem PySem.Spec PyProof.Rows L2 He He5 C8
theorem same_sb {a : Addr} {H H1 H2 : Hp} (s : Same H H1) (h : H a = none) (t : SB a H1 H2) : Same H H2 := fun b u e => t b u (ne_of_none e h) (s b u e)
theorem rows_sub {R S : Rows} (ok : RowsOk R) (h : S.Sublist R) : RowsOk S :=
  ⟨ok.nd.sublist (h.map _), Nat.le_trans h.length_le ok.len, fun r hr => ok.key r (h.subset hr), fun r hr => ok.new r (h.subset hr)⟩
theorem sql_same {K : PySem.W.Frag} {H H' : Hp} {a : Addr} {xs : List V} (h : SqL K H a xs) (s : Same H H') : SqL K H' a xs :=
  h.imp (fun r => r.imp (s _ _) fun ⟨o, e⟩ => ⟨o, s _ _ e⟩) id
theorem cut_one (xs : List V) : (cutV xs (some 1) (some 2)).length ≤ 1 := by
  unfold cutV
  rw [List.length_take, show (some (1 : Int)) = some ((1 : Nat) : Int) from rfl, show (some (2 : Int)) = some ((2 : Nat) : Int) from rfl, HT.sIx_nat, HT.sIx_nat]
  omega
theorem rows_nil : RowsOk [] := ⟨List.nodup_nil, Nat.zero_le _, (fun _ h => nomatch h), (fun _ h => nomatch h)⟩
theorem Told.bars {T : Rows} {x : Str} {l : List Int} (h : Told T x l) : (x = "order" ∧ Free T ∧ First T l ∧ l.Perm (keys T)) ∨ (x ≠ "order" ∧ Bars T x l) := by
  cases h with
  | pair h =>
    obtain ⟨a, b, n, rfl, h1, h2, h3⟩ := h
    exact .inr ⟨by decide, .pair h1 h2 h3⟩
  | ring h => exact .inr ⟨by decide, .ring h⟩
  | order h1 h2 h3 => exact .inl ⟨rfl, h1, h2, h3⟩
theorem Told.cases {T : Rows} {x : Str} {l : List Int} (h : Told T x l) : (x = "compete" ∧ PairT T l) ∨ (x = "ring" ∧ l ∈ ringsT T) ∨ (x = "order" ∧ l.Perm (keys T)) := by
  cases h with
  | pair h => exact .inl ⟨rfl, h⟩
  | ring h => exact .inr (.inl ⟨rfl, h⟩)
  | order h1 h2 h3 => exact .inr (.inr ⟨rfl, h3⟩)
section
variable {P : Program} {w : World} {K : PySem.W.Frag} {mg : Str → Option Value} {base : Heap}
def spLaw (K : PySem.W.Frag) : Sp := fun vs H Q _ => ∃ (l : Addr) (ns : List Int), vs = [.ref l] ∧ SqL K H l (ns.map V.int) ∧ ∀ H', Q (.bl true) H'
theorem sc_law : FnScope ["_law_script", "_law_cell", "_law_pen_here", "_law_pairs_here", "_law_news", "_law_table", "_law_keys", "_law_told", "_law_key", "_law_new", "_law_at"] ["_law_script"] (defScope s_law) := ⟨rfl, rfl, rfl, by decide +kernel, rfl, by decide +kernel, by decide +kernel⟩
theorem ok_law (T : Txt K mg) {fd : FuncData} (F : L2.Fun K "law" "law" s_law (d_law.at_ K) fd) : FnOk P w K mg base L2.CX0 13 (ga K "law") fd ["_law_script"] (spLaw K) := by
  have GI : Ok P w K mg base 1 (ga K "_law_cell_at") (spCell K) := ok_law_cell_at T
  have GP : Ok P w K mg base 1 (ga K "_law_pen") spPen := ok_law_pen T
  have GL : Ok P w K mg base 3 (ga K "_law_pairs") spLPairs := ok_law_pairs T
  have GD : Ok P w K mg base 1 (ga K "_law_draw") spDraw := ok_law_draw T
  have GT : Ok P w K mg base 5 (ma K (CT K) "__init__") (spTInit (CT K)) := ok_Table_init T
  have GA : Ok P w K mg base 7 (ma K (CT K) "__add__") (spAdd (CT K)) := ok_Table_add T
  have GV : Ok P w K mg base 9 (ga K "verdict") (spVerdict (CT K)) := ok_verdict T
  have GS : Ok P w K mg base 10 (ga K "shows_verdict") (spShows (CT K)) := ok_shows_verdict T
  have GO : Ok P w K mg base 12 (ga K "_law_order_right") (spORight (CT K)) := ok_law_order_right T
  have GB : Ok P w K mg base 12 (ga K "_law_barred_right") (spBarred (CT K)) := ok_law_barred_right T
  obtain ⟨fo, hfo⟩ := T.tup_add
  obtain ⟨ro, hro⟩ := T.tup_radd
  refine F.ok sc_law (fun vs H Q E h => ?_) (fun cdv A outer s H vs Q E hr h => ?_)
  · obtain ⟨l, ns, rfl, _⟩ := h
    rfl
  · obtain ⟨l, ns, rfl, hl, k⟩ := h
    have nd := sc_law.nd
    have hr1 : Room 1 _ := hr.mono (by decide)
    have hr3 : Room 3 _ := hr.mono (by decide)
    have hr6 : Room 6 _ := hr.mono (by decide)
    have hr7 : Room 7 _ := hr.mono (by decide)
    have hr9 : Room 9 _ := hr.mono (by decide)
    have hrX : Room 10 _ := hr.mono (by decide)
    refine ⟨_, pss_cons (ps_for PassesOwn.never rfl (pi_list (pe_op op_cat (pe_lst (pa_cons (pe_fn GI hr1 T.g_law_cell_at (pa_cons (pv 0) (pa_cons pe_int pa_nil))) pa_nil)) (pe_slice sl_list (pv 0) (po_some pe_int) (po_some pe_int)))) (pg_name (i := 1) nd rfl (Or.inl rfl))
        (pss_cons (ps_set (i := 2) nd rfl (Or.inl rfl) (pe_fn GP hr1 T.g_law_pen (pa_cons (pv 1) pa_nil)))
        (pss_cons (ps_set (i := 3) nd rfl (Or.inl rfl) (pe_fn GL hr3 T.g_law_pairs (pa_cons (pv 2) (pa_cons pe_int pa_nil))))
        (pss_cons (ps_join (ps_if (pt_cmpR op_eq (pe_fn GD hr1 T.g_law_draw (pa_cons (pv 2) (pa_cons pe_int pa_nil))) pe_int (nomark _))
          (pss_cons (ps_set (i := 4) nd rfl (Or.inr rfl) (pe_lc (own := [("_law_key", 8), ("_law_new", 9)]) (g := gTup K 2 (gCons (gName 8) (gCons (gName 9) gNil))) (tt := tYes) (te := tVar 9) rfl nd (pi_list (pv 3))
              (blkOk_by (N := ["_law_script", "_law_cell", "_law_pen_here", "_law_pairs_here", "_law_news", "_law_table", "_law_keys", "_law_told", "_law_key", "_law_new", "_law_at"]) (sc := defScope s_law) (by decide +kernel))
              (fun _ _ _ _ _ => pg_tup rfl (pgs_cons (pg_name (i := 8) nd rfl (Or.inl rfl)) (pgs_cons (pg_name (i := 9) nd rfl (Or.inl rfl)) pgs_nil))) (fun _ _ _ _ _ => pts_nil) (fun _ _ _ _ _ => pv 9)))
          (pss_one (ps_setLc (i := 3) (own := [("_law_key", 8), ("_law_new", 9), ("_law_at", 10)]) (g := gTup K 2 (gCons (gName 10) (gCons (gTup K 2 (gCons (gName 8) (gCons (gName 9) gNil))) gNil)))
              (tt := tTest (tOp (rIn K true) (tVar 9) (tSl (rSlL K) (tVar 4) (fun _ H Q => Q none H) (tPart (tVar 10))))) (te := tTup (tCons (tVar 8) (tCons (tVar 9) tNil))) rfl nd rfl rfl (by rfl) (pi_enum (by rfl) T.b_enumerate (pa_cons (pv 3) pa_nil))
              (blkOk_by (N := ["_law_script", "_law_cell", "_law_pen_here", "_law_pairs_here", "_law_news", "_law_table", "_law_keys", "_law_told", "_law_key", "_law_new", "_law_at"]) (sc := defScope s_law) (by decide +kernel))
              (fun _ _ _ _ _ => pg_tup rfl (pgs_cons (pg_name (i := 10) nd rfl (Or.inl rfl)) (pgs_cons (pg_tup rfl (pgs_cons (pg_name (i := 8) nd rfl (Or.inl rfl)) (pgs_cons (pg_name (i := 9) nd rfl (Or.inl rfl)) pgs_nil))) pgs_nil))) ?ht ?he))) pss_nil))
        (pss_cons (ps_par (i := 5) (j := 6) (by rfl) nd rfl rfl (by decide) rfl rfl (pa_cons (pe_op (op_ownAdd T.first T.m_add.at_ T.m_add.fn T.noradd hfo hro T.tup_sub GA hr7) (pe_makeR0 T.mk_Table GT hr6 T.g_Table.1) (pe_callTy call_tuple_of (by rfl) T.b_tuple (by decide +kernel) (pa_cons (pv 3) pa_nil)))
            (pa_cons (pe_lc (own := [("_law_key", 8), ("_law_new", 9)]) (g := gTup K 2 (gCons (gName 8) (gCons (gName 9) gNil))) (tt := tYes) (te := tVar 8) rfl nd (pi_list (pv 3))
              (blkOk_by (N := ["_law_script", "_law_cell", "_law_pen_here", "_law_pairs_here", "_law_news", "_law_table", "_law_keys", "_law_told", "_law_key", "_law_new", "_law_at"]) (sc := defScope s_law) (by decide +kernel))
              (fun _ _ _ _ _ => pg_tup rfl (pgs_cons (pg_name (i := 8) nd rfl (Or.inl rfl)) (pgs_cons (pg_name (i := 9) nd rfl (Or.inl rfl)) pgs_nil))) (fun _ _ _ _ _ => pts_nil) (fun _ _ _ _ _ => pv 8)) pa_nil)) (by rfl))
        (pss_cons (ps_set (i := 7) nd rfl (Or.inl rfl) (pe_fn GV hr9 T.g_verdict (pa_cons (pv 5) pa_nil)))
        (pss_cons (ps_if (pt_cmpR op_notBl (pe_fn GS hrX T.g_shows_verdict (pa_cons (pv 5) (pa_cons (pv 7) pa_nil))) pe_bl (nomark _)) (pss_one (ps_ret pe_bl)) pss_nil)
        (pss_one (ps_if (pt_cmpR op_eq (pe_ix ix_tup (pv 7) pe_int (fun _ _ => rfl)) pe_str (nomark _))
          (pss_one (ps_if (PW.pt (pw_or (pt_cmpR (op_neD hr.units) (pe_callB cr_sortTI (by rfl) T.b_sorted (by decide +kernel) (pa_cons (pe_ix ix_tup (pv 7) pe_int (fun _ _ => rfl)) pa_nil)) (pe_callB cr_sortedI (by rfl) T.b_sorted (by decide +kernel) (pa_cons (pv 6) pa_nil)) (nomark _))
            (pw_or1 (pt_not (pt_val (pe_fn GO hr T.g_law_order_right (pa_cons (pv 2) (pa_cons (pv 5) (pa_cons (pe_ix ix_tup (pv 7) pe_int (fun _ _ => rfl)) pa_nil))))))))) (pss_one (ps_ret pe_bl)) pss_nil))
          (pss_one (ps_if (pt_not (pt_val (pe_fn GB hr T.g_law_barred_right (pa_cons (pv 2) (pa_cons (pv 5) (pa_cons (pv 6) (pa_cons (pv 7) pa_nil))))))) (pss_one (ps_ret pe_bl)) pss_nil)))))))))))
      (pss_one (ps_ret pe_bl)), ?_⟩
    · intro s1 H1 C cl fp
      exact pts_one (pt_cmpR op_notIn_seq (pv 9) (pe_slice sl_list (pv 4) po_no (po_some (pv 10))) rfl)
    · intro s1 H1 C cl fp
      exact pe_tup (pa_cons (pv 8) (pa_cons (pv 9) pa_nil))
    refine ⟨_, rfl, l, ns, rfl, hl, fun c0 => ?_⟩
    refine ⟨(by show 1 ≤ sizeLine; decide), fun l1 hl1 => ?_⟩
    have s1 : Same H (upd H l1 (.lst [.int c0])) := sameUpd hl1
    refine ⟨_, rfl, _, rfl, _, rfl, l, _, rfl, sql_same hl s1, fun l2 hl2 => ?_⟩
    have n12 : l1 ≠ l2 := ne_of_none upd_same hl2
    have cl := cut_one (ns.map V.int)
    refine ⟨l1, l2, _, _, rfl, rfl, by rw [upd_ne n12]; exact upd_same, upd_same, Nat.le_of_lt (small1000 (by show 1 + _ ≤ 1000; omega)), fun q hq => ?_⟩
    generalize hxs : [V.int c0] ++ cutV (ns.map V.int) (some 1) (some 2) = xs
    have hint : ∀ x ∈ xs, ∃ i, x = V.int i := fun x hx => by
      rw [← hxs] at hx
      rcases List.mem_append.mp hx with m | m
      · exact ⟨c0, List.mem_singleton.mp m⟩
      · obtain ⟨i, _, e⟩ := List.mem_map.mp (List.mem_of_mem_drop (List.mem_of_mem_take m))
        exact ⟨i, e.symm⟩
    generalize hHq : upd (upd (upd H l1 (.lst [.int c0])) l2 (.lst (cutV (ns.map V.int) (some 1) (some 2)))) q (.lst xs) = Hq
    have hq1 : Hq q = some (.lst xs) := by rw [← hHq]; exact upd_same
    refine ⟨q, rfl, ⟨_, SqL.of hq1⟩, for_list (K := K) (a := q) (xs := xs) (fun i σ H' => (∃ v1 v2 v3 v4 v5 v6 v7, σ = [some (.ref l), v1, v2, v3, v4, v5, v6, v7, none, none, none]) ∧ Same Hq H') ⟨⟨none, none, none, none, none, none, none, rfl⟩, Same.refl _⟩ (fun i σ H' _ z => SqL.of (z.2 _ _ hq1)) ?_ ?_⟩
    · rintro i x σ Hi hi ⟨⟨v1, v2, v3, v4, v5, v6, v7, rfl⟩, sq⟩
      obtain ⟨c, rfl⟩ := hint x (List.mem_of_getElem? hi)
      refine ⟨_, rfl, c, rfl, fun a o ha pen1 => ?_⟩
      refine ⟨_, rfl, a, rfl, pen1, fun H2 pl ys R sb2 pen2 hpl0 hpl hps ok => ?_⟩
      have npl : pl ≠ a := pen1.ne hpl0
      have same2 : Same Hi H2 := same_sb (sameUpd ha) ha sb2
      clear sb2 hpl0 pen1
      -- one row for each new key
      refine ⟨fun σ H' => ∃ pl ys R v4, σ = [some (.ref l), some (.int c), some (.ref a), some (.ref pl), v4, v5, v6, v7, none, none, none] ∧ Same Hi H' ∧ PenAt H' a ∧ H' pl = some (.lst ys) ∧ Pairs H' ys R ∧ RowsOk R, fun D' dn => ?_, ?_⟩
      · refine ⟨_, rfl, a, _, rfl, pen2, by decide, by decide, fun H3 d sb3 pen3 _ _ => ⟨rfl, _, rfl, ?_⟩⟩
        have same3 := same_sb same2 ha sb3
        have hpl3 := sb3 _ _ npl hpl
        have hps3 : Pairs H3 ys R := hps.at fun b u e => sb3 b _ (pen2.neT e) e
        generalize decide (V.int d = V.int 0) = cc
        cases cc with
        | false => exact iteF (dn _ _ ⟨pl, ys, R, v4, rfl, same3, pen3, hpl3, hps3, ok⟩)
        | true =>
          refine iteT ⟨_, rfl, pl, rfl, ⟨_, SqL.of hpl3⟩, fun D hD => ?_⟩
          refine lc_it (walk_list (K := K) (a := pl) (xs := ys)) (fun j H' => Same H3 H' ∧ H' D = some (.lst ((news (R.take j)).map V.int))) ⟨sameUpd hD, upd_same⟩ (fun j H' _ z => SqL.of (z.1 _ _ hpl3)) ?_ ?_
          · rintro j y H4 H5 hj ⟨s4, hy⟩ ⟨rfl, e1⟩
            obtain ⟨p, r, e2, rfl, e3⟩ := hps3.2 j y e1
            refine ⟨p, _, rfl, SqT.of (s4 _ _ e3), rfl, _, _, rfl, _, _, rfl, rfl, rfl, ?_⟩
            refine ⟨_, rfl, _, hy, ?_, sameNew s4 hD, ?_⟩
            · unfold news
              rw [List.length_map, List.length_map, List.length_take]
              exact small40 (by have := ok.len; omega)
            · rw [upd_same, take_more e2]
              unfold news
              rw [List.map_append, List.map_append]
              rfl
          · rintro H4 ⟨s4, hy⟩
            rw [hps3.1, List.take_length] at hy
            have hpl4 := s4 _ _ hpl3
            have hps4 := hps3.same s4
            refine ⟨_, rfl, pl, ys, rfl, SqL.of hpl4, fun D2 hD2 => ?_⟩
            refine lc_it (walk_enum (K := K) (a := pl) (xs := ys)) (fun j H' => Same H4 H' ∧ ∃ zs S, H' D2 = some (.lst zs) ∧ Pairs H' zs S ∧ S.Sublist (R.take j)) ⟨sameUpd hD2, [], [], upd_same, pairs_nil, List.Sublist.refl _⟩ (fun j H' _ z => SqL.of (z.1 _ _ hpl4)) ?_ ?_
            · rintro j y H5 H6 hj ⟨s5, zs, S, hzs, hS, hsub⟩ ⟨z, y1, y2, rfl, hz, rfl, ey, ez⟩
              obtain rfl : V.int (j : Nat) = y1 := Option.some.inj ey
              obtain ⟨p, r, e2, rfl, e3⟩ := hps4.2 j y2 ez
              have s6 : Same H5 (upd H5 z (.tup [.int (j : Nat), .ref p])) := sameUpd hz
              have s56 := s5.trans s6
              refine ⟨z, _, rfl, SqT.of upd_same, rfl, _, _, rfl, _, _, rfl, p, _, rfl, SqT.of (s56 _ _ e3), rfl, _, _, rfl, _, _, rfl, rfl, rfl, rfl, ?_⟩
              refine ⟨_, rfl, _, rfl, _, rfl, _, rfl, ?_⟩
              refine slL_to (i := j) (s56 _ _ hy) fun u hu => ?_
              have s7 : Same (upd H5 z (.tup [.int (j : Nat), .ref p])) (upd (upd H5 z (.tup [.int (j : Nat), .ref p])) u (.lst (((news R).take j).map V.int))) := sameUpd hu
              refine ⟨u, _, rfl, .inl (SqL.of upd_same), rfl, flat_ints _, _, rfl, ?_⟩
              generalize inV (.int r.2) (((news R).take j).map V.int) = cc
              have hlen : S.length ≤ j := by
                have := hsub.length_le
                rw [List.length_take] at this
                omega
              have hj40 : j < 40 := by have := getE_lt e2; have := ok.len; omega
              cases cc with
              | true =>
                refine iteF ⟨s56.trans s7, zs, S, (s6.trans s7) _ _ hzs, hS.same (s6.trans s7), ?_⟩
                rw [take_more e2]
                exact hsub.trans (List.sublist_append_left _ _)
              | false =>
                refine iteT ⟨_, rfl, _, rfl, (by show 2 ≤ sizeLine; decide), fun v hv => ?_⟩
                have s8 : Same (upd (upd H5 z (.tup [.int (j : Nat), .ref p])) u (.lst (((news R).take j).map V.int))) (upd (upd (upd H5 z (.tup [.int (j : Nat), .ref p])) u (.lst (((news R).take j).map V.int))) v (.tup [.int r.1, .int r.2])) := sameUpd hv
                have s58 := s6.trans (s7.trans s8)
                have hzs8 := s58 _ _ hzs
                refine ⟨zs, hzs8, small40 (by rw [hS.1]; omega), sameNew (s5.trans s58) hD2, _, S ++ [r], upd_same, ?_, ?_⟩
                · have ps2 : Pairs _ (zs ++ [.ref v]) (S ++ [r]) := pairs_snoc (hS.same s58) upd_same
                  refine ps2.at fun b w hb => ?_
                  rw [upd_ne]
                  · exact hb
                  · intro e
                    rw [e, hzs8] at hb
                    cases hb
                · rw [take_more e2]
                  exact hsub.append (List.Sublist.refl _)
            · rintro H5 ⟨s5, zs, S, hzs, hS, hsub⟩
              rw [hps4.1, List.take_length] at hsub
              exact dn _ _ ⟨D2, zs, S, _, rfl, same3.trans (s4.trans s5), pen3.same (s4.trans s5), hzs, hS, rows_sub ok hsub⟩
      clear hps hpl npl same2 pen2 ok
      rintro σ H4 ⟨pl, ys, R, v4, rfl, sH, pen, hpl, hps, ok⟩
      -- the table
      intro x dx hx hdx hne
      refine ⟨x, dx, [], [], rfl, Nat.zero_le _, upd_same, pairs_nil, rows_nil, fun H5 d kp hx5 hd5 => ⟨rfl, ?_⟩⟩
      have s5 : Same H4 H5 := fun b u e => kp b u (fun z => by rw [z, hx] at e; cases e) (sameNew (sameUpd hdx) hx b u e)
      have hpl5 := s5 _ _ hpl
      refine ⟨_, rfl, pl, _, rfl, .inl ⟨SqL.of hpl5, fun tp htp => ?_⟩⟩
      have s6 : Same H5 (upd H5 tp (.tup ys)) := sameUpd htp
      have s56 := s5.trans s6
      have tab0 : TabAt (CT K) H5 x [] := ⟨good_nil, dx, d, [], hx5, hd5, List.Perm.refl _⟩
      refine ⟨x, dx, _, tp, ys, rfl, rfl, s6 _ _ hx5, upd_same, x, tp, ys, R, rfl, tab0.same s6, upd_same, hps.same s56, ok, fun H7 t U s7 pU htab => ?_⟩
      have s57 := s56.trans s7
      have hpl7 := s57 _ _ hpl
      have hps7 := hps.same s57
      refine ⟨_, rfl, pl, rfl, ⟨_, SqL.of hpl7⟩, fun D hD => ?_⟩
      refine lc_it (walk_list (K := K) (a := pl) (xs := ys)) (fun j H' => Same H7 H' ∧ H' D = some (.lst ((keys (R.take j)).map V.int))) ⟨sameUpd hD, upd_same⟩ (fun j H' _ z => SqL.of (z.1 _ _ hpl7)) ?_ ?_
      · rintro j y H8 H9 hj ⟨s8, hy⟩ ⟨rfl, e1⟩
        obtain ⟨p, r, e2, rfl, e3⟩ := hps7.2 j y e1
        refine ⟨p, _, rfl, SqT.of (s8 _ _ e3), rfl, _, _, rfl, _, _, rfl, rfl, rfl, ?_⟩
        refine ⟨_, rfl, _, hy, ?_, sameNew s8 hD, ?_⟩
        · unfold keys
          rw [List.length_map, List.length_map, List.length_take]
          exact small40 (by have := ok.len; omega)
        · rw [upd_same, take_more e2]
          unfold keys
          rw [List.map_append, List.map_append]
          rfl
      · rintro H8 ⟨s8, hkl⟩
        rw [hps7.1, List.take_length] at hkl
        have s58 := s57.trans s8
        have pen8 := pen.same s58
        have nkl : D ≠ a := (pen.same s57).ne hD
        have tab8 := htab.same s8
        have kU : (keys R).Perm (keys U) := pU.map _
        refine ⟨_, _, rfl, ?_⟩
        refine ⟨_, rfl, t, U, rfl, tab8, fun H9 p q' wd lt s9 hp hq' told => ?_⟩
        refine ⟨_, rfl, _, rfl, t, p, q', U, wd, lt, rfl, tab8.same s9, hp, hq', told.cases, fun H10 b s10 b1 b2 => ?_⟩
        have eb : b = true := by
          rcases told.bars with ⟨e, f1, f2, f3⟩ | ⟨e, _⟩
          · exact (b2 e).mpr ⟨f1, f2.pass⟩
          · exact b1 e
        subst eb
        have s910 := s9.trans s10
        have tab10 := tab8.same s910
        have pen10 := pen8.same s910
        have hp10 := s10 _ _ hp
        have hq10 := s10 _ _ hq'
        have hkl10 := s910 _ _ hkl
        have sH10 := sH.trans (s58.trans s910)
        refine ⟨_, _, rfl, rfl, _, rfl, iteF ?_⟩
        refine ⟨_, rfl, p, _, 0, .str wd, rfl, rfl, SqT.of hp10, atI_nat (j := 0) rfl, rfl, _, rfl, ?_⟩
        rcases told.bars with ⟨rfl, f1, f2, f3⟩ | ⟨nw, bars⟩
        · refine iteT ⟨_, rfl, p, _, 1, .ref q', rfl, rfl, SqT.of hp10, atI_nat (j := 1) rfl, q', lt, rfl, SqT.of hq10, fun ms l3 hm1 hm2 hl3 => ?_⟩
          have s11 : Same H10 (upd H10 l3 (.lst (ms.map V.int))) := sameUpd hl3
          refine ⟨_, rfl, D, keys R, rfl, SqL.of (s11 _ _ hkl10), fun ms2 l4 hn1 hn2 hl4 => ?_⟩
          have s12 := sameUpd (o := .lst (ms2.map V.int)) hl4
          have asc := keys_asc tab8.good
          have e1 := ints_one hm2 asc (hm1.trans f3)
          have e2 := ints_one hn2 asc (hn1.trans kU)
          refine ⟨.list (ms.map PyData.int), .list (ms2.map PyData.int), .lst (SqL.of (s12 _ _ upd_same)) (dp_ints _), .lst (SqL.of upd_same) (dp_ints _), sh_list _, sh_list _, _, rfl, ?_⟩
          rw [eqv_lists, decide_eq_true (e1.trans e2.symm)]
          have s112 := s11.trans s12
          have hp12 := s112 _ _ hp10
          refine iteF ⟨_, rfl, _, rfl, _, rfl, p, _, 1, .ref q', rfl, rfl, SqT.of hp12, atI_nat (j := 1) rfl, a, t, q', U, lt, rfl, pen10.same s112, tab10.same s112, s112 _ _ hq10, f1, f2, f3, fun H13 sb13 _ => ⟨true, rfl, iteF ?_⟩⟩
          exact ⟨⟨_, _, _, _, _, _, _, rfl⟩, sq.trans (same_sb (sH10.trans s112) ha sb13)⟩
        · have : decide (V.str wd = V.str "order") = false := decide_eq_false fun e => nw (V.str.inj e)
          rw [this]
          refine iteF ⟨_, rfl, _, rfl, _, rfl, _, rfl, a, t, D, p, q', U, keys R, lt, wd, rfl, pen10, tab10, hkl10, nkl, kU, hp10, hq10, bars, fun H13 sb13 _ => ⟨true, rfl, iteF ?_⟩⟩
          exact ⟨⟨_, _, _, _, _, _, _, rfl⟩, sq.trans (same_sb sH10 ha sb13)⟩
    · rintro σ H' ⟨⟨v1, v2, v3, v4, v5, v6, v7, rfl⟩, _⟩
      exact k H'
end
end Rc
set_option Elab.async false
set_option linter.all false
set_option maxRecDepth 100000
set_option maxHeartbeats 4000000
namespace Rc
open PySem PySem.Spec PyProof.Rows L2 He He5 C8
theorem facts {P : Program} {w : World} {K : PySem.W.Frag} {h : Heap} {mg : Str → Option Value} {f : Addr} (X : K.In h) (G : h.Ns mainGlobals mg) (hfa : mg ("law" : Str) = some (.ref f)) (c : obsB K = valB) :
    ∃ fd : FuncData, (∀ (s : Shared) (v : Value), BindsTo s fd ⟨[v], []⟩ [("_law_script", v)]) ∧ ∀ base : Heap, K.In base → base.Ns mainGlobals mg → FnOk P w K mg base L2.CX0 13 f fd ["_law_script"] (spLaw K) := by
  have T : Txt K mg := ⟨⟨h, X, G⟩, c⟩
  obtain ⟨fd, h0⟩ := T.def_ 36 (d := d_law) rfl
  have h1 : FunD K "law" "law" (defArgs s_law) (defBody s_law) (defScope s_law) [] [] (d_law.at_ K) fd := h0
  have F : L2.Fun K "law" "law" s_law (d_law.at_ K) fd := fun_of h1
  have e := hfa.symm.trans T.g_law.1
  cases e
  have b := FunD.bindsA (ps := ["_law_script"]) h1 fun _ _ _ _ _ _ us hl => match us, hl with | [_], _ => rfl
  exact ⟨fd, fun s v => b s [v] rfl, fun base _ _ => ok_law T F⟩
end Rc
open PySem PySem.W PySem.Calls PyProof.Rows
theorem PySem.Challenge.cw_rowclash_k14_whole_orders_and_verdicts_holds : PySem.Challenge.rw_rowclash_k14_whole_orders_and_verdicts.Holds := by
  w_on; o_law
  refine HandSHeadRun.head_any (r := OpenLaw.row PySem.Challenge.rw_rowclash_k14_whole_orders_and_verdicts) (q := view (OpenLaw.row PySem.Challenge.rw_rowclash_k14_whole_orders_and_verdicts).prog [64]) (H := Rc.hk) (ob := Rc.ob) (M := 20000) (loose := Rc.loose) (d := HandSHeadRun.topDef (OpenLaw.row PySem.Challenge.rw_rowclash_k14_whole_orders_and_verdicts).prog 64) (kwd := []) Rc.ob_eq
    (by kernel_rfl) (fun s => by kernel_rfl) Rc.run (by kernel_rfl) (by kernel_rfl) (by kernel_rfl) (by rfl) (by first | assumption | decide +kernel) (by decide +kernel) ⟨rfl, rfl, rfl, rfl, rfl, by decide +kernel⟩ ?hw ?hc
  case hw => w_witness2
  case hc =>
    refine L2.walk_ofE (l := PySem.Challenge.rw_rowclash_k14_whole_orders_and_verdicts) (n := 63) (k := 13) (x := "_law_script") (CX := L2.CX0) rfl (by decide) (by kernel_rfl) ⟨rfl, by decide, by decide⟩ ?F (fun _ _ _ _ z => z)
    intro w mg fa h Y G hmg0
    obtain ⟨K, KX, c⟩ := Y
    have hmg : mg ("law" : PySem.Str) = some (.ref fa) := by
      have e : (HandSHeadRun.topDef (OpenLaw.row PySem.Challenge.rw_rowclash_k14_whole_orders_and_verdicts).prog 64).name = ("law" : PySem.Str) := by kernel_rfl
      rw [← e]
      exact hmg0
    obtain ⟨fd, hb, hF⟩ := Rc.facts (P := (PySem.Challenge.rw_rowclash_k14_whole_orders_and_verdicts).prog) (w := w) KX G hmg c
    exact ⟨K, fd, Rc.spLaw K, KX, hb, fun H a ns hl _ hS => ⟨a, ns, rfl, hS, fun _ => rfl⟩, hF⟩
