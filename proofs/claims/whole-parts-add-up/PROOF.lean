import PyProof.Rows.All
import Wide.All
import OpenK.AllK
import Wide.FinOn
import KE.KStateDown
import HandS.ForMost
import HandS.More
import HandS.Exc
import HandS.WordsExc
import HandS.Defaults
import HandS.Head0
import HandS.Head1
import HandS.Head2
import HandS.HeadEnd
import HandS.HeadHook1
import HandS.HeadHook2
import HandS.Codes
import PySem.Challenge.RW_nestcall_k53_whole_parts_add_up
import HandS.Deep
import HandS.TupAny
import HandS.Conv
import HandS.Wide
import KE.KDictKeyed
import KE.KDictLaw
import KE.KDictDisplayH
import KE.KDictPairs
import KE.GoesEnum
import HandS.TupLen
set_option Elab.async false
set_option linter.all false
set_option maxRecDepth 100000
-- A0
namespace Nc
open PySem PySem.Spec PyProof.Rows L2
def top (i : Nat) : Stmt := PySem.Challenge.pw_nestcall_k53_whole_parts_add_up.main.body.getD i (.Pass ⟨0, 0, 0, 0⟩)
abbrev s_combine : Stmt := top 5
def d_combine : He.DefD := ⟨("combine", none), "combine", "combine", defArgs s_combine, defBody s_combine, defScope s_combine, [], []⟩
abbrev s_House_init : Stmt := inClass (top 7) 0
def d_House_init : He.DefD := ⟨("House", some "__init__"), "__init__", "House.__init__", defArgs s_House_init, defBody s_House_init, defScope s_House_init, [], []⟩
abbrev s_mentioned : Stmt := top 9
def d_mentioned : He.DefD := ⟨("mentioned", none), "mentioned", "mentioned", defArgs s_mentioned, defBody s_mentioned, defScope s_mentioned, [], []⟩
abbrev s_named : Stmt := top 10
def d_named : He.DefD := ⟨("named", none), "named", "named", defArgs s_named, defBody s_named, defScope s_named, [], []⟩
abbrev s_ties : Stmt := top 11
def d_ties : He.DefD := ⟨("ties", none), "ties", "ties", defArgs s_ties, defBody s_ties, defScope s_ties, [], []⟩
abbrev s_parts : Stmt := top 12
def d_parts : He.DefD := ⟨("parts", none), "parts", "parts", defArgs s_parts, defBody s_parts, defScope s_parts, [], []⟩
abbrev s_part_house : Stmt := top 13
def d_part_house : He.DefD := ⟨("part_house", none), "part_house", "part_house", defArgs s_part_house, defBody s_part_house, defScope s_part_house, [], []⟩
abbrev s_first_state : Stmt := top 15
def d_first_state : He.DefD := ⟨("first_state", none), "first_state", "first_state", defArgs s_first_state, defBody s_first_state, defScope s_first_state, [], []⟩
abbrev s_put : Stmt := top 16
def d_put : He.DefD := ⟨("put", none), "put", "put", defArgs s_put, defBody s_put, defScope s_put, [], []⟩
abbrev s_moved : Stmt := top 17
def d_moved : He.DefD := ⟨("moved", none), "moved", "moved", defArgs s_moved, defBody s_moved, defScope s_moved, [], []⟩
abbrev s_worth : Stmt := top 18
def d_worth : He.DefD := ⟨("worth", none), "worth", "worth", defArgs s_worth, defBody s_worth, defScope s_worth, [], []⟩
abbrev s_Pause_init : Stmt := inClass (top 20) 0
def d_Pause_init : He.DefD := ⟨("Pause", some "__init__"), "__init__", "Pause.__init__", defArgs s_Pause_init, defBody s_Pause_init, defScope s_Pause_init, [], []⟩
abbrev s_Engine_init : Stmt := inClass (top 21) 0
def d_Engine_init : He.DefD := ⟨("Engine", some "__init__"), "__init__", "Engine.__init__", defArgs s_Engine_init, defBody s_Engine_init, defScope s_Engine_init, [], []⟩
abbrev s_Engine_numbered : Stmt := inClass (top 21) 1
def d_Engine_numbered : He.DefD := ⟨("Engine", some "numbered"), "numbered", "Engine.numbered", defArgs s_Engine_numbered, defBody s_Engine_numbered, defScope s_Engine_numbered, [], []⟩
abbrev s_Engine_entries : Stmt := inClass (top 21) 2
def d_Engine_entries : He.DefD := ⟨("Engine", some "entries"), "entries", "Engine.entries", defArgs s_Engine_entries, defBody s_Engine_entries, defScope s_Engine_entries, [], []⟩
abbrev s_Engine_value : Stmt := inClass (top 21) 3
def d_Engine_value : He.DefD := ⟨("Engine", some "value"), "value", "Engine.value", defArgs s_Engine_value, defBody s_Engine_value, defScope s_Engine_value, [], []⟩
abbrev s_Engine_stored : Stmt := inClass (top 21) 4
def d_Engine_stored : He.DefD := ⟨("Engine", some "stored"), "stored", "Engine.stored", defArgs s_Engine_stored, defBody s_Engine_stored, defScope s_Engine_stored, [], []⟩
abbrev s_Engine_paid : Stmt := inClass (top 21) 5
def d_Engine_paid : He.DefD := ⟨("Engine", some "paid"), "paid", "Engine.paid", defArgs s_Engine_paid, defBody s_Engine_paid, defScope s_Engine_paid, [], []⟩
abbrev s_Engine_begun : Stmt := inClass (top 21) 6
def d_Engine_begun : He.DefD := ⟨("Engine", some "begun"), "begun", "Engine.begun", defArgs s_Engine_begun, defBody s_Engine_begun, defScope s_Engine_begun, [], []⟩
abbrev s_Engine_block : Stmt := inClass (top 21) 7
def d_Engine_block : He.DefD := ⟨("Engine", some "block"), "block", "Engine.block", defArgs s_Engine_block, defBody s_Engine_block, defScope s_Engine_block, [], []⟩
abbrev s_Engine_answered : Stmt := inClass (top 21) 8
def d_Engine_answered : He.DefD := ⟨("Engine", some "answered"), "answered", "Engine.answered", defArgs s_Engine_answered, defBody s_Engine_answered, defScope s_Engine_answered, [], []⟩
abbrev s_Engine_go : Stmt := inClass (top 21) 9
def d_Engine_go : He.DefD := ⟨("Engine", some "go"), "go", "Engine.go", defArgs s_Engine_go, defBody s_Engine_go, defScope s_Engine_go, [], []⟩
abbrev s_Engine_done : Stmt := inClass (top 21) 10
def d_Engine_done : He.DefD := ⟨("Engine", some "done"), "done", "Engine.done", defArgs s_Engine_done, defBody s_Engine_done, defScope s_Engine_done, [], []⟩
abbrev s_Ways_init : Stmt := inClass (top 24) 0
def d_Ways_init : He.DefD := ⟨("Ways", some "__init__"), "__init__", "Ways.__init__", defArgs s_Ways_init, defBody s_Ways_init, defScope s_Ways_init, [], []⟩
abbrev s_Ways_forget : Stmt := inClass (top 24) 1
def d_Ways_forget : He.DefD := ⟨("Ways", some "forget"), "forget", "Ways.forget", defArgs s_Ways_forget, defBody s_Ways_forget, defScope s_Ways_forget, [], []⟩
abbrev s_Ways_of : Stmt := inClass (top 24) 2
def d_Ways_of : He.DefD := ⟨("Ways", some "of"), "of", "Ways.of", defArgs s_Ways_of, defBody s_Ways_of, defScope s_Ways_of, [], []⟩
abbrev s_Ways_after : Stmt := inClass (top 24) 3
def d_Ways_after : He.DefD := ⟨("Ways", some "after"), "after", "Ways.after", defArgs s_Ways_after, defBody s_Ways_after, defScope s_Ways_after, [], []⟩
abbrev s_Search_init : Stmt := inClass (top 27) 0
def d_Search_init : He.DefD := ⟨("Search", some "__init__"), "__init__", "Search.__init__", defArgs s_Search_init, defBody s_Search_init, defScope s_Search_init, [He.Dv.non], []⟩
abbrev s_Search_row_of : Stmt := inClass (top 27) 1
def d_Search_row_of : He.DefD := ⟨("Search", some "row_of"), "row_of", "Search.row_of", defArgs s_Search_row_of, defBody s_Search_row_of, defScope s_Search_row_of, [], []⟩
abbrev s_Search_meet : Stmt := inClass (top 27) 2
def d_Search_meet : He.DefD := ⟨("Search", some "meet"), "meet", "Search.meet", defArgs s_Search_meet, defBody s_Search_meet, defScope s_Search_meet, [], []⟩
abbrev s_Search_grow : Stmt := inClass (top 27) 3
def d_Search_grow : He.DefD := ⟨("Search", some "grow"), "grow", "Search.grow", defArgs s_Search_grow, defBody s_Search_grow, defScope s_Search_grow, [], []⟩
abbrev s_Search_closed : Stmt := inClass (top 27) 4
def d_Search_closed : He.DefD := ⟨("Search", some "closed"), "closed", "Search.closed", defArgs s_Search_closed, defBody s_Search_closed, defScope s_Search_closed, [], []⟩
abbrev s_reachable : Stmt := top 28
def d_reachable : He.DefD := ⟨("reachable", none), "reachable", "reachable", defArgs s_reachable, defBody s_reachable, defScope s_reachable, [], []⟩
abbrev s_most : Stmt := top 30
def d_most : He.DefD := ⟨("most", none), "most", "most", defArgs s_most, defBody s_most, defScope s_most, [], []⟩
abbrev s_law_cell : Stmt := top 32
def d_law_cell : He.DefD := ⟨("_law_cell", none), "_law_cell", "_law_cell", defArgs s_law_cell, defBody s_law_cell, defScope s_law_cell, [], []⟩
abbrev s_law_row : Stmt := top 34
def d_law_row : He.DefD := ⟨("_law_row", none), "_law_row", "_law_row", defArgs s_law_row, defBody s_law_row, defScope s_law_row, [], []⟩
abbrev s_law_expression : Stmt := top 35
def d_law_expression : He.DefD := ⟨("_law_expression", none), "_law_expression", "_law_expression", defArgs s_law_expression, defBody s_law_expression, defScope s_law_expression, [], []⟩
abbrev s_law_statement : Stmt := top 36
def d_law_statement : He.DefD := ⟨("_law_statement", none), "_law_statement", "_law_statement", defArgs s_law_statement, defBody s_law_statement, defScope s_law_statement, [], []⟩
abbrev s_law_body : Stmt := top 37
def d_law_body : He.DefD := ⟨("_law_body", none), "_law_body", "_law_body", defArgs s_law_body, defBody s_law_body, defScope s_law_body, [], []⟩
abbrev s_law_contract : Stmt := top 38
def d_law_contract : He.DefD := ⟨("_law_contract", none), "_law_contract", "_law_contract", defArgs s_law_contract, defBody s_law_contract, defScope s_law_contract, [], []⟩
abbrev s_law_made : Stmt := top 40
def d_law_made : He.DefD := ⟨("_law_made", none), "_law_made", "_law_made", defArgs s_law_made, defBody s_law_made, defScope s_law_made, [], []⟩
abbrev s_law_named : Stmt := top 41
def d_law_named : He.DefD := ⟨("_law_named", none), "_law_named", "_law_named", defArgs s_law_named, defBody s_law_named, defScope s_law_named, [], []⟩
abbrev s_law_moved : Stmt := top 42
def d_law_moved : He.DefD := ⟨("_law_moved", none), "_law_moved", "_law_moved", defArgs s_law_moved, defBody s_law_moved, defScope s_law_moved, [], []⟩
abbrev s_law_short : Stmt := top 43
def d_law_short : He.DefD := ⟨("_law_short", none), "_law_short", "_law_short", defArgs s_law_short, defBody s_law_short, defScope s_law_short, [], []⟩
abbrev s_law : Stmt := top 44
def d_law : He.DefD := ⟨("law", none), "law", "law", defArgs s_law, defBody s_law, defScope s_law, [], []⟩
def fn : List He.DefD := [d_combine, d_House_init, d_mentioned, d_named, d_ties, d_parts, d_part_house, d_first_state, d_put, d_moved, d_worth, d_Pause_init, d_Engine_init, d_Engine_numbered, d_Engine_entries, d_Engine_value, d_Engine_stored, d_Engine_paid, d_Engine_begun, d_Engine_block, d_Engine_answered, d_Engine_go, d_Engine_done, d_Ways_init, d_Ways_forget, d_Ways_of, d_Ways_after, d_Search_init, d_Search_row_of, d_Search_meet, d_Search_grow, d_Search_closed, d_reachable, d_most, d_law_cell, d_law_row, d_law_expression, d_law_statement, d_law_body, d_law_contract, d_law_made, d_law_named, d_law_moved, d_law_short, d_law]
def fa : List He.Fa := [.glo "combine", .glo "House", .glo "mentioned", .glo "named", .glo "ties", .glo "parts", .glo "part_house", .glo "first_state", .glo "put", .glo "moved", .glo "worth", .glo "Pause", .glo "Engine", .glo "Ways", .glo "Search", .glo "reachable", .glo "most", .glo "_law_cell", .glo "_law_row", .glo "_law_expression", .glo "_law_statement", .glo "_law_body", .glo "_law_contract", .glo "_law_made", .glo "_law_named", .glo "_law_moved", .glo "_law_short", .glo "law", .free "len", .free "range", .free "enumerate", .free "tuple", .free "list", .free "dict", .free "sorted", .free "any", .free "sum", .free "max", .free "min", .free "int", .free "zip", .int "GREATEST" 65535, .int "MOST_WAYS" 2000, .int "MOST_STATES" 200, .cls "House", .cls "Pause", .cls "Engine", .cls "Ways", .cls "Search", .mkr "House", .mkr "Pause", .mkr "Engine", .mkr "Ways", .mkr "Search", .noat "House" "assets", .noat "House" "contracts", .noat "Pause" "kind", .noat "Pause" "state", .noat "Pause" "pending", .noat "Pause" "count", .noat "Engine" "house", .noat "Engine" "assets", .noat "Engine" "contracts", .noat "Engine" "procs", .noat "Engine" "places", .noat "Engine" "sizes", .noat "Engine" "lines", .noat "Engine" "parts", .noat "Engine" "bodies", .noat "Ways" "engine", .noat "Ways" "entries", .noat "Ways" "rows", .noat "Ways" "kept", .noat "Search" "ways", .noat "Search" "start", .noat "Search" "ends", .noat "Search" "rows", .noat "Search" "asked", .meth "Engine" "numbered", .meth "Engine" "entries", .meth "Engine" "value", .meth "Engine" "stored", .meth "Engine" "paid", .meth "Engine" "begun", .meth "Engine" "block", .meth "Engine" "answered", .meth "Engine" "go", .meth "Engine" "done", .meth "Ways" "forget", .meth "Ways" "of", .meth "Ways" "after", .meth "Search" "row_of", .meth "Search" "meet", .meth "Search" "grow", .meth "Search" "closed"]
/-- what the top has written, by names -/
structure Tx (K : PySem.W.Frag) (mg : Str → Option Value) : Prop where
  says : He.SaysD fa fn K
  g_combine : mg "combine" = some (.ref (He.ga K "combine"))
  g_House : mg "House" = some (.ref (He.ga K "House"))
  g_mentioned : mg "mentioned" = some (.ref (He.ga K "mentioned"))
  g_named : mg "named" = some (.ref (He.ga K "named"))
  g_ties : mg "ties" = some (.ref (He.ga K "ties"))
  g_parts : mg "parts" = some (.ref (He.ga K "parts"))
  g_part_house : mg "part_house" = some (.ref (He.ga K "part_house"))
  g_first_state : mg "first_state" = some (.ref (He.ga K "first_state"))
  g_put : mg "put" = some (.ref (He.ga K "put"))
  g_moved : mg "moved" = some (.ref (He.ga K "moved"))
  g_worth : mg "worth" = some (.ref (He.ga K "worth"))
  g_Pause : mg "Pause" = some (.ref (He.ga K "Pause"))
  g_Engine : mg "Engine" = some (.ref (He.ga K "Engine"))
  g_Ways : mg "Ways" = some (.ref (He.ga K "Ways"))
  g_Search : mg "Search" = some (.ref (He.ga K "Search"))
  g_reachable : mg "reachable" = some (.ref (He.ga K "reachable"))
  g_most : mg "most" = some (.ref (He.ga K "most"))
  g__law_cell : mg "_law_cell" = some (.ref (He.ga K "_law_cell"))
  g__law_row : mg "_law_row" = some (.ref (He.ga K "_law_row"))
  g__law_expression : mg "_law_expression" = some (.ref (He.ga K "_law_expression"))
  g__law_statement : mg "_law_statement" = some (.ref (He.ga K "_law_statement"))
  g__law_body : mg "_law_body" = some (.ref (He.ga K "_law_body"))
  g__law_contract : mg "_law_contract" = some (.ref (He.ga K "_law_contract"))
  g__law_made : mg "_law_made" = some (.ref (He.ga K "_law_made"))
  g__law_named : mg "_law_named" = some (.ref (He.ga K "_law_named"))
  g__law_moved : mg "_law_moved" = some (.ref (He.ga K "_law_moved"))
  g__law_short : mg "_law_short" = some (.ref (He.ga K "_law_short"))
  g_law : mg "law" = some (.ref (He.ga K "law"))
  f_len : mg "len" = none
  f_range : mg "range" = none
  f_enumerate : mg "enumerate" = none
  f_tuple : mg "tuple" = none
  f_list : mg "list" = none
  f_dict : mg "dict" = none
  f_sorted : mg "sorted" = none
  f_any : mg "any" = none
  f_sum : mg "sum" = none
  f_max : mg "max" = none
  f_min : mg "min" = none
  f_int : mg "int" = none
  f_zip : mg "zip" = none
  i_GREATEST : ∃ t, mg "GREATEST" = some (.int 65535 t)
  i_MOST_WAYS : ∃ t, mg "MOST_WAYS" = some (.int 2000 t)
  i_MOST_STATES : ∃ t, mg "MOST_STATES" = some (.int 200 t)
  cl_House : Cls K (He.ga K "House")
  cl_Pause : Cls K (He.ga K "Pause")
  cl_Engine : Cls K (He.ga K "Engine")
  cl_Ways : Cls K (He.ga K "Ways")
  cl_Search : Cls K (He.ga K "Search")
  mk_House : Mk K (He.ga K "House") (He.ma K (He.ga K "House") "__init__")
  mk_Pause : Mk K (He.ga K "Pause") (He.ma K (He.ga K "Pause") "__init__")
  mk_Engine : Mk K (He.ga K "Engine") (He.ma K (He.ga K "Engine") "__init__")
  mk_Ways : Mk K (He.ga K "Ways") (He.ma K (He.ga K "Ways") "__init__")
  mk_Search : Mk K (He.ga K "Search") (He.ma K (He.ga K "Search") "__init__")
  na_House_assets : NoAttr K (He.ga K "House") "assets"
  na_House_contracts : NoAttr K (He.ga K "House") "contracts"
  na_Pause_kind : NoAttr K (He.ga K "Pause") "kind"
  na_Pause_state : NoAttr K (He.ga K "Pause") "state"
  na_Pause_pending : NoAttr K (He.ga K "Pause") "pending"
  na_Pause_count : NoAttr K (He.ga K "Pause") "count"
  na_Engine_house : NoAttr K (He.ga K "Engine") "house"
  na_Engine_assets : NoAttr K (He.ga K "Engine") "assets"
  na_Engine_contracts : NoAttr K (He.ga K "Engine") "contracts"
  na_Engine_procs : NoAttr K (He.ga K "Engine") "procs"
  na_Engine_places : NoAttr K (He.ga K "Engine") "places"
  na_Engine_sizes : NoAttr K (He.ga K "Engine") "sizes"
  na_Engine_lines : NoAttr K (He.ga K "Engine") "lines"
  na_Engine_parts : NoAttr K (He.ga K "Engine") "parts"
  na_Engine_bodies : NoAttr K (He.ga K "Engine") "bodies"
  na_Ways_engine : NoAttr K (He.ga K "Ways") "engine"
  na_Ways_entries : NoAttr K (He.ga K "Ways") "entries"
  na_Ways_rows : NoAttr K (He.ga K "Ways") "rows"
  na_Ways_kept : NoAttr K (He.ga K "Ways") "kept"
  na_Search_ways : NoAttr K (He.ga K "Search") "ways"
  na_Search_start : NoAttr K (He.ga K "Search") "start"
  na_Search_ends : NoAttr K (He.ga K "Search") "ends"
  na_Search_rows : NoAttr K (He.ga K "Search") "rows"
  na_Search_asked : NoAttr K (He.ga K "Search") "asked"
  me_Engine_numbered : Meth K (He.ga K "Engine") "numbered" (He.ma K (He.ga K "Engine") "numbered")
  me_Engine_entries : Meth K (He.ga K "Engine") "entries" (He.ma K (He.ga K "Engine") "entries")
  me_Engine_value : Meth K (He.ga K "Engine") "value" (He.ma K (He.ga K "Engine") "value")
  me_Engine_stored : Meth K (He.ga K "Engine") "stored" (He.ma K (He.ga K "Engine") "stored")
  me_Engine_paid : Meth K (He.ga K "Engine") "paid" (He.ma K (He.ga K "Engine") "paid")
  me_Engine_begun : Meth K (He.ga K "Engine") "begun" (He.ma K (He.ga K "Engine") "begun")
  me_Engine_block : Meth K (He.ga K "Engine") "block" (He.ma K (He.ga K "Engine") "block")
  me_Engine_answered : Meth K (He.ga K "Engine") "answered" (He.ma K (He.ga K "Engine") "answered")
  me_Engine_go : Meth K (He.ga K "Engine") "go" (He.ma K (He.ga K "Engine") "go")
  me_Engine_done : Meth K (He.ga K "Engine") "done" (He.ma K (He.ga K "Engine") "done")
  me_Ways_forget : Meth K (He.ga K "Ways") "forget" (He.ma K (He.ga K "Ways") "forget")
  me_Ways_of : Meth K (He.ga K "Ways") "of" (He.ma K (He.ga K "Ways") "of")
  me_Ways_after : Meth K (He.ga K "Ways") "after" (He.ma K (He.ga K "Ways") "after")
  me_Search_row_of : Meth K (He.ga K "Search") "row_of" (He.ma K (He.ga K "Search") "row_of")
  me_Search_meet : Meth K (He.ga K "Search") "meet" (He.ma K (He.ga K "Search") "meet")
  me_Search_grow : Meth K (He.ga K "Search") "grow" (He.ma K (He.ga K "Search") "grow")
  me_Search_closed : Meth K (He.ga K "Search") "closed" (He.ma K (He.ga K "Search") "closed")
theorem tx_of {K : PySem.W.Frag} {h : Heap} {mg : Str → Option Value} (X : K.In h) (G : h.Ns mainGlobals mg) (c : He.SaysD fa fn K) : Tx K mg :=
  ⟨c, He.glo_ok X G (c.fact 0 rfl),
   He.glo_ok X G (c.fact 1 rfl),
   He.glo_ok X G (c.fact 2 rfl),
   He.glo_ok X G (c.fact 3 rfl),
   He.glo_ok X G (c.fact 4 rfl),
   He.glo_ok X G (c.fact 5 rfl),
   He.glo_ok X G (c.fact 6 rfl),
   He.glo_ok X G (c.fact 7 rfl),
   He.glo_ok X G (c.fact 8 rfl),
   He.glo_ok X G (c.fact 9 rfl),
   He.glo_ok X G (c.fact 10 rfl),
   He.glo_ok X G (c.fact 11 rfl),
   He.glo_ok X G (c.fact 12 rfl),
   He.glo_ok X G (c.fact 13 rfl),
   He.glo_ok X G (c.fact 14 rfl),
   He.glo_ok X G (c.fact 15 rfl),
   He.glo_ok X G (c.fact 16 rfl),
   He.glo_ok X G (c.fact 17 rfl),
   He.glo_ok X G (c.fact 18 rfl),
   He.glo_ok X G (c.fact 19 rfl),
   He.glo_ok X G (c.fact 20 rfl),
   He.glo_ok X G (c.fact 21 rfl),
   He.glo_ok X G (c.fact 22 rfl),
   He.glo_ok X G (c.fact 23 rfl),
   He.glo_ok X G (c.fact 24 rfl),
   He.glo_ok X G (c.fact 25 rfl),
   He.glo_ok X G (c.fact 26 rfl),
   He.glo_ok X G (c.fact 27 rfl),
   He.free_ok X G (c.fact 28 rfl),
   He.free_ok X G (c.fact 29 rfl),
   He.free_ok X G (c.fact 30 rfl),
   He.free_ok X G (c.fact 31 rfl),
   He.free_ok X G (c.fact 32 rfl),
   He.free_ok X G (c.fact 33 rfl),
   He.free_ok X G (c.fact 34 rfl),
   He.free_ok X G (c.fact 35 rfl),
   He.free_ok X G (c.fact 36 rfl),
   He.free_ok X G (c.fact 37 rfl),
   He.free_ok X G (c.fact 38 rfl),
   He.free_ok X G (c.fact 39 rfl),
   He.free_ok X G (c.fact 40 rfl),
   He.int_ok X G (c.fact 41 rfl),
   He.int_ok X G (c.fact 42 rfl),
   He.int_ok X G (c.fact 43 rfl),
   He.cls_ok (c.fact 44 rfl),
   He.cls_ok (c.fact 45 rfl),
   He.cls_ok (c.fact 46 rfl),
   He.cls_ok (c.fact 47 rfl),
   He.cls_ok (c.fact 48 rfl),
   He.mkr_ok (c.fact 49 rfl),
   He.mkr_ok (c.fact 50 rfl),
   He.mkr_ok (c.fact 51 rfl),
   He.mkr_ok (c.fact 52 rfl),
   He.mkr_ok (c.fact 53 rfl),
   He.noat_ok (c.fact 54 rfl),
   He.noat_ok (c.fact 55 rfl),
   He.noat_ok (c.fact 56 rfl),
   He.noat_ok (c.fact 57 rfl),
   He.noat_ok (c.fact 58 rfl),
   He.noat_ok (c.fact 59 rfl),
   He.noat_ok (c.fact 60 rfl),
   He.noat_ok (c.fact 61 rfl),
   He.noat_ok (c.fact 62 rfl),
   He.noat_ok (c.fact 63 rfl),
   He.noat_ok (c.fact 64 rfl),
   He.noat_ok (c.fact 65 rfl),
   He.noat_ok (c.fact 66 rfl),
   He.noat_ok (c.fact 67 rfl),
   He.noat_ok (c.fact 68 rfl),
   He.noat_ok (c.fact 69 rfl),
   He.noat_ok (c.fact 70 rfl),
   He.noat_ok (c.fact 71 rfl),
   He.noat_ok (c.fact 72 rfl),
   He.noat_ok (c.fact 73 rfl),
   He.noat_ok (c.fact 74 rfl),
   He.noat_ok (c.fact 75 rfl),
   He.noat_ok (c.fact 76 rfl),
   He.noat_ok (c.fact 77 rfl),
   He.meth_ok (c.fact 78 rfl),
   He.meth_ok (c.fact 79 rfl),
   He.meth_ok (c.fact 80 rfl),
   He.meth_ok (c.fact 81 rfl),
   He.meth_ok (c.fact 82 rfl),
   He.meth_ok (c.fact 83 rfl),
   He.meth_ok (c.fact 84 rfl),
   He.meth_ok (c.fact 85 rfl),
   He.meth_ok (c.fact 86 rfl),
   He.meth_ok (c.fact 87 rfl),
   He.meth_ok (c.fact 88 rfl),
   He.meth_ok (c.fact 89 rfl),
   He.meth_ok (c.fact 90 rfl),
   He.meth_ok (c.fact 91 rfl),
   He.meth_ok (c.fact 92 rfl),
   He.meth_ok (c.fact 93 rfl),
   He.meth_ok (c.fact 94 rfl)⟩
/-! ### a def's promise by its body -/
section
variable {P : Program} {w : World} {K : PySem.W.Frag} {mg : Str → Option Value} {base : Heap}
def BodyOk (P : Program) (w : World) (K : PySem.W.Frag) (mg : Str → Option Value) (base : Heap) (N : List Str) (qual : Str) (st : Stmt) (f : Addr) (k : Nat) (sp : Sp) : Prop :=
  ∀ (cdv : Value) (A : Around) (outer : List PySem.Env) (s : Shared) (H : Hp) (vs : List V) (Q : VK) (E : XK), Room k (A.deeper (envOfC qual (defScope st) s.heap.objs.size f cdv)) → sp vs H Q E →
    ∃ t, PSs (cxOf CX0 P w K mg base N qual (defScope st) f cdv A outer s H E).nox (defBody st) t ∧ t { nx := fun _ H' => Q .non H', rt := Q } (start N vs) H
theorem fnd_ok {x qual : Str} {st : Stmt} {dvs : List V} {f : Addr} {fd : FuncData} {N ps : List Str} {k : Nat} {sp : Sp} (F : FunD K x qual (defArgs st) (defBody st) (defScope st) dvs [] f fd) (S : FnScope N ps (defScope st)) (len : ∀ vs H Q E, sp vs H Q E → vs.length = ps.length)
    (hb : BodyOk P w K mg base N qual st f k sp) : FnOk P w K mg base CX0 (k + 1) f fd ps sp :=
  F.ok S len fun cdv A outer s H vs Q E hr h => by
    obtain ⟨t, h1, h2⟩ := hb cdv A outer s H vs Q E hr h
    exact ⟨t, h1.nox, h2⟩
/-- how the arguments of a def without defaults bind -/
def BindOk (x qual : Str) (st : Stmt) (ps : List Str) : Prop :=
  ∀ (kV doc pm : Value) (an : Option Addr) (cdv ct : Value) (us : List Value), us.length = ps.length → bindArgs (PySem.W.fnOf x qual (defArgs st) (defBody st) (defScope st) .none kV doc pm an cdv ct) ⟨us, []⟩ = pure (ps.zip us)
theorem cal_of {x : Str} {st : Stmt} {N ps : List Str} {k : Nat} {sp : Sp} (T : Tx K mg) (i : Nat) (hi : fn[i]? = some ⟨(x, none), x, x, defArgs st, defBody st, defScope st, [], []⟩) (hg : mg x = some (.ref (He.ga K x))) (S : FnScope N ps (defScope st)) (B : BindOk x x st ps)
    (len : ∀ vs H Q E, sp vs H Q E → vs.length = ps.length) (hb : BodyOk P w K mg base N x st (He.ga K x) k sp) : C8.Cal P w K mg base (k + 1) x sp [] := by
  obtain ⟨fd, F⟩ := T.says.def_ i hi
  have F' : FunD K x x (defArgs st) (defBody st) (defScope st) [] [] (He.ga K x) fd := F
  exact ⟨_, fd, ps, [], fnd_ok F' S len hb, hg, F'.kp, FunD.bindsN F' B, .nil⟩
theorem met_of {c m qual : Str} {st : Stmt} {N ps : List Str} {k : Nat} {sp : Sp} (T : Tx K mg) (i : Nat) (hi : fn[i]? = some ⟨(c, some m), m, qual, defArgs st, defBody st, defScope st, [], []⟩) (hc : Cls K (He.ga K c)) (hm : Meth K (He.ga K c) m (He.ma K (He.ga K c) m)) (S : FnScope N ps (defScope st)) (B : BindOk m qual st ps)
    (len : ∀ vs H Q E, sp vs H Q E → vs.length = ps.length) (hb : BodyOk P w K mg base N qual st (He.ma K (He.ga K c) m) k sp) : C8.Met P w K mg base (k + 1) (He.ga K c) m sp [] := by
  obtain ⟨fd, F⟩ := T.says.def_ i hi
  have F' : FunD K m qual (defArgs st) (defBody st) (defScope st) [] [] (He.ma K (He.ga K c) m) fd := F
  exact ⟨_, fd, ps, [], hc, hm, fnd_ok F' S len hb, FunD.bindsN F' B, .nil⟩
theorem mak_of {c qual : Str} {st : Stmt} {N ps : List Str} {k : Nat} {sp : Sp} (T : Tx K mg) (i : Nat) (hi : fn[i]? = some ⟨(c, some "__init__"), "__init__", qual, defArgs st, defBody st, defScope st, [], []⟩) (hg : mg c = some (.ref (He.ga K c))) (M : Mk K (He.ga K c) (He.ma K (He.ga K c) "__init__")) (S : FnScope N ps (defScope st)) (B : BindOk "__init__" qual st ps)
    (len : ∀ vs H Q E, sp vs H Q E → vs.length = ps.length) (hb : BodyOk P w K mg base N qual st (He.ma K (He.ga K c) "__init__") k sp) : C8.Mak P w K mg base (k + 1) c (He.ga K c) sp [] := by
  obtain ⟨fd, F⟩ := T.says.def_ i hi
  have F' : FunD K "__init__" qual (defArgs st) (defBody st) (defScope st) [] [] (He.ma K (He.ga K c) "__init__") fd := F
  exact ⟨_, fd, ps, [], M, fnd_ok F' S len hb, hg, FunD.bindsN F' B, .nil⟩
end
end Nc

-- E1
set_option maxHeartbeats 4000000
/-! rules of our own over the layer: nested keys, enumerate of a tuple, zip of a tuple and a list, a list taken apart, products of great ints, dict(tuple) -/
namespace Nc
open PySem PySem.Spec PyProof.Rows L2
/-! ### data of any depth that stand as tuples (list: a tuple whose object is known to be plain) -/
mutual
inductive Rp (H : Hp) : V → PyData → Prop
  | non : Rp H .non .none
  | bl (b : Bool) : Rp H (.bl b) (.bool b)
  | int (i : Int) : Rp H (.int i) (.int i)
  | str (x : Str) : Rp H (.str x) (.str x)
  | tup {a : Addr} {xs : List V} {ds : List PyData} : H a = some (.tup xs) → Rps H xs ds → Rp H (.ref a) (.tuple ds)
  | frz {a : Addr} {o : Obj} {xs : List V} {ds : List PyData} : H a = some (.frz o (.tup xs)) → o.dict = none → Rps H xs ds → Rp H (.ref a) (.list ds)
inductive Rps (H : Hp) : List V → List PyData → Prop
  | nil : Rps H [] []
  | cons {v : V} {vs : List V} {d : PyData} {ds : List PyData} : Rp H v d → Rps H vs ds → Rps H (v :: vs) (d :: ds)
end
/-- tuples stay -/
structure TpS (H H' : Hp) : Prop where
  t : ∀ a xs, H a = some (.tup xs) → H' a = some (.tup xs)
  z : ∀ a o xs, H a = some (.frz o (.tup xs)) → H' a = some (.frz o (.tup xs))
theorem TpS.refl (H : Hp) : TpS H H := ⟨fun _ _ h => h, fun _ _ _ h => h⟩
theorem TpS.trans {H H1 H2 : Hp} (a : TpS H H1) (b : TpS H1 H2) : TpS H H2 := ⟨fun x y h => b.t x y (a.t x y h), fun x y z h => b.z x y z (a.z x y z h)⟩
theorem TpS.of {H H' : Hp} (s : Same H H') : TpS H H' := ⟨fun a _ h => s a _ h, fun a _ _ h => s a _ h⟩
def IsTp : Option HO → Prop
  | some (.tup _) => True
  | some (.frz _ _) => True
  | _ => False
theorem TpS.upd {H H' : Hp} {a : Addr} {o : HO} (s : TpS H H') (n : ¬ IsTp (H' a)) : TpS H (upd H' a o) := by
  refine ⟨fun b xs h => ?_, fun b ob xs h => ?_⟩
  · have h2 := s.t b xs h
    rw [upd_ne (fun e => n (by rw [← e, h2]; exact True.intro))]
    exact h2
  · have h2 := s.z b ob xs h
    rw [upd_ne (fun e => n (by rw [← e, h2]; exact True.intro))]
    exact h2
theorem TpS.new {H H' : Hp} {a : Addr} {o : HO} (s : TpS H H') (n : H' a = none) : TpS H (L2.upd H' a o) := s.upd (by rw [n]; exact id)
mutual
theorem Rp.ts {H H' : Hp} (s : TpS H H') : ∀ (d : PyData) (v : V), Rp H v d → Rp H' v d
  | .none, _, h => by cases h; exact .non
  | .bool _, _, h => by cases h; exact .bl _
  | .int _, _, h => by cases h; exact .int _
  | .str _, _, h => by cases h; exact .str _
  | .tuple ds, _, h => by
    cases h with
    | tup h1 h2 => exact .tup (s.t _ _ h1) (Rps.ts s ds _ h2)
  | .list ds, _, h => by
    cases h with
    | frz h1 h2 h3 => exact .frz (s.z _ _ _ h1) h2 (Rps.ts s ds _ h3)
  | .dict _, _, h => by cases h
theorem Rps.ts {H H' : Hp} (s : TpS H H') : ∀ (ds : List PyData) (vs : List V), Rps H vs ds → Rps H' vs ds
  | [], _, h => by cases h; exact .nil
  | d :: ds, _, h => by
    cases h with
    | cons h1 h2 => exact .cons (Rp.ts s d _ h1) (Rps.ts s ds _ h2)
end
theorem Rp.to {H H' : Hp} {v : V} {d : PyData} (h : Rp H v d) (s : Same H H') : Rp H' v d := Rp.ts (TpS.of s) d v h
theorem Rps.to {H H' : Hp} {v : List V} {d : List PyData} (h : Rps H v d) (s : Same H H') : Rps H' v d := Rps.ts (TpS.of s) d v h
theorem Rps.length {H : Hp} : ∀ {vs : List V} {ds : List PyData}, Rps H vs ds → vs.length = ds.length
  | _, _, .nil => rfl
  | _, _, .cons _ t => by rw [List.length_cons, List.length_cons, Rps.length t]
theorem Rps.get {H : Hp} : ∀ {vs : List V} {ds : List PyData} {i : Nat} {d : PyData}, Rps H vs ds → ds[i]? = some d → ∃ v, vs[i]? = some v ∧ Rp H v d
  | _, _, _, _, .nil, e => by simp at e
  | _, _, 0, _, .cons r _, e => by
    have e' := Option.some.inj e
    subst e'
    exact ⟨_, rfl, r⟩
  | _, _, i + 1, d, .cons _ t, e => by
    obtain ⟨v, h1, h2⟩ := Rps.get (i := i) (d := d) t (by simpa using e)
    exact ⟨v, by simpa using h1, h2⟩
theorem Rps.getV {H : Hp} : ∀ {vs : List V} {ds : List PyData} {i : Nat} {v : V}, Rps H vs ds → vs[i]? = some v → ∃ d, ds[i]? = some d ∧ Rp H v d
  | _, _, _, _, .nil, e => by simp at e
  | _, _, 0, _, .cons r _, e => by
    have e' := Option.some.inj e
    subst e'
    exact ⟨_, rfl, r⟩
  | _, _, i + 1, d, .cons _ t, e => by
    obtain ⟨v, h1, h2⟩ := Rps.getV (i := i) (v := d) t (by simpa using e)
    exact ⟨v, by simpa using h1, h2⟩
theorem Rps.set {H : Hp} {v : V} {d : PyData} (r : Rp H v d) : ∀ {vs : List V} {ds : List PyData} (i : Nat), Rps H vs ds → Rps H (vs.set i v) (ds.set i d)
  | _, _, _, .nil => .nil
  | _, _, 0, .cons _ t => .cons r t
  | _, _, i + 1, .cons q t => .cons q (Rps.set r i t)
theorem Rps.append {H : Hp} : ∀ {xs ys : List V} {us ws : List PyData}, Rps H xs us → Rps H ys ws → Rps H (xs ++ ys) (us ++ ws)
  | _, _, _, _, .nil, s => s
  | _, _, _, _, .cons r t, s => .cons r (Rps.append t s)
theorem Rps.drop {H : Hp} : ∀ {xs : List V} {us : List PyData} (n : Nat), Rps H xs us → Rps H (xs.drop n) (us.drop n)
  | _, _, 0, r => r
  | _, _, _ + 1, .nil => .nil
  | _, _, n + 1, .cons _ t => Rps.drop n t
theorem Rps.take {H : Hp} : ∀ {xs : List V} {us : List PyData} (n : Nat), Rps H xs us → Rps H (xs.take n) (us.take n)
  | _, _, 0, _ => .nil
  | _, _, _ + 1, .nil => .nil
  | _, _, n + 1, .cons r t => .cons r (Rps.take n t)
mutual
theorem Rp.inj {H : Hp} : ∀ (d e : PyData) (v : V), Rp H v d → Rp H v e → d = e
  | .none, _, _, h, q => by cases h; cases q; rfl
  | .bool _, _, _, h, q => by cases h; cases q; rfl
  | .int _, _, _, h, q => by cases h; cases q; rfl
  | .str _, _, _, h, q => by cases h; cases q; rfl
  | .tuple ds, _, _, h, q => by
    cases h with
    | tup h1 h2 =>
      cases q with
      | tup q1 q2 =>
        rw [h1] at q1
        cases q1
        rw [Rps.inj ds _ _ h2 q2]
      | frz q1 _ _ =>
        rw [h1] at q1
        cases q1
  | .list ds, _, _, h, q => by
    cases h with
    | frz h1 _ h2 =>
      cases q with
      | tup q1 q2 =>
        rw [h1] at q1
        cases q1
      | frz q1 _ q2 =>
        rw [h1] at q1
        cases q1
        rw [Rps.inj ds _ _ h2 q2]
  | .dict _, _, _, h, _ => by cases h
theorem Rps.inj {H : Hp} : ∀ (ds es : List PyData) (vs : List V), Rps H vs ds → Rps H vs es → ds = es
  | [], _, _, h, q => by cases h; cases q; rfl
  | d :: ds, _, _, h, q => by
    cases h with
    | cons h1 h2 =>
      cases q with
      | cons q1 q2 => rw [Rp.inj d _ _ h1 q1, Rps.inj ds _ _ h2 q2]
end
/-- all texts -/
theorem Rp.tupE {H : Hp} {v : V} {ds : List PyData} (h : Rp H v (.tuple ds)) : ∃ a xs, v = .ref a ∧ H a = some (.tup xs) ∧ Rps H xs ds := by
  cases h with
  | tup h1 h2 => exact ⟨_, _, rfl, h1, h2⟩
theorem Rp.frzE {H : Hp} {v : V} {ds : List PyData} (h : Rp H v (.list ds)) : ∃ a o xs, v = .ref a ∧ H a = some (.frz o (.tup xs)) ∧ o.dict = none ∧ Rps H xs ds := by
  cases h with
  | frz h1 h2 h3 => exact ⟨_, _, _, rfl, h1, h2, h3⟩
theorem Rp.intE {H : Hp} {v : V} {i : Int} (h : Rp H v (.int i)) : v = .int i := by cases h; rfl
theorem Rp.strE {H : Hp} {v : V} {i : Str} (h : Rp H v (.str i)) : v = .str i := by cases h; rfl
theorem Rp.blE {H : Hp} {v : V} {i : Bool} (h : Rp H v (.bool i)) : v = .bl i := by cases h; rfl
theorem Rps.nilE {H : Hp} {vs : List V} (h : Rps H vs []) : vs = [] := by cases h; rfl
theorem Rps.consE {H : Hp} {vs : List V} {d : PyData} {ds : List PyData} (h : Rps H vs (d :: ds)) : ∃ v r, vs = v :: r ∧ Rp H v d ∧ Rps H r ds := by
  cases h with
  | cons h1 h2 => exact ⟨_, _, rfl, h1, h2⟩
/-- flat tuples of ints -/
theorem Rps.ints {H : Hp} : ∀ (ns : List Int), Rps H (ns.map V.int) (ns.map PyData.int)
  | [] => .nil
  | n :: r => .cons (.int n) (Rps.ints r)
theorem Rps.intsE {H : Hp} : ∀ {ns : List Int} {vs : List V}, Rps H vs (ns.map PyData.int) → vs = ns.map V.int
  | [], _, h => Rps.nilE h
  | n :: r, _, h => by
    obtain ⟨v, t, rfl, h1, h2⟩ := Rps.consE h
    rw [h1.intE, Rps.intsE h2, List.map_cons]
theorem SqT.tp {K : PySem.W.Frag} {H : Hp} {a : Addr} {xs : List V} (h : H a = some (.tup xs)) : SqT K H a xs := .inl (.inl h)
theorem SqT.fz {K : PySem.W.Frag} {H : Hp} {a : Addr} {o : Obj} {xs : List V} (h : H a = some (.frz o (.tup xs))) : SqT K H a xs := .inl (.inr ⟨o, h⟩)
/-! ### to the library's data and keys -/
mutual
/-- no list within -/
def noL : PyData → Bool
  | .none => true
  | .bool _ => true
  | .int _ => true
  | .str _ => true
  | .tuple ds => noLs ds
  | .list _ => false
  | .dict _ => false
def noLs : List PyData → Bool
  | [] => true
  | d :: ds => noL d && noLs ds
end
mutual
theorem Rp.dp {K : PySem.W.Frag} {H : Hp} : ∀ (d : PyData) (v : V), noL d = true → Rp H v d → Dp K H v d
  | .none, _, _, h => by cases h; exact .non
  | .bool _, _, _, h => by cases h; exact .bl _
  | .int _, _, _, h => by cases h; exact .int _
  | .str _, _, _, h => by cases h; exact .str _
  | .tuple ds, _, n, h => by
    cases h with
    | tup h1 h2 => exact .tup (SqT.tp h1) (Rps.dp ds _ n h2)
  | .list _, _, n, _ => by cases n
  | .dict _, _, n, _ => by cases n
theorem Rps.dp {K : PySem.W.Frag} {H : Hp} : ∀ (ds : List PyData) (vs : List V), noLs ds = true → Rps H vs ds → DpAll K H vs ds
  | [], _, _, h => by cases h; exact .nil
  | d :: ds, _, n, h => by
    cases h with
    | cons h1 h2 =>
      have n2 : (noL d && noLs ds) = true := n
      rw [Bool.and_eq_true] at n2
      exact .cons (Rp.dp d _ n2.1 h1) (Rps.dp ds _ n2.2 h2)
end
section
variable {X : Cx} {pins : List (Addr × Obj)} {σ : L2.St} {H : Hp} {s : Shared}
mutual
theorem key_is (I : Inv X pins σ H s) : ∀ (k : NestedKey) (v : V) (u : Value), Rp H v k.data → RelV v u → NestedIs s.heap k u
  | .none, v, u, h, r => by
    have h' : Rp H v .none := h
    cases h'
    cases r
    exact .none
  | .num i, v, u, h, r => by
    have h' : Rp H v (.int i) := h
    cases h'
    obtain ⟨t, rfl⟩ := r
    exact .int _ _
  | .text x, v, u, h, r => by
    have h' : Rp H v (.str x) := h
    cases h'
    obtain ⟨t, rfl⟩ := r
    exact .text _ _
  | .tup ks, v, u, h, r => by
    have h' : Rp H v (.tuple (NestedKey.datas ks)) := h
    cases h' with
    | tup h1 h2 =>
      cases r
      obtain ⟨its, rv, ⟨o, e1, e2, n, e3⟩, _⟩ := I.tuple (SqT.tp h1)
      exact .tup e1 e2 e3 (by simpa using keys_are I ks _ its h2 rv)
theorem keys_are (I : Inv X pins σ H s) : ∀ (ks : List NestedKey) (vs : List V) (us : List Value), Rps H vs (NestedKey.datas ks) → Vals vs us → NestedAll s.heap ks us
  | [], vs, us, h, r => by
    have h' : Rps H vs [] := h
    cases h'
    cases r
    exact .nil
  | k :: ks, vs, us, h, r => by
    have h' : Rps H vs (k.data :: NestedKey.datas ks) := h
    cases h' with
    | cons h1 h2 =>
      cases r with
      | cons r1 r2 => exact .cons (key_is I k _ _ h1 r1) (keys_are I ks _ _ h2 r2)
end
theorem nk_is (I : Inv X pins σ H s) {k : NestedKey} {b : Addr} (h : Rp H (.ref b) k.data) (hd : k.depth ≤ 8) : (nestedKind X.prog X.w).is s.heap k b := ⟨key_is I k _ _ h rfl, hd⟩
end
end Nc

-- E2
set_option maxHeartbeats 4000000
namespace Nc
open PySem PySem.Spec PyProof.Rows L2
/-! ### dicts whose keys are nested tuples: (key, the key's own tuple, value), in order -/
abbrev KAV := NestedKey × Addr × V
def NT (P : Program) (w : World) (a : Addr) (kas : List KAV) (h : Heap) : Prop :=
  kas.length ≤ sizeLine ∧ (a == sysModules) = false ∧ ∃ xs : List (NestedKey × Addr × Value), Paired (fun (p : KAV) (q : NestedKey × Addr × Value) => p.1 = q.1 ∧ p.2.1 = q.2.1 ∧ RelV p.2.2 q.2.2) kas xs ∧
    ∃ o es ep, h.get? a = some o ∧ o.ExactDict ∧ o.data = .dict es ep ∧ es.toList = xs.map (entryOfKey (nestedKind P w)) ∧ (xs.map (·.1)).Nodup
abbrev nO (P : Program) (w : World) (a : Addr) (kas : List KAV) : HO := .ext (NT P w a kas)
theorem NT.stay {P : Program} {w : World} {a : Addr} {kas : List KAV} : ∀ h1 h2 : Heap, NT P w a kas h1 → (∀ o, h1.get? a = some o → h2.get? a = some o) → NT P w a kas h2 :=
  fun _ _ ⟨z, lo, xs, r, o, es, ep, e, c⟩ k => ⟨z, lo, xs, r, o, es, ep, k o e, c⟩
theorem nO_ok {P : Program} {w : World} {H : Hp} {a : Addr} {kas : List KAV} {h : Heap} (n : NT P w a kas h) : ObjOk P w H h a (nO P w a kas) := by
  refine ⟨n, ?_, NT.stay⟩
  obtain ⟨_, _, _, _, o, _, _, e, _⟩ := n
  exact ⟨o, e⟩
/-- such a dict stands at a -/
structure ND (P : Program) (w : World) (H : Hp) (a : Addr) (kas : List KAV) : Prop where
  at_ : H a = some (nO P w a kas)
  keys : ∀ p ∈ kas, Rp H (.ref p.2.1) p.1.data ∧ p.1.depth ≤ 8
def nGet (kas : List KAV) (k : NestedKey) : Option V := (kas.find? fun p => decide (p.1 = k)).map fun p => p.2.2
def nPut (kas : List KAV) (k : NestedKey) (b : Addr) (v : V) : List KAV := if (nGet kas k).isSome then kas.map (fun p => if p.1 = k then (p.1, p.2.1, v) else p) else kas ++ [(k, b, v)]
abbrev KR : List KAV → List (NestedKey × Addr × Value) → Prop := Paired (fun (p : KAV) (q : NestedKey × Addr × Value) => p.1 = q.1 ∧ p.2.1 = q.2.1 ∧ RelV p.2.2 q.2.2)
theorem KR.get {kas : List KAV} {xs : List (NestedKey × Addr × Value)} (r : KR kas xs) (k : NestedKey) : RelO (nGet kas k) ((atKey xs k).map (·.2)) := by
  unfold KR at r
  induction r with
  | nil => exact True.intro
  | @cons p q ps qs h t ih =>
    obtain ⟨h1, _, h2⟩ := h
    by_cases e : p.1 = k
    · have e' : q.1 = k := h1.symm.trans e
      have a : nGet (p :: ps) k = some p.2.2 := by simp [nGet, List.find?_cons, e]
      have b : atKey (q :: qs) k = some q.2 := by simp [atKey, List.find?_cons, e']
      rw [a, b]
      exact h2
    · have e' : ¬ q.1 = k := fun z => e (h1.trans z)
      have a : nGet (p :: ps) k = nGet ps k := by simp [nGet, List.find?_cons, e]
      have b : atKey (q :: qs) k = atKey qs k := by simp [atKey, List.find?_cons, e']
      rw [a, b]
      exact ih
theorem KR.repl {kas : List KAV} {xs : List (NestedKey × Addr × Value)} (r : KR kas xs) (k : NestedKey) {y : V} {u : Value} (ry : RelV y u) : KR (kas.map (fun p => if p.1 = k then (p.1, p.2.1, y) else p)) (xs.map (putAt k u)) := by
  unfold KR at r ⊢
  induction r with
  | nil => exact .nil
  | @cons p q ps qs h t ih =>
    rw [List.map_cons, List.map_cons]
    refine .cons ?_ ih
    obtain ⟨h1, h2, h3⟩ := h
    unfold putAt
    by_cases e : p.1 = k
    · rw [if_pos e, if_pos (h1.symm.trans e)]
      exact ⟨h1, h2, ry⟩
    · rw [if_neg e, if_neg (fun z => e (h1.trans z))]
      exact ⟨h1, h2, h3⟩
theorem KR.put {kas : List KAV} {xs : List (NestedKey × Addr × Value)} (r : KR kas xs) (k : NestedKey) (b : Addr) {y : V} {u : Value} (ry : RelV y u) : KR (nPut kas k b y) (storedH xs k b u) := by
  have e : (nGet kas k).isSome = (atKey xs k).isSome := by rw [(r.get k).isSome_eq, Option.isSome_map]
  unfold nPut storedH
  rw [e]
  by_cases q : (atKey xs k).isSome = true
  · rw [if_pos q, if_pos q]
    exact r.repl k ry
  · rw [if_neg q, if_neg q]
    exact Paired.snoc r ⟨rfl, rfl, ry⟩
theorem nPut_len (kas : List KAV) (k : NestedKey) (b : Addr) (v : V) : (nPut kas k b v).length ≤ kas.length + 1 := by
  unfold nPut
  split
  · rw [List.length_map]; omega
  · rw [List.length_append, List.length_cons, List.length_nil]; omega
theorem nPut_mem {kas : List KAV} {k : NestedKey} {b : Addr} {v : V} {p : KAV} (h : p ∈ nPut kas k b v) : (∃ q ∈ kas, p.1 = q.1 ∧ p.2.1 = q.2.1) ∨ (p.1 = k ∧ p.2.1 = b) := by
  unfold nPut at h
  split at h
  · obtain ⟨q, hq, e⟩ := List.mem_map.mp h
    refine .inl ⟨q, hq, ?_⟩
    subst e
    split <;> exact ⟨rfl, rfl⟩
  · rcases List.mem_append.mp h with h | h
    · exact .inl ⟨p, h, rfl, rfl⟩
    · have e := List.mem_singleton.mp h
      subst e
      exact .inr ⟨rfl, rfl⟩
theorem ND.ne_tp {P : Program} {w : World} {H : Hp} {a : Addr} {kas : List KAV} (d : ND P w H a kas) : ¬ IsTp (H a) := by rw [d.at_]; exact id
section
variable {X : Cx} {pins : List (Addr × Obj)} {σ : L2.St} {H : Hp} {s : Shared} {a b : Addr} {kas : List KAV} {k : NestedKey} {A : Around} {E : Value → Shared → Prop} {v : V} {r : Value}
theorem nd_of (I : Inv X pins σ H s) (d : ND X.prog X.w H a kas) : kas.length ≤ sizeLine ∧ (a == sysModules) = false ∧ ∃ xs, KR kas xs ∧ s.heap.DictOfH (nestedKind X.prog X.w) a xs := by
  obtain ⟨⟨z, lo, xs, r, o, es, ep, h1, h2, h3, h4, h5⟩, _⟩ := (show ObjOk X.prog X.w H s.heap a (nO X.prog X.w a kas) from I.hok a _ d.at_)
  refine ⟨z, lo, xs, r, o, es, ep, h1, h2, h3, h4, fun x hx => ?_, h5⟩
  have all : ∀ {l : List KAV} {m : List (NestedKey × Addr × Value)}, KR l m → (∀ p ∈ l, Rp H (.ref p.2.1) p.1.data ∧ p.1.depth ≤ 8) → ∀ x ∈ m, (nestedKind X.prog X.w).is s.heap x.1 x.2.1 := by
    intro l m q
    unfold KR at q
    induction q with
    | nil => intro _ x hx; exact nomatch hx
    | @cons p q ps qs hq t ih =>
      intro hk x hx
      rcases List.mem_cons.mp hx with e | hx
      · subst e
        have h := hk p (List.mem_cons_self ..)
        rw [← hq.1, ← hq.2.1]
        exact nk_is I h.1 h.2
      · exact ih (fun p hp => hk p (List.mem_cons_of_mem _ hp)) x hx
  exact all r d.keys x hx
theorem room_in1 (hu : A.units + 9 < cLine) : (nestedKind X.prog X.w).room A.in1 := by
  show A.units + 1 + 8 < cLine
  omega
theorem room_at (hu : A.units + 9 < cLine) : (nestedKind X.prog X.w).room A := by
  show A.units + 8 < cLine
  omega
theorem n_getItem {Q : Value → Shared → Prop} (hu : A.units + 9 < cLine) (I : Inv X pins σ H s) (d : ND X.prog X.w H a kas) (hk : Rp H (.ref b) k.data) (hd : k.depth ≤ 8) (hv : nGet kas k = some v) (h : ∀ w' s', Inv X pins σ H s' → RelV v w' → Q w' s') :
    wpAny (model X.prog X.w) A (getItem (.ref a) (.ref b)) Q E s := by
  obtain ⟨z, lo, xs, rel, dd⟩ := nd_of I d
  obtain ⟨w', hw, rw'⟩ := RelO.some_of (v := v) (o := (atKey xs k).map (·.2)) (by rw [← hv]; exact rel.get k)
  obtain ⟨p, hp, hp2⟩ := Option.map_eq_some_iff.mp hw
  refine wpAny_getItem_heap (room_in1 hu) (nk_is I hk hd) dd hp ?_
  rw [hp2]
  exact h w' _ (I.tok _) rw'
theorem n_in {Q : Value → Shared → Prop} (hu : A.units + 9 < cLine) (I : Inv X pins σ H s) (d : ND X.prog X.w H a kas) (hk : Rp H (.ref b) k.data) (hd : k.depth ≤ 8) (h : ∀ s', Inv X pins σ H s' → Q (.bool (nGet kas k).isSome) s') :
    wpAny (model X.prog X.w) A (compareOp .In (.ref b) (.ref a)) Q E s := by
  obtain ⟨z, lo, xs, rel, dd⟩ := nd_of I d
  refine wpAny_in_heap (room_in1 hu) (nk_is I hk hd) lo dd ?_
  have q := (rel.get k).isSome_eq
  rw [Option.isSome_map] at q
  rw [← q]
  exact h _ (I.tok _)
theorem n_notIn {Q : Value → Shared → Prop} (hu : A.units + 9 < cLine) (I : Inv X pins σ H s) (d : ND X.prog X.w H a kas) (hk : Rp H (.ref b) k.data) (hd : k.depth ≤ 8) (h : ∀ s', Inv X pins σ H s' → Q (.bool (!(nGet kas k).isSome)) s') :
    wpAny (model X.prog X.w) A (compareOp .NotIn (.ref b) (.ref a)) Q E s := by
  obtain ⟨z, lo, xs, rel, dd⟩ := nd_of I d
  refine wpAny_notIn_heap (room_in1 hu) (nk_is I hk hd) lo dd ?_
  have q := (rel.get k).isSome_eq
  rw [Option.isSome_map] at q
  rw [← q]
  exact h _ (I.tok _)
theorem n_write {h' : Heap} {t' : Nat} {kas' : List KAV} {xs : List (NestedKey × Addr × Value)} (I : Inv X pins σ H s) (d : ND X.prog X.w H a kas) (z : kas'.length ≤ sizeLine) (lo : (a == sysModules) = false) (rel : KR kas' xs) (dd : h'.DictOfH (nestedKind X.prog X.w) a xs) (hs : Heap.SameBut a s.heap h') :
    Inv X pins σ (upd H a (nO X.prog X.w a kas')) { s with heap := h', toks := t' } := by
  obtain ⟨q, es, ep, hq, h2, h3, h4, _, h5⟩ := dd
  refine d_write I (by rw [d.at_]; exact True.intro) hs ⟨q, hq⟩ (nO_ok ⟨z, lo, xs, rel, q, es, ep, hq, h2, h3, h4, h5⟩)
theorem n_setItem {Q : Unit → Shared → Prop} (hu : A.units + 9 < cLine) (I : Inv X pins σ H s) (d : ND X.prog X.w H a kas) (hk : Rp H (.ref b) k.data) (hd : k.depth ≤ 8) (hl : kas.length < sizeLine) (rv : RelV v r)
    (h : ∀ s', Inv X pins σ (upd H a (nO X.prog X.w a (nPut kas k b v))) s' → Q () s') : wpAny (model X.prog X.w) A (setItem (.ref a) (.ref b) r) Q E s := by
  obtain ⟨z, lo, xs, rel, dd⟩ := nd_of I d
  have hz : xs.length ≤ sizeLine := by rw [← Paired.length rel]; exact z
  refine wpAny_setItem_heap (hsz := hz) (room_in1 hu) (nk_is I hk hd) dd fun h' dd' hs => h _ ?_
  exact n_write I d (by have := nPut_len kas k b v; omega) lo (rel.put k b rv) dd' hs
/-- the dict behind a store -/
theorem ND.put {P : Program} {w : World} (d : ND P w H a kas) (hk : Rp H (.ref b) k.data) (hd : k.depth ≤ 8) : ND P w (upd H a (nO P w a (nPut kas k b v))) a (nPut kas k b v) := by
  have ts : TpS H (upd H a (nO P w a (nPut kas k b v))) := (TpS.refl H).upd d.ne_tp
  refine ⟨upd_same, fun p hp => ?_⟩
  rcases nPut_mem hp with ⟨q, hq, e1, e2⟩ | ⟨e1, e2⟩
  · rw [e1, e2]
    exact ⟨Rp.ts ts _ _ (d.keys q hq).1, (d.keys q hq).2⟩
  · rw [e1, e2]
    exact ⟨Rp.ts ts _ _ hk, hd⟩
theorem ND.ts {P : Program} {w : World} {H' : Hp} (d : ND P w H a kas) (s : TpS H H') (e : H' a = H a) : ND P w H' a kas := ⟨e.trans d.at_, fun p hp => ⟨Rp.ts s _ _ (d.keys p hp).1, (d.keys p hp).2⟩⟩
theorem ND.same {P : Program} {w : World} {H' : Hp} (d : ND P w H a kas) (s : Same H H') : ND P w H' a kas := ⟨s _ _ d.at_, fun p hp => ⟨(d.keys p hp).1.to s, (d.keys p hp).2⟩⟩
theorem n_typeIs (I : Inv X pins σ H s) (d : ND X.prog X.w H a kas) : s.TypeIs (.ref a) "dict" := by
  obtain ⟨_, _, xs, _, dd⟩ := nd_of I d
  exact dd.typeIs
theorem n_empty (h : Heap) (hb : sysModules < h.objs.size) : ObjOk X.prog X.w H (h.push { cls := .type "dict", data := .dict #[] }) h.objs.size (nO X.prog X.w h.objs.size []) :=
  nO_ok ⟨Nat.zero_le _, beq_eq_false_iff_ne.mpr (Ne.symm (Nat.ne_of_lt hb)), [], .nil, _, #[], 0, Heap.get?_push_size _ rfl, ⟨rfl, rfl, rfl⟩, rfl, rfl, List.nodup_nil⟩
theorem ND.empty {P : Program} {w : World} {p : Addr} : ND P w (upd H p (nO P w p [])) p [] := ⟨upd_same, fun _ h => nomatch h⟩
end
theorem Dict_pairsO {prog : Program} {w : World} {A : Around} {E : Value → Shared → Prop} {s : Shared} {knd : HeapKind prog w NestedKey} {env : Env} {keys : List (Option Expr)} {values : List Expr} {pos : Pos} {pairs : List (Sem Value × Sem Value)} {Q : Value → Shared → Prop} (hu : knd.room A)
    (hshape : (evalEachOpt keys env).zip ((evalEach values env).map fun v => do let x ← v; standAt pos; pure x) = pairs.map fun p => (some p.1, p.2)) (h0 : pairs ≠ []) (hlen : pairs.length ≤ 15)
    (h : wpAny (model prog w) A (evalPairs pairs) (fun vs s₁ => ∃ ps, CarriesH knd s₁.heap vs ps ∧ s₁.heap.DictOfH knd s.heap.objs.size [] ∧
      ∀ h' tk, h'.DictOfH knd s.heap.objs.size (storedAllH [] ps) → Heap.SameBut s.heap.objs.size s₁.heap h' → Q (.ref s.heap.objs.size) { s₁ with heap := h', toks := tk }) E
      { s with heap := s.heap.push { cls := .type "dict", data := .dict #[] } }) :
    wpAny (model prog w) A (eval (.Dict keys values pos) env) Q E s := by
  rw [arm_eval_Dict, hshape, dictDisplay_pairs pairs h0 (by omega)]
  exact wpAny_bind (wpAny_standAt (wpAny_bind (wpAny_subDictH (knd := knd) (Q := fun d s' => wpAny (model prog w) A (pure (Value.ref d)) Q E s') hu hlen
    (wpAny_mono h (fun vs s₁ h₁ => by obtain ⟨ps, hc, hm, hq⟩ := h₁; exact ⟨ps, hc, hm, fun h' tk a b => wpAny_pure (hq h' tk a b)⟩) fun _ _ e => e))))
/-! ### readings and rules -/
def tNGet (P : Program) (w : World) (td ty : TE) : TE := fun σ H Q => td σ H fun x H1 => ty σ H1 fun y H2 => ∃ a b kas k v, x = .ref a ∧ y = .ref b ∧ ND P w H2 a kas ∧ Rp H2 (.ref b) k.data ∧ k.depth ≤ 8 ∧ nGet kas k = some v ∧ Q v H2
def tNIn (P : Program) (w : World) (ty td : TE) : TE := fun σ H Q => ty σ H fun y H1 => td σ H1 fun x H2 => ∃ a b kas k, x = .ref a ∧ y = .ref b ∧ ND P w H2 a kas ∧ Rp H2 (.ref b) k.data ∧ k.depth ≤ 8 ∧ Q (.bl (nGet kas k).isSome) H2
def tNNotIn (P : Program) (w : World) (ty td : TE) : TE := fun σ H Q => ty σ H fun y H1 => td σ H1 fun x H2 => ∃ a b kas k, x = .ref a ∧ y = .ref b ∧ ND P w H2 a kas ∧ Rp H2 (.ref b) k.data ∧ k.depth ≤ 8 ∧ Q (.bl (!(nGet kas k).isSome)) H2
def sNPut (P : Program) (w : World) (td ty tv : TE) : TS := fun D σ H => tv σ H fun v H1 => td σ H1 fun x H2 => ty σ H2 fun y H3 => ∃ a b kas k, x = .ref a ∧ y = .ref b ∧ ND P w H3 a kas ∧ Rp H3 (.ref b) k.data ∧ k.depth ≤ 8 ∧ kas.length < sizeLine ∧ D.nx σ (upd H3 a (nO P w a (nPut kas k b v)))
def tNDisp (P : Program) (w : World) (tk tv : TE) : TE := fun σ H Q => ∀ p, H p = none → tk σ (upd H p (nO P w p [])) fun y H1 => tv σ H1 fun v H2 => ∃ b k, y = .ref b ∧ H2 p = some (nO P w p []) ∧ Rp H2 (.ref b) k.data ∧ k.depth ≤ 8 ∧ Q (.ref p) (upd H2 p (nO P w p [(k, b, v)]))
def tNNew (P : Program) (w : World) : TE := fun _ H Q => ∀ p, H p = none → Q (.ref p) (upd H p (nO P w p []))
section
variable {X : Cx} {o i e value : Expr} {pos pos' tpos : Pos} {td ty tv : TE}
theorem pe_nget (hu : X.A.units + 9 < cLine) (ho : PE X o td) (hi : PE X i ty) (hs : NoSl i) : PE X (.Subscript o i pos) (tNGet X.prog X.w td ty) := by
  refine ⟨fun pins s σ H Q I h => ?_⟩
  refine subD_of PySem.F.slot_dict_getitem.lookup hs (thn (ho.run pins s σ H _ I h) fun u s1 ⟨x, H1, I1, rx, q1⟩ => thn (hi.run pins s1 σ H1 _ I1 q1) fun iv s2 ⟨y, H2, I2, ry, a, b, kas, k, v, ex, ey, d, hk, hd, hv, q2⟩ => ?_)
  subst ex ey
  obtain rfl : u = Value.ref a := rx
  obtain rfl : iv = Value.ref b := ry
  exact ⟨n_typeIs I2 d, n_getItem hu I2 d hk hd hv fun w' s3 I3 rw' => ⟨v, H2, I3, rw', q2⟩⟩
theorem pc_nin (hu : X.A.units + 9 < cLine) (hi : PE X i ty) (ho : PE X o td) : PC X .In i o (tNIn X.prog X.w ty td) := by
  refine ⟨fun pins s σ H Q I h => ?_⟩
  refine thn (hi.run pins s σ H _ I h) fun iv s1 ⟨y, H1, I1, ry, q1⟩ => thn (ho.run pins s1 σ H1 _ I1 q1) fun u s2 ⟨x, H2, I2, rx, a, b, kas, k, ex, ey, d, hk, hd, q2⟩ => ?_
  subst ex ey
  obtain rfl : u = Value.ref a := rx
  obtain rfl : iv = Value.ref b := ry
  exact n_in hu I2 d hk hd fun s3 I3 => ⟨.bl _, H2, I3, rfl, q2⟩
theorem pc_nnotin (hu : X.A.units + 9 < cLine) (hi : PE X i ty) (ho : PE X o td) : PC X .NotIn i o (tNNotIn X.prog X.w ty td) := by
  refine ⟨fun pins s σ H Q I h => ?_⟩
  refine thn (hi.run pins s σ H _ I h) fun iv s1 ⟨y, H1, I1, ry, q1⟩ => thn (ho.run pins s1 σ H1 _ I1 q1) fun u s2 ⟨x, H2, I2, rx, a, b, kas, k, ex, ey, d, hk, hd, q2⟩ => ?_
  subst ex ey
  obtain rfl : u = Value.ref a := rx
  obtain rfl : iv = Value.ref b := ry
  exact n_notIn hu I2 d hk hd fun s3 I3 => ⟨.bl _, H2, I3, rfl, q2⟩
theorem ps_nput (hu : X.A.units + 9 < cLine) (ho : PE X o td) (hi : PE X i ty) (hv : PE X value tv) (hs : swapsWith value (some (.Subscript o i pos')) pos.line X.env = pure false) :
    PS X (.Assign [.Subscript o i pos'] value pos) (sNPut X.prog X.w td ty tv) := by
  refine ⟨fun pins s σ H D I h => ?_⟩
  refine wpAny_Assign_Subscript (thn (hv.run pins s σ H _ I h) fun r s1 ⟨v, H1, I1, rv, q1⟩ => thn (ho.run pins s1 σ H1 _ I1 q1) fun u s2 ⟨x, H2, I2, rx, q2⟩ => thn (hi.run pins s2 σ H2 _ I2 q2) fun iv s3 ⟨y, H3, I3, ry, a, b, kas, k, ex, ey, d, hk, hd, hl, q3⟩ => ?_) hs
  subst ex ey
  obtain rfl : u = Value.ref a := rx
  obtain rfl : iv = Value.ref b := ry
  exact n_setItem hu I3 d hk hd hl rv fun s4 I4 => ⟨σ, _, I4, q3⟩
theorem pe_nnew : PE X (.Dict [] [] pos) (tNNew X.prog X.w) := ⟨fun pins s σ H Q I h =>
  wpAny_Dict_empty ⟨.ref s.heap.objs.size, _, I.laid (a := s.heap.objs.size) (o := nO X.prog X.w s.heap.objs.size []) (t' := s.toks) (fun _ _ q => Heap.get?_push_of_some _ q) (Nat.le_refl _) (n_empty s.heap I.big), rfl, h _ (I.hok.fresh (Nat.le_refl _))⟩⟩
/-- {k: v} -/
theorem pe_ndisp (hu : X.A.units + 9 < cLine) (hk : PE X o td) (hv : PE X value tv)
    (hsh : (evalEachOpt [some o] X.env).zip ((evalEach [value] X.env).map fun v => do let x ← v; standAt pos; pure x) = [((eval o X.env), (do let x ← eval value X.env; standAt pos; pure x))].map fun p => (some p.1, p.2) := by rfl) : PE X (.Dict [some o] [value] pos) (tNDisp X.prog X.w td tv) := by
  refine ⟨fun pins s σ H Q I h => ?_⟩
  have hn := I.hok.fresh (Nat.le_refl s.heap.objs.size)
  have I1 := I.laid (a := s.heap.objs.size) (o := nO X.prog X.w s.heap.objs.size []) (h' := s.heap.push { cls := .type "dict", data := .dict #[] }) (t' := s.toks) (fun _ _ q => Heap.get?_push_of_some _ q) (Nat.le_refl _) (n_empty s.heap I.big)
  refine Dict_pairsO (knd := nestedKind X.prog X.w) (room_at hu) hsh (by simp) (by simp) ?_
  have P := pps_cons (pos := pos) hk hv (pps_nil (X := X) (pos := pos))
  have R := P.run pins { s with heap := s.heap.push { cls := .type "dict", data := .dict #[] } } σ (upd H s.heap.objs.size (nO X.prog X.w s.heap.objs.size [])) (fun ps H2 => match ps with
    | [(y, v)] => ∃ b k, y = .ref b ∧ H2 s.heap.objs.size = some (nO X.prog X.w s.heap.objs.size []) ∧ Rp H2 (.ref b) k.data ∧ k.depth ≤ 8 ∧ Q (.ref s.heap.objs.size) (upd H2 s.heap.objs.size (nO X.prog X.w s.heap.objs.size [(k, b, v)]))
    | _ => False) I1 (h _ hn)
  refine thn R fun vs s1 ⟨ps, H2, I2, rel, q⟩ => ?_
  match ps, rel, q with
  | [(y, v)], rel, q =>
    obtain ⟨b, k, e1, e3, e4, e5, q⟩ := q
    subst e1
    cases rel with
    | @cons p u ps us r rr =>
      cases rr
      obtain ⟨uk, uv⟩ := u
      obtain ⟨r1, r2⟩ := r
      obtain rfl : uk = Value.ref b := r1
      have d : ND X.prog X.w H2 s.heap.objs.size [] := ⟨e3, fun _ h => nomatch h⟩
      obtain ⟨z, lo, xs, rel0, dd⟩ := nd_of I2 d
      cases rel0
      refine ⟨[(k, b, uv)], ⟨rfl, rfl, nk_is I2 e4 e5, True.intro⟩, dd, fun h' tk dd' hs => ⟨.ref s.heap.objs.size, _, ?_, rfl, q⟩⟩
      exact n_write I2 d (by show 1 ≤ sizeLine; decide) lo (.cons ⟨rfl, rfl, r2⟩ .nil) dd' hs
/-- len(d) -/
theorem call_lenN : CallR X (.builtin "len") (fun xs H Q => ∃ a kas, xs = [.ref a] ∧ ND X.prog X.w H a kas ∧ Q (.int ((kas.length : Nat) : Int)) H) := by
  intro pins s σ H xs us Q I r h
  obtain ⟨a, kas, rfl, d, q⟩ := h
  obtain ⟨u, rfl, rx⟩ := vals1 r
  obtain rfl : u = .ref a := rx
  obtain ⟨z, lo, xs, rel, dd⟩ := nd_of I d
  have hl : kas.length = xs.length := Paired.length rel
  refine call_len_dictH lo dd (by rw [sizeLine_eq] at z; omega) ?_
  refine ⟨.int ((kas.length : Nat) : Int), H, I.tok _, ?_, q⟩
  rw [hl]
  exact ⟨_, rfl⟩
/-- list(d): the keys' own tuples -/
theorem call_listN (hc : X.calm = true) : CallR X (.type "list") (fun xs H Q => ∃ a kas, xs = [.ref a] ∧ ND X.prog X.w H a kas ∧ ∀ p, H p = none → Q (.ref p) (upd H p (.lst (kas.map fun k => V.ref k.2.1)))) := by
  intro pins s σ H xs us Q I r h
  obtain ⟨d, kas, rfl, nd, q⟩ := h
  obtain ⟨u, rfl, rx⟩ := r.one
  cases rx
  obtain ⟨z, hs, ks, pr, o, es, ep, ho, hx, hdt, he, _, hn⟩ := nd_of I nd
  have l1 : es.size = ks.length := by
    have q := congrArg List.length he
    simpa using q
  have l2 : kas.length = ks.length := Paired.length pr
  refine PySem.W.kdl_call (kdl_raw hs hx hdt) (I.ok.hd hc) ho (by omega) fun h' tk acc' c' kp e it => ?_
  have ea : acc'.toList = ks.map fun x => Value.ref x.2.1 := by
    have hl : acc'.toList.length = ks.length := by rw [Array.length_toList, it.1]; exact l1
    apply List.ext_getElem?
    intro j
    rw [List.getElem?_map]
    cases hj : acc'.toList[j]? with
    | none =>
      have h1 := List.getElem?_eq_none_iff.mp hj
      rw [List.getElem?_eq_none (by omega)]
      all_goals rfl
    | some v =>
      obtain ⟨en, hen, hv⟩ := it.2 j v (by rw [← Array.getElem?_toList]; exact hj)
      have qe : es.toList[j]? = (ks[j]?).map (entryOfKey (nestedKind X.prog X.w)) := by rw [he, List.getElem?_map]
      rw [Array.getElem?_toList, hen] at qe
      cases hb : ks[j]? with
      | none =>
        rw [hb] at qe
        exact nomatch (show some en = none from qe)
      | some b =>
        rw [hb] at qe
        have e2 : en = entryOfKey (nestedKind X.prog X.w) b := Option.some.inj qe
        rw [hv, e2]
        all_goals rfl
  have rv : Vals (kas.map fun k => V.ref k.2.1) acc'.toList := by
    rw [ea]
    have all : ∀ {l : List KAV} {m : List (NestedKey × Addr × Value)}, KR l m → Vals (l.map fun k => V.ref k.2.1) (m.map fun x => Value.ref x.2.1) := by
      intro l m q
      unfold KR at q
      induction q with
      | nil => exact .nil
      | @cons p q ps qs hq t ih =>
        refine .cons ?_ ih
        show V.ref p.2.1 |> fun x => L2.RelV x (Value.ref q.2.1)
        show Value.ref q.2.1 = Value.ref p.2.1
        rw [hq.2.1]
    exact all pr
  refine ⟨.ref s.heap.objs.size, upd H s.heap.objs.size (.lst (kas.map fun k => V.ref k.2.1)), I.laid kp (Nat.le_refl _) (show ObjOk X.prog X.w _ _ _ (.lst (kas.map fun k => V.ref k.2.1)) from ⟨?_, acc'.toList, c', rv, ?_⟩), rfl, q _ (I.hok.fresh (Nat.le_refl _))⟩
  · rw [List.length_map]
    exact z
  · rw [Array.toArray_toList]
    exact e
end
end Nc

-- E3
set_option maxHeartbeats 4000000
namespace Nc
open PySem PySem.Spec PyProof.Rows L2
/-! ### a module's int; a product whose right factor is small -/
theorem pe_gint {X : Cx} {x : Str} {i : Int} {pos : Pos} (hg : Gl X x) (hm : ∃ t, X.mg x = some (.int i t)) (hd : (x == ("__debug__" : Str)) = false := by decide) : PE X (.Name x pos) (tC (.int i)) := by
  obtain ⟨t, hm⟩ := hm
  exact pe_glob hg hm ⟨t, rfl⟩ hd
def CMulR (_ j : Int) : Prop := -(2 ^ 64) < j ∧ j < 2 ^ 64
theorem op_mulR {X : Cx} : OpR X (binaryOp .Mult) (rI CMulR fun i j => .int (i * j)) := opI fun _ _ _ _ _ _ _ hc q => mul_int q (.of_right (intBits_le_64 hc.1 hc.2))
/-! ### a, b = a list -/
section
variable {prog : Program} {w : World} {A : Around} {E : Value → Shared → Prop} {s : Shared}
theorem draw_list {it t : Addr} {items : Array Value} (hne : t ≠ it) : ∀ (n i : Nat) (s : Shared) (Q : List Value → Shared → Prop), s.heap.IsListIter it t i → s.heap.IsList t items → i + n ≤ items.size →
    (∀ h', h'.IsListIter it t (i + n) → Heap.SameBut it s.heap h' → Q ((items.toList.drop i).take n) { s with heap := h' }) → wpAny (model prog w) A (draw (.ref it) n) Q E s
  | 0, i, s, Q, hit, _, _, hQ => by
    show wpAny _ _ (pure []) Q E s
    exact wpAny_pure (by simpa using hQ s.heap hit (Heap.SameBut.refl ..))
  | n + 1, i, s, Q, hit, ht, hle, hQ => by
    have hlt : i < items.size := by omega
    show wpAny _ _ (pyNext (.ref it) >>= _) Q E s
    refine wpAny_bind (wpAny_pyNext_list_item hit ht (x := items[i]) (by simp [hlt]) fun h₁ hit₁ hs₁ => ?_)
    have ht₁ : h₁.IsList t items := ht.extBut hs₁.extBut hne
    refine wpAny_bind (wpAny_holding (draw_list hne n (i + 1) _ _ hit₁ ht₁ (by omega) fun h₂ hit₂ hs₂ => wpAny_pure ?_))
    have hd : items.toList.drop i = items[i] :: items.toList.drop (i + 1) := by simp [List.drop_eq_getElem_cons, hlt]
    have := hQ h₂ (by rw [show i + (n + 1) = i + 1 + n by omega]; exact hit₂) (hs₁.trans hs₂)
    rw [hd, List.take_succ_cons] at this
    exact this
theorem unpackItems_list {t : Addr} {items : Array Value} {Q : List Value → Shared → Prop} (hh : A.handled = none) (ht : s.heap.IsList t items)
    (hQ : ∀ h', Heap.ExtBut s.heap.objs.size s.heap h' → Q items.toList { s with heap := h' }) : wpAny (model prog w) A (unpackItems (.ref t) items.size none) Q E s := by
  have hlt : t ≠ s.heap.objs.size := by obtain ⟨o, ho, _⟩ := ht; exact Nat.ne_of_lt (Heap.lt_size ho)
  have hT : s.TypeIs (.ref t) "list" := by obtain ⟨o, ho, hc, _⟩ := ht; exact ⟨o, ho, hc⟩
  unfold unpackItems
  refine wpAny_bind ?_
  · unfold notIterableAtAll
    refine wpAny_bind (wpAny_specialOf hT PySem.F.slot_list_iter.lookup ?_)
    refine wpAny_pure ?_
    simp only [Bool.false_eq_true, if_false]
    refine wpAny_bind (wpAny_holding (wpAny_pyIter_list ht ?_))
    have ht0 : (s.heap.push { cls := .type "list_iterator", data := .fields #[.ref t, .int 0 0] }).IsList t items := ht.at fun o e => Heap.get?_push_of_some _ e
    refine wpAny_bind (wpAny_holding (draw_list hlt items.size 0 _ _ ⟨_, Heap.get?_push_size _ rfl, rfl, rfl⟩ ht0 (by omega) fun h₁ hit₁ hs₁ => ?_))
    have hall : List.take items.size (List.drop 0 items.toList) = items.toList := by
      rw [List.drop_zero]; exact List.take_of_length_le (by simp)
    rw [hall]
    rw [if_neg (by simp)]
    have ht₁ : h₁.IsList t items := ht0.extBut hs₁.extBut hlt
    refine wpAny_bind (wpAny_holding (wpAny_pyNext_list_end hh hit₁ ht₁ (by simp) fun h₂ he₂ => ?_))
    simp only [Option.isSome_none, Bool.false_eq_true, if_false]
    refine wpAny_pure (hQ h₂ fun b o hb e => he₂ b o hb (hs₁.extBut b o hb (Heap.get?_push_of_some _ e)))
theorem assign_Tuple_list {env : PySem.Env} {elts : List Expr} {x1} {pos : Pos} {t : Addr} {items : Array Value} {Q : Unit → Shared → Prop} (hh : A.handled = none) (ht : s.heap.IsList t items)
    (hn : (assignEach elts env).length = items.size) (hstar : (assignEach elts env).findIdx? (·.1) = none)
    (h : ∀ h', Heap.ExtBut s.heap.objs.size s.heap h' → wpAny (model prog w) A (assignInOrder ((assignEach elts env).map (·.2)) items.toList) Q E { s with heap := h' }) :
    wpAny (model prog w) A (assign (.Tuple elts x1 pos) env (.ref t)) Q E s := by
  rw [assign_Tuple]
  refine wpAny_bind (wpAny_standAt ?_)
  unfold unpack
  rw [hn, hstar]
  exact wpAny_bind (wpAny_holding (unpackItems_list hh ht h))
end
def gLst (K : PySem.W.Frag) (n : Nat) (t : TGs) : TG := fun v σ H Q => ∃ a xs, v = .ref a ∧ SqL K H a xs ∧ xs.length = n ∧ t xs σ H Q
theorem pg_lst {X : Cx} {pos : Pos} {es : List Expr} {k : Nat} {t : TGs} {n : Nat} (hc : X.calm = true) (h : PGs X es t)
    (hn : (assignEach es X.env).length = n := by rfl) (hst : (assignEach es X.env).findIdx? (·.1) = none := by rfl) : PG X (.Tuple es k pos) (gLst X.K n t) := by
  refine ⟨fun pins s σ H v u Q I r hw => ?_⟩
  obtain ⟨a, xs, e1, hq, hl, hw⟩ := hw
  subst e1
  cases r
  obtain ⟨its, rv, ht, hz⟩ := I.list hq
  refine assign_Tuple_list (I.ok.hd hc) ht.isList (by simp [hn, ← hl, rv.length]) hst fun h' hx => ?_
  have I1 : L2.Inv X pins σ H { s with heap := h' } := I.kept (t' := s.toks) fun b o e => hx b o (Nat.ne_of_lt (Heap.lt_size e)) e
  exact h.run pins _ σ H xs _ Q I1 (by simpa using rv) hw
/-! ### enumerate(t), t a tuple -/
set_option maxHeartbeats 1000000 in
theorem meets_enum1 {v : Value} {o : Obj} {H : Heap → Prop} (B : Begins v o H) :
    Meets (Builtin.«enumerate.__new__» ⟨[.type "enumerate", v], []⟩) (fun _ R s => H s.heap ∧
      R (.ok (.ret (.ref (s.heap.push o).objs.size))) { s with heap := (s.heap.push o).push { cls := .type "enumerate", data := .fields #[.none, .bool false, .ref s.heap.objs.size, rawInt 0, .none, .none] } }) :=
  .of_wp fun prog w A R s h => by
    obtain ⟨hp, g, d, tk, os⟩ := s; obtain ⟨h1, h⟩ := h
    have hsub := sub_enumerate
    have q1 : ∀ {A' : Around} {E : Value → Shared → Prop} {Q : Value → Shared → Prop}, Q (.ref hp.objs.size) ⟨hp.push o, g, d, tk, os⟩ → wpAny (model prog w) A' (pyIter v) Q E ⟨hp, g, d, tk, os⟩ :=
      fun q => B.iter prog w _ _ ⟨hp, g, d, tk, os⟩ _ h1 q
    wp_walk using q1
    refine wpAny_stack_any fun st => wpAny_pure ?_
    split
    · rename_i c _ _ _ _ _
      cases (c == Value.type "enumerate")
      · wp_walk using q1
        exact ⟨_, rfl, h⟩
      · wp_walk using q1
        exact ⟨_, rfl, h⟩
    · wp_walk using q1
      exact ⟨_, rfl, h⟩
theorem enum_begins1 {prog : Program} {w : World} {A : Around} {E : Value → Shared → Prop} {s : Shared} {v : Value} {o : Obj} {H : Heap → Prop} {Q : Value → Shared → Prop} (B : Begins v o H) (h1 : H s.heap)
    (h : ∀ h', IsEnum h' (s.heap.objs.size + 1) s.heap.objs.size 0 .none → h'.get? s.heap.objs.size = some o → h'.objs.size = s.heap.objs.size + 2 →
      (∀ b o, s.heap.get? b = some o → h'.get? b = some o) → Q (.ref (s.heap.objs.size + 1)) { s with heap := h' }) :
    wpAny (model prog w) A (call (.type "enumerate") [v]) Q E s := by
  refine callType_new PySem.F.called_enumerate (by decide) (PySem.F.typeCall_enumerate_1 _) (PySem.F.newCall_enumerate_1 _) (fun obj => PySem.F.args_object_init_2 obj _) PySem.F.entry_enumerate_new
    (meets_enum1 B) ⟨h1, ?_⟩
  have hz : (s.heap.push o).objs.size = s.heap.objs.size + 1 := Heap.size_push ..
  show _ ∧ _
  rw [hz]
  have he : IsEnum ((s.heap.push o).push { cls := .type "enumerate", data := .fields #[.none, .bool false, .ref s.heap.objs.size, rawInt 0, .none, .none] }) (s.heap.objs.size + 1) s.heap.objs.size 0 .none := by
    have := Heap.get?_push_size (s.heap.push o) (o := { cls := .type "enumerate", data := .fields #[.none, .bool false, .ref s.heap.objs.size, rawInt 0, .none, .none] }) rfl
    rw [hz] at this; exact this
  refine ⟨⟨_, he, rfl⟩, h _ he (Heap.get?_push_of_some _ (Heap.get?_push_size _ B.free)) (by rw [Heap.size_push, hz]) fun b o x => Heap.get?_push_of_some _ (Heap.get?_push_of_some _ x)⟩
def IteT (K : PySem.W.Frag) (a : Addr) : It :=
  ⟨fun i H => ∃ (xs : List V) (x : V), SqT K H a xs ∧ xs[i]? = some x, fun i H v H' => ∃ T x, v = .ref T ∧ H T = none ∧ H' = upd H T (.tup [.int (i : Nat), x]) ∧ ∀ xs, SqT K H a xs → xs[i]? = some x, fun i H => ∃ xs : List V, SqT K H a xs ∧ xs.length ≤ i⟩
theorem turn_enumT {P : Program} {w : World} {K : PySem.W.Frag} {elts : List Expr} {kk : Nat} {tpos : Pos} (a e it : Addr) (hai : a ≠ it) (hae : e ≠ a) :
    Turn P w K (.Tuple elts kk tpos) (IteT K a) [e, it] e (fun i h => (∃ old, IsEnum h e it ((i : Nat) : Int) old) ∧ h.IsTupleIter it a i ∧ e ≠ it) where
  mem := by simp
  obj := fun i h st b hb => by
    obtain ⟨⟨old, he⟩, ⟨o, ho, hc, hd⟩, _⟩ := st
    have e' : b = e ∨ b = it := by simpa using hb
    rcases e' with z | z
    · rw [z]; exact ⟨_, he, fun v q => nomatch q⟩
    · rw [z]; exact ⟨o, ho, fun v q => by rw [hd] at q; cases q⟩
  keep := fun i h h' st k => let ⟨⟨old, he⟩, hi, hne⟩ := st; ⟨⟨old, k e (by simp) _ he⟩, hi.at fun o q => k it (by simp) o q, hne⟩
  item := by
    intro X hP hw hK hc i pins s σ H E I hf st hg
    subst hP hw hK
    obtain ⟨⟨old, he⟩, hit, hne⟩ := st
    obtain ⟨xs, x, hq, hx⟩ := hg
    obtain ⟨its, rv, p, hz⟩ := I.tuple hq
    obtain ⟨u, hu, ru⟩ := rv.get hx
    have hel : e < s.heap.objs.size := Heap.lt_size he
    have hil : it < s.heap.objs.size := by obtain ⟨_, q, _⟩ := hit; exact Heap.lt_size q
    have hlt : i < its.toArray.size := by
      have := (List.getElem?_eq_some_iff.mp hu).1
      simpa using this
    refine wpAny_pyNext_enum_itemC (Draws.tuple (A := X.A.in1) (show X.A.in1.handled = none from I.ok.hd hc) it a hai its.toArray) he ⟨hit, p⟩ hlt hne (by simp [hne, hae]) fun x' h' tk hx' ho hst hT hsz hk => ?_
    obtain ⟨hit', p'⟩ := hst
    have ex : x' = u := by
      have h1 : its.toArray[i]? = some u := by simpa using hu
      rw [h1] at hx'
      exact (Option.some.inj hx').symm
    subst ex
    refine ⟨_, rfl, wpAny_letOwnedTupleGo_enum (s := { s with heap := h', toks := tk + 1 }) ho fun h'' he' sb => ?_⟩
    have hT2 : h''.get? s.heap.objs.size = some { cls := .type "tuple", data := .seq #[.int i tk, x'] } := (sb.2 _ (Nat.ne_of_gt hel)).trans hT
    have new : ObjOk X.prog X.w (upd H s.heap.objs.size (.tup [.int (i : Nat), x])) h'' s.heap.objs.size (.tup [.int (i : Nat), x]) :=
      ⟨by show 2 ≤ sizeLine; decide, [.int i tk, x'], .cons ⟨_, rfl⟩ (.cons ru .nil), ⟨_, hT2, rfl, _, rfl⟩⟩
    have I1 : L2.Inv X pins σ (upd H s.heap.objs.size (.tup [.int (i : Nat), x])) { s with heap := h'', toks := tk + 1 } :=
      I.turnedNew (ch := [e, it]) (fun b ob hb q => (sb.2 b (fun z => hb (by simp [z]))).trans (hk b ob (fun z => hb (by simp [z])) (fun z => hb (by simp [z])) q)) hf (Nat.le_refl _) new
    refine ⟨.ref s.heap.objs.size, _, I1, rfl, ⟨_, x, rfl, I.hok.fresh (Nat.le_refl _), rfl, fun ys hy => by rw [I.tuple_inj hy hq]; exact hx⟩, ⟨⟨x', ?_⟩, hit'.at fun o q => (sb.2 it (Ne.symm hne)).trans q, hne⟩, fun b hb => ?_⟩
    · have e1 : ((i + 1 : Nat) : Int) = (i : Int) + 1 := by omega
      rw [e1]; exact he'
    · have hb' : b < s.heap.objs.size := by
        have e' : b = e ∨ b = it := by simpa using hb
        rcases e' with z | z
        · rw [z]; exact hel
        · rw [z]; exact hil
      rw [upd_ne (Nat.ne_of_lt hb')]
      exact (hf b hb).1
  done := by
    intro X hP hw hK hc i pins s σ H E I hf st hg
    subst hP hw hK
    obtain ⟨⟨old, he⟩, hit, hne⟩ := st
    obtain ⟨xs, hq, hx⟩ := hg
    obtain ⟨its, rv, p, hz⟩ := I.tuple hq
    obtain ⟨f0, f1, f2, f3, f4, f5⟩ := hf it (by simp)
    have hl := rv.length
    unfold pyNext
    have hT : s.TypeIs (.ref e) "enumerate" := ⟨_, he, rfl⟩
    refine wpAny_bind (wpAny_attempt (wpAny_callSpecial?_slot (name := Str.ofString "__next__") hT PySem.F.slot_enumerate_next
      (wpAny_call_entry PySem.F.slot_enumerate_next hT PySem.F.entry_enumerate_next ?_ (PySem.F.args_enumerate_next_1 _))))
    show wpAny _ _ (field (.ref e) 2 >>= _) _ _ _
    refine wpAny_bind (wpAny_field he rfl (x := .ref it) rfl ?_)
    refine wpAny_bind (wpAny_nextOf_tuple_end (show X.A.in1.handled = none from I.ok.hd hc) hit (show s.heap.IsTuple a its.toArray from p) (by simp; omega) fun h' x he' hx' => ?_)
    obtain ⟨o, ho, hco⟩ := hx'
    refine wpAny_bind (wpAny_isInstance (T := "StopIteration") (b := true) ⟨o, ho, hco⟩ isSubtype_stop ?_)
    exact wpAny_pure ⟨rfl, I.turned (t' := s.toks) (fun b o hb q => he' b o hb q) f0 f1 f3 f4 f5⟩
  self := fun A i s Q E st h => let ⟨⟨_, he⟩, _⟩ := st; wpAny_pyIter_enum he h
def iEnumT (K : PySem.W.Frag) (ta : TA) : TI := fun σ H R => ta σ H fun vs H1 => ∃ a xs, vs = [.ref a] ∧ SqT K H1 a xs ∧ R (IteT K a) H1
theorem pi_enumT {X : Cx} {e : Expr} {ta : TA} {p pos tpos : Pos} {elts : List Expr} {kk : Nat} (hg : Gl X "enumerate") (hm : X.mg "enumerate" = none) (ha : PA X [e] ta) (hs : starEach [e] X.env = [(false, eval e X.env)] := by rfl) :
    PI X (.Tuple elts kk tpos) (.Call (.Name "enumerate" p) [e] [] pos) (iEnumT X.K ta) := by
  refine ⟨fun pins s σ H R I h => ?_⟩
  refine Call_ (ld_blt I hg hm boot_enumerate (PyProof.Rows.callWith_type1 (thn (ha.run pos pins s σ H _ I h) fun us s1 ⟨vs, H1, I1, r1, q1⟩ => ?_) hs rfl))
  obtain ⟨a, xs, ex, hq, q⟩ := q1
  subst ex
  cases r1 with
  | cons r rr =>
    cases rr
    cases r
    obtain ⟨its, rv, p', hz⟩ := I1.tuple hq
    have hal : a < s1.heap.objs.size := p'.lt
    refine enum_begins1 (begins_tuple a its.toArray) p' fun h' he hit hsz hk => wpAny_pyIter_enum he ?_
    have I2 : L2.Inv X pins σ H1 { s1 with heap := h' } := I1.kept (t' := s1.toks) hk
    refine ⟨s1.heap.objs.size + 1, [s1.heap.objs.size + 1, s1.heap.objs.size], _, _, H1, rfl, I2, turn_enumT a (s1.heap.objs.size + 1) s1.heap.objs.size (Nat.ne_of_lt hal) (Nat.ne_of_gt (Nat.lt_succ_of_lt hal)), ⟨⟨.none, he⟩, ⟨_, hit, rfl, rfl⟩, Nat.succ_ne_self _⟩, fun b hb => ?_, q⟩
    have e' : b = s1.heap.objs.size + 1 ∨ b = s1.heap.objs.size := by simpa using hb
    have hle : s1.heap.objs.size ≤ b := by
      rcases e' with z | z
      · rw [z]; exact Nat.le_add_right _ _
      · rw [z]; exact Nat.le_refl _
    exact I1.fpOk hle (I1.hok.fresh hle)
end Nc

-- E4
set_option maxHeartbeats 4000000
namespace Nc
open PySem PySem.Spec PyProof.Rows L2
/-! ### zip(t, l), t a tuple, l a list -/
def ItzTL (K : PySem.W.Frag) (a b : Addr) : It :=
  ⟨fun i H => ∃ (xs ys : List V) (x y : V), SqT K H a xs ∧ SqL K H b ys ∧ xs[i]? = some x ∧ ys[i]? = some y,
    fun i H v H' => ∃ T x y, v = .ref T ∧ H T = none ∧ H' = upd H T (.tup [x, y]) ∧ (∀ xs, SqT K H a xs → xs[i]? = some x) ∧ ∀ ys, SqL K H b ys → ys[i]? = some y,
    fun i H => ∃ xs ys : List V, SqT K H a xs ∧ SqL K H b ys ∧ i ≤ xs.length ∧ i ≤ ys.length ∧ (i = xs.length ∨ i = ys.length)⟩
structure ZSep (z TI TO i1 i2 a b : Addr) : Prop where
  s : ZipSep2 z TI TO i1 i2 [i1, a] [i2, b]
  ai : a ≠ i1
  bi : b ≠ i2
theorem turn_zipTL {P : Program} {w : World} {K : PySem.W.Frag} {elts : List Expr} {kk : Nat} {tpos : Pos} {a b z TI TO i1 i2 : Addr} (S : ZSep z TI TO i1 i2 a b) :
    Turn P w K (.Tuple elts kk tpos) (ItzTL K a b) [z, TI, TO, i1, i2] z (fun i h => IsZip h z TI TO .none ∧ IsTupOf2 h TI (.ref i1) (.ref i2) ∧ (∃ x y, IsTupOf2 h TO x y) ∧ h.IsTupleIter i1 a i ∧ h.IsListIter i2 b i) where
  mem := by simp
  obj := fun i h st c hc => by
    obtain ⟨hz, hTI, ⟨x, y, hTO⟩, ⟨o1, e1, _, d1⟩, ⟨o2, e2, _, d2⟩⟩ := st
    have e' : c = z ∨ c = TI ∨ c = TO ∨ c = i1 ∨ c = i2 := by simpa using hc
    rcases e' with q | q | q | q | q
    · rw [q]; exact ⟨_, hz, fun v q => nomatch q⟩
    · rw [q]; exact ⟨_, hTI, fun v q => nomatch q⟩
    · rw [q]; exact ⟨_, hTO, fun v q => nomatch q⟩
    · rw [q]; exact ⟨o1, e1, fun v q => by rw [d1] at q; cases q⟩
    · rw [q]; exact ⟨o2, e2, fun v q => by rw [d2] at q; cases q⟩
  keep := fun i h h' st k => by
    obtain ⟨hz, hTI, ⟨x, y, hTO⟩, h1, h2⟩ := st
    exact ⟨k z (by simp) _ hz, k TI (by simp) _ hTI, ⟨x, y, k TO (by simp) _ hTO⟩, h1.at fun o q => k i1 (by simp) o q, h2.at fun o q => k i2 (by simp) o q⟩
  item := by
    intro X hP hw hK hc i pins s σ H E I hf st hg
    subst hP hw hK
    obtain ⟨hz, hTI, ⟨x0, y0, hTO⟩, h1, h2⟩ := st
    obtain ⟨xs, ys, x, y, hqx, hqy, hx, hy⟩ := hg
    obtain ⟨its, rv, p, _⟩ := I.tuple hqx
    obtain ⟨its2, rv2, p2, _⟩ := I.list hqy
    obtain ⟨u, hu, ru⟩ := rv.get hx
    obtain ⟨u2, hu2, ru2⟩ := rv2.get hy
    have hzl : z < s.heap.objs.size := Heap.lt_size hz
    have hh : X.A.in1.handled = none := I.ok.hd hc
    have lt1 : i < its.toArray.size := by have := (List.getElem?_eq_some_iff.mp hu).1; simpa using this
    have lt2 : i < its2.toArray.size := by have := (List.getElem?_eq_some_iff.mp hu2).1; simpa using this
    refine wpAny_pyNext_zipD2_item S.s (Draws.tuple (A := X.A.in1) hh i1 a S.ai its.toArray) (Draws.list (A := X.A.in1) hh i2 b S.bi its2.toArray) hz hTI hTO ⟨h1, p⟩ ⟨h2, p2.isList⟩ lt1 lt2
      fun x1 x2 h' tk q1 q2 z' TO' st1 st2 hT hsz hk => ?_
    have e1 : x1 = u := by
      have q : its.toArray[i]? = some u := by simpa using hu
      rw [q] at q1
      exact (Option.some.inj q1).symm
    have e2 : x2 = u2 := by
      have q : its2.toArray[i]? = some u2 := by simpa using hu2
      rw [q] at q2
      exact (Option.some.inj q2).symm
    subst e1 e2
    refine ⟨_, rfl, wpAny_letOwnedTupleGo_zip (s := { s with heap := h', toks := tk }) z' fun h'' z'' sb => ?_⟩
    have hT2 : h''.get? s.heap.objs.size = some { cls := .type "tuple", data := .seq #[x1, x2] } := (sb.2 _ (Nat.ne_of_gt hzl)).trans hT
    have new : ObjOk X.prog X.w (upd H s.heap.objs.size (.tup [x, y])) h'' s.heap.objs.size (.tup [x, y]) :=
      ⟨by show 2 ≤ sizeLine; decide, [x1, x2], .cons ru (.cons ru2 .nil), ⟨_, hT2, rfl, _, rfl⟩⟩
    have I1 : L2.Inv X pins σ (upd H s.heap.objs.size (.tup [x, y])) { s with heap := h'', toks := tk } :=
      I.turnedNew (t' := tk) (ch := [z, TI, TO, i1, i2]) (fun c o hb q => (sb.2 c (fun q' => hb (by simp [q']))).trans (hk c o (fun q' => hb (by simp [q'])) (fun q' => hb (by simp [q'])) (fun q' => hb (by simp [q'])) (fun q' => hb (by simp [q'])) q)) hf (Nat.le_refl _) new
    refine ⟨.ref s.heap.objs.size, _, I1, rfl, ⟨_, x, y, rfl, I.hok.fresh (Nat.le_refl _), rfl, fun l hl => by rw [I.tuple_inj hl hqx]; exact hx, fun l hl => by rw [I.list_inj hl hqy]; exact hy⟩, ⟨z'', ?_, ⟨x1, x2, ?_⟩, ?_, ?_⟩, fun c hcm => ?_⟩
    · exact (sb.2 _ S.s.TIz).trans (hk _ _ S.s.TIz S.s.TITO S.s.TIi1 S.s.TIi2 hTI)
    · exact (sb.2 _ S.s.TOz).trans TO'
    · exact st1.1.at fun o q => (sb.2 _ (Ne.symm S.s.zi1)).trans q
    · exact st2.1.at fun o q => (sb.2 _ (Ne.symm S.s.zi2)).trans q
    · have hlt : c < s.heap.objs.size := by
        have e' : c = z ∨ c = TI ∨ c = TO ∨ c = i1 ∨ c = i2 := by simpa using hcm
        rcases e' with q | q | q | q | q
        · rw [q]; exact hzl
        · rw [q]; exact Heap.lt_size hTI
        · rw [q]; exact Heap.lt_size hTO
        · rw [q]; obtain ⟨_, e1, _⟩ := h1; exact Heap.lt_size e1
        · rw [q]; obtain ⟨_, e2, _⟩ := h2; exact Heap.lt_size e2
      rw [upd_ne (Nat.ne_of_lt hlt)]
      exact (hf c hcm).1
  done := by
    intro X hP hw hK hc i pins s σ H E I hf st hg
    subst hP hw hK
    obtain ⟨hz, hTI, ⟨x0, y0, hTO⟩, h1, h2⟩ := st
    obtain ⟨xs, ys, hqx, hqy, le1, le2, hend⟩ := hg
    obtain ⟨its, rv, p, _⟩ := I.tuple hqx
    obtain ⟨its2, rv2, p2, _⟩ := I.list hqy
    have l1 := rv.length
    have l2 := rv2.length
    have hh : X.A.in1.handled = none := I.ok.hd hc
    have s1 : its.toArray.size = xs.length := by simp [l1]
    have s2 : its2.toArray.size = ys.length := by simp [l2]
    exact wpAny_pyNext_zipD2_end S.s (Draws.tuple (A := X.A.in1) hh i1 a S.ai its.toArray) (Draws.list (A := X.A.in1) hh i2 b S.bi its2.toArray) hz hTI hTO ⟨h1, p⟩ ⟨h2, p2.isList⟩ (by omega) (by omega) (by omega)
      fun h' tk hk => ⟨rfl, I.turnedL (t' := tk) (ch := [z, TI, TO, i1, i2]) (fun c o hb q =>
        hk c o (fun q' => hb (by simp [q'])) (fun q' => hb (by simp [q'])) (fun q' => hb (by simp [q'])) (fun q' => hb (by simp [q'])) q) hf⟩
  self := fun A i s Q E st h => wpAny_pyIter_zip st.1 h
def iZipTL (K : PySem.W.Frag) (ta : TA) : TI := fun σ H R => ta σ H fun vs H1 => ∃ a b xs ys, vs = [.ref a, .ref b] ∧ SqT K H1 a xs ∧ SqL K H1 b ys ∧ R (ItzTL K a b) H1
theorem pi_zipTL {X : Cx} {e e2 : Expr} {ta : TA} {p pos tpos : Pos} {elts : List Expr} {kk : Nat} (hg : Gl X "zip") (hm : X.mg "zip" = none) (ha : PA X [e, e2] ta)
    (hs : starEach [e, e2] X.env = (false, eval e X.env) :: starEach [e2] X.env := by rfl) (hpl : (backTo pos (starEach [e2] X.env)).any (·.1) = false := by rfl) :
    PI X (.Tuple elts kk tpos) (.Call (.Name "zip" p) [e, e2] [] pos) (iZipTL X.K ta) := by
  refine ⟨fun pins s σ H R I h => ?_⟩
  refine Call_ (ld_blt I hg hm PyProof.Rows.boot_zip (PyProof.Rows.callWith_type1 (thn (ha.run pos pins s σ H _ I h) fun us s1 ⟨vs, H1, I1, r1, q1⟩ => ?_) hs hpl))
  obtain ⟨a, b, xs, ys, ex, hqx, hqy, q⟩ := q1
  subst ex
  cases r1 with
  | cons r rr =>
    cases rr with
    | cons r' rr =>
      cases rr
      cases r
      cases r'
      have fresh5 : ∀ c, c ∈ [s1.heap.objs.size + 4, s1.heap.objs.size + 2, s1.heap.objs.size + 3, s1.heap.objs.size, s1.heap.objs.size + 1] → FpOk X pins H1 c := fun c hcm => by
        have e' : c = s1.heap.objs.size + 4 ∨ c = s1.heap.objs.size + 2 ∨ c = s1.heap.objs.size + 3 ∨ c = s1.heap.objs.size ∨ c = s1.heap.objs.size + 1 := by simpa using hcm
        have hle : s1.heap.objs.size ≤ c := by
          rcases e' with z | z | z | z | z
          · rw [z]; exact Nat.le_add_right _ _
          · rw [z]; exact Nat.le_add_right _ _
          · rw [z]; exact Nat.le_add_right _ _
          · rw [z]; exact Nat.le_refl _
          · rw [z]; exact Nat.le_add_right _ _
        exact I1.fpOk hle (I1.hok.fresh hle)
      obtain ⟨its, rv, p1, _⟩ := I1.tuple hqx
      obtain ⟨its2, rv2, p2, _⟩ := I1.list hqy
      have la : a < s1.heap.objs.size := p1.lt
      have lb : b < s1.heap.objs.size := p2.lt
      refine zip_begins2 (begins_tuple a its.toArray) (begins_list b its2.toArray) p1 p2.isList fun h' hz hTI hTO h1 h2 hsz hk => wpAny_pyIter_zip hz ?_
      have I2 : L2.Inv X pins σ H1 { s1 with heap := h' } := I1.kept (t' := s1.toks) hk
      have S : ZSep (s1.heap.objs.size + 4) (s1.heap.objs.size + 2) (s1.heap.objs.size + 3) s1.heap.objs.size (s1.heap.objs.size + 1) a b :=
        ⟨zip_sep2 (fp1 := [a]) (fp2 := [b]) (fun c hc => by rw [List.mem_singleton.mp hc]; exact la) (fun c hc => by rw [List.mem_singleton.mp hc]; exact lb), Nat.ne_of_lt la, Nat.ne_of_lt (Nat.lt_succ_of_lt lb)⟩
      exact ⟨s1.heap.objs.size + 4, [s1.heap.objs.size + 4, s1.heap.objs.size + 2, s1.heap.objs.size + 3, s1.heap.objs.size, s1.heap.objs.size + 1], _, _, H1, rfl, I2, turn_zipTL S, ⟨hz, hTI, ⟨_, _, hTO⟩, ⟨_, h1, rfl, rfl⟩, ⟨_, h2, rfl, rfl⟩⟩, fresh5, q⟩
/-! ### tuple(l) whose object is known; dict(t) of such a tuple of pairs -/
section
variable {X : Cx}
theorem call_tuple_frz : CallR X (.type "tuple") (fun xs H Q => ∃ p ys, xs = [.ref p] ∧ SqL X.K H p ys ∧ ∀ l o, H l = none → o.dict = none → Q (.ref l) (upd H l (.frz o (.tup ys)))) := by
  intro pins s σ H xs us Q I r h
  obtain ⟨p, ys, rfl, hq, q⟩ := h
  obtain ⟨u, rfl, rx⟩ := vals1 r
  cases rx
  obtain ⟨its, r', pl, hz⟩ := I.list hq
  have hlen := r'.length
  refine call_tuple_list pl.isList (fun h' kp => ?_) (by simp only [List.size_toArray] <;> omega)
  have I1 : L2.Inv X pins σ H { s with heap := h' } := I.kept (t' := s.toks) kp
  have I2 : L2.Inv X pins σ (upd H h'.objs.size (.frz { cls := .type "tuple", data := .seq its.toArray } (.tup ys))) { s with heap := h'.push { cls := .type "tuple", data := .seq its.toArray } } :=
    I1.laid (t' := s.toks) (fun b o e => Heap.get?_push_of_some _ e) (Nat.le_refl _) (show ObjOk X.prog X.w _ _ _ (.frz _ (.tup ys)) from ⟨Heap.get?_push_size _ rfl, hz, its, r', IsTup.new _ _⟩)
  exact ⟨.ref h'.objs.size, _, I2, rfl, q _ _ (I1.hok.fresh (Nat.le_refl _)) rfl⟩
theorem pairs_at {pins : List (Addr × Obj)} {σ : L2.St} {H : Hp} {s : Shared} (I : L2.Inv X pins σ H s) : ∀ {ps : List Addr} {kvs : List (Key × V)}, Paired (fun p kv => SqT X.K H p [kV kv.1, kv.2]) ps kvs →
    ∃ (psv : List (Value × Value)) (prs : List (Key × Value)), KV kvs prs ∧ psv.length = ps.length ∧ prs.length = ps.length ∧
      ∀ (j : Nat) (k v : Value), psv[j]? = some (k, v) → (∃ b, ps[j]? = some b ∧ s.heap.IsTuple b #[k, v]) ∧ ∃ kk, prs[j]? = some (kk, v) ∧ (mixKind X.prog X.w).is kk k = true
  | _, _, .nil => ⟨[], [], .nil, rfl, rfl, fun j k v e => by simp at e⟩
  | _, _, .cons (a := p) (b := kv) h t => by
    obtain ⟨psv, prs, r, l1, l2, hp⟩ := pairs_at I t
    obtain ⟨its, rv, ht, _⟩ := I.tuple h
    obtain ⟨u, y, ei, ru, ry⟩ := vals2 rv
    subst ei
    refine ⟨(u, y) :: psv, (kv.1, y) :: prs, .cons ⟨rfl, ry⟩ r, by rw [List.length_cons, List.length_cons, l1], by rw [List.length_cons, List.length_cons, l2], fun j k v e => ?_⟩
    cases j with
    | zero =>
      have e' : (u, y) = (k, v) := Option.some.inj e
      cases e'
      exact ⟨⟨p, rfl, ht⟩, kv.1, rfl, kV_is ru⟩
    | succ j =>
      obtain ⟨⟨b, e1, e2⟩, kk, e3, e4⟩ := hp j k v (by simpa using e)
      exact ⟨⟨b, by simpa using e1, e2⟩, kk, by simpa using e3, e4⟩
theorem call_dictPT (hc : X.calm = true) : CallR X (.type "dict") (fun xs H Q => ∃ (a : Addr) (o : Obj) (ps : List Addr) (kvs : List (Key × V)), xs = [.ref a] ∧ H a = some (.frz o (.tup (ps.map V.ref))) ∧ o.dict = none ∧ Paired (fun p kv => SqT X.K H p [kV kv.1, kv.2]) ps kvs ∧
    ∀ p, H p = none → Q (.ref p) (upd H p (.dK (mergeK [] kvs)))) := by
  intro pins s σ H xs us Q I r q
  obtain ⟨a, o, ps, kvs, ex, hq, hd, hp, q⟩ := q
  subst ex
  obtain ⟨u, eu, rx⟩ := vals1 r
  subst eu
  cases rx
  obtain ⟨ho, hz, its, rv, hT⟩ := (show ObjOk X.prog X.w H s.heap a (.frz o (.tup (ps.map V.ref))) from I.hok a _ hq)
  have ei := refs_at rv
  subst ei
  rw [List.length_map] at hz
  obtain ⟨psv, prs, rel, l1, l2, hpr⟩ := pairs_at I hp
  obtain ⟨o', e1, e2, n, e3⟩ := hT
  rw [ho] at e1
  cases e1
  have ok : PlainSeq "tuple" s.heap a (ps.map Value.ref).toArray ∧ PairItems s.heap (ps.map Value.ref).toArray (fun j => ps.getD j 0) psv := by
    refine ⟨⟨o, n, ho, e2, hd, e3⟩, by simp [l1], fun j k v e => ?_⟩
    obtain ⟨⟨b, h1, h2⟩, _⟩ := hpr j k v e
    refine ⟨by simp [h1], ?_⟩
    have e4 : ps.getD j 0 = b := by simp [h1]
    show PairAt s.heap (ps.getD j 0) k v
    rw [e4]
    exact .inl h2
  refine PySem.call_dict_pairs (knd := mixKind X.prog X.w) (kvs := prs) (PairArg.tuple a (ps.map Value.ref).toArray (fun j => ps.getD j 0) psv) (I.ok.hd hc) ok ⟨by rw [l1, l2], fun i key v hr => ?_⟩ (by rw [l1]; exact hz) fun h' tk hd' k => ?_
  · exact (hpr i key v hr).2
  · have hm : (s.heap.objs.size == sysModules) = false := beq_eq_false_iff_ne.mpr (Nat.ne_of_gt I.big)
    have hlen : (mergeK [] kvs).length ≤ sizeLine := by
      refine Nat.le_trans (length_mergeK kvs []) ?_
      rw [List.length_nil, Nat.zero_add, rel.length, l2]
      exact hz
    exact ⟨.ref s.heap.objs.size, upd H s.heap.objs.size (.dK (mergeK [] kvs)), I.laid (t' := tk) (fun b o e => k b o (fun q => nomatch q) e) (Nat.le_refl _) (show ObjOk X.prog X.w _ _ _ (.dK (mergeK [] kvs)) from ⟨hlen, hm, merged [] prs, KV.merge rel .nil, hd'⟩), rfl, q _ (I.hok.fresh (Nat.le_refl _))⟩
end
end Nc

-- M0
set_option maxHeartbeats 4000000
/-! the mirror: expressions, statements, contracts as plain data, and what they compute -/
namespace Nc
open PySem L2
inductive Sg where
  | add | sub | mul | div | mod | lt | eq
def Sg.str : Sg → Str
  | .add => "+"
  | .sub => "-"
  | .mul => "*"
  | .div => "/"
  | .mod => "mod"
  | .lt => "<"
  | .eq => "="
def cmb : Sg → Int → Int → Int
  | .add, l, r => (l + r) % 65536
  | .sub, l, r => if l - r > 0 then l - r else 0
  | .mul, l, r => l * r % 65536
  | .div, l, r => if r = 0 then 0 else l / r
  | .mod, l, r => if r = 0 then 0 else l % r
  | .lt, l, r => if l < r then 1 else 0
  | .eq, l, r => if l = r then 1 else 0
def W16 (i : Int) : Prop := 0 ≤ i ∧ i ≤ 65535
theorem cmb_ok (s : Sg) {l r : Int} (hl : W16 l) (hr : W16 r) : W16 (cmb s l r) := by
  obtain ⟨l0, l1⟩ := hl
  obtain ⟨r0, r1⟩ := hr
  unfold W16
  cases s with
  | add => show 0 ≤ (l + r) % 65536 ∧ (l + r) % 65536 ≤ 65535; omega
  | sub =>
    show 0 ≤ (if l - r > 0 then l - r else 0) ∧ (if l - r > 0 then l - r else 0) ≤ 65535
    split <;> omega
  | mul => show 0 ≤ (l * r) % 65536 ∧ (l * r) % 65536 ≤ 65535; omega
  | div =>
    show 0 ≤ (if r = 0 then 0 else l / r) ∧ (if r = 0 then 0 else l / r) ≤ 65535
    split
    · omega
    · refine ⟨Int.ediv_nonneg l0 r0, ?_⟩
      exact Int.le_trans (Int.ediv_le_self r l0) l1
  | mod =>
    show 0 ≤ (if r = 0 then 0 else l % r) ∧ (if r = 0 then 0 else l % r) ≤ 65535
    split
    · omega
    · rename_i h
      have h1 := Int.emod_nonneg l h
      have h2 := Int.emod_lt_of_pos l (show 0 < r by omega)
      omega
  | lt =>
    show 0 ≤ (if l < r then (1 : Int) else 0) ∧ (if l < r then (1 : Int) else 0) ≤ 65535
    split <;> omega
  | eq =>
    show 0 ≤ (if l = r then (1 : Int) else 0) ∧ (if l = r then (1 : Int) else 0) ≤ 65535
    split <;> omega
inductive Ex where
  | num (n : Int) | var | given | hav | out | op (s : Sg) (l r : Ex)
/-- the two contracts: false is c with the asset a, true is d with the asset z -/
def asN : Bool → Str
  | false => "a"
  | true => "z"
def ctN : Bool → Str
  | false => "c"
  | true => "d"
def Ex.d (b : Bool) : Ex → PyData
  | .num n => .tuple [.str "number", .int n]
  | .var => .tuple [.str "variable", .str "x"]
  | .given => .tuple [.str "given"]
  | .hav => .tuple [.str "have", .str (asN b)]
  | .out => .tuple [.str "out", .str (asN b)]
  | .op s l r => .tuple [.str s.str, l.d b, r.d b]
def Ex.ok (hv : Bool) : Ex → Prop
  | .num n => W16 n
  | .var => hv = true
  | .given => True
  | .hav => True
  | .out => True
  | .op _ l r => l.ok hv ∧ r.ok hv
def Ex.dep : Ex → Nat
  | .op _ l r => max l.dep r.dep + 1
  | _ => 0
/-- the value of the variable, the amount of the contract, the amount of the outsiders -/
structure Lo where
  x : Int
  a : Int
  o : Int
  deriving DecidableEq
def mn (i : Int) : Int := if i < 65535 then i else 65535
def Ex.ev (g : Int) (l : Lo) : Ex → Int
  | .num n => n
  | .var => l.x
  | .given => g
  | .hav => mn l.a
  | .out => mn l.o
  | .op s a b => cmb s (a.ev g l) (b.ev g l)
structure Lo.pos (l : Lo) : Prop where
  x : W16 l.x
  a : 0 ≤ l.a
  o : 0 ≤ l.o
theorem mn_ok {i : Int} (h : 0 ≤ i) : W16 (mn i) := by
  unfold mn W16
  split <;> omega
theorem Ex.ev_ok {hv : Bool} {g : Int} {l : Lo} (hg : W16 g) (hl : l.pos) : ∀ e : Ex, e.ok hv → W16 (e.ev g l)
  | .num _, h => h
  | .var, _ => hl.x
  | .given, _ => hg
  | .hav, _ => mn_ok hl.a
  | .out, _ => mn_ok hl.o
  | .op s a b, h => cmb_ok s (Ex.ev_ok hg hl a h.1) (Ex.ev_ok hg hl b h.2)
/-! tests that are known -/
theorem ifN {p : Prop} [Decidable p] {A B : Prop} (h : ¬ p) (q : B) : if decide p = true then A else B := by
  rw [decide_eq_false h, if_neg Bool.false_ne_true]
  exact q
theorem ifY {p : Prop} [Decidable p] {A B : Prop} (h : p) (q : A) : if decide p = true then A else B := by
  rw [decide_eq_true h, if_pos rfl]
  exact q
theorem if2 {p : Prop} [Decidable p] {A B : Prop} (h1 : p → A) (h2 : ¬ p → B) : if decide p = true then A else B := by
  by_cases h : p
  · exact ifY h (h1 h)
  · exact ifN h (h2 h)
end Nc

-- D1
set_option maxHeartbeats 4000000
namespace Nc
open PySem L2 C8
section
variable {P : Program} {w : World} {K : PySem.W.Frag} {mg : Str → Option Value} {base : Heap}
abbrev N_combine : List Str := ["sign", "left", "right"]
theorem sc_combine : FnScope N_combine ["sign", "left", "right"] (defScope s_combine) := ⟨rfl, rfl, rfl, by decide +kernel, rfl, by decide +kernel, by decide +kernel⟩
def spCombine : Sp := fun vs H Q _ => ∃ (s : Sg) (l r : Int), vs = [.str s.str, .int l, .int r] ∧ W16 l ∧ W16 r ∧ Q (.int (cmb s l r)) H
theorem ok_combine (T : Tx K mg) : Cal P w K mg base 1 "combine" spCombine [] := by
  refine cal_of T 0 rfl T.g_combine sc_combine (fun _ _ _ _ _ _ us hl => match us, hl with | [_, _, _], _ => rfl) (fun vs H Q E h => ?_) (fun cdv A outer s H vs Q E hr h => ?_)
  · obtain ⟨_, _, _, rfl, _⟩ := h
    rfl
  obtain ⟨s, l, r, rfl, hl, hrr, q⟩ := h
  obtain ⟨l0, l1⟩ := id hl
  obtain ⟨r0, r1⟩ := id hrr
  refine ⟨_, (pss_cons (ps_if (pt_cmpR op_eq (pv 0) pe_str (nomark _))
    (pss_one (ps_ret (pe_op op_mod (pe_op op_add (pv 1) (pv 2)) (pe_op op_add (pe_gint rfl T.i_GREATEST) pe_int))))
    pss_nil)
    (pss_cons (ps_if (pt_cmpR op_eq (pv 0) pe_str (nomark _))
    (pss_one (ps_ret (pe_callB (call_max2 rfl) (by rfl) T.f_max (by decide +kernel) (pa_cons pe_int (pa_cons (pe_op op_sub (pv 1) (pv 2)) pa_nil)))))
    pss_nil)
    (pss_cons (ps_if (pt_cmpR op_eq (pv 0) pe_str (nomark _))
    (pss_one (ps_ret (pe_op op_mod (pe_op op_mul (pv 1) (pv 2)) (pe_op op_add (pe_gint rfl T.i_GREATEST) pe_int))))
    pss_nil)
    (pss_cons (ps_if (pt_cmpR op_eq (pv 0) pe_str (nomark _))
    (pss_one (ps_ret (pe_callTy call_int1 (by rfl) T.f_int (by decide +kernel) (pa_cons (pe_cmpR op_lt (pv 1) (pv 2) (nomark _)) pa_nil))))
    pss_nil)
    (pss_cons (ps_if (pt_cmpR op_eq (pv 0) pe_str (nomark _))
    (pss_one (ps_ret (pe_callTy call_int1 (by rfl) T.f_int (by decide +kernel) (pa_cons (pe_cmpR op_eq (pv 1) (pv 2) (nomark _)) pa_nil))))
    pss_nil)
    (pss_cons (ps_if (pt_cmpR op_eq (pv 2) pe_int (nomark _))
    (pss_one (ps_ret pe_int))
    pss_nil)
    (pss_cons (ps_if (pt_cmpR op_eq (pv 0) pe_str (nomark _))
    (pss_one (ps_ret (pe_op op_fdiv (pv 1) (pv 2))))
    pss_nil)
    (pss_one (ps_ret (pe_op op_mod (pv 1) (pv 2))))))))))), ?_⟩
  refine ⟨_, rfl, rfl, _, rfl, ?_⟩
  refine if2 (fun c => ?_) (fun c1 => ?_)
  · have es : s = .add := by cases s <;> first | rfl | exact absurd c (by decide +kernel)
    subst es
    exact ⟨_, rfl, _, rfl, _, _, rfl, rfl, _, _, rfl, rfl, _, _, rfl, rfl, (by show (0 : Int) < 65535 + 1; decide), q⟩
  refine ⟨_, rfl, rfl, _, rfl, ?_⟩
  refine if2 (fun c => ?_) (fun c2 => ?_)
  · have es : s = .sub := by cases s <;> first | rfl | exact absurd c (by decide +kernel)
    subst es
    exact ⟨_, rfl, _, rfl, _, _, rfl, rfl, _, _, rfl, q⟩
  refine ⟨_, rfl, rfl, _, rfl, ?_⟩
  refine if2 (fun c => ?_) (fun c3 => ?_)
  · have es : s = .mul := by cases s <;> first | rfl | exact absurd c (by decide +kernel)
    subst es
    exact ⟨_, rfl, _, rfl, _, _, rfl, rfl, .inl ⟨by omega, by omega⟩, _, _, rfl, rfl, _, _, rfl, rfl, (by show (0 : Int) < 65535 + 1; decide), q⟩
  refine ⟨_, rfl, rfl, _, rfl, ?_⟩
  refine if2 (fun c => ?_) (fun c4 => ?_)
  · have es : s = .lt := by cases s <;> first | rfl | exact absurd c (by decide +kernel)
    subst es
    refine ⟨_, rfl, _, rfl, _, _, rfl, rfl, .inr ⟨_, rfl, ?_⟩⟩
    have e : (if decide (l < r) = true then (1 : Int) else 0) = cmb .lt l r := by
      show _ = if l < r then (1 : Int) else 0
      by_cases h : l < r <;> simp [h]
    rw [e]
    exact q
  refine ⟨_, rfl, rfl, _, rfl, ?_⟩
  refine if2 (fun c => ?_) (fun c5 => ?_)
  · have es : s = .eq := by cases s <;> first | rfl | exact absurd c (by decide +kernel)
    subst es
    refine ⟨_, rfl, _, rfl, rfl, .inr ⟨_, rfl, ?_⟩⟩
    have e : (if decide (V.int l = V.int r) = true then (1 : Int) else 0) = cmb .eq l r := by
      show _ = if l = r then (1 : Int) else 0
      by_cases h : l = r <;> simp [h]
    rw [e]
    exact q
  refine ⟨_, rfl, rfl, _, rfl, ?_⟩
  have es : s = .div ∨ s = .mod := by
    cases s with
    | div => exact .inl rfl
    | mod => exact .inr rfl
    | add => exact absurd rfl c1
    | sub => exact absurd rfl c2
    | mul => exact absurd rfl c3
    | lt => exact absurd rfl c4
    | eq => exact absurd rfl c5
  refine if2 (fun c => ?_) (fun c6 => ?_)
  · have e0 : r = 0 := V.int.inj c
    have e : cmb s l r = 0 := by rcases es with rfl | rfl <;> exact if_pos e0
    rw [e] at q
    exact q
  have r2 : r ≠ 0 := fun e => c6 (by rw [e])
  refine ⟨_, rfl, rfl, _, rfl, ?_⟩
  refine if2 (fun c => ?_) (fun c7 => ?_)
  · have e7 : s = .div := by cases s <;> first | rfl | exact absurd c (by decide +kernel)
    subst e7
    have e : cmb .div l r = l / r := if_neg r2
    rw [e] at q
    exact ⟨_, rfl, _, rfl, _, _, rfl, rfl, ⟨by omega, by omega⟩, q⟩
  · have e7 : s = .mod := by
      rcases es with e | e
      · subst e
        exact absurd rfl c7
      · exact e
    subst e7
    have e : cmb .mod l r = l % r := if_neg r2
    rw [e] at q
    exact ⟨_, rfl, _, rfl, _, _, rfl, rfl, by omega, q⟩
end
end Nc

-- D2
set_option maxHeartbeats 4000000
namespace Nc
open PySem L2 C8
theorem same_new {H : Hp} {p : Addr} (h : H p = none) (o : HO) : Same H (upd H p o) := fun b u q => by rw [upd_ne (ne_of_none q h)]; exact q
theorem sz (n : Nat) (h : n ≤ 100000) : n ≤ sizeLine := Nat.le_trans h (by decide)
theorem slA {K : PySem.W.Frag} {H : Hp} {a : Addr} {xs : List V} {lo hi : Option Int} {Q : VK} (h : H a = some (.tup xs)) (k : ∀ p H', Same H H' → H' p = some (.tup (cutV xs lo hi)) → Q (.ref p) H') : rSlA K (.ref a) lo hi H Q := by
  refine ⟨a, xs, rfl, SqT.tp h, fun e => ?_, fun _ p hp => k p _ (same_new hp _) upd_same⟩
  have e2 : cutV xs lo hi = xs := by
    unfold cutV
    rw [e.1, e.2]
    simp
  exact k a H (Same.refl H) (by rw [e2]; exact h)
theorem catA {K : PySem.W.Frag} {H : Hp} {a b : Addr} {xs ys : List V} {Q : VK} (hx : H a = some (.tup xs)) (hy : H b = some (.tup ys)) (hl : xs.length + ys.length ≤ 100000)
    (k : ∀ p H', Same H H' → H' p = some (.tup (xs ++ ys)) → Q (.ref p) H') : rCatA K (.ref a) (.ref b) H Q := by
  refine ⟨a, b, xs, ys, rfl, rfl, SqT.tp hx, SqT.tp hy, sz _ hl, fun e => ?_, fun _ e => ?_, fun _ _ p hp => k p _ (same_new hp _) upd_same⟩
  · subst e
    exact k b H (Same.refl H) hy
  · subst e
    exact k a H (Same.refl H) (by rw [List.append_nil]; exact hx)
theorem cut_to {xs : List V} {j : Nat} (h : j ≤ xs.length) : cutV xs none (some (j : Int)) = xs.take j := by
  unfold cutV
  rw [HT.sIx_none, HT.sIx_nat, List.drop_zero, Nat.min_eq_left h, Nat.sub_zero]
theorem cut_from {xs : List V} {j : Nat} (h : j ≤ xs.length) : cutV xs (some (j : Int)) none = xs.drop j := by
  unfold cutV
  rw [HT.sIx_none, HT.sIx_nat, Nat.min_eq_left h]
  exact List.take_of_length_le (by rw [List.length_drop]; exact Nat.le_refl _)
theorem set_split {xs : List V} {j : Nat} {v : V} (h : j < xs.length) : xs.take j ++ [v] ++ xs.drop (j + 1) = xs.set j v := by
  rw [List.set_eq_take_append_cons_drop, if_pos h, List.append_assoc]
  rfl
section
variable {P : Program} {w : World} {K : PySem.W.Frag} {mg : Str → Option Value} {base : Heap}
abbrev N_put : List Str := ["row", "at", "value"]
theorem sc_put : FnScope N_put ["row", "at", "value"] (defScope s_put) := ⟨rfl, rfl, rfl, by decide +kernel, rfl, by decide +kernel, by decide +kernel⟩
def spPut : Sp := fun vs H Q _ => ∃ (a : Addr) (xs : List V) (j : Nat) (v : V), vs = [.ref a, .int (j : Int), v] ∧ H a = some (.tup xs) ∧ j < xs.length ∧ xs.length ≤ 1000 ∧ ∀ p H', Same H H' → H' p = some (.tup (xs.set j v)) → Q (.ref p) H'
theorem ok_put (T : Tx K mg) : Cal P w K mg base 1 "put" spPut [] := by
  refine cal_of T 8 rfl T.g_put sc_put (fun _ _ _ _ _ _ us hl => match us, hl with | [_, _, _], _ => rfl) (fun vs H Q E h => ?_) (fun cdv A outer s H vs Q E hr h => ?_)
  · obtain ⟨_, _, _, _, rfl, _⟩ := h
    rfl
  obtain ⟨a, xs, j, v, rfl, ha, hj, hl, q⟩ := h
  refine ⟨_, (pss_one (ps_ret (pe_op op_catA (pe_op op_catA (pe_slice sl_tupA (pv 0) po_none (po_some (pv 1))) (pe_tup (pa_cons (pv 2) pa_nil))) (pe_slice sl_tupA (pv 0) (po_some (pe_op op_add (pv 1) pe_int)) po_none)))), ?_⟩
  refine ⟨_, rfl, _, rfl, _, rfl, slA ha fun p1 H1 s1 h1 => ?_⟩
  rw [cut_to (Nat.le_of_lt hj)] at h1
  refine ⟨_, rfl, (by show 1 ≤ sizeLine; decide), fun p2 n2 => ?_⟩
  refine catA (same_new n2 _ _ _ h1) upd_same (by rw [List.length_take]; show _ + 1 ≤ _; omega) fun p3 H3 s3 h3 => ?_
  refine ⟨_, rfl, _, rfl, _, _, rfl, rfl, _, rfl, ?_⟩
  dsimp only [tNoPart]
  refine slA (s3 _ _ (same_new n2 _ _ _ (s1 _ _ ha))) fun p4 H4 s4 h4 => ?_
  have e4 : cutV xs (some ((j : Int) + 1)) none = xs.drop (j + 1) := cut_from (j := j + 1) hj
  rw [e4] at h4
  refine catA (s4 _ _ h3) h4 (by rw [List.length_append, List.length_take, List.length_drop]; show _ + 1 + _ ≤ _; omega) fun p5 H5 s5 h5 => ?_
  rw [set_split hj] at h5
  exact q p5 H5 ((((s1.trans (same_new n2 _)).trans s3).trans s4).trans s5) h5
def dI (ns : List Int) : PyData := .tuple (ns.map PyData.int)
def dII (rs : List (List Int)) : PyData := .tuple (rs.map dI)
theorem Rp.dI {H : Hp} {a : Addr} {ns : List Int} (h : H a = some (.tup (ns.map V.int))) : Rp H (.ref a) (dI ns) := .tup h (Rps.ints ns)
theorem Rp.dIE {H : Hp} {v : V} {ns : List Int} (h : Rp H v (Nc.dI ns)) : ∃ a, v = .ref a ∧ H a = some (.tup (ns.map V.int)) := by
  obtain ⟨a, xs, e, h1, h2⟩ := Rp.tupE h
  exact ⟨a, e, by rw [h1, Rps.intsE h2]⟩
theorem Rp.dIIE {H : Hp} {v : V} {rs : List (List Int)} (h : Rp H v (dII rs)) : ∃ a xs, v = .ref a ∧ H a = some (.tup xs) ∧ Rps H xs (rs.map Nc.dI) := Rp.tupE h
theorem Rps.row {H : Hp} {xs : List V} {rs : List (List Int)} (h : Rps H xs (rs.map Nc.dI)) {p : Nat} {r : List Int} (e : rs[p]? = some r) : ∃ a, xs[p]? = some (.ref a) ∧ H a = some (.tup (r.map V.int)) := by
  obtain ⟨v, h1, h2⟩ := Rps.get h (i := p) (d := Nc.dI r) (by rw [List.getElem?_map, e]; rfl)
  obtain ⟨a, rfl, h3⟩ := Rp.dIE h2
  exact ⟨a, h1, h3⟩
theorem map_set {α β : Type} (f : α → β) (xs : List α) (j : Nat) (a : α) : (xs.map f).set j (f a) = (xs.set j a).map f := by rw [List.map_set]
theorem lt_of_get {α : Type} {xs : List α} {j : Nat} {a : α} (h : xs[j]? = some a) : j < xs.length := (List.getElem?_eq_some_iff.mp h).1
abbrev N_moved : List Str := ["row", "asset", "payer", "payee", "amount"]
theorem sc_moved : FnScope N_moved ["row", "asset", "payer", "payee", "amount"] (defScope s_moved) := ⟨rfl, rfl, rfl, by decide +kernel, rfl, by decide +kernel, by decide +kernel⟩
/-- the payer's row rp, at k the amount x; behind the payment the payee's row rq, at k the amount y -/
def spMoved : Sp := fun vs H Q _ => ∃ (v : V) (rs : List (List Int)) (k p q : Nat) (m : Int) (rp rq : List Int) (x y : Int), vs = [v, .int (k : Int), .int (p : Int), .int (q : Int), .int m] ∧ Rp H v (dII rs) ∧ rs.length ≤ 100 ∧ rp.length ≤ 100 ∧ rq.length ≤ 100 ∧
  rs[p]? = some rp ∧ rp[k]? = some x ∧ (rs.set p (rp.set k (x - m)))[q]? = some rq ∧ rq[k]? = some y ∧
  (x < m → Q .non H) ∧ (¬ x < m → ∀ u H', Same H H' → Rp H' u (dII ((rs.set p (rp.set k (x - m))).set q (rq.set k (y + m)))) → Q u H')
theorem ok_moved (T : Tx K mg) : Cal P w K mg base 2 "moved" spMoved [] := by
  have c_put : Cal P w K mg base 1 "put" spPut [] := ok_put T
  refine cal_of T 9 rfl T.g_moved sc_moved (fun _ _ _ _ _ _ us hl => match us, hl with | [_, _, _, _, _], _ => rfl) (fun vs H Q E h => ?_) (fun cdv A outer s H vs Q E hr h => ?_)
  · obtain ⟨_, _, _, _, _, _, _, _, _, _, rfl, _⟩ := h
    rfl
  obtain ⟨v, rs, k, p, q, m, rp, rq, x, y, rfl, hv, l0, l1, l2, ep, ex, eq, ey, q1, q2⟩ := h
  obtain ⟨a, xs, rfl, ha, hxs⟩ := Rp.dIIE hv
  obtain ⟨b, hb1, hb2⟩ := Rps.row hxs ep
  have lx : xs.length = rs.length := by rw [Rps.length hxs, List.length_map]
  refine ⟨_, (pss_cons (ps_if (pt_cmpR op_lt (pe_ix ix_tup (pe_ix ix_tup (pv 0) (pv 2) (fun _ _ => rfl)) (pv 1) (fun _ _ => rfl)) (pv 4) (nomark _))
    (pss_one (ps_ret pe_non))
    pss_nil)
    (pss_cons (ps_set (i := 0) sc_moved.nd rfl (Or.inl rfl) (pe_c c_put hr (by decide) rfl (pa_cons (pv 0) (pa_cons (pv 2) (pa_cons (pe_c c_put hr (by decide) rfl (pa_cons (pe_ix ix_tup (pv 0) (pv 2) (fun _ _ => rfl)) (pa_cons (pv 1) (pa_cons (pe_op op_sub (pe_ix ix_tup (pe_ix ix_tup (pv 0) (pv 2) (fun _ _ => rfl)) (pv 1) (fun _ _ => rfl)) (pv 4)) pa_nil)))) pa_nil)))))
    (pss_one (ps_ret (pe_c c_put hr (by decide) rfl (pa_cons (pv 0) (pa_cons (pv 3) (pa_cons (pe_c c_put hr (by decide) rfl (pa_cons (pe_ix ix_tup (pv 0) (pv 3) (fun _ _ => rfl)) (pa_cons (pv 1) (pa_cons (pe_op op_add (pe_ix ix_tup (pe_ix ix_tup (pv 0) (pv 3) (fun _ _ => rfl)) (pv 1) (fun _ _ => rfl)) (pv 4)) pa_nil)))) pa_nil)))))))), ?_⟩
  have gx : (rp.map V.int)[k]? = some (V.int x) := by rw [List.getElem?_map, ex]; rfl
  refine ⟨_, rfl, _, rfl, a, _, _, _, rfl, rfl, SqT.tp ha, atI_nat hb1, _, rfl, b, _, _, _, rfl, rfl, SqT.tp hb2, atI_nat gx, _, rfl, _, _, rfl, rfl, _, rfl, ?_⟩
  refine if2 (fun c => q1 c) (fun c => ?_)
  have lp := lt_of_get ep
  have lk := lt_of_get ex
  refine ⟨_, rfl, _, rfl, _, rfl, _, rfl, a, _, _, _, rfl, rfl, SqT.tp ha, atI_nat hb1, _, rfl, _, rfl, _, rfl, a, _, _, _, rfl, rfl, SqT.tp ha, atI_nat hb1, _, rfl, b, _, _, _, rfl, rfl, SqT.tp hb2, atI_nat gx, _, rfl, _, _, rfl, rfl, ?_⟩
  refine ⟨b, _, k, _, rfl, hb2, by rw [List.length_map]; exact lk, by rw [List.length_map]; omega, fun c1 H1 s1 h1 => ?_⟩
  rw [map_set] at h1
  refine ⟨a, xs, p, _, rfl, s1 _ _ ha, by omega, by omega, fun c2 H2 s2 h2 => ?_⟩
  have hxs2 : Rps H2 (xs.set p (.ref c1)) ((rs.set p (rp.set k (x - m))).map Nc.dI) := by
    rw [← map_set]
    exact Rps.set (Rp.dI (s2 _ _ h1)) p (hxs.to (s1.trans s2))
  obtain ⟨d, hd1, hd2⟩ := Rps.row hxs2 eq
  have gy : (rq.map V.int)[k]? = some (V.int y) := by rw [List.getElem?_map, ey]; rfl
  have lq := lt_of_get eq
  rw [List.length_set] at lq
  refine ⟨_, rfl, _, rfl, _, rfl, _, rfl, c2, _, _, _, rfl, rfl, SqT.tp h2, atI_nat hd1, _, rfl, _, rfl, _, rfl, c2, _, _, _, rfl, rfl, SqT.tp h2, atI_nat hd1, _, rfl, d, _, _, _, rfl, rfl, SqT.tp hd2, atI_nat gy, _, rfl, _, _, rfl, rfl, ?_⟩
  refine ⟨d, _, k, _, rfl, hd2, by rw [List.length_map]; exact lt_of_get ey, by rw [List.length_map]; omega, fun c3 H3 s3 h3 => ?_⟩
  rw [map_set] at h3
  refine ⟨c2, _, q, _, rfl, s3 _ _ h2, by rw [List.length_set]; omega, by rw [List.length_set]; omega, fun c4 H4 s4 h4 => ?_⟩
  refine q2 c _ H4 (((s1.trans s2).trans s3).trans s4) (.tup h4 ?_)
  rw [← map_set]
  exact Rps.set (Rp.dI (s4 _ _ h3)) q (hxs2.to (s3.trans s4))
end
end Nc

-- M1
set_option maxHeartbeats 4000000
/-! the mirror: statements, contracts, the house -/
namespace Nc
open PySem L2
inductive Sm where
  | set (e : Ex) | need (e : Ex) | give (e : Ex) | get (e : Ex)
inductive Sx where
  | sm (s : Sm) | ask (n : Int) | ite (e : Ex) (t f : List Sm)
def Sm.d (b : Bool) : Sm → PyData
  | .set e => .tuple [.str "set", .str "x", e.d b]
  | .need e => .tuple [.str "need", e.d b]
  | .give e => .tuple [.str "give", .str (asN b), e.d b]
  | .get e => .tuple [.str "get", .str (asN b), e.d b]
def Sx.d (b : Bool) : Sx → PyData
  | .sm s => s.d b
  | .ask n => .tuple [.str "ask", .str "x", .int n]
  | .ite e t f => .tuple [.str "if", e.d b, .tuple (t.map (Sm.d b)), .tuple (f.map (Sm.d b))]
def blkD (b : Bool) (l : List Sx) : PyData := .tuple (l.map (Sx.d b))
theorem blk_sm (b : Bool) (l : List Sm) : PyData.tuple (l.map (Sm.d b)) = blkD b (l.map Sx.sm) := by
  unfold blkD
  rw [List.map_map]
  rfl
def Sm.ex : Sm → Ex
  | .set e => e
  | .need e => e
  | .give e => e
  | .get e => e
/-- expressions of a bounded depth, over what stands there -/
structure Ex.fit (hv : Bool) (e : Ex) : Prop where
  ok : e.ok hv
  dep : e.dep < 4
def Sm.fit (hv : Bool) : Sm → Prop
  | .set e => hv = true ∧ e.fit hv
  | .need e => e.fit hv
  | .give e => e.fit hv
  | .get e => e.fit hv
theorem Sm.fit_ex {hv : Bool} {s : Sm} (h : s.fit hv) : s.ex.fit hv := by
  cases s with
  | set e => exact h.2
  | need e => exact h
  | give e => exact h
  | get e => exact h
def Sx.fit (hv : Bool) : Sx → Prop
  | .sm s => s.fit hv
  | .ask n => hv = true ∧ 1 ≤ n ∧ n ≤ 2
  | .ite e t f => e.fit hv ∧ t.length ≤ 1 ∧ f.length ≤ 1 ∧ (∀ s ∈ t, s.fit hv) ∧ ∀ s ∈ f, s.fit hv
def Sx.lev : Sx → Nat
  | .ite _ _ _ => 1
  | _ => 0
/-- how often an expression names the asset -/
def Ex.cnt : Ex → Nat
  | .hav => 1
  | .out => 1
  | .op _ l r => l.cnt + r.cnt
  | _ => 0
theorem Ex.cnt_le : ∀ e : Ex, e.cnt ≤ 2 ^ e.dep
  | .num _ => Nat.zero_le _
  | .var => Nat.zero_le _
  | .given => Nat.zero_le _
  | .hav => by show 1 ≤ 2 ^ 0; decide
  | .out => by show 1 ≤ 2 ^ 0; decide
  | .op _ l r => by
    have h1 := Ex.cnt_le l
    have h2 := Ex.cnt_le r
    show l.cnt + r.cnt ≤ 2 ^ (max l.dep r.dep + 1)
    have a1 : 2 ^ l.dep ≤ 2 ^ (max l.dep r.dep) := Nat.pow_le_pow_right (by decide) (Nat.le_max_left ..)
    have a2 : 2 ^ r.dep ≤ 2 ^ (max l.dep r.dep) := Nat.pow_le_pow_right (by decide) (Nat.le_max_right ..)
    rw [Nat.pow_succ]
    omega
theorem Ex.fit_cnt {hv : Bool} {e : Ex} (h : e.fit hv) : e.cnt ≤ 8 := by
  have h1 := Ex.cnt_le e
  have h2 : 2 ^ e.dep ≤ 2 ^ 3 := Nat.pow_le_pow_right (by decide) (by have := h.dep; omega)
  omega
structure CC where
  var : Option (Int × Int)
  hold : Option Int
  proc : Option (Int × Bool × List Sx)
def CC.hv (c : CC) : Bool := c.var.isSome
def varD : Option (Int × Int) → PyData
  | none => .tuple []
  | some p => .tuple [.tuple [.str "x", .int p.1, .int p.2]]
def holD (b : Bool) : Option Int → PyData
  | none => .list []
  | some h => .list [.tuple [.str (asN b), .int h]]
def prcD (b : Bool) : Option (Int × Bool × List Sx) → PyData
  | none => .tuple []
  | some p => .tuple [.tuple [.str "p", .int p.1, .bool p.2.1, blkD b p.2.2]]
def CC.d (b : Bool) (c : CC) : PyData := .tuple [.str (ctN b), varD c.var, holD b c.hold, prcD b c.proc]
def isAsk : Sx → Bool
  | .ask _ => true
  | _ => false
structure CC.fit (c : CC) : Prop where
  var : ∀ p, c.var = some p → 1 ≤ p.1 ∧ p.1 ≤ 2 ∧ 0 ≤ p.2 ∧ p.2 < p.1
  hold : ∀ h, c.hold = some h → 0 ≤ h ∧ h ≤ 1
  proc : ∀ p, c.proc = some p → 1 ≤ p.1 ∧ p.1 ≤ 3 ∧ p.2.2.length ≤ 3 ∧ (∀ s ∈ p.2.2, s.fit c.hv) ∧ (p.2.2.filter isAsk).length ≤ 1
/-- a house of c, of d or of both -/
structure HH where
  c : CC
  d : CC
  pc : Bool
  pd : Bool
  oa : Int
  oz : Int
def HH.cc (h : HH) : Bool → CC
  | false => h.c
  | true => h.d
def HH.pres (h : HH) : List Bool := (if h.pc then [false] else []) ++ (if h.pd then [true] else [])
def HH.conD (h : HH) : PyData := .tuple (h.pres.map fun b => (h.cc b).d b)
def HH.assD (h : HH) : PyData := .tuple [.tuple [.str "a", .int h.oa], .tuple [.str "z", .int h.oz]]
structure HH.fit (h : HH) : Prop where
  c : h.c.fit
  d : h.d.fit
  oa : 0 ≤ h.oa ∧ h.oa ≤ 1
  oz : 0 ≤ h.oz ∧ h.oz ≤ 1
  some : h.pres ≠ []
def fHouse (a c : V) : List (Str × V) := [("assets", a), ("contracts", c)]
/-- the house stands at e -/
def HouseAt (K : PySem.W.Frag) (H : Hp) (e : Addr) (h : HH) : Prop := ∃ dx va vc, H e = some (.ins (He.ga K "House") dx (fHouse va vc)) ∧ Rp H va h.assD ∧ Rp H vc h.conD
theorem HouseAt.to {K : PySem.W.Frag} {H H' : Hp} {e : Addr} {h : HH} (x : HouseAt K H e h) (s : Same H H') : HouseAt K H' e h := by
  obtain ⟨dx, va, vc, h1, h2, h3⟩ := x
  exact ⟨dx, va, vc, s _ _ h1, h2.to s, h3.to s⟩
end Nc

-- D3
set_option maxHeartbeats 4000000
namespace Nc
open PySem L2 C8
section
variable {P : Program} {w : World} {K : PySem.W.Frag} {mg : Str → Option Value} {base : Heap}
/-- a promise that asks what cannot be: at level 0 -/
theorem cal_no {x : Str} {st : Stmt} {ps : List Str} {k : Nat} {sp : Sp} (T : Tx K mg) (i : Nat) (hi : fn[i]? = some ⟨(x, none), x, x, defArgs st, defBody st, defScope st, [], []⟩) (hg : mg x = some (.ref (He.ga K x))) (B : BindOk x x st ps)
    (no : ∀ vs H Q E, ¬ sp vs H Q E) : Cal P w K mg base k x sp [] := by
  obtain ⟨fd, F⟩ := T.says.def_ i hi
  have F' : FunD K x x (defArgs st) (defBody st) (defScope st) [] [] (He.ga K x) fd := F
  exact ⟨_, fd, ps, [], ⟨fun vs H Q E h => absurd h (no vs H Q E), fun A outer s H args us vs Q E _ _ _ _ h => absurd h (no vs H Q E)⟩, hg, F'.kp, FunD.bindsN F' B, .nil⟩
theorem met_no {c m qual : Str} {st : Stmt} {ps : List Str} {k : Nat} {sp : Sp} (T : Tx K mg) (i : Nat) (hi : fn[i]? = some ⟨(c, some m), m, qual, defArgs st, defBody st, defScope st, [], []⟩) (hc : Cls K (He.ga K c)) (hm : Meth K (He.ga K c) m (He.ma K (He.ga K c) m)) (B : BindOk m qual st ps)
    (no : ∀ vs H Q E, ¬ sp vs H Q E) : Met P w K mg base k (He.ga K c) m sp [] := by
  obtain ⟨fd, F⟩ := T.says.def_ i hi
  have F' : FunD K m qual (defArgs st) (defBody st) (defScope st) [] [] (He.ma K (He.ga K c) m) fd := F
  exact ⟨_, fd, ps, [], hc, hm, ⟨fun vs H Q E h => absurd h (no vs H Q E), fun A outer s H args us vs Q E _ _ _ _ h => absurd h (no vs H Q E)⟩, FunD.bindsN F' B, .nil⟩
/-! ### named -/
abbrev N_named : List Str := ["expression"]
theorem sc_named : FnScope N_named ["expression"] (defScope s_named) := ⟨rfl, rfl, rfl, by decide +kernel, rfl, by decide +kernel, by decide +kernel⟩
def reps (b : Bool) (n : Nat) : List V := List.replicate n (V.str (asN b))
theorem reps_add (b : Bool) (n m : Nat) : reps b n ++ reps b m = reps b (n + m) := by unfold reps; rw [List.replicate_append_replicate]
theorem reps_len (b : Bool) (n : Nat) : (reps b n).length = n := List.length_replicate
def spNamed (n : Nat) : Sp := fun vs H Q _ => ∃ (v : V) (b : Bool) (e : Ex), vs = [v] ∧ Rp H v (e.d b) ∧ e.dep < n ∧ e.cnt ≤ 1000 ∧ ∀ p H', Same H H' → H' p = some (.lst (reps b e.cnt)) → Q (.ref p) H'
theorem sg_no (s : Sg) : ¬ (V.str s.str = V.str "have") ∧ ¬ (V.str s.str = V.str "out") ∧ ¬ (V.str s.str = V.str "number") ∧ ¬ (V.str s.str = V.str "given") ∧ ¬ (V.str s.str = V.str "variable") := by
  cases s <;> exact ⟨by decide +kernel, by decide +kernel, by decide +kernel, by decide +kernel, by decide +kernel⟩
theorem b_named : BindOk "named" "named" s_named ["expression"] := fun _ _ _ _ _ _ us hl => match us, hl with | [_], _ => rfl
theorem ok_named (T : Tx K mg) : ∀ n : Nat, Cal P w K mg base n "named" (spNamed n) []
  | 0 => cal_no T 3 rfl T.g_named b_named fun vs H Q E ⟨_, _, e, _, _, h, _⟩ => absurd h (Nat.not_lt_zero _)
  | n + 1 => by
    have c_named : Cal P w K mg base n "named" (spNamed n) [] := ok_named T n
    refine cal_of T 3 rfl T.g_named sc_named b_named (fun vs H Q E h => ?_) (fun cdv A outer s H vs Q E hr h => ?_)
    · obtain ⟨_, _, _, rfl, _⟩ := h
      rfl
    obtain ⟨v, b, e, rfl, hv, hd, hc, q⟩ := h
    refine ⟨_, (pss_cons (ps_if (PW.pt (pw_or (pt_cmpR op_eq (pe_ix ix_tup (pv 0) pe_int (fun _ _ => rfl)) pe_str (nomark _)) (pw_or1 (pt_cmpR op_eq (pe_ix ix_tup (pv 0) pe_int (fun _ _ => rfl)) pe_str (nomark _)))))
    (pss_one (ps_ret (pe_lst (pa_cons (pe_ix ix_tup (pv 0) pe_int (fun _ _ => rfl)) pa_nil))))
    pss_nil)
    (pss_cons (ps_if (pt_cmpR op_eq (pe_callB call_len_seq (by rfl) T.f_len (by decide +kernel) (pa_cons (pv 0) pa_nil)) pe_int (nomark _))
    (pss_one (ps_ret (pe_op op_cat (pe_c c_named hr (Nat.le_refl _) rfl (pa_cons (pe_ix ix_tup (pv 0) pe_int (fun _ _ => rfl)) pa_nil)) (pe_c c_named hr (Nat.le_refl _) rfl (pa_cons (pe_ix ix_tup (pv 0) pe_int (fun _ _ => rfl)) pa_nil)))))
    pss_nil)
    (pss_one (ps_ret (pe_lst pa_nil))))), ?_⟩
    cases e with
    | num i =>
      obtain ⟨a, xs, rfl, ha, hx⟩ := Rp.tupE (show Rp H v (.tuple [.str "number", .int i]) from hv)
      obtain ⟨v1, r1, rfl, h1, hx⟩ := Rps.consE hx
      obtain ⟨v2, r2, rfl, h2, hx⟩ := Rps.consE hx
      obtain rfl := Rps.nilE hx
      obtain rfl := h1.strE
      refine ⟨_, rfl, a, _, 0, _, rfl, rfl, SqT.tp ha, rfl, rfl, _, rfl, ifN (by decide +kernel) ?_⟩
      refine ⟨_, rfl, a, _, 0, _, rfl, rfl, SqT.tp ha, rfl, rfl, _, rfl, ifN (by decide +kernel) ?_⟩
      refine ⟨_, rfl, a, _, rfl, .inr (SqT.tp ha), rfl, _, rfl, ifN (show ¬ (V.int 2 = V.int 3) by decide +kernel) ?_⟩
      exact ⟨by show 0 ≤ sizeLine; decide, fun p hp => q p _ (same_new hp _) upd_same⟩
    | var =>
      obtain ⟨a, xs, rfl, ha, hx⟩ := Rp.tupE (show Rp H v (.tuple [.str "variable", .str "x"]) from hv)
      obtain ⟨v1, r1, rfl, h1, hx⟩ := Rps.consE hx
      obtain ⟨v2, r2, rfl, h2, hx⟩ := Rps.consE hx
      obtain rfl := Rps.nilE hx
      obtain rfl := h1.strE
      refine ⟨_, rfl, a, _, 0, _, rfl, rfl, SqT.tp ha, rfl, rfl, _, rfl, ifN (by decide +kernel) ?_⟩
      refine ⟨_, rfl, a, _, 0, _, rfl, rfl, SqT.tp ha, rfl, rfl, _, rfl, ifN (by decide +kernel) ?_⟩
      refine ⟨_, rfl, a, _, rfl, .inr (SqT.tp ha), rfl, _, rfl, ifN (show ¬ (V.int 2 = V.int 3) by decide +kernel) ?_⟩
      exact ⟨by show 0 ≤ sizeLine; decide, fun p hp => q p _ (same_new hp _) upd_same⟩
    | given =>
      obtain ⟨a, xs, rfl, ha, hx⟩ := Rp.tupE (show Rp H v (.tuple [.str "given"]) from hv)
      obtain ⟨v1, r1, rfl, h1, hx⟩ := Rps.consE hx
      obtain rfl := Rps.nilE hx
      obtain rfl := h1.strE
      refine ⟨_, rfl, a, _, 0, _, rfl, rfl, SqT.tp ha, rfl, rfl, _, rfl, ifN (by decide +kernel) ?_⟩
      refine ⟨_, rfl, a, _, 0, _, rfl, rfl, SqT.tp ha, rfl, rfl, _, rfl, ifN (by decide +kernel) ?_⟩
      refine ⟨_, rfl, a, _, rfl, .inr (SqT.tp ha), rfl, _, rfl, ifN (show ¬ (V.int 1 = V.int 3) by decide +kernel) ?_⟩
      exact ⟨by show 0 ≤ sizeLine; decide, fun p hp => q p _ (same_new hp _) upd_same⟩
    | hav =>
      obtain ⟨a, xs, rfl, ha, hx⟩ := Rp.tupE (show Rp H v (.tuple [.str "have", .str (asN b)]) from hv)
      obtain ⟨v1, r1, rfl, h1, hx⟩ := Rps.consE hx
      obtain ⟨v2, r2, rfl, h2, hx⟩ := Rps.consE hx
      obtain rfl := Rps.nilE hx
      obtain rfl := h1.strE
      obtain rfl := h2.strE
      refine ⟨_, rfl, a, _, 0, _, rfl, rfl, SqT.tp ha, rfl, rfl, _, rfl, ifY (by decide +kernel) ?_⟩
      exact ⟨_, rfl, a, _, 1, _, rfl, rfl, SqT.tp ha, rfl, by show 1 ≤ sizeLine; decide, fun p hp => q p _ (same_new hp _) upd_same⟩
    | out =>
      obtain ⟨a, xs, rfl, ha, hx⟩ := Rp.tupE (show Rp H v (.tuple [.str "out", .str (asN b)]) from hv)
      obtain ⟨v1, r1, rfl, h1, hx⟩ := Rps.consE hx
      obtain ⟨v2, r2, rfl, h2, hx⟩ := Rps.consE hx
      obtain rfl := Rps.nilE hx
      obtain rfl := h1.strE
      obtain rfl := h2.strE
      refine ⟨_, rfl, a, _, 0, _, rfl, rfl, SqT.tp ha, rfl, rfl, _, rfl, ifN (by decide +kernel) ?_⟩
      refine ⟨_, rfl, a, _, 0, _, rfl, rfl, SqT.tp ha, rfl, rfl, _, rfl, ifY (by decide +kernel) ?_⟩
      exact ⟨_, rfl, a, _, 1, _, rfl, rfl, SqT.tp ha, rfl, by show 1 ≤ sizeLine; decide, fun p hp => q p _ (same_new hp _) upd_same⟩
    | op sg l r =>
      obtain ⟨a, xs, rfl, ha, hx⟩ := Rp.tupE (show Rp H v (.tuple [.str sg.str, l.d b, r.d b]) from hv)
      obtain ⟨v1, r1, rfl, h1, hx⟩ := Rps.consE hx
      obtain ⟨v2, r2, rfl, h2, hx⟩ := Rps.consE hx
      obtain ⟨v3, r3, rfl, h3, hx⟩ := Rps.consE hx
      obtain rfl := Rps.nilE hx
      obtain rfl := h1.strE
      obtain ⟨n1, n2, _⟩ := sg_no sg
      have hd' : max l.dep r.dep + 1 < n + 1 := hd
      have hc' : l.cnt + r.cnt ≤ 1000 := hc
      refine ⟨_, rfl, a, _, 0, _, rfl, rfl, SqT.tp ha, rfl, rfl, _, rfl, ifN n1 ?_⟩
      refine ⟨_, rfl, a, _, 0, _, rfl, rfl, SqT.tp ha, rfl, rfl, _, rfl, ifN n2 ?_⟩
      refine ⟨_, rfl, a, _, rfl, .inr (SqT.tp ha), rfl, _, rfl, ifY (show V.int 3 = V.int 3 from rfl) ?_⟩
      refine ⟨_, rfl, a, _, 1, _, rfl, rfl, SqT.tp ha, rfl, v2, b, l, rfl, h2, by omega, by omega, fun p1 H1 s1 g1 => ?_⟩
      refine ⟨_, rfl, a, _, 2, _, rfl, rfl, SqT.tp (s1 _ _ ha), rfl, v3, b, r, rfl, h3.to s1, by omega, by omega, fun p2 H2 s2 g2 => ?_⟩
      refine ⟨p1, p2, _, _, rfl, rfl, s2 _ _ g1, g2, sz _ (by rw [reps_len, reps_len]; omega), fun p3 hp => ?_⟩
      refine q p3 _ ((s1.trans s2).trans (same_new hp _)) ?_
      rw [reps_add]
      exact upd_same
end
end Nc

-- D4
set_option maxHeartbeats 4000000
namespace Nc
open PySem L2 C8
/-- slots that are known -/
theorem szl (n : Nat) (h : n < 100000) : n < sizeLine := Nat.lt_of_lt_of_le h (by decide)
theorem fr_back {H H' : Hp} {p : Addr} (e : Same H H') (h : H' p = none) : H p = none := e.free h
theorem same_mut {H H' : Hp} {p : Addr} {o : HO} (e : Same H H') (h : H p = none) : Same H (upd H' p o) := fun a u ha => by
  rw [upd_ne (ne_of_none ha h)]
  exact e a u ha
section
variable {P : Program} {w : World} {K : PySem.W.Frag} {mg : Str → Option Value} {base : Heap}
abbrev N_mentioned : List Str := ["block", "assets", "contracts", "statement", "part"]
theorem sc_mentioned : FnScope N_mentioned ["block"] (defScope s_mentioned) := ⟨rfl, rfl, rfl, by decide +kernel, rfl, by decide +kernel, by decide +kernel⟩
def spMent (m : Nat) : Sp := fun vs H Q _ => ∃ (v : V) (b hv : Bool) (l : List Sx), vs = [v] ∧ Rp H v (blkD b l) ∧ l.length ≤ 10 ∧ (∀ s ∈ l, s.fit hv ∧ s.lev < m) ∧
  ∀ t p q n H', Same H H' → H p = none → H q = none → H' t = some (.tup [.ref p, .ref q]) → H' p = some (.lst (reps b n)) → H' q = some (.lst []) → n ≤ l.length * 10 ^ m → Q (.ref t) H'
theorem b_mentioned : BindOk "mentioned" "mentioned" s_mentioned ["block"] := fun _ _ _ _ _ _ us hl => match us, hl with | [_], _ => rfl
/-- between two turns -/
def WMent (b : Bool) (m : Nat) (v0 : V) (p1 p2 : Addr) (H0 : Hp) (i : Nat) (σ : L2.St) (H : Hp) : Prop :=
  ∃ n v3 v4, n ≤ i * 10 ^ m ∧ σ = [some v0, some (.ref p1), some (.ref p2), v3, v4] ∧ Same H0 H ∧ H p1 = some (.lst (reps b n)) ∧ H p2 = some (.lst [])
theorem ok_ment (T : Tx K mg) : ∀ m : Nat, m ≤ 3 → Cal P w K mg base (m + 4) "mentioned" (spMent m) []
  | 0, _ => by
    have c_named : Cal P w K mg base 4 "named" (spNamed 4) [] := ok_named T 4
    refine cal_of T 2 rfl T.g_mentioned sc_mentioned b_mentioned (fun vs H Q E h => ?_) (fun cdv A outer s H vs Q E hr h => ?_)
    · obtain ⟨_, _, _, _, rfl, _⟩ := h
      rfl
    obtain ⟨v, b, hv, l, rfl, h1, h2, h3, q⟩ := h
    obtain ⟨a, xs, rfl, ha, hx⟩ := Rp.tupE h1
    cases l with
    | cons s r => exact absurd (h3 s (List.mem_cons_self ..)).2 (Nat.not_lt_zero _)
    | nil =>
      obtain rfl := Rps.nilE hx
      refine ⟨_, (pss_cons (ps_set (i := 1) sc_mentioned.nd rfl (Or.inl rfl) (pe_lst pa_nil))
    (pss_cons (ps_set (i := 2) sc_mentioned.nd rfl (Or.inl rfl) (pe_lst pa_nil))
    (pss_cons (ps_for PassesOwn.never rfl (pi_tup (pv 0)) (pg_name (i := 3) sc_mentioned.nd rfl (Or.inl rfl)) pss_never)
    (pss_one (ps_ret (pe_tup (pa_cons (pv 1) (pa_cons (pv 2) pa_nil)))))))), ?_⟩
      refine ⟨by show 0 ≤ sizeLine; decide, fun p1 n1 => ?_⟩
      refine ⟨by show 0 ≤ sizeLine; decide, fun p2 n2 => ?_⟩
      have s1 := same_new n1 (.lst [])
      have s2 := same_new n2 (.lst [])
      refine ⟨_, rfl, a, rfl, ⟨_, SqT.tp (s2 _ _ (s1 _ _ ha))⟩, for_tup (xs := []) (fun i σ H' => σ = [some (.ref a), some (.ref p1), some (.ref p2), none, none] ∧ H' = upd (upd H p1 (.lst [])) p2 (.lst [])) ⟨rfl, rfl⟩ (fun i σ H' _ ⟨_, e⟩ => by rw [e]; exact SqT.tp (s2 _ _ (s1 _ _ ha))) (fun i x σ H' e => by simp at e) ?_⟩
      rintro σ H' ⟨rfl, rfl⟩
      refine ⟨_, rfl, _, rfl, by show 2 ≤ sizeLine; decide, fun p3 n3 => ?_⟩
      have s3 := same_new n3 (.tup [.ref p1, .ref p2])
      exact q p3 p1 p2 0 _ ((s1.trans s2).trans s3) n1 (s1.free n2) upd_same (s3 _ _ (s2 _ _ upd_same)) (s3 _ _ upd_same) (Nat.zero_le _)
  | m + 1, hm => by
    have c_named : Cal P w K mg base 4 "named" (spNamed 4) [] := ok_named T 4
    have c_mentioned : Cal P w K mg base (m + 4) "mentioned" (spMent m) [] := ok_ment T m (by omega)
    have p10 : 10 ^ (m + 1) = 10 ^ m * 10 := Nat.pow_succ ..
    have p1m : 1 ≤ 10 ^ m := Nat.one_le_pow _ _ (by decide)
    have p2m : 10 ^ m ≤ 100 := Nat.pow_le_pow_right (by decide) (show m ≤ 2 by omega)
    refine cal_of T 2 rfl T.g_mentioned sc_mentioned b_mentioned (fun vs H Q E h => ?_) (fun cdv A outer s H vs Q E hr h => ?_)
    · obtain ⟨_, _, _, _, rfl, _⟩ := h
      rfl
    obtain ⟨v, b, hv, l, rfl, h1, h2, h3, q⟩ := h
    obtain ⟨a, xs, rfl, ha, hx⟩ := Rp.tupE h1
    refine ⟨_, (pss_cons (ps_set (i := 1) sc_mentioned.nd rfl (Or.inl rfl) (pe_lst pa_nil))
    (pss_cons (ps_set (i := 2) sc_mentioned.nd rfl (Or.inl rfl) (pe_lst pa_nil))
    (pss_cons (ps_for PassesOwn.never rfl (pi_tup (pv 0)) (pg_name (i := 3) sc_mentioned.nd rfl (Or.inl rfl))
    (pss_cons (ps_if (pt_cmpR op_eq (pe_ix ix_tup (pv 3) pe_int (fun _ _ => rfl)) pe_str (nomark _))
    (pss_cons (ps_expr (pe_bm PySem.F.plainAttrs_list PySem.F.slot_list_extend PySem.F.type_list_extend mt_extend (pv 1) (pa_cons (pe_c c_named hr (by omega) rfl (pa_cons (pe_ix ix_tup (pv 3) pe_int (fun _ _ => rfl)) pa_nil)) pa_nil)))
    (pss_cons (ps_for PassesOwn.never rfl (pi_tup (pe_tup (pa_cons (pe_c c_mentioned hr (by omega) rfl (pa_cons (pe_ix ix_tup (pv 3) pe_int (fun _ _ => rfl)) pa_nil)) (pa_cons (pe_c c_mentioned hr (by omega) rfl (pa_cons (pe_ix ix_tup (pv 3) pe_int (fun _ _ => rfl)) pa_nil)) pa_nil)))) (pg_name (i := 4) sc_mentioned.nd rfl (Or.inl rfl))
    (pss_cons (ps_expr (pe_bm PySem.F.plainAttrs_list PySem.F.slot_list_extend PySem.F.type_list_extend mt_extend (pv 1) (pa_cons (pe_ix ix_tup (pv 4) pe_int (fun _ _ => rfl)) pa_nil)))
    (pss_one (ps_expr (pe_bm PySem.F.plainAttrs_list PySem.F.slot_list_extend PySem.F.type_list_extend mt_extend (pv 2) (pa_cons (pe_ix ix_tup (pv 4) pe_int (fun _ _ => rfl)) pa_nil))))))
    (pss_one ps_continue)))
    pss_nil)
    (pss_cons (ps_if (pt_cmpR op_ne (pe_ix ix_tup (pv 3) pe_int (fun _ _ => rfl)) pe_str (nomark _))
    (pss_one (ps_expr (pe_bm PySem.F.plainAttrs_list PySem.F.slot_list_extend PySem.F.type_list_extend mt_extend (pv 1) (pa_cons (pe_c c_named hr (by omega) rfl (pa_cons (pe_ix ix_tup (pv 3) (pe_un un_neg pe_int) (fun _ _ => rfl)) pa_nil)) pa_nil))))
    pss_nil)
    (pss_cons (ps_if (PW.pt (pw_or (pt_cmpR op_eq (pe_ix ix_tup (pv 3) pe_int (fun _ _ => rfl)) pe_str (nomark _)) (pw_or1 (pt_cmpR op_eq (pe_ix ix_tup (pv 3) pe_int (fun _ _ => rfl)) pe_str (nomark _)))))
    (pss_one (ps_expr (pe_bm PySem.F.plainAttrs_list PySem.F.slot_list_append PySem.F.type_list_append mt_append (pv 1) (pa_cons (pe_ix ix_tup (pv 3) pe_int (fun _ _ => rfl)) pa_nil))))
    pss_nil)
    (pss_cons (ps_if (pt_cmpR op_eq (pe_ix ix_tup (pv 3) pe_int (fun _ _ => rfl)) pe_str (nomark _))
    pss_never
    pss_nil)
    (pss_one (ps_if (pt_cmpR op_eq (pe_ix ix_tup (pv 3) pe_int (fun _ _ => rfl)) pe_str (nomark _))
    pss_never
    pss_nil)))))))
    (pss_one (ps_ret (pe_tup (pa_cons (pv 1) (pa_cons (pv 2) pa_nil)))))))), ?_⟩
    refine ⟨by show 0 ≤ sizeLine; decide, fun p1 n1 => ?_⟩
    refine ⟨by show 0 ≤ sizeLine; decide, fun p2 n2 => ?_⟩
    have s1 := same_new n1 (.lst [])
    have s2 := same_new n2 (.lst [])
    have n2' : H p2 = none := s1.free n2
    have p12 : p1 ≠ p2 := ne_of_none upd_same n2
    have lx : xs.length = l.length := by rw [Rps.length hx, List.length_map]
    refine ⟨_, rfl, a, rfl, ⟨_, SqT.tp (s2 _ _ (s1 _ _ ha))⟩, for_tup (xs := xs) (WMent b (m + 1) (.ref a) p1 p2 H) ⟨0, none, none, by omega, rfl, s1.trans s2, s2 _ _ upd_same, upd_same⟩ (fun i σ H' _ ⟨_, _, _, _, _, e, _⟩ => SqT.tp (e _ _ ha)) ?_ ?_⟩
    · rintro i x σ H' hi ⟨n, v3, v4, hn, rfl, e, g1, g2⟩
      obtain ⟨std, hst0, rx⟩ := Rps.getV hx hi
      rw [List.getElem?_map] at hst0
      obtain ⟨st, hst, rfl⟩ := Option.map_eq_some_iff.mp hst0
      have ms : st ∈ l := List.mem_of_getElem? hst
      have il : i < l.length := lt_of_get hst
      have hn100 : n ≤ 10 * (10 ^ m * 10) := Nat.le_trans hn (by rw [p10]; exact Nat.mul_le_mul_right _ (by omega))
      have rx' := rx.to e
      -- one more of n' mentions
      have next : ∀ (n' : Nat) (v4' : Option V) (H2 : Hp), n' ≤ 10 ^ m * 10 → Same H H2 → H2 p1 = some (.lst (reps b (n + n'))) → H2 p2 = some (.lst []) → WMent b (m + 1) (.ref a) p1 p2 H (i + 1) [some (.ref a), some (.ref p1), some (.ref p2), some x, v4'] H2 := fun n' v4' H2 l1 e2 k1 k2 =>
        ⟨n + n', some x, v4', by rw [p10] at hn ⊢; rw [Nat.succ_mul]; omega, rfl, e2, k1, k2⟩
      obtain ⟨hfit, hlev⟩ := h3 st ms
      cases st with
      | ask k =>
        obtain ⟨y, r, rfl, hy, hr1⟩ := Rp.tupE (show Rp H' x (.tuple [.str "ask", .str "x", .int k]) from rx')
        obtain ⟨u1, r1, rfl, k1, hr1⟩ := Rps.consE hr1
        obtain ⟨u2, r2, rfl, k2, hr1⟩ := Rps.consE hr1
        obtain ⟨u3, r3, rfl, k3, hr1⟩ := Rps.consE hr1
        obtain rfl := Rps.nilE hr1
        obtain rfl := k1.strE
        refine ⟨_, rfl, y, _, 0, _, rfl, rfl, SqT.tp hy, rfl, rfl, _, rfl, ifN (by decide +kernel) ?_⟩
        refine ⟨_, rfl, y, _, 0, _, rfl, rfl, SqT.tp hy, rfl, rfl, _, rfl, ?_⟩
        refine iteNS (by decide +kernel) ?_
        refine ⟨_, rfl, y, _, 0, _, rfl, rfl, SqT.tp hy, rfl, rfl, _, rfl, ifN (by decide +kernel) ?_⟩
        refine ⟨_, rfl, y, _, 0, _, rfl, rfl, SqT.tp hy, rfl, rfl, _, rfl, ifN (by decide +kernel) ?_⟩
        refine ⟨_, rfl, y, _, 0, _, rfl, rfl, SqT.tp hy, rfl, rfl, _, rfl, ifN (by decide +kernel) ?_⟩
        refine ⟨_, rfl, y, _, 0, _, rfl, rfl, SqT.tp hy, rfl, rfl, _, rfl, ifN (by decide +kernel) ?_⟩
        exact next 0 v4 H' (by omega) e g1 g2
      | sm sm =>
        have hf := Sm.fit_ex hfit
        have hc := Ex.fit_cnt hf
        have hd := hf.dep
        cases sm with
        | set ex =>
          obtain ⟨y, r, rfl, hy, hr1⟩ := Rp.tupE (show Rp H' x (.tuple [.str "set", .str "x", ex.d b]) from rx')
          obtain ⟨u1, r1, rfl, k1, hr1⟩ := Rps.consE hr1
          obtain ⟨u2, r2, rfl, k2, hr1⟩ := Rps.consE hr1
          obtain ⟨u3, r3, rfl, k3, hr1⟩ := Rps.consE hr1
          obtain rfl := Rps.nilE hr1
          obtain rfl := k1.strE
          refine ⟨_, rfl, y, _, 0, _, rfl, rfl, SqT.tp hy, rfl, rfl, _, rfl, ifN (by decide +kernel) ?_⟩
          refine ⟨_, rfl, y, _, 0, _, rfl, rfl, SqT.tp hy, rfl, rfl, _, rfl, ?_⟩
          have hne : ¬ (V.str "set" = V.str "ask") := by decide +kernel
          rw [decide_eq_false hne]
          refine ⟨_, rfl, .inl ⟨rfl, _, SqL.of g1⟩, _, rfl, _, rfl, y, _, -1, _, rfl, rfl, SqT.tp hy, rfl, u3, b, ex, rfl, k3, hd, (by show ex.cnt ≤ 1000; have : ex.cnt ≤ 8 := hc; omega), fun c H2 e2 k4 => ?_⟩
          have hc8 : ex.cnt ≤ 8 := hc
          refine ⟨p1, c, _, _, rfl, rfl, e2 _ _ g1, k4, sz _ (by rw [reps_len, reps_len]; omega), ?_⟩
          rw [reps_add]
          have hy2 := e2 _ _ hy
          have ne1 : y ≠ p1 := ne_of hy g1 (fun z => nomatch z)
          have hy3 : upd H2 p1 (.lst (reps b (n + ex.cnt))) y = some (.tup [.str "set", u2, u3]) := by rw [upd_ne ne1]; exact hy2
          refine ⟨_, rfl, y, _, 0, _, rfl, rfl, SqT.tp hy3, rfl, rfl, _, rfl, ifN (by decide +kernel) ?_⟩
          refine ⟨_, rfl, y, _, 0, _, rfl, rfl, SqT.tp hy3, rfl, rfl, _, rfl, ifN (by decide +kernel) ?_⟩
          refine ⟨_, rfl, y, _, 0, _, rfl, rfl, SqT.tp hy3, rfl, rfl, _, rfl, ifN (by decide +kernel) ?_⟩
          refine ⟨_, rfl, y, _, 0, _, rfl, rfl, SqT.tp hy3, rfl, rfl, _, rfl, ifN (by decide +kernel) ?_⟩
          exact next ex.cnt v4 _ (by omega) (same_mut (e.trans e2) n1) upd_same (by rw [upd_ne p12.symm]; exact e2 _ _ g2)
        | need ex =>
          obtain ⟨y, r, rfl, hy, hr1⟩ := Rp.tupE (show Rp H' x (.tuple [.str "need", ex.d b]) from rx')
          obtain ⟨u1, r1, rfl, k1, hr1⟩ := Rps.consE hr1
          obtain ⟨u3, r3, rfl, k3, hr1⟩ := Rps.consE hr1
          obtain rfl := Rps.nilE hr1
          obtain rfl := k1.strE
          refine ⟨_, rfl, y, _, 0, _, rfl, rfl, SqT.tp hy, rfl, rfl, _, rfl, ifN (by decide +kernel) ?_⟩
          refine ⟨_, rfl, y, _, 0, _, rfl, rfl, SqT.tp hy, rfl, rfl, _, rfl, ?_⟩
          have hne : ¬ (V.str "need" = V.str "ask") := by decide +kernel
          rw [decide_eq_false hne]
          refine ⟨_, rfl, .inl ⟨rfl, _, SqL.of g1⟩, _, rfl, _, rfl, y, _, -1, _, rfl, rfl, SqT.tp hy, rfl, u3, b, ex, rfl, k3, hd, (by show ex.cnt ≤ 1000; have : ex.cnt ≤ 8 := hc; omega), fun c H2 e2 k4 => ?_⟩
          have hc8 : ex.cnt ≤ 8 := hc
          refine ⟨p1, c, _, _, rfl, rfl, e2 _ _ g1, k4, sz _ (by rw [reps_len, reps_len]; omega), ?_⟩
          rw [reps_add]
          have hy2 := e2 _ _ hy
          have ne1 : y ≠ p1 := ne_of hy g1 (fun z => nomatch z)
          have hy3 : upd H2 p1 (.lst (reps b (n + ex.cnt))) y = some (.tup [.str "need", u3]) := by rw [upd_ne ne1]; exact hy2
          refine ⟨_, rfl, y, _, 0, _, rfl, rfl, SqT.tp hy3, rfl, rfl, _, rfl, ifN (by decide +kernel) ?_⟩
          refine ⟨_, rfl, y, _, 0, _, rfl, rfl, SqT.tp hy3, rfl, rfl, _, rfl, ifN (by decide +kernel) ?_⟩
          refine ⟨_, rfl, y, _, 0, _, rfl, rfl, SqT.tp hy3, rfl, rfl, _, rfl, ifN (by decide +kernel) ?_⟩
          refine ⟨_, rfl, y, _, 0, _, rfl, rfl, SqT.tp hy3, rfl, rfl, _, rfl, ifN (by decide +kernel) ?_⟩
          exact next ex.cnt v4 _ (by omega) (same_mut (e.trans e2) n1) upd_same (by rw [upd_ne p12.symm]; exact e2 _ _ g2)
        | give ex =>
          obtain ⟨y, r, rfl, hy, hr1⟩ := Rp.tupE (show Rp H' x (.tuple [.str "give", .str (asN b), ex.d b]) from rx')
          obtain ⟨u1, r1, rfl, k1, hr1⟩ := Rps.consE hr1
          obtain ⟨u2, r2, rfl, k2, hr1⟩ := Rps.consE hr1
          obtain ⟨u3, r3, rfl, k3, hr1⟩ := Rps.consE hr1
          obtain rfl := Rps.nilE hr1
          obtain rfl := k1.strE
          obtain rfl := k2.strE
          refine ⟨_, rfl, y, _, 0, _, rfl, rfl, SqT.tp hy, rfl, rfl, _, rfl, ifN (by decide +kernel) ?_⟩
          refine ⟨_, rfl, y, _, 0, _, rfl, rfl, SqT.tp hy, rfl, rfl, _, rfl, ?_⟩
          have hne : ¬ (V.str "give" = V.str "ask") := by decide +kernel
          rw [decide_eq_false hne]
          refine ⟨_, rfl, .inl ⟨rfl, _, SqL.of g1⟩, _, rfl, _, rfl, y, _, -1, _, rfl, rfl, SqT.tp hy, rfl, u3, b, ex, rfl, k3, hd, (by show ex.cnt ≤ 1000; have : ex.cnt ≤ 8 := hc; omega), fun c H2 e2 k4 => ?_⟩
          have hc8 : ex.cnt ≤ 8 := hc
          refine ⟨p1, c, _, _, rfl, rfl, e2 _ _ g1, k4, sz _ (by rw [reps_len, reps_len]; omega), ?_⟩
          rw [reps_add]
          have hy2 := e2 _ _ hy
          have ne1 : y ≠ p1 := ne_of hy g1 (fun z => nomatch z)
          have hy3 : upd H2 p1 (.lst (reps b (n + ex.cnt))) y = some (.tup [.str "give", .str (asN b), u3]) := by rw [upd_ne ne1]; exact hy2
          refine ⟨_, rfl, y, _, 0, _, rfl, rfl, SqT.tp hy3, rfl, rfl, _, rfl, ifY (by decide +kernel) ?_⟩
          refine ⟨_, rfl, .inl ⟨rfl, _, SqL.of upd_same⟩, _, rfl, y, _, 1, _, rfl, rfl, SqT.tp hy3, rfl, p1, _, _, rfl, rfl, upd_same, szl _ (by rw [reps_len]; omega), ?_⟩
          have ea : reps b (n + ex.cnt) ++ [V.str (asN b)] = reps b (n + (ex.cnt + 1)) := reps_add b (n + ex.cnt) 1
          rw [ea, upd_upd]
          have hy4 : upd H2 p1 (.lst (reps b (n + (ex.cnt + 1)))) y = some (.tup [.str "give", .str (asN b), u3]) := by rw [upd_ne ne1]; exact hy2
          refine ⟨_, rfl, y, _, 0, _, rfl, rfl, SqT.tp hy4, rfl, rfl, _, rfl, ifN (by decide +kernel) ?_⟩
          refine ⟨_, rfl, y, _, 0, _, rfl, rfl, SqT.tp hy4, rfl, rfl, _, rfl, ifN (by decide +kernel) ?_⟩
          exact next (ex.cnt + 1) v4 _ (by omega) (same_mut (e.trans e2) n1) upd_same (by rw [upd_ne p12.symm]; exact e2 _ _ g2)
        | get ex =>
          obtain ⟨y, r, rfl, hy, hr1⟩ := Rp.tupE (show Rp H' x (.tuple [.str "get", .str (asN b), ex.d b]) from rx')
          obtain ⟨u1, r1, rfl, k1, hr1⟩ := Rps.consE hr1
          obtain ⟨u2, r2, rfl, k2, hr1⟩ := Rps.consE hr1
          obtain ⟨u3, r3, rfl, k3, hr1⟩ := Rps.consE hr1
          obtain rfl := Rps.nilE hr1
          obtain rfl := k1.strE
          obtain rfl := k2.strE
          refine ⟨_, rfl, y, _, 0, _, rfl, rfl, SqT.tp hy, rfl, rfl, _, rfl, ifN (by decide +kernel) ?_⟩
          refine ⟨_, rfl, y, _, 0, _, rfl, rfl, SqT.tp hy, rfl, rfl, _, rfl, ?_⟩
          have hne : ¬ (V.str "get" = V.str "ask") := by decide +kernel
          rw [decide_eq_false hne]
          refine ⟨_, rfl, .inl ⟨rfl, _, SqL.of g1⟩, _, rfl, _, rfl, y, _, -1, _, rfl, rfl, SqT.tp hy, rfl, u3, b, ex, rfl, k3, hd, (by show ex.cnt ≤ 1000; have : ex.cnt ≤ 8 := hc; omega), fun c H2 e2 k4 => ?_⟩
          have hc8 : ex.cnt ≤ 8 := hc
          refine ⟨p1, c, _, _, rfl, rfl, e2 _ _ g1, k4, sz _ (by rw [reps_len, reps_len]; omega), ?_⟩
          rw [reps_add]
          have hy2 := e2 _ _ hy
          have ne1 : y ≠ p1 := ne_of hy g1 (fun z => nomatch z)
          have hy3 : upd H2 p1 (.lst (reps b (n + ex.cnt))) y = some (.tup [.str "get", .str (asN b), u3]) := by rw [upd_ne ne1]; exact hy2
          refine ⟨_, rfl, y, _, 0, _, rfl, rfl, SqT.tp hy3, rfl, rfl, _, rfl, ifN (by decide +kernel) ?_⟩
          refine ⟨_, rfl, y, _, 0, _, rfl, rfl, SqT.tp hy3, rfl, rfl, _, rfl, ifY (by decide +kernel) ?_⟩
          refine ⟨_, rfl, .inl ⟨rfl, _, SqL.of upd_same⟩, _, rfl, y, _, 1, _, rfl, rfl, SqT.tp hy3, rfl, p1, _, _, rfl, rfl, upd_same, szl _ (by rw [reps_len]; omega), ?_⟩
          have ea : reps b (n + ex.cnt) ++ [V.str (asN b)] = reps b (n + (ex.cnt + 1)) := reps_add b (n + ex.cnt) 1
          rw [ea, upd_upd]
          have hy4 : upd H2 p1 (.lst (reps b (n + (ex.cnt + 1)))) y = some (.tup [.str "get", .str (asN b), u3]) := by rw [upd_ne ne1]; exact hy2
          refine ⟨_, rfl, y, _, 0, _, rfl, rfl, SqT.tp hy4, rfl, rfl, _, rfl, ifN (by decide +kernel) ?_⟩
          refine ⟨_, rfl, y, _, 0, _, rfl, rfl, SqT.tp hy4, rfl, rfl, _, rfl, ifN (by decide +kernel) ?_⟩
          exact next (ex.cnt + 1) v4 _ (by omega) (same_mut (e.trans e2) n1) upd_same (by rw [upd_ne p12.symm]; exact e2 _ _ g2)
      | ite ex t f =>
        obtain ⟨hex, lt, lf, ht, hf⟩ := hfit
        have hc8 : ex.cnt ≤ 8 := Ex.fit_cnt hex
        have hd := hex.dep
        have hm1 : 1 ≤ m := by
          have h : (1 : Nat) < m + 1 := hlev
          omega
        obtain ⟨y, r, rfl, hy, hr1⟩ := Rp.tupE (show Rp H' x (.tuple [.str "if", ex.d b, .tuple (t.map (Sm.d b)), .tuple (f.map (Sm.d b))]) from rx')
        rw [blk_sm, blk_sm] at hr1
        obtain ⟨u1, r1, rfl, k1, hr1⟩ := Rps.consE hr1
        obtain ⟨u2, r2, rfl, k2, hr1⟩ := Rps.consE hr1
        obtain ⟨u3, r3, rfl, k3, hr1⟩ := Rps.consE hr1
        obtain ⟨u4, r4, rfl, k4, hr1⟩ := Rps.consE hr1
        obtain rfl := Rps.nilE hr1
        obtain rfl := k1.strE
        have fitM : ∀ (l : List Sm), (∀ s ∈ l, s.fit hv) → ∀ s ∈ l.map Sx.sm, s.fit hv ∧ s.lev < m := fun l h s hs => by
          obtain ⟨z, hz, rfl⟩ := List.mem_map.mp hs
          exact ⟨h z hz, hm1⟩
        refine ⟨_, rfl, y, _, 0, _, rfl, rfl, SqT.tp hy, rfl, rfl, _, rfl, ifY (by decide +kernel) ?_⟩
        refine ⟨_, rfl, .inl ⟨rfl, _, SqL.of g1⟩, _, rfl, y, _, 1, _, rfl, rfl, SqT.tp hy, rfl, u2, b, ex, rfl, k2, hd, (by show ex.cnt ≤ 1000; omega), fun c H2 e2 k5 => ?_⟩
        refine ⟨p1, c, _, _, rfl, rfl, e2 _ _ g1, k5, sz _ (by rw [reps_len, reps_len]; omega), ?_⟩
        rw [reps_add]
        have ne1 : y ≠ p1 := ne_of hy g1 (fun z => nomatch z)
        have hy3 : upd H2 p1 (.lst (reps b (n + ex.cnt))) y = some (.tup [.str "if", u2, u3, u4]) := by rw [upd_ne ne1]; exact e2 _ _ hy
        have ts3 : TpS H' (upd H2 p1 (.lst (reps b (n + ex.cnt)))) := (TpS.of e2).upd (by rw [e2 _ _ g1]; exact id)
        have e3 : Same H (upd H2 p1 (.lst (reps b (n + ex.cnt)))) := same_mut (e.trans e2) n1
        refine ⟨_, rfl, y, _, 2, _, rfl, rfl, SqT.tp hy3, rfl, u3, b, hv, _, rfl, Rp.ts ts3 _ _ k3, by rw [List.length_map]; omega, fitM t ht, fun t1 a1 b1 m1 H4 e4 f41 f42 h41 h42 h43 h44 => ?_⟩
        rw [List.length_map] at h44
        refine ⟨_, rfl, y, _, 3, _, rfl, rfl, SqT.tp (e4 _ _ hy3), rfl, u4, b, hv, _, rfl, (Rp.ts ts3 _ _ k4).to e4, by rw [List.length_map]; omega, fitM f hf, fun t2 a2 b2 m2 H5 e5 f51 f52 h51 h52 h53 h54 => ?_⟩
        rw [List.length_map] at h54
        refine ⟨by show 2 ≤ sizeLine; decide, fun p6 n6 => ?_⟩
        have e6 := same_new n6 (.tup [.ref t1, .ref t2])
        have m1l : m1 ≤ 10 ^ m := Nat.le_trans h44 (by have := Nat.mul_le_mul_right (10 ^ m) lt; omega)
        have m2l : m2 ≤ 10 ^ m := Nat.le_trans h54 (by have := Nat.mul_le_mul_right (10 ^ m) lf; omega)
        -- the two parts
        refine ⟨p6, rfl, ⟨_, SqT.tp upd_same⟩, for_tup (xs := [.ref t1, .ref t2]) (fun j σ' H6 => ∃ k v4', (j = 0 → k = ex.cnt) ∧ (j = 1 → k = ex.cnt + m1) ∧ (j = 2 → k = ex.cnt + m1 + m2) ∧ σ' = [some (.ref a), some (.ref p1), some (.ref p2), some (.ref y), v4'] ∧ Same H H6 ∧ H6 p1 = some (.lst (reps b (n + k))) ∧ H6 p2 = some (.lst []) ∧
            H6 p6 = some (.tup [.ref t1, .ref t2]) ∧ H6 t1 = some (.tup [.ref a1, .ref b1]) ∧ H6 t2 = some (.tup [.ref a2, .ref b2]) ∧ H6 a1 = some (.lst (reps b m1)) ∧ H6 b1 = some (.lst []) ∧ H6 a2 = some (.lst (reps b m2)) ∧ H6 b2 = some (.lst []))
          ⟨ex.cnt, v4, fun _ => rfl, fun h => by omega, fun h => by omega, rfl, ((e3.trans e4).trans e5).trans e6, e6 _ _ (e5 _ _ (e4 _ _ upd_same)), e6 _ _ (e5 _ _ (e4 _ _ (by rw [upd_ne p12.symm]; exact e2 _ _ g2))), upd_same, e6 _ _ (e5 _ _ h41), e6 _ _ h51, e6 _ _ (e5 _ _ h42), e6 _ _ (e5 _ _ h43), e6 _ _ h52, e6 _ _ h53⟩
          (fun j σ' H6 _ ⟨_, _, _, _, _, _, _, _, _, h, _⟩ => SqT.tp h) ?_ ?_⟩
        · rintro j z σ' H6 hz ⟨k, v4', k0, k1', k2', rfl, e7, w1, w2, w6, wt1, wt2, wa1, wb1, wa2, wb2⟩
          have pp1 : ∀ q, upd H2 p1 (.lst (reps b (n + ex.cnt))) q = none → p1 ≠ q := fun q hq => ne_of_none upd_same hq
          have pp2 : ∀ q, upd H2 p1 (.lst (reps b (n + ex.cnt))) q = none → p2 ≠ q := fun q hq => ne_of_none (H := upd H2 p1 (.lst (reps b (n + ex.cnt)))) (by rw [upd_ne p12.symm]; exact e2 _ _ g2) hq
          have qa1 := pp1 _ f41
          have qb1 := pp1 _ f42
          have qa2 := pp1 _ (e4.free f51)
          have qb2 := pp1 _ (e4.free f52)
          have ra1 := pp2 _ f41
          have rb1 := pp2 _ f42
          have ra2 := pp2 _ (e4.free f51)
          have rb2 := pp2 _ (e4.free f52)
          have t11 : t1 ≠ p1 := ne_of wt1 w1 (fun z => nomatch z)
          have t12 : t1 ≠ p2 := ne_of wt1 w2 (fun z => nomatch z)
          have t21 : t2 ≠ p1 := ne_of wt2 w1 (fun z => nomatch z)
          have t22 : t2 ≠ p2 := ne_of wt2 w2 (fun z => nomatch z)
          have y61 : p6 ≠ p1 := ne_of w6 w1 (fun z => nomatch z)
          have y62 : p6 ≠ p2 := ne_of w6 w2 (fun z => nomatch z)
          have fin : ∀ (t : Addr) (mm : Nat), Same H (upd (upd H6 p1 (.lst (reps b (n + k + mm)))) p2 (.lst [])) ∧ (upd (upd H6 p1 (.lst (reps b (n + k + mm)))) p2 (.lst [])) p1 = some (.lst (reps b (n + (k + mm)))) ∧ (upd (upd H6 p1 (.lst (reps b (n + k + mm)))) p2 (.lst [])) p2 = some (.lst []) ∧
              (∀ q o, H6 q = some o → q ≠ p1 → q ≠ p2 → (upd (upd H6 p1 (.lst (reps b (n + k + mm)))) p2 (.lst [])) q = some o) := fun t mm =>
            ⟨same_mut (same_mut e7 n1) n2', by rw [upd_ne p12, upd_same, Nat.add_assoc], upd_same, fun q o hq h1 h2 => by rw [upd_ne h2, upd_ne h1]; exact hq⟩
          match j, hz with
          | 0, hz =>
            have ez : V.ref t1 = z := Option.some.inj hz
            subst ez
            have ek := k0 rfl
            have kl : k ≤ 200 := by omega
            refine ⟨_, rfl, .inl ⟨rfl, _, SqL.of w1⟩, _, rfl, t1, _, 0, _, rfl, rfl, SqT.tp wt1, rfl, p1, a1, _, _, rfl, rfl, w1, wa1, sz _ (by rw [reps_len, reps_len]; omega), ?_⟩
            rw [reps_add]
            have u2 : upd H6 p1 (.lst (reps b (n + k + m1))) p2 = some (.lst []) := by rw [upd_ne p12.symm]; exact w2
            refine ⟨_, rfl, .inl ⟨rfl, _, SqL.of u2⟩, _, rfl, t1, _, 1, _, rfl, rfl, SqT.tp (by rw [upd_ne t11]; exact wt1), rfl, p2, b1, _, _, rfl, rfl, u2, (by rw [upd_ne qb1.symm]; exact wb1), (by show 0 ≤ sizeLine; decide), ?_⟩
            obtain ⟨c1, c2, c3, c4⟩ := fin t1 m1
            exact ⟨k + m1, some (.ref t1), fun h => by omega, fun _ => by omega, fun h => by omega, rfl, c1, c2, c3, c4 _ _ w6 y61 y62, c4 _ _ wt1 t11 t12, c4 _ _ wt2 t21 t22, c4 _ _ wa1 qa1.symm ra1.symm, c4 _ _ wb1 qb1.symm rb1.symm, c4 _ _ wa2 qa2.symm ra2.symm, c4 _ _ wb2 qb2.symm rb2.symm⟩
          | 1, hz =>
            have ez : V.ref t2 = z := Option.some.inj hz
            subst ez
            have ek := k1' rfl
            have kl : k ≤ 200 := by omega
            refine ⟨_, rfl, .inl ⟨rfl, _, SqL.of w1⟩, _, rfl, t2, _, 0, _, rfl, rfl, SqT.tp wt2, rfl, p1, a2, _, _, rfl, rfl, w1, wa2, sz _ (by rw [reps_len, reps_len]; omega), ?_⟩
            rw [reps_add]
            have u2 : upd H6 p1 (.lst (reps b (n + k + m2))) p2 = some (.lst []) := by rw [upd_ne p12.symm]; exact w2
            refine ⟨_, rfl, .inl ⟨rfl, _, SqL.of u2⟩, _, rfl, t2, _, 1, _, rfl, rfl, SqT.tp (by rw [upd_ne t21]; exact wt2), rfl, p2, b2, _, _, rfl, rfl, u2, (by rw [upd_ne qb2.symm]; exact wb2), (by show 0 ≤ sizeLine; decide), ?_⟩
            obtain ⟨c1, c2, c3, c4⟩ := fin t2 m2
            exact ⟨k + m2, some (.ref t2), fun h => by omega, fun h => by omega, fun _ => by omega, rfl, c1, c2, c3, c4 _ _ w6 y61 y62, c4 _ _ wt1 t11 t12, c4 _ _ wt2 t21 t22, c4 _ _ wa1 qa1.symm ra1.symm, c4 _ _ wb1 qb1.symm rb1.symm, c4 _ _ wa2 qa2.symm ra2.symm, c4 _ _ wb2 qb2.symm rb2.symm⟩
          | j + 2, hz => simp at hz
        · rintro σ' H6 ⟨k, v4', k0, k1', k2', rfl, e7, w1, w2, _⟩
          have ek := k2' rfl
          exact next k v4' H6 (by omega) e7 w1 w2
    · rintro σ H' ⟨n, v3, v4, hn, rfl, e, g1, g2⟩
      refine ⟨_, rfl, _, rfl, by show 2 ≤ sizeLine; decide, fun p3 n3 => ?_⟩
      have s3 := same_new n3 (.tup [.ref p1, .ref p2])
      exact q p3 p1 p2 n _ (e.trans s3) n1 n2' upd_same (s3 _ _ g1) (s3 _ _ g2) (by rw [← lx]; exact hn)
end
end Nc

-- M2
set_option maxHeartbeats 4000000
namespace Nc
open PySem L2
section
variable {x0 x1 y : V}
theorem fHouse_assets : (fHouse x0 x1).lookup ("assets" : Str) = some x0 := by kernel_rfl
theorem pHouse_assets : putF ("assets" : Str) y (fHouse x0 x1) = fHouse y x1 := by kernel_rfl
theorem fHouse_contracts : (fHouse x0 x1).lookup ("contracts" : Str) = some x1 := by kernel_rfl
theorem pHouse_contracts : putF ("contracts" : Str) y (fHouse x0 x1) = fHouse x0 y := by kernel_rfl
theorem gHouse_assets : putF ("assets" : Str) x0 ([] : List (Str × V)) = [(("assets" : Str), x0)] := by kernel_rfl
theorem gHouse_contracts : putF ("contracts" : Str) x1 ([(("assets" : Str), x0)] : List (Str × V)) = [(("assets" : Str), x0), (("contracts" : Str), x1)] := by kernel_rfl
end
def fPause (x0 x1 x2 x3 : V) : List (Str × V) := [(("kind" : Str), x0), (("state" : Str), x1), (("pending" : Str), x2), (("count" : Str), x3)]
section
variable {x0 x1 x2 x3 y : V}
theorem fPause_kind : (fPause x0 x1 x2 x3).lookup ("kind" : Str) = some x0 := by kernel_rfl
theorem pPause_kind : putF ("kind" : Str) y (fPause x0 x1 x2 x3) = fPause y x1 x2 x3 := by kernel_rfl
theorem fPause_state : (fPause x0 x1 x2 x3).lookup ("state" : Str) = some x1 := by kernel_rfl
theorem pPause_state : putF ("state" : Str) y (fPause x0 x1 x2 x3) = fPause x0 y x2 x3 := by kernel_rfl
theorem fPause_pending : (fPause x0 x1 x2 x3).lookup ("pending" : Str) = some x2 := by kernel_rfl
theorem pPause_pending : putF ("pending" : Str) y (fPause x0 x1 x2 x3) = fPause x0 x1 y x3 := by kernel_rfl
theorem fPause_count : (fPause x0 x1 x2 x3).lookup ("count" : Str) = some x3 := by kernel_rfl
theorem pPause_count : putF ("count" : Str) y (fPause x0 x1 x2 x3) = fPause x0 x1 x2 y := by kernel_rfl
theorem gPause_kind : putF ("kind" : Str) x0 ([] : List (Str × V)) = [(("kind" : Str), x0)] := by kernel_rfl
theorem gPause_state : putF ("state" : Str) x1 ([(("kind" : Str), x0)] : List (Str × V)) = [(("kind" : Str), x0), (("state" : Str), x1)] := by kernel_rfl
theorem gPause_pending : putF ("pending" : Str) x2 ([(("kind" : Str), x0), (("state" : Str), x1)] : List (Str × V)) = [(("kind" : Str), x0), (("state" : Str), x1), (("pending" : Str), x2)] := by kernel_rfl
theorem gPause_count : putF ("count" : Str) x3 ([(("kind" : Str), x0), (("state" : Str), x1), (("pending" : Str), x2)] : List (Str × V)) = [(("kind" : Str), x0), (("state" : Str), x1), (("pending" : Str), x2), (("count" : Str), x3)] := by kernel_rfl
end
def fEngine (x0 x1 x2 x3 x4 x5 x6 x7 x8 : V) : List (Str × V) := [(("house" : Str), x0), (("assets" : Str), x1), (("contracts" : Str), x2), (("procs" : Str), x3), (("places" : Str), x4), (("sizes" : Str), x5), (("lines" : Str), x6), (("parts" : Str), x7), (("bodies" : Str), x8)]
section
variable {x0 x1 x2 x3 x4 x5 x6 x7 x8 y : V}
theorem fEngine_house : (fEngine x0 x1 x2 x3 x4 x5 x6 x7 x8).lookup ("house" : Str) = some x0 := by kernel_rfl
theorem pEngine_house : putF ("house" : Str) y (fEngine x0 x1 x2 x3 x4 x5 x6 x7 x8) = fEngine y x1 x2 x3 x4 x5 x6 x7 x8 := by kernel_rfl
theorem fEngine_assets : (fEngine x0 x1 x2 x3 x4 x5 x6 x7 x8).lookup ("assets" : Str) = some x1 := by kernel_rfl
theorem pEngine_assets : putF ("assets" : Str) y (fEngine x0 x1 x2 x3 x4 x5 x6 x7 x8) = fEngine x0 y x2 x3 x4 x5 x6 x7 x8 := by kernel_rfl
theorem fEngine_contracts : (fEngine x0 x1 x2 x3 x4 x5 x6 x7 x8).lookup ("contracts" : Str) = some x2 := by kernel_rfl
theorem pEngine_contracts : putF ("contracts" : Str) y (fEngine x0 x1 x2 x3 x4 x5 x6 x7 x8) = fEngine x0 x1 y x3 x4 x5 x6 x7 x8 := by kernel_rfl
theorem fEngine_procs : (fEngine x0 x1 x2 x3 x4 x5 x6 x7 x8).lookup ("procs" : Str) = some x3 := by kernel_rfl
theorem pEngine_procs : putF ("procs" : Str) y (fEngine x0 x1 x2 x3 x4 x5 x6 x7 x8) = fEngine x0 x1 x2 y x4 x5 x6 x7 x8 := by kernel_rfl
theorem fEngine_places : (fEngine x0 x1 x2 x3 x4 x5 x6 x7 x8).lookup ("places" : Str) = some x4 := by kernel_rfl
theorem pEngine_places : putF ("places" : Str) y (fEngine x0 x1 x2 x3 x4 x5 x6 x7 x8) = fEngine x0 x1 x2 x3 y x5 x6 x7 x8 := by kernel_rfl
theorem fEngine_sizes : (fEngine x0 x1 x2 x3 x4 x5 x6 x7 x8).lookup ("sizes" : Str) = some x5 := by kernel_rfl
theorem pEngine_sizes : putF ("sizes" : Str) y (fEngine x0 x1 x2 x3 x4 x5 x6 x7 x8) = fEngine x0 x1 x2 x3 x4 y x6 x7 x8 := by kernel_rfl
theorem fEngine_lines : (fEngine x0 x1 x2 x3 x4 x5 x6 x7 x8).lookup ("lines" : Str) = some x6 := by kernel_rfl
theorem pEngine_lines : putF ("lines" : Str) y (fEngine x0 x1 x2 x3 x4 x5 x6 x7 x8) = fEngine x0 x1 x2 x3 x4 x5 y x7 x8 := by kernel_rfl
theorem fEngine_parts : (fEngine x0 x1 x2 x3 x4 x5 x6 x7 x8).lookup ("parts" : Str) = some x7 := by kernel_rfl
theorem pEngine_parts : putF ("parts" : Str) y (fEngine x0 x1 x2 x3 x4 x5 x6 x7 x8) = fEngine x0 x1 x2 x3 x4 x5 x6 y x8 := by kernel_rfl
theorem fEngine_bodies : (fEngine x0 x1 x2 x3 x4 x5 x6 x7 x8).lookup ("bodies" : Str) = some x8 := by kernel_rfl
theorem pEngine_bodies : putF ("bodies" : Str) y (fEngine x0 x1 x2 x3 x4 x5 x6 x7 x8) = fEngine x0 x1 x2 x3 x4 x5 x6 x7 y := by kernel_rfl
theorem fEngine_no_numbered : (fEngine x0 x1 x2 x3 x4 x5 x6 x7 x8).lookup ("numbered" : Str) = none := by kernel_rfl
theorem fEngine_no_entries : (fEngine x0 x1 x2 x3 x4 x5 x6 x7 x8).lookup ("entries" : Str) = none := by kernel_rfl
theorem fEngine_no_value : (fEngine x0 x1 x2 x3 x4 x5 x6 x7 x8).lookup ("value" : Str) = none := by kernel_rfl
theorem fEngine_no_stored : (fEngine x0 x1 x2 x3 x4 x5 x6 x7 x8).lookup ("stored" : Str) = none := by kernel_rfl
theorem fEngine_no_paid : (fEngine x0 x1 x2 x3 x4 x5 x6 x7 x8).lookup ("paid" : Str) = none := by kernel_rfl
theorem fEngine_no_begun : (fEngine x0 x1 x2 x3 x4 x5 x6 x7 x8).lookup ("begun" : Str) = none := by kernel_rfl
theorem fEngine_no_block : (fEngine x0 x1 x2 x3 x4 x5 x6 x7 x8).lookup ("block" : Str) = none := by kernel_rfl
theorem fEngine_no_answered : (fEngine x0 x1 x2 x3 x4 x5 x6 x7 x8).lookup ("answered" : Str) = none := by kernel_rfl
theorem fEngine_no_go : (fEngine x0 x1 x2 x3 x4 x5 x6 x7 x8).lookup ("go" : Str) = none := by kernel_rfl
theorem fEngine_no_done : (fEngine x0 x1 x2 x3 x4 x5 x6 x7 x8).lookup ("done" : Str) = none := by kernel_rfl
theorem gEngine_house : putF ("house" : Str) x0 ([] : List (Str × V)) = [(("house" : Str), x0)] := by kernel_rfl
theorem gEngine_assets : putF ("assets" : Str) x1 ([(("house" : Str), x0)] : List (Str × V)) = [(("house" : Str), x0), (("assets" : Str), x1)] := by kernel_rfl
theorem gEngine_contracts : putF ("contracts" : Str) x2 ([(("house" : Str), x0), (("assets" : Str), x1)] : List (Str × V)) = [(("house" : Str), x0), (("assets" : Str), x1), (("contracts" : Str), x2)] := by kernel_rfl
theorem gEngine_procs : putF ("procs" : Str) x3 ([(("house" : Str), x0), (("assets" : Str), x1), (("contracts" : Str), x2)] : List (Str × V)) = [(("house" : Str), x0), (("assets" : Str), x1), (("contracts" : Str), x2), (("procs" : Str), x3)] := by kernel_rfl
theorem gEngine_places : putF ("places" : Str) x4 ([(("house" : Str), x0), (("assets" : Str), x1), (("contracts" : Str), x2), (("procs" : Str), x3)] : List (Str × V)) = [(("house" : Str), x0), (("assets" : Str), x1), (("contracts" : Str), x2), (("procs" : Str), x3), (("places" : Str), x4)] := by kernel_rfl
theorem gEngine_sizes : putF ("sizes" : Str) x5 ([(("house" : Str), x0), (("assets" : Str), x1), (("contracts" : Str), x2), (("procs" : Str), x3), (("places" : Str), x4)] : List (Str × V)) = [(("house" : Str), x0), (("assets" : Str), x1), (("contracts" : Str), x2), (("procs" : Str), x3), (("places" : Str), x4), (("sizes" : Str), x5)] := by kernel_rfl
theorem gEngine_lines : putF ("lines" : Str) x6 ([(("house" : Str), x0), (("assets" : Str), x1), (("contracts" : Str), x2), (("procs" : Str), x3), (("places" : Str), x4), (("sizes" : Str), x5)] : List (Str × V)) = [(("house" : Str), x0), (("assets" : Str), x1), (("contracts" : Str), x2), (("procs" : Str), x3), (("places" : Str), x4), (("sizes" : Str), x5), (("lines" : Str), x6)] := by kernel_rfl
theorem gEngine_parts : putF ("parts" : Str) x7 ([(("house" : Str), x0), (("assets" : Str), x1), (("contracts" : Str), x2), (("procs" : Str), x3), (("places" : Str), x4), (("sizes" : Str), x5), (("lines" : Str), x6)] : List (Str × V)) = [(("house" : Str), x0), (("assets" : Str), x1), (("contracts" : Str), x2), (("procs" : Str), x3), (("places" : Str), x4), (("sizes" : Str), x5), (("lines" : Str), x6), (("parts" : Str), x7)] := by kernel_rfl
theorem gEngine_bodies : putF ("bodies" : Str) x8 ([(("house" : Str), x0), (("assets" : Str), x1), (("contracts" : Str), x2), (("procs" : Str), x3), (("places" : Str), x4), (("sizes" : Str), x5), (("lines" : Str), x6), (("parts" : Str), x7)] : List (Str × V)) = [(("house" : Str), x0), (("assets" : Str), x1), (("contracts" : Str), x2), (("procs" : Str), x3), (("places" : Str), x4), (("sizes" : Str), x5), (("lines" : Str), x6), (("parts" : Str), x7), (("bodies" : Str), x8)] := by kernel_rfl
end
def fWays (x0 x1 x2 x3 : V) : List (Str × V) := [(("engine" : Str), x0), (("entries" : Str), x1), (("rows" : Str), x2), (("kept" : Str), x3)]
section
variable {x0 x1 x2 x3 y : V}
theorem fWays_engine : (fWays x0 x1 x2 x3).lookup ("engine" : Str) = some x0 := by kernel_rfl
theorem pWays_engine : putF ("engine" : Str) y (fWays x0 x1 x2 x3) = fWays y x1 x2 x3 := by kernel_rfl
theorem fWays_entries : (fWays x0 x1 x2 x3).lookup ("entries" : Str) = some x1 := by kernel_rfl
theorem pWays_entries : putF ("entries" : Str) y (fWays x0 x1 x2 x3) = fWays x0 y x2 x3 := by kernel_rfl
theorem fWays_rows : (fWays x0 x1 x2 x3).lookup ("rows" : Str) = some x2 := by kernel_rfl
theorem pWays_rows : putF ("rows" : Str) y (fWays x0 x1 x2 x3) = fWays x0 x1 y x3 := by kernel_rfl
theorem fWays_kept : (fWays x0 x1 x2 x3).lookup ("kept" : Str) = some x3 := by kernel_rfl
theorem pWays_kept : putF ("kept" : Str) y (fWays x0 x1 x2 x3) = fWays x0 x1 x2 y := by kernel_rfl
theorem fWays_no_forget : (fWays x0 x1 x2 x3).lookup ("forget" : Str) = none := by kernel_rfl
theorem fWays_no_of : (fWays x0 x1 x2 x3).lookup ("of" : Str) = none := by kernel_rfl
theorem fWays_no_after : (fWays x0 x1 x2 x3).lookup ("after" : Str) = none := by kernel_rfl
theorem gWays_engine : putF ("engine" : Str) x0 ([] : List (Str × V)) = [(("engine" : Str), x0)] := by kernel_rfl
theorem gWays_entries : putF ("entries" : Str) x1 ([(("engine" : Str), x0)] : List (Str × V)) = [(("engine" : Str), x0), (("entries" : Str), x1)] := by kernel_rfl
theorem gWays_rows : putF ("rows" : Str) x2 ([(("engine" : Str), x0), (("entries" : Str), x1)] : List (Str × V)) = [(("engine" : Str), x0), (("entries" : Str), x1), (("rows" : Str), x2)] := by kernel_rfl
theorem gWays_kept : putF ("kept" : Str) x3 ([(("engine" : Str), x0), (("entries" : Str), x1), (("rows" : Str), x2)] : List (Str × V)) = [(("engine" : Str), x0), (("entries" : Str), x1), (("rows" : Str), x2), (("kept" : Str), x3)] := by kernel_rfl
end
def fSearch (x0 x1 x2 x3 x4 : V) : List (Str × V) := [(("ways" : Str), x0), (("start" : Str), x1), (("ends" : Str), x2), (("rows" : Str), x3), (("asked" : Str), x4)]
section
variable {x0 x1 x2 x3 x4 y : V}
theorem fSearch_ways : (fSearch x0 x1 x2 x3 x4).lookup ("ways" : Str) = some x0 := by kernel_rfl
theorem pSearch_ways : putF ("ways" : Str) y (fSearch x0 x1 x2 x3 x4) = fSearch y x1 x2 x3 x4 := by kernel_rfl
theorem fSearch_start : (fSearch x0 x1 x2 x3 x4).lookup ("start" : Str) = some x1 := by kernel_rfl
theorem pSearch_start : putF ("start" : Str) y (fSearch x0 x1 x2 x3 x4) = fSearch x0 y x2 x3 x4 := by kernel_rfl
theorem fSearch_ends : (fSearch x0 x1 x2 x3 x4).lookup ("ends" : Str) = some x2 := by kernel_rfl
theorem pSearch_ends : putF ("ends" : Str) y (fSearch x0 x1 x2 x3 x4) = fSearch x0 x1 y x3 x4 := by kernel_rfl
theorem fSearch_rows : (fSearch x0 x1 x2 x3 x4).lookup ("rows" : Str) = some x3 := by kernel_rfl
theorem pSearch_rows : putF ("rows" : Str) y (fSearch x0 x1 x2 x3 x4) = fSearch x0 x1 x2 y x4 := by kernel_rfl
theorem fSearch_asked : (fSearch x0 x1 x2 x3 x4).lookup ("asked" : Str) = some x4 := by kernel_rfl
theorem pSearch_asked : putF ("asked" : Str) y (fSearch x0 x1 x2 x3 x4) = fSearch x0 x1 x2 x3 y := by kernel_rfl
theorem fSearch_no_row_of : (fSearch x0 x1 x2 x3 x4).lookup ("row_of" : Str) = none := by kernel_rfl
theorem fSearch_no_meet : (fSearch x0 x1 x2 x3 x4).lookup ("meet" : Str) = none := by kernel_rfl
theorem fSearch_no_grow : (fSearch x0 x1 x2 x3 x4).lookup ("grow" : Str) = none := by kernel_rfl
theorem fSearch_no_closed : (fSearch x0 x1 x2 x3 x4).lookup ("closed" : Str) = none := by kernel_rfl
theorem gSearch_ways : putF ("ways" : Str) x0 ([] : List (Str × V)) = [(("ways" : Str), x0)] := by kernel_rfl
theorem gSearch_start : putF ("start" : Str) x1 ([(("ways" : Str), x0)] : List (Str × V)) = [(("ways" : Str), x0), (("start" : Str), x1)] := by kernel_rfl
theorem gSearch_ends : putF ("ends" : Str) x2 ([(("ways" : Str), x0), (("start" : Str), x1)] : List (Str × V)) = [(("ways" : Str), x0), (("start" : Str), x1), (("ends" : Str), x2)] := by kernel_rfl
theorem gSearch_rows : putF ("rows" : Str) x3 ([(("ways" : Str), x0), (("start" : Str), x1), (("ends" : Str), x2)] : List (Str × V)) = [(("ways" : Str), x0), (("start" : Str), x1), (("ends" : Str), x2), (("rows" : Str), x3)] := by kernel_rfl
theorem gSearch_asked : putF ("asked" : Str) x4 ([(("ways" : Str), x0), (("start" : Str), x1), (("ends" : Str), x2), (("rows" : Str), x3)] : List (Str × V)) = [(("ways" : Str), x0), (("start" : Str), x1), (("ends" : Str), x2), (("rows" : Str), x3), (("asked" : Str), x4)] := by kernel_rfl
end
end Nc

-- D5
set_option maxHeartbeats 4000000
namespace Nc
open PySem L2 C8
/-! ### comprehensions whose block makes nothing -/
section
variable {K : PySem.W.Frag} {a : Addr} {xs : List V} {g : TG} {tt : TT} {te : TE} {vs : List Nat} {σ : L2.St} {H1 : Hp} {D : Addr} {Qd : Hp → Prop}
theorem lcF_tup (acc : Nat → List V) (a0 : acc 0 = []) (ha : H1 a = some (.tup xs)) (hD : H1 D = none)
    (hs : ∀ i x, xs[i]? = some x → g x (wipe σ vs) (upd H1 D (.lst (acc i))) fun σ2 H2 => wipe σ2 vs = wipe σ vs ∧ tt σ2 H2 fun b H3 =>
      if b = true then te σ2 H3 fun y H4 => ∃ ac, H4 D = some (.lst ac) ∧ ac.length < sizeLine ∧ (fun i H => H = upd H1 D (.lst (acc i))) (i + 1) (upd H4 D (.lst (ac ++ [y]))) else (fun i H => H = upd H1 D (.lst (acc i))) (i + 1) H3) (hd : Qd (upd H1 D (.lst (acc xs.length)))) :
    ∃ W : Nat → Nat → Hp → Prop, (∃ m, W 0 m (upd H1 D (.lst []))) ∧ ∀ i m H, W i m H →
      ((Itt K a).stop i H ∧ Qd H) ∨ ((Itt K a).go i H ∧ ∃ Nx : Hp → Prop, (∀ H', Nx H' → ∃ m', m' < m ∧ W (i + 1) m' H') ∧ ∀ x H', (Itt K a).yld i H x H' → g x (wipe σ vs) H' fun σ2 H2 => wipe σ2 vs = wipe σ vs ∧ tt σ2 H2 fun b H3 =>
        if b = true then te σ2 H3 fun y H4 => ∃ acc, H4 D = some (.lst acc) ∧ acc.length < sizeLine ∧ Nx (upd H4 D (.lst (acc ++ [y]))) else Nx H3) :=
  lc_tup (xs := xs) (fun i H => H = upd H1 D (.lst (acc i))) (by rw [a0]) (fun i H _ e => by rw [e]; exact SqT.tp (same_new hD _ _ _ ha)) (fun i x H hx e => by subst e; exact hs i x hx) (fun H e => by subst e; exact hd)
theorem lcF_fz {o : Obj} (acc : Nat → List V) (a0 : acc 0 = []) (ha : H1 a = some (.frz o (.tup xs))) (hD : H1 D = none)
    (hs : ∀ i x, xs[i]? = some x → g x (wipe σ vs) (upd H1 D (.lst (acc i))) fun σ2 H2 => wipe σ2 vs = wipe σ vs ∧ tt σ2 H2 fun b H3 =>
      if b = true then te σ2 H3 fun y H4 => ∃ ac, H4 D = some (.lst ac) ∧ ac.length < sizeLine ∧ (fun i H => H = upd H1 D (.lst (acc i))) (i + 1) (upd H4 D (.lst (ac ++ [y]))) else (fun i H => H = upd H1 D (.lst (acc i))) (i + 1) H3) (hd : Qd (upd H1 D (.lst (acc xs.length)))) :
    ∃ W : Nat → Nat → Hp → Prop, (∃ m, W 0 m (upd H1 D (.lst []))) ∧ ∀ i m H, W i m H →
      ((Itt K a).stop i H ∧ Qd H) ∨ ((Itt K a).go i H ∧ ∃ Nx : Hp → Prop, (∀ H', Nx H' → ∃ m', m' < m ∧ W (i + 1) m' H') ∧ ∀ x H', (Itt K a).yld i H x H' → g x (wipe σ vs) H' fun σ2 H2 => wipe σ2 vs = wipe σ vs ∧ tt σ2 H2 fun b H3 =>
        if b = true then te σ2 H3 fun y H4 => ∃ acc, H4 D = some (.lst acc) ∧ acc.length < sizeLine ∧ Nx (upd H4 D (.lst (acc ++ [y]))) else Nx H3) :=
  lc_tup (xs := xs) (fun i H => H = upd H1 D (.lst (acc i))) (by rw [a0]) (fun i H _ e => by rw [e]; exact SqT.fz (same_new hD _ _ _ ha)) (fun i x H hx e => by subst e; exact hs i x hx) (fun H e => by subst e; exact hd)
theorem lcF_list (acc : Nat → List V) (a0 : acc 0 = []) (ha : H1 a = some (.lst xs)) (hD : H1 D = none)
    (hs : ∀ i x, xs[i]? = some x → g x (wipe σ vs) (upd H1 D (.lst (acc i))) fun σ2 H2 => wipe σ2 vs = wipe σ vs ∧ tt σ2 H2 fun b H3 =>
      if b = true then te σ2 H3 fun y H4 => ∃ ac, H4 D = some (.lst ac) ∧ ac.length < sizeLine ∧ (fun i H => H = upd H1 D (.lst (acc i))) (i + 1) (upd H4 D (.lst (ac ++ [y]))) else (fun i H => H = upd H1 D (.lst (acc i))) (i + 1) H3) (hd : Qd (upd H1 D (.lst (acc xs.length)))) :
    ∃ W : Nat → Nat → Hp → Prop, (∃ m, W 0 m (upd H1 D (.lst []))) ∧ ∀ i m H, W i m H →
      ((Itl K a).stop i H ∧ Qd H) ∨ ((Itl K a).go i H ∧ ∃ Nx : Hp → Prop, (∀ H', Nx H' → ∃ m', m' < m ∧ W (i + 1) m' H') ∧ ∀ x H', (Itl K a).yld i H x H' → g x (wipe σ vs) H' fun σ2 H2 => wipe σ2 vs = wipe σ vs ∧ tt σ2 H2 fun b H3 =>
        if b = true then te σ2 H3 fun y H4 => ∃ acc, H4 D = some (.lst acc) ∧ acc.length < sizeLine ∧ Nx (upd H4 D (.lst (acc ++ [y]))) else Nx H3) :=
  lc_list (xs := xs) (fun i H => H = upd H1 D (.lst (acc i))) (by rw [a0]) (fun i H _ e => by rw [e]; exact SqL.of (same_new hD _ _ _ ha)) (fun i x H hx e => by subst e; exact hs i x hx) (fun H e => by subst e; exact hd)
theorem lcF_range {lo : Int} {n : Nat} (acc : Nat → List V) (a0 : acc 0 = [])
    (hs : ∀ i, i < n → g (.int (lo + i)) (wipe σ vs) (upd H1 D (.lst (acc i))) fun σ2 H2 => wipe σ2 vs = wipe σ vs ∧ tt σ2 H2 fun b H3 =>
      if b = true then te σ2 H3 fun y H4 => ∃ ac, H4 D = some (.lst ac) ∧ ac.length < sizeLine ∧ (fun i H => H = upd H1 D (.lst (acc i))) (i + 1) (upd H4 D (.lst (ac ++ [y]))) else (fun i H => H = upd H1 D (.lst (acc i))) (i + 1) H3) (hd : Qd (upd H1 D (.lst (acc n)))) :
    ∃ W : Nat → Nat → Hp → Prop, (∃ m, W 0 m (upd H1 D (.lst []))) ∧ ∀ i m H, W i m H →
      ((Itr lo n).stop i H ∧ Qd H) ∨ ((Itr lo n).go i H ∧ ∃ Nx : Hp → Prop, (∀ H', Nx H' → ∃ m', m' < m ∧ W (i + 1) m' H') ∧ ∀ x H', (Itr lo n).yld i H x H' → g x (wipe σ vs) H' fun σ2 H2 => wipe σ2 vs = wipe σ vs ∧ tt σ2 H2 fun b H3 =>
        if b = true then te σ2 H3 fun y H4 => ∃ acc, H4 D = some (.lst acc) ∧ acc.length < sizeLine ∧ Nx (upd H4 D (.lst (acc ++ [y]))) else Nx H3) :=
  lc_range (fun i H => H = upd H1 D (.lst (acc i))) (by rw [a0]) (fun i H hx e => by subst e; exact hs i hx) (fun H e => by subst e; exact hd)
/-- a turn's end -/
theorem lc_end {acc : Nat → List V} {i : Nat} {y : V} (h : acc (i + 1) = acc i ++ [y]) (hl : (acc i).length < 100000) :
    ∃ ac, (upd H1 D (.lst (acc i))) D = some (.lst ac) ∧ ac.length < sizeLine ∧ (fun i H => H = upd H1 D (.lst (acc i))) (i + 1) (upd (upd H1 D (.lst (acc i))) D (.lst (ac ++ [y]))) :=
  ⟨acc i, upd_same, szl _ hl, by show upd _ _ _ = upd _ _ _; rw [upd_upd, h]⟩
theorem take_end {ys : List V} {i : Nat} {y : V} (h : ys[i]? = some y) (hl : ys.length ≤ 1000) :
    ∃ ac, (upd H1 D (.lst (ys.take i))) D = some (.lst ac) ∧ ac.length < sizeLine ∧ (fun i H => H = upd H1 D (.lst (ys.take i))) (i + 1) (upd (upd H1 D (.lst (ys.take i))) D (.lst (ac ++ [y]))) :=
  lc_end (acc := fun i => ys.take i) (by show ys.take (i + 1) = ys.take i ++ [y]; rw [List.take_add_one, h]; rfl) (by rw [List.length_take]; omega)
end
/-! ### the first state -/
abbrev GG := Lo × Lo
def gat (g : GG) : Bool → Lo
  | false => g.1
  | true => g.2
def HH.vals (h : HH) (g : GG) : List (List Int) := h.pres.map fun b => if (h.cc b).hv then [(gat g b).x] else []
def amt (b : Bool) (i : Int) : List Int := if b then [0, i] else [i, 0]
def HH.amts (h : HH) (g : GG) : List (List Int) := h.pres.map fun b => amt b (gat g b).a
def HH.dS (h : HH) (g : GG) : PyData := .tuple [dII (h.vals g), dII (h.amts g), dI [g.1.o, g.2.o]]
def CC.l0 (c : CC) (o : Int) : Lo := ⟨(c.var.map (·.2)).getD 0, c.hold.getD 0, o⟩
def HH.g0 (h : HH) : GG := (h.c.l0 h.oa, h.d.l0 h.oz)
theorem HH.pres_len (h : HH) : h.pres.length ≤ 2 := by
  unfold HH.pres
  cases h.pc <;> cases h.pd <;> decide
section
variable {P : Program} {w : World} {K : PySem.W.Frag} {mg : Str → Option Value} {base : Heap}
/-! ### House -/
abbrev N_House_init : List Str := ["self", "assets", "contracts"]
theorem sc_House_init : FnScope N_House_init ["self", "assets", "contracts"] (defScope s_House_init) := ⟨rfl, rfl, rfl, by decide +kernel, rfl, by decide +kernel, by decide +kernel⟩
def SameX (e : Addr) (H H' : Hp) : Prop := ∀ a u, a ≠ e → H a = some u → H' a = some u
/-- a list or a tuple of the contracts -/
def ConAt (H : Hp) (y : V) (h : HH) : Prop := Rp H y h.conD ∨ ∃ b ys, y = .ref b ∧ H b = some (.lst ys) ∧ Rps H ys (h.pres.map fun b => (h.cc b).d b)
def spHouse (K : PySem.W.Frag) : Sp := fun vs H Q _ => ∃ (e dx : Addr) (va y : V) (h : HH), vs = [.ref e, va, y] ∧ H e = some (.ins (He.ga K "House") dx []) ∧ Rp H va h.assD ∧ ConAt H y h ∧
  ∀ H', SameX e H H' → HouseAt K H' e h → Q .non H'
theorem same_insX {H : Hp} {e : Addr} {o : HO} : SameX e H (upd H e o) := fun a u ha h => by rw [upd_ne ha]; exact h
theorem ts_ins {H : Hp} {e : Addr} {C dx : Addr} {fs fs' : List (Str × V)} (h : H e = some (.ins C dx fs)) : TpS H (upd H e (.ins C dx fs')) := (TpS.refl H).upd (by rw [h]; exact id)
theorem len0 : ([] : List (Str × V)).length < 1000 := by decide
theorem len1 {f : Str} {v : V} : (putF f v []).length < 1000 := by show 1 < 1000; decide
theorem ok_House_init (T : Tx K mg) : Mak P w K mg base 1 "House" (He.ga K "House") (spHouse K) [] := by
  refine mak_of T 1 rfl T.g_House T.mk_House sc_House_init (fun _ _ _ _ _ _ us hl => match us, hl with | [_, _, _], _ => rfl) (fun vs H Q E h => ?_) (fun cdv A outer s H vs Q E hr h => ?_)
  · obtain ⟨_, _, _, _, _, rfl, _⟩ := h
    rfl
  obtain ⟨e, dx, va, y, h, rfl, he, h1, h2, q⟩ := h
  obtain ⟨a, xs, rfl, ha, hxs⟩ := Rp.tupE h1
  refine ⟨_, (pss_cons (ps_fld (pv 0) (pe_callTy call_tuple_of (by rfl) T.f_tuple (by decide +kernel) (pa_cons (pv 1) pa_nil)) rfl)
    (pss_one (ps_fld (pv 0) (pe_callTy call_tuple_of (by rfl) T.f_tuple (by decide +kernel) (pa_cons (pv 2) pa_nil)) rfl))), ?_⟩
  refine ⟨_, rfl, a, _, rfl, .inr ⟨SqT.tp ha, _, rfl, e, _, _, _, rfl, he, T.cl_House, T.na_House_assets, len0, ?_⟩⟩
  have h1' := Rp.ts (ts_ins he (fs' := putF "assets" (.ref a) [])) _ _ h1
  rcases h2 with h2 | ⟨b, ys, rfl, hb, hys⟩
  · obtain ⟨b, ys, rfl, hb, hys⟩ := Rp.tupE h2
    have ne : b ≠ e := ne_of hb he (fun z => nomatch z)
    refine ⟨_, rfl, b, _, rfl, .inr ⟨SqT.tp (by rw [upd_ne ne]; exact hb), _, rfl, e, _, _, _, rfl, upd_same, T.cl_House, T.na_House_contracts, len1, ?_⟩⟩
    rw [upd_upd]
    exact q _ same_insX ⟨dx, .ref a, .ref b, upd_same, Rp.ts (ts_ins he) _ _ h1, Rp.ts (ts_ins he) _ _ h2⟩
  · have ne : b ≠ e := ne_of hb he (fun z => nomatch z)
    refine ⟨_, rfl, b, _, rfl, .inl ⟨SqL.of (by rw [upd_ne ne]; exact hb), fun l hl => ?_⟩⟩
    · have ne2 : e ≠ l := ne_of_none upd_same hl
      have hl' : H l = none := by rw [upd_ne ne2.symm] at hl; exact hl
      have ts : TpS H (upd (upd (upd H e (.ins (He.ga K "House") dx (putF "assets" (.ref a) []))) l (.tup ys)) e (.ins (He.ga K "House") dx (putF "contracts" (.ref l) (putF "assets" (.ref a) [])))) :=
        ((ts_ins he).new hl).upd (by rw [upd_ne ne2, upd_same]; exact id)
      refine ⟨_, rfl, e, _, _, _, rfl, (upd_ne ne2).trans upd_same, T.cl_House, T.na_House_contracts, len1, ?_⟩
      refine q _ (fun z u hz hu => ?_) ⟨dx, .ref a, .ref l, upd_same, Rp.ts ts _ _ h1, .tup (by rw [upd_ne ne2.symm]; exact upd_same) (Rps.ts ts _ _ hys)⟩
      rw [upd_ne hz, upd_ne (ne_of_none hu hl'), upd_ne hz]
      exact hu
end
end Nc

-- D6
set_option maxHeartbeats 4000000
namespace Nc
open PySem L2 C8
section
variable {P : Program} {w : World} {K : PySem.W.Frag} {mg : Str → Option Value} {base : Heap}
/-! ### worth -/
abbrev N_worth : List Str := ["state", "prices", "amount", "price"]
theorem sc_worth : FnScope N_worth ["state", "prices"] (defScope s_worth) := ⟨rfl, rfl, rfl, by decide +kernel, rfl, by decide +kernel, by decide +kernel⟩
def gw (g : GG) (p q : Int) : Int := g.1.o * p + g.2.o * q
def PrAt (H : Hp) (v : V) (p q : Int) : Prop := ∃ b, v = .ref b ∧ H b = some (.lst [.int p, .int q]) ∧ 0 ≤ p ∧ p ≤ 9 ∧ 0 ≤ q ∧ q ≤ 9
theorem PrAt.to {H H' : Hp} {v : V} {p q : Int} (h : PrAt H v p q) (s : Same H H') : PrAt H' v p q := by
  obtain ⟨b, e, h1, h2⟩ := h
  exact ⟨b, e, s _ _ h1, h2⟩
def spWorth : Sp := fun vs H Q _ => ∃ (v pr : V) (h : HH) (g : GG) (p q : Int), vs = [v, pr] ∧ Rp H v (h.dS g) ∧ PrAt H pr p q ∧ 0 ≤ g.1.o ∧ g.1.o ≤ 1000 ∧ 0 ≤ g.2.o ∧ g.2.o ≤ 1000 ∧ ∀ H', Same H H' → Q (.int (gw g p q)) H'
theorem ok_worth (T : Tx K mg) : Cal P w K mg base 1 "worth" spWorth [] := by
  refine cal_of T 10 rfl T.g_worth sc_worth (fun _ _ _ _ _ _ us hl => match us, hl with | [_, _], _ => rfl) (fun vs H Q E h => ?_) (fun cdv A outer s H vs Q E hr h => ?_)
  · obtain ⟨_, _, _, _, _, _, rfl, _⟩ := h
    rfl
  obtain ⟨v, pr, h, g, p, q, rfl, hv, ⟨b, rfl, hb, p0, p1, q0, q1⟩, a0, a1, b0, b1, k⟩ := h
  obtain ⟨a, xs, rfl, ha, hx⟩ := Rp.tupE hv
  obtain ⟨v1, r1, rfl, h1, hx⟩ := Rps.consE hx
  obtain ⟨v2, r2, rfl, h2, hx⟩ := Rps.consE hx
  obtain ⟨v3, r3, rfl, h3, hx⟩ := Rps.consE hx
  obtain rfl := Rps.nilE hx
  obtain ⟨c, rfl, hc⟩ := Rp.dIE h3
  have hc' : H c = some (.tup [.int g.1.o, .int g.2.o]) := hc
  refine ⟨_, (pss_one (ps_ret (pe_callB (cr_sum rfl) (by rfl) T.f_sum (by decide +kernel) (pa_cons (pe_lc (own := [("amount", 2), ("price", 3)]) (g := gTup K 2 (gCons (gName 2) (gCons (gName 3) gNil))) (tt := tYes) rfl sc_worth.nd (pi_zipTL rfl T.f_zip (pa_cons (pe_ix ix_tup (pv 0) pe_int (fun _ _ => rfl)) (pa_cons (pv 1) pa_nil))) (blkOk_by (N := N_worth) (sc := defScope s_worth) (by decide +kernel)) (fun _ _ _ _ _ => (pg_tup rfl (pgs_cons (pg_name (i := 2) sc_worth.nd rfl (Or.inl rfl)) (pgs_cons (pg_name (i := 3) sc_worth.nd rfl (Or.inl rfl)) pgs_nil)))) (fun _ _ _ _ _ => pts_nil) (fun _ _ _ _ _ => (pe_op op_mul (pv 2) (pv 3)))) pa_nil)))), ?_⟩
  refine ⟨_, rfl, a, _, 2, _, rfl, rfl, SqT.tp ha, rfl, _, rfl, c, b, _, _, rfl, SqT.tp hc', SqL.of hb, fun D hD => ?_⟩
  let ys : List V := [.int (g.1.o * p), .int (g.2.o * q)]
  refine ⟨fun i m H' => m = 2 - i ∧ i ≤ 2 ∧ Same H H' ∧ H' D = some (.lst (ys.take i)), ⟨2, rfl, by omega, same_new hD _, upd_same⟩, ?_⟩
  rintro i m H' ⟨rfl, hi, e, hd⟩
  match i, hi with
  | 2, _ =>
    refine .inl ⟨⟨_, _, SqT.tp (e _ _ hc'), SqL.of (e _ _ hb), (Nat.le_refl _), (Nat.le_refl _), .inl rfl⟩, D, [g.1.o * p, g.2.o * q], rfl, SqL.of hd, ?_⟩
    have es : ([g.1.o * p, g.2.o * q] : List Int).sum = gw g p q := by simp [gw]
    rw [es]
    exact k _ e
  | 0, _ =>
    refine .inr ⟨⟨_, _, _, _, SqT.tp (e _ _ hc'), SqL.of (e _ _ hb), rfl, rfl⟩, fun H' => Same H H' ∧ H' D = some (.lst (ys.take 1)), fun H' ⟨e1, e2⟩ => ⟨1, by omega, rfl, by omega, e1, e2⟩, ?_⟩
    rintro x H2 ⟨t, x1, x2, rfl, ht, rfl, hx1, hx2⟩
    have ex1 := Option.some.inj (hx1 _ (SqT.tp (e _ _ hc')))
    have ex2 := Option.some.inj (hx2 _ (SqL.of (e _ _ hb)))
    subst ex1 ex2
    refine ⟨t, _, rfl, SqT.tp upd_same, rfl, _, _, rfl, _, _, rfl, rfl, rfl, ?_⟩
    refine ⟨_, rfl, _, rfl, _, _, rfl, rfl, .inl ⟨by omega, by omega⟩, _, (upd_ne (ne_of_none hd ht)).trans hd, (by show 0 < sizeLine; decide), ?_, upd_same⟩
    exact same_mut (e.trans (same_new ht _)) hD
  | 1, _ =>
    refine .inr ⟨⟨_, _, _, _, SqT.tp (e _ _ hc'), SqL.of (e _ _ hb), rfl, rfl⟩, fun H' => Same H H' ∧ H' D = some (.lst (ys.take 2)), fun H' ⟨e1, e2⟩ => ⟨0, by omega, rfl, by omega, e1, e2⟩, ?_⟩
    rintro x H2 ⟨t, x1, x2, rfl, ht, rfl, hx1, hx2⟩
    have ex1 := Option.some.inj (hx1 _ (SqT.tp (e _ _ hc')))
    have ex2 := Option.some.inj (hx2 _ (SqL.of (e _ _ hb)))
    subst ex1 ex2
    refine ⟨t, _, rfl, SqT.tp upd_same, rfl, _, _, rfl, _, _, rfl, rfl, rfl, ?_⟩
    refine ⟨_, rfl, _, rfl, _, _, rfl, rfl, .inl ⟨by omega, by omega⟩, _, (upd_ne (ne_of_none hd ht)).trans hd, (by show 1 < sizeLine; decide), ?_, upd_same⟩
    exact same_mut (e.trans (same_new ht _)) hD
end
end Nc

-- D7
set_option maxHeartbeats 4000000
namespace Nc
open PySem L2 C8
section
variable {P : Program} {w : World} {K : PySem.W.Frag} {mg : Str → Option Value} {base : Heap}
/-! ### part_house -/
abbrev N_part_house : List Str := ["house", "row", "index"]
theorem sc_part_house : FnScope N_part_house ["house", "row"] (defScope s_part_house) := ⟨rfl, rfl, rfl, by decide +kernel, rfl, by decide +kernel, by decide +kernel⟩
def HH.sub (h : HH) (b : Bool) : HH := { h with pc := !b, pd := b }
def spPart (K : PySem.W.Frag) : Sp := fun vs H Q _ => ∃ (e r : Addr) (h : HH) (b : Bool), vs = [.ref e, .ref r] ∧ HouseAt K H e h ∧ h.pc = true ∧ h.pd = true ∧ H r = some (.lst [.int (if b then 1 else 0)]) ∧
  ∀ p H', Same H H' → HouseAt K H' p (h.sub b) → Q (.ref p) H'
theorem ok_part_house (T : Tx K mg) : Cal P w K mg base 3 "part_house" (spPart K) [] := by
  have c_House : Mak P w K mg base 1 "House" (He.ga K "House") (spHouse K) [] := ok_House_init T
  refine cal_of T 6 rfl T.g_part_house sc_part_house (fun _ _ _ _ _ _ us hl => match us, hl with | [_, _], _ => rfl) (fun vs H Q E h => ?_) (fun cdv A outer s H vs Q E hr h => ?_)
  · obtain ⟨_, _, _, _, rfl, _⟩ := h
    rfl
  obtain ⟨e, r, h, b, rfl, hh, h1, h2, hrow, q⟩ := h
  obtain ⟨dx, va, vc, he, ha, hc⟩ := id hh
  obtain ⟨c, ys, rfl, hcc, hys⟩ := Rp.tupE hc
  refine ⟨_, (pss_one (ps_ret (pe_mk c_House hr (by decide) rfl (pa_cons (pe_fld (pv 0) rfl) (pa_cons (pe_lc (te := (tOp (rIxT K) (tFld K (tVar 0) "contracts") (tVar 2))) (g := (gName 2)) (tt := tYes) (own := [("index", 2)]) rfl sc_part_house.nd (pi_list (pv 1)) (blkOk_by (N := N_part_house) (sc := defScope s_part_house) (by decide +kernel)) (fun _ _ _ _ _ => (pg_name (i := 2) sc_part_house.nd rfl (Or.inl rfl))) (fun _ _ _ _ _ => pts_nil) (fun _ _ _ _ _ => (pe_ix ix_tup (pe_fld (pv 0) rfl) (pv 2) (fun _ _ => rfl)))) pa_nil))))), ?_⟩
  have ep : h.pres = [false, true] := by unfold HH.pres; rw [h1, h2]; rfl
  rw [ep] at hys
  obtain ⟨v1, r1, rfl, k1, hys⟩ := Rps.consE hys
  obtain ⟨v2, r2, rfl, k2, hys⟩ := Rps.consE hys
  obtain rfl := Rps.nilE hys
  refine ⟨_, rfl, e, _, dx, _, _, rfl, he, T.cl_House, T.na_House_assets, fHouse_assets, ?_⟩
  refine ⟨_, rfl, r, rfl, ⟨_, SqL.of hrow⟩, fun D hD => lcF_list (acc := fun i => [if b then v2 else v1].take i) rfl hrow hD ?_ ?_⟩
  · rintro i x hi
    have hi0 : i = 0 := by
      have := lt_of_get hi
      have l1 : ([V.int (if b = true then 1 else 0)] : List V).length = 1 := rfl
      omega
    subst hi0
    obtain rfl := Option.some.inj hi
    have sn := same_new hD (.lst [])
    have hv : atI [v1, v2] (if b then 1 else 0) = some (if b then v2 else v1) := by cases b <;> rfl
    refine ⟨rfl, _, rfl, e, _, dx, _, _, rfl, sn _ _ he, T.cl_House, T.na_House_contracts, fHouse_contracts, _, rfl, c, _, _, _, rfl, rfl, SqT.tp (sn _ _ hcc), hv, take_end (ys := [if b then v2 else v1]) rfl (show 1 ≤ 1000 by decide)⟩
  · intro x y hx hy ne
    have s1 : Same H (upd H D (.lst [if b then v2 else v1])) := same_new hD _
    have s2 : Same H (upd (upd (upd H D (.lst [if b then v2 else v1])) y (.own x)) x (.ins (He.ga K "House") y [])) := same_mut (s1.trans (same_new hy _)) (s1.free hx)
    have nx : ∀ q, (upd H D (.lst [if b then v2 else v1])) q = none → D ≠ q := fun q hq => ne_of_none (H := upd H D (.lst [if b then v2 else v1])) upd_same hq
    have hDl : (upd (upd (upd H D (.lst [if b then v2 else v1])) y (.own x)) x (.ins (He.ga K "House") y [])) D = some (.lst [if b then v2 else v1]) := (upd_ne (nx x hx)).trans ((upd_ne (nx y hy)).trans upd_same)
    have hDr : Rps (upd (upd (upd H D (.lst [if b then v2 else v1])) y (.own x)) x (.ins (He.ga K "House") y [])) [if b then v2 else v1] ((h.sub b).pres.map fun b' => ((h.sub b).cc b').d b') := by
      cases b
      · exact .cons (k1.to s2) .nil
      · exact .cons (k2.to s2) .nil
    refine ⟨x, y, va, .ref D, h.sub b, rfl, upd_same, ha.to s2, .inr ⟨D, _, rfl, hDl, hDr⟩, fun H' sx hh' => ⟨rfl, q x H' (fun a u hu => ?_) hh'⟩⟩
    exact sx a u (ne_of_none hu (s1.free hx)) (s2 _ _ hu)
end
end Nc

-- L0
set_option maxHeartbeats 4000000
namespace Nc
open PySem L2 C8
/-! ### all but a few objects stay -/
def Kp (l : List Addr) (H H' : Hp) : Prop := ∀ a u, a ∉ l → H a = some u → H' a = some u
theorem Kp.of {l : List Addr} {H H' : Hp} (s : Same H H') : Kp l H H' := fun a u _ h => s a u h
theorem Kp.refl {l : List Addr} {H : Hp} : Kp l H H := fun _ _ _ h => h
theorem Kp.upd {l : List Addr} {H H' : Hp} (s : Kp l H H') {a : Addr} {o : HO} (h : a ∈ l) : Kp l H (upd H' a o) := fun b u hb hu => by
  rw [upd_ne (fun e => hb (by rw [e]; exact h))]
  exact s b u hb hu
theorem Kp.trans {l : List Addr} {H H1 H2 : Hp} (s : Kp l H H1) (t : Kp l H1 H2) : Kp l H H2 := fun a u ha h => t a u ha (s a u ha h)
theorem Kp.same {l : List Addr} {H H1 H2 : Hp} (s : Kp l H H1) (t : Same H1 H2) : Kp l H H2 := fun a u ha h => t a u (s a u ha h)
theorem Kp.new {l : List Addr} {H H1 : Hp} (s : Kp l H H1) {a : Addr} (h : H1 a = none) (o : HO) : Kp l H (L2.upd H1 a o) := s.same (same_new h o)
theorem Kp.mono {l m : List Addr} {H H1 : Hp} (s : Kp l H H1) (h : ∀ a ∈ l, a ∈ m) : Kp m H H1 := fun a u ha hu => s a u (fun z => ha (h a z)) hu
theorem Kp.toSame {l : List Addr} {H H1 : Hp} (s : Kp l H H1) (h : ∀ a ∈ l, H a = none) : Same H H1 := fun a u hu => s a u (fun z => ne_of_none hu (h a z) rfl) hu
theorem Kp.ts {l : List Addr} {H H1 : Hp} (s : Kp l H H1) (h : ∀ a ∈ l, ¬ IsTp (H a)) : TpS H H1 :=
  ⟨fun a xs ha => s a _ (fun z => h a z (by rw [ha]; exact True.intro)) ha, fun a o xs ha => s a _ (fun z => h a z (by rw [ha]; exact True.intro)) ha⟩
theorem Kp.tup {l : List Addr} {H H1 : Hp} (s : Kp l H H1) (h : ∀ a ∈ l, ¬ IsTp (H a)) {a : Addr} {xs : List V} (ha : H a = some (.tup xs)) : H1 a = some (.tup xs) := (s.ts h).t _ _ ha
theorem nTp {H : Hp} {a : Addr} {xs : List V} (h : H a = some (.lst xs)) : ¬ IsTp (H a) := by rw [h]; exact id
theorem nTp1 {H : Hp} {p : Addr} {xs : List V} (h : H p = some (.lst xs)) : ∀ a ∈ [p], ¬ IsTp (H a) := fun a ha => by
  obtain rfl := List.mem_singleton.mp ha
  exact nTp h
theorem nTp2 {H : Hp} {p q : Addr} {xs ys : List V} (h : H p = some (.lst xs)) (h' : H q = some (.lst ys)) : ∀ a ∈ [p, q], ¬ IsTp (H a) := fun a ha => by
  rcases List.mem_cons.mp ha with rfl | ha
  · exact nTp h
  · exact nTp1 h' a ha
theorem mem1 {p : Addr} : p ∈ [p] := List.mem_singleton.mpr rfl
theorem nmem1 {p q : Addr} (h : q ≠ p) : q ∉ [p] := fun z => h (List.mem_singleton.mp z)
end Nc

-- D8
set_option maxHeartbeats 4000000
namespace Nc
open PySem L2 C8
section
variable {P : Program} {w : World} {K : PySem.W.Frag} {mg : Str → Option Value} {base : Heap}
/-! ### first_state -/
abbrev N_first_state : List Str := ["house", "names", "values", "amounts", "contract", "held", "name", "out", "size", "first"]
theorem sc_first_state : FnScope N_first_state ["house"] (defScope s_first_state) := ⟨rfl, rfl, rfl, by decide +kernel, rfl, by decide +kernel, by decide +kernel⟩
def spFirst (K : PySem.W.Frag) : Sp := fun vs H Q _ => ∃ (e : Addr) (h : HH), vs = [.ref e] ∧ HouseAt K H e h ∧ ∀ p H', Same H H' → Rp H' p (h.dS h.g0) → Q p H'
def WFirst (h : HH) (e nm va am : Addr) (H0 : Hp) (i : Nat) (σ : L2.St) (H : Hp) : Prop :=
  ∃ v4 v5 us ws, σ = [some (.ref e), some (.ref nm), some (.ref va), some (.ref am), v4, v5, none, none, none, none] ∧ Same H0 H ∧ H nm = some (.lst [.str "a", .str "z"]) ∧ H va = some (.lst us) ∧ H am = some (.lst ws) ∧ (va ≠ am ∧ nm ≠ va ∧ nm ≠ am) ∧ H0 va = none ∧ H0 am = none ∧ us.length = i ∧ ws.length = i ∧
    Rps H us (((h.vals h.g0).take i).map dI) ∧ Rps H ws (((h.amts h.g0).take i).map dI)
theorem take_map_snoc {α β : Type} {f : α → β} {l : List α} {i : Nat} {x : α} (h : l[i]? = some x) : (l.take (i + 1)).map f = (l.take i).map f ++ [f x] := by
  rw [List.take_add_one, h, List.map_append]; rfl
theorem varE {H : Hp} {v : V} {c : CC} (h : Rp H v (varD c.var)) : ∃ a xs, v = .ref a ∧ H a = some (.tup xs) ∧ xs.length = (if c.hv then 1 else 0) ∧ ∀ i x, xs[i]? = some x → ∃ t s f, x = .ref t ∧ H t = some (.tup [.str "x", .int s, .int f]) ∧ i = 0 ∧ c.var = some (s, f) := by
  unfold CC.hv
  cases hv : c.var with
  | none =>
    rw [hv] at h
    obtain ⟨a, xs, rfl, h1, h2⟩ := Rp.tupE h
    obtain rfl := Rps.nilE h2
    exact ⟨a, [], rfl, h1, rfl, fun i x e => by simp at e⟩
  | some p =>
    rw [hv] at h
    obtain ⟨a, xs, rfl, h1, h2⟩ := Rp.tupE (show Rp H v (.tuple [.tuple [.str "x", .int p.1, .int p.2]]) from h)
    obtain ⟨u, r, rfl, k1, h2⟩ := Rps.consE h2
    obtain rfl := Rps.nilE h2
    obtain ⟨t, ys, rfl, h3, h4⟩ := Rp.tupE k1
    obtain ⟨u1, r, rfl, m1, h4⟩ := Rps.consE h4
    obtain ⟨u2, r, rfl, m2, h4⟩ := Rps.consE h4
    obtain ⟨u3, r, rfl, m3, h4⟩ := Rps.consE h4
    obtain rfl := Rps.nilE h4
    obtain rfl := m1.strE
    obtain rfl := m2.intE
    obtain rfl := m3.intE
    refine ⟨a, _, rfl, h1, rfl, fun i x e => ?_⟩
    match i, e with
    | 0, e =>
      obtain rfl := Option.some.inj e
      exact ⟨t, p.1, p.2, rfl, h3, rfl, rfl⟩
    | i + 1, e => simp at e
def hkv (b : Bool) (c : CC) : List (Key × V) := match c.hold with
  | none => []
  | some x => [(.inr (asN b), .int x)]
theorem holdE {K : PySem.W.Frag} {H : Hp} {v : V} {c : CC} {b : Bool} (h : Rp H v (holD b c.hold)) : ∃ a o ps, v = .ref a ∧ H a = some (.frz o (.tup (ps.map V.ref))) ∧ o.dict = none ∧ Paired (fun (p : Addr) (kv : Key × V) => SqT K H p [kV kv.1, kv.2]) ps (hkv b c) ∧
    (∀ p ∈ ps, ∃ x, c.hold = some x ∧ H p = some (.tup [.str (asN b), .int x])) ∧ ps.length ≤ 1 := by
  unfold hkv
  cases hv : c.hold with
  | none =>
    rw [hv] at h
    obtain ⟨a, o, xs, rfl, h1, h0, h2⟩ := Rp.frzE (show Rp H v (.list []) from h)
    obtain rfl := Rps.nilE h2
    exact ⟨a, o, [], rfl, h1, h0, .nil, fun p hp => (List.not_mem_nil hp).elim, by decide⟩
  | some p =>
    rw [hv] at h
    obtain ⟨a, o, xs, rfl, h1, h0, h2⟩ := Rp.frzE (show Rp H v (.list [.tuple [.str (asN b), .int p]]) from h)
    obtain ⟨u, r, rfl, k1, h2⟩ := Rps.consE h2
    obtain rfl := Rps.nilE h2
    obtain ⟨t, ys, rfl, h3, h4⟩ := Rp.tupE k1
    obtain ⟨u1, r, rfl, m1, h4⟩ := Rps.consE h4
    obtain ⟨u2, r, rfl, m2, h4⟩ := Rps.consE h4
    obtain rfl := Rps.nilE h4
    obtain rfl := m1.strE
    obtain rfl := m2.intE
    refine ⟨a, o, [t], rfl, h1, h0, .cons (SqT.tp h3) .nil, fun q hq => ?_, Nat.le_refl _⟩
    obtain rfl := List.mem_singleton.mp hq
    exact ⟨p, rfl, h3⟩
theorem CC.dE {H : Hp} {v : V} {b : Bool} {c : CC} (h : Rp H v (c.d b)) : ∃ y w1 w2 w3, v = .ref y ∧ H y = some (.tup [.str (ctN b), w1, w2, w3]) ∧ Rp H w1 (varD c.var) ∧ Rp H w2 (holD b c.hold) ∧ Rp H w3 (prcD b c.proc) := by
  obtain ⟨t, ys, rfl, h3, h4⟩ := Rp.tupE h
  obtain ⟨u1, r, rfl, m1, h4⟩ := Rps.consE h4
  obtain ⟨u2, r, rfl, m2, h4⟩ := Rps.consE h4
  obtain ⟨u3, r, rfl, m3, h4⟩ := Rps.consE h4
  obtain ⟨u4, r, rfl, m4, h4⟩ := Rps.consE h4
  obtain rfl := Rps.nilE h4
  obtain rfl := m1.strE
  exact ⟨t, u2, u3, u4, rfl, h3, m2, m3, m4⟩
theorem mergeK_hkv (b : Bool) (c : CC) : mergeK [] (hkv b c) = hkv b c := by
  unfold hkv
  cases c.hold <;> rfl
theorem gat_g0 (h : HH) (b : Bool) : ∃ o, gat h.g0 b = (h.cc b).l0 o := by
  cases b
  · exact ⟨h.oa, rfl⟩
  · exact ⟨h.oz, rfl⟩
theorem ok_first_state (T : Tx K mg) : Cal P w K mg base 1 "first_state" (spFirst K) [] := by
  refine cal_of T 7 rfl T.g_first_state sc_first_state (fun _ _ _ _ _ _ us hl => match us, hl with | [_], _ => rfl) (fun vs H Q E h => ?_) (fun cdv A outer s H vs Q E hr h => ?_)
  · obtain ⟨_, _, rfl, _⟩ := h
    rfl
  obtain ⟨e, h, rfl, hh, q⟩ := h
  obtain ⟨dx, va, vc, he, ha, hc⟩ := id hh
  obtain ⟨c, ys, rfl, hcc, hys⟩ := Rp.tupE hc
  obtain ⟨a, xs, rfl, haa, hxs⟩ := Rp.tupE ha
  obtain ⟨v1, r1, rfl, k1, hxs⟩ := Rps.consE hxs
  obtain ⟨v2, r2, rfl, k2, hxs⟩ := Rps.consE hxs
  obtain rfl := Rps.nilE hxs
  obtain ⟨a1, x1, rfl, ha1, hx1⟩ := Rp.tupE k1
  obtain ⟨a2, x2, rfl, ha2, hx2⟩ := Rp.tupE k2
  obtain ⟨u1, r1, rfl, t1, hx1⟩ := Rps.consE hx1
  obtain ⟨u2, r2, rfl, t2, hx1⟩ := Rps.consE hx1
  obtain rfl := Rps.nilE hx1
  obtain rfl := t1.strE
  obtain rfl := t2.intE
  obtain ⟨u1, r1, rfl, t3, hx2⟩ := Rps.consE hx2
  obtain ⟨u2, r2, rfl, t4, hx2⟩ := Rps.consE hx2
  obtain rfl := Rps.nilE hx2
  obtain rfl := t3.strE
  obtain rfl := t4.intE
  have hu := hu_of hr
  refine ⟨_, (pss_cons (ps_setLc (i := 1) (g := (gTup K 2 (gCons (gName 6) (gCons (gName 7) gNil)))) (tt := tYes) (own := [("name", 6), ("out", 7)]) rfl sc_first_state.nd rfl rfl (sw_true rfl rfl rfl (by decide +kernel)) (pi_tup (pe_fld (pv 0) rfl)) (blkOk_by (N := N_first_state) (sc := defScope s_first_state) (by decide +kernel)) (fun _ _ _ _ _ => (pg_tup rfl (pgs_cons (pg_name (i := 6) sc_first_state.nd rfl (Or.inl rfl)) (pgs_cons (pg_name (i := 7) sc_first_state.nd rfl (Or.inl rfl)) pgs_nil)))) (fun _ _ _ _ _ => pts_nil) (fun _ _ _ _ _ => (pv 6)))
    (pss_cons (ps_set (i := 2) sc_first_state.nd rfl (Or.inl rfl) (pe_lst pa_nil))
    (pss_cons (ps_set (i := 3) sc_first_state.nd rfl (Or.inl rfl) (pe_lst pa_nil))
    (pss_cons (ps_for PassesOwn.never rfl (pi_tup (pe_fld (pv 0) rfl)) (pg_name (i := 4) sc_first_state.nd rfl (Or.inl rfl))
    (pss_cons (ps_expr (pe_bm PySem.F.plainAttrs_list PySem.F.slot_list_append PySem.F.type_list_append mt_append (pv 2) (pa_cons (pe_callTy call_tuple_of (by rfl) T.f_tuple (by decide +kernel) (pa_cons (pe_lc (g := (gTup K 3 (gCons (gName 6) (gCons (gName 8) (gCons (gName 9) gNil))))) (tt := tYes) (own := [("name", 6), ("size", 8), ("first", 9)]) rfl sc_first_state.nd (pi_tup (pe_ix ix_tup (pv 4) pe_int (fun _ _ => rfl))) (blkOk_by (N := N_first_state) (sc := defScope s_first_state) (by decide +kernel)) (fun _ _ _ _ _ => (pg_tup rfl (pgs_cons (pg_name (i := 6) sc_first_state.nd rfl (Or.inl rfl)) (pgs_cons (pg_name (i := 8) sc_first_state.nd rfl (Or.inl rfl)) (pgs_cons (pg_name (i := 9) sc_first_state.nd rfl (Or.inl rfl)) pgs_nil))))) (fun _ _ _ _ _ => pts_nil) (fun _ _ _ _ _ => (pv 9))) pa_nil)) pa_nil)))
    (pss_cons (ps_set (i := 5) sc_first_state.nd rfl (Or.inr rfl) (pe_callTy (call_dictPT rfl) (by rfl) T.f_dict (by decide +kernel) (pa_cons (pe_ix ix_tup (pv 4) pe_int (fun _ _ => rfl)) pa_nil)))
    (pss_one (ps_expr (pe_bm PySem.F.plainAttrs_list PySem.F.slot_list_append PySem.F.type_list_append mt_append (pv 3) (pa_cons (pe_callTy call_tuple_of (by rfl) T.f_tuple (by decide +kernel) (pa_cons (pe_lc (g := (gName 6)) (tt := tYes) (own := [("name", 6)]) rfl sc_first_state.nd (pi_list (pv 1)) (blkOk_by (N := N_first_state) (sc := defScope s_first_state) (by decide +kernel)) (fun _ _ _ _ _ => (pg_name (i := 6) sc_first_state.nd rfl (Or.inl rfl))) (fun _ _ _ _ _ => pts_nil) (fun _ _ _ _ _ => (pe_dget2 hu (pv 5) (pv 6) pe_int ⟨rfl, rfl, rfl, rfl⟩))) pa_nil)) pa_nil)))))))
    (pss_one (ps_ret (pe_tup (pa_cons (pe_callTy call_tuple_of (by rfl) T.f_tuple (by decide +kernel) (pa_cons (pv 2) pa_nil)) (pa_cons (pe_callTy call_tuple_of (by rfl) T.f_tuple (by decide +kernel) (pa_cons (pv 3) pa_nil)) (pa_cons (pe_callTy call_tuple_of (by rfl) T.f_tuple (by decide +kernel) (pa_cons (pe_lc (g := (gTup K 2 (gCons (gName 6) (gCons (gName 7) gNil)))) (tt := tYes) (own := [("name", 6), ("out", 7)]) rfl sc_first_state.nd (pi_tup (pe_fld (pv 0) rfl)) (blkOk_by (N := N_first_state) (sc := defScope s_first_state) (by decide +kernel)) (fun _ _ _ _ _ => (pg_tup rfl (pgs_cons (pg_name (i := 6) sc_first_state.nd rfl (Or.inl rfl)) (pgs_cons (pg_name (i := 7) sc_first_state.nd rfl (Or.inl rfl)) pgs_nil)))) (fun _ _ _ _ _ => pts_nil) (fun _ _ _ _ _ => (pv 7))) pa_nil)) pa_nil)))))))))), ?_⟩
  -- names
  refine ⟨_, rfl, e, _, dx, _, _, rfl, he, T.cl_House, T.na_House_assets, fHouse_assets, a, rfl, ⟨_, SqT.tp haa⟩, fun D hD => lcF_tup (acc := fun i => [V.str "a", V.str "z"].take i) rfl haa hD ?_ ?_⟩
  · rintro i x hi
    match i, hi with
    | 0, hi =>
      obtain rfl := Option.some.inj hi
      exact ⟨a1, _, rfl, SqT.tp (same_new hD _ _ _ ha1), rfl, _, _, rfl, _, _, rfl, rfl, rfl, _, rfl, take_end (ys := [V.str "a", V.str "z"]) rfl (by decide)⟩
    | 1, hi =>
      obtain rfl := Option.some.inj hi
      exact ⟨a2, _, rfl, SqT.tp (same_new hD _ _ _ ha2), rfl, _, _, rfl, _, _, rfl, rfl, rfl, _, rfl, take_end (ys := [V.str "a", V.str "z"]) rfl (by decide)⟩
    | i + 2, hi => simp at hi
  have sD : Same H (upd H D (.lst [V.str "a", V.str "z"])) := same_new hD _
  refine ⟨by show 0 ≤ sizeLine; decide, fun p1 n1 => ?_⟩
  refine ⟨by show 0 ≤ sizeLine; decide, fun p2 n2 => ?_⟩
  have sp1 : Same H (upd (upd H D (.lst [V.str "a", V.str "z"])) p1 (.lst [])) := sD.trans (same_new n1 _)
  have sp2 : Same H (upd (upd (upd H D (.lst [V.str "a", V.str "z"])) p1 (.lst [])) p2 (.lst [])) := sp1.trans (same_new n2 _)
  have p12 : p1 ≠ p2 := ne_of_none upd_same n2
  have gD : (upd (upd (upd H D (.lst [V.str "a", V.str "z"])) p1 (.lst [])) p2 (.lst [])) D = some (.lst [V.str "a", V.str "z"]) := (same_new n2 _) _ _ ((same_new n1 _) _ _ upd_same)
  have gp1 : (upd (upd (upd H D (.lst [V.str "a", V.str "z"])) p1 (.lst [])) p2 (.lst [])) p1 = some (.lst []) := (same_new n2 _) _ _ upd_same
  have d1 : D ≠ p1 := ne_of_none upd_same n1
  have d2 : D ≠ p2 := ne_of_none ((same_new n1 _) _ _ upd_same) n2
  have h2p : h.pres.length ≤ 2 := h.pres_len
  have lys : ys.length = h.pres.length := by rw [Rps.length hys, List.length_map]
  refine ⟨_, rfl, e, _, dx, _, _, rfl, sp2 _ _ he, T.cl_House, T.na_House_contracts, fHouse_contracts, c, rfl, ⟨_, SqT.tp (sp2 _ _ hcc)⟩, for_tup (xs := ys) (WFirst h e D p1 p2 H) ⟨none, none, [], [], rfl, sp2, gD, gp1, upd_same, ⟨p12, d1, d2⟩, sD.free n1, sp1.free n2, rfl, rfl, .nil, .nil⟩ (fun i σ H' _ ⟨_, _, _, _, _, s1, _⟩ => SqT.tp (s1 _ _ hcc)) ?_ ?_⟩
  · rintro i x σ H' hi ⟨v4, v5, us, ws, rfl, s1, g1, g2, g3, _, f1, f2, l1, l2', ru, rw'⟩
    obtain ⟨d, hd0, rx⟩ := Rps.getV hys hi
    rw [List.getElem?_map] at hd0
    obtain ⟨b, hb, rfl⟩ := Option.map_eq_some_iff.mp hd0
    have il : i < 2 := by have := lt_of_get hb; omega
    have rx' := rx.to s1
    obtain ⟨y, w1, w2, w3, rfl, hy, m2, m3, m4⟩ := CC.dE rx'
    obtain ⟨o, eg⟩ := gat_g0 h b
    have ev : (h.vals h.g0)[i]? = some (if (h.cc b).hv then [((h.cc b).l0 o).x] else []) := by
      unfold HH.vals
      rw [List.getElem?_map, hb, ← eg]
      rfl
    have ea : (h.amts h.g0)[i]? = some (amt b ((h.cc b).l0 o).a) := by
      unfold HH.amts
      rw [List.getElem?_map, hb, ← eg]
      rfl
    obtain ⟨av, xv, rfl, hav, lv, fv⟩ := varE m2
    refine ⟨_, rfl, .inl ⟨rfl, _, SqL.of g2⟩, _, rfl, y, _, 1, _, rfl, rfl, SqT.tp hy, rfl, av, rfl, ⟨_, SqT.tp hav⟩, fun D2 hD2 => lcF_tup (acc := fun i => ((if (h.cc b).hv then [((h.cc b).l0 o).x] else []).map V.int).take i) rfl hav hD2 ?_ ?_⟩
    · rintro j z hj
      obtain ⟨t, ss, f, rfl, ht, rfl, hcv⟩ := fv j z hj
      have e1 : (h.cc b).hv = true := by unfold CC.hv; rw [hcv]; rfl
      have e2 : ((h.cc b).l0 o).x = f := by unfold CC.l0; rw [hcv]; rfl
      refine ⟨t, _, rfl, SqT.tp (same_new hD2 _ _ _ ht), rfl, _, _, rfl, _, _, rfl, _, _, rfl, rfl, rfl, _, rfl, take_end (ys := (if (h.cc b).hv then [((h.cc b).l0 o).x] else []).map V.int) ?_ ?_⟩
      · rw [e1, e2]; rfl
      · rw [e1]; exact (show 1 ≤ 1000 by decide)
    have lall : xv.length = ((if (h.cc b).hv then [((h.cc b).l0 o).x] else []).map V.int).length := by rw [lv]; cases (h.cc b).hv <;> rfl
    rw [lall, List.take_length]
    refine ⟨D2, _, rfl, .inl ⟨SqL.of upd_same, fun l hl => ?_⟩⟩
    have q1 : Same H' (upd (upd H' D2 (.lst ((if (h.cc b).hv then [((h.cc b).l0 o).x] else []).map V.int))) l (.tup ((if (h.cc b).hv then [((h.cc b).l0 o).x] else []).map V.int))) := (same_new hD2 _).trans (same_new hl _)
    refine ⟨p1, us, _, rfl, rfl, q1 _ _ g2, szl _ (by omega), ?_⟩
    -- the first append is done
    have k1 : Kp [p1] H' (upd (upd (upd H' D2 (.lst ((if (h.cc b).hv then [((h.cc b).l0 o).x] else []).map V.int))) l (.tup ((if (h.cc b).hv then [((h.cc b).l0 o).x] else []).map V.int))) p1 (.lst (us ++ [.ref l]))) := (Kp.of q1).upd mem1
    have gl : (upd (upd (upd H' D2 (.lst ((if (h.cc b).hv then [((h.cc b).l0 o).x] else []).map V.int))) l (.tup ((if (h.cc b).hv then [((h.cc b).l0 o).x] else []).map V.int))) p1 (.lst (us ++ [.ref l]))) l = some (.tup ((if (h.cc b).hv then [((h.cc b).l0 o).x] else []).map V.int)) := (upd_ne (ne_of_none ((same_new hD2 _) _ _ g2) hl).symm).trans upd_same
    have gp : (upd (upd (upd H' D2 (.lst ((if (h.cc b).hv then [((h.cc b).l0 o).x] else []).map V.int))) l (.tup ((if (h.cc b).hv then [((h.cc b).l0 o).x] else []).map V.int))) p1 (.lst (us ++ [.ref l]))) p1 = some (.lst (us ++ [.ref l])) := upd_same
    generalize upd (upd (upd H' D2 (.lst ((if (h.cc b).hv then [((h.cc b).l0 o).x] else []).map V.int))) l (.tup ((if (h.cc b).hv then [((h.cc b).l0 o).x] else []).map V.int))) p1 (.lst (us ++ [.ref l])) = H1 at k1 gl gp ⊢
    have nt1 := nTp1 g2
    have g3c : H1 p2 = some (.lst ws) := k1 _ _ (nmem1 p12.symm) g3
    obtain ⟨ah, oh, ps, rfl, hah, hoh, hpr, _, _⟩ := holdE (K := K) (Rp.ts (k1.ts nt1) _ _ m3)
    refine ⟨_, rfl, y, _, 2, _, rfl, rfl, SqT.tp (k1.tup nt1 hy), rfl, ah, oh, ps, hkv b (h.cc b), rfl, hah, hoh, hpr, fun q hq => ?_⟩
    rw [mergeK_hkv]
    have k2 : Kp [p1] H' (upd H1 q (.dK (hkv b (h.cc b)))) := k1.new hq _
    have g1a := k2 _ _ (nmem1 d1) g1
    have g3a := k2 _ _ (nmem1 p12.symm) g3
    refine ⟨_, rfl, .inl ⟨rfl, _, SqL.of g3a⟩, _, rfl, D, rfl, ⟨_, SqL.of g1a⟩, fun D3 hD3 => lcF_list (acc := fun i => ((amt b ((h.cc b).l0 o).a).map V.int).take i) rfl g1a hD3 ?_ ?_⟩
    · have gq : ∀ ll, (upd (upd H1 q (.dK (hkv b (h.cc b)))) D3 (.lst ll)) q = some (.dK (hkv b (h.cc b))) := fun ll => (upd_ne (ne_of_none upd_same hD3)).trans upd_same
      have ev2 : ∀ nm : Str, (nm = "a" ∨ nm = "z") → ((valV (hkv b (h.cc b)) (.inr nm)).getD (.int 0)) = .int (if asN b = nm then ((h.cc b).l0 o).a else 0) := fun nm hnm => by
        unfold hkv CC.l0
        cases (h.cc b).hold with
        | none =>
          show V.int 0 = _
          split <;> rfl
        | some x =>
          cases b <;> rcases hnm with rfl | rfl <;> rfl
      rintro j z hj
      match j, hj with
      | 0, hj =>
        obtain rfl := Option.some.inj hj
        refine ⟨rfl, _, rfl, q, rfl, .inl ⟨_, .of (gq _)⟩, _, rfl, _, .inl ⟨_, .inr "a", .of (gq _), rfl, rfl⟩, ?_⟩
        rw [ev2 "a" (.inl rfl)]
        exact take_end (ys := (amt b ((h.cc b).l0 o).a).map V.int) (by cases b <;> rfl) (by cases b <;> exact (show 2 ≤ 1000 by decide))
      | 1, hj =>
        obtain rfl := Option.some.inj hj
        refine ⟨rfl, _, rfl, q, rfl, .inl ⟨_, .of (gq _)⟩, _, rfl, _, .inl ⟨_, .inr "z", .of (gq _), rfl, rfl⟩, ?_⟩
        rw [ev2 "z" (.inr rfl)]
        exact take_end (ys := (amt b ((h.cc b).l0 o).a).map V.int) (by cases b <;> rfl) (by cases b <;> exact (show 2 ≤ 1000 by decide))
      | j + 2, hj => simp at hj
    have ela : (((amt b ((h.cc b).l0 o).a).map V.int).take ([V.str "a", V.str "z"] : List V).length) = (amt b ((h.cc b).l0 o).a).map V.int := by cases b <;> rfl
    rw [ela]
    refine ⟨D3, _, rfl, .inl ⟨SqL.of upd_same, fun l2 hl2 => ?_⟩⟩
    have k3 : Kp [p1] H' (upd (upd (upd H1 q (.dK (hkv b (h.cc b)))) D3 (.lst ((amt b ((h.cc b).l0 o).a).map V.int))) l2 (.tup ((amt b ((h.cc b).l0 o).a).map V.int))) := (k2.new hD3 _).new hl2 _
    have q3 : Same H1 (upd (upd (upd H1 q (.dK (hkv b (h.cc b)))) D3 (.lst ((amt b ((h.cc b).l0 o).a).map V.int))) l2 (.tup ((amt b ((h.cc b).l0 o).a).map V.int))) := ((same_new hq _).trans (same_new hD3 _)).trans (same_new hl2 _)
    have g3b := k3 _ _ (nmem1 p12.symm) g3
    refine ⟨p2, ws, _, rfl, rfl, g3b, szl _ (by omega), ?_⟩
    have hl2p : l2 ≠ p2 := (ne_of_none ((k2.new hD3 _) _ _ (nmem1 p12.symm) g3) hl2).symm
    have gl2 : Rp (upd (upd (upd (upd H1 q (.dK (hkv b (h.cc b)))) D3 (.lst ((amt b ((h.cc b).l0 o).a).map V.int))) l2 (.tup ((amt b ((h.cc b).l0 o).a).map V.int))) p2 (.lst (ws ++ [.ref l2]))) (.ref l2) (dI (amt b ((h.cc b).l0 o).a)) := Rp.dI ((upd_ne hl2p).trans upd_same)
    have kF : Kp [p1, p2] H' (upd (upd (upd (upd H1 q (.dK (hkv b (h.cc b)))) D3 (.lst ((amt b ((h.cc b).l0 o).a).map V.int))) l2 (.tup ((amt b ((h.cc b).l0 o).a).map V.int))) p2 (.lst (ws ++ [.ref l2]))) := (k3.mono (by simp)).upd (by simp)
    have tF := kF.ts (nTp2 g2 g3)
    have gpF : (upd (upd (upd (upd H1 q (.dK (hkv b (h.cc b)))) D3 (.lst ((amt b ((h.cc b).l0 o).a).map V.int))) l2 (.tup ((amt b ((h.cc b).l0 o).a).map V.int))) p2 (.lst (ws ++ [.ref l2]))) p1 = some (.lst (us ++ [.ref l])) := (upd_ne p12).trans (q3 _ _ gp)
    have glF : Rp (upd (upd (upd (upd H1 q (.dK (hkv b (h.cc b)))) D3 (.lst ((amt b ((h.cc b).l0 o).a).map V.int))) l2 (.tup ((amt b ((h.cc b).l0 o).a).map V.int))) p2 (.lst (ws ++ [.ref l2]))) (.ref l) (dI (if (h.cc b).hv then [((h.cc b).l0 o).x] else [])) := Rp.dI (by rw [upd_ne (ne_of gl g3c (fun z => nomatch z))]; exact q3 _ _ gl)
    refine ⟨_, _, us ++ [.ref l], ws ++ [.ref l2], rfl, fun a u hu => kF a u (by simp; exact ⟨ne_of_none hu f1, ne_of_none hu f2⟩) (s1 _ _ hu), kF _ _ (by simp; exact ⟨d1, d2⟩) g1, gpF, upd_same, ⟨p12, d1, d2⟩, f1, f2, by rw [List.length_append, l1]; rfl, by rw [List.length_append, l2']; rfl, ?_, ?_⟩
    · rw [take_map_snoc ev]
      exact (Rps.ts tF _ _ ru).append (.cons glF .nil)
    · rw [take_map_snoc ea]
      exact (Rps.ts tF _ _ rw').append (.cons gl2 .nil)
  · rintro σ H' ⟨v4, v5, us, ws, rfl, s1, g1, g2, g3, _, f1, f2, l1, l2, ru, rw'⟩
    have lv : (h.vals h.g0).take ys.length = h.vals h.g0 := List.take_of_length_le (by unfold HH.vals; rw [List.length_map, lys]; exact Nat.le_refl _)
    have la : (h.amts h.g0).take ys.length = h.amts h.g0 := List.take_of_length_le (by unfold HH.amts; rw [List.length_map, lys]; exact Nat.le_refl _)
    rw [lv] at ru
    rw [la] at rw'
    refine ⟨_, rfl, p1, us, rfl, .inl ⟨SqL.of g2, fun z1 m1 => ?_⟩⟩
    have e1 := same_new m1 (.tup us)
    refine ⟨_, rfl, p2, ws, rfl, .inl ⟨SqL.of (e1 _ _ g3), fun z2 m2 => ?_⟩⟩
    have e2 := e1.trans (same_new m2 (.tup ws))
    refine ⟨_, rfl, e, _, dx, _, _, rfl, e2 _ _ (s1 _ _ he), T.cl_House, T.na_House_assets, fHouse_assets, a, rfl, ⟨_, SqT.tp (e2 _ _ (s1 _ _ haa))⟩, fun D3 hD3 => lcF_tup (acc := fun i => [V.int h.oa, V.int h.oz].take i) rfl (e2 _ _ (s1 _ _ haa)) hD3 ?_ ?_⟩
    · rintro i x hi
      match i, hi with
      | 0, hi =>
        obtain rfl := Option.some.inj hi
        exact ⟨a1, _, rfl, SqT.tp (same_new hD3 _ _ _ (e2 _ _ (s1 _ _ ha1))), rfl, _, _, rfl, _, _, rfl, rfl, rfl, _, rfl, take_end (ys := [V.int h.oa, V.int h.oz]) rfl (show 2 ≤ 1000 by decide)⟩
      | 1, hi =>
        obtain rfl := Option.some.inj hi
        exact ⟨a2, _, rfl, SqT.tp (same_new hD3 _ _ _ (e2 _ _ (s1 _ _ ha2))), rfl, _, _, rfl, _, _, rfl, rfl, rfl, _, rfl, take_end (ys := [V.int h.oa, V.int h.oz]) rfl (show 2 ≤ 1000 by decide)⟩
      | i + 2, hi => simp at hi
    refine ⟨D3, _, rfl, .inl ⟨SqL.of upd_same, fun z3 m3 => ?_⟩⟩
    refine ⟨by show 3 ≤ sizeLine; decide, fun p hp => ?_⟩
    have e3 : Same _ _ := ((same_new hD3 (.lst ([V.int h.oa, V.int h.oz].take [V.ref a1, V.ref a2].length))).trans (same_new m3 (.tup ([V.int h.oa, V.int h.oz].take [V.ref a1, V.ref a2].length)))).trans (same_new hp (.tup [.ref z1, .ref z2, .ref z3]))
    refine q _ _ (s1.trans (e2.trans e3)) (.tup upd_same ?_)
    refine .cons (.tup (e3 _ _ ((same_new m2 _) _ _ upd_same)) (ru.to (e2.trans e3))) (.cons (.tup (e3 _ _ upd_same) (rw'.to (e2.trans e3))) (.cons (Rp.dI (ns := [h.oa, h.oz]) ((same_new hp _) _ _ upd_same)) .nil))
end
end Nc

-- D9
set_option maxHeartbeats 4000000
namespace Nc
open PySem L2 C8
section
variable {P : Program} {w : World} {K : PySem.W.Frag} {mg : Str → Option Value} {base : Heap}
/-! ### ties -/
abbrev N_ties : List Str := ["house", "links", "contract", "assets", "contracts", "proc", "part", "pairs", "one", "other", "shared", "asset", "amount"]
theorem sc_ties : FnScope N_ties ["house"] (defScope s_ties) := ⟨rfl, rfl, rfl, by decide +kernel, rfl, by decide +kernel, by decide +kernel⟩
/-- the pairs: each with itself -/
def PairsAt (H : Hp) (p : Addr) : Prop := ∃ t0 t1, H p = some (.lst [.ref t0, .ref t1]) ∧ H t0 = some (.tup [.int 0, .int 0]) ∧ H t1 = some (.tup [.int 1, .int 1])
def spTies (K : PySem.W.Frag) : Sp := fun vs H Q _ => ∃ (e : Addr) (h : HH), vs = [.ref e] ∧ HouseAt K H e h ∧ h.fit ∧ h.pc = true ∧ h.pd = true ∧ ∀ p H', Same H H' → PairsAt H' p → Q (.ref p) H'
def LnkAt (H : Hp) (L : Addr) (v : V) (b : Bool) : Prop := ∃ t a c n, v = .ref t ∧ H t = some (.tup [.ref a, .ref c]) ∧ H a = some (.lst (reps b n)) ∧ H c = some (.lst [.str (ctN b)]) ∧ n ≤ 2000 ∧ a ≠ L ∧ c ≠ L
theorem LnkAt.kp {H H' : Hp} {L : Addr} {v : V} {b : Bool} (h : LnkAt H L v b) (k : Kp [L] H H') (hL : ¬ IsTp (H L)) : LnkAt H' L v b := by
  obtain ⟨t, a, c, n, rfl, h1, h2, h3, h4, h5, h6⟩ := h
  exact ⟨t, a, c, n, rfl, k _ _ (nmem1 fun e => hL (by rw [← e, h1]; exact True.intro)) h1, k _ _ (nmem1 h5) h2, k _ _ (nmem1 h6) h3, h4, h5, h6⟩
def bs2 : List Bool := [false, true]
def WLnk (e L : Addr) (H0 : Hp) (i : Nat) (σ : L2.St) (H : Hp) : Prop :=
  ∃ v2 v3 v4 v5 v6 us, σ = [some (.ref e), some (.ref L), v2, v3, v4, v5, v6, none, none, none, none, none, none] ∧ Same H0 H ∧ H0 L = none ∧ H L = some (.lst us) ∧ us.length = i ∧ ∀ (j : Nat) v b, us[j]? = some v → bs2[j]? = some b → LnkAt H L v b
theorem HH.ccfit {h : HH} (f : h.fit) (b : Bool) : (h.cc b).fit := by
  cases b
  · exact f.c
  · exact f.d
theorem Sx.lev2 : ∀ s : Sx, s.lev < 2
  | .sm _ => by show 0 < 2; decide
  | .ask _ => by show 0 < 2; decide
  | .ite _ _ _ => by show 1 < 2; decide
theorem prcE {H : Hp} {v : V} {b : Bool} {c : CC} (h : Rp H v (prcD b c.proc)) : ∃ a xs, v = .ref a ∧ H a = some (.tup xs) ∧ xs.length = (if c.proc.isSome then 1 else 0) ∧ ∀ i x, xs[i]? = some x → ∃ t s sh w l, x = .ref t ∧ H t = some (.tup [.str "p", .int s, .bl sh, w]) ∧ i = 0 ∧ c.proc = some (s, sh, l) ∧ Rp H w (blkD b l) ∧ Rp H x (.tuple [.str "p", .int s, .bool sh, blkD b l]) := by
  cases hv : c.proc with
  | none =>
    rw [hv] at h
    obtain ⟨a, xs, rfl, h1, h2⟩ := Rp.tupE h
    obtain rfl := Rps.nilE h2
    exact ⟨a, [], rfl, h1, rfl, fun i x e => by simp at e⟩
  | some p =>
    rw [hv] at h
    obtain ⟨a, xs, rfl, h1, h2⟩ := Rp.tupE (show Rp H v (.tuple [.tuple [.str "p", .int p.1, .bool p.2.1, blkD b p.2.2]]) from h)
    obtain ⟨u, r, rfl, k1, h2⟩ := Rps.consE h2
    obtain rfl := Rps.nilE h2
    obtain ⟨t, ys, rfl, h3, h4⟩ := Rp.tupE k1
    obtain ⟨u1, r, rfl, m1, h4⟩ := Rps.consE h4
    obtain ⟨u2, r, rfl, m2, h4⟩ := Rps.consE h4
    obtain ⟨u3, r, rfl, m3, h4⟩ := Rps.consE h4
    obtain ⟨u4, r, rfl, m4, h4⟩ := Rps.consE h4
    obtain rfl := Rps.nilE h4
    obtain rfl := m1.strE
    obtain rfl := m2.intE
    obtain rfl := m3.blE
    refine ⟨a, _, rfl, h1, rfl, fun i x e => ?_⟩
    match i, e with
    | 0, e =>
      obtain rfl := Option.some.inj e
      exact ⟨t, p.1, p.2.1, u4, p.2.2, rfl, h3, rfl, rfl, m4, k1⟩
    | i + 1, e => simp at e
theorem eqV_as (b b' : Bool) : eqV (.str (asN b')) (.str (asN b)) = decide (b = b') := by cases b <;> cases b' <;> decide +kernel
theorem eqV_ct (b b' : Bool) : eqV (.str (ctN b')) (.str (ctN b)) = decide (b = b') := by cases b <;> cases b' <;> decide +kernel
theorem inV_reps (b b' : Bool) : ∀ n, 0 < n → inV (.str (asN b)) (reps b' n) = decide (b = b') := by
  intro n hn
  unfold inV reps
  rw [List.any_replicate, eqV_as]
  split
  · omega
  · rfl
theorem flat_reps (b : Bool) (n : Nat) : (reps b n).all flatV = true := by
  unfold reps
  rw [List.all_replicate]
  split <;> rfl
def DiagAt (H : Hp) (ts : List V) : Prop := ∀ (j : Nat) v, ts[j]? = some v → ∃ t, v = .ref t ∧ H t = some (.tup [.int (j : Int), .int (j : Int)])
theorem DiagAt.to {H H' : Hp} {ts : List V} (d : DiagAt H ts) (s : TpS H H') : DiagAt H' ts := fun j v h => by
  obtain ⟨t, e, q⟩ := d j v h
  exact ⟨t, e, s.t _ _ q⟩
theorem bs2_eq {i k : Nat} {b b' : Bool} (h : bs2[i]? = some b) (h' : bs2[k]? = some b') : (b = b') ↔ i = k := by
  match i, k, h, h' with
  | 0, 0, h, h' => exact ⟨fun _ => rfl, fun _ => by rw [← Option.some.inj h, ← Option.some.inj h']⟩
  | 0, 1, h, h' => rw [← Option.some.inj h, ← Option.some.inj h']; decide
  | 1, 0, h, h' => rw [← Option.some.inj h, ← Option.some.inj h']; decide
  | 1, 1, h, h' => exact ⟨fun _ => rfl, fun _ => by rw [← Option.some.inj h, ← Option.some.inj h']⟩
  | i + 2, _, h, _ => simp [bs2] at h
  | _, k + 2, _, h => simp [bs2] at h
theorem bs2_at {i : Nat} (h : i < 2) : ∃ b, bs2[i]? = some b := ⟨bs2[i], by simp [bs2, h]⟩
theorem ok_ties (T : Tx K mg) : Cal P w K mg base 7 "ties" (spTies K) [] := by
  have c_mentioned : Cal P w K mg base 6 "mentioned" (spMent 2) [] := ok_ment T 2 (by decide)
  refine cal_of T 4 rfl T.g_ties sc_ties (fun _ _ _ _ _ _ us hl => match us, hl with | [_], _ => rfl) (fun vs H Q E h => ?_) (fun cdv A outer s H vs Q E hr h => ?_)
  · obtain ⟨_, _, rfl, _⟩ := h
    rfl
  obtain ⟨e, h, rfl, hh, fit, h1, h2, q⟩ := h
  obtain ⟨dx, va, vc, he, ha, hc⟩ := id hh
  obtain ⟨c, ys, rfl, hcc, hys⟩ := Rp.tupE hc
  have ep : h.pres = bs2 := by unfold HH.pres; rw [h1, h2]; rfl
  rw [ep] at hys
  have lys : ys.length = 2 := by rw [Rps.length hys, List.length_map]; rfl
  refine ⟨_, (pss_cons (ps_set (i := 1) sc_ties.nd rfl (Or.inr rfl) (pe_lst pa_nil))
    (pss_cons (ps_for PassesOwn.never rfl (pi_tup (pe_fld (pv 0) rfl)) (pg_name (i := 2) sc_ties.nd rfl (Or.inl rfl))
    (pss_cons (ps_setLc (i := 3) (g := (gTup K 2 (gCons (gName 11) (gCons (gName 12) gNil)))) (own := [("asset", 11), ("amount", 12)]) rfl sc_ties.nd rfl rfl (sw_true rfl rfl rfl (by decide +kernel)) (pi_tup (pe_ix ix_tup (pv 2) pe_int (fun _ _ => rfl))) (blkOk_by (N := N_ties) (sc := defScope s_ties) (by decide +kernel)) (fun _ _ _ _ _ => (pg_tup rfl (pgs_cons (pg_name (i := 11) sc_ties.nd rfl (Or.inl rfl)) (pgs_cons (pg_name (i := 12) sc_ties.nd rfl (Or.inl rfl)) pgs_nil)))) (fun _ _ _ _ _ => (pts_one (pt_cmpR op_gt (pv 12) pe_int (nomark _)))) (fun _ _ _ _ _ => (pv 11)))
    (pss_cons (ps_set (i := 4) sc_ties.nd rfl (Or.inl rfl) (pe_lst (pa_cons (pe_ix ix_tup (pv 2) pe_int (fun _ _ => rfl)) pa_nil)))
    (pss_cons (ps_for PassesOwn.never rfl (pi_tup (pe_ix ix_tup (pv 2) pe_int (fun _ _ => rfl))) (pg_name (i := 5) sc_ties.nd rfl (Or.inl rfl))
    (pss_cons (ps_set (i := 6) sc_ties.nd rfl (Or.inl rfl) (pe_c c_mentioned hr (by decide) rfl (pa_cons (pe_ix ix_tup (pv 5) pe_int (fun _ _ => rfl)) pa_nil)))
    (pss_cons (ps_expr (pe_bm PySem.F.plainAttrs_list PySem.F.slot_list_extend PySem.F.type_list_extend mt_extend (pv 3) (pa_cons (pe_ix ix_tup (pv 6) pe_int (fun _ _ => rfl)) pa_nil)))
    (pss_one (ps_expr (pe_bm PySem.F.plainAttrs_list PySem.F.slot_list_extend PySem.F.type_list_extend mt_extend (pv 4) (pa_cons (pe_ix ix_tup (pv 6) pe_int (fun _ _ => rfl)) pa_nil)))))))
    (pss_one (ps_expr (pe_bm PySem.F.plainAttrs_list PySem.F.slot_list_append PySem.F.type_list_append mt_append (pv 1) (pa_cons (pe_tup (pa_cons (pv 3) (pa_cons (pv 4) pa_nil))) pa_nil))))))))
    (pss_cons (ps_set (i := 7) sc_ties.nd rfl (Or.inl rfl) (pe_lst pa_nil))
    (pss_cons (ps_for PassesOwn.never rfl (pi_range1 rfl T.f_range (pa_cons (pe_callB call_len_seq (by rfl) T.f_len (by decide +kernel) (pa_cons (pv 1) pa_nil)) pa_nil)) (pg_name (i := 8) sc_ties.nd rfl (Or.inl rfl))
    (pss_one (ps_for PassesOwn.never rfl (pi_range1 rfl T.f_range (pa_cons (pe_callB call_len_seq (by rfl) T.f_len (by decide +kernel) (pa_cons (pv 1) pa_nil)) pa_nil)) (pg_name (i := 9) sc_ties.nd rfl (Or.inr rfl))
    (pss_cons (ps_set (i := 10) sc_ties.nd rfl (Or.inl rfl) (pe_callB (cr_any rfl) (by rfl) T.f_any (by decide +kernel) (pa_cons (pe_lc (te := (tOp (rIn K false) (tVar 11) (tOp (rIxT K) (tOp (rIxL K) (tVar 1) (tVar 9)) (tC (.int 0))))) (g := (gName 11)) (tt := tYes) (own := [("asset", 11)]) rfl sc_ties.nd (pi_list (pe_ix ix_tup (pe_ix ix_list (pv 1) (pv 8) (fun _ _ => rfl)) pe_int (fun _ _ => rfl))) (blkOk_by (N := N_ties) (sc := defScope s_ties) (by decide +kernel)) (fun _ _ _ _ _ => (pg_name (i := 11) sc_ties.nd rfl (Or.inl rfl))) (fun _ _ _ _ _ => pts_nil) (fun _ _ _ _ _ => (pe_cmpR op_in_seq (pv 11) (pe_ix ix_tup (pe_ix ix_list (pv 1) (pv 9) (fun _ _ => rfl)) pe_int (fun _ _ => rfl)) (by rfl)))) pa_nil)))
    (pss_one (ps_if (PW.pt (pw_or (pt_val (pv 10)) (pw_or1 (pt_cmpR op_in_seq (pe_ix ix_tup (pe_ix ix_tup (pe_fld (pv 0) rfl) (pv 9) (fun _ _ => rfl)) pe_int (fun _ _ => rfl)) (pe_ix ix_tup (pe_ix ix_list (pv 1) (pv 8) (fun _ _ => rfl)) pe_int (fun _ _ => rfl)) (by rfl)))))
    (pss_one (ps_expr (pe_bm PySem.F.plainAttrs_list PySem.F.slot_list_append PySem.F.type_list_append mt_append (pv 7) (pa_cons (pe_tup (pa_cons (pv 8) (pa_cons (pv 9) pa_nil))) pa_nil))))
    pss_nil))))))
    (pss_one (ps_ret (pv 7))))))), ?_⟩
  refine ⟨by show 0 ≤ sizeLine; decide, fun L nL => ?_⟩
  have sL := same_new nL (.lst [])
  refine ⟨_, rfl, e, _, dx, _, _, rfl, sL _ _ he, T.cl_House, T.na_House_contracts, fHouse_contracts, c, rfl, ⟨_, SqT.tp (sL _ _ hcc)⟩, for_tup (xs := ys) (WLnk e L H) ⟨none, none, none, none, none, [], rfl, sL, nL, upd_same, rfl, fun j v b e => by simp at e⟩ (fun i σ H' _ ⟨_, _, _, _, _, _, _, s1, _⟩ => SqT.tp (s1 _ _ hcc)) ?_ ?_⟩
  · rintro i x σ H' hi ⟨v2, v3, v4, v5, v6, us, rfl, s1, f1, g1, l1, gl⟩
    obtain ⟨d, hd0, rx⟩ := Rps.getV hys hi
    rw [List.getElem?_map] at hd0
    obtain ⟨b, hb, rfl⟩ := Option.map_eq_some_iff.mp hd0
    have rx' := rx.to s1
    obtain ⟨y, w1, w2, w3, rfl, hy, m2, m3, m4⟩ := CC.dE rx'
    obtain ⟨ah, oh, ps, rfl, hah, hoh, _, hps, lps⟩ := holdE (K := K) m3
    obtain ⟨pa, px, rfl, hpa, lpx, fpx⟩ := prcE m4
    have hacc : ∃ n0 : Nat, n0 ≤ 1 ∧ ∀ x, (h.cc b).hold = some x → n0 = if x > 0 then 1 else 0 := by
      cases (h.cc b).hold with
      | none => exact ⟨0, by decide, fun x e => nomatch e⟩
      | some x => exact ⟨if x > 0 then 1 else 0, by split <;> decide, fun z e => by rw [Option.some.inj e]⟩
    obtain ⟨n0, n01, hn0⟩ := hacc
    refine ⟨_, rfl, y, _, 2, _, rfl, rfl, SqT.tp hy, rfl, ah, rfl, ⟨_, SqT.fz hah⟩, fun D hD => lcF_fz (acc := fun i => reps b (if i = 0 then 0 else n0)) rfl hah hD ?_ ?_⟩
    · rintro j z hj
      have lj := lt_of_get hj
      rw [List.length_map] at lj
      have j0 : j = 0 := by omega
      subst j0
      rw [List.getElem?_map] at hj
      obtain ⟨t, ht, rfl⟩ := Option.map_eq_some_iff.mp hj
      obtain ⟨x, hx, ht2⟩ := hps t (List.mem_of_getElem? ht)
      refine ⟨t, _, rfl, SqT.tp (same_new hD _ _ _ ht2), rfl, _, _, rfl, _, _, rfl, rfl, rfl, ?_⟩
      refine ⟨_, rfl, _, _, rfl, rfl, _, rfl, ?_⟩
      have en := hn0 x hx
      refine if2 (fun c => ?_) (fun c => ?_)
      · have c' : x > 0 := c
        rw [if_pos c'] at en
        refine ⟨_, rfl, lc_end (acc := fun i => reps b (if i = 0 then 0 else n0)) ?_ ?_⟩
        · show reps b n0 = reps b 0 ++ reps b 1
          rw [en, reps_add]
        · exact (show 0 < 100000 by decide)
      · have c' : ¬ x > 0 := c
        rw [if_neg c'] at en
        show upd H' D (.lst (reps b 0)) = upd H' D (.lst (reps b n0))
        rw [en]
    have hnn : ∃ n, n ≤ 1 ∧ reps b (if (ps.map V.ref).length = 0 then 0 else n0) = reps b n := ⟨_, by split <;> omega, rfl⟩
    obtain ⟨n, hn1, en⟩ := hnn
    rw [en]
    have e1 := same_new hD (.lst (reps b n))
    refine ⟨_, rfl, y, _, 0, _, rfl, rfl, SqT.tp (e1 _ _ hy), rfl, by show 1 ≤ sizeLine; decide, fun C nC => ?_⟩
    have e2 := e1.trans (same_new nC (.lst [.str (ctN b)]))
    have hDC : D ≠ C := ne_of_none upd_same nC
    have g2 : (upd (upd H' D (.lst (reps b n))) C (.lst [.str (ctN b)])) D = some (.lst (reps b n)) := same_new nC _ _ _ upd_same
    refine ⟨_, rfl, y, _, 3, _, rfl, rfl, SqT.tp (e2 _ _ hy), rfl, pa, rfl, ⟨_, SqT.tp (e2 _ _ hpa)⟩, for_tup (xs := px) (fun i σ Hc => ∃ m v5 v6, m ≤ 1 + i * 1000 ∧ σ = [some (.ref e), some (.ref L), some (.ref y), some (.ref D), some (.ref C), v5, v6, none, none, none, none, none, none] ∧ Kp [D, C] H' Hc ∧ Hc D = some (.lst (reps b m)) ∧ Hc C = some (.lst [.str (ctN b)]))
      ⟨n, v5, v6, by omega, rfl, Kp.of e2, g2, upd_same⟩ (fun i σ Hc _ ⟨_, _, _, _, _, k, _⟩ => SqT.tp (k _ _ (by simp; exact ⟨ne_of_none hpa hD, ne_of_none (e1 _ _ hpa) nC⟩) hpa)) ?_ ?_⟩
    · rintro j z σ Hc hj ⟨m, v5, v6, hm, rfl, kc, gD, gC⟩
      obtain ⟨t, ss, sh, w, l, rfl, ht, rfl, hpr, hw, _⟩ := fpx j z hj
      have ntH : ∀ a ∈ [D, C], ¬ IsTp (H' a) := fun a ha => by
        rcases List.mem_cons.mp ha with rfl | ha
        · rw [hD]; exact id
        · obtain rfl := List.mem_singleton.mp ha
          rw [(e1.free nC)]; exact id
      have ts := kc.ts ntH
      obtain ⟨f1', f2', f3', f4', f5'⟩ := (HH.ccfit fit b).proc _ hpr
      refine ⟨_, rfl, t, _, 3, _, rfl, rfl, SqT.tp (ts.t _ _ ht), rfl, w, b, (h.cc b).hv, l, rfl, Rp.ts ts _ _ hw, (by show l.length ≤ 10; have : l.length ≤ 3 := f3'; omega), fun s hs => ⟨f4' s hs, s.lev2⟩, fun t' p' q' m' H3 e3 fp fq ht' hp' hq' hm' => ?_⟩
      have hml : m' ≤ 300 := by have : l.length ≤ 3 := f3'; omega
      refine ⟨_, rfl, .inl ⟨rfl, _, SqL.of (e3 _ _ gD)⟩, _, rfl, t', _, 0, _, rfl, rfl, SqT.tp ht', rfl, D, p', _, _, rfl, rfl, e3 _ _ gD, hp', sz _ (by rw [reps_len, reps_len]; omega), ?_⟩
      rw [reps_add]
      have gC3 : (upd H3 D (.lst (reps b (m + m')))) C = some (.lst [.str (ctN b)]) := (upd_ne hDC.symm).trans (e3 _ _ gC)
      refine ⟨_, rfl, .inl ⟨rfl, _, SqL.of gC3⟩, _, rfl, t', _, 1, _, rfl, rfl, SqT.tp ((upd_ne (ne_of ht' (e3 _ _ gD) (fun z => nomatch z))).trans ht'), rfl, C, q', _, _, rfl, rfl, gC3, (upd_ne (ne_of_none gD fq).symm).trans hq', (by show 1 ≤ sizeLine; decide), ?_⟩
      exact ⟨m + m', _, _, by omega, rfl, ((kc.same e3).upd (by simp)).upd (by simp), (upd_ne hDC).trans upd_same, upd_same⟩
    · rintro σ Hc ⟨m, v5', v6', hm, rfl, kc, gD, gC⟩
      have lpx1 : px.length ≤ 1 := by rw [lpx]; split <;> decide
      have gL : Hc L = some (.lst us) := kc _ _ (by simp; exact ⟨ne_of_none g1 hD, ne_of_none (e1 _ _ g1) nC⟩) g1
      refine ⟨_, rfl, .inl ⟨rfl, _, SqL.of gL⟩, _, rfl, _, rfl, by show 2 ≤ sizeLine; decide, fun p np => ?_⟩
      have gL2 : (upd Hc p (.tup [.ref D, .ref C])) L = some (.lst us) := same_new np _ _ _ gL
      have i2 : us.length < 2 := by have := lt_of_get hb; rw [l1]; exact this
      refine ⟨L, us, _, rfl, rfl, gL2, szl _ (by omega), ?_⟩
      have kk : Kp [D, C] H' (upd Hc p (.tup [.ref D, .ref C])) := kc.new np _
      have hDn : H D = none := s1.free hD
      have hCn : H C = none := s1.free (e1.free nC)
      have DL : D ≠ L := (ne_of_none g1 hD).symm
      have CL : C ≠ L := (ne_of_none (e1 _ _ g1) nC).symm
      refine ⟨_, _, _, _, _, us ++ [.ref p], rfl, fun a u hu => ?_, f1, upd_same, by rw [List.length_append, l1]; rfl, fun j v b' hj hb' => ?_⟩
      · rw [upd_ne (ne_of_none hu f1)]
        exact kk _ _ (by simp; exact ⟨ne_of_none hu hDn, ne_of_none hu hCn⟩) (s1 _ _ hu)
      · by_cases hji : j < us.length
        · rw [List.getElem?_append_left hji] at hj
          obtain ⟨t, a, c', n', rfl, q1, q2, q3, q4, q5, q6⟩ := gl j v b' hj hb'
          have st : ∀ a u, a ≠ D → a ≠ C → a ≠ L → H' a = some u → (upd (upd Hc p (.tup [.ref D, .ref C])) L (.lst (us ++ [.ref p]))) a = some u := fun a u h1 h2 h3 hu => by
            rw [upd_ne h3]
            exact kk _ _ (by simp; exact ⟨h1, h2⟩) hu
          have nD : ∀ a u, H' a = some u → a ≠ D := fun a u hu => ne_of_none hu hD
          have nC' : ∀ a u, H' a = some u → a ≠ C := fun a u hu => ne_of_none hu (e1.free nC)
          exact ⟨t, a, c', n', rfl, st _ _ (nD _ _ q1) (nC' _ _ q1) (ne_of q1 g1 (fun z => nomatch z)) q1, st _ _ (nD _ _ q2) (nC' _ _ q2) q5 q2, st _ _ (nD _ _ q3) (nC' _ _ q3) q6 q3, q4, q5, q6⟩
        · have hj2 := lt_of_get hj
          rw [List.length_append] at hj2
          have ej : j = i := by rw [← l1]; have : ([V.ref p] : List V).length = 1 := rfl; omega
          subst ej
          rw [List.getElem?_append_right (by omega), l1, Nat.sub_self] at hj
          obtain rfl := Option.some.inj hj
          rw [hb] at hb'
          obtain rfl := Option.some.inj hb'
          exact ⟨p, D, C, m, rfl, (upd_ne (ne_of_none gL np).symm).trans upd_same, (upd_ne DL).trans (same_new np _ _ _ gD), (upd_ne CL).trans (same_new np _ _ _ gC), by omega, DL, CL⟩
  · rintro σ Hl ⟨v2, v3, v4, v5, v6, us, rfl, s1, f1, g1, l1, gl⟩
    rw [lys] at l1
    refine ⟨by show 0 ≤ sizeLine; decide, fun Pp nP => ?_⟩
    have e1 := same_new nP (.lst [])
    have PL : L ≠ Pp := ne_of_none g1 nP
    refine ⟨_, rfl, L, us, rfl, .inl (SqL.of (e1 _ _ g1)), ((2 : Nat) : Int), by rw [l1], by decide, by decide, for_range (n := 2) (fun i σ H' => ∃ v8 v9 v10 ts, σ = [some (.ref e), some (.ref L), v2, v3, v4, v5, v6, some (.ref Pp), v8, v9, v10, none, none] ∧ Same Hl H' ∧ H' Pp = some (.lst ts) ∧ ts.length = i ∧ DiagAt H' ts)
      ⟨none, none, none, [], rfl, e1, upd_same, rfl, fun j v h => by simp at h⟩ ?_ ?_⟩
    · rintro i σ H' hi ⟨v8, v9, v10, ts, rfl, s2, g2, l2, d2⟩
      obtain ⟨bi, hbi⟩ := bs2_at hi
      have hui : ∃ u, us[i]? = some u := ⟨us[i]'(by omega), by simp⟩
      obtain ⟨ui, hui⟩ := hui
      obtain ⟨ti, ai, ci, ni, rfl, qi1, qi2, qi3, qi4, _, _⟩ := gl i ui bi hui hbi
      refine ⟨_, rfl, L, us, rfl, .inl (SqL.of (s2 _ _ g1)), ((2 : Nat) : Int), by rw [l1], by decide, by decide, for_range (n := 2) (fun k σ H' => ∃ v9 v10 ts, σ = [some (.ref e), some (.ref L), v2, v3, v4, v5, v6, some (.ref Pp), some (.int (0 + (i : Nat))), v9, v10, none, none] ∧ Same Hl H' ∧ H' Pp = some (.lst ts) ∧ ts.length = i + (if i < k then 1 else 0) ∧ DiagAt H' ts)
        ⟨v9, v10, ts, rfl, s2, g2, by rw [if_neg (by omega)]; exact l2, d2⟩ ?_ ?_⟩
      · rintro k σ H2 hk ⟨v9, v10, ts, rfl, s3, g3, l3, d3⟩
        obtain ⟨bk, hbk⟩ := bs2_at hk
        have huk : ∃ u, us[k]? = some u := ⟨us[k]'(by omega), by simp⟩
        obtain ⟨uk, huk⟩ := huk
        obtain ⟨tk, ak, ck, nk, rfl, qk1, qk2, qk3, qk4, _, _⟩ := gl k uk bk huk hbk
        have bik := bs2_eq hbi hbk
        have hai : atI us (0 + (i : Nat)) = some (.ref ti) := by rw [Int.zero_add]; exact atI_nat hui
        have hak : atI us (0 + (k : Nat)) = some (.ref tk) := by rw [Int.zero_add]; exact atI_nat huk
        refine ⟨_, rfl, _, rfl, L, us, _, _, rfl, rfl, SqL.of (s3 _ _ g1), hai, ti, _, 0, _, rfl, rfl, SqT.tp (s3 _ _ qi1), rfl, ai, rfl, ⟨_, SqL.of (s3 _ _ qi2)⟩, fun D hD => lcF_list (acc := fun j => List.replicate j (V.bl (decide (bi = bk)))) rfl (s3 _ _ qi2) hD ?_ ?_⟩
        · rintro j z hj
          have lj := lt_of_get hj
          rw [reps_len] at lj
          have ez : z = .str (asN bi) := by
            have hm := List.mem_of_getElem? hj
            exact List.eq_of_mem_replicate hm
          subst ez
          have sn := same_new hD (.lst (List.replicate j (V.bl (decide (bi = bk)))))
          refine ⟨rfl, _, rfl, _, rfl, _, rfl, L, us, _, _, rfl, rfl, SqL.of (sn _ _ (s3 _ _ g1)), hak, tk, _, 0, _, rfl, rfl, SqT.tp (sn _ _ (s3 _ _ qk1)), rfl, ak, _, rfl, .inl (SqL.of (sn _ _ (s3 _ _ qk2))), rfl, flat_reps _ _, ?_⟩
          have ein : (if false then !inV (V.str (asN bi)) (reps bk nk) else inV (V.str (asN bi)) (reps bk nk)) = decide (bi = bk) := by
            by_cases e0 : nk = 0
            · by_cases e1 : bi = bk
              · have := bik.mp e1
                subst this
                rw [hui] at huk
                obtain rfl := V.ref.inj (Option.some.inj huk)
                rw [qi1] at qk1
                obtain rfl : ai = ak := V.ref.inj (List.cons.inj (HO.tup.inj (Option.some.inj qk1))).1
                rw [qi2] at qk2
                have := congrArg List.length (HO.lst.inj (Option.some.inj qk2))
                rw [reps_len, reps_len] at this
                omega
              · subst e0
                rw [decide_eq_false e1]
                rfl
            · exact inV_reps _ _ _ (by omega)
          rw [ein]
          exact lc_end (acc := fun j => List.replicate j (V.bl (decide (bi = bk)))) (by show List.replicate (j + 1) _ = _; rw [List.replicate_succ']) (by show (List.replicate j _).length < _; rw [List.length_replicate]; omega)
        have s4 := s3.trans (same_new hD (.lst (List.replicate (reps bi ni).length (V.bl (decide (bi = bk))))))
        have g4 := same_new hD (.lst (List.replicate (reps bi ni).length (V.bl (decide (bi = bk))))) _ _ g3
        have d4 := d3.to (TpS.of (same_new hD (.lst (List.replicate (reps bi ni).length (V.bl (decide (bi = bk)))))))
        have gDD : (upd H2 D (.lst (List.replicate (reps bi ni).length (V.bl (decide (bi = bk)))))) D = some (.lst ((List.replicate (reps bi ni).length (decide (bi = bk))).map V.bl)) := by rw [upd_same, List.map_replicate]
        refine ⟨D, List.replicate (reps bi ni).length (decide (bi = bk)), rfl, SqL.of gDD, ?_⟩
        generalize upd H2 D (.lst (List.replicate (reps bi ni).length (V.bl (decide (bi = bk))))) = H4 at s4 g4 d4 ⊢
        have doit : i = k → ∀ p, H4 p = none → Same Hl (upd (upd H4 p (.tup [.int (0 + (i : Nat)), .int (0 + (k : Nat))])) Pp (.lst (ts ++ [.ref p]))) ∧ (ts ++ [V.ref p]).length = i + (if i < k + 1 then 1 else 0) ∧ DiagAt (upd (upd H4 p (.tup [.int (0 + (i : Nat)), .int (0 + (k : Nat))])) Pp (.lst (ts ++ [.ref p]))) (ts ++ [.ref p]) := fun eik p hp => by
          have nPp : p ≠ Pp := (ne_of_none g4 hp).symm
          have el : ts.length = i := by rw [l3, if_neg (by omega)]; rfl
          refine ⟨same_mut (s4.trans (same_new hp _)) nP, by rw [List.length_append, el, if_pos (by omega)]; rfl, fun j v hj => ?_⟩
          by_cases hji : j < ts.length
          · rw [List.getElem?_append_left hji] at hj
            obtain ⟨t, rfl, ht⟩ := d4 j v hj
            exact ⟨t, rfl, (upd_ne (ne_of ht g4 (fun z => nomatch z))).trans (same_new hp _ _ _ ht)⟩
          · have hj2 := lt_of_get hj
            rw [List.length_append] at hj2
            have ej : j = i := by have : ([V.ref p] : List V).length = 1 := rfl; omega
            subst ej
            rw [List.getElem?_append_right (by omega), el, Nat.sub_self] at hj
            obtain rfl := Option.some.inj hj
            refine ⟨p, rfl, (upd_ne nPp).trans ?_⟩
            rw [upd_same, ← eik, Int.zero_add]
        have i2 : ts.length ≤ 3 := by rw [l3]; split <;> omega
        -- the test
        refine ⟨_, rfl, _, rfl, ?_⟩
        by_cases hsh : (List.replicate (reps bi ni).length (decide (bi = bk))).any id = true
        · rw [hsh]
          have eik : i = k := by
            apply bik.mp
            rw [List.any_replicate] at hsh
            split at hsh
            · exact absurd hsh (by decide)
            · exact of_decide_eq_true hsh
          refine iteT (iteT ?_)
          refine ⟨_, rfl, .inl ⟨rfl, _, SqL.of g4⟩, _, rfl, _, rfl, by show 2 ≤ sizeLine; decide, fun p hp => ?_⟩
          obtain ⟨z1, z2, z3⟩ := doit eik p hp
          exact ⟨Pp, ts, _, rfl, rfl, same_new hp _ _ _ g4, szl _ (by omega), _, _, ts ++ [.ref p], rfl, z1, upd_same, z2, z3⟩
        · rw [Bool.eq_false_iff.mpr hsh]
          refine iteF ?_
          have hyk : ∃ v, ys[k]? = some v := ⟨ys[k]'(by omega), by simp⟩
          obtain ⟨xk, hxk⟩ := hyk
          obtain ⟨dd, hdd, rk⟩ := Rps.getV hys hxk
          rw [List.getElem?_map, hbk] at hdd
          obtain rfl := Option.some.inj hdd
          obtain ⟨yk, w1, w2, w3, rfl, hyk, _, _, _⟩ := CC.dE (rk.to (s1.trans s4))
          have hay : atI ys (0 + (k : Nat)) = some (.ref yk) := by rw [Int.zero_add]; exact atI_nat hxk
          refine ⟨_, rfl, e, _, dx, _, _, rfl, s4 _ _ (s1 _ _ he), T.cl_House, T.na_House_contracts, fHouse_contracts, _, rfl, c, ys, _, _, rfl, rfl, SqT.tp (s4 _ _ (s1 _ _ hcc)), hay, yk, _, 0, _, rfl, rfl, SqT.tp hyk, rfl, ?_⟩
          refine ⟨_, rfl, _, rfl, L, us, _, _, rfl, rfl, SqL.of (s4 _ _ g1), hai, ti, _, 1, _, rfl, rfl, SqT.tp (s4 _ _ qi1), rfl, ci, _, rfl, .inl (SqL.of (s4 _ _ qi3)), rfl, rfl, _, rfl, ?_⟩
          have ein : (if false then !inV (V.str (ctN bk)) [V.str (ctN bi)] else inV (V.str (ctN bk)) [V.str (ctN bi)]) = decide (i = k) := by
            show (eqV (V.str (ctN bi)) (V.str (ctN bk)) || false) = _
            rw [eqV_ct, Bool.or_false]
            exact decide_eq_decide.mpr (Iff.trans ⟨Eq.symm, Eq.symm⟩ bik)
          rw [ein]
          refine if2 (fun eik => ?_) (fun eik => ?_)
          · refine ⟨_, rfl, .inl ⟨rfl, _, SqL.of g4⟩, _, rfl, _, rfl, by show 2 ≤ sizeLine; decide, fun p hp => ?_⟩
            obtain ⟨z1, z2, z3⟩ := doit eik p hp
            exact ⟨Pp, ts, _, rfl, rfl, same_new hp _ _ _ g4, szl _ (by omega), _, _, ts ++ [.ref p], rfl, z1, upd_same, z2, z3⟩
          · refine ⟨_, _, ts, rfl, s4, g4, ?_, d4⟩
            rw [l3]
            congr 1
            split <;> split <;> omega
      · rintro σ H2 ⟨v9, v10, ts, rfl, s3, g3, l3, d3⟩
        exact ⟨_, v9, v10, ts, rfl, s3, g3, by rw [l3, if_pos hi], d3⟩
    · rintro σ H' ⟨v8, v9, v10, ts, rfl, s2, g2, l2, d2⟩
      refine ⟨_, rfl, q _ _ (s1.trans s2) ?_⟩
      match ts, l2 with
      | [t0, t1], _ =>
        obtain ⟨t0, rfl, h0⟩ := d2 0 t0 rfl
        obtain ⟨t1, rfl, h1⟩ := d2 1 t1 rfl
        exact ⟨t0, t1, g2, h0, h1⟩
end
end Nc

-- D10
set_option maxHeartbeats 4000000
namespace Nc
open PySem L2 C8
section
variable {P : Program} {w : World} {K : PySem.W.Frag} {mg : Str → Option Value} {base : Heap}
/-! ### parts -/
abbrev N_parts : List Str := ["house", "group", "one", "other", "low", "high", "index", "found", "row", "k"]
theorem sc_parts : FnScope N_parts ["house"] (defScope s_parts) := ⟨rfl, rfl, rfl, by decide +kernel, rfl, by decide +kernel, by decide +kernel⟩
/-- the rows [0] and [1] -/
def RowsAt (H : Hp) (p : Addr) : Prop := ∃ r0 r1, H p = some (.lst [.ref r0, .ref r1]) ∧ H r0 = some (.lst [.int 0]) ∧ H r1 = some (.lst [.int 1])
def spParts (K : PySem.W.Frag) : Sp := fun vs H Q _ => ∃ (e : Addr) (h : HH), vs = [.ref e] ∧ HouseAt K H e h ∧ h.fit ∧ h.pc = true ∧ h.pd = true ∧ ∀ p H', Same H H' → RowsAt H' p → Q (.ref p) H'
theorem hu65_of {A : Around} {k : Nat} (hr : Room k A) : A.units + 65 < cLine := by have := hr.un; omega
theorem ok_parts (T : Tx K mg) : Cal P w K mg base 8 "parts" (spParts K) [] := by
  have c_ties : Cal P w K mg base 7 "ties" (spTies K) [] := ok_ties T
  refine cal_of T 5 rfl T.g_parts sc_parts (fun _ _ _ _ _ _ us hl => match us, hl with | [_], _ => rfl) (fun vs H Q E h => ?_) (fun cdv A outer s H vs Q E hr h => ?_)
  · obtain ⟨_, _, rfl, _⟩ := h
    rfl
  obtain ⟨e, h, rfl, hh, fit, h1, h2, q⟩ := h
  obtain ⟨dx, va, vc, he, ha, hc⟩ := id hh
  obtain ⟨c, ys, rfl, hcc, hys⟩ := Rp.tupE hc
  have ep : h.pres = bs2 := by unfold HH.pres; rw [h1, h2]; rfl
  rw [ep] at hys
  have lys : ys.length = 2 := by rw [Rps.length hys, List.length_map]; rfl
  have hu65 := hu65_of hr
  refine ⟨_, (pss_cons (ps_set (i := 1) sc_parts.nd rfl (Or.inr rfl) (pe_listRg rfl rfl T.f_list (prg_1 rfl T.f_range (pe_callB call_len_seq (by rfl) T.f_len (by decide +kernel) (pa_cons (pe_fld (pv 0) rfl) pa_nil)))))
    (pss_cons (ps_for PassesOwn.never rfl (pi_list (pe_c c_ties hr (by decide) rfl (pa_cons (pv 0) pa_nil))) (pg_tup rfl (pgs_cons (pg_name (i := 2) sc_parts.nd rfl (Or.inl rfl)) (pgs_cons (pg_name (i := 3) sc_parts.nd rfl (Or.inl rfl)) pgs_nil)))
    (pss_cons (ps_asg (pe_callB cr_sorted (by rfl) T.f_sorted (by decide +kernel) (pa_cons (pe_lst (pa_cons (pe_ix ix_list (pv 1) (pv 2) (fun _ _ => rfl)) (pa_cons (pe_ix ix_list (pv 1) (pv 3) (fun _ _ => rfl)) pa_nil))) pa_nil)) (pg_lst rfl (pgs_cons (pg_name (i := 4) sc_parts.nd rfl (Or.inr rfl)) (pgs_cons (pg_name (i := 5) sc_parts.nd rfl (Or.inr rfl)) pgs_nil))))
    (pss_one (ps_set (i := 1) sc_parts.nd rfl (Or.inr rfl) (pe_lc (g := (gName 6)) (tt := tYes) (own := [("index", 6)]) rfl sc_parts.nd (pi_list (pv 1)) (blkOk_by (N := N_parts) (sc := defScope s_parts) (by decide +kernel)) (fun _ _ _ _ _ => (pg_name (i := 6) sc_parts.nd rfl (Or.inl rfl))) (fun _ _ _ _ _ => pts_nil) (fun _ _ _ _ _ => (pe_ifExp (pt_cmpR op_eq (pv 6) (pv 5) (nomark _)) (pv 4) (pv 6))))))))
    (pss_cons (ps_set (i := 7) sc_parts.nd rfl (Or.inl rfl) (pe_lst pa_nil))
    (pss_cons (ps_for PassesOwn.never rfl (pi_list (pv 1)) (pg_name (i := 6) sc_parts.nd rfl (Or.inr rfl))
    (pss_cons (ps_setLc (i := 8) (tt := tTest (tOp rEq (tOp (rIxL K) (tVar 1) (tVar 9)) (tVar 6))) (g := (gName 9)) (own := [("k", 9)]) rfl sc_parts.nd rfl rfl (sw_true rfl rfl rfl (by decide +kernel)) (pi_range1 rfl T.f_range (pa_cons (pe_callB call_len_seq (by rfl) T.f_len (by decide +kernel) (pa_cons (pv 1) pa_nil)) pa_nil)) (blkOk_by (N := N_parts) (sc := defScope s_parts) (by decide +kernel)) (fun _ _ _ _ _ => (pg_name (i := 9) sc_parts.nd rfl (Or.inl rfl))) (fun _ _ _ _ _ => (pts_one (pt_cmpR op_eq (pe_ix ix_list (pv 1) (pv 9) (fun _ _ => rfl)) (pv 6) (nomark _)))) (fun _ _ _ _ _ => (pv 9)))
    (pss_one (ps_if (pt_cmpR (op_notInD hu65) (pv 8) (pv 7) (by rfl))
    (pss_one (ps_expr (pe_bm PySem.F.plainAttrs_list PySem.F.slot_list_append PySem.F.type_list_append mt_append (pv 7) (pa_cons (pv 8) pa_nil))))
    pss_nil))))
    (pss_one (ps_ret (pv 7))))))), ?_⟩
  refine ⟨_, rfl, e, _, dx, _, _, rfl, he, T.cl_House, T.na_House_contracts, fHouse_contracts, c, ys, rfl, .inr (SqT.tp hcc), _, rfl, ?_⟩
  rw [lys]
  refine ⟨⟨by decide, by decide, by decide, by decide, by decide⟩, fun g ng => ?_⟩
  have e1 := same_new ng (.lst [.int 0, .int 1])
  refine ⟨_, rfl, e, h, rfl, hh.to e1, fit, h1, h2, fun p H1 e2 pr => ?_⟩
  obtain ⟨t0, t1, hp, ht0, ht1⟩ := pr
  have hg1 : H1 g = some (.lst [.int 0, .int 1]) := e2 _ _ upd_same
  refine ⟨p, rfl, ⟨_, SqL.of hp⟩, for_list (xs := [.ref t0, .ref t1]) (fun i σ H' => ∃ v2 v3 v4 v5 g', σ = [some (.ref e), some (.ref g'), v2, v3, v4, v5, none, none, none, none] ∧ Same H1 H' ∧ H' g' = some (.lst [.int 0, .int 1]))
    ⟨none, none, none, none, g, rfl, Same.refl _, hg1⟩ (fun i σ H' _ ⟨_, _, _, _, _, _, s, _⟩ => SqL.of (s _ _ hp)) ?_ ?_⟩
  · rintro i x σ H' hi ⟨v2, v3, v4, v5, g', rfl, s1, hg⟩
    have hx : ∃ (t : Addr) (k : Int), x = .ref t ∧ H1 t = some (.tup [.int k, .int k]) ∧ atI ([.int 0, .int 1] : List V) k = some (.int k) := by
      match i, hi with
      | 0, hi => exact ⟨t0, 0, (Option.some.inj hi).symm, ht0, rfl⟩
      | 1, hi => exact ⟨t1, 1, (Option.some.inj hi).symm, ht1, rfl⟩
      | i + 2, hi => simp at hi
    obtain ⟨t, k, rfl, ht, hk⟩ := hx
    refine ⟨t, _, rfl, SqT.tp (s1 _ _ ht), rfl, _, _, rfl, _, _, rfl, rfl, ?_⟩
    refine ⟨_, rfl, _, rfl, g', _, _, _, rfl, rfl, SqL.of hg, hk, _, rfl, _, rfl, g', _, _, _, rfl, rfl, SqL.of hg, hk, by show 2 ≤ sizeLine; decide, fun s hs => ?_⟩
    refine ⟨s, [k, k], rfl, SqL.of upd_same, (show 2 < 64 by decide), fun ns q perm _ hq => ?_⟩
    have ens : ns = [k, k] := (List.perm_replicate (n := 2) (a := k)).mp perm
    subst ens
    have s2 := (s1.trans (same_new hs (.lst [.int k, .int k]))).trans (same_new hq (.lst [.int k, .int k]))
    have hg2 := same_new hq (.lst [.int k, .int k]) _ _ (same_new hs (.lst [.int k, .int k]) _ _ hg)
    refine ⟨q, _, rfl, SqL.of upd_same, rfl, _, _, rfl, _, _, rfl, rfl, ?_⟩
    refine ⟨_, rfl, g', rfl, ⟨_, SqL.of hg2⟩, fun D hD => lcF_list (acc := fun j => [.int 0, .int 1].take j) rfl hg2 hD ?_ ?_⟩
    · rintro j z hj
      refine ⟨rfl, _, rfl, _, rfl, ?_, _, rfl, ?_⟩
      · match j, hj with
        | 0, hj => obtain rfl := Option.some.inj hj; rfl
        | 1, hj => obtain rfl := Option.some.inj hj; rfl
        | j + 2, hj => simp at hj
      · refine if2 (fun ec => ?_) (fun ec => ?_)
        · have ez : z = .int k := ec
          rw [ez] at hj
          exact ⟨_, rfl, take_end (ys := [.int 0, .int 1]) hj (show 2 ≤ 1000 by decide)⟩
        · exact ⟨_, rfl, take_end (ys := [.int 0, .int 1]) hj (show 2 ≤ 1000 by decide)⟩
    · exact ⟨_, _, _, _, D, rfl, s2.trans (same_new hD _), upd_same⟩
  · rintro σ H' ⟨v2, v3, v4, v5, g', rfl, s1, hg⟩
    refine ⟨by show 0 ≤ sizeLine; decide, fun F hF => ?_⟩
    have s2 := s1.trans (same_new hF (.lst []))
    have hg2 := same_new hF (.lst []) _ _ hg
    have s0 : Same H H1 := e1.trans e2
    refine ⟨_, rfl, g', rfl, ⟨_, SqL.of hg2⟩, for_list (xs := [.int 0, .int 1]) (fun i σ H2 => ∃ v6 v8 fs, σ = [some (.ref e), some (.ref g'), v2, v3, v4, v5, v6, some (.ref F), v8, none] ∧ Same H' H2 ∧ H2 F = some (.lst fs) ∧ fs.length = i ∧ ∀ (j : Nat) v, fs[j]? = some v → ∃ r, v = .ref r ∧ H2 r = some (.lst [.int (j : Int)]) ∧ r ≠ F)
      ⟨none, none, [], rfl, same_new hF _, upd_same, rfl, fun j v h => by simp at h⟩ (fun i σ H2 _ ⟨_, _, _, _, s, _⟩ => SqL.of (s _ _ hg)) ?_ ?_⟩
    · rintro i x σ H2 hi ⟨v6, v8, fs, rfl, s3, gF, lf, df⟩
      have hx : x = .int (i : Int) ∧ i < 2 := by
        match i, hi with
        | 0, hi => exact ⟨(Option.some.inj hi).symm, by decide⟩
        | 1, hi => exact ⟨(Option.some.inj hi).symm, by decide⟩
        | i + 2, hi => simp at hi
      obtain ⟨rfl, i2⟩ := hx
      have hg3 := s3 _ _ hg
      refine ⟨_, rfl, g', _, rfl, .inl (SqL.of hg3), ((2 : Nat) : Int), rfl, by decide, by decide, fun D hD => lcF_range (acc := fun j => if i < j then [.int (i : Int)] else []) rfl ?_ ?_⟩
      · rintro j hj
        have hg4 : ∀ l, (upd H2 D (.lst l)) g' = some (.lst [.int 0, .int 1]) := fun l => (upd_ne (ne_of_none hg3 hD)).trans hg3
        have hj2 : j < 2 := hj
        have hat : atI ([.int 0, .int 1] : List V) (0 + (j : Nat)) = some (.int (j : Int)) := by
          match j, hj2 with
          | 0, _ => rfl
          | 1, _ => rfl
        refine ⟨rfl, _, rfl, _, rfl, g', _, _, _, rfl, rfl, SqL.of (hg4 _), hat, _, rfl, rfl, _, rfl, ?_⟩
        refine if2 (fun ec => ?_) (fun ec => ?_)
        · have ei : (j : Int) = (i : Int) := V.int.inj ec
          have ej : j = i := by omega
          subst ej
          refine ⟨_, rfl, lc_end (acc := fun k => if j < k then [V.int (j : Int)] else []) ?_ ?_⟩
          · show (if j < j + 1 then [V.int (j : Int)] else []) = (if j < j then [V.int (j : Int)] else []) ++ [V.int (0 + (j : Int))]
            rw [if_pos (Nat.lt_succ_self _), if_neg (Nat.lt_irrefl _), Int.zero_add]
            rfl
          · show (if j < j then [V.int (j : Int)] else []).length < 100000
            rw [if_neg (Nat.lt_irrefl _)]
            decide
        · have ei : ¬ ((j : Int) = (i : Int)) := fun z => ec (by rw [z])
          show upd H2 D (.lst (if i < j then [.int (i : Int)] else [])) = upd H2 D (.lst (if i < j + 1 then [.int (i : Int)] else []))
          congr 2
          split <;> split <;> first | rfl | omega
      have eacc : (if i < ((2 : Nat) : Int).toNat then [V.int (i : Int)] else []) = [.int (i : Int)] := if_pos i2
      rw [eacc]
      have s4 := s3.trans (same_new hD (.lst [.int (i : Int)]))
      have gF4 := same_new hD (.lst [.int (i : Int)]) _ _ gF
      have FD : D ≠ F := (ne_of_none gF hD).symm
      have app : ∃ v6 v8 fs', ([some (.ref e), some (.ref g'), v2, v3, v4, v5, some (.int (i : Int)), some (.ref F), some (.ref D), none] : L2.St) = [some (.ref e), some (.ref g'), v2, v3, v4, v5, v6, some (.ref F), v8, none] ∧ Same H' (upd (upd H2 D (.lst [.int (i : Int)])) F (.lst (fs ++ [.ref D]))) ∧ (upd (upd H2 D (.lst [.int (i : Int)])) F (.lst (fs ++ [.ref D]))) F = some (.lst fs') ∧ fs'.length = i + 1 ∧ ∀ (j : Nat) v, fs'[j]? = some v → ∃ r, v = .ref r ∧ (upd (upd H2 D (.lst [.int (i : Int)])) F (.lst (fs ++ [.ref D]))) r = some (.lst [.int (j : Int)]) ∧ r ≠ F := by
        refine ⟨_, _, fs ++ [.ref D], rfl, same_mut s4 hF, upd_same, by rw [List.length_append, lf]; rfl, fun j v hj => ?_⟩
        by_cases hji : j < fs.length
        · rw [List.getElem?_append_left hji] at hj
          obtain ⟨r, rfl, hr1, hr2⟩ := df j v hj
          exact ⟨r, rfl, (upd_ne hr2).trans (same_new hD _ _ _ hr1), hr2⟩
        · have hj2 := lt_of_get hj
          rw [List.length_append] at hj2
          have ej : j = i := by have : ([V.ref D] : List V).length = 1 := rfl; omega
          subst ej
          rw [List.getElem?_append_right (by omega), lf, Nat.sub_self] at hj
          obtain rfl := Option.some.inj hj
          exact ⟨D, rfl, (upd_ne FD).trans upd_same, FD⟩
      have dD : Dp K (upd H2 D (.lst [.int (i : Int)])) (.ref D) (.list [.int (i : Int)]) := .lst (SqL.of upd_same) (.cons (.int _) .nil)
      obtain rfl | rfl : i = 0 ∨ i = 1 := by omega
      · obtain rfl := List.length_eq_zero_iff.mp lf
        refine ⟨_, rfl, _, rfl, .list [.int ((0 : Nat) : Int)], [], dD, .lst (SqL.of gF4) .nil, by decide +kernel, by decide +kernel, _, rfl, ?_⟩
        refine iteT ?_
        exact ⟨_, rfl, .inl ⟨rfl, _, SqL.of gF4⟩, _, rfl, F, [], _, rfl, rfl, gF4, szl _ (by decide), app⟩
      · match fs, lf, df, gF, gF4, app with
        | [f0], _, df, gF, gF4, app =>
          obtain ⟨r, rfl, hr1, hr2⟩ := df 0 f0 rfl
          have dF : Dp K (upd H2 D (.lst [.int ((1 : Nat) : Int)])) (.ref F) (.list [.list [.int 0]]) := .lst (SqL.of gF4) (.cons (.lst (SqL.of (same_new hD _ _ _ hr1)) (.cons (.int _) .nil)) .nil)
          refine ⟨_, rfl, _, rfl, .list [.int ((1 : Nat) : Int)], [.list [.int 0]], dD, dF, by decide +kernel, by decide +kernel, _, rfl, ?_⟩
          have en : (!([PyData.list [.int 0]] : List PyData).any fun z => PyData.eqv z (.list [.int ((1 : Nat) : Int)])) = true := by decide +kernel
          rw [en]
          refine iteT ?_
          exact ⟨_, rfl, .inl ⟨rfl, _, SqL.of gF4⟩, _, rfl, F, _, _, rfl, rfl, gF4, (show 1 < sizeLine by decide), app⟩
    · rintro σ H2 ⟨v6, v8, fs, rfl, s3, gF, lf, df⟩
      refine ⟨_, rfl, q _ _ ((s0.trans s1).trans s3) ?_⟩
      match fs, lf with
      | [f0, f1], _ =>
        obtain ⟨r0, rfl, h0, _⟩ := df 0 f0 rfl
        obtain ⟨r1, rfl, h1, _⟩ := df 1 f1 rfl
        exact ⟨r0, r1, gF, h0, h1⟩
end
end Nc

-- M3
set_option maxHeartbeats 4000000
/-! the engine: what its numbers denote, what a run is -/
namespace Nc
open PySem L2 C8
/-! ### runs -/
def CC.size (c : CC) : Int := (c.var.map (·.1)).getD 1
def Sm.run (s g : Int) (l : Lo) : Sm → Option Lo
  | .set e => some { l with x := e.ev g l % s }
  | .need e => if e.ev g l = 0 then none else some l
  | .give e => if l.a < e.ev g l then none else some { l with a := l.a - e.ev g l, o := l.o + e.ev g l }
  | .get e => if l.o < e.ev g l then none else some { l with a := l.a + e.ev g l, o := l.o - e.ev g l }
def runM (s g : Int) : List Sm → Lo → Option Lo
  | [], l => some l
  | m :: r, l => match m.run s g l with
    | none => none
    | some l' => runM s g r l'
inductive Res where
  | fail
  | done (l : Lo)
  | asks (l : Lo) (n : Int) (rest : List Sx)
def run (s g : Int) : List Sx → Lo → Res
  | [], l => .done l
  | .sm m :: r, l => match m.run s g l with
    | none => .fail
    | some l' => run s g r l'
  | .ask n :: r, l => .asks l n r
  | .ite e t f :: r, l => match runM s g (if e.ev g l = 0 then f else t) l with
    | none => .fail
    | some l' => run s g r l'
theorem run_app (s g : Int) (r : List Sx) : ∀ (t : List Sm) (l : Lo), run s g (t.map Sx.sm ++ r) l = match runM s g t l with
    | none => .fail
    | some l' => run s g r l'
  | [], l => rfl
  | m :: t, l => by
    show (match m.run s g l with
      | none => Res.fail
      | some l' => run s g (t.map Sx.sm ++ r) l') = _
    show _ = match (match m.run s g l with
      | none => none
      | some l' => runM s g t l') with
      | none => Res.fail
      | some l' => run s g r l'
    cases m.run s g l with
    | none => rfl
    | some l' => exact run_app s g r t l'
theorem run_ite (s g : Int) (e : Ex) (t f : List Sm) (r : List Sx) (l : Lo) : run s g (.ite e t f :: r) l = run s g ((if e.ev g l = 0 then f else t).map Sx.sm ++ r) l := by
  rw [run_app]
  rfl
def Sx.wt : Sx → Nat
  | .ite _ t f => t.length + f.length + 1
  | _ => 1
def wts : List Sx → Nat
  | [] => 0
  | s :: r => s.wt + wts r
theorem wts_app : ∀ (t : List Sm) (r : List Sx), wts (t.map Sx.sm ++ r) = t.length + wts r
  | [], r => by simp
  | m :: t, r => by
    show 1 + wts (t.map Sx.sm ++ r) = _
    rw [wts_app t r, List.length_cons]
    omega
/-- what stays true of the own part of a state -/
structure Lo.ok (c : CC) (l : Lo) : Prop where
  x0 : 0 ≤ l.x
  x1 : l.x < c.size
  nv : c.hv = false → l.x = 0
  a : 0 ≤ l.a
  o : 0 ≤ l.o
  s : l.a + l.o ≤ 2
theorem CC.size_ok {c : CC} (f : c.fit) : 1 ≤ c.size ∧ c.size ≤ 2 := by
  unfold CC.size
  cases h : c.var with
  | none => exact ⟨Int.le_refl _, by show (1 : Int) ≤ 2; decide⟩
  | some p =>
    obtain ⟨h1, h2, _⟩ := f.var p h
    exact ⟨h1, h2⟩
theorem Lo.ok.pos {c : CC} {l : Lo} (k : l.ok c) (f : c.fit) : l.pos := by
  have h := (CC.size_ok f).2
  have h1 := k.x1
  exact ⟨⟨k.x0, by omega⟩, k.a, k.o⟩
/-- what a statement keeps -/
structure Kept (c : CC) (l l' : Lo) : Prop where
  ok : l'.ok c
  s : l'.a + l'.o = l.a + l.o
theorem Sm.kept {c : CC} (f : c.fit) {g : Int} (hg : W16 g) {l l' : Lo} (k : l.ok c) : ∀ m : Sm, m.fit c.hv → m.run c.size g l = some l' → Kept c l l'
  | .set e, hf, h => by
    obtain rfl := Option.some.inj h
    have hs := CC.size_ok f
    refine ⟨⟨Int.emod_nonneg _ (by omega), Int.emod_lt_of_pos _ (by omega), fun z => ?_, k.a, k.o, k.s⟩, rfl⟩
    have : c.hv = true := hf.1
    rw [this] at z
    cases z
  | .need e, hf, h => by
    have h' : (if e.ev g l = 0 then none else some l) = some l' := h
    split at h'
    · cases h'
    · obtain rfl := Option.some.inj h'
      exact ⟨k, rfl⟩
  | .give e, hf, h => by
    have hv := Ex.ev_ok hg (k.pos f) e hf.ok
    have h' : (if l.a < e.ev g l then none else some { l with a := l.a - e.ev g l, o := l.o + e.ev g l }) = some l' := h
    obtain ⟨v0, _⟩ := hv
    have s := k.s
    have ko := k.o
    split at h'
    · cases h'
    · obtain rfl := Option.some.inj h'
      exact ⟨⟨k.x0, k.x1, k.nv, by show 0 ≤ l.a - e.ev g l; omega, by show 0 ≤ l.o + e.ev g l; omega, by show l.a - e.ev g l + (l.o + e.ev g l) ≤ 2; omega⟩, by show l.a - e.ev g l + (l.o + e.ev g l) = _; omega⟩
  | .get e, hf, h => by
    have hv := Ex.ev_ok hg (k.pos f) e hf.ok
    have h' : (if l.o < e.ev g l then none else some { l with a := l.a + e.ev g l, o := l.o - e.ev g l }) = some l' := h
    obtain ⟨v0, _⟩ := hv
    have s := k.s
    have ka := k.a
    split at h'
    · cases h'
    · obtain rfl := Option.some.inj h'
      exact ⟨⟨k.x0, k.x1, k.nv, by show 0 ≤ l.a + e.ev g l; omega, by show 0 ≤ l.o - e.ev g l; omega, by show l.a + e.ev g l + (l.o - e.ev g l) ≤ 2; omega⟩, by show l.a + e.ev g l + (l.o - e.ev g l) = _; omega⟩
/-! ### the whole state -/
def gset (g : GG) (b : Bool) (l : Lo) : GG := match b with
  | false => (l, g.2)
  | true => (g.1, l)
theorem gat_gset (g : GG) (b : Bool) (l : Lo) : gat (gset g b l) b = l := by cases b <;> rfl
theorem gset_gset (g : GG) (b : Bool) (l m : Lo) : gset (gset g b l) b m = gset g b m := by cases b <;> rfl
theorem gset_gat (g : GG) (b : Bool) : gset g b (gat g b) = g := by cases b <;> rfl
def HH.gok (h : HH) (g : GG) : Prop := ∀ b, (gat g b).ok (h.cc b)
theorem HH.gok.set {h : HH} {g : GG} {b : Bool} {l : Lo} (k : h.gok g) (hl : l.ok (h.cc b)) : h.gok (gset g b l) := fun b' => by
  cases b <;> cases b'
  · exact hl
  · exact k true
  · exact k false
  · exact hl
theorem HH.pres_at {h : HH} {i : Nat} {b : Bool} (e : h.pres[i]? = some b) : (h.pres = [b] ∧ i = 0) ∨ (h.pres = bs2 ∧ bs2[i]? = some b) := by
  unfold HH.pres at e ⊢
  generalize h.pc = p at e ⊢
  generalize h.pd = p' at e ⊢
  cases p <;> cases p'
  · simp at e
  · match i, e with
    | 0, e => obtain rfl := Option.some.inj e; exact .inl ⟨rfl, rfl⟩
    | i + 1, e => simp at e
  · match i, e with
    | 0, e => obtain rfl := Option.some.inj e; exact .inl ⟨rfl, rfl⟩
    | i + 1, e => simp at e
  · exact .inr ⟨rfl, e⟩
theorem HH.vals_at {h : HH} {i : Nat} {b : Bool} (e : h.pres[i]? = some b) (g : GG) : (h.vals g)[i]? = some (if (h.cc b).hv then [(gat g b).x] else []) := by
  unfold HH.vals
  rw [List.getElem?_map, e]
  rfl
theorem HH.amts_at {h : HH} {i : Nat} {b : Bool} (e : h.pres[i]? = some b) (g : GG) : (h.amts g)[i]? = some (amt b (gat g b).a) := by
  unfold HH.amts
  rw [List.getElem?_map, e]
  rfl
theorem HH.vals_set {h : HH} {i : Nat} {b : Bool} (e : h.pres[i]? = some b) (g : GG) (l : Lo) : (h.vals g).set i (if (h.cc b).hv then [l.x] else []) = h.vals (gset g b l) := by
  unfold HH.vals
  rcases HH.pres_at e with ⟨e1, rfl⟩ | ⟨e1, e2⟩
  · rw [e1]
    show [_] = [if (h.cc b).hv then [(gat (gset g b l) b).x] else []]
    rw [gat_gset]
  · rw [e1]
    match i, e2 with
    | 0, e2 => obtain rfl := Option.some.inj e2; rfl
    | 1, e2 => obtain rfl := Option.some.inj e2; rfl
    | i + 2, e2 => simp [bs2] at e2
theorem HH.amts_set {h : HH} {i : Nat} {b : Bool} (e : h.pres[i]? = some b) (g : GG) (l : Lo) : (h.amts g).set i (amt b l.a) = h.amts (gset g b l) := by
  unfold HH.amts
  rcases HH.pres_at e with ⟨e1, rfl⟩ | ⟨e1, e2⟩
  · rw [e1]
    show [_] = [amt b (gat (gset g b l) b).a]
    rw [gat_gset]
  · rw [e1]
    match i, e2 with
    | 0, e2 => obtain rfl := Option.some.inj e2; rfl
    | 1, e2 => obtain rfl := Option.some.inj e2; rfl
    | i + 2, e2 => simp [bs2] at e2
theorem HH.vals_len (h : HH) (g : GG) : (h.vals g).length = h.pres.length := by unfold HH.vals; rw [List.length_map]
theorem HH.amts_len (h : HH) (g : GG) : (h.amts g).length = h.pres.length := by unfold HH.amts; rw [List.length_map]
/-! ### what the numbers denote -/
def LnAt (H : Hp) (ln : List V) (ci : Nat) (b : Bool) (n : Nat) (s : Sx) : Prop := ∃ t w, ln[n]? = some (.ref t) ∧ H t = some (.tup [.int (ci : Int), w]) ∧ Rp H w (s.d b)
def NumS (H : Hp) (ln : List V) (ci : Nat) (b : Bool) (n : Nat) (s : Sm) : Prop := LnAt H ln ci b n (.sm s)
def nV (ns : List Nat) : List V := ns.map fun (n : Nat) => V.int (n : Int)
/-- the two blocks of an if -/
def BrAt (H : Hp) (ln pn : List V) (ci : Nat) (b : Bool) (n : Nat) (t f : List Sm) : Prop :=
  ∃ u ut uf nt nf, pn[n]? = some (.ref u) ∧ H u = some (.tup [.ref ut, .ref uf]) ∧ H ut = some (.tup (nV nt)) ∧ H uf = some (.tup (nV nf)) ∧ Paired (NumS H ln ci b) nt t ∧ Paired (NumS H ln ci b) nf f
structure Num (H : Hp) (ln pn : List V) (ci : Nat) (b : Bool) (n : Nat) (s : Sx) : Prop where
  at_ : LnAt H ln ci b n s
  br : ∀ e t f, s = .ite e t f → BrAt H ln pn ci b n t f
theorem Paired.imp' {α β : Type} {R S : α → β → Prop} (h : ∀ a b, R a b → S a b) {xs : List α} {ys : List β} (p : Paired R xs ys) : Paired S xs ys := by
  induction p with
  | nil => exact .nil
  | cons a _ ih => exact .cons (h _ _ a) ih
theorem get_app {α : Type} {xs ys : List α} {n : Nat} {a : α} (h : xs[n]? = some a) : (xs ++ ys)[n]? = some a := by
  rw [List.getElem?_append_left (lt_of_get h)]
  exact h
theorem LnAt.mono {H H' : Hp} {ln lx : List V} {ci : Nat} {b : Bool} {n : Nat} {s : Sx} (k : LnAt H ln ci b n s) (t : TpS H H') : LnAt H' (ln ++ lx) ci b n s := by
  obtain ⟨a, w, h1, h2, h3⟩ := k
  exact ⟨a, w, get_app h1, t.t _ _ h2, Rp.ts t _ _ h3⟩
theorem Num.mono {H H' : Hp} {ln lx pn pn' : List V} {ci : Nat} {b : Bool} {n : Nat} {s : Sx} (k : Num H ln pn ci b n s) (t : TpS H H') (hp : ∀ (j : Nat) v, pn[j]? = some v → n = j → pn'[j]? = some v) : Num H' (ln ++ lx) pn' ci b n s := by
  refine ⟨k.at_.mono t, fun e tt f he => ?_⟩
  obtain ⟨u, ut, uf, nt, nf, h1, h2, h3, h4, h5, h6⟩ := k.br e tt f he
  exact ⟨u, ut, uf, nt, nf, hp _ _ h1 rfl, t.t _ _ h2, t.t _ _ h3, t.t _ _ h4, Paired.imp' (fun _ _ z => LnAt.mono z t) h5, Paired.imp' (fun _ _ z => LnAt.mono z t) h6⟩
def pendL (g : Int) (ns : List Nat) : List Int := ns.flatMap fun (n : Nat) => [(n : Int), g]
/-! ### the engine -/
def plK (c : CC) : List (Key × V) := if c.hv then [(.inr "x", .int 0)] else []
structure ConOk (H : Hp) (h : HH) (ln pn pls szs : List V) (bo : List (List Key × V)) (i : Nat) (b : Bool) : Prop where
  pl : ∃ q, pls[i]? = some (.ref q) ∧ H q = some (.dK (plK (h.cc b)))
  sz : ∃ q, szs[i]? = some (.ref q) ∧ H q = some (.lst (if (h.cc b).hv then [.int (h.cc b).size] else []))
  bo : ∀ s sh l, (h.cc b).proc = some (s, sh, l) → ∃ u ns, valV bo [.inr (ctN b), .inr "p"] = some (.ref u) ∧ H u = some (.tup (nV ns)) ∧ Paired (Num H ln pn i b) ns l
def assK : List (Key × V) := [(.inr "a", .int 0), (.inr "z", .int 1)]
structure EngAt (K : PySem.W.Frag) (H : Hp) (en : Addr) (h : HH) (ln pn : List V) : Prop where
  ex : ∃ dx eh aA aC aP aPl aS aL aPa aB pls szs bo, H en = some (.ins (He.ga K "Engine") dx (fEngine (.ref eh) (.ref aA) (.ref aC) (.ref aP) (.ref aPl) (.ref aS) (.ref aL) (.ref aPa) (.ref aB))) ∧ HouseAt K H eh h ∧ H aA = some (.dK assK) ∧ H aPl = some (.lst pls) ∧ H aS = some (.lst szs) ∧ H aL = some (.lst ln) ∧ H aPa = some (.lst pn) ∧ H aB = some (.dT bo) ∧
    ∀ i b, h.pres[i]? = some b → ConOk H h ln pn pls szs bo i b
theorem ConOk.to {H H' : Hp} {h : HH} {ln pn pls szs : List V} {bo : List (List Key × V)} {i : Nat} {b : Bool} (k : ConOk H h ln pn pls szs bo i b) (s : Same H H') : ConOk H' h ln pn pls szs bo i b := by
  refine ⟨?_, ?_, fun sz sh l hp => ?_⟩
  · obtain ⟨q, h1, h2⟩ := k.pl
    exact ⟨q, h1, s _ _ h2⟩
  · obtain ⟨q, h1, h2⟩ := k.sz
    exact ⟨q, h1, s _ _ h2⟩
  · obtain ⟨u, ns, h1, h2, h3⟩ := k.bo sz sh l hp
    refine ⟨u, ns, h1, s _ _ h2, Paired.imp' (fun n x z => ?_) h3⟩
    have := Num.mono (lx := []) z (TpS.of s) (pn' := pn) (fun j v hj _ => hj)
    rw [List.append_nil] at this
    exact this
theorem EngAt.to {K : PySem.W.Frag} {H H' : Hp} {en : Addr} {h : HH} {ln pn : List V} (k : EngAt K H en h ln pn) (s : Same H H') : EngAt K H' en h ln pn := by
  obtain ⟨dx, eh, aA, aC, aP, aPl, aS, aL, aPa, aB, pls, szs, bo, h1, h2, h3, h4, h5, h6, h7, h8, h9⟩ := k.ex
  exact ⟨dx, eh, aA, aC, aP, aPl, aS, aL, aPa, aB, pls, szs, bo, s _ _ h1, h2.to s, s _ _ h3, s _ _ h4, s _ _ h5, s _ _ h6, s _ _ h7, s _ _ h8, fun i b hb => (h9 i b hb).to s⟩
theorem Num.to {H H' : Hp} {ln pn : List V} {ci : Nat} {b : Bool} {n : Nat} {x : Sx} (k : Num H ln pn ci b n x) (s : Same H H') : Num H' ln pn ci b n x := by
  have := Num.mono (lx := []) k (TpS.of s) (pn' := pn) (fun j v hj _ => hj)
  rw [List.append_nil] at this
  exact this
end Nc

-- D11
set_option maxHeartbeats 4000000
namespace Nc
open PySem L2 C8
theorem HH.dSE {H : Hp} {v : V} {h : HH} {g : GG} (k : Rp H v (h.dS g)) : ∃ a v1 v2 v3 p1 p2 p3 r1 r2, v = .ref a ∧ H a = some (.tup [v1, v2, v3]) ∧ v1 = .ref p1 ∧ v2 = .ref p2 ∧ v3 = .ref p3 ∧ H p1 = some (.tup r1) ∧ H p2 = some (.tup r2) ∧ H p3 = some (.tup [.int g.1.o, .int g.2.o]) ∧ Rps H r1 ((h.vals g).map dI) ∧ Rps H r2 ((h.amts g).map dI) ∧
    Rp H v1 (dII (h.vals g)) ∧ Rp H v2 (dII (h.amts g)) ∧ Rp H v3 (dI [g.1.o, g.2.o]) := by
  obtain ⟨a, xs, rfl, ha, hx⟩ := Rp.tupE k
  obtain ⟨v1, r1, rfl, h1, hx⟩ := Rps.consE hx
  obtain ⟨v2, r2, rfl, h2, hx⟩ := Rps.consE hx
  obtain ⟨v3, r3, rfl, h3, hx⟩ := Rps.consE hx
  obtain rfl := Rps.nilE hx
  obtain ⟨p1, x1, rfl, e1, k1⟩ := Rp.tupE h1
  obtain ⟨p2, x2, rfl, e2, k2⟩ := Rp.tupE h2
  obtain ⟨p3, rfl, e3⟩ := Rp.dIE h3
  exact ⟨a, _, _, _, p1, p2, p3, x1, x2, rfl, ha, rfl, rfl, rfl, e1, e2, e3, k1, k2, h1, h2, h3⟩
theorem lookA {b : Bool} : valV assK (.inr (asN b)) = some (.int ((if b then 1 else 0 : Nat) : Int)) := by cases b <;> rfl
theorem lookX {c : CC} (h : c.hv = true) : valV (plK c) (.inr "x") = some (.int ((0 : Nat) : Int)) := by unfold plK; rw [if_pos h]; rfl
def ob (g : GG) : List Int := [g.1.o, g.2.o]
theorem amt_at (b : Bool) (i : Int) : ((amt b i).map V.int)[(if b then 1 else 0 : Nat)]? = some (.int i) := by cases b <;> rfl
theorem out_at (b : Bool) (g : GG) : ([.int g.1.o, .int g.2.o] : List V)[(if b then 1 else 0 : Nat)]? = some (.int (gat g b).o) := by cases b <;> rfl
section
variable {P : Program} {w : World} {K : PySem.W.Frag} {mg : Str → Option Value} {base : Heap}
/-! ### value -/
abbrev N_Engine_value : List Str := ["self", "expression", "contract", "given", "state", "kind", "left"]
theorem sc_Engine_value : FnScope N_Engine_value ["self", "expression", "contract", "given", "state"] (defScope s_Engine_value) := ⟨rfl, rfl, rfl, by decide +kernel, rfl, by decide +kernel, by decide +kernel⟩
def spVal (K : PySem.W.Frag) (n : Nat) : Sp := fun vs H Q _ => ∃ (en : Addr) (h : HH) (ln pn : List V) (ve v : V) (b : Bool) (e : Ex) (ci : Nat) (g : Int) (G : GG), vs = [.ref en, ve, .int (ci : Int), .int g, v] ∧ EngAt K H en h ln pn ∧ Rp H ve (e.d b) ∧ e.ok (h.cc b).hv ∧ e.dep < n ∧ h.pres[ci]? = some b ∧ W16 g ∧ (gat G b).pos ∧ Rp H v (h.dS G) ∧
  ∀ H', Same H H' → Q (.int (e.ev g (gat G b))) H'
theorem b_value : BindOk "value" "Engine.value" s_Engine_value ["self", "expression", "contract", "given", "state"] := fun _ _ _ _ _ _ us hl => match us, hl with | [_, _, _, _, _], _ => rfl
theorem ok_value (T : Tx K mg) : ∀ n : Nat, Met P w K mg base (n + 1) (He.ga K "Engine") "value" (spVal K n) []
  | 0 => met_no T 15 rfl T.cl_Engine T.me_Engine_value b_value fun vs H Q E ⟨_, _, _, _, _, _, _, _, _, _, _, _, _, _, _, z, _⟩ => absurd z (Nat.not_lt_zero _)
  | n + 1 => by
    have c_combine : Cal P w K mg base 1 "combine" spCombine [] := ok_combine T
    have m_Engine_value : Met P w K mg base (n + 1) (He.ga K "Engine") "value" (spVal K n) [] := ok_value T n
    refine met_of T 15 rfl T.cl_Engine T.me_Engine_value sc_Engine_value b_value (fun vs H Q E h => ?_) (fun cdv A outer s H vs Q E hr h => ?_)
    · obtain ⟨_, _, _, _, _, _, _, _, _, _, _, rfl, _⟩ := h
      rfl
    obtain ⟨en, h, ln, pn, ve, v, b, e, ci, g, G, rfl, heng, hve, ok, hd, hb, hg, hpos, hv, q⟩ := h
    obtain ⟨dx, eh, aA, aC, aP, aPl, aS, aL, aPa, aB, pls, szs, bo, z1, z2, z3, z4, z5, z6, z7, z8, z9⟩ := heng.ex
    obtain ⟨a, v1, v2, v3, p1, p2, p3, r1, r2, rfl, ha, rfl, rfl, rfl, g1, g2, g3, k1, k2, _⟩ := HH.dSE hv
    have hu := hu_of hr
    refine ⟨_, (pss_cons (ps_set (i := 5) sc_Engine_value.nd rfl (Or.inl rfl) (pe_ix ix_tup (pv 1) pe_int (fun _ _ => rfl)))
    (pss_cons (ps_if (pt_cmpR op_eq (pv 5) pe_str (nomark _))
    (pss_one (ps_ret (pe_ix ix_tup (pv 1) pe_int (fun _ _ => rfl))))
    pss_nil)
    (pss_cons (ps_if (pt_cmpR op_eq (pv 5) pe_str (nomark _))
    (pss_one (ps_ret (pv 3)))
    pss_nil)
    (pss_cons (ps_if (pt_cmpR op_eq (pv 5) pe_str (nomark _))
    (pss_one (ps_ret (pe_ix ix_tup (pe_ix ix_tup (pe_ix ix_tup (pv 4) pe_int (fun _ _ => rfl)) (pv 2) (fun _ _ => rfl)) (pe_dget hu (pe_ix ix_list (pe_fld (pv 0) rfl) (pv 2) (fun _ _ => rfl)) (pe_ix ix_tup (pv 1) pe_int (fun _ _ => rfl)) (fun _ _ => rfl)) (fun _ _ => rfl))))
    pss_nil)
    (pss_cons (ps_if (pt_cmpR op_eq (pv 5) pe_str (nomark _))
    (pss_one (ps_ret (pe_callB (call_min2 rfl) (by rfl) T.f_min (by decide +kernel) (pa_cons pe_int (pa_cons (pe_ix ix_tup (pe_ix ix_tup (pe_ix ix_tup (pv 4) pe_int (fun _ _ => rfl)) (pv 2) (fun _ _ => rfl)) (pe_dget hu (pe_fld (pv 0) rfl) (pe_ix ix_tup (pv 1) pe_int (fun _ _ => rfl)) (fun _ _ => rfl)) (fun _ _ => rfl)) pa_nil)))))
    pss_nil)
    (pss_cons (ps_if (pt_cmpR op_eq (pv 5) pe_str (nomark _))
    (pss_one (ps_ret (pe_callB (call_min2 rfl) (by rfl) T.f_min (by decide +kernel) (pa_cons pe_int (pa_cons (pe_ix ix_tup (pe_ix ix_tup (pv 4) pe_int (fun _ _ => rfl)) (pe_dget hu (pe_fld (pv 0) rfl) (pe_ix ix_tup (pv 1) pe_int (fun _ _ => rfl)) (fun _ _ => rfl)) (fun _ _ => rfl)) pa_nil)))))
    pss_nil)
    (pss_cons (ps_set (i := 6) sc_Engine_value.nd rfl (Or.inl rfl) (pe_mt m_Engine_value hr (Nat.le_refl _) (pv 0) (pa_cons (pe_ix ix_tup (pv 1) pe_int (fun _ _ => rfl)) (pa_cons (pv 2) (pa_cons (pv 3) (pa_cons (pv 4) pa_nil))))))
    (pss_one (ps_ret (pe_c c_combine hr (by omega) rfl (pa_cons (pv 5) (pa_cons (pv 6) (pa_cons (pe_mt m_Engine_value hr (Nat.le_refl _) (pv 0) (pa_cons (pe_ix ix_tup (pv 1) pe_int (fun _ _ => rfl)) (pa_cons (pv 2) (pa_cons (pv 3) (pa_cons (pv 4) pa_nil))))) pa_nil))))))))))))), ?_⟩
    cases e with
    | num i =>
      obtain ⟨y, xs, rfl, hy, hx⟩ := Rp.tupE (show Rp H ve (.tuple [.str "number", .int i]) from hve)
      obtain ⟨w1, r1, rfl, h1, hx⟩ := Rps.consE hx
      obtain ⟨w2, r2, rfl, h2, hx⟩ := Rps.consE hx
      obtain rfl := Rps.nilE hx
      obtain rfl := h1.strE
      obtain rfl := h2.intE
      refine ⟨_, rfl, y, _, 0, _, rfl, rfl, SqT.tp hy, rfl, ?_⟩
      refine ⟨_, rfl, rfl, _, rfl, ifY (by decide +kernel) ?_⟩
      exact ⟨_, rfl, y, _, 1, _, rfl, rfl, SqT.tp hy, rfl, q H (Same.refl H)⟩
    | var =>
      obtain ⟨y, xs, rfl, hy, hx⟩ := Rp.tupE (show Rp H ve (.tuple [.str "variable", .str "x"]) from hve)
      obtain ⟨w1, s1, rfl, h1, hx⟩ := Rps.consE hx
      obtain ⟨w2, s2, rfl, h2, hx⟩ := Rps.consE hx
      obtain rfl := Rps.nilE hx
      obtain rfl := h1.strE
      obtain rfl := h2.strE
      have hv1 : (h.cc b).hv = true := ok
      have ev := HH.vals_at hb G
      rw [if_pos hv1] at ev
      obtain ⟨pr, m1, m2⟩ := Rps.row k1 ev
      obtain ⟨pq, m3, m4⟩ := (z9 ci b hb).pl
      refine ⟨_, rfl, y, _, 0, _, rfl, rfl, SqT.tp hy, rfl, ?_⟩
      refine ⟨_, rfl, rfl, _, rfl, ifN (by decide +kernel) ?_⟩
      refine ⟨_, rfl, rfl, _, rfl, ifN (by decide +kernel) ?_⟩
      refine ⟨_, rfl, rfl, _, rfl, ifY (by decide +kernel) ?_⟩
      refine ⟨_, rfl, a, _, 0, _, rfl, rfl, SqT.tp ha, rfl, _, rfl, p1, _, _, _, rfl, rfl, SqT.tp g1, atI_nat m1, ?_⟩
      refine ⟨_, rfl, en, _, dx, _, _, rfl, z1, T.cl_Engine, T.na_Engine_places, fEngine_places, _, rfl, aPl, _, _, _, rfl, rfl, SqL.of z4, atI_nat m3, _, rfl, y, _, 1, _, rfl, rfl, SqT.tp hy, rfl, pq, _, rfl, .inl ⟨_, .inr "x", .of m4, rfl, (lookX hv1).symm⟩, ?_⟩
      exact ⟨pr, _, _, _, rfl, rfl, SqT.tp m2, atI_nat rfl, q H (Same.refl H)⟩
    | given =>
      obtain ⟨y, xs, rfl, hy, hx⟩ := Rp.tupE (show Rp H ve (.tuple [.str "given"]) from hve)
      obtain ⟨w1, s1, rfl, h1, hx⟩ := Rps.consE hx
      obtain rfl := Rps.nilE hx
      obtain rfl := h1.strE
      refine ⟨_, rfl, y, _, 0, _, rfl, rfl, SqT.tp hy, rfl, ?_⟩
      refine ⟨_, rfl, rfl, _, rfl, ifN (by decide +kernel) ?_⟩
      refine ⟨_, rfl, rfl, _, rfl, ifY (by decide +kernel) ?_⟩
      exact ⟨_, rfl, q H (Same.refl H)⟩
    | hav =>
      obtain ⟨y, xs, rfl, hy, hx⟩ := Rp.tupE (show Rp H ve (.tuple [.str "have", .str (asN b)]) from hve)
      obtain ⟨w1, s1, rfl, h1, hx⟩ := Rps.consE hx
      obtain ⟨w2, s2, rfl, h2, hx⟩ := Rps.consE hx
      obtain rfl := Rps.nilE hx
      obtain rfl := h1.strE
      obtain rfl := h2.strE
      obtain ⟨pr, m1, m2⟩ := Rps.row k2 (HH.amts_at hb G)
      refine ⟨_, rfl, y, _, 0, _, rfl, rfl, SqT.tp hy, rfl, ?_⟩
      refine ⟨_, rfl, rfl, _, rfl, ifN (by decide +kernel) ?_⟩
      refine ⟨_, rfl, rfl, _, rfl, ifN (by decide +kernel) ?_⟩
      refine ⟨_, rfl, rfl, _, rfl, ifN (by decide +kernel) ?_⟩
      refine ⟨_, rfl, rfl, _, rfl, ifY (by decide +kernel) ?_⟩
      refine ⟨_, rfl, a, _, 1, _, rfl, rfl, SqT.tp ha, rfl, _, rfl, p2, _, _, _, rfl, rfl, SqT.tp g2, atI_nat m1, ?_⟩
      refine ⟨_, rfl, en, _, dx, _, _, rfl, z1, T.cl_Engine, T.na_Engine_assets, fEngine_assets, _, rfl, y, _, 1, _, rfl, rfl, SqT.tp hy, rfl, aA, _, rfl, .inl ⟨_, .inr (asN b), .of z3, rfl, lookA.symm⟩, ?_⟩
      exact ⟨pr, _, _, _, rfl, rfl, SqT.tp m2, atI_nat (amt_at b _), _, _, rfl, q H (Same.refl H)⟩
    | out =>
      obtain ⟨y, xs, rfl, hy, hx⟩ := Rp.tupE (show Rp H ve (.tuple [.str "out", .str (asN b)]) from hve)
      obtain ⟨w1, s1, rfl, h1, hx⟩ := Rps.consE hx
      obtain ⟨w2, s2, rfl, h2, hx⟩ := Rps.consE hx
      obtain rfl := Rps.nilE hx
      obtain rfl := h1.strE
      obtain rfl := h2.strE
      refine ⟨_, rfl, y, _, 0, _, rfl, rfl, SqT.tp hy, rfl, ?_⟩
      refine ⟨_, rfl, rfl, _, rfl, ifN (by decide +kernel) ?_⟩
      refine ⟨_, rfl, rfl, _, rfl, ifN (by decide +kernel) ?_⟩
      refine ⟨_, rfl, rfl, _, rfl, ifN (by decide +kernel) ?_⟩
      refine ⟨_, rfl, rfl, _, rfl, ifN (by decide +kernel) ?_⟩
      refine ⟨_, rfl, rfl, _, rfl, ifY (by decide +kernel) ?_⟩
      refine ⟨_, rfl, a, _, 2, _, rfl, rfl, SqT.tp ha, rfl, ?_⟩
      refine ⟨_, rfl, en, _, dx, _, _, rfl, z1, T.cl_Engine, T.na_Engine_assets, fEngine_assets, _, rfl, y, _, 1, _, rfl, rfl, SqT.tp hy, rfl, aA, _, rfl, .inl ⟨_, .inr (asN b), .of z3, rfl, lookA.symm⟩, ?_⟩
      exact ⟨p3, _, _, _, rfl, rfl, SqT.tp g3, atI_nat (out_at b G), _, _, rfl, q H (Same.refl H)⟩
    | op sg l r =>
      obtain ⟨y, xs, rfl, hy, hx⟩ := Rp.tupE (show Rp H ve (.tuple [.str sg.str, l.d b, r.d b]) from hve)
      obtain ⟨w1, s1, rfl, h1, hx⟩ := Rps.consE hx
      obtain ⟨w2, s2, rfl, h2, hx⟩ := Rps.consE hx
      obtain ⟨w3, s3, rfl, h3, hx⟩ := Rps.consE hx
      obtain rfl := Rps.nilE hx
      obtain rfl := h1.strE
      obtain ⟨n1, n2, n3, n4, n5⟩ := sg_no sg
      have hd' : max l.dep r.dep + 1 < n + 1 := hd
      obtain ⟨okl, okr⟩ : l.ok (h.cc b).hv ∧ r.ok (h.cc b).hv := ok
      refine ⟨_, rfl, y, _, 0, _, rfl, rfl, SqT.tp hy, rfl, ?_⟩
      refine ⟨_, rfl, rfl, _, rfl, ifN n3 ?_⟩
      refine ⟨_, rfl, rfl, _, rfl, ifN n4 ?_⟩
      refine ⟨_, rfl, rfl, _, rfl, ifN n5 ?_⟩
      refine ⟨_, rfl, rfl, _, rfl, ifN n1 ?_⟩
      refine ⟨_, rfl, rfl, _, rfl, ifN n2 ?_⟩
      refine ⟨_, rfl, en, dx, _, rfl, z1, fEngine_no_value, _, rfl, y, _, 1, _, rfl, rfl, SqT.tp hy, rfl, _, rfl, _, rfl, _, rfl, ?_⟩
      refine ⟨en, h, ln, pn, w2, .ref a, b, l, ci, g, G, rfl, heng, h2, okl, by omega, hb, hg, hpos, hv, fun H1 e1 => ?_⟩
      refine ⟨_, rfl, _, rfl, _, rfl, en, dx, _, rfl, e1 _ _ z1, fEngine_no_value, _, rfl, y, _, 2, _, rfl, rfl, SqT.tp (e1 _ _ hy), rfl, _, rfl, _, rfl, _, rfl, ?_⟩
      refine ⟨en, h, ln, pn, w3, .ref a, b, r, ci, g, G, rfl, heng.to e1, h3.to e1, okr, by omega, hb, hg, hpos, hv.to e1, fun H2 e2 => ?_⟩
      exact ⟨sg, _, _, rfl, Ex.ev_ok hg hpos l okl, Ex.ev_ok hg hpos r okr, q H2 (e1.trans e2)⟩
end
end Nc

-- D12
set_option maxHeartbeats 4000000
namespace Nc
open PySem L2 C8
theorem cut_last {xs : List V} {z : V} : cutV (xs ++ [z]) none (some (-1)) = xs := by
  unfold cutV HT.sIx
  have l : (xs ++ [z]).length = xs.length + 1 := by rw [List.length_append]; rfl
  rw [l]
  show ((xs ++ [z]).drop 0).take ((if (-1 : Int) < 0 then ((-1 : Int) + ((xs.length + 1 : Nat) : Int)).toNat else min (-1 : Int).toNat (xs.length + 1)) - 0) = xs
  rw [if_pos (by decide), List.drop_zero]
  have e : ((-1 : Int) + ((xs.length + 1 : Nat) : Int)).toNat - 0 = xs.length := by omega
  rw [e, List.take_left']
  rfl
theorem at_last {xs : List V} {z : V} : atI (xs ++ [z]) (-1) = some z := by
  unfold atI ixN
  have l : (xs ++ [z]).length = xs.length + 1 := by rw [List.length_append]; rfl
  rw [l, if_neg (by decide), if_pos (by omega)]
  have e : ((-1 : Int) + ((xs.length + 1 : Nat) : Int)).toNat = xs.length := by omega
  show (xs ++ [z])[_]? = some z
  rw [e, List.getElem?_append_right (Nat.le_refl _), Nat.sub_self]
  rfl
theorem set_self {α : Type} {xs : List α} {i : Nat} {a : α} (h : xs[i]? = some a) : xs.set i a = xs := by
  obtain ⟨hl, e⟩ := List.getElem?_eq_some_iff.mp h
  rw [← e, List.set_getElem_self]
theorem Rps.snocE {H : Hp} {d : PyData} : ∀ {ds : List PyData} {vs : List V}, Rps H vs (ds ++ [d]) → ∃ ws z, vs = ws ++ [z] ∧ Rps H ws ds ∧ Rp H z d
  | [], vs, h => by
    obtain ⟨v, r, rfl, h1, h2⟩ := Rps.consE h
    obtain rfl := Rps.nilE h2
    exact ⟨[], v, rfl, .nil, h1⟩
  | e :: ds, vs, h => by
    obtain ⟨v, r, rfl, h1, h2⟩ := Rps.consE h
    obtain ⟨ws, z, rfl, h3, h4⟩ := Rps.snocE h2
    exact ⟨v :: ws, z, rfl, .cons h1 h3, h4⟩
section
variable {P : Program} {w : World} {K : PySem.W.Frag} {mg : Str → Option Value} {base : Heap}
/-! ### stored -/
abbrev N_Engine_stored : List Str := ["self", "state", "contract", "name", "value", "place", "row"]
theorem sc_Engine_stored : FnScope N_Engine_stored ["self", "state", "contract", "name", "value"] (defScope s_Engine_stored) := ⟨rfl, rfl, rfl, by decide +kernel, rfl, by decide +kernel, by decide +kernel⟩
def Lo.setx (l : Lo) (x : Int) : Lo := { l with x := x }
def spStored (K : PySem.W.Frag) : Sp := fun vs H Q _ => ∃ (en : Addr) (h : HH) (ln pn : List V) (v : V) (b : Bool) (ci : Nat) (m : Int) (G : GG), vs = [.ref en, v, .int (ci : Int), .str "x", .int m] ∧ EngAt K H en h ln pn ∧ (h.cc b).hv = true ∧ (h.cc b).fit ∧ h.pres[ci]? = some b ∧ Rp H v (h.dS G) ∧
  ∀ p H', Same H H' → Rp H' p (h.dS (gset G b ((gat G b).setx (m % (h.cc b).size)))) → Q p H'
theorem ok_stored (T : Tx K mg) : Met P w K mg base 2 (He.ga K "Engine") "stored" (spStored K) [] := by
  have c_put : Cal P w K mg base 1 "put" spPut [] := ok_put T
  refine met_of T 16 rfl T.cl_Engine T.me_Engine_stored sc_Engine_stored (fun _ _ _ _ _ _ us hl => match us, hl with | [_, _, _, _, _], _ => rfl) (fun vs H Q E h => ?_) (fun cdv A outer s H vs Q E hr h => ?_)
  · obtain ⟨_, _, _, _, _, _, _, _, _, rfl, _⟩ := h
    rfl
  obtain ⟨en, h, ln, pn, v, b, ci, m, G, rfl, heng, hv1, fit, hb, hv, q⟩ := h
  obtain ⟨dx, eh, aA, aC, aP, aPl, aS, aL, aPa, aB, pls, szs, bo, z1, z2, z3, z4, z5, z6, z7, z8, z9⟩ := heng.ex
  obtain ⟨a, v1, v2, v3, p1, p2, p3, r1, r2, rfl, ha, rfl, rfl, rfl, g1, g2, g3, k1, k2, b1, b2, b3⟩ := HH.dSE hv
  have hu := hu_of hr
  have ev := HH.vals_at hb G
  rw [if_pos hv1] at ev
  obtain ⟨pr, m1, m2⟩ := Rps.row k1 ev
  obtain ⟨pq, m3, m4⟩ := (z9 ci b hb).pl
  obtain ⟨ps, m5, m6⟩ := (z9 ci b hb).sz
  rw [if_pos hv1] at m6
  have hs := CC.size_ok fit
  refine ⟨_, (pss_cons (ps_set (i := 5) sc_Engine_stored.nd rfl (Or.inl rfl) (pe_dget hu (pe_ix ix_list (pe_fld (pv 0) rfl) (pv 2) (fun _ _ => rfl)) (pv 3) (fun _ _ => rfl)))
    (pss_cons (ps_set (i := 6) sc_Engine_stored.nd rfl (Or.inl rfl) (pe_c c_put hr (by decide) rfl (pa_cons (pe_ix ix_tup (pe_ix ix_tup (pv 1) pe_int (fun _ _ => rfl)) (pv 2) (fun _ _ => rfl)) (pa_cons (pv 5) (pa_cons (pe_op op_mod (pv 4) (pe_ix ix_list (pe_ix ix_list (pe_fld (pv 0) rfl) (pv 2) (fun _ _ => rfl)) (pv 5) (fun _ _ => rfl))) pa_nil)))))
    (pss_one (ps_ret (pe_tup (pa_cons (pe_c c_put hr (by decide) rfl (pa_cons (pe_ix ix_tup (pv 1) pe_int (fun _ _ => rfl)) (pa_cons (pv 2) (pa_cons (pv 6) pa_nil)))) (pa_cons (pe_ix ix_tup (pv 1) pe_int (fun _ _ => rfl)) (pa_cons (pe_ix ix_tup (pv 1) pe_int (fun _ _ => rfl)) pa_nil)))))))), ?_⟩
  refine ⟨_, rfl, en, _, dx, _, _, rfl, z1, T.cl_Engine, T.na_Engine_places, fEngine_places, _, rfl, aPl, _, _, _, rfl, rfl, SqL.of z4, atI_nat m3, _, rfl, pq, _, rfl, .inl ⟨_, .inr "x", .of m4, rfl, (lookX hv1).symm⟩, ?_⟩
  refine ⟨_, rfl, a, _, 0, _, rfl, rfl, SqT.tp ha, rfl, _, rfl, p1, _, _, _, rfl, rfl, SqT.tp g1, atI_nat m1, _, rfl, _, rfl, ?_⟩
  refine ⟨_, rfl, en, _, dx, _, _, rfl, z1, T.cl_Engine, T.na_Engine_sizes, fEngine_sizes, _, rfl, aS, _, _, _, rfl, rfl, SqL.of z5, atI_nat m5, _, rfl, ps, _, _, _, rfl, rfl, SqL.of m6, atI_nat (j := 0) rfl, _, _, rfl, rfl, by omega, ?_⟩
  refine ⟨pr, _, 0, _, rfl, m2, (show 0 < 1 by decide), (show 1 ≤ 1000 by decide), fun c1 H1 s1 h1 => ?_⟩
  have lp := lt_of_get m1
  have l2 : r1.length ≤ 2 := by rw [Rps.length k1, List.length_map, HH.vals_len]; exact h.pres_len
  refine ⟨_, rfl, a, _, 0, _, rfl, rfl, SqT.tp (s1 _ _ ha), rfl, _, rfl, _, rfl, p1, r1, ci, _, rfl, s1 _ _ g1, lp, by omega, fun c2 H2 s2 h2 => ?_⟩
  have s12 := s1.trans s2
  refine ⟨_, rfl, a, _, 1, _, rfl, rfl, SqT.tp (s12 _ _ ha), rfl, _, rfl, a, _, 2, _, rfl, rfl, SqT.tp (s12 _ _ ha), rfl, by show 3 ≤ sizeLine; decide, fun p hp => ?_⟩
  have sp := s12.trans (same_new hp (.tup [.ref c2, .ref p2, .ref p3]))
  refine q _ _ sp (.tup upd_same (.cons (.tup (same_new hp _ _ _ h2) ?_) (.cons ?_ (.cons ?_ .nil))))
  · rw [← HH.vals_set hb, if_pos hv1, ← map_set]
    have r1' : Rp H1 (.ref c1) (dI [m % (h.cc b).size]) := Rp.dI h1
    exact Rps.set (r1'.to (s2.trans (same_new hp _))) ci (k1.to sp)
  · have e : h.amts (gset G b ((gat G b).setx (m % (h.cc b).size))) = h.amts G := by
      rw [← HH.amts_set hb]
      show (h.amts G).set ci (amt b (gat G b).a) = h.amts G
      exact set_self (HH.amts_at hb G)
    rw [e]
    exact b2.to sp
  · have e : ([(gset G b ((gat G b).setx (m % (h.cc b).size))).1.o, (gset G b ((gat G b).setx (m % (h.cc b).size))).2.o] : List Int) = [G.1.o, G.2.o] := by cases b <;> rfl
    rw [e]
    exact b3.to sp
end
end Nc

-- D13
set_option maxHeartbeats 4000000
namespace Nc
open PySem L2 C8
theorem set_app_l {α : Type} {xs : List α} {z r : α} {i : Nat} (h : i < xs.length) : (xs ++ [z]).set i r = xs.set i r ++ [z] := List.set_append_left i r h
theorem set_app_r {α : Type} {xs : List α} {z r : α} : (xs ++ [z]).set xs.length r = xs ++ [r] := by
  rw [List.set_append_right xs.length r (Nat.le_refl _), Nat.sub_self]
  rfl
theorem get_app_r {α : Type} {xs : List α} {z : α} : (xs ++ [z])[xs.length]? = some z := by
  rw [List.getElem?_append_right (Nat.le_refl _), Nat.sub_self]
  rfl
def kB (b : Bool) : Nat := if b then 1 else 0
theorem amt_get (b : Bool) (i : Int) : (amt b i)[kB b]? = some i := by cases b <;> rfl
theorem amt_put (b : Bool) (i j : Int) : (amt b i).set (kB b) j = amt b j := by cases b <;> rfl
theorem ob_get (b : Bool) (g : GG) : (ob g)[kB b]? = some (gat g b).o := by cases b <;> rfl
theorem ob_put (b : Bool) (g : GG) (l : Lo) : (ob g).set (kB b) l.o = ob (gset g b l) := by cases b <;> rfl
def Lo.give (l : Lo) (m : Int) : Lo := { l with a := l.a - m, o := l.o + m }
def Lo.get (l : Lo) (m : Int) : Lo := { l with a := l.a + m, o := l.o - m }
section
variable {P : Program} {w : World} {K : PySem.W.Frag} {mg : Str → Option Value} {base : Heap}
/-! ### paid -/
abbrev N_Engine_paid : List Str := ["self", "state", "payer", "payee", "asset", "amount", "last", "row"]
theorem sc_Engine_paid : FnScope N_Engine_paid ["self", "state", "payer", "payee", "asset", "amount"] (defScope s_Engine_paid) := ⟨rfl, rfl, rfl, by decide +kernel, rfl, by decide +kernel, by decide +kernel⟩
def spPaid (K : PySem.W.Frag) : Sp := fun vs H Q _ => ∃ (en : Addr) (h : HH) (ln pn : List V) (v : V) (b : Bool) (ci : Nat) (m : Int) (G : GG) (gv : Bool), vs = [.ref en, v, .int (if gv then (ci : Int) else -1), .int (if gv then -1 else (ci : Int)), .str (asN b), .int m] ∧ EngAt K H en h ln pn ∧ h.pres[ci]? = some b ∧ Rp H v (h.dS G) ∧
  ((if gv then (gat G b).a < m else (gat G b).o < m) → ∀ H', Same H H' → Q .non H') ∧ (¬ (if gv then (gat G b).a < m else (gat G b).o < m) → ∀ p H', Same H H' → Rp H' p (h.dS (gset G b (if gv then (gat G b).give m else (gat G b).get m))) → Q p H')
theorem ok_paid (T : Tx K mg) : Met P w K mg base 3 (He.ga K "Engine") "paid" (spPaid K) [] := by
  have c_moved : Cal P w K mg base 2 "moved" spMoved [] := ok_moved T
  refine met_of T 17 rfl T.cl_Engine T.me_Engine_paid sc_Engine_paid (fun _ _ _ _ _ _ us hl => match us, hl with | [_, _, _, _, _, _], _ => rfl) (fun vs H Q E h => ?_) (fun cdv A outer s H vs Q E hr h => ?_)
  · obtain ⟨_, _, _, _, _, _, _, _, _, _, rfl, _⟩ := h
    rfl
  obtain ⟨en, h, ln, pn, v, b, ci, m, G, gv, rfl, heng, hb, hv, q1, q2⟩ := h
  obtain ⟨dx, eh, aA, aC, aP, aPl, aS, aL, aPa, aB, pls, szs, bo, z1, z2, z3, z4, z5, z6, z7, z8, z9⟩ := heng.ex
  obtain ⟨a, v1, v2, v3, p1, p2, p3, r1, r2, rfl, ha, rfl, rfl, rfl, g1, g2, g3, k1, k2, b1, b2, b3⟩ := HH.dSE hv
  have hu := hu_of hr
  have hcl : ci < (h.amts G).length := lt_of_get (HH.amts_at hb G)
  have lr2 : r2.length = (h.amts G).length := by rw [Rps.length k2, List.length_map]
  have l2 : (h.amts G).length ≤ 2 := by rw [HH.amts_len]; exact h.pres_len
  refine ⟨_, (pss_cons (ps_set (i := 6) sc_Engine_paid.nd rfl (Or.inl rfl) (pe_callB call_len_seq (by rfl) T.f_len (by decide +kernel) (pa_cons (pe_ix ix_tup (pv 1) pe_int (fun _ _ => rfl)) pa_nil)))
    (pss_cons (ps_set (i := 2) sc_Engine_paid.nd rfl (Or.inl rfl) (pe_ifExp (pt_cmpR op_lt (pv 2) pe_int (nomark _)) (pv 6) (pv 2)))
    (pss_cons (ps_set (i := 3) sc_Engine_paid.nd rfl (Or.inl rfl) (pe_ifExp (pt_cmpR op_lt (pv 3) pe_int (nomark _)) (pv 6) (pv 3)))
    (pss_cons (ps_set (i := 7) sc_Engine_paid.nd rfl (Or.inl rfl) (pe_c c_moved hr (by decide) rfl (pa_cons (pe_op op_catA (pe_ix ix_tup (pv 1) pe_int (fun _ _ => rfl)) (pe_tup (pa_cons (pe_ix ix_tup (pv 1) pe_int (fun _ _ => rfl)) pa_nil))) (pa_cons (pe_dget hu (pe_fld (pv 0) rfl) (pv 4) (fun _ _ => rfl)) (pa_cons (pv 2) (pa_cons (pv 3) (pa_cons (pv 5) pa_nil)))))))
    (pss_cons (ps_if (pt_cmpR op_isN (pv 7) pe_non (nomark _))
    (pss_one (ps_ret pe_non))
    pss_nil)
    (pss_one (ps_ret (pe_tup (pa_cons (pe_ix ix_tup (pv 1) pe_int (fun _ _ => rfl)) (pa_cons (pe_slice sl_tupA (pv 7) po_none (po_some (pe_un un_neg pe_int))) (pa_cons (pe_ix ix_tup (pv 7) (pe_un un_neg pe_int) (fun _ _ => rfl)) pa_nil))))))))))), ?_⟩
  refine ⟨_, rfl, a, _, 1, _, rfl, rfl, SqT.tp ha, rfl, p2, r2, rfl, .inr (SqT.tp g2), ?_⟩
  -- behind the payment
  have tail : ∀ (l' : Lo) (u : V) (H' : Hp), Same H H' → l'.x = (gat G b).x → Rp H' u (dII (h.amts (gset G b l') ++ [ob (gset G b l')])) → (∀ p H'', Same H H'' → Rp H'' p (h.dS (gset G b l')) → Q p H'') → ∃ a' xs z, u = .ref a' ∧ H' a' = some (.tup (xs ++ [z])) ∧ ∀ (c' : Addr) (H'' : Hp), Same H' H'' → H'' c' = some (.tup xs) → ∀ p, H'' p = none → Q (.ref p) (upd H'' p (.tup [.ref p1, .ref c', z])) := by
    intro l' u H' s1 ex hu' q
    obtain ⟨a', ys, rfl, ha', hys⟩ := Rp.dIIE hu'
    rw [List.map_append] at hys
    obtain ⟨xs, z, rfl, hx, hz⟩ := Rps.snocE hys
    refine ⟨a', xs, z, rfl, ha', fun c' H'' s2 hc' p hp => q _ _ ((s1.trans s2).trans (same_new hp _)) (.tup upd_same (.cons ?_ (.cons (.tup (same_new hp _ _ _ hc') ?_) (.cons ?_ .nil))))⟩
    · have e : h.vals (gset G b l') = h.vals G := by
        rw [← HH.vals_set hb, ex]
        exact set_self (HH.vals_at hb G)
      rw [e]
      exact b1.to ((s1.trans s2).trans (same_new hp _))
    · exact hx.to (s2.trans (same_new hp _))
    · exact hz.to (s2.trans (same_new hp _))
  cases gv with
  | true =>
    have hlt : ¬ ((ci : Int) < 0) := by omega
    refine ⟨_, rfl, _, _, rfl, rfl, _, rfl, ifN hlt ?_⟩
    refine ⟨_, rfl, ?_⟩
    refine ⟨_, rfl, _, _, rfl, rfl, _, rfl, ifY (show (-1 : Int) < 0 by decide) ?_⟩
    refine ⟨_, rfl, ?_⟩
    refine ⟨_, rfl, a, _, 1, _, rfl, rfl, SqT.tp ha, rfl, _, rfl, a, _, 2, _, rfl, rfl, SqT.tp ha, rfl, (by show 1 ≤ sizeLine; decide), fun t ht => catA (same_new ht _ _ _ g2) upd_same (by show r2.length + 1 ≤ _; omega) fun c1 H1 s1 h1 => ?_⟩
    have s01 := (same_new ht (.tup [.ref p3])).trans s1
    refine ⟨_, rfl, en, _, dx, _, _, rfl, s01 _ _ z1, T.cl_Engine, T.na_Engine_assets, fEngine_assets, _, rfl, aA, _, rfl, .inl ⟨_, .inr (asN b), .of (s01 _ _ z3), rfl, lookA.symm⟩, _, rfl, _, rfl, _, rfl, ?_⟩
    have rs : Rp H1 (.ref c1) (dII (h.amts G ++ [ob G])) := .tup h1 (by rw [List.map_append]; exact (k2.to s01).append (.cons (b3.to s01) .nil))
    refine ⟨.ref c1, h.amts G ++ [ob G], kB b, ci, r2.length, m, amt b (gat G b).a, ob G, (gat G b).a, (gat G b).o, rfl, rs, by rw [List.length_append]; show _ + 1 ≤ 100; omega, (by cases b <;> exact (show 2 ≤ 100 by decide)), (show 2 ≤ 100 by decide), get_app (HH.amts_at hb G), amt_get b _, ?_, ob_get b G, fun hlt2 => ?_, fun hlt2 u H2 s2 hu2 => ?_⟩
    · rw [lr2, set_app_l hcl]
      have := get_app_r (xs := (h.amts G).set ci ((amt b (gat G b).a).set (kB b) ((gat G b).a - m))) (z := ob G)
      rw [List.length_set] at this
      exact this
    · refine ⟨_, rfl, rfl, _, rfl, ifY rfl ?_⟩
      exact q1 hlt2 H1 s01
    · have e : ((h.amts G ++ [ob G]).set ci ((amt b (gat G b).a).set (kB b) ((gat G b).a - m))).set r2.length ((ob G).set (kB b) ((gat G b).o + m)) = h.amts (gset G b ((gat G b).give m)) ++ [ob (gset G b ((gat G b).give m))] := by
        rw [set_app_l hcl, amt_put, lr2]
        have e1 : (h.amts G).length = ((h.amts G).set ci (amt b ((gat G b).a - m))).length := by rw [List.length_set]
        rw [e1, set_app_r]
        show (h.amts G).set ci (amt b ((gat G b).give m).a) ++ [(ob G).set (kB b) ((gat G b).give m).o] = _
        rw [HH.amts_set hb, ob_put]
      rw [e] at hu2
      obtain ⟨a', xs, z, rfl, ha', fin⟩ := tail ((gat G b).give m) _ _ (s01.trans s2) rfl hu2 (q2 hlt2)
      refine ⟨_, rfl, rfl, _, rfl, ifN (fun z => nomatch z) ?_⟩
      have s02 := s01.trans s2
      refine ⟨_, rfl, a, _, 0, _, rfl, rfl, SqT.tp (s02 _ _ ha), rfl, _, rfl, _, rfl, _, rfl, ?_⟩
      dsimp only [tNoPart]
      refine slA ha' fun c2 H3 s3 h3 => ?_
      rw [cut_last] at h3
      exact ⟨_, rfl, _, rfl, a', _, _, _, rfl, rfl, SqT.tp (s3 _ _ ha'), at_last, (by show 3 ≤ sizeLine; decide), fin c2 H3 s3 h3⟩
  | false =>
    have hlt : ¬ ((ci : Int) < 0) := by omega
    refine ⟨_, rfl, _, _, rfl, rfl, _, rfl, ifY (show (-1 : Int) < 0 by decide) ?_⟩
    refine ⟨_, rfl, ?_⟩
    refine ⟨_, rfl, _, _, rfl, rfl, _, rfl, ifN hlt ?_⟩
    refine ⟨_, rfl, ?_⟩
    refine ⟨_, rfl, a, _, 1, _, rfl, rfl, SqT.tp ha, rfl, _, rfl, a, _, 2, _, rfl, rfl, SqT.tp ha, rfl, (by show 1 ≤ sizeLine; decide), fun t ht => catA (same_new ht _ _ _ g2) upd_same (by show r2.length + 1 ≤ _; omega) fun c1 H1 s1 h1 => ?_⟩
    have s01 := (same_new ht (.tup [.ref p3])).trans s1
    refine ⟨_, rfl, en, _, dx, _, _, rfl, s01 _ _ z1, T.cl_Engine, T.na_Engine_assets, fEngine_assets, _, rfl, aA, _, rfl, .inl ⟨_, .inr (asN b), .of (s01 _ _ z3), rfl, lookA.symm⟩, _, rfl, _, rfl, _, rfl, ?_⟩
    have rs : Rp H1 (.ref c1) (dII (h.amts G ++ [ob G])) := .tup h1 (by rw [List.map_append]; exact (k2.to s01).append (.cons (b3.to s01) .nil))
    have gl := get_app_r (xs := h.amts G) (z := ob G)
    rw [← lr2] at gl
    have es : (h.amts G ++ [ob G]).set r2.length ((ob G).set (kB b) ((gat G b).o - m)) = h.amts G ++ [(ob G).set (kB b) ((gat G b).o - m)] := by rw [lr2, set_app_r]
    refine ⟨.ref c1, h.amts G ++ [ob G], kB b, r2.length, ci, m, ob G, amt b (gat G b).a, (gat G b).o, (gat G b).a, rfl, rs, by rw [List.length_append]; show _ + 1 ≤ 100; omega, (show 2 ≤ 100 by decide), (by cases b <;> exact (show 2 ≤ 100 by decide)), gl, ob_get b G, ?_, amt_get b _, fun hlt2 => ?_, fun hlt2 u H2 s2 hu2 => ?_⟩
    · rw [es]
      exact get_app (HH.amts_at hb G)
    · refine ⟨_, rfl, rfl, _, rfl, ifY rfl ?_⟩
      exact q1 hlt2 H1 s01
    · have e : ((h.amts G ++ [ob G]).set r2.length ((ob G).set (kB b) ((gat G b).o - m))).set ci ((amt b (gat G b).a).set (kB b) ((gat G b).a + m)) = h.amts (gset G b ((gat G b).get m)) ++ [ob (gset G b ((gat G b).get m))] := by
        rw [es, set_app_l hcl, amt_put]
        show (h.amts G).set ci (amt b ((gat G b).get m).a) ++ [(ob G).set (kB b) ((gat G b).get m).o] = _
        rw [HH.amts_set hb, ob_put]
      rw [e] at hu2
      obtain ⟨a', xs, z, rfl, ha', fin⟩ := tail ((gat G b).get m) _ _ (s01.trans s2) rfl hu2 (q2 hlt2)
      refine ⟨_, rfl, rfl, _, rfl, ifN (fun z => nomatch z) ?_⟩
      have s02 := s01.trans s2
      refine ⟨_, rfl, a, _, 0, _, rfl, rfl, SqT.tp (s02 _ _ ha), rfl, _, rfl, _, rfl, _, rfl, ?_⟩
      dsimp only [tNoPart]
      refine slA ha' fun c2 H3 s3 h3 => ?_
      rw [cut_last] at h3
      exact ⟨_, rfl, _, rfl, a', _, _, _, rfl, rfl, SqT.tp (s3 _ _ ha'), at_last, (by show 3 ≤ sizeLine; decide), fin c2 H3 s3 h3⟩
end
end Nc

-- D14
set_option maxHeartbeats 4000000
namespace Nc
open PySem L2 C8
section
variable {P : Program} {w : World} {K : PySem.W.Frag} {mg : Str → Option Value} {base : Heap}
/-! ### done -/
abbrev N_Engine_done : List Str := ["self", "statement", "contract", "given", "state", "kind", "value"]
theorem sc_Engine_done : FnScope N_Engine_done ["self", "statement", "contract", "given", "state"] (defScope s_Engine_done) := ⟨rfl, rfl, rfl, by decide +kernel, rfl, by decide +kernel, by decide +kernel⟩
def spDone (K : PySem.W.Frag) : Sp := fun vs H Q _ => ∃ (en : Addr) (h : HH) (ln pn : List V) (vs' v : V) (b : Bool) (m : Sm) (ci : Nat) (g : Int) (G : GG), vs = [.ref en, vs', .int (ci : Int), .int g, v] ∧ EngAt K H en h ln pn ∧ Rp H vs' (m.d b) ∧ m.fit (h.cc b).hv ∧ (h.cc b).fit ∧ h.pres[ci]? = some b ∧ W16 g ∧ (gat G b).ok (h.cc b) ∧ Rp H v (h.dS G) ∧
  (m.run (h.cc b).size g (gat G b) = none → ∀ H', Same H H' → Q .non H') ∧ (∀ l', m.run (h.cc b).size g (gat G b) = some l' → ∀ p H', Same H H' → Rp H' p (h.dS (gset G b l')) → (∃ a, p = .ref a) → Q p H')
theorem Rp.dS_ref {H : Hp} {v : V} {h : HH} {g : GG} (k : Rp H v (h.dS g)) : ∃ a, v = .ref a := by
  obtain ⟨a, _, e, _⟩ := Rp.tupE k
  exact ⟨a, e⟩
theorem ok_done (T : Tx K mg) : Met P w K mg base 6 (He.ga K "Engine") "done" (spDone K) [] := by
  have m_Engine_value : Met P w K mg base 5 (He.ga K "Engine") "value" (spVal K 4) [] := ok_value T 4
  have m_Engine_stored : Met P w K mg base 2 (He.ga K "Engine") "stored" (spStored K) [] := ok_stored T
  have m_Engine_paid : Met P w K mg base 3 (He.ga K "Engine") "paid" (spPaid K) [] := ok_paid T
  refine met_of T 22 rfl T.cl_Engine T.me_Engine_done sc_Engine_done (fun _ _ _ _ _ _ us hl => match us, hl with | [_, _, _, _, _], _ => rfl) (fun vs H Q E h => ?_) (fun cdv A outer s H vs Q E hr h => ?_)
  · obtain ⟨_, _, _, _, _, _, _, _, _, _, _, rfl, _⟩ := h
    rfl
  obtain ⟨en, h, ln, pn, vs', v, b, m, ci, g, G, rfl, heng, hst, hfit, cfit, hb, hg, hok, hv, q1, q2⟩ := h
  obtain ⟨dx, eh, aA, aC, aP, aPl, aS, aL, aPa, aB, pls, szs, bo, z1, _⟩ := heng.ex
  have hpos := hok.pos cfit
  refine ⟨_, (pss_cons (ps_set (i := 5) sc_Engine_done.nd rfl (Or.inl rfl) (pe_ix ix_tup (pv 1) pe_int (fun _ _ => rfl)))
    (pss_cons (ps_set (i := 6) sc_Engine_done.nd rfl (Or.inl rfl) (pe_mt m_Engine_value hr (by decide) (pv 0) (pa_cons (pe_ix ix_tup (pv 1) (pe_un un_neg pe_int) (fun _ _ => rfl)) (pa_cons (pv 2) (pa_cons (pv 3) (pa_cons (pv 4) pa_nil))))))
    (pss_cons (ps_if (pt_cmpR op_eq (pv 5) pe_str (nomark _))
    (pss_one (ps_ret (pe_mt m_Engine_stored hr (by decide) (pv 0) (pa_cons (pv 4) (pa_cons (pv 2) (pa_cons (pe_ix ix_tup (pv 1) pe_int (fun _ _ => rfl)) (pa_cons (pv 6) pa_nil)))))))
    pss_nil)
    (pss_cons (ps_if (pt_cmpR op_eq (pv 5) pe_str (nomark _))
    (pss_one (ps_ret (pe_mt m_Engine_paid hr (by decide) (pv 0) (pa_cons (pv 4) (pa_cons (pv 2) (pa_cons (pe_un un_neg pe_int) (pa_cons (pe_ix ix_tup (pv 1) pe_int (fun _ _ => rfl)) (pa_cons (pv 6) pa_nil))))))))
    pss_nil)
    (pss_cons (ps_if (pt_cmpR op_eq (pv 5) pe_str (nomark _))
    (pss_one (ps_ret (pe_mt m_Engine_paid hr (by decide) (pv 0) (pa_cons (pv 4) (pa_cons (pe_un un_neg pe_int) (pa_cons (pv 2) (pa_cons (pe_ix ix_tup (pv 1) pe_int (fun _ _ => rfl)) (pa_cons (pv 6) pa_nil))))))))
    pss_nil)
    (pss_cons (ps_if (pt_cmpR op_eq (pv 5) pe_str (nomark _))
    pss_never
    pss_nil)
    (pss_cons (ps_if (pt_cmpR op_eq (pv 6) pe_int (nomark _))
    (pss_one (ps_ret pe_non))
    pss_nil)
    (pss_one (ps_ret (pv 4)))))))))), ?_⟩
  cases m with
  | set e =>
    obtain ⟨y, xs, rfl, hy, hx⟩ := Rp.tupE (show Rp H vs' (.tuple [.str "set", .str "x", e.d b]) from hst)
    obtain ⟨w1, s1, rfl, h1, hx⟩ := Rps.consE hx
    obtain ⟨w2, s2, rfl, h2, hx⟩ := Rps.consE hx
    obtain ⟨w3, s3, rfl, h3, hx⟩ := Rps.consE hx
    obtain rfl := Rps.nilE hx
    obtain rfl := h1.strE
    obtain rfl := h2.strE
    obtain ⟨hvt, ef⟩ : (h.cc b).hv = true ∧ e.fit (h.cc b).hv := hfit
    refine ⟨_, rfl, y, _, 0, _, rfl, rfl, SqT.tp hy, rfl, ?_⟩
    refine ⟨_, rfl, en, dx, _, rfl, z1, fEngine_no_value, _, rfl, _, rfl, y, _, -1, _, rfl, rfl, SqT.tp hy, rfl, _, rfl, _, rfl, _, rfl, ?_⟩
    refine ⟨en, h, ln, pn, w3, v, b, e, ci, g, G, rfl, heng, h3, ef.ok, ef.dep, hb, hg, hpos, hv, fun H1 e1 => ?_⟩
    refine ⟨_, rfl, rfl, _, rfl, ifY (by decide +kernel) ?_⟩
    refine ⟨_, rfl, en, dx, _, rfl, e1 _ _ z1, fEngine_no_stored, _, rfl, _, rfl, _, rfl, y, _, 1, _, rfl, rfl, SqT.tp (e1 _ _ hy), rfl, _, rfl, ?_⟩
    exact ⟨en, h, ln, pn, v, b, ci, _, G, rfl, heng.to e1, hvt, cfit, hb, hv.to e1, fun p H2 e2 k => q2 _ rfl p H2 (e1.trans e2) k (Rp.dS_ref k)⟩
  | need e =>
    obtain ⟨y, xs, rfl, hy, hx⟩ := Rp.tupE (show Rp H vs' (.tuple [.str "need", e.d b]) from hst)
    obtain ⟨w1, s1, rfl, h1, hx⟩ := Rps.consE hx
    obtain ⟨w3, s3, rfl, h3, hx⟩ := Rps.consE hx
    obtain rfl := Rps.nilE hx
    obtain rfl := h1.strE
    have ef : e.fit (h.cc b).hv := hfit
    refine ⟨_, rfl, y, _, 0, _, rfl, rfl, SqT.tp hy, rfl, ?_⟩
    refine ⟨_, rfl, en, dx, _, rfl, z1, fEngine_no_value, _, rfl, _, rfl, y, _, -1, _, rfl, rfl, SqT.tp hy, rfl, _, rfl, _, rfl, _, rfl, ?_⟩
    refine ⟨en, h, ln, pn, w3, v, b, e, ci, g, G, rfl, heng, h3, ef.ok, ef.dep, hb, hg, hpos, hv, fun H1 e1 => ?_⟩
    refine ⟨_, rfl, rfl, _, rfl, ifN (by decide +kernel) ?_⟩
    refine ⟨_, rfl, rfl, _, rfl, ifN (by decide +kernel) ?_⟩
    refine ⟨_, rfl, rfl, _, rfl, ifN (by decide +kernel) ?_⟩
    refine ⟨_, rfl, rfl, _, rfl, ifN (by decide +kernel) ?_⟩
    refine ⟨_, rfl, rfl, _, rfl, ?_⟩
    refine if2 (fun c => ?_) (fun c => ?_)
    · exact q1 (by show (if e.ev g (gat G b) = 0 then none else some (gat G b)) = none; rw [if_pos (V.int.inj c)]) H1 e1
    · refine ⟨_, rfl, q2 (gat G b) (by show (if e.ev g (gat G b) = 0 then none else some (gat G b)) = _; rw [if_neg (fun z => c (by rw [z]))]) v H1 e1 ?_ (Rp.dS_ref hv)⟩
      rw [gset_gat]
      exact hv.to e1
  | give e =>
    obtain ⟨y, xs, rfl, hy, hx⟩ := Rp.tupE (show Rp H vs' (.tuple [.str "give", .str (asN b), e.d b]) from hst)
    obtain ⟨w1, s1, rfl, h1, hx⟩ := Rps.consE hx
    obtain ⟨w2, s2, rfl, h2, hx⟩ := Rps.consE hx
    obtain ⟨w3, s3, rfl, h3, hx⟩ := Rps.consE hx
    obtain rfl := Rps.nilE hx
    obtain rfl := h1.strE
    obtain rfl := h2.strE
    have ef : e.fit (h.cc b).hv := hfit
    refine ⟨_, rfl, y, _, 0, _, rfl, rfl, SqT.tp hy, rfl, ?_⟩
    refine ⟨_, rfl, en, dx, _, rfl, z1, fEngine_no_value, _, rfl, _, rfl, y, _, -1, _, rfl, rfl, SqT.tp hy, rfl, _, rfl, _, rfl, _, rfl, ?_⟩
    refine ⟨en, h, ln, pn, w3, v, b, e, ci, g, G, rfl, heng, h3, ef.ok, ef.dep, hb, hg, hpos, hv, fun H1 e1 => ?_⟩
    refine ⟨_, rfl, rfl, _, rfl, ifN (by decide +kernel) ?_⟩
    refine ⟨_, rfl, rfl, _, rfl, ifY (by decide +kernel) ?_⟩
    refine ⟨_, rfl, en, dx, _, rfl, e1 _ _ z1, fEngine_no_paid, _, rfl, _, rfl, _, rfl, _, rfl, y, _, 1, _, rfl, rfl, SqT.tp (e1 _ _ hy), rfl, _, rfl, ?_⟩
    refine ⟨en, h, ln, pn, v, b, ci, e.ev g (gat G b), G, true, rfl, heng.to e1, hb, hv.to e1, fun c H2 e2 => ?_, fun c p H2 e2 k => ?_⟩
    · exact q1 (if_pos c) H2 (e1.trans e2)
    · exact q2 _ (if_neg c) p H2 (e1.trans e2) k (Rp.dS_ref k)
  | get e =>
    obtain ⟨y, xs, rfl, hy, hx⟩ := Rp.tupE (show Rp H vs' (.tuple [.str "get", .str (asN b), e.d b]) from hst)
    obtain ⟨w1, s1, rfl, h1, hx⟩ := Rps.consE hx
    obtain ⟨w2, s2, rfl, h2, hx⟩ := Rps.consE hx
    obtain ⟨w3, s3, rfl, h3, hx⟩ := Rps.consE hx
    obtain rfl := Rps.nilE hx
    obtain rfl := h1.strE
    obtain rfl := h2.strE
    have ef : e.fit (h.cc b).hv := hfit
    refine ⟨_, rfl, y, _, 0, _, rfl, rfl, SqT.tp hy, rfl, ?_⟩
    refine ⟨_, rfl, en, dx, _, rfl, z1, fEngine_no_value, _, rfl, _, rfl, y, _, -1, _, rfl, rfl, SqT.tp hy, rfl, _, rfl, _, rfl, _, rfl, ?_⟩
    refine ⟨en, h, ln, pn, w3, v, b, e, ci, g, G, rfl, heng, h3, ef.ok, ef.dep, hb, hg, hpos, hv, fun H1 e1 => ?_⟩
    refine ⟨_, rfl, rfl, _, rfl, ifN (by decide +kernel) ?_⟩
    refine ⟨_, rfl, rfl, _, rfl, ifN (by decide +kernel) ?_⟩
    refine ⟨_, rfl, rfl, _, rfl, ifY (by decide +kernel) ?_⟩
    refine ⟨_, rfl, en, dx, _, rfl, e1 _ _ z1, fEngine_no_paid, _, rfl, _, rfl, _, rfl, _, rfl, y, _, 1, _, rfl, rfl, SqT.tp (e1 _ _ hy), rfl, _, rfl, ?_⟩
    refine ⟨en, h, ln, pn, v, b, ci, e.ev g (gat G b), G, false, rfl, heng.to e1, hb, hv.to e1, fun c H2 e2 => ?_, fun c p H2 e2 k => ?_⟩
    · exact q1 (if_pos c) H2 (e1.trans e2)
    · exact q2 _ (if_neg c) p H2 (e1.trans e2) k (Rp.dS_ref k)
/-! ### Pause -/
abbrev N_Pause_init : List Str := ["self", "kind", "state", "pending", "count"]
theorem sc_Pause_init : FnScope N_Pause_init ["self", "kind", "state", "pending", "count"] (defScope s_Pause_init) := ⟨rfl, rfl, rfl, by decide +kernel, rfl, by decide +kernel, by decide +kernel⟩
def spPause (K : PySem.W.Frag) : Sp := fun vs H Q _ => ∃ (e dx : Addr) (k s p c : V), vs = [.ref e, k, s, p, c] ∧ H e = some (.ins (He.ga K "Pause") dx []) ∧ ∀ H', SameX e H H' → H' e = some (.ins (He.ga K "Pause") dx (fPause k s p c)) → Q .non H'
theorem len2 {f g : Str} {v u : V} : ([(f, v), (g, u)] : List (Str × V)).length < 1000 := by show 2 < 1000; decide
theorem len3 {f g h : Str} {v u x : V} : ([(f, v), (g, u), (h, x)] : List (Str × V)).length < 1000 := by show 3 < 1000; decide
theorem len1' {f : Str} {v : V} : ([(f, v)] : List (Str × V)).length < 1000 := by show 1 < 1000; decide
theorem ok_Pause_init (T : Tx K mg) : Mak P w K mg base 1 "Pause" (He.ga K "Pause") (spPause K) [] := by
  refine mak_of T 11 rfl T.g_Pause T.mk_Pause sc_Pause_init (fun _ _ _ _ _ _ us hl => match us, hl with | [_, _, _, _, _], _ => rfl) (fun vs H Q E h => ?_) (fun cdv A outer s H vs Q E hr h => ?_)
  · obtain ⟨_, _, _, _, _, _, rfl, _⟩ := h
    rfl
  obtain ⟨e, dx, k, s, p, c, rfl, he, q⟩ := h
  refine ⟨_, (pss_cons (ps_fld (pv 0) (pv 1) rfl)
    (pss_cons (ps_fld (pv 0) (pv 2) rfl)
    (pss_cons (ps_fld (pv 0) (pv 3) rfl)
    (pss_one (ps_fld (pv 0) (pv 4) rfl))))), ?_⟩
  refine ⟨_, rfl, _, rfl, e, _, _, _, rfl, he, T.cl_Pause, T.na_Pause_kind, len0, ?_⟩
  refine ⟨_, rfl, _, rfl, e, _, _, _, rfl, upd_same, T.cl_Pause, T.na_Pause_state, len1, ?_⟩
  refine ⟨_, rfl, _, rfl, e, _, _, _, rfl, upd_same, T.cl_Pause, T.na_Pause_pending, ?_, ?_⟩
  · rw [gPause_kind, gPause_state]
    exact len2
  refine ⟨_, rfl, _, rfl, e, _, _, _, rfl, upd_same, T.cl_Pause, T.na_Pause_count, ?_, ?_⟩
  · rw [gPause_kind, gPause_state, gPause_pending]
    exact len3
  rw [upd_upd, upd_upd, upd_upd, gPause_kind, gPause_state, gPause_pending, gPause_count]
  exact q _ same_insX upd_same
/-! ### block -/
abbrev N_Engine_block : List Str := ["self", "numbers", "given", "pending", "front", "number"]
theorem sc_Engine_block : FnScope N_Engine_block ["self", "numbers", "given", "pending"] (defScope s_Engine_block) := ⟨rfl, rfl, rfl, by decide +kernel, rfl, by decide +kernel, by decide +kernel⟩
def spBlock (K : PySem.W.Frag) : Sp := fun vs H Q _ => ∃ (en u pd : Addr) (ns : List Nat) (g : Int) (ps : List Int), vs = [.ref en, .ref u, .int g, .ref pd] ∧ H u = some (.tup (nV ns)) ∧ H pd = some (.tup (ps.map V.int)) ∧ ns.length ≤ 100 ∧ ps.length ≤ 1000 ∧
  ∀ p H', Same H H' → H' p = some (.tup ((pendL g ns ++ ps).map V.int)) → Q (.ref p) H'
theorem pend_len (g : Int) : ∀ ns : List Nat, (pendL g ns).length = 2 * ns.length
  | [] => rfl
  | n :: r => by
    have := pend_len g r
    show (pendL g r).length + 2 = 2 * (r.length + 1)
    omega
theorem pend_snoc (g : Int) (ns : List Nat) (n : Nat) : pendL g (ns ++ [n]) = pendL g ns ++ [(n : Int), g] := by
  unfold pendL
  rw [List.flatMap_append]
  rfl
theorem ok_block (T : Tx K mg) : Met P w K mg base 1 (He.ga K "Engine") "block" (spBlock K) [] := by
  refine met_of T 19 rfl T.cl_Engine T.me_Engine_block sc_Engine_block (fun _ _ _ _ _ _ us hl => match us, hl with | [_, _, _, _], _ => rfl) (fun vs H Q E h => ?_) (fun cdv A outer s H vs Q E hr h => ?_)
  · obtain ⟨_, _, _, _, _, _, rfl, _⟩ := h
    rfl
  obtain ⟨en, u, pd, ns, g, ps, rfl, hu, hpd, l1, l2, q⟩ := h
  refine ⟨_, (pss_cons (ps_set (i := 4) sc_Engine_block.nd rfl (Or.inl rfl) (pe_lst pa_nil))
    (pss_cons (ps_for PassesOwn.never rfl (pi_tup (pv 1)) (pg_name (i := 5) sc_Engine_block.nd rfl (Or.inl rfl))
    (pss_one (ps_expr (pe_bm PySem.F.plainAttrs_list PySem.F.slot_list_extend PySem.F.type_list_extend mt_extend (pv 4) (pa_cons (pe_lst (pa_cons (pv 5) (pa_cons (pv 2) pa_nil))) pa_nil)))))
    (pss_one (ps_ret (pe_op op_catA (pe_callTy call_tuple_of (by rfl) T.f_tuple (by decide +kernel) (pa_cons (pv 4) pa_nil)) (pv 3)))))), ?_⟩
  refine ⟨by show 0 ≤ sizeLine; decide, fun F nF => ?_⟩
  have e1 := same_new nF (.lst [])
  have lnV : (nV ns).length = ns.length := by unfold nV; rw [List.length_map]
  refine ⟨_, rfl, u, rfl, ⟨_, SqT.tp (e1 _ _ hu)⟩, for_tup (xs := nV ns) (fun i σ H' => ∃ v5, σ = [some (.ref en), some (.ref u), some (.int g), some (.ref pd), some (.ref F), v5] ∧ Same H H' ∧ H' F = some (.lst ((pendL g (ns.take i)).map V.int)))
    ⟨none, rfl, e1, upd_same⟩ (fun i σ H' _ ⟨_, _, s, _⟩ => SqT.tp (s _ _ hu)) ?_ ?_⟩
  · rintro i x σ H' hi ⟨v5, rfl, s1, gF⟩
    unfold nV at hi
    rw [List.getElem?_map] at hi
    obtain ⟨n, hn, rfl⟩ := Option.map_eq_some_iff.mp hi
    refine ⟨_, rfl, .inl ⟨rfl, _, SqL.of gF⟩, _, rfl, _, rfl, by show 2 ≤ sizeLine; decide, fun p hp => ?_⟩
    have gF2 := same_new hp (.lst [.int (n : Int), .int g]) _ _ gF
    refine ⟨F, p, _, _, rfl, rfl, gF2, upd_same, sz _ ?_, ?_⟩
    · rw [List.length_map, pend_len, List.length_take]
      show _ + 2 ≤ _
      omega
    refine ⟨_, rfl, same_mut (s1.trans (same_new hp _)) nF, ?_⟩
    rw [upd_same, List.take_add_one, hn]
    show _ = some (HO.lst ((pendL g (ns.take i ++ [n])).map V.int))
    rw [pend_snoc, List.map_append]
    rfl
  · rintro σ H' ⟨v5, rfl, s1, gF⟩
    rw [lnV, List.take_length] at gF
    refine ⟨_, rfl, F, _, rfl, .inl ⟨SqL.of gF, fun l hl => ?_⟩⟩
    have s2 := s1.trans (same_new hl (.tup ((pendL g ns).map V.int)))
    refine ⟨_, rfl, catA upd_same (s2 _ _ hpd) (by rw [List.length_map, List.length_map, pend_len]; omega) fun p H2 s3 hp => ?_⟩
    exact q p H2 (s2.trans s3) (by rw [List.map_append]; exact hp)
end
end Nc

-- D15
set_option maxHeartbeats 4000000
namespace Nc
open PySem L2 C8
/-- a pause stands at p -/
def PauseIs (K : PySem.W.Frag) (H : Hp) (p : V) (kind : Str) (st pend cnt : V) : Prop := ∃ a dx, p = .ref a ∧ H a = some (.ins (He.ga K "Pause") dx (fPause (.str kind) st pend cnt))
theorem PauseIs.to {K : PySem.W.Frag} {H H' : Hp} {p : V} {kind : Str} {st pend cnt : V} (k : PauseIs K H p kind st pend cnt) (s : Same H H') : PauseIs K H' p kind st pend cnt := by
  obtain ⟨a, dx, e, h⟩ := k
  exact ⟨a, dx, e, s _ _ h⟩
def AskAt (H : Hp) (ln pn : List V) (ci : Nat) (b : Bool) (g : Int) (a : Addr) (n : Int) (rest : List Sx) : Prop :=
  ∃ n0 ns, H a = some (.tup ((pendL g (n0 :: ns)).map V.int)) ∧ Num H ln pn ci b n0 (.ask n) ∧ Paired (Num H ln pn ci b) ns rest
def ResAt (K : PySem.W.Frag) (H : Hp) (p : V) (h : HH) (G : GG) (ln pn : List V) (ci : Nat) (b : Bool) (g : Int) : Res → Prop
  | .fail => ∃ st pd c, PauseIs K H p "failed" st pd c
  | .done l => ∃ st pd c, PauseIs K H p "done" st pd c ∧ Rp H st (h.dS (gset G b l))
  | .asks l n rest => ∃ st a, PauseIs K H p "asks" st (.ref a) (.int n) ∧ Rp H st (h.dS (gset G b l)) ∧ AskAt H ln pn ci b g a n rest
section
variable {P : Program} {w : World} {K : PySem.W.Frag} {mg : Str → Option Value} {base : Heap}
/-! ### go -/
abbrev N_Engine_go : List Str := ["self", "state", "pending", "number", "given", "contract", "statement", "kind", "test", "proc", "word"]
theorem sc_Engine_go : FnScope N_Engine_go ["self", "state", "pending"] (defScope s_Engine_go) := ⟨rfl, rfl, rfl, by decide +kernel, rfl, by decide +kernel, by decide +kernel⟩
def spGo (K : PySem.W.Frag) : Sp := fun vs H Q _ => ∃ (en pd : Addr) (h : HH) (ln pn : List V) (v : V) (b : Bool) (l : List Sx) (ns : List Nat) (ci : Nat) (g : Int) (G : GG), vs = [.ref en, v, .ref pd] ∧ EngAt K H en h ln pn ∧ H pd = some (.tup ((pendL g ns).map V.int)) ∧ Paired (Num H ln pn ci b) ns l ∧ (∀ s ∈ l, s.fit (h.cc b).hv) ∧ wts l ≤ 30 ∧ (h.cc b).fit ∧ h.pres[ci]? = some b ∧ W16 g ∧ (gat G b).ok (h.cc b) ∧ Rp H v (h.dS G) ∧
  ∀ p H', Same H H' → ResAt K H' p h G ln pn ci b g (run (h.cc b).size g l (gat G b)) → Q p H'
theorem Sx.wt_pos : ∀ s : Sx, 1 ≤ s.wt
  | .sm _ => Nat.le_refl 1
  | .ask _ => Nat.le_refl 1
  | .ite _ t f => by show 1 ≤ t.length + f.length + 1; omega
theorem mk_pause {H1 : Hp} {x dx : Addr} {k : Str} {s p c : V} {Q : VK} {E : XK} (hx : H1 x = none) (hdx : H1 dx = none) (q : ∀ H2, Same H1 H2 → PauseIs K H2 (.ref x) k s p c → Q (.ref x) H2) :
    spPause K [.ref x, .str k, s, p, c] (upd (upd H1 dx (.own x)) x (.ins (He.ga K "Pause") dx [])) (fun v H2 => v = .non ∧ Q (.ref x) H2) E := by
  refine ⟨x, dx, _, s, p, c, rfl, upd_same, fun H' sx hh => ⟨rfl, q H' (fun a u hu => ?_) ⟨x, dx, rfl, hh⟩⟩⟩
  have n1 := ne_of_none hu hx
  refine sx a u n1 ?_
  rw [upd_ne n1, upd_ne (ne_of_none hu hdx)]
  exact hu
theorem len_wts : ∀ l : List Sx, l.length ≤ wts l
  | [] => Nat.le_refl _
  | s :: r => by
    have h1 := s.wt_pos
    have h2 := len_wts r
    show r.length + 1 ≤ s.wt + wts r
    omega
theorem paired_len {α β : Type} {R : α → β → Prop} {xs : List α} {ys : List β} (p : Paired R xs ys) : xs.length = ys.length := Paired.length p
theorem paired_app {α β : Type} {R : α → β → Prop} {xs xs' : List α} {ys ys' : List β} (p : Paired R xs ys) (q : Paired R xs' ys') : Paired R (xs ++ xs') (ys ++ ys') := by
  induction p with
  | nil => exact q
  | cons a _ ih => exact .cons a ih
theorem paired_mapR {α β γ : Type} {R : α → γ → Prop} {f : β → γ} {xs : List α} {ys : List β} (p : Paired (fun a b => R a (f b)) xs ys) : Paired R xs (ys.map f) := by
  induction p with
  | nil => exact .nil
  | cons a _ ih => exact .cons a ih
theorem NumS.num {H : Hp} {ln pn : List V} {ci : Nat} {b : Bool} {n : Nat} {s : Sm} (k : NumS H ln ci b n s) : Num H ln pn ci b n (.sm s) := ⟨k, fun _ _ _ e => nomatch e⟩
theorem pend_app (g : Int) (xs ys : List Nat) : pendL g (xs ++ ys) = pendL g xs ++ pendL g ys := by unfold pendL; rw [List.flatMap_append]
def sk : Sx → Str
  | .sm (.set _) => "set"
  | .sm (.need _) => "need"
  | .sm (.give _) => "give"
  | .sm (.get _) => "get"
  | .ask _ => "ask"
  | .ite _ _ _ => "if"
theorem sk_sm : ∀ m : Sm, ¬ (V.str (sk (.sm m)) = V.str "ask") ∧ ¬ (V.str (sk (.sm m)) = V.str "if") ∧ ¬ (V.str (sk (.sm m)) = V.str "call")
  | .set _ => (show ¬ (V.str "set" = V.str "ask") ∧ ¬ (V.str "set" = V.str "if") ∧ ¬ (V.str "set" = V.str "call") from ⟨by decide +kernel, by decide +kernel, by decide +kernel⟩)
  | .need _ => (show ¬ (V.str "need" = V.str "ask") ∧ ¬ (V.str "need" = V.str "if") ∧ ¬ (V.str "need" = V.str "call") from ⟨by decide +kernel, by decide +kernel, by decide +kernel⟩)
  | .give _ => (show ¬ (V.str "give" = V.str "ask") ∧ ¬ (V.str "give" = V.str "if") ∧ ¬ (V.str "give" = V.str "call") from ⟨by decide +kernel, by decide +kernel, by decide +kernel⟩)
  | .get _ => (show ¬ (V.str "get" = V.str "ask") ∧ ¬ (V.str "get" = V.str "if") ∧ ¬ (V.str "get" = V.str "call") from ⟨by decide +kernel, by decide +kernel, by decide +kernel⟩)
theorem sx_kind {H : Hp} {w : V} {b : Bool} (s : Sx) (k : Rp H w (s.d b)) : ∃ y xs, w = .ref y ∧ H y = some (.tup (.str (sk s) :: xs)) := by
  cases s with
  | sm m =>
    cases m with
    | set e =>
      obtain ⟨y, xs, rfl, hy, hx⟩ := Rp.tupE (show Rp H w (.tuple [.str "set", .str "x", e.d b]) from k)
      obtain ⟨w1, s1, rfl, h1, hx⟩ := Rps.consE hx
      obtain rfl := h1.strE
      exact ⟨y, _, rfl, hy⟩
    | need e =>
      obtain ⟨y, xs, rfl, hy, hx⟩ := Rp.tupE (show Rp H w (.tuple [.str "need", e.d b]) from k)
      obtain ⟨w1, s1, rfl, h1, hx⟩ := Rps.consE hx
      obtain rfl := h1.strE
      exact ⟨y, _, rfl, hy⟩
    | give e =>
      obtain ⟨y, xs, rfl, hy, hx⟩ := Rp.tupE (show Rp H w (.tuple [.str "give", .str (asN b), e.d b]) from k)
      obtain ⟨w1, s1, rfl, h1, hx⟩ := Rps.consE hx
      obtain rfl := h1.strE
      exact ⟨y, _, rfl, hy⟩
    | get e =>
      obtain ⟨y, xs, rfl, hy, hx⟩ := Rp.tupE (show Rp H w (.tuple [.str "get", .str (asN b), e.d b]) from k)
      obtain ⟨w1, s1, rfl, h1, hx⟩ := Rps.consE hx
      obtain rfl := h1.strE
      exact ⟨y, _, rfl, hy⟩
  | ask n =>
    obtain ⟨y, xs, rfl, hy, hx⟩ := Rp.tupE (show Rp H w (.tuple [.str "ask", .str "x", .int n]) from k)
    obtain ⟨w1, s1, rfl, h1, hx⟩ := Rps.consE hx
    obtain rfl := h1.strE
    exact ⟨y, _, rfl, hy⟩
  | ite e t f =>
    obtain ⟨y, xs, rfl, hy, hx⟩ := Rp.tupE (show Rp H w (.tuple [.str "if", e.d b, .tuple (t.map (Sm.d b)), .tuple (f.map (Sm.d b))]) from k)
    obtain ⟨w1, s1, rfl, h1, hx⟩ := Rps.consE hx
    obtain rfl := h1.strE
    exact ⟨y, _, rfl, hy⟩
/-- between two turns of the walk -/
def WGo (K : PySem.W.Frag) (en : Addr) (h : HH) (G : GG) (b : Bool) (ci : Nat) (g : Int) (ln pn : List V) (l0 : List Sx) (H0 : Hp) (m : Nat) (σ : L2.St) (H : Hp) : Prop :=
  ∃ lo ns l st pd v3 v4 v5 v6 v7 v8, m = wts l ∧ m ≤ 30 ∧ σ = [some (.ref en), some st, some (.ref pd), v3, v4, v5, v6, v7, v8, none, none] ∧ Same H0 H ∧ Rp H st (h.dS (gset G b lo)) ∧ lo.ok (h.cc b) ∧ H pd = some (.tup ((pendL g ns).map V.int)) ∧ Paired (Num H ln pn ci b) ns l ∧ (∀ s ∈ l, s.fit (h.cc b).hv) ∧ run (h.cc b).size g l lo = run (h.cc b).size g l0 (gat G b)
theorem ok_go (T : Tx K mg) : Met P w K mg base 7 (He.ga K "Engine") "go" (spGo K) [] := by
  have m_Engine_value : Met P w K mg base 5 (He.ga K "Engine") "value" (spVal K 4) [] := ok_value T 4
  have m_Engine_block : Met P w K mg base 1 (He.ga K "Engine") "block" (spBlock K) [] := ok_block T
  have m_Engine_done : Met P w K mg base 6 (He.ga K "Engine") "done" (spDone K) [] := ok_done T
  have c_Pause : Mak P w K mg base 1 "Pause" (He.ga K "Pause") (spPause K) [] := ok_Pause_init T
  refine met_of T 21 rfl T.cl_Engine T.me_Engine_go sc_Engine_go (fun _ _ _ _ _ _ us hl => match us, hl with | [_, _, _], _ => rfl) (fun vs H Q E h => ?_) (fun cdv A outer s H vs Q E hr h => ?_)
  · obtain ⟨_, _, _, _, _, _, _, _, _, _, _, _, rfl, _⟩ := h
    rfl
  obtain ⟨en, pd, h, ln, pn, v, b, l, ns, ci, g, G, rfl, heng, hpd, hnum, hfit, hw, cfit, hb, hg, hok, hv, q⟩ := h
  obtain ⟨dx, eh, aA, aC, aP, aPl, aS, aL, aPa, aB, pls, szs, bo, z1, z2, z3, z4, z5, z6, z7, z8, z9⟩ := heng.ex
  refine ⟨_, (pss_cons (ps_while PassesOwn.never (pt_truth (pv 2) (by intro _; rfl))
    (pss_cons (ps_set (i := 3) sc_Engine_go.nd rfl (Or.inl rfl) (pe_ix ix_tup (pv 2) pe_int (fun _ _ => rfl)))
    (pss_cons (ps_set (i := 4) sc_Engine_go.nd rfl (Or.inl rfl) (pe_ix ix_tup (pv 2) pe_int (fun _ _ => rfl)))
    (pss_cons (ps_asg (pe_ix ix_list (pe_fld (pv 0) rfl) (pv 3) (fun _ _ => rfl)) (pg_tup rfl (pgs_cons (pg_name (i := 5) sc_Engine_go.nd rfl (Or.inl rfl)) (pgs_cons (pg_name (i := 6) sc_Engine_go.nd rfl (Or.inl rfl)) pgs_nil))))
    (pss_cons (ps_set (i := 7) sc_Engine_go.nd rfl (Or.inl rfl) (pe_ix ix_tup (pv 6) pe_int (fun _ _ => rfl)))
    (pss_cons (ps_if (pt_cmpR op_eq (pv 7) pe_str (nomark _))
    (pss_one (ps_ret (pe_mk c_Pause hr (by decide) rfl (pa_cons pe_str (pa_cons (pv 1) (pa_cons (pv 2) (pa_cons (pe_ix ix_tup (pv 6) pe_int (fun _ _ => rfl)) pa_nil)))))))
    pss_nil)
    (pss_cons (ps_set (i := 2) sc_Engine_go.nd rfl (Or.inl rfl) (pe_slice sl_tupA (pv 2) (po_some pe_int) po_none))
    (pss_one (ps_if (pt_cmpR op_eq (pv 7) pe_str (nomark _))
    (pss_cons (ps_set (i := 8) sc_Engine_go.nd rfl (Or.inl rfl) (pe_mt m_Engine_value hr (by decide) (pv 0) (pa_cons (pe_ix ix_tup (pv 6) pe_int (fun _ _ => rfl)) (pa_cons (pv 5) (pa_cons (pv 4) (pa_cons (pv 1) pa_nil))))))
    (pss_one (ps_set (i := 2) sc_Engine_go.nd rfl (Or.inl rfl) (pe_mt m_Engine_block hr (by decide) (pv 0) (pa_cons (pe_ix ix_tup (pe_ix ix_list (pe_fld (pv 0) rfl) (pv 3) (fun _ _ => rfl)) (pe_callTy call_int1 (by rfl) T.f_int (by decide +kernel) (pa_cons (pe_cmpR op_eq (pv 8) pe_int (nomark _)) pa_nil)) (fun _ _ => rfl)) (pa_cons (pv 4) (pa_cons (pv 2) pa_nil)))))))
    (pss_one (ps_if (pt_cmpR op_eq (pv 7) pe_str (nomark _))
    pss_never
    (pss_cons (ps_set (i := 1) sc_Engine_go.nd rfl (Or.inl rfl) (pe_mt m_Engine_done hr (by decide) (pv 0) (pa_cons (pv 6) (pa_cons (pv 5) (pa_cons (pv 4) (pa_cons (pv 1) pa_nil))))))
    (pss_one (ps_if (pt_cmpR op_isN (pv 1) pe_non (nomark _))
    (pss_one (ps_ret (pe_mk c_Pause hr (by decide) rfl (pa_cons pe_str (pa_cons pe_non (pa_cons (pe_tup pa_nil) (pa_cons pe_int pa_nil)))))))
    pss_nil))))))))))))))
    (pss_one (ps_ret (pe_mk c_Pause hr (by decide) rfl (pa_cons pe_str (pa_cons (pv 1) (pa_cons (pe_tup pa_nil) (pa_cons pe_int pa_nil)))))))), ?_⟩
  refine ⟨WGo K en h G b ci g ln pn l H, ⟨wts l, gat G b, ns, l, v, pd, none, none, none, none, none, none, rfl, hw, rfl, Same.refl H, by rw [gset_gat]; exact hv, hok, hpd, hnum, hfit, rfl⟩, ?_⟩
  rintro m σ H1 ⟨lo, ns1, l1, st, pd1, v3, v4, v5, v6, v7, v8, rfl, hm, rfl, s1, hst, hlo, hp1, hn1, hf1, hrun⟩
  cases hn1 with
  | nil =>
    refine ⟨_, rfl, false, .inr (.inl ⟨_, SqT.tp hp1, rfl⟩), ?_⟩
    refine iteF ?_
    refine ⟨_, rfl, by show 0 ≤ sizeLine; decide, fun t ht x dx2 hx hdx hne => mk_pause hx hdx fun H2 s2 pk => ?_⟩
    have s3 := (same_new ht (.tup [])).trans s2
    refine q _ H2 (s1.trans s3) ?_
    rw [← hrun]
    exact ⟨st, _, _, pk, hst.to s3⟩
  | @cons n0 s0 nr lr h0 hr0 =>
    refine ⟨_, rfl, true, .inr (.inl ⟨_, SqT.tp hp1, rfl⟩), ?_⟩
    refine iteT ?_
    have heng1 := heng.to s1
    obtain ⟨t0, w0, e1, e2, e3⟩ := h0.at_
    obtain ⟨y, xs, rfl, hy⟩ := sx_kind s0 e3
    have hfr : ∀ s ∈ lr, s.fit (h.cc b).hv := fun s hs => hf1 s (List.mem_cons_of_mem _ hs)
    have hf0 := hf1 s0 (List.mem_cons_self ..)
    have hwr : wts lr < wts (s0 :: lr) := by have := s0.wt_pos; show wts lr < s0.wt + wts lr; omega
    refine ⟨fun σ' H' => ∃ m', m' < wts (s0 :: lr) ∧ WGo K en h G b ci g ln pn l H m' σ' H', fun σ' H' z => z, ?_⟩
    have a0 : atI ((pendL g (n0 :: nr)).map V.int) (0 : Int) = some (.int (n0 : Int)) := atI_nat (j := 0) rfl
    have a1 : atI ((pendL g (n0 :: nr)).map V.int) (1 : Int) = some (.int g) := atI_nat (j := 1) rfl
    refine ⟨_, rfl, pd1, _, 0, _, rfl, rfl, SqT.tp hp1, a0, ?_⟩
    refine ⟨_, rfl, pd1, _, 1, _, rfl, rfl, SqT.tp hp1, a1, ?_⟩
    refine ⟨_, rfl, en, _, dx, _, _, rfl, s1 _ _ z1, T.cl_Engine, T.na_Engine_lines, fEngine_lines, _, rfl, aL, _, _, _, rfl, rfl, SqL.of (s1 _ _ z6), atI_nat e1, t0, _, rfl, SqT.tp e2, rfl, _, _, rfl, _, _, rfl, rfl, ?_⟩
    have a2 : atI (V.str (sk s0) :: xs) (0 : Int) = some (V.str (sk s0)) := atI_nat (j := 0) rfl
    refine ⟨_, rfl, y, _, 0, _, rfl, rfl, SqT.tp hy, a2, ?_⟩
    refine ⟨_, rfl, rfl, _, rfl, ?_⟩
    cases s0 with
    | ask n =>
      refine ifY rfl ?_
      obtain ⟨y', xs', ey, hy', hx⟩ := Rp.tupE (show Rp H1 (.ref y) (.tuple [.str "ask", .str "x", .int n]) from e3)
      obtain rfl := V.ref.inj ey
      obtain ⟨w1, s1', rfl, k1, hx⟩ := Rps.consE hx
      obtain ⟨w2, s2', rfl, k2, hx⟩ := Rps.consE hx
      obtain ⟨w3, s3', rfl, k3, hx⟩ := Rps.consE hx
      obtain rfl := Rps.nilE hx
      obtain rfl := k3.intE
      refine ⟨_, rfl, _, rfl, _, rfl, y, _, 2, _, rfl, rfl, SqT.tp hy', rfl, fun x dx2 hx hdx hne => mk_pause hx hdx fun H2 s2 pk => ?_⟩
      refine q _ H2 (s1.trans s2) ?_
      rw [← hrun]
      exact ⟨st, pd1, pk, hst.to s2, n0, nr, s2 _ _ hp1, h0.to s2, Paired.imp' (fun _ _ z => z.to s2) hr0⟩
    | ite e t f =>
      refine ifN (show ¬ (V.str "if" = V.str "ask") by decide +kernel) ?_
      obtain ⟨y', xs', ey, hy', hx⟩ := Rp.tupE (show Rp H1 (.ref y) (.tuple [.str "if", e.d b, .tuple (t.map (Sm.d b)), .tuple (f.map (Sm.d b))]) from e3)
      obtain rfl := V.ref.inj ey
      obtain ⟨w1, s1', rfl, k1, hx⟩ := Rps.consE hx
      obtain ⟨w2, s2', rfl, k2, hx⟩ := Rps.consE hx
      obtain ⟨w3, s3', rfl, k3, hx⟩ := Rps.consE hx
      obtain ⟨w4, s4', rfl, k4, hx⟩ := Rps.consE hx
      obtain rfl := Rps.nilE hx
      obtain ⟨ef, lt, lf, ft, ff⟩ := hf0
      obtain ⟨u, ut, uf, nt, nf, b1, b2, b3, b4, b5, b6⟩ := h0.br e t f rfl
      refine ⟨_, rfl, _, rfl, ?_⟩
      dsimp only [tNoPart]
      refine slA hp1 fun p2 H2 s2 h2 => ?_
      have ec : cutV ((pendL g (n0 :: nr)).map V.int) (some 2) none = (pendL g nr).map V.int := cut_from (j := 2) (by rw [List.length_map, pend_len]; show 2 ≤ 2 * (nr.length + 1); omega)
      rw [ec] at h2
      refine ⟨_, rfl, rfl, _, rfl, ifY rfl ?_⟩
      have s12 := s1.trans s2
      refine ⟨_, rfl, en, dx, _, rfl, s12 _ _ z1, fEngine_no_value, _, rfl, y, _, 1, _, rfl, rfl, SqT.tp (s2 _ _ hy'), rfl, _, rfl, _, rfl, _, rfl, ?_⟩
      refine ⟨en, h, ln, pn, w2, st, b, e, ci, g, gset G b lo, rfl, heng.to s12, k2.to s2, ef.ok, ef.dep, hb, hg, by rw [gat_gset]; exact hlo.pos cfit, hst.to s2, fun H3 s3 => ?_⟩
      rw [gat_gset]
      have s13 := s12.trans s3
      have s23 := s2.trans s3
      have hbr : ∃ uu nn, (if e.ev g lo = 0 then f else t).length ≤ 1 ∧ H1 uu = some (.tup (nV nn)) ∧ Paired (NumS H1 ln ci b) nn (if e.ev g lo = 0 then f else t) ∧ atI ([.ref ut, .ref uf] : List V) (if decide (V.int (e.ev g lo) = V.int 0) = true then 1 else 0) = some (.ref uu) ∧ ∀ s ∈ (if e.ev g lo = 0 then f else t), s.fit (h.cc b).hv := by
        by_cases ez : e.ev g lo = 0
        · rw [if_pos ez, decide_eq_true (by rw [ez]), if_pos rfl]
          exact ⟨uf, nf, lf, b4, b6, rfl, ff⟩
        · rw [if_neg ez, decide_eq_false (fun z => ez (V.int.inj z)), if_neg Bool.false_ne_true]
          exact ⟨ut, nt, lt, b3, b5, rfl, ft⟩
      obtain ⟨uu, nn, c1, c2, c3, c4, c5⟩ := hbr
      refine ⟨_, rfl, en, dx, _, rfl, s13 _ _ z1, fEngine_no_block, _, rfl, en, _, dx, _, _, rfl, s13 _ _ z1, T.cl_Engine, T.na_Engine_parts, fEngine_parts, _, rfl, aPa, _, _, _, rfl, rfl, SqL.of (s13 _ _ z7), atI_nat b1, _, rfl, rfl, .inr ⟨_, rfl, u, _, _, _, rfl, rfl, SqT.tp (s23 _ _ b2), c4, _, rfl, _, rfl, ?_⟩⟩
      have lnn : nn.length ≤ 1 := by rw [paired_len c3]; exact c1
      have lnr : nr.length ≤ 30 := by
        rw [paired_len hr0]
        have := len_wts lr
        omega
      refine ⟨en, uu, p2, nn, g, pendL g nr, rfl, s23 _ _ c2, s3 _ _ h2, by omega, by rw [pend_len]; omega, fun p H4 s4 hp4 => ?_⟩
      have s14 := s13.trans s4
      have s24 := s23.trans s4
      have wlt : wts ((if e.ev g lo = 0 then f else t).map Sx.sm ++ lr) < wts (.ite e t f :: lr) := by
        rw [wts_app]
        show _ < t.length + f.length + 1 + wts lr
        split <;> omega
      refine ⟨_, wlt, lo, nn ++ nr, (if e.ev g lo = 0 then f else t).map Sx.sm ++ lr, st, p, _, _, _, _, _, _, rfl, by omega, rfl, s14, hst.to s24, hlo, by rw [pend_app]; exact hp4, ?_, ?_, ?_⟩
      · refine paired_app (paired_mapR (Paired.imp' (fun _ _ z => (NumS.num z).to s24) c3)) (Paired.imp' (fun _ _ z => z.to s24) hr0)
      · intro s hs
        rcases List.mem_append.mp hs with hs | hs
        · obtain ⟨z, hz, rfl⟩ := List.mem_map.mp hs
          exact c5 z hz
        · exact hfr s hs
      · rw [← run_ite]
        exact hrun
    | sm m =>
      refine ifN (sk_sm m).1 ?_
      refine ⟨_, rfl, _, rfl, ?_⟩
      dsimp only [tNoPart]
      refine slA hp1 fun p2 H2 s2 h2 => ?_
      have ec : cutV ((pendL g (n0 :: nr)).map V.int) (some 2) none = (pendL g nr).map V.int := cut_from (j := 2) (by rw [List.length_map, pend_len]; show 2 ≤ 2 * (nr.length + 1); omega)
      rw [ec] at h2
      refine ⟨_, rfl, rfl, _, rfl, ifN (sk_sm m).2.1 ?_⟩
      refine ⟨_, rfl, rfl, _, rfl, ifN (sk_sm m).2.2 ?_⟩
      have s12 := s1.trans s2
      refine ⟨_, rfl, en, dx, _, rfl, s12 _ _ z1, fEngine_no_done, _, rfl, _, rfl, _, rfl, _, rfl, ?_⟩
      refine ⟨en, h, ln, pn, .ref y, st, b, m, ci, g, gset G b lo, rfl, heng.to s12, e3.to s2, hf0, cfit, hb, hg, by rw [gat_gset]; exact hlo, hst.to s2, ?_, ?_⟩
      · rw [gat_gset]
        intro hno H3 s3
        refine ⟨_, rfl, rfl, _, rfl, ifY rfl ?_⟩
        refine ⟨by show 0 ≤ sizeLine; decide, fun t ht x dx2 hx hdx hne => mk_pause hx hdx fun H4 s4 pk => ?_⟩
        refine q _ H4 ((s12.trans s3).trans ((same_new ht _).trans s4)) ?_
        rw [← hrun]
        have er : run (h.cc b).size g (.sm m :: lr) lo = .fail := by
          show (match m.run (h.cc b).size g lo with
            | none => Res.fail
            | some l' => run (h.cc b).size g lr l') = _
          rw [hno]
        rw [er]
        exact ⟨_, _, _, pk⟩
      · rw [gat_gset]
        intro l' hl' p H3 s3 hp3 ⟨ap, eap⟩
        subst eap
        refine ⟨_, rfl, rfl, _, rfl, ifN (fun z => nomatch z) ?_⟩
        have kept := Sm.kept cfit hg hlo m hf0 hl'
        have s23 := s2.trans s3
        refine ⟨_, hwr, l', nr, lr, .ref ap, p2, _, _, _, _, _, _, rfl, by omega, rfl, s12.trans s3, by rw [gset_gset] at hp3; exact hp3, kept.ok, s3 _ _ h2, Paired.imp' (fun _ _ z => z.to s23) hr0, hfr, ?_⟩
        rw [← hrun]
        show _ = (match m.run (h.cc b).size g lo with
            | none => Res.fail
            | some l' => run (h.cc b).size g lr l')
        rw [hl']
end
end Nc

-- D16
set_option maxHeartbeats 4000000
namespace Nc
open PySem L2 C8
section
variable {P : Program} {w : World} {K : PySem.W.Frag} {mg : Str → Option Value} {base : Heap}
/-! ### answered -/
abbrev N_Engine_answered : List Str := ["self", "pause", "state", "answer", "contract", "statement"]
theorem sc_Engine_answered : FnScope N_Engine_answered ["self", "pause", "state", "answer"] (defScope s_Engine_answered) := ⟨rfl, rfl, rfl, by decide +kernel, rfl, by decide +kernel, by decide +kernel⟩
def gans (h : HH) (G : GG) (b : Bool) (k : Int) : GG := gset G b ((gat G b).setx (k % (h.cc b).size))
theorem ans_ok {h : HH} {G : GG} {b : Bool} {k : Int} (f : (h.cc b).fit) (hv : (h.cc b).hv = true) (o : (gat G b).ok (h.cc b)) : ((gat G b).setx (k % (h.cc b).size)).ok (h.cc b) := by
  have hs := CC.size_ok f
  exact ⟨Int.emod_nonneg _ (by omega), Int.emod_lt_of_pos _ (by omega), fun z => (by rw [hv] at z; cases z), o.a, o.o, o.s⟩
def spAns (K : PySem.W.Frag) : Sp := fun vs H Q _ => ∃ (en a : Addr) (h : HH) (ln pn : List V) (pz st v cnt : V) (b : Bool) (n : Int) (rest : List Sx) (ci : Nat) (g k : Int) (G : GG), vs = [.ref en, pz, v, .int k] ∧ EngAt K H en h ln pn ∧ PauseIs K H pz "asks" st (.ref a) cnt ∧ AskAt H ln pn ci b g a n rest ∧ (h.cc b).hv = true ∧ (∀ s ∈ rest, s.fit (h.cc b).hv) ∧ wts rest ≤ 30 ∧ (h.cc b).fit ∧ h.pres[ci]? = some b ∧ W16 g ∧ (gat G b).ok (h.cc b) ∧ Rp H v (h.dS G) ∧
  ∀ p H', Same H H' → ResAt K H' p h (gans h G b k) ln pn ci b g (run (h.cc b).size g rest (gat (gans h G b k) b)) → Q p H'
theorem ok_answered (T : Tx K mg) : Met P w K mg base 8 (He.ga K "Engine") "answered" (spAns K) [] := by
  have m_Engine_stored : Met P w K mg base 2 (He.ga K "Engine") "stored" (spStored K) [] := ok_stored T
  have m_Engine_go : Met P w K mg base 7 (He.ga K "Engine") "go" (spGo K) [] := ok_go T
  refine met_of T 20 rfl T.cl_Engine T.me_Engine_answered sc_Engine_answered (fun _ _ _ _ _ _ us hl => match us, hl with | [_, _, _, _], _ => rfl) (fun vs H Q E h => ?_) (fun cdv A outer s H vs Q E hr h => ?_)
  · obtain ⟨_, _, _, _, _, _, _, _, _, _, _, _, _, _, _, _, rfl, _⟩ := h
    rfl
  obtain ⟨en, a, h, ln, pn, pz, st, v, cnt, b, n, rest, ci, g, k, G, rfl, heng, hpz, hask, hv1, hfit, hw, cfit, hb, hg, hok, hv, q⟩ := h
  obtain ⟨dx, eh, aA, aC, aP, aPl, aS, aL, aPa, aB, pls, szs, bo, z1, z2, z3, z4, z5, z6, z7, z8, z9⟩ := heng.ex
  obtain ⟨pa, pdx, rfl, hpz⟩ := hpz
  obtain ⟨n0, ns, ha, hn0, hns⟩ := hask
  obtain ⟨t0, w0, e1, e2, e3⟩ := hn0.at_
  obtain ⟨y, xs, rfl, hy, hx⟩ := Rp.tupE (show Rp H w0 (.tuple [.str "ask", .str "x", .int n]) from e3)
  obtain ⟨w1, s1, rfl, k1, hx⟩ := Rps.consE hx
  obtain ⟨w2, s2, rfl, k2, hx⟩ := Rps.consE hx
  obtain ⟨w3, s3, rfl, k3, hx⟩ := Rps.consE hx
  obtain rfl := Rps.nilE hx
  obtain rfl := k2.strE
  refine ⟨_, (pss_cons (ps_asg (pe_ix ix_list (pe_fld (pv 0) rfl) (pe_ix ix_tup (pe_fld (pv 1) rfl) pe_int (fun _ _ => rfl)) (fun _ _ => rfl)) (pg_tup rfl (pgs_cons (pg_name (i := 4) sc_Engine_answered.nd rfl (Or.inl rfl)) (pgs_cons (pg_name (i := 5) sc_Engine_answered.nd rfl (Or.inl rfl)) pgs_nil))))
    (pss_one (ps_ret (pe_mt m_Engine_go hr (by decide) (pv 0) (pa_cons (pe_mt m_Engine_stored hr (by decide) (pv 0) (pa_cons (pv 2) (pa_cons (pv 4) (pa_cons (pe_ix ix_tup (pv 5) pe_int (fun _ _ => rfl)) (pa_cons (pv 3) pa_nil))))) (pa_cons (pe_slice sl_tupA (pe_fld (pv 1) rfl) (po_some pe_int) po_none) pa_nil)))))), ?_⟩
  have a0 : atI ((pendL g (n0 :: ns)).map V.int) (0 : Int) = some (.int (n0 : Int)) := atI_nat (j := 0) rfl
  refine ⟨_, rfl, en, _, dx, _, _, rfl, z1, T.cl_Engine, T.na_Engine_lines, fEngine_lines, _, rfl, pa, _, pdx, _, _, rfl, hpz, T.cl_Pause, T.na_Pause_pending, fPause_pending, a, _, 0, _, rfl, rfl, SqT.tp ha, a0, aL, _, _, _, rfl, rfl, SqL.of z6, atI_nat e1, t0, _, rfl, SqT.tp e2, rfl, _, _, rfl, _, _, rfl, rfl, ?_⟩
  refine ⟨_, rfl, en, dx, _, rfl, z1, fEngine_no_go, _, rfl, en, dx, _, rfl, z1, fEngine_no_stored, _, rfl, _, rfl, _, rfl, y, _, 1, _, rfl, rfl, SqT.tp hy, rfl, _, rfl, ?_⟩
  refine ⟨en, h, ln, pn, v, b, ci, k, G, rfl, heng, hv1, cfit, hb, hv, fun p H1 s1 hp => ?_⟩
  refine ⟨_, rfl, pa, _, pdx, _, _, rfl, s1 _ _ hpz, T.cl_Pause, T.na_Pause_pending, fPause_pending, _, rfl, ?_⟩
  dsimp only [tNoPart]
  refine slA (s1 _ _ ha) fun p2 H2 s2 h2 => ?_
  have ec : cutV ((pendL g (n0 :: ns)).map V.int) (some 2) none = (pendL g ns).map V.int := cut_from (j := 2) (by rw [List.length_map, pend_len]; show 2 ≤ 2 * (ns.length + 1); omega)
  rw [ec] at h2
  have s12 := s1.trans s2
  exact ⟨en, p2, h, ln, pn, p, b, rest, ns, ci, g, gans h G b k, rfl, heng.to s12, h2, Paired.imp' (fun _ _ z => z.to s12) hns, hfit, hw, cfit, hb, hg, by unfold gans; rw [gat_gset]; exact ans_ok cfit hv1 hok, hp.to s2, fun p' H3 s3 r => q p' H3 (s12.trans s3) r⟩
/-! ### begun -/
abbrev N_Engine_begun : List Str := ["self", "state", "name", "proc", "given"]
theorem sc_Engine_begun : FnScope N_Engine_begun ["self", "state", "name", "proc", "given"] (defScope s_Engine_begun) := ⟨rfl, rfl, rfl, by decide +kernel, rfl, by decide +kernel, by decide +kernel⟩
def spBeg (K : PySem.W.Frag) : Sp := fun vs H Q _ => ∃ (en : Addr) (h : HH) (ln pn : List V) (v : V) (b : Bool) (s : Int) (sh : Bool) (l : List Sx) (ci : Nat) (g : Int) (G : GG), vs = [.ref en, v, .str (ctN b), .str "p", .int g] ∧ EngAt K H en h ln pn ∧ (h.cc b).proc = some (s, sh, l) ∧ wts l ≤ 30 ∧ (h.cc b).fit ∧ h.pres[ci]? = some b ∧ W16 g ∧ (gat G b).ok (h.cc b) ∧ Rp H v (h.dS G) ∧
  ∀ p H', Same H H' → ResAt K H' p h G ln pn ci b g (run (h.cc b).size g l (gat G b)) → Q p H'
theorem ok_begun (T : Tx K mg) : Met P w K mg base 8 (He.ga K "Engine") "begun" (spBeg K) [] := by
  have m_Engine_block : Met P w K mg base 1 (He.ga K "Engine") "block" (spBlock K) [] := ok_block T
  have m_Engine_go : Met P w K mg base 7 (He.ga K "Engine") "go" (spGo K) [] := ok_go T
  refine met_of T 18 rfl T.cl_Engine T.me_Engine_begun sc_Engine_begun (fun _ _ _ _ _ _ us hl => match us, hl with | [_, _, _, _, _], _ => rfl) (fun vs H Q E h => ?_) (fun cdv A outer s H vs Q E hr h => ?_)
  · obtain ⟨_, _, _, _, _, _, _, _, _, _, _, _, rfl, _⟩ := h
    rfl
  obtain ⟨en, h, ln, pn, v, b, sz', sh, l, ci, g, G, rfl, heng, hpr, hw, cfit, hb, hg, hok, hv, q⟩ := h
  obtain ⟨dx, eh, aA, aC, aP, aPl, aS, aL, aPa, aB, pls, szs, bo, z1, z2, z3, z4, z5, z6, z7, z8, z9⟩ := heng.ex
  have hu := hu_of hr
  obtain ⟨u, ns, b1, b2, b3⟩ := (z9 ci b hb).bo _ _ _ hpr
  refine ⟨_, (pss_one (ps_ret (pe_mt m_Engine_go hr (by decide) (pv 0) (pa_cons (pv 1) (pa_cons (pe_mt m_Engine_block hr (by decide) (pv 0) (pa_cons (pe_dget hu (pe_fld (pv 0) rfl) (pe_tup (pa_cons (pv 2) (pa_cons (pv 3) pa_nil))) (fun _ _ => rfl)) (pa_cons (pv 4) (pa_cons (pe_tup pa_nil) pa_nil)))) pa_nil))))), ?_⟩
  refine ⟨_, rfl, en, dx, _, rfl, z1, fEngine_no_go, _, rfl, _, rfl, en, dx, _, rfl, z1, fEngine_no_block, _, rfl, en, _, dx, _, _, rfl, z1, T.cl_Engine, T.na_Engine_bodies, fEngine_bodies, _, rfl, _, rfl, by show 2 ≤ sizeLine; decide, fun k hk => ?_⟩
  have s1 := same_new hk (.tup [.str (ctN b), .str "p"])
  refine ⟨aB, _, rfl, .inr ⟨bo, [.inr (ctN b), .inr "p"], k, .of (s1 _ _ z8), rfl, upd_same, b1.symm⟩, _, rfl, by show 0 ≤ sizeLine; decide, fun e he => ?_⟩
  have s2 := s1.trans (same_new he (.tup []))
  have lns : ns.length ≤ 100 := by
    rw [paired_len b3]
    have := len_wts l
    omega
  refine ⟨en, u, e, ns, g, [], rfl, s2 _ _ b2, upd_same, lns, (by show 0 ≤ 1000; decide), fun p H1 s3 hp => ?_⟩
  have s13 := s2.trans s3
  rw [List.append_nil] at hp
  exact ⟨en, p, h, ln, pn, v, b, l, ns, ci, g, G, rfl, heng.to s13, hp, Paired.imp' (fun _ _ z => z.to s13) b3, (cfit.proc _ hpr).2.2.2.1, hw, cfit, hb, hg, hok, hv.to s13, fun p' H3 s3 r => q p' H3 (s13.trans s3) r⟩
end
end Nc

-- D17
set_option maxHeartbeats 4000000
namespace Nc
open PySem L2 C8
section
variable {P : Program} {w : World} {K : PySem.W.Frag} {mg : Str → Option Value} {base : Heap}
/-! ### numbered -/
abbrev N_Engine_numbered : List Str := ["self", "contract", "block", "numbers", "statement", "number", "then"]
theorem sc_Engine_numbered : FnScope N_Engine_numbered ["self", "contract", "block"] (defScope s_Engine_numbered) := ⟨rfl, rfl, rfl, by decide +kernel, rfl, by decide +kernel, by decide +kernel⟩
/-- an engine in the making -/
structure EngB (K : PySem.W.Frag) (H : Hp) (en Ls Ps : Addr) (ln pn : List V) : Prop where
  ex : ∃ dx fs, H en = some (.ins (He.ga K "Engine") dx fs) ∧ fs.lookup ("lines" : Str) = some (V.ref Ls) ∧ fs.lookup ("parts" : Str) = some (V.ref Ps) ∧ fs.lookup ("numbered" : Str) = none
  l : H Ls = some (.lst ln)
  p : H Ps = some (.lst pn)
  ne : Ls ≠ Ps
  len : ln.length = pn.length
theorem EngB.kp {H H' : Hp} {en Ls Ps : Addr} {ln pn ln' pn' : List V} (k : EngB K H en Ls Ps ln pn) (s : Kp [Ls, Ps] H H') (h1 : H' Ls = some (.lst ln')) (h2 : H' Ps = some (.lst pn')) (h3 : ln'.length = pn'.length) : EngB K H' en Ls Ps ln' pn' := by
  obtain ⟨dx, fs, e1, e2⟩ := k.ex
  exact ⟨⟨dx, fs, s _ _ (by simp; exact ⟨ne_of e1 k.l (fun z => nomatch z), ne_of e1 k.p (fun z => nomatch z)⟩) e1, e2⟩, h1, h2, k.ne, h3⟩
def Keeps (pn pn' : List V) : Prop := ∀ (j : Nat) v, pn[j]? = some v → pn'[j]? = some v
theorem Keeps.app (pn px : List V) : Keeps pn (pn ++ px) := fun j v h => get_app h
theorem Keeps.trans {a b c : List V} (h : Keeps a b) (k : Keeps b c) : Keeps a c := fun j v e => k j v (h j v e)
theorem Keeps.refl (a : List V) : Keeps a a := fun _ _ e => e
def spNum (K : PySem.W.Frag) (m : Nat) : Sp := fun vs H Q _ => ∃ (en Ls Ps : Addr) (ln pn : List V) (v : V) (b hv : Bool) (l : List Sx) (ci : Nat), vs = [.ref en, .int (ci : Int), v] ∧ 0 < m ∧ m ≤ 2 ∧ EngB K H en Ls Ps ln pn ∧ Rp H v (blkD b l) ∧ (∀ s ∈ l, s.fit hv ∧ s.lev < m) ∧ l.length ≤ 10 ∧ ln.length + 5000 * m ≤ 20000 ∧
  ∀ t ns lx pn' H', Kp [Ls, Ps] H H' → EngB K H' en Ls Ps (ln ++ lx) pn' → lx.length ≤ l.length * 10 ^ m → Keeps pn pn' → H' t = some (.tup (nV ns)) → Paired (Num H' (ln ++ lx) pn' ci b) ns l → Q (.ref t) H'
theorem b_numbered : BindOk "numbered" "Engine.numbered" s_Engine_numbered ["self", "contract", "block"] := fun _ _ _ _ _ _ us hl => match us, hl with | [_, _, _], _ => rfl
def WNum (K : PySem.W.Frag) (m : Nat) (en Ls Ps Nn : Addr) (v : V) (b : Bool) (ci : Nat) (ln pn : List V) (l : List Sx) (H0 : Hp) (i : Nat) (σ : L2.St) (H : Hp) : Prop :=
  ∃ ns lx pn' v4 v5 v6, σ = [some (.ref en), some (.int (ci : Int)), some v, some (.ref Nn), v4, v5, v6] ∧ Kp [Ls, Ps] H0 H ∧ EngB K H en Ls Ps (ln ++ lx) pn' ∧ lx.length ≤ i * 10 ^ m ∧ Keeps pn pn' ∧ H Nn = some (.lst (nV ns)) ∧ ns.length = i ∧ Paired (Num H (ln ++ lx) pn' ci b) ns (l.take i)
theorem len_snoc {α : Type} (xs : List α) (x : α) : (xs ++ [x]).length = xs.length + 1 := by rw [List.length_append]; rfl
theorem nV_snoc (ns : List Nat) (n : Nat) : nV (ns ++ [n]) = nV ns ++ [.int (n : Int)] := by unfold nV; rw [List.map_append]; rfl
theorem nV_len (ns : List Nat) : (nV ns).length = ns.length := by unfold nV; rw [List.length_map]
theorem paired_snoc {α β : Type} {R : α → β → Prop} {xs : List α} {ys : List β} {x : α} {y : β} (p : Paired R xs ys) (r : R x y) : Paired R (xs ++ [x]) (ys ++ [y]) := paired_app p (.cons r .nil)
theorem NumS.mono {H H' : Hp} {ln lx : List V} {ci : Nat} {b : Bool} {n : Nat} {s : Sm} (k : NumS H ln ci b n s) (t : TpS H H') : NumS H' (ln ++ lx) ci b n s := LnAt.mono k t
theorem paired_map {α β γ : Type} {R : α → γ → Prop} {f : β → γ} : ∀ {xs : List α} {ys : List β}, Paired R xs (ys.map f) → Paired (fun a b => R a (f b)) xs ys
  | [], [], _ => .nil
  | _ :: _, _ :: _, .cons a t => .cons a (paired_map t)
theorem ok_numbered (T : Tx K mg) : ∀ m : Nat, Met P w K mg base m (He.ga K "Engine") "numbered" (spNum K m) []
  | 0 => met_no T 13 rfl T.cl_Engine T.me_Engine_numbered b_numbered fun vs H Q E ⟨_, _, _, _, _, _, _, _, _, _, _, z, _⟩ => absurd z (Nat.lt_irrefl _)
  | m + 1 => by
    have m_Engine_numbered : Met P w K mg base m (He.ga K "Engine") "numbered" (spNum K m) [] := ok_numbered T m
    refine met_of T 13 rfl T.cl_Engine T.me_Engine_numbered sc_Engine_numbered b_numbered (fun vs H Q E h => ?_) (fun cdv A outer s H vs Q E hr h => ?_)
    · obtain ⟨_, _, _, _, _, _, _, _, _, _, rfl, _⟩ := h
      rfl
    obtain ⟨en, Ls, Ps, ln, pn, v, b, hv, l, ci, rfl, _, hm2, heng, hv0, hl, ll, lln, q⟩ := h
    have p10 : 10 ^ (m + 1) = 10 ^ m * 10 := Nat.pow_succ ..
    have p1m : 1 ≤ 10 ^ m := Nat.one_le_pow _ _ (by decide)
    have p2m : 10 ^ m ≤ 10 := Nat.pow_le_pow_right (by decide) (show m ≤ 1 by omega)
    obtain ⟨a, xs, rfl, ha, hx⟩ := Rp.tupE hv0
    refine ⟨_, (pss_cons (ps_set (i := 3) sc_Engine_numbered.nd rfl (Or.inl rfl) (pe_lst pa_nil))
    (pss_cons (ps_for PassesOwn.never rfl (pi_tup (pv 2)) (pg_name (i := 4) sc_Engine_numbered.nd rfl (Or.inl rfl))
    (pss_cons (ps_set (i := 5) sc_Engine_numbered.nd rfl (Or.inl rfl) (pe_callB call_len_seq (by rfl) T.f_len (by decide +kernel) (pa_cons (pe_fld (pv 0) rfl) pa_nil)))
    (pss_cons (ps_expr (pe_bm PySem.F.plainAttrs_list PySem.F.slot_list_append PySem.F.type_list_append mt_append (pv 3) (pa_cons (pv 5) pa_nil)))
    (pss_cons (ps_expr (pe_bm PySem.F.plainAttrs_list PySem.F.slot_list_append PySem.F.type_list_append mt_append (pe_fld (pv 0) rfl) (pa_cons (pe_tup (pa_cons (pv 1) (pa_cons (pv 4) pa_nil))) pa_nil)))
    (pss_cons (ps_expr (pe_bm PySem.F.plainAttrs_list PySem.F.slot_list_append PySem.F.type_list_append mt_append (pe_fld (pv 0) rfl) (pa_cons (pe_tup (pa_cons (pe_tup pa_nil) (pa_cons (pe_tup pa_nil) pa_nil))) pa_nil)))
    (pss_one (ps_if (pt_cmpR op_eq (pe_ix ix_tup (pv 4) pe_int (fun _ _ => rfl)) pe_str (nomark _))
    (pss_cons (ps_set (i := 6) sc_Engine_numbered.nd rfl (Or.inl rfl) (pe_mt m_Engine_numbered hr (Nat.le_refl _) (pv 0) (pa_cons (pv 1) (pa_cons (pe_ix ix_tup (pv 4) pe_int (fun _ _ => rfl)) pa_nil))))
    (pss_one (ps_asg (pe_tup (pa_cons (pv 6) (pa_cons (pe_mt m_Engine_numbered hr (Nat.le_refl _) (pv 0) (pa_cons (pv 1) (pa_cons (pe_ix ix_tup (pv 4) pe_int (fun _ _ => rfl)) pa_nil))) pa_nil))) (pg_sub (pe_fld (pv 0) rfl) (pv 5) set_list (fun _ => rfl)))))
    pss_nil)))))))
    (pss_one (ps_ret (pe_callTy call_tuple_of (by rfl) T.f_tuple (by decide +kernel) (pa_cons (pv 3) pa_nil)))))), ?_⟩
    refine ⟨by show 0 ≤ sizeLine; decide, fun Nn nN => ?_⟩
    have e1 := same_new nN (.lst [])
    have nLs : Nn ≠ Ls := (ne_of_none heng.l nN).symm
    have nPs : Nn ≠ Ps := (ne_of_none heng.p nN).symm
    have lx0 : xs.length = l.length := by rw [Rps.length hx, List.length_map]
    have nt : ∀ z ∈ [Ls, Ps], ¬ IsTp (H z) := nTp2 heng.l heng.p
    have aLs : a ∉ [Ls, Ps] := fun z => nt a z (by rw [ha]; exact True.intro)
    refine ⟨_, rfl, a, rfl, ⟨_, SqT.tp (e1 _ _ ha)⟩, for_tup (xs := xs) (WNum K (m + 1) en Ls Ps Nn (.ref a) b ci ln pn l H) ⟨[], [], pn, none, none, none, rfl, Kp.of e1, by rw [List.append_nil]; exact heng.kp (Kp.of e1) (e1 _ _ heng.l) (e1 _ _ heng.p) heng.len, Nat.zero_le _, Keeps.refl _, upd_same, rfl, by rw [List.take_zero]; exact .nil⟩ (fun i σ H' _ ⟨_, _, _, _, _, _, _, k, _⟩ => SqT.tp (k _ _ aLs ha)) ?_ ?_⟩
    · rintro i x σ H' hi ⟨ns, lx, pn1, v4, v5, v6, rfl, k1, eb, llx, kp, gN, lns, hpr⟩
      obtain ⟨d, hd0, rx⟩ := Rps.getV hx hi
      rw [List.getElem?_map] at hd0
      obtain ⟨st, hst, rfl⟩ := Option.map_eq_some_iff.mp hd0
      have il : i < l.length := lt_of_get hst
      obtain ⟨hf, hlev⟩ := hl st (List.mem_of_getElem? hst)
      have ts1 := k1.ts nt
      have rx1 := Rp.ts ts1 _ _ rx
      obtain ⟨y, ys, rfl, hy⟩ := sx_kind st rx1
      obtain ⟨dx, fs, z1, z2, z3, z4⟩ := eb.ex
      have lxb : lx.length ≤ 2000 := by
        have h1 : i * 10 ^ (m + 1) ≤ 10 * (10 * 10) := by rw [p10]; exact Nat.mul_le_mul (by omega) (Nat.mul_le_mul p2m (Nat.le_refl _))
        omega
      have lnl : (ln ++ lx).length + 5000 * m ≤ 17000 + 2000 := by rw [List.length_append]; omega
      -- number
      refine ⟨_, rfl, en, _, dx, _, _, rfl, z1, T.cl_Engine, T.na_Engine_lines, z2, Ls, _, rfl, .inl (SqL.of eb.l), ?_⟩
      refine ⟨_, rfl, .inl ⟨rfl, _, SqL.of gN⟩, _, rfl, Nn, _, _, rfl, rfl, gN, szl _ (by rw [nV_len]; omega), ?_⟩
      -- lines.append
      have enN : en ≠ Nn := ne_of z1 gN (fun z => nomatch z)
      have enL : en ≠ Ls := ne_of z1 eb.l (fun z => nomatch z)
      have enP : en ≠ Ps := ne_of z1 eb.p (fun z => nomatch z)
      have gL2 : (upd H' Nn (.lst (nV ns ++ [.int ((ln ++ lx).length : Int)]))) Ls = some (.lst (ln ++ lx)) := (upd_ne nLs.symm).trans eb.l
      refine ⟨_, rfl, en, _, dx, _, _, rfl, (upd_ne enN).trans z1, T.cl_Engine, T.na_Engine_lines, z2, .inl ⟨rfl, _, SqL.of gL2⟩, _, rfl, _, rfl, by show 2 ≤ sizeLine; decide, fun t0 ht0 => ⟨Ls, _, _, rfl, rfl, same_new ht0 _ _ _ gL2, szl _ (by omega), ?_⟩⟩
      -- the heap so far
      have k2 : Kp [Nn, Ls, Ps] H' (upd (upd (upd H' Nn (.lst (nV ns ++ [.int ((ln ++ lx).length : Int)]))) t0 (.tup [.int (ci : Int), .ref y])) Ls (.lst (ln ++ lx ++ [.ref t0]))) := (((Kp.refl.upd (by simp)).new ht0 _).upd (by simp))
      have gt0 : (upd (upd (upd H' Nn (.lst (nV ns ++ [.int ((ln ++ lx).length : Int)]))) t0 (.tup [.int (ci : Int), .ref y])) Ls (.lst (ln ++ lx ++ [.ref t0]))) t0 = some (.tup [.int (ci : Int), .ref y]) := (upd_ne (ne_of_none gL2 ht0).symm).trans upd_same
      have gN2 : (upd (upd (upd H' Nn (.lst (nV ns ++ [.int ((ln ++ lx).length : Int)]))) t0 (.tup [.int (ci : Int), .ref y])) Ls (.lst (ln ++ lx ++ [.ref t0]))) Nn = some (.lst (nV (ns ++ [(ln ++ lx).length]))) := by
        rw [nV_snoc]
        exact (upd_ne nLs).trans (same_new ht0 _ _ _ upd_same)
      have gL3 : (upd (upd (upd H' Nn (.lst (nV ns ++ [.int ((ln ++ lx).length : Int)]))) t0 (.tup [.int (ci : Int), .ref y])) Ls (.lst (ln ++ lx ++ [.ref t0]))) Ls = some (.lst (ln ++ lx ++ [.ref t0])) := upd_same
      have gP2 : (upd (upd (upd H' Nn (.lst (nV ns ++ [.int ((ln ++ lx).length : Int)]))) t0 (.tup [.int (ci : Int), .ref y])) Ls (.lst (ln ++ lx ++ [.ref t0]))) Ps = some (.lst pn1) := (upd_ne eb.ne.symm).trans (same_new ht0 _ _ _ ((upd_ne nPs.symm).trans eb.p))
      have ge2 : (upd (upd (upd H' Nn (.lst (nV ns ++ [.int ((ln ++ lx).length : Int)]))) t0 (.tup [.int (ci : Int), .ref y])) Ls (.lst (ln ++ lx ++ [.ref t0]))) en = some (.ins (He.ga K "Engine") dx fs) := k2 _ _ (by simp; exact ⟨enN, enL, enP⟩) z1
      generalize upd (upd (upd H' Nn (.lst (nV ns ++ [.int ((ln ++ lx).length : Int)]))) t0 (.tup [.int (ci : Int), .ref y])) Ls (.lst (ln ++ lx ++ [.ref t0])) = H2 at k2 gt0 gN2 gL3 gP2 ge2 ⊢
      -- parts.append
      refine ⟨_, rfl, en, _, dx, _, _, rfl, ge2, T.cl_Engine, T.na_Engine_parts, z3, .inl ⟨rfl, _, SqL.of gP2⟩, by show 0 ≤ sizeLine; decide, fun t1 ht1 => ⟨by show 0 ≤ sizeLine; decide, fun t2 ht2 => ⟨by show 2 ≤ sizeLine; decide, fun t3 ht3 => ?_⟩⟩⟩
      have s3 := ((same_new ht1 (.tup [])).trans (same_new ht2 (.tup []))).trans (same_new ht3 (.tup [.ref t1, .ref t2]))
      refine ⟨Ps, _, _, rfl, rfl, s3 _ _ gP2, szl _ (by rw [← eb.len]; omega), ?_⟩
      have k3 : Kp [Nn, Ls, Ps] H' (upd (upd (upd (upd H2 t1 (.tup [])) t2 (.tup [])) t3 (.tup [.ref t1, .ref t2])) Ps (.lst (pn1 ++ [.ref t3]))) := (k2.same s3).upd (by simp)
      have o3 : ∀ q u, q ≠ Ps → H2 q = some u → (upd (upd (upd (upd H2 t1 (.tup [])) t2 (.tup [])) t3 (.tup [.ref t1, .ref t2])) Ps (.lst (pn1 ++ [.ref t3]))) q = some u := fun q u hq hu => (upd_ne hq).trans (s3 _ _ hu)
      have gP3 : (upd (upd (upd (upd H2 t1 (.tup [])) t2 (.tup [])) t3 (.tup [.ref t1, .ref t2])) Ps (.lst (pn1 ++ [.ref t3]))) Ps = some (.lst (pn1 ++ [.ref t3])) := upd_same
      generalize upd (upd (upd (upd H2 t1 (.tup [])) t2 (.tup [])) t3 (.tup [.ref t1, .ref t2])) Ps (.lst (pn1 ++ [.ref t3])) = H3 at k3 o3 gP3 ⊢
      have gN3 := o3 _ _ nPs gN2
      have gL4 := o3 _ _ eb.ne gL3
      have gt3 := o3 _ _ (ne_of gt0 gP2 (fun z => nomatch z)) gt0
      have ge3 := o3 _ _ enP ge2
      have nt' : ∀ z ∈ [Nn, Ls, Ps], ¬ IsTp (H' z) := fun z hz => by
        rcases List.mem_cons.mp hz with rfl | hz
        · exact nTp gN
        · exact nTp2 eb.l eb.p z hz
      have ts3 := k3.ts nt'
      have hy3 := ts3.t _ _ hy
      have a0 : atI (V.str (sk st) :: ys) (0 : Int) = some (V.str (sk st)) := atI_nat (j := 0) rfl
      have eb3 : EngB K H3 en Ls Ps (ln ++ lx ++ [.ref t0]) (pn1 ++ [.ref t3]) := ⟨⟨dx, fs, ge3, z2, z3, z4⟩, gL4, gP3, eb.ne, by rw [len_snoc, len_snoc, eb.len]⟩
      have nat3 : LnAt H3 (ln ++ lx ++ [.ref t0]) ci b (ln ++ lx).length st := ⟨t0, .ref y, get_app_r, gt3, Rp.ts ts3 _ _ rx1⟩
      have kH3 : Kp [Ls, Ps] H H3 := fun q u hq hu => k3 q u (by simp at hq ⊢; exact ⟨ne_of_none hu nN, hq.1, hq.2⟩) (k1 q u hq hu)
      refine ⟨_, rfl, y, _, 0, _, rfl, rfl, SqT.tp hy3, a0, rfl, _, rfl, ?_⟩
      have simple : (∀ e t f, st ≠ .ite e t f) → WNum K (m + 1) en Ls Ps Nn (.ref a) b ci ln pn l H (i + 1) [some (.ref en), some (.int (ci : Int)), some (.ref a), some (.ref Nn), some (.ref y), some (.int ((ln ++ lx).length : Int)), v6] H3 := fun hno => by
        refine ⟨ns ++ [(ln ++ lx).length], lx ++ [.ref t0], pn1 ++ [.ref t3], _, _, _, rfl, kH3, by rw [← List.append_assoc]; exact eb3, ?_, kp.trans (Keeps.app _ _), gN3, by rw [List.length_append, lns]; rfl, ?_⟩
        · rw [len_snoc, Nat.succ_mul]
          rw [p10] at llx ⊢
          omega
        · rw [← List.append_assoc, List.take_add_one, hst]
          exact paired_snoc (Paired.imp' (fun _ _ z => z.mono ts3 fun j v hj _ => get_app hj) hpr) ⟨nat3, fun e t f he => absurd he (hno e t f)⟩
      cases st with
      | sm s0 =>
        refine ifN (sk_sm s0).2.1 ?_
        exact simple fun e t f z => nomatch z
      | ask n =>
        refine ifN (show ¬ (V.str "ask" = V.str "if") by decide +kernel) ?_
        exact simple fun e t f z => nomatch z
      | ite e t f =>
        refine ifY rfl ?_
        have hm1 : 0 < m := by
          have h : (1 : Nat) < m + 1 := hlev
          omega
        obtain ⟨ef, lt, lf, ft, ff⟩ := hf
        obtain ⟨y', xs', ey, hy', hx'⟩ := Rp.tupE (show Rp H3 (.ref y) (.tuple [.str "if", e.d b, .tuple (t.map (Sm.d b)), .tuple (f.map (Sm.d b))]) from Rp.ts ts3 _ _ rx1)
        obtain rfl := V.ref.inj ey
        obtain ⟨w1, s1', rfl, j1, hx'⟩ := Rps.consE hx'
        obtain ⟨w2, s2', rfl, j2, hx'⟩ := Rps.consE hx'
        obtain ⟨w3, s3', rfl, j3, hx'⟩ := Rps.consE hx'
        obtain ⟨w4, s4', rfl, j4, hx'⟩ := Rps.consE hx'
        obtain rfl := Rps.nilE hx'
        rw [blk_sm] at j3 j4
        have fitM : ∀ (l : List Sm), (∀ s ∈ l, s.fit hv) → ∀ s ∈ l.map Sx.sm, s.fit hv ∧ s.lev < m := fun l h s hs => by
          obtain ⟨z, hz, rfl⟩ := List.mem_map.mp hs
          exact ⟨h z hz, hm1⟩
        -- then
        refine ⟨_, rfl, en, dx, _, rfl, ge3, z4, _, rfl, _, rfl, y, _, 2, _, rfl, rfl, SqT.tp hy', rfl, ?_⟩
        refine ⟨en, Ls, Ps, _, _, w3, b, hv, t.map Sx.sm, ci, rfl, hm1, by omega, eb3, j3, fitM t ft, by rw [List.length_map]; omega, by rw [len_snoc]; omega, fun tt nst lx4 pn4 H4 k4 eb4 ll4 kp4 gtt hp4 => ?_⟩
        rw [List.length_map] at ll4
        have ll4' : lx4.length ≤ 10 ^ m := Nat.le_trans ll4 (by have := Nat.mul_le_mul_right (10 ^ m) lt; omega)
        have nt3 : ∀ z ∈ [Ls, Ps], ¬ IsTp (H3 z) := nTp2 eb3.l eb3.p
        have ts4 := k4.ts nt3
        obtain ⟨dx4, fs4, y1, y2, y3, y4⟩ := eb4.ex
        -- else
        refine ⟨_, rfl, _, rfl, en, dx4, _, rfl, y1, y4, _, rfl, _, rfl, y, _, 3, _, rfl, rfl, SqT.tp (ts4.t _ _ hy'), rfl, ?_⟩
        refine ⟨en, Ls, Ps, _, _, w4, b, hv, f.map Sx.sm, ci, rfl, hm1, by omega, eb4, Rp.ts ts4 _ _ j4, fitM f ff, by rw [List.length_map]; omega, by rw [List.length_append, len_snoc]; omega, fun tf nsf lx5 pn5 H5 k5 eb5 ll5 kp5 gtf hp5 => ?_⟩
        rw [List.length_map] at ll5
        have ll5' : lx5.length ≤ 10 ^ m := Nat.le_trans ll5 (by have := Nat.mul_le_mul_right (10 ^ m) lf; omega)
        have nt4 : ∀ z ∈ [Ls, Ps], ¬ IsTp (H4 z) := nTp2 eb4.l eb4.p
        have ts5 := k5.ts nt4
        refine ⟨by show 2 ≤ sizeLine; decide, fun u hu => ?_⟩
        have s6 := same_new hu (.tup [.ref tt, .ref tf])
        obtain ⟨dx5, fs5, x1, x2, x3, x4⟩ := eb5.ex
        have hlen5 : (ln ++ lx).length < pn5.length := by
          rw [← eb5.len]
          have h1 : (ln ++ lx ++ [V.ref t0] ++ lx4 ++ lx5).length = (ln ++ lx).length + 1 + lx4.length + lx5.length := by rw [List.length_append, List.length_append (as := ln ++ lx ++ [V.ref t0]), len_snoc]
          omega
        have hix : ixN pn5.length ((ln ++ lx).length : Int) = some (ln ++ lx).length := by
          unfold ixN
          rw [if_pos (by omega), if_pos (by omega)]
          rfl
        refine ⟨_, rfl, en, _, dx5, _, _, rfl, s6 _ _ x1, T.cl_Engine, T.na_Engine_parts, x3, _, rfl, Ps, pn5, _, _, rfl, rfl, s6 _ _ eb5.p, hix, ?_⟩
        -- the end of the turn
        have k6 : Kp [Ls, Ps] H3 (upd (upd H5 u (.tup [.ref tt, .ref tf])) Ps (.lst (pn5.set (ln ++ lx).length (.ref u)))) := ((k4.trans k5).same s6).upd (by simp)
        have ts6 : TpS H5 (upd (upd H5 u (.tup [.ref tt, .ref tf])) Ps (.lst (pn5.set (ln ++ lx).length (.ref u)))) := (TpS.of s6).upd (by rw [s6 _ _ eb5.p]; exact id)
        have uPs : u ≠ Ps := (ne_of_none eb5.p hu).symm
        have gu : (upd (upd H5 u (.tup [.ref tt, .ref tf])) Ps (.lst (pn5.set (ln ++ lx).length (.ref u)))) u = some (.tup [.ref tt, .ref tf]) := (upd_ne uPs).trans upd_same
        have gN6 := k6 _ _ (by simp; exact ⟨nLs, nPs⟩) gN3
        have eassoc : ln ++ lx ++ [.ref t0] ++ lx4 ++ lx5 = ln ++ (lx ++ [.ref t0] ++ lx4 ++ lx5) := by simp only [List.append_assoc]
        have kset : ∀ (j : Nat) v, pn1[j]? = some v → (pn5.set (ln ++ lx).length (.ref u))[j]? = some v := fun j v hj => by
          have hjl := lt_of_get hj
          rw [← eb.len] at hjl
          rw [List.getElem?_set_ne (by omega)]
          exact kp5 j v (kp4 j v (get_app hj))
        have gL6 : (upd (upd H5 u (.tup [.ref tt, .ref tf])) Ps (.lst (pn5.set (ln ++ lx).length (.ref u)))) Ls = some (.lst (ln ++ (lx ++ [.ref t0] ++ lx4 ++ lx5))) := by
          rw [← eassoc]
          exact (upd_ne eb.ne).trans (s6 _ _ eb5.l)
        refine ⟨ns ++ [(ln ++ lx).length], lx ++ [.ref t0] ++ lx4 ++ lx5, pn5.set (ln ++ lx).length (.ref u), _, _, _, rfl, kH3.trans k6, ⟨⟨dx5, fs5, (upd_ne enP).trans (s6 _ _ x1), x2, x3, x4⟩, gL6, upd_same, eb.ne, ?_⟩, ?_, fun j v hj => kset j v (kp j v hj), gN6, by rw [List.length_append, lns]; rfl, ?_⟩
        · rw [List.length_set, ← eb5.len, eassoc]
        · rw [List.length_append, List.length_append, len_snoc, Nat.succ_mul]
          rw [p10] at llx ⊢
          omega
        · rw [List.take_add_one, hst]
          refine paired_snoc (Paired.imp' (fun _ _ z => ?_) hpr) ?_
          · have := Num.mono (lx := [.ref t0] ++ lx4 ++ lx5) (pn' := pn5.set (ln ++ lx).length (.ref u)) z (ts3.trans (ts4.trans (ts5.trans ts6))) (fun j v hj _ => kset j v hj)
            simp only [List.append_assoc] at this ⊢
            exact this
          · refine ⟨?_, fun e' t' f' he => ?_⟩
            · rw [← eassoc]
              have := LnAt.mono (lx := lx4 ++ lx5) nat3 (ts4.trans (ts5.trans ts6))
              simp only [List.append_assoc] at this ⊢
              exact this
            · cases he
              refine ⟨u, tt, tf, nst, nsf, by rw [List.getElem?_set_self hlen5], gu, ts6.t _ _ (ts5.t _ _ gtt), ts6.t _ _ gtf, ?_, ?_⟩
              · rw [← eassoc]
                exact Paired.imp' (fun _ _ z => NumS.mono (lx := lx5) z.at_ (ts5.trans ts6)) (paired_map hp4)
              · rw [← eassoc]
                have := Paired.imp' (fun _ _ z => NumS.mono (lx := []) z.at_ ts6) (paired_map hp5)
                rw [List.append_nil] at this
                exact this
    · rintro σ H' ⟨ns, lx, pn1, v4, v5, v6, rfl, k1, eb, llx, kp, gN, lns, hpr⟩
      rw [lx0] at llx
      rw [lx0, List.take_length] at hpr
      refine ⟨_, rfl, Nn, _, rfl, .inl ⟨SqL.of gN, fun t ht => ?_⟩⟩
      have s2 := same_new ht (.tup (nV ns))
      exact q t ns lx pn1 _ (k1.same s2) (eb.kp (Kp.of s2) (s2 _ _ eb.l) (s2 _ _ eb.p) eb.len) llx kp upd_same (Paired.imp' (fun _ _ z => z.to s2) hpr)
end
end Nc

-- L1
set_option maxHeartbeats 4000000
namespace Nc
open PySem L2 C8
theorem nodup_inj {α : Type} : ∀ {l : List α} (_ : l.Nodup) {i j : Nat} {a : α}, l[i]? = some a → l[j]? = some a → i = j
  | [], _, _, _, _, h, _ => by simp at h
  | x :: r, nd, 0, 0, _, _, _ => rfl
  | x :: r, nd, 0, j + 1, a, h, h' => by
    obtain rfl := Option.some.inj h
    exact absurd (List.mem_of_getElem? (by simpa using h')) (List.nodup_cons.mp nd).1
  | x :: r, nd, i + 1, 0, a, h, h' => by
    obtain rfl := Option.some.inj h'
    exact absurd (List.mem_of_getElem? (by simpa using h)) (List.nodup_cons.mp nd).1
  | x :: r, nd, i + 1, j + 1, a, h, h' => by
    rw [nodup_inj (List.nodup_cons.mp nd).2 (i := i) (j := j) (by simpa using h) (by simpa using h')]
/-! ### several objects that stand, apart from each other -/
structure Reg (H : Hp) (l : List (Addr × HO)) : Prop where
  at_ : ∀ p ∈ l, H p.1 = some p.2
  nd : (l.map (·.1)).Nodup
theorem Reg.get {H : Hp} {l : List (Addr × HO)} (r : Reg H l) (i : Nat) {a : Addr} {o : HO} (h : l[i]? = some (a, o)) : H a = some o := r.at_ _ (List.mem_of_getElem? h)
theorem Reg.same {H H' : Hp} {l : List (Addr × HO)} (r : Reg H l) (s : Same H H') : Reg H' l := ⟨fun p hp => s _ _ (r.at_ p hp), r.nd⟩
theorem Reg.new {H : Hp} {l : List (Addr × HO)} (r : Reg H l) {p : Addr} (h : H p = none) (o : HO) : Reg (upd H p o) l := r.same (same_new h o)
theorem Reg.add {H : Hp} {l : List (Addr × HO)} (r : Reg H l) {p : Addr} (h : H p = none) (o : HO) : Reg (upd H p o) ((p, o) :: l) := by
  refine ⟨fun q hq => ?_, ?_⟩
  · rcases List.mem_cons.mp hq with rfl | hq
    · exact upd_same
    · exact (r.new h o).at_ q hq
  · rw [List.map_cons, List.nodup_cons]
    refine ⟨fun hm => ?_, r.nd⟩
    obtain ⟨q, hq, e⟩ := List.mem_map.mp hm
    have := r.at_ q hq
    rw [e, h] at this
    cases this
theorem Reg.upd {H : Hp} {l : List (Addr × HO)} (r : Reg H l) (i : Nat) {a : Addr} {o : HO} (h : l[i]? = some (a, o)) (o' : HO) : Reg (L2.upd H a o') (l.set i (a, o')) := by
  obtain ⟨hi, hg⟩ := List.getElem?_eq_some_iff.mp h
  have em : (l.set i (a, o')).map (·.1) = l.map (·.1) := by
    rw [List.map_set]
    refine set_self ?_
    rw [List.getElem?_map, h]
    rfl
  refine ⟨fun q hq => ?_, by rw [em]; exact r.nd⟩
  obtain ⟨j, hj⟩ := List.getElem?_of_mem hq
  by_cases e : j = i
  · subst e
    rw [List.getElem?_set_self hi] at hj
    obtain rfl := Option.some.inj hj
    exact upd_same
  · rw [List.getElem?_set_ne (Ne.symm e)] at hj
    have nd := r.nd
    have hj' : (l.map (·.1))[j]? = some q.1 := by rw [List.getElem?_map, hj]; rfl
    have hi' : (l.map (·.1))[i]? = some a := by rw [List.getElem?_map, h]; rfl
    have ne : q.1 ≠ a := fun z => by
      rw [z] at hj'
      exact e (nodup_inj nd hj' hi')
    rw [upd_ne ne]
    exact r.at_ q (List.mem_of_getElem? hj)
theorem Reg.kp {H H' : Hp} {l l' : List (Addr × HO)} {M : List Addr} (r : Reg H l) (k : Kp M H H') (h : ∀ p ∈ l', (p ∈ l ∧ p.1 ∉ M) ∨ H' p.1 = some p.2) (e : l'.map (·.1) = l.map (·.1)) : Reg H' l' :=
  ⟨fun p hp => (h p hp).elim (fun z => k _ _ z.2 (r.at_ p z.1)) id, by rw [e]; exact r.nd⟩
theorem Reg.ne {H : Hp} {l : List (Addr × HO)} (r : Reg H l) (i j : Nat) {a b : Addr} {o u : HO} (h : l[i]? = some (a, o)) (h' : l[j]? = some (b, u)) (n : i ≠ j) : a ≠ b := fun z => by
  have hj' : (l.map (·.1))[j]? = some b := by rw [List.getElem?_map, h']; rfl
  have hi' : (l.map (·.1))[i]? = some a := by rw [List.getElem?_map, h]; rfl
  rw [z] at hi'
  exact n (nodup_inj r.nd hi' hj')
/-- a walk over enumerate(tuple) -/
theorem for_enumT {K : PySem.W.Frag} {a : Addr} {xs : List V} {g : TG} {tb : TS} {D : Ends} {σ : L2.St} {H : Hp} (Pv : Nat → L2.St → Hp → Prop) (h0 : Pv 0 σ H) (hl : ∀ i σ H, i ≤ xs.length → Pv i σ H → SqT K H a xs)
    (hs : ∀ i x t σ H, xs[i]? = some x → Pv i σ H → H t = none → g (.ref t) σ (L2.upd H t (.tup [.int (i : Nat), x])) fun σ2 H2 => tb { D with nx := Pv (i + 1), ct := Pv (i + 1), bk := D.nx } σ2 H2) (hd : ∀ σ H, Pv xs.length σ H → D.nx σ H) :
    ∃ W : Nat → Nat → L2.St → Hp → Prop, (∃ m, W 0 m σ H) ∧ ∀ i m σ H, W i m σ H →
      ((IteT K a).stop i H ∧ D.nx σ H) ∨ ((IteT K a).go i H ∧ ∃ N : L2.St → Hp → Prop, (∀ σ' H', N σ' H' → ∃ m', m' < m ∧ W (i + 1) m' σ' H') ∧ ∀ x H', (IteT K a).yld i H x H' → g x σ H' fun σ2 H2 => tb { D with nx := N, ct := N, bk := D.nx } σ2 H2) := by
  refine ⟨fun i m σ H => m = xs.length - i ∧ i ≤ xs.length ∧ Pv i σ H, ⟨xs.length, by simp, Nat.zero_le _, h0⟩, ?_⟩
  rintro i m σ H ⟨rfl, hi, p⟩
  have q := hl i σ H hi p
  by_cases hlt : i < xs.length
  · refine .inr ⟨⟨xs, xs[i], q, by simp [hlt]⟩, Pv (i + 1), fun σ' H' p' => ⟨xs.length - (i + 1), by omega, rfl, hlt, p'⟩, fun x H' y => ?_⟩
    obtain ⟨t, z, rfl, ht, rfl, hz⟩ := y
    exact hs i z t σ _ (hz xs q) p ht
  · have e : i = xs.length := by omega
    subst e
    exact .inl ⟨⟨xs, q, Nat.le_refl _⟩, hd σ H p⟩
end Nc

-- D18
set_option maxHeartbeats 4000000
namespace Nc
open PySem L2 C8
theorem Kp.free {l : List Addr} {H H' : Hp} (k : Kp l H H') {p : Addr} (h : H' p = none) (n : p ∉ l) : H p = none := by
  cases e : H p with
  | none => rfl
  | some u =>
    have := k p u n e
    rw [h] at this
    cases this
theorem Kp.drop {l : List Addr} {H H' : Hp} {q : Addr} (k : Kp (q :: l) H H') (h : H q = none) : Kp l H H' := fun a u ha hu => k a u (by
  intro z
  rcases List.mem_cons.mp z with rfl | z
  · rw [h] at hu
    cases hu
  · exact ha z) hu
section
variable {P : Program} {w : World} {K : PySem.W.Frag} {mg : Str → Option Value} {base : Heap}
/-! ### Engine -/
abbrev N_Engine_init : List Str := ["self", "house", "index", "asset", "contract", "places", "place", "variable", "proc"]
theorem sc_Engine_init : FnScope N_Engine_init ["self", "house"] (defScope s_Engine_init) := ⟨rfl, rfl, rfl, by decide +kernel, rfl, by decide +kernel, by decide +kernel⟩
def spEng (K : PySem.W.Frag) : Sp := fun vs H Q _ => ∃ (e dx eh : Addr) (h : HH), vs = [.ref e, .ref eh] ∧ H e = some (.ins (He.ga K "Engine") dx []) ∧ HouseAt K H eh h ∧ h.fit ∧
  ∀ ln pn H', SameX e H H' → EngAt K H' e h ln pn → Q .non H'
structure ConM (M : List Addr) (H : Hp) (h : HH) (ln pn pls szs : List V) (bo : List (List Key × V)) (i : Nat) (b : Bool) : Prop where
  pl : ∃ q, pls[i]? = some (.ref q) ∧ H q = some (.dK (plK (h.cc b))) ∧ q ∉ M
  sz : ∃ q, szs[i]? = some (.ref q) ∧ H q = some (.lst (if (h.cc b).hv then [.int (h.cc b).size] else [])) ∧ q ∉ M
  bo : ∀ s sh l, (h.cc b).proc = some (s, sh, l) → ∃ u ns, valV bo [.inr (ctN b), .inr "p"] = some (.ref u) ∧ H u = some (.tup (nV ns)) ∧ Paired (Num H ln pn i b) ns l
theorem ConM.mono {M : List Addr} {H H' : Hp} {h : HH} {ln pn pls szs lx pn' px sx : List V} {bo bo' : List (List Key × V)} {i : Nat} {b : Bool} (c : ConM M H h ln pn pls szs bo i b) (k : Kp M H H') (t : TpS H H') (kp : Keeps pn pn') (hb : valV bo' [.inr (ctN b), .inr "p"] = valV bo [.inr (ctN b), .inr "p"]) : ConM M H' h (ln ++ lx) pn' (pls ++ px) (szs ++ sx) bo' i b := by
  refine ⟨?_, ?_, fun s sh l hp => ?_⟩
  · obtain ⟨q, h1, h2, h3⟩ := c.pl
    exact ⟨q, get_app h1, k _ _ h3 h2, h3⟩
  · obtain ⟨q, h1, h2, h3⟩ := c.sz
    exact ⟨q, get_app h1, k _ _ h3 h2, h3⟩
  · obtain ⟨u, ns, h1, h2, h3⟩ := c.bo s sh l hp
    exact ⟨u, ns, by rw [hb, h1], t.t _ _ h2, Paired.imp' (fun _ _ z => z.mono t fun j v hj _ => kp j v hj) h3⟩
def regE (K : PySem.W.Frag) (e dx eh p1 p2 p3 p4 p5 p6 p7 p8 : Addr) (kA kC : List (Key × V)) (kP : List (List Key × V)) (pls szs ln pn : List V) (bo : List (List Key × V)) : List (Addr × HO) :=
  [(p8, .dT bo), (p7, .lst pn), (p6, .lst ln), (p5, .lst szs), (p4, .lst pls), (p3, .dT kP), (p2, .dK kC), (p1, .dK kA), (e, .ins (He.ga K "Engine") dx (fEngine (.ref eh) (.ref p1) (.ref p2) (.ref p3) (.ref p4) (.ref p5) (.ref p6) (.ref p7) (.ref p8)))]
theorem putK_len' {κ : Type} [DecidableEq κ] (kvs : List (κ × V)) (k : κ) (v : V) : (putK kvs k v).length ≤ kvs.length + 1 := by
  unfold putK
  split
  · rw [List.length_map]; omega
  · rw [List.length_append]; exact Nat.le_refl _
theorem sz' {i : Nat} (h : i < 2) : i < sizeLine := Nat.lt_of_lt_of_le h (by decide)
theorem ok_Engine_init (T : Tx K mg) : Mak P w K mg base 3 "Engine" (He.ga K "Engine") (spEng K) [] := by
  have m_Engine_numbered : Met P w K mg base 2 (He.ga K "Engine") "numbered" (spNum K 2) [] := ok_numbered T 2
  refine mak_of T 12 rfl T.g_Engine T.mk_Engine sc_Engine_init (fun _ _ _ _ _ _ us hl => match us, hl with | [_, _], _ => rfl) (fun vs H Q E h => ?_) (fun cdv A outer s H vs Q E hr h => ?_)
  · obtain ⟨_, _, _, _, rfl, _⟩ := h
    rfl
  obtain ⟨e, dx, eh, h, rfl, he, hh, fit, q⟩ := h
  have hu := hu_of hr
  refine ⟨_, (pss_cons (ps_fld (pv 0) (pv 1) rfl)
    (pss_cons (ps_fld (pv 0) pe_dnewK rfl)
    (pss_cons (ps_fld (pv 0) pe_dnewK rfl)
    (pss_cons (ps_fld (pv 0) pe_dnewT rfl)
    (pss_cons (ps_fld (pv 0) (pe_lst pa_nil) rfl)
    (pss_cons (ps_fld (pv 0) (pe_lst pa_nil) rfl)
    (pss_cons (ps_fld (pv 0) (pe_lst pa_nil) rfl)
    (pss_cons (ps_fld (pv 0) (pe_lst pa_nil) rfl)
    (pss_cons (ps_fld (pv 0) pe_dnewT rfl)
    (pss_cons (ps_for PassesOwn.never rfl (pi_enumT rfl T.f_enumerate (pa_cons (pe_fld (pv 1) rfl) pa_nil)) (pg_tup rfl (pgs_cons (pg_name (i := 2) sc_Engine_init.nd rfl (Or.inl rfl)) (pgs_cons (pg_name (i := 3) sc_Engine_init.nd rfl (Or.inl rfl)) pgs_nil)))
    (pss_one (ps_dput hu (pe_fld (pv 0) rfl) (pe_ix ix_tup (pv 3) pe_int (fun _ _ => rfl)) (pv 2) rfl)))
    (pss_one (ps_for PassesOwn.never rfl (pi_enumT rfl T.f_enumerate (pa_cons (pe_fld (pv 1) rfl) pa_nil)) (pg_tup rfl (pgs_cons (pg_name (i := 2) sc_Engine_init.nd rfl (Or.inl rfl)) (pgs_cons (pg_name (i := 4) sc_Engine_init.nd rfl (Or.inl rfl)) pgs_nil)))
    (pss_cons (ps_dput hu (pe_fld (pv 0) rfl) (pe_ix ix_tup (pv 4) pe_int (fun _ _ => rfl)) (pv 2) rfl)
    (pss_cons (ps_set (i := 5) sc_Engine_init.nd rfl (Or.inl rfl) pe_dnewK)
    (pss_cons (ps_for PassesOwn.never rfl (pi_enumT rfl T.f_enumerate (pa_cons (pe_ix ix_tup (pv 4) pe_int (fun _ _ => rfl)) pa_nil)) (pg_tup rfl (pgs_cons (pg_name (i := 6) sc_Engine_init.nd rfl (Or.inl rfl)) (pgs_cons (pg_name (i := 7) sc_Engine_init.nd rfl (Or.inl rfl)) pgs_nil)))
    (pss_one (ps_dput hu (pv 5) (pe_ix ix_tup (pv 7) pe_int (fun _ _ => rfl)) (pv 6) rfl)))
    (pss_cons (ps_expr (pe_bm PySem.F.plainAttrs_list PySem.F.slot_list_append PySem.F.type_list_append mt_append (pe_fld (pv 0) rfl) (pa_cons (pv 5) pa_nil)))
    (pss_cons (ps_expr (pe_bm PySem.F.plainAttrs_list PySem.F.slot_list_append PySem.F.type_list_append mt_append (pe_fld (pv 0) rfl) (pa_cons (pe_lc (te := (tOp (rIxT K) (tVar 7) (tC (.int 1)))) (g := (gName 7)) (tt := tYes) (own := [("variable", 7)]) rfl sc_Engine_init.nd (pi_tup (pe_ix ix_tup (pv 4) pe_int (fun _ _ => rfl))) (blkOk_by (N := N_Engine_init) (sc := defScope s_Engine_init) (by decide +kernel)) (fun _ _ _ _ _ => (pg_name (i := 7) sc_Engine_init.nd rfl (Or.inl rfl))) (fun _ _ _ _ _ => pts_nil) (fun _ _ _ _ _ => (pe_ix ix_tup (pv 7) pe_int (fun _ _ => rfl)))) pa_nil)))
    (pss_one (ps_for PassesOwn.never rfl (pi_tup (pe_ix ix_tup (pv 4) pe_int (fun _ _ => rfl))) (pg_name (i := 8) sc_Engine_init.nd rfl (Or.inl rfl))
    (pss_cons (ps_dput hu (pe_fld (pv 0) rfl) (pe_tup (pa_cons (pe_ix ix_tup (pv 4) pe_int (fun _ _ => rfl)) (pa_cons (pe_ix ix_tup (pv 8) pe_int (fun _ _ => rfl)) pa_nil))) (pv 8) rfl)
    (pss_one (ps_dput hu (pe_fld (pv 0) rfl) (pe_tup (pa_cons (pe_ix ix_tup (pv 4) pe_int (fun _ _ => rfl)) (pa_cons (pe_ix ix_tup (pv 8) pe_int (fun _ _ => rfl)) pa_nil))) (pe_mt m_Engine_numbered hr (by decide) (pv 0) (pa_cons (pv 2) (pa_cons (pe_ix ix_tup (pv 8) pe_int (fun _ _ => rfl)) pa_nil))) rfl)))))))))))))))))))))), ?_⟩
  refine ⟨_, rfl, _, rfl, e, _, _, _, rfl, he, T.cl_Engine, T.na_Engine_house, len0, ?_⟩
  rw [gEngine_house]
  have k0 : Kp [e] H (upd H e (.ins (He.ga K "Engine") dx [(("house" : Str), V.ref eh)])) := Kp.refl.upd mem1
  have r0 : Reg (upd H e (.ins (He.ga K "Engine") dx [(("house" : Str), V.ref eh)])) [(e, .ins (He.ga K "Engine") dx [(("house" : Str), V.ref eh)])] := ⟨fun p hp => by obtain rfl := List.mem_singleton.mp hp; exact upd_same, by simp⟩
  generalize upd H e (.ins (He.ga K "Engine") dx [(("house" : Str), V.ref eh)]) = H0 at k0 r0 ⊢
  refine fun p1 n1 => ?_
  have t1 : Reg (upd H0 p1 (.dK [])) ((p1, .dK []) :: [(e, .ins (He.ga K "Engine") dx [(("house" : Str), V.ref eh)])]) := r0.add n1 (.dK [])
  refine ⟨_, rfl, e, _, _, _, rfl, t1.get 1 rfl, T.cl_Engine, T.na_Engine_assets, (show 1 < 1000 by decide), ?_⟩
  rw [gEngine_assets]
  have f1 : H p1 = none := k0.free n1 (nmem1 (ne_of_none (r0.get 0 rfl) n1).symm)
  have k1 : Kp [e] H (upd (upd H0 p1 (.dK [])) e (.ins (He.ga K "Engine") dx [(("house" : Str), V.ref eh), (("assets" : Str), V.ref p1)])) := (k0.new n1 _).upd mem1
  have r1 : Reg (upd (upd H0 p1 (.dK [])) e (.ins (He.ga K "Engine") dx [(("house" : Str), V.ref eh), (("assets" : Str), V.ref p1)])) [(p1, .dK []), (e, .ins (He.ga K "Engine") dx [(("house" : Str), V.ref eh), (("assets" : Str), V.ref p1)])] := t1.upd 1 rfl _
  generalize upd (upd H0 p1 (.dK [])) e (.ins (He.ga K "Engine") dx [(("house" : Str), V.ref eh), (("assets" : Str), V.ref p1)]) = H1 at k1 r1 ⊢
  refine fun p2 n2 => ?_
  have t2 : Reg (upd H1 p2 (.dK [])) ((p2, .dK []) :: [(p1, .dK []), (e, .ins (He.ga K "Engine") dx [(("house" : Str), V.ref eh), (("assets" : Str), V.ref p1)])]) := r1.add n2 (.dK [])
  refine ⟨_, rfl, e, _, _, _, rfl, t2.get 2 rfl, T.cl_Engine, T.na_Engine_contracts, (show 2 < 1000 by decide), ?_⟩
  rw [gEngine_contracts]
  have f2 : H p2 = none := k1.free n2 (nmem1 (ne_of_none (r1.get 1 rfl) n2).symm)
  have k2 : Kp [e] H (upd (upd H1 p2 (.dK [])) e (.ins (He.ga K "Engine") dx [(("house" : Str), V.ref eh), (("assets" : Str), V.ref p1), (("contracts" : Str), V.ref p2)])) := (k1.new n2 _).upd mem1
  have r2 : Reg (upd (upd H1 p2 (.dK [])) e (.ins (He.ga K "Engine") dx [(("house" : Str), V.ref eh), (("assets" : Str), V.ref p1), (("contracts" : Str), V.ref p2)])) [(p2, .dK []), (p1, .dK []), (e, .ins (He.ga K "Engine") dx [(("house" : Str), V.ref eh), (("assets" : Str), V.ref p1), (("contracts" : Str), V.ref p2)])] := t2.upd 2 rfl _
  generalize upd (upd H1 p2 (.dK [])) e (.ins (He.ga K "Engine") dx [(("house" : Str), V.ref eh), (("assets" : Str), V.ref p1), (("contracts" : Str), V.ref p2)]) = H2 at k2 r2 ⊢
  refine fun p3 n3 => ?_
  have t3 : Reg (upd H2 p3 (.dT [])) ((p3, .dT []) :: [(p2, .dK []), (p1, .dK []), (e, .ins (He.ga K "Engine") dx [(("house" : Str), V.ref eh), (("assets" : Str), V.ref p1), (("contracts" : Str), V.ref p2)])]) := r2.add n3 (.dT [])
  refine ⟨_, rfl, e, _, _, _, rfl, t3.get 3 rfl, T.cl_Engine, T.na_Engine_procs, (show 3 < 1000 by decide), ?_⟩
  rw [gEngine_procs]
  have f3 : H p3 = none := k2.free n3 (nmem1 (ne_of_none (r2.get 2 rfl) n3).symm)
  have k3 : Kp [e] H (upd (upd H2 p3 (.dT [])) e (.ins (He.ga K "Engine") dx [(("house" : Str), V.ref eh), (("assets" : Str), V.ref p1), (("contracts" : Str), V.ref p2), (("procs" : Str), V.ref p3)])) := (k2.new n3 _).upd mem1
  have r3 : Reg (upd (upd H2 p3 (.dT [])) e (.ins (He.ga K "Engine") dx [(("house" : Str), V.ref eh), (("assets" : Str), V.ref p1), (("contracts" : Str), V.ref p2), (("procs" : Str), V.ref p3)])) [(p3, .dT []), (p2, .dK []), (p1, .dK []), (e, .ins (He.ga K "Engine") dx [(("house" : Str), V.ref eh), (("assets" : Str), V.ref p1), (("contracts" : Str), V.ref p2), (("procs" : Str), V.ref p3)])] := t3.upd 3 rfl _
  generalize upd (upd H2 p3 (.dT [])) e (.ins (He.ga K "Engine") dx [(("house" : Str), V.ref eh), (("assets" : Str), V.ref p1), (("contracts" : Str), V.ref p2), (("procs" : Str), V.ref p3)]) = H3 at k3 r3 ⊢
  refine ⟨by show 0 ≤ sizeLine; decide, fun p4 n4 => ?_⟩
  have t4 : Reg (upd H3 p4 (.lst [])) ((p4, .lst []) :: [(p3, .dT []), (p2, .dK []), (p1, .dK []), (e, .ins (He.ga K "Engine") dx [(("house" : Str), V.ref eh), (("assets" : Str), V.ref p1), (("contracts" : Str), V.ref p2), (("procs" : Str), V.ref p3)])]) := r3.add n4 (.lst [])
  refine ⟨_, rfl, e, _, _, _, rfl, t4.get 4 rfl, T.cl_Engine, T.na_Engine_places, (show 4 < 1000 by decide), ?_⟩
  rw [gEngine_places]
  have f4 : H p4 = none := k3.free n4 (nmem1 (ne_of_none (r3.get 3 rfl) n4).symm)
  have k4 : Kp [e] H (upd (upd H3 p4 (.lst [])) e (.ins (He.ga K "Engine") dx [(("house" : Str), V.ref eh), (("assets" : Str), V.ref p1), (("contracts" : Str), V.ref p2), (("procs" : Str), V.ref p3), (("places" : Str), V.ref p4)])) := (k3.new n4 _).upd mem1
  have r4 : Reg (upd (upd H3 p4 (.lst [])) e (.ins (He.ga K "Engine") dx [(("house" : Str), V.ref eh), (("assets" : Str), V.ref p1), (("contracts" : Str), V.ref p2), (("procs" : Str), V.ref p3), (("places" : Str), V.ref p4)])) [(p4, .lst []), (p3, .dT []), (p2, .dK []), (p1, .dK []), (e, .ins (He.ga K "Engine") dx [(("house" : Str), V.ref eh), (("assets" : Str), V.ref p1), (("contracts" : Str), V.ref p2), (("procs" : Str), V.ref p3), (("places" : Str), V.ref p4)])] := t4.upd 4 rfl _
  generalize upd (upd H3 p4 (.lst [])) e (.ins (He.ga K "Engine") dx [(("house" : Str), V.ref eh), (("assets" : Str), V.ref p1), (("contracts" : Str), V.ref p2), (("procs" : Str), V.ref p3), (("places" : Str), V.ref p4)]) = H4 at k4 r4 ⊢
  refine ⟨by show 0 ≤ sizeLine; decide, fun p5 n5 => ?_⟩
  have t5 : Reg (upd H4 p5 (.lst [])) ((p5, .lst []) :: [(p4, .lst []), (p3, .dT []), (p2, .dK []), (p1, .dK []), (e, .ins (He.ga K "Engine") dx [(("house" : Str), V.ref eh), (("assets" : Str), V.ref p1), (("contracts" : Str), V.ref p2), (("procs" : Str), V.ref p3), (("places" : Str), V.ref p4)])]) := r4.add n5 (.lst [])
  refine ⟨_, rfl, e, _, _, _, rfl, t5.get 5 rfl, T.cl_Engine, T.na_Engine_sizes, (show 5 < 1000 by decide), ?_⟩
  rw [gEngine_sizes]
  have f5 : H p5 = none := k4.free n5 (nmem1 (ne_of_none (r4.get 4 rfl) n5).symm)
  have k5 : Kp [e] H (upd (upd H4 p5 (.lst [])) e (.ins (He.ga K "Engine") dx [(("house" : Str), V.ref eh), (("assets" : Str), V.ref p1), (("contracts" : Str), V.ref p2), (("procs" : Str), V.ref p3), (("places" : Str), V.ref p4), (("sizes" : Str), V.ref p5)])) := (k4.new n5 _).upd mem1
  have r5 : Reg (upd (upd H4 p5 (.lst [])) e (.ins (He.ga K "Engine") dx [(("house" : Str), V.ref eh), (("assets" : Str), V.ref p1), (("contracts" : Str), V.ref p2), (("procs" : Str), V.ref p3), (("places" : Str), V.ref p4), (("sizes" : Str), V.ref p5)])) [(p5, .lst []), (p4, .lst []), (p3, .dT []), (p2, .dK []), (p1, .dK []), (e, .ins (He.ga K "Engine") dx [(("house" : Str), V.ref eh), (("assets" : Str), V.ref p1), (("contracts" : Str), V.ref p2), (("procs" : Str), V.ref p3), (("places" : Str), V.ref p4), (("sizes" : Str), V.ref p5)])] := t5.upd 5 rfl _
  generalize upd (upd H4 p5 (.lst [])) e (.ins (He.ga K "Engine") dx [(("house" : Str), V.ref eh), (("assets" : Str), V.ref p1), (("contracts" : Str), V.ref p2), (("procs" : Str), V.ref p3), (("places" : Str), V.ref p4), (("sizes" : Str), V.ref p5)]) = H5 at k5 r5 ⊢
  refine ⟨by show 0 ≤ sizeLine; decide, fun p6 n6 => ?_⟩
  have t6 : Reg (upd H5 p6 (.lst [])) ((p6, .lst []) :: [(p5, .lst []), (p4, .lst []), (p3, .dT []), (p2, .dK []), (p1, .dK []), (e, .ins (He.ga K "Engine") dx [(("house" : Str), V.ref eh), (("assets" : Str), V.ref p1), (("contracts" : Str), V.ref p2), (("procs" : Str), V.ref p3), (("places" : Str), V.ref p4), (("sizes" : Str), V.ref p5)])]) := r5.add n6 (.lst [])
  refine ⟨_, rfl, e, _, _, _, rfl, t6.get 6 rfl, T.cl_Engine, T.na_Engine_lines, (show 6 < 1000 by decide), ?_⟩
  rw [gEngine_lines]
  have f6 : H p6 = none := k5.free n6 (nmem1 (ne_of_none (r5.get 5 rfl) n6).symm)
  have k6 : Kp [e] H (upd (upd H5 p6 (.lst [])) e (.ins (He.ga K "Engine") dx [(("house" : Str), V.ref eh), (("assets" : Str), V.ref p1), (("contracts" : Str), V.ref p2), (("procs" : Str), V.ref p3), (("places" : Str), V.ref p4), (("sizes" : Str), V.ref p5), (("lines" : Str), V.ref p6)])) := (k5.new n6 _).upd mem1
  have r6 : Reg (upd (upd H5 p6 (.lst [])) e (.ins (He.ga K "Engine") dx [(("house" : Str), V.ref eh), (("assets" : Str), V.ref p1), (("contracts" : Str), V.ref p2), (("procs" : Str), V.ref p3), (("places" : Str), V.ref p4), (("sizes" : Str), V.ref p5), (("lines" : Str), V.ref p6)])) [(p6, .lst []), (p5, .lst []), (p4, .lst []), (p3, .dT []), (p2, .dK []), (p1, .dK []), (e, .ins (He.ga K "Engine") dx [(("house" : Str), V.ref eh), (("assets" : Str), V.ref p1), (("contracts" : Str), V.ref p2), (("procs" : Str), V.ref p3), (("places" : Str), V.ref p4), (("sizes" : Str), V.ref p5), (("lines" : Str), V.ref p6)])] := t6.upd 6 rfl _
  generalize upd (upd H5 p6 (.lst [])) e (.ins (He.ga K "Engine") dx [(("house" : Str), V.ref eh), (("assets" : Str), V.ref p1), (("contracts" : Str), V.ref p2), (("procs" : Str), V.ref p3), (("places" : Str), V.ref p4), (("sizes" : Str), V.ref p5), (("lines" : Str), V.ref p6)]) = H6 at k6 r6 ⊢
  refine ⟨by show 0 ≤ sizeLine; decide, fun p7 n7 => ?_⟩
  have t7 : Reg (upd H6 p7 (.lst [])) ((p7, .lst []) :: [(p6, .lst []), (p5, .lst []), (p4, .lst []), (p3, .dT []), (p2, .dK []), (p1, .dK []), (e, .ins (He.ga K "Engine") dx [(("house" : Str), V.ref eh), (("assets" : Str), V.ref p1), (("contracts" : Str), V.ref p2), (("procs" : Str), V.ref p3), (("places" : Str), V.ref p4), (("sizes" : Str), V.ref p5), (("lines" : Str), V.ref p6)])]) := r6.add n7 (.lst [])
  refine ⟨_, rfl, e, _, _, _, rfl, t7.get 7 rfl, T.cl_Engine, T.na_Engine_parts, (show 7 < 1000 by decide), ?_⟩
  rw [gEngine_parts]
  have f7 : H p7 = none := k6.free n7 (nmem1 (ne_of_none (r6.get 6 rfl) n7).symm)
  have k7 : Kp [e] H (upd (upd H6 p7 (.lst [])) e (.ins (He.ga K "Engine") dx [(("house" : Str), V.ref eh), (("assets" : Str), V.ref p1), (("contracts" : Str), V.ref p2), (("procs" : Str), V.ref p3), (("places" : Str), V.ref p4), (("sizes" : Str), V.ref p5), (("lines" : Str), V.ref p6), (("parts" : Str), V.ref p7)])) := (k6.new n7 _).upd mem1
  have r7 : Reg (upd (upd H6 p7 (.lst [])) e (.ins (He.ga K "Engine") dx [(("house" : Str), V.ref eh), (("assets" : Str), V.ref p1), (("contracts" : Str), V.ref p2), (("procs" : Str), V.ref p3), (("places" : Str), V.ref p4), (("sizes" : Str), V.ref p5), (("lines" : Str), V.ref p6), (("parts" : Str), V.ref p7)])) [(p7, .lst []), (p6, .lst []), (p5, .lst []), (p4, .lst []), (p3, .dT []), (p2, .dK []), (p1, .dK []), (e, .ins (He.ga K "Engine") dx [(("house" : Str), V.ref eh), (("assets" : Str), V.ref p1), (("contracts" : Str), V.ref p2), (("procs" : Str), V.ref p3), (("places" : Str), V.ref p4), (("sizes" : Str), V.ref p5), (("lines" : Str), V.ref p6), (("parts" : Str), V.ref p7)])] := t7.upd 7 rfl _
  generalize upd (upd H6 p7 (.lst [])) e (.ins (He.ga K "Engine") dx [(("house" : Str), V.ref eh), (("assets" : Str), V.ref p1), (("contracts" : Str), V.ref p2), (("procs" : Str), V.ref p3), (("places" : Str), V.ref p4), (("sizes" : Str), V.ref p5), (("lines" : Str), V.ref p6), (("parts" : Str), V.ref p7)]) = H7 at k7 r7 ⊢
  refine fun p8 n8 => ?_
  have t8 : Reg (upd H7 p8 (.dT [])) ((p8, .dT []) :: [(p7, .lst []), (p6, .lst []), (p5, .lst []), (p4, .lst []), (p3, .dT []), (p2, .dK []), (p1, .dK []), (e, .ins (He.ga K "Engine") dx [(("house" : Str), V.ref eh), (("assets" : Str), V.ref p1), (("contracts" : Str), V.ref p2), (("procs" : Str), V.ref p3), (("places" : Str), V.ref p4), (("sizes" : Str), V.ref p5), (("lines" : Str), V.ref p6), (("parts" : Str), V.ref p7)])]) := r7.add n8 (.dT [])
  refine ⟨_, rfl, e, _, _, _, rfl, t8.get 8 rfl, T.cl_Engine, T.na_Engine_bodies, (show 8 < 1000 by decide), ?_⟩
  rw [gEngine_bodies]
  have f8 : H p8 = none := k7.free n8 (nmem1 (ne_of_none (r7.get 7 rfl) n8).symm)
  have k8 : Kp [e] H (upd (upd H7 p8 (.dT [])) e (.ins (He.ga K "Engine") dx [(("house" : Str), V.ref eh), (("assets" : Str), V.ref p1), (("contracts" : Str), V.ref p2), (("procs" : Str), V.ref p3), (("places" : Str), V.ref p4), (("sizes" : Str), V.ref p5), (("lines" : Str), V.ref p6), (("parts" : Str), V.ref p7), (("bodies" : Str), V.ref p8)])) := (k7.new n8 _).upd mem1
  have r8 : Reg (upd (upd H7 p8 (.dT [])) e (.ins (He.ga K "Engine") dx [(("house" : Str), V.ref eh), (("assets" : Str), V.ref p1), (("contracts" : Str), V.ref p2), (("procs" : Str), V.ref p3), (("places" : Str), V.ref p4), (("sizes" : Str), V.ref p5), (("lines" : Str), V.ref p6), (("parts" : Str), V.ref p7), (("bodies" : Str), V.ref p8)])) [(p8, .dT []), (p7, .lst []), (p6, .lst []), (p5, .lst []), (p4, .lst []), (p3, .dT []), (p2, .dK []), (p1, .dK []), (e, .ins (He.ga K "Engine") dx [(("house" : Str), V.ref eh), (("assets" : Str), V.ref p1), (("contracts" : Str), V.ref p2), (("procs" : Str), V.ref p3), (("places" : Str), V.ref p4), (("sizes" : Str), V.ref p5), (("lines" : Str), V.ref p6), (("parts" : Str), V.ref p7), (("bodies" : Str), V.ref p8)])] := t8.upd 8 rfl _
  generalize upd (upd H7 p8 (.dT [])) e (.ins (He.ga K "Engine") dx [(("house" : Str), V.ref eh), (("assets" : Str), V.ref p1), (("contracts" : Str), V.ref p2), (("procs" : Str), V.ref p3), (("places" : Str), V.ref p4), (("sizes" : Str), V.ref p5), (("lines" : Str), V.ref p6), (("parts" : Str), V.ref p7), (("bodies" : Str), V.ref p8)]) = H8 at k8 r8 ⊢
  -- the assets
  obtain ⟨hdx, va, vc, hhe, hha, hhc⟩ := hh
  obtain ⟨aa, ax, rfl, haa, hax⟩ := Rp.tupE hha
  obtain ⟨cc, cx, rfl, hcc, hcx⟩ := Rp.tupE hhc
  have ts8 : TpS H H8 := k8.ts (fun z hz => by obtain rfl := List.mem_singleton.mp hz; rw [he]; exact id)
  have ehe : eh ≠ e := ne_of hhe he (fun z => by
    have h1 := congrArg (fun o => match o with | .ins _ _ fs => fs.length | _ => 0) z
    exact absurd h1 (show ¬ (2 = 0) by decide))
  have hh8 : H8 eh = some (.ins (He.ga K "House") hdx (fHouse (.ref aa) (.ref cc))) := k8 _ _ (nmem1 ehe) hhe
  have haa8 := ts8.t _ _ haa
  have hcc8 := ts8.t _ _ hcc
  have hax8 := Rps.ts ts8 _ _ hax
  have hcx8 := Rps.ts ts8 _ _ hcx
  clear hha hhc hax hcx haa hcc
  have fM : ∀ a u, H a = some u → a ∉ [p1, p2, p3, p4, p5, p6, p7, p8] := fun a u ha z => by
    simp only [List.mem_cons, List.not_mem_nil, or_false] at z
    rcases z with rfl | rfl | rfl | rfl | rfl | rfl | rfl | rfl
    · exact ne_of_none ha f1 rfl
    · exact ne_of_none ha f2 rfl
    · exact ne_of_none ha f3 rfl
    · exact ne_of_none ha f4 rfl
    · exact ne_of_none ha f5 rfl
    · exact ne_of_none ha f6 rfl
    · exact ne_of_none ha f7 rfl
    · exact ne_of_none ha f8 rfl
  have nt8 : ∀ z ∈ [p1, p2, p3, p4, p5, p6, p7, p8], ¬ IsTp (H8 z) := fun z hz => by
    simp only [List.mem_cons, List.not_mem_nil, or_false] at hz
    rcases hz with rfl | rfl | rfl | rfl | rfl | rfl | rfl | rfl
    · rw [r8.get 7 rfl]; exact id
    · rw [r8.get 6 rfl]; exact id
    · rw [r8.get 5 rfl]; exact id
    · rw [r8.get 4 rfl]; exact id
    · rw [r8.get 3 rfl]; exact id
    · rw [r8.get 2 rfl]; exact id
    · rw [r8.get 1 rfl]; exact id
    · rw [r8.get 0 rfl]; exact id
  have ehM := fM _ _ hhe
  have r8' : Reg H8 (regE K e dx eh p1 p2 p3 p4 p5 p6 p7 p8 [] [] [] [] [] [] [] []) := r8
  -- the first walk
  refine ⟨_, rfl, eh, _, hdx, _, _, rfl, hh8, T.cl_House, T.na_House_assets, fHouse_assets, aa, ax, rfl, SqT.tp haa8, for_enumT (xs := ax) (fun i σ H' => ∃ v2 v3, σ = [some (.ref e), some (.ref eh), v2, v3, none, none, none, none, none] ∧ Kp [p1, p2, p3, p4, p5, p6, p7, p8] H8 H' ∧ Reg H' (regE K e dx eh p1 p2 p3 p4 p5 p6 p7 p8 (assK.take i) [] [] [] [] [] [] []))
    ⟨none, none, rfl, Kp.refl, r8'⟩ (fun i σ H' _ ⟨_, _, _, k, _⟩ => SqT.tp (k.tup nt8 haa8)) ?_ ?_⟩
  · rintro i x t σ H' hi ⟨v2, v3, rfl, k, r⟩ ht
    obtain ⟨d, hd, rx⟩ := Rps.getV hax8 hi
    have hx : ∃ a1 nm y, x = .ref a1 ∧ H' a1 = some (.tup [.str nm, y]) ∧ putK (assK.take i) (.inr nm) (.int (i : Int)) = assK.take (i + 1) ∧ (assK.take i).length < sizeLine := by
      have rx' := Rp.ts (k.ts nt8) _ _ rx
      match i, hd with
      | 0, hd =>
        obtain rfl := Option.some.inj hd
        obtain ⟨a1, zs, rfl, g1, g2⟩ := Rp.tupE rx'
        obtain ⟨u1, s1, rfl, j1, g2⟩ := Rps.consE g2
        obtain ⟨u2, s2, rfl, j2, g2⟩ := Rps.consE g2
        obtain rfl := Rps.nilE g2
        obtain rfl := j1.strE
        exact ⟨a1, _, _, rfl, g1, by decide +kernel, by decide⟩
      | 1, hd =>
        obtain rfl := Option.some.inj hd
        obtain ⟨a1, zs, rfl, g1, g2⟩ := Rp.tupE rx'
        obtain ⟨u1, s1, rfl, j1, g2⟩ := Rps.consE g2
        obtain ⟨u2, s2, rfl, j2, g2⟩ := Rps.consE g2
        obtain rfl := Rps.nilE g2
        obtain rfl := j1.strE
        exact ⟨a1, _, _, rfl, g1, by decide +kernel, by decide⟩
      | i + 2, hd => simp at hd
    obtain ⟨a1, nm, y, rfl, ha1, ep, elen⟩ := hx
    have rt := r.new ht (.tup [.int (i : Nat), .ref a1])
    refine ⟨t, _, rfl, SqT.tp upd_same, rfl, _, _, rfl, _, _, rfl, rfl, ?_⟩
    refine ⟨_, rfl, _, rfl, e, _, dx, _, _, rfl, rt.get 8 rfl, T.cl_Engine, T.na_Engine_assets, fEngine_assets, _, rfl, a1, _, 0, _, rfl, rfl, SqT.tp (same_new ht _ _ _ ha1), rfl, p1, _, rfl, .inl ⟨_, .inr nm, rt.get 7 rfl, rfl, elen, rfl⟩, ?_⟩
    refine ⟨_, _, rfl, (k.new ht _).upd (by simp), ?_⟩
    rw [ep]
    exact rt.upd 7 rfl _
  rintro σ H1 ⟨v2, v3, rfl, k1', r1'⟩
  have lax : ax.length = 2 := by rw [Rps.length hax8]; rfl
  rw [lax] at r1'
  have ets : assK.take 2 = assK := rfl
  rw [ets] at r1'
  have h2p : h.pres.length ≤ 2 := h.pres_len
  have lcx : cx.length = h.pres.length := by rw [Rps.length hcx8, List.length_map]
  -- the second walk
  refine ⟨_, rfl, eh, _, hdx, _, _, rfl, k1' _ _ ehM hh8, T.cl_House, T.na_House_contracts, fHouse_contracts, cc, cx, rfl, SqT.tp (k1'.tup nt8 hcc8), for_enumT (xs := cx) (fun i σ H' => ∃ v2 v3 v4 v5 v6 v7 v8 kC kP pls szs ln pn bo, σ = [some (.ref e), some (.ref eh), v2, v3, v4, v5, v6, v7, v8] ∧ Kp [p1, p2, p3, p4, p5, p6, p7, p8] H8 H' ∧ Reg H' (regE K e dx eh p1 p2 p3 p4 p5 p6 p7 p8 assK kC kP pls szs ln pn bo) ∧
      (pls.length = i ∧ szs.length = i ∧ ln.length = pn.length ∧ ln.length ≤ i * 1000 ∧ kC.length ≤ i ∧ kP.length ≤ i ∧ bo.length ≤ i) ∧ ∀ (j : Nat) b, j < i → h.pres[j]? = some b → ConM [p1, p2, p3, p4, p5, p6, p7, p8] H' h ln pn pls szs bo j b)
    ⟨_, _, none, none, none, none, none, [], [], [], [], [], [], [], rfl, k1', r1', ⟨rfl, rfl, rfl, Nat.le_refl _, Nat.le_refl _, Nat.le_refl _, Nat.le_refl _⟩, fun j b hj => absurd hj (Nat.not_lt_zero _)⟩ (fun i σ H' _ ⟨_, _, _, _, _, _, _, _, _, _, _, _, _, _, _, k, _⟩ => SqT.tp (k.tup nt8 hcc8)) ?_ ?_⟩
  · rintro i x t σ H' hi ⟨v2, v3, v4, v5, v6, v7, v8, kC, kP, pls, szs, ln, pn, bo, rfl, k, r, ⟨l1, l2, l3, l4, l5, l6, l7⟩, con⟩ ht
    have il : i < 2 := by have := lt_of_get hi; omega
    obtain ⟨d, hd0, rx⟩ := Rps.getV hcx8 hi
    rw [List.getElem?_map] at hd0
    obtain ⟨b, hb, rfl⟩ := Option.map_eq_some_iff.mp hd0
    have rx' := Rp.ts (k.ts nt8) _ _ rx
    obtain ⟨y, w1, w2, w3, rfl, hy, m2, m3, m4⟩ := CC.dE rx'
    obtain ⟨av, xv, rfl, hav, lv, fv⟩ := varE m2
    obtain ⟨pa, px, rfl, hpa, lpx, fpx⟩ := prcE m4
    have rt := r.new ht (.tup [.int (i : Nat), .ref y])
    have st := same_new ht (.tup [.int (i : Nat), .ref y])
    refine ⟨t, _, rfl, SqT.tp upd_same, rfl, _, _, rfl, _, _, rfl, rfl, ?_⟩
    -- contracts
    refine ⟨_, rfl, _, rfl, e, _, dx, _, _, rfl, rt.get 8 rfl, T.cl_Engine, T.na_Engine_contracts, fEngine_contracts, _, rfl, y, _, 0, _, rfl, rfl, SqT.tp (st _ _ hy), rfl, p2, _, rfl, .inl ⟨_, .inr (ctN b), rt.get 6 rfl, rfl, Nat.lt_of_le_of_lt l5 (sz' il), rfl⟩, ?_⟩
    have rA : Reg (upd (upd H' t (.tup [.int (i : Nat), .ref y])) p2 (.dK (putK kC (.inr (ctN b)) (.int (i : Int))))) (regE K e dx eh p1 p2 p3 p4 p5 p6 p7 p8 assK (putK kC (.inr (ctN b)) (.int (i : Int))) kP pls szs ln pn bo) := rt.upd 6 rfl _
    have kA : Kp [p1, p2, p3, p4, p5, p6, p7, p8] H' (upd (upd H' t (.tup [.int (i : Nat), .ref y])) p2 (.dK (putK kC (.inr (ctN b)) (.int (i : Int))))) := (Kp.of st).upd (by simp)
    generalize upd (upd H' t (.tup [.int (i : Nat), .ref y])) p2 (.dK (putK kC (.inr (ctN b)) (.int (i : Int)))) = HA at rA kA ⊢
    have lkC : (putK kC (.inr (ctN b)) (.int (i : Int)) : List (Key × V)).length ≤ i + 1 := Nat.le_trans (putK_len' _ _ _) (by omega)
    generalize (putK kC (.inr (ctN b)) (.int (i : Int)) : List (Key × V)) = kC' at rA lkC
    have ntr : ∀ z ∈ [p1, p2, p3, p4, p5, p6, p7, p8], ¬ IsTp (H' z) := fun z hz => by
      simp only [List.mem_cons, List.not_mem_nil, or_false] at hz
      rcases hz with rfl | rfl | rfl | rfl | rfl | rfl | rfl | rfl
      · rw [r.get 7 rfl]; exact id
      · rw [r.get 6 rfl]; exact id
      · rw [r.get 5 rfl]; exact id
      · rw [r.get 4 rfl]; exact id
      · rw [r.get 3 rfl]; exact id
      · rw [r.get 2 rfl]; exact id
      · rw [r.get 1 rfl]; exact id
      · rw [r.get 0 rfl]; exact id
    -- places
    refine fun pq npq => ?_
    have rB := rA.add npq (.dK [])
    have kB := kA.new npq (.dK [])
    have hpq : H' pq = none := kA.free npq (fun z => by
      simp only [List.mem_cons, List.not_mem_nil, or_false] at z
      rcases z with rfl | rfl | rfl | rfl | rfl | rfl | rfl | rfl
      · exact ne_of_none (rA.get 7 rfl) npq rfl
      · exact ne_of_none (rA.get 6 rfl) npq rfl
      · exact ne_of_none (rA.get 5 rfl) npq rfl
      · exact ne_of_none (rA.get 4 rfl) npq rfl
      · exact ne_of_none (rA.get 3 rfl) npq rfl
      · exact ne_of_none (rA.get 2 rfl) npq rfl
      · exact ne_of_none (rA.get 1 rfl) npq rfl
      · exact ne_of_none (rA.get 0 rfl) npq rfl)
    have pqM : pq ∉ [p1, p2, p3, p4, p5, p6, p7, p8] := fun z => by
      simp only [List.mem_cons, List.not_mem_nil, or_false] at z
      rcases z with rfl | rfl | rfl | rfl | rfl | rfl | rfl | rfl
      · exact ne_of_none (rA.get 7 rfl) npq rfl
      · exact ne_of_none (rA.get 6 rfl) npq rfl
      · exact ne_of_none (rA.get 5 rfl) npq rfl
      · exact ne_of_none (rA.get 4 rfl) npq rfl
      · exact ne_of_none (rA.get 3 rfl) npq rfl
      · exact ne_of_none (rA.get 2 rfl) npq rfl
      · exact ne_of_none (rA.get 1 rfl) npq rfl
      · exact ne_of_none (rA.get 0 rfl) npq rfl
    have ntq : ∀ z ∈ [pq, p1, p2, p3, p4, p5, p6, p7, p8], ¬ IsTp (H' z) := fun z hz => by
      rcases List.mem_cons.mp hz with rfl | hz
      · rw [hpq]; exact id
      · exact ntr z hz
    refine ⟨_, rfl, y, _, 1, _, rfl, rfl, SqT.tp (kB.tup ntr hy), rfl, av, xv, rfl, SqT.tp (kB.tup ntr hav), for_enumT (xs := xv) (fun j σ Hc => ∃ v6 v7, σ = [some (.ref e), some (.ref eh), some (.int (i : Nat)), v3, some (.ref y), some (.ref pq), v6, v7, v8] ∧ Kp [pq, p1, p2, p3, p4, p5, p6, p7, p8] H' Hc ∧ Reg Hc ((pq, .dK ((plK (h.cc b)).take j)) :: regE K e dx eh p1 p2 p3 p4 p5 p6 p7 p8 assK kC' kP pls szs ln pn bo))
      ⟨v6, v7, rfl, kB.mono (fun z hz => List.mem_cons_of_mem _ hz), rB⟩ (fun j σ Hc _ ⟨_, _, _, kc, _⟩ => SqT.tp (kc.tup ntq hav)) ?_ ?_⟩
    · rintro j z tt σ Hc hj ⟨v6, v7, rfl, kc, rc⟩ htt
      obtain ⟨t', ss, ff, rfl, ht', rfl, hcv⟩ := fv j z hj
      have hv1 : (h.cc b).hv = true := by unfold CC.hv; rw [hcv]; rfl
      have epl : plK (h.cc b) = [(.inr "x", .int 0)] := by unfold plK; rw [if_pos hv1]
      rw [epl] at rc ⊢
      have rct := rc.new htt (.tup [.int ((0 : Nat) : Int), .ref t'])
      refine ⟨tt, _, rfl, SqT.tp upd_same, rfl, _, _, rfl, _, _, rfl, rfl, ?_⟩
      refine ⟨_, rfl, _, rfl, _, rfl, t', _, 0, _, rfl, rfl, SqT.tp (same_new htt _ _ _ (kc.tup ntq ht')), rfl, pq, _, rfl, .inl ⟨[], .inr "x", rct.get 0 rfl, rfl, (by show 0 < sizeLine; decide), rfl⟩, ?_⟩
      exact ⟨_, _, rfl, (kc.new htt _).upd (by simp), rct.upd 0 rfl _⟩
    rintro σ HC ⟨v6, v7, rfl, kC1, rC⟩
    have etk : (plK (h.cc b)).take xv.length = plK (h.cc b) := by
      rw [lv]
      unfold plK
      cases (h.cc b).hv <;> rfl
    rw [etk] at rC
    -- places.append
    refine ⟨_, rfl, e, _, dx, _, _, rfl, rC.get 9 rfl, T.cl_Engine, T.na_Engine_places, fEngine_places, .inl ⟨rfl, _, SqL.of (rC.get 5 rfl)⟩, _, rfl, p4, _, _, rfl, rfl, rC.get 5 rfl, szl _ (by omega), ?_⟩
    have rD : Reg (upd HC p4 (.lst (pls ++ [.ref pq]))) ((pq, .dK (plK (h.cc b))) :: regE K e dx eh p1 p2 p3 p4 p5 p6 p7 p8 assK kC' kP (pls ++ [.ref pq]) szs ln pn bo) := rC.upd 5 rfl _
    have kD : Kp [pq, p1, p2, p3, p4, p5, p6, p7, p8] H' (upd HC p4 (.lst (pls ++ [.ref pq]))) := kC1.upd (by simp)
    generalize upd HC p4 (.lst (pls ++ [.ref pq])) = HD at rD kD ⊢
    -- sizes.append
    refine ⟨_, rfl, e, _, dx, _, _, rfl, rD.get 9 rfl, T.cl_Engine, T.na_Engine_sizes, fEngine_sizes, .inl ⟨rfl, _, SqL.of (rD.get 4 rfl)⟩, _, rfl, y, _, 1, _, rfl, rfl, SqT.tp (kD.tup ntq hy), rfl, av, rfl, ⟨_, SqT.tp (kD.tup ntq hav)⟩, fun D hD => lcF_tup (acc := fun j => (if (h.cc b).hv then [V.int (h.cc b).size] else []).take j) rfl (kD.tup ntq hav) hD ?_ ?_⟩
    · rintro j z hj
      obtain ⟨t', ss, ff, rfl, ht', rfl, hcv⟩ := fv j z hj
      have hv1 : (h.cc b).hv = true := by unfold CC.hv; rw [hcv]; rfl
      have hs1 : (h.cc b).size = ss := by unfold CC.size; rw [hcv]; rfl
      rw [if_pos hv1, hs1]
      exact ⟨rfl, _, rfl, t', _, 1, _, rfl, rfl, SqT.tp (same_new hD _ _ _ (kD.tup ntq ht')), rfl, take_end (ys := [V.int ss]) rfl (show 1 ≤ 1000 by decide)⟩
    have ets2 : (if (h.cc b).hv then [V.int (h.cc b).size] else []).take xv.length = if (h.cc b).hv then [V.int (h.cc b).size] else [] := by
      rw [lv]
      cases (h.cc b).hv <;> rfl
    rw [ets2]
    have rD2 := rD.add hD (.lst (if (h.cc b).hv then [V.int (h.cc b).size] else []))
    have hDM : D ∉ [pq, p1, p2, p3, p4, p5, p6, p7, p8] := fun z => by
      simp only [List.mem_cons, List.not_mem_nil, or_false] at z
      rcases z with rfl | rfl | rfl | rfl | rfl | rfl | rfl | rfl | rfl
      · exact ne_of_none (rD.get 0 rfl) hD rfl
      · exact ne_of_none (rD.get 8 rfl) hD rfl
      · exact ne_of_none (rD.get 7 rfl) hD rfl
      · exact ne_of_none (rD.get 6 rfl) hD rfl
      · exact ne_of_none (rD.get 5 rfl) hD rfl
      · exact ne_of_none (rD.get 4 rfl) hD rfl
      · exact ne_of_none (rD.get 3 rfl) hD rfl
      · exact ne_of_none (rD.get 2 rfl) hD rfl
      · exact ne_of_none (rD.get 1 rfl) hD rfl
    have hDn : H' D = none := kD.free hD hDM
    refine ⟨p5, _, _, rfl, rfl, rD2.get 5 rfl, szl _ (by omega), ?_⟩
    have rE : Reg (upd (upd HD D (.lst (if (h.cc b).hv then [V.int (h.cc b).size] else []))) p5 (.lst (szs ++ [.ref D]))) ((D, .lst (if (h.cc b).hv then [V.int (h.cc b).size] else [])) :: (pq, .dK (plK (h.cc b))) :: regE K e dx eh p1 p2 p3 p4 p5 p6 p7 p8 assK kC' kP (pls ++ [.ref pq]) (szs ++ [.ref D]) ln pn bo) := rD2.upd 5 rfl _
    have kE : Kp [pq, p1, p2, p3, p4, p5, p6, p7, p8] H' (upd (upd HD D (.lst (if (h.cc b).hv then [V.int (h.cc b).size] else []))) p5 (.lst (szs ++ [.ref D]))) := (kD.new hD _).upd (by simp)
    generalize upd (upd HD D (.lst (if (h.cc b).hv then [V.int (h.cc b).size] else []))) p5 (.lst (szs ++ [.ref D])) = HE at rE kE ⊢
    -- the procedures
    refine ⟨_, rfl, y, _, 3, _, rfl, rfl, SqT.tp (kE.tup ntq hy), rfl, pa, rfl, ⟨_, SqT.tp (kE.tup ntq hpa)⟩, for_tup (xs := px) (fun j σ Hc => ∃ v8' lx pn' kP' bo', σ = [some (.ref e), some (.ref eh), some (.int (i : Nat)), v3, some (.ref y), some (.ref pq), v6, v7, v8'] ∧ Kp [pq, p1, p2, p3, p4, p5, p6, p7, p8] H' Hc ∧
        Reg Hc ((D, .lst (if (h.cc b).hv then [V.int (h.cc b).size] else [])) :: (pq, .dK (plK (h.cc b))) :: regE K e dx eh p1 p2 p3 p4 p5 p6 p7 p8 assK kC' kP' (pls ++ [.ref pq]) (szs ++ [.ref D]) (ln ++ lx) pn' bo') ∧
        (lx.length ≤ j * 1000 ∧ (ln ++ lx).length = pn'.length ∧ kP'.length ≤ i + j ∧ bo'.length ≤ i + j) ∧ Keeps pn pn' ∧ (∀ b', b' ≠ b → valV bo' [.inr (ctN b'), .inr "p"] = valV bo [.inr (ctN b'), .inr "p"]) ∧
        (0 < j → ∀ s sh l, (h.cc b).proc = some (s, sh, l) → ∃ u ns, valV bo' [.inr (ctN b), .inr "p"] = some (.ref u) ∧ Hc u = some (.tup (nV ns)) ∧ Paired (Num Hc (ln ++ lx) pn' i b) ns l))
      ⟨v8, [], pn, kP, bo, rfl, kE, by rw [List.append_nil]; exact rE, ⟨Nat.zero_le _, by rw [List.append_nil]; exact l3, l6, l7⟩, Keeps.refl _, fun _ _ => rfl, fun z => absurd z (Nat.lt_irrefl _)⟩ (fun j σ Hc _ ⟨_, _, _, _, _, _, kc, _⟩ => SqT.tp (kc.tup ntq hpa)) ?_ ?_⟩
    · rintro j z σ Hc hj ⟨v8', lx, pn', kP', bo', rfl, kc, rc, ⟨q1, q2, q3, q4⟩, kp, ob, _⟩
      obtain ⟨t', ss, sh, wb, l, rfl, ht', rfl, hpr, hwb, _⟩ := fpx j z hj
      obtain ⟨f1', f2', f3', f4', f5'⟩ := (HH.ccfit fit b).proc _ hpr
      have f3'' : l.length ≤ 3 := f3'
      have tsc := kc.ts ntq
      have hyc := tsc.t _ _ hy
      have htc := tsc.t _ _ ht'
      refine ⟨_, rfl, _, rfl, e, _, dx, _, _, rfl, rc.get 10 rfl, T.cl_Engine, T.na_Engine_procs, fEngine_procs, _, rfl, y, _, 0, _, rfl, rfl, SqT.tp hyc, rfl, _, rfl, t', _, 0, _, rfl, rfl, SqT.tp htc, rfl, by show 2 ≤ sizeLine; decide, fun kk hkk => ?_⟩
      have s1 := same_new hkk (.tup [.str (ctN b), .str "p"])
      have rc1 := rc.same s1
      refine ⟨p3, _, rfl, .inr ⟨kP', [.inr (ctN b), .inr "p"], kk, rc1.get 7 rfl, rfl, upd_same, szl _ (by omega), rfl⟩, ?_⟩
      have rc2 : Reg (upd (upd Hc kk (.tup [.str (ctN b), .str "p"])) p3 (.dT (putK kP' [.inr (ctN b), .inr "p"] (.ref t')))) ((D, .lst (if (h.cc b).hv then [V.int (h.cc b).size] else [])) :: (pq, .dK (plK (h.cc b))) :: regE K e dx eh p1 p2 p3 p4 p5 p6 p7 p8 assK kC' (putK kP' [.inr (ctN b), .inr "p"] (.ref t')) (pls ++ [.ref pq]) (szs ++ [.ref D]) (ln ++ lx) pn' bo') := rc1.upd 7 rfl _
      have kc2 : Kp [pq, p1, p2, p3, p4, p5, p6, p7, p8] H' (upd (upd Hc kk (.tup [.str (ctN b), .str "p"])) p3 (.dT (putK kP' [.inr (ctN b), .inr "p"] (.ref t')))) := (kc.same s1).upd (by simp)
      have lkP : (putK kP' [.inr (ctN b), .inr "p"] (.ref t') : List (List Key × V)).length ≤ i + 1 := Nat.le_trans (putK_len' _ _ _) (by omega)
      generalize upd (upd Hc kk (.tup [.str (ctN b), .str "p"])) p3 (.dT (putK kP' [.inr (ctN b), .inr "p"] (.ref t'))) = H2 at rc2 kc2 ⊢
      generalize (putK kP' [.inr (ctN b), .inr "p"] (.ref t') : List (List Key × V)) = kP2 at rc2 lkP
      have ts2 := kc2.ts ntq
      -- bodies
      have lln : (ln ++ lx).length ≤ 2000 := by rw [List.length_append]; omega
      refine ⟨_, rfl, e, dx, _, rfl, rc2.get 10 rfl, fEngine_no_numbered, _, rfl, _, rfl, t', _, 3, _, rfl, rfl, SqT.tp (ts2.t _ _ ht'), rfl, ?_⟩
      refine ⟨e, p6, p7, ln ++ lx, pn', wb, b, (h.cc b).hv, l, i, rfl, by decide, Nat.le_refl _, ⟨⟨dx, _, rc2.get 10 rfl, fEngine_lines, fEngine_parts, fEngine_no_numbered⟩, rc2.get 4 rfl, rc2.get 3 rfl, rc2.ne 4 3 rfl rfl (by decide), q2⟩, Rp.ts ts2 _ _ hwb, fun s hs => ⟨f4' s hs, s.lev2⟩, by omega, by omega, fun tb ns lx2 pn2 H3 k3 eb3 ll3 kp3 gtb hp3 => ?_⟩
      have l10 : lx2.length ≤ 300 := by have : (10 : Nat) ^ 2 = 100 := rfl; rw [this] at ll3; omega
      have nm6 : ∀ a, a ≠ p6 → a ≠ p7 → a ∉ [p6, p7] := fun a h1 h2 z => by
        simp only [List.mem_cons, List.not_mem_nil, or_false] at z
        rcases z with z | z
        · exact h1 z
        · exact h2 z
      have rc3 : Reg H3 ((D, .lst (if (h.cc b).hv then [V.int (h.cc b).size] else [])) :: (pq, .dK (plK (h.cc b))) :: regE K e dx eh p1 p2 p3 p4 p5 p6 p7 p8 assK kC' kP2 (pls ++ [.ref pq]) (szs ++ [.ref D]) (ln ++ lx ++ lx2) pn2 bo') := by
        refine rc2.kp k3 (fun p hp => ?_) rfl
        unfold regE at hp ⊢
        simp only [List.mem_cons, List.not_mem_nil, or_false] at hp
        rcases hp with rfl | rfl | rfl | rfl | rfl | rfl | rfl | rfl | rfl | rfl | rfl
        · exact .inl ⟨by simp, nm6 _ (rc2.ne 0 4 rfl rfl (by decide)) (rc2.ne 0 3 rfl rfl (by decide))⟩
        · exact .inl ⟨by simp, nm6 _ (rc2.ne 1 4 rfl rfl (by decide)) (rc2.ne 1 3 rfl rfl (by decide))⟩
        · exact .inl ⟨by simp, nm6 _ (rc2.ne 2 4 rfl rfl (by decide)) (rc2.ne 2 3 rfl rfl (by decide))⟩
        · exact .inr eb3.p
        · exact .inr eb3.l
        · exact .inl ⟨by simp, nm6 _ (rc2.ne 5 4 rfl rfl (by decide)) (rc2.ne 5 3 rfl rfl (by decide))⟩
        · exact .inl ⟨by simp, nm6 _ (rc2.ne 6 4 rfl rfl (by decide)) (rc2.ne 6 3 rfl rfl (by decide))⟩
        · exact .inl ⟨by simp, nm6 _ (rc2.ne 7 4 rfl rfl (by decide)) (rc2.ne 7 3 rfl rfl (by decide))⟩
        · exact .inl ⟨by simp, nm6 _ (rc2.ne 8 4 rfl rfl (by decide)) (rc2.ne 8 3 rfl rfl (by decide))⟩
        · exact .inl ⟨by simp, nm6 _ (rc2.ne 9 4 rfl rfl (by decide)) (rc2.ne 9 3 rfl rfl (by decide))⟩
        · exact .inl ⟨by simp, nm6 _ (rc2.ne 10 4 rfl rfl (by decide)) (rc2.ne 10 3 rfl rfl (by decide))⟩
      have kc3 : Kp [pq, p1, p2, p3, p4, p5, p6, p7, p8] H' H3 := kc2.trans (k3.mono (by simp))
      have ts3 := kc3.ts ntq
      refine ⟨_, rfl, e, _, dx, _, _, rfl, rc3.get 10 rfl, T.cl_Engine, T.na_Engine_bodies, fEngine_bodies, _, rfl, y, _, 0, _, rfl, rfl, SqT.tp (ts3.t _ _ hy), rfl, _, rfl, t', _, 0, _, rfl, rfl, SqT.tp (ts3.t _ _ ht'), rfl, by show 2 ≤ sizeLine; decide, fun kk hkk => ?_⟩
      have s4 := same_new hkk (.tup [.str (ctN b), .str "p"])
      have rc4 := rc3.same s4
      refine ⟨p8, _, rfl, .inr ⟨bo', [.inr (ctN b), .inr "p"], kk, rc4.get 2 rfl, rfl, upd_same, szl _ (by omega), rfl⟩, ?_⟩
      have t5 : TpS H3 (upd (upd H3 kk (.tup [.str (ctN b), .str "p"])) p8 (.dT (putK bo' [.inr (ctN b), .inr "p"] (.ref tb)))) := (TpS.of s4).upd (by rw [rc4.get 2 rfl]; exact id)
      refine ⟨_, lx ++ lx2, pn2, kP2, _, rfl, (kc3.same s4).upd (by simp), by rw [← List.append_assoc]; exact rc4.upd 2 rfl _, ⟨by rw [List.length_append]; omega, by rw [← List.append_assoc]; exact eb3.len, by omega, Nat.le_trans (putK_len' _ _ _) (by omega)⟩, kp.trans kp3, fun b' hb' => ?_, fun _ s' sh' l' hp' => ?_⟩
      · rw [valV_put, if_neg, ob b' hb']
        intro z
        have := Sum.inr.inj (List.cons.inj z).1
        cases b <;> cases b'
        · exact hb' rfl
        · exact absurd this (by decide +kernel)
        · exact absurd this (by decide +kernel)
        · exact hb' rfl
      · rw [hpr] at hp'
        cases hp'
        refine ⟨tb, ns, by rw [valV_put, if_pos rfl], t5.t _ _ gtb, ?_⟩
        rw [← List.append_assoc]
        refine Paired.imp' (fun _ _ z => ?_) hp3
        have := Num.mono (lx := []) (pn' := pn2) z t5 (fun j v hj _ => hj)
        rw [List.append_nil] at this
        exact this
    · rintro σ HF ⟨v8', lx, pn', kP', bo', rfl, kc, rc, ⟨q1, q2, q3, q4⟩, kp, ob, hbo⟩
      have lpx1 : px.length ≤ 1 := by rw [lpx]; split <;> decide
      have kF : Kp [p1, p2, p3, p4, p5, p6, p7, p8] H' HF := kc.drop hpq
      have rF : Reg HF (regE K e dx eh p1 p2 p3 p4 p5 p6 p7 p8 assK kC' kP' (pls ++ [.ref pq]) (szs ++ [.ref D]) (ln ++ lx) pn' bo') := ⟨fun p hp => rc.at_ p (List.mem_cons_of_mem _ (List.mem_cons_of_mem _ hp)), (List.nodup_cons.mp (List.nodup_cons.mp rc.nd).2).2⟩
      refine ⟨_, _, _, _, _, _, _, kC', kP', _, _, _, pn', bo', rfl, k.trans kF, rF, ⟨by rw [len_snoc, l1], by rw [len_snoc, l2], q2, by rw [List.length_append]; omega, by omega, by omega, by omega⟩, fun j b' hj hb' => ?_⟩
      by_cases eji : j = i
      · subst eji
        rw [hb] at hb'
        obtain rfl := Option.some.inj hb'
        refine ⟨⟨pq, by rw [← l1]; exact get_app_r, rc.get 1 rfl, pqM⟩, ⟨D, by rw [← l2]; exact get_app_r, rc.get 0 rfl, fun z => hDM (List.mem_cons_of_mem _ z)⟩, fun s sh l hp => hbo ?_ s sh l hp⟩
        rw [lpx, hp]
        exact Nat.zero_lt_one
      · refine (con j b' (by omega) hb').mono kF (kF.ts ntr) kp (ob b' fun z => ?_)
        subst z
        rcases HH.pres_at hb with ⟨e1, e2⟩ | ⟨e1, e2⟩
        · omega
        · rw [e1] at hb'
          exact eji ((bs2_eq hb' e2).mp rfl)
  · rintro σ HF ⟨v2', v3', v4', v5', v6', v7', v8', kC, kP, pls, szs, ln, pn, bo, rfl, k, r, _, con⟩
    have kk := k.same (Same.refl _)
    refine q ln pn HF (fun a u ha hu => k _ _ (fM _ _ hu) (k8 _ _ (nmem1 ha) hu)) ⟨dx, eh, p1, p2, p3, p4, p5, p6, p7, p8, pls, szs, bo, r.get 8 rfl, ⟨hdx, _, _, k _ _ ehM hh8, Rp.ts (k.ts nt8) _ _ (.tup haa8 hax8), Rp.ts (k.ts nt8) _ _ (.tup hcc8 hcx8)⟩, r.get 7 rfl, r.get 4 rfl, r.get 3 rfl, r.get 2 rfl, r.get 1 rfl, r.get 0 rfl, fun i b hb => ?_⟩
    have c := con i b (by rw [lcx]; exact lt_of_get hb) hb
    obtain ⟨q1, g1, g2, _⟩ := c.pl
    obtain ⟨q2, g3, g4, _⟩ := c.sz
    exact ⟨⟨q1, g1, g2⟩, ⟨q2, g3, g4⟩, c.bo⟩
end
end Nc

-- D19
set_option maxHeartbeats 4000000
namespace Nc
open PySem L2 C8
/-! ### the entries -/
def EntAt (H : Hp) (v : V) (p : Bool × Int) : Prop := ∃ t, v = .ref t ∧ H t = some (.tup [.str (ctN p.1), .str "p", .int p.2])
theorem EntAt.ts {H H' : Hp} {v : V} {p : Bool × Int} (k : EntAt H v p) (t : TpS H H') : EntAt H' v p := by
  obtain ⟨a, e, h⟩ := k
  exact ⟨a, e, t.t _ _ h⟩
def entB (h : HH) (b : Bool) : List (Bool × Int) := match (h.cc b).proc with
  | some (s, true, _) => (List.range s.toNat).map fun (k : Nat) => (b, (k : Int))
  | _ => []
def HH.ents (h : HH) : List (Bool × Int) := h.pres.flatMap (entB h)
theorem entB_len {h : HH} (f : h.fit) (b : Bool) : (entB h b).length ≤ 3 := by
  unfold entB
  cases hp : (h.cc b).proc with
  | none => exact Nat.zero_le _
  | some p =>
    obtain ⟨s, sh, l⟩ := p
    obtain ⟨h1, h2, _⟩ := (HH.ccfit f b).proc _ hp
    cases sh
    · exact Nat.zero_le _
    · show ((List.range s.toNat).map _).length ≤ 3
      rw [List.length_map, List.length_range]
      have : s ≤ 3 := h2
      omega
section
variable {P : Program} {w : World} {K : PySem.W.Frag} {mg : Str → Option Value} {base : Heap}
abbrev N_Engine_entries : List Str := ["self", "found", "contract", "name", "size", "shown", "_", "given"]
theorem sc_Engine_entries : FnScope N_Engine_entries ["self"] (defScope s_Engine_entries) := ⟨rfl, rfl, rfl, by decide +kernel, rfl, by decide +kernel, by decide +kernel⟩
def spEnts (K : PySem.W.Frag) : Sp := fun vs H Q _ => ∃ (en : Addr) (h : HH) (ln pn : List V), vs = [.ref en] ∧ EngAt K H en h ln pn ∧ h.fit ∧ ∀ p es H', Same H H' → H p = none → H' p = some (.lst es) → Paired (EntAt H') es h.ents → Q (.ref p) H'
theorem ok_entries (T : Tx K mg) : Met P w K mg base 1 (He.ga K "Engine") "entries" (spEnts K) [] := by
  refine met_of T 14 rfl T.cl_Engine T.me_Engine_entries sc_Engine_entries (fun _ _ _ _ _ _ us hl => match us, hl with | [_], _ => rfl) (fun vs H Q E h => ?_) (fun cdv A outer s H vs Q E hr h => ?_)
  · obtain ⟨_, _, _, _, rfl, _⟩ := h
    rfl
  obtain ⟨en, h, ln, pn, rfl, heng, fit, q⟩ := h
  obtain ⟨dx, eh, aA, aC, aP, aPl, aS, aL, aPa, aB, pls, szs, bo, z1, ⟨hdx, va, vc, hhe, hha, hhc⟩, _⟩ := heng.ex
  obtain ⟨cc, cx, rfl, hcc, hcx⟩ := Rp.tupE hhc
  have h2p : h.pres.length ≤ 2 := h.pres_len
  have lcx : cx.length = h.pres.length := by rw [Rps.length hcx, List.length_map]
  refine ⟨_, (pss_cons (ps_set (i := 1) sc_Engine_entries.nd rfl (Or.inl rfl) (pe_lst pa_nil))
    (pss_cons (ps_for PassesOwn.never rfl (pi_tup (pe_fld (pe_fld (pv 0) rfl) rfl)) (pg_name (i := 2) sc_Engine_entries.nd rfl (Or.inr rfl))
    (pss_one (ps_for PassesOwn.never rfl (pi_tup (pe_ix ix_tup (pv 2) pe_int (fun _ _ => rfl))) (pg_tup rfl (pgs_cons (pg_name (i := 3) sc_Engine_entries.nd rfl (Or.inr rfl)) (pgs_cons (pg_name (i := 4) sc_Engine_entries.nd rfl (Or.inl rfl)) (pgs_cons (pg_name (i := 5) sc_Engine_entries.nd rfl (Or.inl rfl)) (pgs_cons (pg_name (i := 6) sc_Engine_entries.nd rfl (Or.inl rfl)) pgs_nil)))))
    (pss_one (ps_if (pt_val (pv 5))
    (pss_one (ps_expr (pe_bm PySem.F.plainAttrs_list PySem.F.slot_list_extend PySem.F.type_list_extend mt_extend (pv 1) (pa_cons (pe_lc (te := (tTup (tCons (tOp (rIxT K) (tVar 2) (tC (.int 0))) (tCons (tVar 3) (tCons (tVar 7) tNil))))) (g := (gName 7)) (tt := tYes) (own := [("given", 7)]) rfl sc_Engine_entries.nd (pi_range1 rfl T.f_range (pa_cons (pv 4) pa_nil)) (blkOk_by (N := N_Engine_entries) (sc := defScope s_Engine_entries) (by decide +kernel)) (fun _ _ _ _ _ => (pg_name (i := 7) sc_Engine_entries.nd rfl (Or.inl rfl))) (fun _ _ _ _ _ => pts_nil) (fun _ _ _ _ _ => (pe_tup (pa_cons (pe_ix ix_tup (pv 2) pe_int (fun _ _ => rfl)) (pa_cons (pv 3) (pa_cons (pv 7) pa_nil)))))) pa_nil))))
    pss_nil)))))
    (pss_one (ps_ret (pv 1))))), ?_⟩
  refine ⟨by show 0 ≤ sizeLine; decide, fun F nF => ?_⟩
  have s1 := same_new nF (.lst [])
  refine ⟨_, rfl, en, _, dx, _, _, rfl, s1 _ _ z1, T.cl_Engine, T.na_Engine_house, fEngine_house, eh, _, hdx, _, _, rfl, s1 _ _ hhe, T.cl_House, T.na_House_contracts, fHouse_contracts, cc, rfl, ⟨_, SqT.tp (s1 _ _ hcc)⟩, for_tup (xs := cx) (fun i σ H' => ∃ v2 v3 v4 v5 v6 es, σ = [some (.ref en), some (.ref F), v2, v3, v4, v5, v6, none] ∧ Same H H' ∧ H' F = some (.lst es) ∧ es.length ≤ 3 * i ∧ Paired (EntAt H') es ((h.pres.take i).flatMap (entB h)))
    ⟨none, none, none, none, none, [], rfl, s1, upd_same, Nat.le_refl _, by rw [List.take_zero]; exact .nil⟩ (fun i σ H' _ ⟨_, _, _, _, _, _, _, s, _⟩ => SqT.tp (s _ _ hcc)) ?_ ?_⟩
  · rintro i x σ H' hi ⟨v2, v3, v4, v5, v6, es, rfl, s2, gF, les, pes⟩
    obtain ⟨d, hd0, rx⟩ := Rps.getV hcx hi
    rw [List.getElem?_map] at hd0
    obtain ⟨b, hb, rfl⟩ := Option.map_eq_some_iff.mp hd0
    have il : i < 2 := by have := lt_of_get hb; omega
    obtain ⟨y, w1, w2, w3, rfl, hy, m2, m3, m4⟩ := CC.dE (rx.to s2)
    obtain ⟨pa, px, rfl, hpa, lpx, fpx⟩ := prcE m4
    have etake : (h.pres.take (i + 1)).flatMap (entB h) = (h.pres.take i).flatMap (entB h) ++ entB h b := by
      rw [List.take_add_one, hb, List.flatMap_append]
      show _ ++ (entB h b ++ []) = _
      rw [List.append_nil]
    refine ⟨_, rfl, y, _, 3, _, rfl, rfl, SqT.tp hy, rfl, pa, rfl, ⟨_, SqT.tp hpa⟩, for_tup (xs := px) (fun j σ Hc => ∃ v3 v4 v5 v6 es, σ = [some (.ref en), some (.ref F), some (.ref y), v3, v4, v5, v6, none] ∧ Kp [F] H' Hc ∧ Hc F = some (.lst es) ∧ es.length ≤ 3 * i + 3 * j ∧ Paired (EntAt Hc) es ((h.pres.take i).flatMap (entB h) ++ if 0 < j then entB h b else []))
      ⟨v3, v4, v5, v6, es, rfl, Kp.refl, gF, by omega, by rw [if_neg (Nat.lt_irrefl _), List.append_nil]; exact pes⟩ (fun j σ Hc _ ⟨_, _, _, _, _, _, kc, _⟩ => SqT.tp (kc.tup (nTp1 gF) hpa)) ?_ ?_⟩
    · rintro j z σ Hc hj ⟨v3, v4, v5, v6, es, rfl, kc, gF2, les2, pes2⟩
      obtain ⟨t', ss, sh, wb, l, rfl, ht', rfl, hpr, hwb, _⟩ := fpx j z hj
      rw [if_neg (Nat.lt_irrefl _), List.append_nil] at pes2
      rw [if_pos (Nat.zero_lt_succ _)]
      have hyc := kc.tup (nTp1 gF) hy
      obtain ⟨q1, q2, _⟩ := (HH.ccfit fit b).proc _ hpr
      have q1' : 1 ≤ ss := q1
      have q2' : ss ≤ 3 := q2
      refine ⟨t', _, rfl, SqT.tp (kc.tup (nTp1 gF) ht'), rfl, _, _, rfl, _, _, rfl, _, _, rfl, _, _, rfl, rfl, ?_⟩
      refine ⟨_, rfl, _, rfl, ?_⟩
      cases sh with
      | false =>
        refine iteF ?_
        refine ⟨_, _, _, _, es, rfl, kc, gF2, by omega, ?_⟩
        have : entB h b = [] := by unfold entB; rw [hpr]
        rw [this, List.append_nil]
        exact pes2
      | true =>
        refine iteT ?_
        have eB : entB h b = (List.range ss.toNat).map fun (k : Nat) => (b, (k : Int)) := by unfold entB; rw [hpr]
        refine ⟨_, rfl, .inl ⟨rfl, _, SqL.of gF2⟩, _, rfl, ss, rfl, by omega, by omega, fun D hD => lc_range (fun k Hk => ∃ acc, Same Hc Hk ∧ Hk D = some (.lst acc) ∧ acc.length = k ∧ Paired (EntAt Hk) acc ((List.range k).map fun (k : Nat) => (b, (k : Int)))) ⟨[], same_new hD _, upd_same, rfl, .nil⟩ ?_ ?_⟩
        · rintro k Hk hk ⟨acc, s3, gD, lacc, pacc⟩
          refine ⟨rfl, _, rfl, y, _, 0, _, rfl, rfl, SqT.tp (s3 _ _ hyc), rfl, _, rfl, _, rfl, by show 3 ≤ sizeLine; decide, fun p hp => ?_⟩
          have gD2 := same_new hp (.tup [.str (ctN b), .str "p", .int (0 + (k : Nat))]) _ _ gD
          refine ⟨acc, gD2, szl _ (by omega), acc ++ [.ref p], ?_, upd_same, by rw [len_snoc, lacc], ?_⟩
          · exact same_mut (s3.trans (same_new hp _)) hD
          · have ts : TpS Hk (upd (upd Hk p (.tup [.str (ctN b), .str "p", .int (0 + (k : Nat))])) D (.lst (acc ++ [.ref p]))) := ((TpS.refl _).new hp).upd (by rw [gD2]; exact id)
            rw [List.range_succ, List.map_append]
            refine paired_snoc (Paired.imp' (fun _ _ z => z.ts ts) pacc) ⟨p, rfl, (upd_ne (ne_of_none gD hp).symm).trans ?_⟩
            rw [upd_same, Int.zero_add]
        · rintro Hk ⟨acc, s3, gD, lacc, pacc⟩
          have lacc' : acc.length ≤ 3 := by omega
          refine ⟨F, D, es, acc, rfl, rfl, s3 _ _ gF2, gD, sz _ (by omega), ?_⟩
          have ts : TpS Hk (upd Hk F (.lst (es ++ acc))) := (TpS.refl _).upd (by rw [s3 _ _ gF2]; exact id)
          refine ⟨_, _, _, _, es ++ acc, rfl, (kc.same s3).upd mem1, upd_same, by rw [List.length_append]; omega, ?_⟩
          rw [eB]
          exact paired_app (Paired.imp' (fun _ _ z => z.ts ((TpS.of s3).trans ts)) pes2) (Paired.imp' (fun _ _ z => z.ts ts) pacc)
    · rintro σ Hc ⟨v3', v4', v5', v6', es', rfl, kc, gF2, les2, pes2⟩
      have lpx1 : px.length ≤ 1 := by rw [lpx]; split <;> decide
      refine ⟨_, _, _, _, _, es', rfl, fun a u hu => kc _ _ (nmem1 (ne_of_none hu nF)) (s2 _ _ hu), gF2, by omega, ?_⟩
      rw [etake]
      have ee : (if 0 < px.length then entB h b else []) = entB h b := by
        cases hp : (h.cc b).proc with
        | none =>
          have : entB h b = [] := by unfold entB; rw [hp]
          rw [this]
          split <;> rfl
        | some p => rw [lpx, hp]; rfl
      rw [ee] at pes2
      exact pes2
  · rintro σ H' ⟨v2, v3, v4, v5, v6, es, rfl, s2, gF, les, pes⟩
    rw [lcx, List.take_length] at pes
    exact ⟨_, rfl, q F es H' s2 nF gF pes⟩
end
end Nc

-- M4
set_option maxHeartbeats 4000000
/-! the plain side: states, keys, rows -/
namespace Nc
open PySem L2
/-! ### data of ints: keys and equality -/
def kI (ns : List Int) : NestedKey := .tup (ns.map .num)
def kII (rs : List (List Int)) : NestedKey := .tup (rs.map kI)
def kS (h : HH) (g : GG) : NestedKey := .tup [kII (h.vals g), kII (h.amts g), kI [g.1.o, g.2.o]]
theorem datas_num : ∀ ns : List Int, NestedKey.datas (ns.map .num) = ns.map PyData.int
  | [] => rfl
  | n :: r => by
    show PyData.int n :: NestedKey.datas (r.map .num) = _
    rw [datas_num r]
    rfl
theorem kI_data (ns : List Int) : (kI ns).data = dI ns := by
  show PyData.tuple (NestedKey.datas (ns.map .num)) = _
  rw [datas_num]
  rfl
theorem datas_kI : ∀ rs : List (List Int), NestedKey.datas (rs.map kI) = rs.map dI
  | [] => rfl
  | n :: r => by
    show (kI n).data :: NestedKey.datas (r.map kI) = _
    rw [datas_kI r, kI_data]
    rfl
theorem kII_data (rs : List (List Int)) : (kII rs).data = dII rs := by
  show PyData.tuple (NestedKey.datas (rs.map kI)) = _
  rw [datas_kI]
  rfl
theorem kS_data (h : HH) (g : GG) : (kS h g).data = h.dS g := by
  show PyData.tuple [(kII (h.vals g)).data, (kII (h.amts g)).data, (kI [g.1.o, g.2.o]).data] = _
  rw [kII_data, kII_data, kI_data]
  rfl
theorem depthAll_num : ∀ ns : List Int, NestedKey.depthAll (ns.map .num) = 0
  | [] => rfl
  | n :: r => by
    show max 0 (NestedKey.depthAll (r.map .num)) = 0
    rw [depthAll_num r]
    rfl
theorem kI_depth (ns : List Int) : (kI ns).depth = 1 := by
  show NestedKey.depthAll (ns.map .num) + 1 = 1
  rw [depthAll_num]
theorem depthAll_kI : ∀ rs : List (List Int), NestedKey.depthAll (rs.map kI) ≤ 1
  | [] => Nat.zero_le _
  | n :: r => by
    show max (kI n).depth (NestedKey.depthAll (r.map kI)) ≤ 1
    rw [kI_depth]
    have := depthAll_kI r
    omega
theorem kII_depth (rs : List (List Int)) : (kII rs).depth ≤ 2 := by
  show NestedKey.depthAll (rs.map kI) + 1 ≤ 2
  have := depthAll_kI rs
  omega
theorem kS_depth (h : HH) (g : GG) : (kS h g).depth ≤ 3 := by
  show max (kII (h.vals g)).depth (max (kII (h.amts g)).depth (max (kI [g.1.o, g.2.o]).depth 0)) + 1 ≤ 3
  have h1 := kII_depth (h.vals g)
  have h2 := kII_depth (h.amts g)
  rw [kI_depth]
  omega
theorem num_inj : ∀ {a b : List Int}, a.map NestedKey.num = b.map NestedKey.num → a = b
  | [], [], _ => rfl
  | _ :: _, [], e => nomatch e
  | [], _ :: _, e => nomatch e
  | x :: r, y :: s, e => by
    rw [NestedKey.num.inj (List.cons.inj e).1, num_inj (List.cons.inj e).2]
theorem kI_inj {a b : List Int} (e : kI a = kI b) : a = b := num_inj (NestedKey.tup.inj e)
theorem kIs_inj : ∀ {a b : List (List Int)}, a.map kI = b.map kI → a = b
  | [], [], _ => rfl
  | _ :: _, [], e => nomatch e
  | [], _ :: _, e => nomatch e
  | x :: r, y :: s, e => by
    rw [kI_inj (List.cons.inj e).1, kIs_inj (List.cons.inj e).2]
theorem kII_inj {a b : List (List Int)} (e : kII a = kII b) : a = b := kIs_inj (NestedKey.tup.inj e)
/-- two states look alike -/
def Like (h : HH) (g g' : GG) : Prop := h.vals g = h.vals g' ∧ h.amts g = h.amts g' ∧ g.1.o = g'.1.o ∧ g.2.o = g'.2.o
theorem kS_like {h : HH} {g g' : GG} (e : kS h g = kS h g') : Like h g g' := by
  have e1 := NestedKey.tup.inj e
  have e2 := (List.cons.inj e1).2
  have e3 := (List.cons.inj e2).2
  have e4 := kI_inj (List.cons.inj e3).1
  exact ⟨kII_inj (List.cons.inj e1).1, kII_inj (List.cons.inj e2).1, (List.cons.inj e4).1, (List.cons.inj (List.cons.inj e4).2).1⟩
theorem eqvAll_int : ∀ a b : List Int, PyData.eqvAll (a.map .int) (b.map .int) = true ↔ a = b
  | [], [] => ⟨fun _ => rfl, fun _ => rfl⟩
  | _ :: _, [] => ⟨fun e => (nomatch e), fun e => (nomatch e)⟩
  | [], _ :: _ => ⟨fun e => (nomatch e), fun e => (nomatch e)⟩
  | x :: r, y :: s => by
    show ((x == y) && PyData.eqvAll (r.map .int) (s.map .int)) = true ↔ _
    rw [Bool.and_eq_true, eqvAll_int r s, beq_iff_eq, List.cons.injEq]
theorem eqvAll_dI : ∀ a b : List (List Int), PyData.eqvAll (a.map dI) (b.map dI) = true ↔ a = b
  | [], [] => ⟨fun _ => rfl, fun _ => rfl⟩
  | _ :: _, [] => ⟨fun e => (nomatch e), fun e => (nomatch e)⟩
  | [], _ :: _ => ⟨fun e => (nomatch e), fun e => (nomatch e)⟩
  | x :: r, y :: s => by
    show (PyData.eqvAll (x.map .int) (y.map .int) && PyData.eqvAll (r.map dI) (s.map dI)) = true ↔ _
    rw [Bool.and_eq_true, eqvAll_int, eqvAll_dI r s, List.cons.injEq]
theorem eqv_dS {h : HH} {g g' : GG} : PyData.eqv (h.dS g) (h.dS g') = true ↔ Like h g g' := by
  show (PyData.eqvAll ((h.vals g).map dI) ((h.vals g').map dI) && (PyData.eqvAll ((h.amts g).map dI) ((h.amts g').map dI) && (PyData.eqvAll ([g.1.o, g.2.o].map .int) ([g'.1.o, g'.2.o].map .int) && true))) = true ↔ _
  rw [Bool.and_eq_true, Bool.and_eq_true, Bool.and_eq_true, eqvAll_dI, eqvAll_dI, eqvAll_int]
  unfold Like
  constructor
  · rintro ⟨a, b, c, _⟩
    exact ⟨a, b, (List.cons.inj c).1, (List.cons.inj (List.cons.inj c).2).1⟩
  · rintro ⟨a, b, c, d⟩
    exact ⟨a, b, by rw [c, d], rfl⟩
theorem lay_int : ∀ a : List Int, PyData.canLayAll0 (a.map .int) = true
  | [] => rfl
  | x :: r => by
    show (true && PyData.canLayAll0 (r.map .int)) = true
    rw [lay_int r]; rfl
theorem lay_dI : ∀ a : List (List Int), PyData.canLayAll0 (a.map dI) = true
  | [] => rfl
  | x :: r => by
    show (PyData.canLayAll0 (x.map .int) && PyData.canLayAll0 (r.map dI)) = true
    rw [lay_int, lay_dI r]; rfl
theorem lay_dS (h : HH) (g : GG) : (h.dS g).canLay0 = true := by
  show (PyData.canLayAll0 ((h.vals g).map dI) && (PyData.canLayAll0 ((h.amts g).map dI) && (PyData.canLayAll0 ([g.1.o, g.2.o].map .int) && true))) = true
  rw [lay_dI, lay_dI, lay_int]; rfl
theorem dep_int : ∀ a : List Int, PyData.depthAll (a.map .int) = 0
  | [] => rfl
  | x :: r => by
    show max 0 (PyData.depthAll (r.map .int)) = 0
    rw [dep_int r]; rfl
theorem dep_dI : ∀ a : List (List Int), PyData.depthAll (a.map dI) ≤ 1
  | [] => Nat.zero_le _
  | x :: r => by
    show max (PyData.depthAll (x.map .int) + 1) (PyData.depthAll (r.map dI)) ≤ 1
    have := dep_dI r
    rw [dep_int]
    omega
theorem dep_dS (h : HH) (g : GG) : (h.dS g).depth ≤ 3 := by
  show max (PyData.depthAll ((h.vals g).map dI) + 1) (max (PyData.depthAll ((h.amts g).map dI) + 1) (max (PyData.depthAll ([g.1.o, g.2.o].map .int) + 1) 0)) + 1 ≤ 3
  have h1 := dep_dI (h.vals g)
  have h2 := dep_dI (h.amts g)
  rw [dep_int]
  omega
theorem shaped_dS (h : HH) (g : GG) : SeqAt.shaped (h.dS g) = true := by
  show ((h.dS g).canLay0 && decide ((h.dS g).depth ≤ 64)) = true
  rw [lay_dS, decide_eq_true (Nat.le_trans (dep_dS h g) (by decide))]
  rfl
theorem lay_list (h : HH) : ∀ L : List GG, PyData.canLayAll0 (L.map h.dS) = true
  | [] => rfl
  | x :: r => by
    show ((h.dS x).canLay0 && PyData.canLayAll0 (r.map h.dS)) = true
    rw [lay_dS, lay_list h r]; rfl
theorem dep_list (h : HH) : ∀ L : List GG, PyData.depthAll (L.map h.dS) ≤ 3
  | [] => Nat.zero_le _
  | x :: r => by
    show max (h.dS x).depth (PyData.depthAll (r.map h.dS)) ≤ 3
    have h1 := dep_dS h x
    have h2 := dep_list h r
    omega
theorem shaped_list (h : HH) (L : List GG) : SeqAt.shaped (.list (L.map h.dS)) = true := by
  show (PyData.canLayAll0 (L.map h.dS) && decide (PyData.depthAll (L.map h.dS) + 1 ≤ 64)) = true
  have := dep_list h L
  rw [lay_list, decide_eq_true (by omega)]
  rfl
/-! ### good states -/
structure Good (h : HH) (g : GG) : Prop where
  ok : ∀ b, (gat g b).ok (h.cc b)
  sum : ∀ b, (gat g b).a + (gat g b).o = (gat h.g0 b).a + (gat h.g0 b).o
  out : ∀ b, b ∉ h.pres → gat g b = gat h.g0 b
theorem gg_ext {g g' : GG} (h : ∀ b, gat g b = gat g' b) : g = g' := Prod.ext (h false) (h true)
theorem mem_pres_at {h : HH} {b : Bool} (m : b ∈ h.pres) : ∃ i : Nat, h.pres[i]? = some b := List.getElem?_of_mem m
theorem Good.inj {h : HH} {g g' : GG} (a : Good h g) (b : Good h g') (l : Like h g g') : g = g' := by
  refine gg_ext fun c => ?_
  obtain ⟨l1, l2, l3, l4⟩ := l
  have eo : (gat g c).o = (gat g' c).o := by cases c <;> assumption
  have ea : (gat g c).a = (gat g' c).a := by
    have h1 := a.sum c
    have h2 := b.sum c
    omega
  by_cases hm : c ∈ h.pres
  · obtain ⟨i, hi⟩ := mem_pres_at hm
    have ex : (gat g c).x = (gat g' c).x := by
      cases hv : (h.cc c).hv with
      | false => rw [(a.ok c).nv hv, (b.ok c).nv hv]
      | true =>
        have h1 := HH.vals_at hi g
        have h2 := HH.vals_at hi g'
        rw [l1, h2, hv] at h1
        exact ((List.cons.inj (Option.some.inj h1)).1).symm
    cases hg : gat g c
    cases hg' : gat g' c
    rw [hg, hg'] at ex ea eo
    simp only at ex ea eo
    rw [ex, ea, eo]
  · rw [a.out c hm, b.out c hm]
theorem kS_inj {h : HH} {g g' : GG} (a : Good h g) (b : Good h g') (e : kS h g = kS h g') : g = g' := a.inj b (kS_like e)
theorem CC.l0_ok {c : CC} (f : c.fit) {o : Int} (h0 : 0 ≤ o) (h1 : o ≤ 1) : (c.l0 o).ok c := by
  have hh : 0 ≤ c.hold.getD 0 ∧ c.hold.getD 0 ≤ 1 := by
    cases hh : c.hold with
    | none => exact ⟨Int.le_refl _, by show (0 : Int) ≤ 1; decide⟩
    | some y => exact f.hold y hh
  have hx : 0 ≤ (c.var.map (·.2)).getD 0 ∧ (c.var.map (·.2)).getD 0 < c.size ∧ (c.hv = false → (c.var.map (·.2)).getD 0 = 0) := by
    unfold CC.size CC.hv
    cases hv : c.var with
    | none => exact ⟨Int.le_refl _, by show (0 : Int) < 1; decide, fun _ => rfl⟩
    | some p =>
      obtain ⟨p1, p2, p3, p4⟩ := f.var p hv
      exact ⟨p3, p4, fun z => nomatch z⟩
  refine ⟨hx.1, hx.2.1, hx.2.2, hh.1, h0, ?_⟩
  show c.hold.getD 0 + o ≤ 2
  omega
theorem HH.g0_good {h : HH} (f : h.fit) : Good h h.g0 := by
  refine ⟨fun b => ?_, fun b => rfl, fun b _ => rfl⟩
  cases b
  · exact CC.l0_ok f.c f.oa.1 f.oa.2
  · exact CC.l0_ok f.d f.oz.1 f.oz.2
theorem Good.set {h : HH} {g : GG} {b : Bool} {l : Lo} (k : Good h g) (hb : b ∈ h.pres) (hl : Kept (h.cc b) (gat g b) l) : Good h (gset g b l) := by
  refine ⟨HH.gok.set k.ok hl.ok, fun c => ?_, fun c hc => ?_⟩
  · cases b <;> cases c
    · exact hl.s.trans (k.sum false)
    · exact k.sum true
    · exact k.sum false
    · exact hl.s.trans (k.sum true)
  · cases b <;> cases c
    · exact absurd hb hc
    · exact k.out true hc
    · exact k.out false hc
    · exact absurd hb hc
/-! ### at most 36 of them -/
theorem nodup_bound : ∀ (n : Nat) (l : List Nat), l.Nodup → (∀ x ∈ l, x < n) → l.length ≤ n
  | 0, l, _, h => by
    cases l with
    | nil => exact Nat.le_refl _
    | cons x r => exact absurd (h x (List.mem_cons_self ..)) (Nat.not_lt_zero _)
  | n + 1, l, nd, h => by
    have h1 := nodup_bound n (l.erase n) (nd.erase n) (fun x hx => by
      have h2 := h x (List.mem_of_mem_erase hx)
      have h3 : x ≠ n := fun e => by
        subst e
        exact (List.Nodup.not_mem_erase nd) hx
      omega)
    have h4 : l.length ≤ (l.erase n).length + 1 := by
      rw [List.length_erase]
      split <;> omega
    omega
theorem nodup_map_on {α β : Type} {f : α → β} : ∀ {l : List α}, l.Nodup → (∀ x ∈ l, ∀ y ∈ l, f x = f y → x = y) → (l.map f).Nodup
  | [], _, _ => List.nodup_nil
  | x :: r, nd, h => by
    obtain ⟨h1, h2⟩ := List.nodup_cons.mp nd
    rw [List.map_cons, List.nodup_cons]
    refine ⟨fun hm => ?_, nodup_map_on h2 fun a ha b hb => h a (List.mem_cons_of_mem _ ha) b (List.mem_cons_of_mem _ hb)⟩
    obtain ⟨y, hy, e⟩ := List.mem_map.mp hm
    have := h y (List.mem_cons_of_mem _ hy) x (List.mem_cons_self ..) e
    subst this
    exact h1 hy
def code (g : GG) : Nat := ((g.1.x.toNat * 3 + g.1.o.toNat) * 2 + g.2.x.toNat) * 3 + g.2.o.toNat
theorem good_bound {h : HH} (f : h.fit) {l : List GG} (nd : l.Nodup) (hg : ∀ g ∈ l, Good h g) : l.length ≤ 36 := by
  have bnd : ∀ g, Good h g → 0 ≤ g.1.x ∧ g.1.x ≤ 1 ∧ 0 ≤ g.1.o ∧ g.1.o ≤ 2 ∧ 0 ≤ g.2.x ∧ g.2.x ≤ 1 ∧ 0 ≤ g.2.o ∧ g.2.o ≤ 2 := fun g k => by
    have a := k.ok false
    have b := k.ok true
    have sa := (CC.size_ok f.c).2
    have sb := (CC.size_ok f.d).2
    have a1 : g.1.x < h.c.size := a.x1
    have b1 : g.2.x < h.d.size := b.x1
    have a2 : 0 ≤ g.1.x := a.x0
    have b2 : 0 ≤ g.2.x := b.x0
    have a3 : 0 ≤ g.1.a := a.a
    have b3 : 0 ≤ g.2.a := b.a
    have a4 : 0 ≤ g.1.o := a.o
    have b4 : 0 ≤ g.2.o := b.o
    have a5 : g.1.a + g.1.o ≤ 2 := a.s
    have b5 : g.2.a + g.2.o ≤ 2 := b.s
    omega
  have h1 := nodup_bound 36 (l.map code) (nodup_map_on nd fun x hx y hy e => by
    have kx := hg x hx
    have ky := hg y hy
    obtain ⟨x1, x2, x3, x4, x5, x6, x7, x8⟩ := bnd x kx
    obtain ⟨y1, y2, y3, y4, y5, y6, y7, y8⟩ := bnd y ky
    unfold code at e
    have e1 : x.1.x = y.1.x := by omega
    have e2 : x.1.o = y.1.o := by omega
    have e3 : x.2.x = y.2.x := by omega
    have e4 : x.2.o = y.2.o := by omega
    have s1 : x.1.a + x.1.o = y.1.a + y.1.o := (kx.sum false).trans (ky.sum false).symm
    have s2 : x.2.a + x.2.o = y.2.a + y.2.o := (kx.sum true).trans (ky.sum true).symm
    have e5 : x.1.a = y.1.a := by omega
    have e6 : x.2.a = y.2.a := by omega
    obtain ⟨⟨p1, p2, p3⟩, ⟨p4, p5, p6⟩⟩ := x
    obtain ⟨⟨q1, q2, q3⟩, ⟨q4, q5, q6⟩⟩ := y
    simp only at e1 e2 e3 e4 e5 e6
    rw [e1, e2, e3, e4, e5, e6]) (fun c hc => by
    obtain ⟨g, hgm, rfl⟩ := List.mem_map.mp hc
    obtain ⟨x1, x2, x3, x4, x5, x6, x7, x8⟩ := bnd g (hg g hgm)
    unfold code
    omega)
  rw [List.length_map] at h1
  exact h1
end Nc

-- M5
set_option maxHeartbeats 4000000
namespace Nc
open PySem L2
/-! ### runs -/
theorem Kept.refl {c : CC} {l : Lo} (k : l.ok c) : Kept c l l := ⟨k, rfl⟩
theorem Kept.trans {c : CC} {a b d : Lo} (k : Kept c a b) (k' : Kept c b d) : Kept c a d := ⟨k'.ok, k'.s.trans k.s⟩
theorem runM_kept {c : CC} (f : c.fit) {g : Int} (hg : W16 g) : ∀ (t : List Sm) {l l' : Lo}, l.ok c → (∀ s ∈ t, s.fit c.hv) → runM c.size g t l = some l' → Kept c l l'
  | [], l, l', k, _, e => by
    obtain rfl := Option.some.inj e
    exact Kept.refl k
  | m :: r, l, l', k, hf, e => by
    have e' : (match m.run c.size g l with
      | none => none
      | some l' => runM c.size g r l') = some l' := e
    cases hm : m.run c.size g l with
    | none => rw [hm] at e'; cases e'
    | some l1 =>
      rw [hm] at e'
      have k1 := Sm.kept f hg k m (hf m (List.mem_cons_self ..)) hm
      exact k1.trans (runM_kept f hg r k1.ok (fun s hs => hf s (List.mem_cons_of_mem _ hs)) e')
def nask (l : List Sx) : Nat := (l.filter isAsk).length
def RunOk (c : CC) (l : List Sx) (lo : Lo) : Res → Prop
  | .fail => True
  | .done l' => Kept c lo l'
  | .asks l' n rest => Kept c lo l' ∧ c.hv = true ∧ 1 ≤ n ∧ n ≤ 2 ∧ (∀ s ∈ rest, s.fit c.hv) ∧ wts rest ≤ wts l ∧ nask rest + 1 ≤ nask l
theorem run_ok {c : CC} (f : c.fit) {g : Int} (hg : W16 g) : ∀ (l : List Sx) (lo : Lo), lo.ok c → (∀ s ∈ l, s.fit c.hv) → RunOk c l lo (run c.size g l lo)
  | [], lo, k, _ => Kept.refl k
  | .sm m :: r, lo, k, hf => by
    have hr : ∀ s ∈ r, s.fit c.hv := fun s hs => hf s (List.mem_cons_of_mem _ hs)
    show RunOk c (.sm m :: r) lo (match m.run c.size g lo with
      | none => .fail
      | some l' => run c.size g r l')
    cases hm : m.run c.size g lo with
    | none => exact True.intro
    | some l1 =>
      have k1 := Sm.kept f hg k m (hf _ (List.mem_cons_self ..)) hm
      have h2 := run_ok f hg r l1 k1.ok hr
      show RunOk c (.sm m :: r) lo (run c.size g r l1)
      cases hq : run c.size g r l1 with
      | fail => exact True.intro
      | done l' => rw [hq] at h2; exact k1.trans h2
      | asks l' n rest =>
        rw [hq] at h2
        obtain ⟨h3, h4, h5, h6, h7, h8, h9⟩ := h2
        exact ⟨k1.trans h3, h4, h5, h6, h7, Nat.le_trans h8 (by show wts r ≤ 1 + wts r; omega), h9⟩
  | .ask n :: r, lo, k, hf => by
    have hr : ∀ s ∈ r, s.fit c.hv := fun s hs => hf s (List.mem_cons_of_mem _ hs)
    obtain ⟨h1, h2, h3⟩ : c.hv = true ∧ 1 ≤ n ∧ n ≤ 2 := hf _ (List.mem_cons_self ..)
    exact ⟨Kept.refl k, h1, h2, h3, hr, (by show wts r ≤ 1 + wts r; omega), Nat.le_refl _⟩
  | .ite e t u :: r, lo, k, hf => by
    have hr : ∀ s ∈ r, s.fit c.hv := fun s hs => hf s (List.mem_cons_of_mem _ hs)
    obtain ⟨h1, h2, h3, h4, h5⟩ : e.fit c.hv ∧ t.length ≤ 1 ∧ u.length ≤ 1 ∧ (∀ s ∈ t, s.fit c.hv) ∧ ∀ s ∈ u, s.fit c.hv := hf _ (List.mem_cons_self ..)
    show RunOk c (.ite e t u :: r) lo (match runM c.size g (if e.ev g lo = 0 then u else t) lo with
      | none => .fail
      | some l' => run c.size g r l')
    cases hm : runM c.size g (if e.ev g lo = 0 then u else t) lo with
    | none => exact True.intro
    | some l1 =>
      have k1 := runM_kept f hg _ k (by split <;> assumption) hm
      have h2 := run_ok f hg r l1 k1.ok hr
      show RunOk c (.ite e t u :: r) lo (run c.size g r l1)
      cases hq : run c.size g r l1 with
      | fail => exact True.intro
      | done l' => rw [hq] at h2; exact k1.trans h2
      | asks l' n rest =>
        rw [hq] at h2
        obtain ⟨h3, h4, h5, h6, h7, h8, h9⟩ := h2
        exact ⟨k1.trans h3, h4, h5, h6, h7, Nat.le_trans h8 (by show wts r ≤ _ + wts r; omega), h9⟩
/-! ### rows -/
def startRun (h : HH) (G : GG) (b : Bool) (g : Int) : Res := match (h.cc b).proc with
  | some (_, _, l) => run (h.cc b).size g l (gat G b)
  | none => .fail
def ansRun (h : HH) (S : GG) (b : Bool) (g : Int) (rest : List Sx) (k : Int) : Res := run (h.cc b).size g rest (gat (gans h S b k) b)
def outS (h : HH) (b : Bool) (g : Int) (rest : List Sx) (n : Int) (rows : GG → Prop) (e : GG) : Prop :=
  ∃ S k l2, rows S ∧ 0 ≤ k ∧ k < n ∧ ansRun h S b g rest k = .done l2 ∧ e = gset (gans h S b k) b l2
def resOut (h : HH) (G : GG) (b : Bool) (g : Int) (rows : GG → GG → Prop) : Res → GG → Prop
  | .fail, _ => False
  | .done l, e => e = gset G b l
  | .asks l n rest, e => outS h b g rest n (rows (gset G b l)) e
def Way (h : HH) (rows : GG → GG → Prop) (G : GG) (p : Bool × Int) (e : GG) : Prop := resOut h G p.1 p.2 rows (startRun h G p.1 p.2) e
inductive Row (h : HH) : GG → GG → Prop
  | refl (G : GG) : Row h G G
  | done {A B : GG} {b : Bool} {g : Int} {l : Lo} : Row h A B → (b, g) ∈ h.ents → startRun h B b g = .done l → Row h A (gset B b l)
  | ask {A B S : GG} {b : Bool} {g n k : Int} {l l2 : Lo} {rest : List Sx} : Row h A B → (b, g) ∈ h.ents → startRun h B b g = .asks l n rest → Row h (gset B b l) S → 0 ≤ k → k < n → ansRun h S b g rest k = .done l2 → Row h A (gset (gans h S b k) b l2)
theorem Row.trans {h : HH} {A B C : GG} (r : Row h A B) (s : Row h B C) : Row h A C := by
  induction s with
  | refl _ => exact r
  | done _ hm hs ih => exact .done (ih r) hm hs
  | ask _ hm hs hr h0 hn ha ih _ => exact .ask (ih r) hm hs hr h0 hn ha
theorem Row.way {h : HH} {A B e : GG} {p : Bool × Int} (r : Row h A B) (hp : p ∈ h.ents) (w : Way h (Row h) B p e) : Row h A e := by
  obtain ⟨b, g⟩ := p
  unfold Way at w
  cases hs : startRun h B b g with
  | fail => rw [hs] at w; exact w.elim
  | done l =>
    rw [hs] at w
    obtain rfl : e = gset B b l := w
    exact .done r hp hs
  | asks l n rest =>
    rw [hs] at w
    obtain ⟨S, k, l2, h1, h2, h3, h4, rfl⟩ := w
    exact .ask r hp hs h1 h2 h3 h4
theorem ents_mem {h : HH} {b : Bool} {g : Int} (m : (b, g) ∈ h.ents) : b ∈ h.pres ∧ ∃ s l, (h.cc b).proc = some (s, true, l) ∧ 0 ≤ g ∧ g < s := by
  unfold HH.ents at m
  obtain ⟨b', hb', hm⟩ := List.mem_flatMap.mp m
  unfold entB at hm
  cases hp : (h.cc b').proc with
  | none => rw [hp] at hm; exact (List.not_mem_nil hm).elim
  | some p =>
    obtain ⟨s, sh, l⟩ := p
    rw [hp] at hm
    cases sh with
    | false => exact (List.not_mem_nil hm).elim
    | true =>
      obtain ⟨k, hk, e⟩ := List.mem_map.mp hm
      cases e
      have hk' := List.mem_range.mp hk
      exact ⟨hb', s, l, hp, by omega, by omega⟩
theorem ents_w16 {h : HH} (f : h.fit) {b : Bool} {g : Int} (m : (b, g) ∈ h.ents) : W16 g := by
  obtain ⟨_, s, l, hp, h0, h1⟩ := ents_mem m
  have h2 : s ≤ 3 := ((HH.ccfit f b).proc _ hp).2.1
  exact ⟨h0, by omega⟩
theorem start_ok {h : HH} (f : h.fit) {b : Bool} {g : Int} (m : (b, g) ∈ h.ents) {G : GG} (k : Good h G) : ∃ s l, (h.cc b).proc = some (s, true, l) ∧ startRun h G b g = run (h.cc b).size g l (gat G b) ∧ (∀ s ∈ l, s.fit (h.cc b).hv) ∧ l.length ≤ 3 ∧ nask l ≤ 1 ∧ RunOk (h.cc b) l (gat G b) (startRun h G b g) := by
  obtain ⟨hb, s, l, hp, h0, h1⟩ := ents_mem m
  obtain ⟨p1, p2, p3, p4, p5⟩ := (HH.ccfit f b).proc _ hp
  have e : startRun h G b g = run (h.cc b).size g l (gat G b) := by unfold startRun; rw [hp]
  exact ⟨s, l, hp, e, p4, p3, p5, by rw [e]; exact run_ok (HH.ccfit f b) (ents_w16 f m) l _ (k.ok b) p4⟩
theorem gans_good {h : HH} (f : h.fit) {S : GG} {b : Bool} {k : Int} (hb : b ∈ h.pres) (hv : (h.cc b).hv = true) (g : Good h S) : Good h (gans h S b k) := g.set hb ⟨ans_ok (HH.ccfit f b) hv (g.ok b), rfl⟩
theorem ans_good {h : HH} (f : h.fit) {S : GG} {b : Bool} {g k : Int} {rest : List Sx} {l2 : Lo} (hb : b ∈ h.pres) (hv : (h.cc b).hv = true) (hg : W16 g) (hf : ∀ s ∈ rest, s.fit (h.cc b).hv) (k0 : Good h S) (e : ansRun h S b g rest k = .done l2) : Good h (gset (gans h S b k) b l2) := by
  have k1 := gans_good (k := k) f hb hv k0
  have h1 := run_ok (HH.ccfit f b) hg rest _ (k1.ok b) hf
  unfold ansRun at e
  rw [e] at h1
  exact k1.set hb h1
theorem Row.good {h : HH} (f : h.fit) {A B : GG} (r : Row h A B) : Good h A → Good h B := by
  induction r with
  | refl _ => exact id
  | done _ hm hs ih =>
    intro k
    have kB := ih k
    obtain ⟨s, l, _, _, _, _, _, h1⟩ := start_ok f hm kB
    rw [hs] at h1
    exact kB.set (ents_mem hm).1 h1
  | ask _ hm hs hr h0 hn ha ih ih2 =>
    intro k
    have kB := ih k
    obtain ⟨s, l, _, _, _, _, _, h1⟩ := start_ok f hm kB
    rw [hs] at h1
    obtain ⟨h2, hv, _, _, hf, _⟩ := h1
    exact ans_good f (ents_mem hm).1 hv (ents_w16 f hm) hf (ih2 (kB.set (ents_mem hm).1 h2)) ha
theorem row_complete {h : HH} {AK EK : GG → Prop} {RM EM : GG → GG → Prop} (h1 : ∀ A, AK A → RM A A) (h2 : ∀ A t, AK A → RM A t → EK t) (h3 : ∀ A t e, AK A → RM A t → EM t e → RM A e)
    (h4 : ∀ g p e, EK g → p ∈ h.ents → Way h RM g p e → EM g e) (h5 : ∀ g b i l n rest, EK g → (b, i) ∈ h.ents → startRun h g b i = .asks l n rest → AK (gset g b l)) {A t : GG} (r : Row h A t) : AK A → RM A t := by
  induction r with
  | refl _ => exact h1 _
  | done _ hm hs ih =>
    intro a
    have hB := ih a
    refine h3 _ _ _ a hB (h4 _ _ _ (h2 _ _ a hB) hm ?_)
    unfold Way
    rw [hs]
    rfl
  | ask _ hm hs hr h0 hn ha ih ih2 =>
    intro a
    have hB := ih a
    have eB := h2 _ _ a hB
    refine h3 _ _ _ a hB (h4 _ _ _ eB hm ?_)
    unfold Way
    rw [hs]
    exact ⟨_, _, _, ih2 (h5 _ _ _ _ _ _ eB hm hs), h0, hn, ha, rfl⟩
/-! ### what a row of numbers denotes is one thing -/
theorem sg_inj {s t : Sg} (e : s.str = t.str) : s = t := by
  cases s <;> cases t <;> first | rfl | exact absurd e (by decide +kernel)
theorem sg_kind (s : Sg) : ¬ (s.str = "number") ∧ ¬ (s.str = "variable") ∧ ¬ (s.str = "given") ∧ ¬ (s.str = "have") ∧ ¬ (s.str = "out") := by
  cases s <;> exact ⟨by decide +kernel, by decide +kernel, by decide +kernel, by decide +kernel, by decide +kernel⟩
theorem td_inj {a b : List PyData} (e : PyData.tuple a = PyData.tuple b) : a = b := PyData.tuple.inj e
def exK : Ex → Str
  | .num _ => "number"
  | .var => "variable"
  | .given => "given"
  | .hav => "have"
  | .out => "out"
  | .op s _ _ => s.str
theorem ex_head (b : Bool) (e : Ex) : ∃ r, e.d b = .tuple (.str (exK e) :: r) := by
  cases e <;> exact ⟨_, rfl⟩
theorem Ex.d_inj (b : Bool) : ∀ {e f : Ex}, e.d b = f.d b → e = f := by
  intro e
  induction e with
  | num n =>
    intro f h
    obtain ⟨r, hr⟩ := ex_head b f
    rw [hr] at h
    have hk := PyData.str.inj (List.cons.inj (td_inj h)).1
    cases f with
    | num m =>
      have h' : PyData.tuple [.str "number", .int n] = .tuple [.str "number", .int m] := h.trans hr.symm
      rw [PyData.int.inj (List.cons.inj (List.cons.inj (td_inj h')).2).1]
    | var => exact absurd hk (by decide +kernel)
    | given => exact absurd hk (by decide +kernel)
    | hav => exact absurd hk (by decide +kernel)
    | out => exact absurd hk (by decide +kernel)
    | op s l r => exact absurd hk.symm (sg_kind s).1
  | var =>
    intro f h
    obtain ⟨r, hr⟩ := ex_head b f
    rw [hr] at h
    have hk := PyData.str.inj (List.cons.inj (td_inj h)).1
    cases f with
    | num m => exact absurd hk (show ¬ ((("variable" : Str)) = "number") by decide +kernel)
    | var => rfl
    | given => exact absurd hk (by decide +kernel)
    | hav => exact absurd hk (by decide +kernel)
    | out => exact absurd hk (by decide +kernel)
    | op s l r => exact absurd hk.symm (sg_kind s).2.1
  | given =>
    intro f h
    obtain ⟨r, hr⟩ := ex_head b f
    rw [hr] at h
    have hk := PyData.str.inj (List.cons.inj (td_inj h)).1
    cases f with
    | num m => exact absurd hk (show ¬ ((("given" : Str)) = "number") by decide +kernel)
    | var => exact absurd hk (by decide +kernel)
    | given => rfl
    | hav => exact absurd hk (by decide +kernel)
    | out => exact absurd hk (by decide +kernel)
    | op s l r => exact absurd hk.symm (sg_kind s).2.2.1
  | hav =>
    intro f h
    obtain ⟨r, hr⟩ := ex_head b f
    rw [hr] at h
    have hk := PyData.str.inj (List.cons.inj (td_inj h)).1
    cases f with
    | num m => exact absurd hk (show ¬ ((("have" : Str)) = "number") by decide +kernel)
    | var => exact absurd hk (by decide +kernel)
    | given => exact absurd hk (by decide +kernel)
    | hav => rfl
    | out => exact absurd hk (by decide +kernel)
    | op s l r => exact absurd hk.symm (sg_kind s).2.2.2.1
  | out =>
    intro f h
    obtain ⟨r, hr⟩ := ex_head b f
    rw [hr] at h
    have hk := PyData.str.inj (List.cons.inj (td_inj h)).1
    cases f with
    | num m => exact absurd hk (show ¬ ((("out" : Str)) = "number") by decide +kernel)
    | var => exact absurd hk (by decide +kernel)
    | given => exact absurd hk (by decide +kernel)
    | hav => exact absurd hk (by decide +kernel)
    | out => rfl
    | op s l r => exact absurd hk.symm (sg_kind s).2.2.2.2
  | op s l r ihl ihr =>
    intro f h
    obtain ⟨r', hr⟩ := ex_head b f
    rw [hr] at h
    have hk : s.str = exK f := PyData.str.inj (List.cons.inj (td_inj h)).1
    cases f with
    | num m => exact absurd hk (sg_kind s).1
    | var => exact absurd hk (sg_kind s).2.1
    | given => exact absurd hk (sg_kind s).2.2.1
    | hav => exact absurd hk (sg_kind s).2.2.2.1
    | out => exact absurd hk (sg_kind s).2.2.2.2
    | op s2 l2 r2 =>
      have h' : PyData.tuple [.str s.str, l.d b, r.d b] = .tuple [.str s2.str, l2.d b, r2.d b] := h.trans hr.symm
      have t := td_inj h'
      rw [sg_inj (PyData.str.inj (List.cons.inj t).1), ihl (List.cons.inj (List.cons.inj t).2).1, ihr (List.cons.inj (List.cons.inj (List.cons.inj t).2).2).1]
theorem sx_head (b : Bool) (s : Sx) : ∃ r, s.d b = .tuple (.str (sk s) :: r) := by
  cases s with
  | sm m => cases m <;> exact ⟨_, rfl⟩
  | ask n => exact ⟨_, rfl⟩
  | ite e t f => exact ⟨_, rfl⟩
theorem Sm.d_inj (b : Bool) {m m' : Sm} (h : m.d b = m'.d b) : m = m' := by
  cases m with
  | set e =>
    cases m' with
    | set e' => rw [Ex.d_inj b (List.cons.inj (List.cons.inj (List.cons.inj (td_inj h)).2).2).1]
    | need e' => exact absurd (PyData.str.inj (List.cons.inj (td_inj h)).1) (by decide +kernel)
    | give e' => exact absurd (PyData.str.inj (List.cons.inj (td_inj h)).1) (by decide +kernel)
    | get e' => exact absurd (PyData.str.inj (List.cons.inj (td_inj h)).1) (by decide +kernel)
  | need e =>
    cases m' with
    | set e' => exact absurd (PyData.str.inj (List.cons.inj (td_inj h)).1) (by decide +kernel)
    | need e' => rw [Ex.d_inj b (List.cons.inj (List.cons.inj (td_inj h)).2).1]
    | give e' => exact absurd (PyData.str.inj (List.cons.inj (td_inj h)).1) (by decide +kernel)
    | get e' => exact absurd (PyData.str.inj (List.cons.inj (td_inj h)).1) (by decide +kernel)
  | give e =>
    cases m' with
    | set e' => exact absurd (PyData.str.inj (List.cons.inj (td_inj h)).1) (by decide +kernel)
    | need e' => exact absurd (PyData.str.inj (List.cons.inj (td_inj h)).1) (by decide +kernel)
    | give e' => rw [Ex.d_inj b (List.cons.inj (List.cons.inj (List.cons.inj (td_inj h)).2).2).1]
    | get e' => exact absurd (PyData.str.inj (List.cons.inj (td_inj h)).1) (by decide +kernel)
  | get e =>
    cases m' with
    | set e' => exact absurd (PyData.str.inj (List.cons.inj (td_inj h)).1) (by decide +kernel)
    | need e' => exact absurd (PyData.str.inj (List.cons.inj (td_inj h)).1) (by decide +kernel)
    | give e' => exact absurd (PyData.str.inj (List.cons.inj (td_inj h)).1) (by decide +kernel)
    | get e' => rw [Ex.d_inj b (List.cons.inj (List.cons.inj (List.cons.inj (td_inj h)).2).2).1]
theorem map_inj_on {α β : Type} {f : α → β} (h : ∀ a b, f a = f b → a = b) : ∀ {xs ys : List α}, xs.map f = ys.map f → xs = ys
  | [], [], _ => rfl
  | _ :: _, [], e => nomatch e
  | [], _ :: _, e => nomatch e
  | x :: r, y :: s, e => by rw [h _ _ (List.cons.inj e).1, map_inj_on h (List.cons.inj e).2]
theorem Sx.d_inj (b : Bool) {s s' : Sx} (h : s.d b = s'.d b) : s = s' := by
  obtain ⟨r, hr⟩ := sx_head b s
  obtain ⟨r', hr'⟩ := sx_head b s'
  have hk : V.str (sk s) = V.str (sk s') := by
    rw [hr, hr'] at h
    rw [PyData.str.inj (List.cons.inj (td_inj h)).1]
  cases s with
  | sm m =>
    cases s' with
    | sm m' => rw [Sm.d_inj b h]
    | ask n' => exact absurd hk (sk_sm m).1
    | ite e t f => exact absurd hk (sk_sm m).2.1
  | ask n =>
    cases s' with
    | sm m' => exact absurd hk.symm (sk_sm m').1
    | ask n' => rw [PyData.int.inj (List.cons.inj (List.cons.inj (List.cons.inj (td_inj h)).2).2).1]
    | ite e t f => exact absurd hk (show ¬ (V.str "ask" = V.str "if") by decide +kernel)
  | ite e t f =>
    cases s' with
    | sm m' => exact absurd hk.symm (sk_sm m').2.1
    | ask n' => exact absurd hk (show ¬ (V.str "if" = V.str "ask") by decide +kernel)
    | ite e' t' f' =>
      have t1 := (List.cons.inj (td_inj h)).2
      have t2 := (List.cons.inj t1).2
      have t3 := (List.cons.inj t2).2
      rw [Ex.d_inj b (List.cons.inj t1).1, map_inj_on (fun a c => Sm.d_inj b) (td_inj (List.cons.inj t2).1), map_inj_on (fun a c => Sm.d_inj b) (td_inj (List.cons.inj t3).1)]
theorem LnAt.det {H : Hp} {ln : List V} {ci ci' : Nat} {b : Bool} {n : Nat} {s s' : Sx} (k : LnAt H ln ci b n s) (k' : LnAt H ln ci' b n s') : s = s' := by
  obtain ⟨t, w, h1, h2, h3⟩ := k
  obtain ⟨t', w', h1', h2', h3'⟩ := k'
  rw [h1] at h1'
  obtain rfl := V.ref.inj (Option.some.inj h1')
  rw [h2] at h2'
  have e := HO.tup.inj (Option.some.inj h2')
  obtain rfl := (List.cons.inj (List.cons.inj e).2).1
  exact Sx.d_inj b (Rp.inj _ _ _ h3 h3')
theorem LnAt.ci {H : Hp} {ln : List V} {ci ci' : Nat} {b b' : Bool} {n : Nat} {s s' : Sx} (k : LnAt H ln ci b n s) (k' : LnAt H ln ci' b' n s') : ci = ci' := by
  obtain ⟨t, w, h1, h2, h3⟩ := k
  obtain ⟨t', w', h1', h2', h3'⟩ := k'
  rw [h1] at h1'
  obtain rfl := V.ref.inj (Option.some.inj h1')
  rw [h2] at h2'
  have e := HO.tup.inj (Option.some.inj h2')
  have := V.int.inj (List.cons.inj e).1
  omega
theorem nums_det {H : Hp} {ln pn : List V} {ci : Nat} {b : Bool} : ∀ {ns : List Nat} {l l' : List Sx}, Paired (Num H ln pn ci b) ns l → Paired (Num H ln pn ci b) ns l' → l = l'
  | [], [], [], _, _ => rfl
  | _ :: _, _ :: _, _ :: _, .cons a t, .cons a' t' => by rw [LnAt.det a.at_ a'.at_, nums_det t t']
/-- what a pending row denotes -/
def Den (H : Hp) (h : HH) (ln pn : List V) (b : Bool) (g : Int) (pend : List Int) (n : Int) (rest : List Sx) : Prop :=
  ∃ ci n0 ns, h.pres[ci]? = some b ∧ pend = pendL g (n0 :: ns) ∧ Num H ln pn ci b n0 (.ask n) ∧ Paired (Num H ln pn ci b) ns rest
theorem pend_inj {g g' : Int} : ∀ {xs ys : List Nat}, pendL g xs = pendL g' ys → xs = ys
  | [], [], _ => rfl
  | _ :: _, [], e => nomatch e
  | [], _ :: _, e => nomatch e
  | x :: r, y :: s, e => by
    have e' : (x : Int) :: g :: pendL g r = (y : Int) :: g' :: pendL g' s := e
    have h1 := (List.cons.inj e').1
    rw [pend_inj (List.cons.inj (List.cons.inj e').2).2]
    have : x = y := by omega
    rw [this]
theorem Den.det {H : Hp} {h : HH} {ln pn : List V} {b b' : Bool} {g g' : Int} {pend : List Int} {n n' : Int} {rest rest' : List Sx} (d : Den H h ln pn b g pend n rest) (d' : Den H h ln pn b' g' pend n' rest') : b = b' ∧ g = g' ∧ n = n' ∧ rest = rest' := by
  obtain ⟨ci, n0, ns, h1, h2, h3, h4⟩ := d
  obtain ⟨ci', n0', ns', h1', h2', h3', h4'⟩ := d'
  rw [h2] at h2'
  have e := pend_inj h2'
  obtain ⟨rfl, rfl⟩ := List.cons.inj e
  have e2 : (n0 : Int) :: g :: pendL g ns = (n0 : Int) :: g' :: pendL g' ns := h2'
  obtain rfl := (List.cons.inj (List.cons.inj e2).2).1
  obtain rfl := LnAt.ci h3.at_ h3'.at_
  rw [h1] at h1'
  obtain rfl := Option.some.inj h1'
  have e3 := LnAt.det h3.at_ h3'.at_
  cases e3
  exact ⟨rfl, rfl, rfl, nums_det h4 h4'⟩
theorem Den.to {H H' : Hp} {h : HH} {ln pn : List V} {b : Bool} {g : Int} {pend : List Int} {n : Int} {rest : List Sx} (d : Den H h ln pn b g pend n rest) (s : Same H H') : Den H' h ln pn b g pend n rest := by
  obtain ⟨ci, n0, ns, h1, h2, h3, h4⟩ := d
  exact ⟨ci, n0, ns, h1, h2, h3.to s, Paired.imp' (fun _ _ z => z.to s) h4⟩
end Nc

-- S0
set_option maxHeartbeats 4000000
/-! the search's heap: a set M of objects that change, the others stand -/
namespace Nc
open PySem L2 C8
def fz (M : List Addr) (H : Hp) : Hp := fun a => if a ∈ M then none else H a
theorem fz_same {M : List Addr} {H : Hp} : Same (fz M H) H := fun a u h => by
  unfold fz at h
  split at h
  · cases h
  · exact h
theorem fz_get {M : List Addr} {H : Hp} {a : Addr} {u : HO} (n : a ∉ M) (h : H a = some u) : fz M H a = some u := by
  unfold fz
  rw [if_neg n]
  exact h
theorem fz_out {M : List Addr} {H : Hp} {a : Addr} {u : HO} (h : fz M H a = some u) : a ∉ M := by
  unfold fz at h
  split at h
  · cases h
  · assumption
def NTp (M : List Addr) (H : Hp) : Prop := ∀ m ∈ M, ¬ IsTp (H m)
theorem fz_ts {M : List Addr} {H : Hp} (n : NTp M H) : TpS H (fz M H) :=
  ⟨fun a xs h => fz_get (fun z => n a z (by rw [h]; exact True.intro)) h, fun a o xs h => fz_get (fun z => n a z (by rw [h]; exact True.intro)) h⟩
/-- from H with M to H' with M' -/
structure Fr (M : List Addr) (H : Hp) (M' : List Addr) (H' : Hp) : Prop where
  k : Kp M H H'
  m : ∀ a ∈ M', a ∈ M ∨ H a = none
theorem Fr.refl {M : List Addr} {H : Hp} : Fr M H M H := ⟨Kp.refl, fun _ h => .inl h⟩
theorem Fr.trans {M M1 M2 : List Addr} {H H1 H2 : Hp} (a : Fr M H M1 H1) (b : Fr M1 H1 M2 H2) : Fr M H M2 H2 := by
  have out : ∀ x u, x ∉ M → H x = some u → x ∉ M1 := fun x u hx hu z => (a.m x z).elim hx fun e => by rw [e] at hu; cases hu
  refine ⟨fun x u hx hu => b.k x u (out x u hx hu) (a.k x u hx hu), fun x hx => ?_⟩
  rcases b.m x hx with h | h
  · exact a.m x h
  · cases e : H x with
    | none => exact .inr rfl
    | some u =>
      by_cases hm : x ∈ M
      · exact .inl hm
      · have := a.k x u hm e
        rw [h] at this
        cases this
theorem Fr.same {M M' : List Addr} {H H' : Hp} (f : Fr M H M' H') : Same (fz M H) (fz M' H') := fun a u h => by
  have n := fz_out h
  have hu := fz_same _ _ h
  exact fz_get (fun z => (f.m a z).elim n fun e => by rw [e] at hu; cases hu) (f.k a u n hu)
theorem Fr.of {M : List Addr} {H H' : Hp} (s : Same H H') : Fr M H M H' := ⟨Kp.of s, fun _ h => .inl h⟩
theorem Fr.upd {M M' : List Addr} {H H' : Hp} (f : Fr M H M' H') {a : Addr} {o : HO} (h : a ∈ M) : Fr M H M' (upd H' a o) := ⟨f.k.upd h, f.m⟩
theorem Fr.ts {M M' : List Addr} {H H' : Hp} (f : Fr M H M' H') (n : NTp M H) : TpS H H' := f.k.ts n
/-! ### dicts by a reading of their keys -/
section
variable {P : Program} {w : World} {α : Type} [DecidableEq α] {kf : α → NestedKey} {H : Hp} {a : Addr} {ks : List α} {f : α → V}
structure NDG (P : Program) (w : World) (kf : α → NestedKey) (H : Hp) (a : Addr) (ks : List α) (f : α → V) : Prop where
  ex : ∃ kas, ND P w H a kas ∧ kas.map (·.1) = ks.map kf ∧ ∀ g ∈ ks, nGet kas (kf g) = some (f g)
def KInj (kf : α → NestedKey) (ks : List α) (g : α) : Prop := ∀ g' ∈ ks, kf g' = kf g → g' = g
def addk (ks : List α) (g : α) : List α := if g ∈ ks then ks else ks ++ [g]
def fset {β : Type} (f : α → β) (g : α) (v : β) : α → β := fun g' => if g' = g then v else f g'
theorem nGet_mem {kas : List KAV} {k : NestedKey} : (nGet kas k).isSome = true ↔ k ∈ kas.map (·.1) := by
  unfold nGet
  rw [Option.isSome_map, List.find?_isSome]
  constructor
  · rintro ⟨p, hp, e⟩
    have e' := of_decide_eq_true e
    exact List.mem_map.mpr ⟨p, hp, e'⟩
  · intro hm
    obtain ⟨p, hp, e⟩ := List.mem_map.mp hm
    exact ⟨p, hp, decide_eq_true e⟩
theorem nGet_put (kas : List KAV) (k : NestedKey) (b : Addr) (v : V) (j : NestedKey) : nGet (nPut kas k b v) j = if j = k then some v else nGet kas j := by
  unfold nPut
  by_cases hs : (nGet kas k).isSome = true
  · rw [if_pos hs]
    have hm : ∀ l : List KAV, nGet (l.map fun p => if p.1 = k then (p.1, p.2.1, v) else p) j = if j = k then (if k ∈ l.map (·.1) then some v else none) else nGet l j := by
      intro l
      induction l with
      | nil =>
        show none = _
        split <;> rfl
      | cons p r ih =>
        unfold nGet at ih ⊢
        rw [List.map_cons, List.find?_cons, List.find?_cons]
        by_cases ep : p.1 = k
        · rw [if_pos ep]
          by_cases ej : p.1 = j
          · have : j = k := ej.symm.trans ep
            subst this
            simp [ej]
          · have nj : j ≠ k := fun z => ej (ep.trans z.symm)
            simp only [ej, decide_false, nj, if_false] at ih ⊢
            exact ih
        · rw [if_neg ep]
          by_cases ej : p.1 = j
          · have nj : j ≠ k := fun z => ep (ej.trans z)
            simp [ej, nj]
          · by_cases jk : j = k
            · simp only [ej, decide_false, jk, if_true] at ih ⊢
              rw [jk] at ej
              simp only [List.map_cons, List.mem_cons, decide_false]
              have : (k = p.1 ∨ k ∈ r.map (·.1)) ↔ k ∈ r.map (·.1) := ⟨fun z => z.elim (fun z => absurd z.symm ep) id, .inr⟩
              simp only [this]
              subst jk
              simp only [ej, decide_false]
              exact ih
            · simp only [ej, decide_false, jk, if_false] at ih ⊢
              exact ih
    rw [hm]
    split
    · rw [if_pos (nGet_mem.mp hs)]
    · rfl
  · rw [if_neg hs]
    have hn : nGet kas k = none := by
      cases e : nGet kas k with
      | none => rfl
      | some x => rw [e] at hs; exact absurd rfl hs
    unfold nGet at hn ⊢
    rw [List.find?_append]
    by_cases jk : j = k
    · subst jk
      rw [if_pos rfl]
      have : kas.find? (fun p => decide (p.1 = j)) = none := by
        cases e : kas.find? (fun p => decide (p.1 = j)) with
        | none => rfl
        | some x => rw [e] at hn; cases hn
      rw [this]
      simp
    · rw [if_neg jk]
      have : ([(k, b, v)] : List KAV).find? (fun p => decide (p.1 = j)) = none := by
        rw [List.find?_cons]
        have : ¬ k = j := fun z => jk z.symm
        simp [this]
      rw [this, Option.or_none]
theorem NDG.isSome {kas : List KAV} (e : kas.map (·.1) = ks.map kf) {g : α} (inj : KInj kf ks g) : (nGet kas (kf g)).isSome = decide (g ∈ ks) := by
  by_cases hg : g ∈ ks
  · rw [decide_eq_true hg]
    exact nGet_mem.mpr (by rw [e]; exact List.mem_map.mpr ⟨g, hg, rfl⟩)
  · rw [decide_eq_false hg]
    cases hs : (nGet kas (kf g)).isSome with
    | false => rfl
    | true =>
      have := nGet_mem.mp hs
      rw [e] at this
      obtain ⟨g', hg', e'⟩ := List.mem_map.mp this
      rw [inj g' hg' e'] at hg'
      exact absurd hg' hg
theorem NDG.ts {H' : Hp} (d : NDG P w kf H a ks f) (s : TpS H H') (e : H' a = H a) : NDG P w kf H' a ks f := by
  obtain ⟨kas, h1, h2⟩ := d.ex
  exact ⟨kas, h1.ts s e, h2⟩
theorem NDG.ntp (d : NDG P w kf H a ks f) : ¬ IsTp (H a) := by
  obtain ⟨kas, h1, h2⟩ := d.ex
  exact h1.ne_tp
theorem NDG.at_ (d : NDG P w kf H a ks f) : ∃ kas, H a = some (nO P w a kas) := by
  obtain ⟨kas, h1, h2⟩ := d.ex
  exact ⟨kas, h1.at_⟩
theorem NDG.nin {Q : VK} {b : Addr} {g : α} (d : NDG P w kf H a ks f) (inj : KInj kf ks g) (hk : Rp H (.ref b) (kf g).data) (hd : (kf g).depth ≤ 8) (q : Q (.bl (!decide (g ∈ ks))) H) :
    ∃ a' b' kas k, V.ref a = .ref a' ∧ V.ref b = .ref b' ∧ ND P w H a' kas ∧ Rp H (.ref b') k.data ∧ k.depth ≤ 8 ∧ Q (.bl (!(nGet kas k).isSome)) H := by
  obtain ⟨kas, h1, h2, _⟩ := d.ex
  exact ⟨a, b, kas, kf g, rfl, rfl, h1, hk, hd, by rw [NDG.isSome h2 inj]; exact q⟩
theorem NDG.get {Q : VK} {b : Addr} {g : α} (d : NDG P w kf H a ks f) (hg : g ∈ ks) (hk : Rp H (.ref b) (kf g).data) (hd : (kf g).depth ≤ 8) (q : Q (f g) H) :
    ∃ a' b' kas k v, V.ref a = .ref a' ∧ V.ref b = .ref b' ∧ ND P w H a' kas ∧ Rp H (.ref b') k.data ∧ k.depth ≤ 8 ∧ nGet kas k = some v ∧ Q v H := by
  obtain ⟨kas, h1, _, h3⟩ := d.ex
  exact ⟨a, b, kas, kf g, f g, rfl, rfl, h1, hk, hd, h3 g hg, q⟩
theorem NDG.lenE {kas : List KAV} (e : kas.map (·.1) = ks.map kf) : kas.length = ks.length := by
  have := congrArg List.length e
  rw [List.length_map, List.length_map] at this
  exact this
theorem NDG.put {R : Hp → Prop} {b : Addr} {g : α} {v : V} (d : NDG P w kf H a ks f) (inj : KInj kf ks g) (inj2 : ∀ g' ∈ ks, KInj kf [g] g') (hk : Rp H (.ref b) (kf g).data) (hd : (kf g).depth ≤ 8) (hl : ks.length ≤ 10000)
    (q : ∀ kas', NDG P w kf (upd H a (nO P w a kas')) a (addk ks g) (fset f g v) → R (upd H a (nO P w a kas'))) :
    ∃ a' b' kas k, V.ref a = .ref a' ∧ V.ref b = .ref b' ∧ ND P w H a' kas ∧ Rp H (.ref b') k.data ∧ k.depth ≤ 8 ∧ kas.length < sizeLine ∧ R (upd H a' (nO P w a' (nPut kas k b' v))) := by
  obtain ⟨kas, h1, h2, h3⟩ := d.ex
  refine ⟨a, b, kas, kf g, rfl, rfl, h1, hk, hd, szl _ (by rw [NDG.lenE h2]; omega), q _ ⟨_, h1.put hk hd, ?_, fun g' hg' => ?_⟩⟩
  · unfold nPut addk
    rw [NDG.isSome h2 inj]
    by_cases hg : g ∈ ks
    · rw [decide_eq_true hg, if_pos rfl, if_pos hg, ← h2, List.map_map]
      refine List.map_congr_left fun p _ => ?_
      show (if p.1 = kf g then (p.1, p.2.1, v) else p).1 = p.1
      split <;> rfl
    · rw [decide_eq_false hg, if_neg Bool.false_ne_true, if_neg hg, List.map_append, List.map_append, h2]
      rfl
  · rw [nGet_put]
    unfold fset
    by_cases e : g' = g
    · subst e
      rw [if_pos rfl, if_pos rfl]
    · rw [if_neg e]
      have hgk : g' ∈ ks := by
        unfold addk at hg'
        split at hg'
        · exact hg'
        · rcases List.mem_append.mp hg' with z | z
          · exact z
          · exact absurd (List.mem_singleton.mp z) e
      rw [if_neg fun z => e (inj g' hgk z)]
      exact h3 g' hgk
theorem addk_new {g : α} (h : g ∉ ks) : addk ks g = ks ++ [g] := if_neg h
theorem addk_old {g : α} (h : g ∈ ks) : addk ks g = ks := if_pos h
/-- the keys' own tuples, in order -/
theorem NDG.keys {kas : List KAV} (h1 : ND P w H a kas) : ∀ {l : List KAV} {ks : List α}, (∀ p ∈ l, p ∈ kas) → l.map (·.1) = ks.map kf → Paired (fun v g => Rp H v (kf g).data) (l.map fun k => V.ref k.2.1) ks
  | [], [], _, _ => .nil
  | [], _ :: _, _, e => nomatch e
  | _ :: _, [], _, e => nomatch e
  | p :: r, g :: s, hm, e => by
    have e1 := (List.cons.inj e).1
    refine .cons ?_ (NDG.keys h1 (fun q hq => hm q (List.mem_cons_of_mem _ hq)) (List.cons.inj e).2)
    rw [← e1]
    exact (h1.keys p (hm p (List.mem_cons_self ..))).1
theorem NDG.list {Q : VK} (d : NDG P w kf H a ks f) (q : ∀ p vs, H p = none → Paired (fun v g => Rp H v (kf g).data) vs ks → Q (.ref p) (upd H p (.lst vs))) :
    ∃ a' kas, [V.ref a] = [V.ref a'] ∧ ND P w H a' kas ∧ ∀ p, H p = none → Q (.ref p) (upd H p (.lst (kas.map fun k => V.ref k.2.1))) := by
  obtain ⟨kas, h1, h2, h3⟩ := d.ex
  exact ⟨a, kas, rfl, h1, fun p hp => q p _ hp (NDG.keys h1 (fun _ h => h) h2)⟩
theorem NDG.len {Q : VK} (d : NDG P w kf H a ks f) (q : Q (.int ((ks.length : Nat) : Int)) H) : ∃ a' kas, [V.ref a] = [V.ref a'] ∧ ND P w H a' kas ∧ Q (.int ((kas.length : Nat) : Int)) H := by
  obtain ⟨kas, h1, h2, h3⟩ := d.ex
  exact ⟨a, kas, rfl, h1, by rw [NDG.lenE h2]; exact q⟩
theorem NDG.empty {p : Addr} : NDG P w kf (upd H p (nO P w p [])) p [] f := ⟨[], ND.empty, rfl, fun _ h => (List.not_mem_nil h).elim⟩
end
end Nc

-- S1
set_option maxHeartbeats 4000000
namespace Nc
open PySem L2 C8
def kP (h : HH) (q : GG × List Int) : NestedKey := .tup [kS h q.1, kI q.2]
theorem kP_data (h : HH) (q : GG × List Int) : (kP h q).data = .tuple [h.dS q.1, dI q.2] := by
  show PyData.tuple [(kS h q.1).data, (kI q.2).data] = _
  rw [kS_data, kI_data]
theorem kP_depth (h : HH) (q : GG × List Int) : (kP h q).depth ≤ 4 := by
  show max (kS h q.1).depth (max (kI q.2).depth 0) + 1 ≤ 4
  have := kS_depth h q.1
  rw [kI_depth]
  omega
theorem kP_inj {h : HH} {q q' : GG × List Int} (a : Good h q.1) (b : Good h q'.1) (e : kP h q = kP h q') : q = q' := by
  have e1 := NestedKey.tup.inj e
  exact Prod.ext (kS_inj a b (List.cons.inj e1).1) (kI_inj (List.cons.inj (List.cons.inj e1).2).1)
theorem kS_KInj {h : HH} {ks : List GG} {g : GG} (a : ∀ g' ∈ ks, Good h g') (b : Good h g) : KInj (kS h) ks g := fun g' hg' e => kS_inj (a g' hg') b e
theorem kP_KInj {h : HH} {ks : List (GG × List Int)} {g : GG × List Int} (a : ∀ g' ∈ ks, Good h g'.1) (b : Good h g.1) : KInj (kP h) ks g := fun g' hg' e => kP_inj (a g' hg') b e
theorem kS_KInj2 {h : HH} {ks : List GG} {g : GG} (a : ∀ g' ∈ ks, Good h g') (b : Good h g) : ∀ g' ∈ ks, KInj (kS h) [g] g' := fun g' hg' g2 h2 e => by
  obtain rfl := List.mem_singleton.mp h2
  exact kS_inj b (a g' hg') e
theorem kP_KInj2 {h : HH} {ks : List (GG × List Int)} {g : GG × List Int} (a : ∀ g' ∈ ks, Good h g'.1) (b : Good h g.1) : ∀ g' ∈ ks, KInj (kP h) [g] g' := fun g' hg' g2 h2 e => by
  obtain rfl := List.mem_singleton.mp h2
  exact kP_inj b (a g' hg') e
/-- a state stands at v -/
def StV (h : HH) (H : Hp) (v : V) (g : GG) : Prop := Rp H v (h.dS g)
theorem StV.ts {h : HH} {H H' : Hp} {v : V} {g : GG} (k : StV h H v g) (t : TpS H H') : StV h H' v g := Rp.ts t _ _ k
theorem StV.ref {h : HH} {H : Hp} {v : V} {g : GG} (k : StV h H v g) : ∃ a, v = .ref a := Rp.dS_ref k
theorem StV.key {h : HH} {H : Hp} {v : V} {g : GG} (k : StV h H v g) : Rp H v (kS h g).data := by rw [kS_data]; exact k
theorem stv_of {h : HH} {H : Hp} {vs : List V} {ks : List GG} (p : Paired (fun v g => Rp H v (kS h g).data) vs ks) : Paired (StV h H) vs ks := Paired.imp' (fun v g z => by
  show Rp H v (h.dS g)
  rw [← kS_data]
  exact z) p
theorem stvs_ts {h : HH} {H H' : Hp} {vs : List V} {gs : List GG} (p : Paired (StV h H) vs gs) (t : TpS H H') : Paired (StV h H') vs gs := Paired.imp' (fun _ _ z => z.ts t) p
theorem stvs_get {h : HH} {H : Hp} : ∀ {vs : List V} {gs : List GG}, Paired (StV h H) vs gs → ∀ {i : Nat} {v : V}, vs[i]? = some v → ∃ g, gs[i]? = some g ∧ StV h H v g
  | _, _, .nil, i, v, e => by simp at e
  | _, _, .cons a t, 0, v, e => by
    obtain rfl := Option.some.inj e
    exact ⟨_, rfl, a⟩
  | _, _, .cons a t, i + 1, v, e => by
    obtain ⟨g, h1, h2⟩ := stvs_get t (i := i) (by simpa using e)
    exact ⟨g, by simpa using h1, h2⟩
/-- a list of states as data -/
theorem stvs_dp {K : PySem.W.Frag} {h : HH} {H : Hp} : ∀ {vs : List V} {gs : List GG}, Paired (StV h H) vs gs → DpAll K H vs (gs.map h.dS)
  | _, _, .nil => .nil
  | _, _, .cons a t => .cons (Rp.dp _ _ (noL_dS _ _) a) (stvs_dp t)
where
  noL_int : ∀ a : List Int, noLs (a.map PyData.int) = true
    | [] => rfl
    | x :: r => by
      show (true && noLs (r.map PyData.int)) = true
      rw [noL_int r]; rfl
  noL_dI : ∀ a : List (List Int), noLs (a.map dI) = true
    | [] => rfl
    | x :: r => by
      show (noLs (x.map PyData.int) && noLs (r.map dI)) = true
      rw [noL_int, noL_dI r]; rfl
  noL_dS (h : HH) (g : GG) : noL (h.dS g) = true := by
    show (noLs ((h.vals g).map dI) && (noLs ((h.amts g).map dI) && (noLs ([g.1.o, g.2.o].map PyData.int) && true))) = true
    rw [noL_dI, noL_dI, noL_int]; rfl
/-- what stays -/
structure Wd where
  s : Addr
  wy : Addr
  en : Addr
  es : Addr
  aE : Addr
  aR : Addr
  aA : Addr
  dxs : Addr
  dxw : Addr
  h : HH
  ln : List V
  pn : List V
  st : V
/-- what changes -/
structure Ct where
  aK : Addr
  EK : List GG
  ea : GG → Addr
  EM : GG → List GG
  AK : List GG
  RK : List GG
  ra : GG → Addr
  RM : GG → List GG
  KK : List (GG × List Int)
  ka : GG × List Int → Addr
  kl : GG × List Int → Addr
  KM : GG × List Int → List GG
  kc : GG × List Int → Int
def Wd.M (W : Wd) (C : Ct) : List Addr := W.wy :: W.aE :: W.aR :: W.aA :: C.aK :: C.EK.map C.ea
structure SW (P : Program) (w : World) (K : PySem.W.Frag) (W : Wd) (C : Ct) (H : Hp) : Prop where
  so : fz (W.M C) H W.s = some (.ins (He.ga K "Search") W.dxs (fSearch (.ref W.wy) W.st (.ref W.aE) (.ref W.aR) (.ref W.aA)))
  wo : H W.wy = some (.ins (He.ga K "Ways") W.dxw (fWays (.ref W.en) (.ref W.es) (.ref W.s) (.ref C.aK)))
  eng : EngAt K (fz (W.M C) H) W.en W.h W.ln W.pn
  ent : ∃ vs, fz (W.M C) H W.es = some (.lst vs) ∧ Paired (EntAt (fz (W.M C) H)) vs W.h.ents
  dE : NDG P w (kS W.h) H W.aE C.EK (fun g => .ref (C.ea g))
  dR : NDG P w (kS W.h) H W.aR C.RK (fun g => .ref (C.ra g))
  dA : NDG P w (kS W.h) H W.aA C.AK (fun _ => .bl true)
  dK : NDG P w (kP W.h) H C.aK C.KK (fun q => .ref (C.ka q))
  le : ∀ g ∈ C.EK, ∃ vs, H (C.ea g) = some (.lst vs) ∧ Paired (StV W.h H) vs (C.EM g)
  lr : ∀ g ∈ C.RK, ∃ vs, fz (W.M C) H (C.ra g) = some (.lst vs) ∧ Paired (StV W.h H) vs (C.RM g)
  lk : ∀ q ∈ C.KK, 0 ≤ C.kc q ∧ C.kc q ≤ 100 ∧ fz (W.M C) H (C.ka q) = some (.tup [.ref (C.kl q), .int (C.kc q)]) ∧ ∃ vs, fz (W.M C) H (C.kl q) = some (.lst vs) ∧ Paired (StV W.h H) vs (C.KM q)
  nd : (W.M C).Nodup
  goE : ∀ g ∈ C.EK, Good W.h g
  ndE : C.EK.Nodup
  goA : ∀ g ∈ C.AK, Good W.h g
  ndA : C.AK.Nodup
  goR : ∀ g ∈ C.RK, Good W.h g
  emE : ∀ g ∈ C.EK, (C.EM g).Nodup ∧ ∀ e ∈ C.EM g, Good W.h e
  rmR : ∀ g ∈ C.RK, (C.RM g).Nodup ∧ ∀ e ∈ C.RM g, Good W.h e
  goK : ∀ q ∈ C.KK, Good W.h q.1
  fit : W.h.fit
section
variable {P : Program} {w : World} {K : PySem.W.Frag} {W : Wd} {C : Ct} {H : Hp}
theorem SW.ntp (x : SW P w K W C H) : NTp (W.M C) H := fun m hm => by
  unfold Wd.M at hm
  simp only [List.mem_cons] at hm
  rcases hm with rfl | rfl | rfl | rfl | rfl | hm
  · rw [x.wo]; exact id
  · exact x.dE.ntp
  · exact x.dR.ntp
  · exact x.dA.ntp
  · exact x.dK.ntp
  · obtain ⟨g, hg, rfl⟩ := List.mem_map.mp hm
    obtain ⟨vs, h1, _⟩ := x.le g hg
    rw [h1]; exact id
theorem SW.so' (x : SW P w K W C H) : H W.s = some (.ins (He.ga K "Search") W.dxs (fSearch (.ref W.wy) W.st (.ref W.aE) (.ref W.aR) (.ref W.aA))) := fz_same _ _ x.so
/-- the members of M are no pauses -/
theorem SW.noPause (x : SW P w K W C H) {m : Addr} (hm : m ∈ W.M C) {c dx : Addr} {a1 a2 a3 a4 : V} : H m ≠ some (.ins c dx (fPause a1 a2 a3 a4)) := fun e => by
  unfold Wd.M at hm
  simp only [List.mem_cons] at hm
  rcases hm with rfl | rfl | rfl | rfl | rfl | hm
  · rw [x.wo] at e
    have e1 := congrArg (fun o => match o with | some (HO.ins _ _ fs) => fs.lookup ("engine" : Str) | _ => none) e
    have e2 : some (V.ref W.en) = (none : Option V) := by
      have h1 : (fWays (.ref W.en) (.ref W.es) (.ref W.s) (.ref C.aK)).lookup ("engine" : Str) = some (V.ref W.en) := fWays_engine
      have h2 : (fPause a1 a2 a3 a4).lookup ("engine" : Str) = none := rfl
      exact h1.symm.trans (e1.trans h2)
    cases e2
  · obtain ⟨kas, h1⟩ := x.dE.at_
    rw [h1] at e
    cases e
  · obtain ⟨kas, h1⟩ := x.dR.at_
    rw [h1] at e
    cases e
  · obtain ⟨kas, h1⟩ := x.dA.at_
    rw [h1] at e
    cases e
  · obtain ⟨kas, h1⟩ := x.dK.at_
    rw [h1] at e
    cases e
  · obtain ⟨g, hg, rfl⟩ := List.mem_map.mp hm
    obtain ⟨vs, h1, _⟩ := x.le g hg
    rw [h1] at e
    cases e
/-- only fresh objects came -/
theorem SW.to {H' : Hp} (x : SW P w K W C H) (s : Same H H') : SW P w K W C H' := by
  have t := TpS.of s
  have f := (Fr.of (M := W.M C) s).same
  refine ⟨f _ _ x.so, s _ _ x.wo, x.eng.to f, ?_, ?_, ?_, ?_, ?_, fun g hg => ?_, fun g hg => ?_, fun q hq => ?_, x.nd, x.goE, x.ndE, x.goA, x.ndA, x.goR, x.emE, x.rmR, x.goK, x.fit⟩
  · obtain ⟨vs, h1, h2⟩ := x.ent
    exact ⟨vs, f _ _ h1, Paired.imp' (fun _ _ z => z.ts (TpS.of f)) h2⟩
  · obtain ⟨kas, h1⟩ := x.dE.at_
    exact x.dE.ts t ((s _ _ h1).trans h1.symm)
  · obtain ⟨kas, h1⟩ := x.dR.at_
    exact x.dR.ts t ((s _ _ h1).trans h1.symm)
  · obtain ⟨kas, h1⟩ := x.dA.at_
    exact x.dA.ts t ((s _ _ h1).trans h1.symm)
  · obtain ⟨kas, h1⟩ := x.dK.at_
    exact x.dK.ts t ((s _ _ h1).trans h1.symm)
  · obtain ⟨vs, h1, h2⟩ := x.le g hg
    exact ⟨vs, s _ _ h1, stvs_ts h2 t⟩
  · obtain ⟨vs, h1, h2⟩ := x.lr g hg
    exact ⟨vs, f _ _ h1, stvs_ts h2 t⟩
  · obtain ⟨h1, h2, h3, vs, h4, h5⟩ := x.lk q hq
    exact ⟨h1, h2, f _ _ h3, vs, f _ _ h4, stvs_ts h5 t⟩
end
end Nc

-- S2
set_option maxHeartbeats 4000000
namespace Nc
open PySem L2 C8
theorem nodup_map_inj {α β : Type} {f : α → β} : ∀ {l : List α}, (l.map f).Nodup → ∀ x ∈ l, ∀ y ∈ l, f x = f y → x = y
  | [], _, x, hx, _, _, _ => (List.not_mem_nil hx).elim
  | z :: r, nd, x, hx, y, hy, e => by
    rw [List.map_cons, List.nodup_cons] at nd
    rcases List.mem_cons.mp hx with h1 | h1 <;> rcases List.mem_cons.mp hy with h2 | h2
    · rw [h1, h2]
    · rw [h1] at e
      exact absurd (List.mem_map.mpr ⟨y, h2, e.symm⟩) nd.1
    · rw [h2] at e
      exact absurd (List.mem_map.mpr ⟨x, h1, e⟩) nd.1
    · exact nodup_map_inj nd.2 x h1 y h2 e
section
variable {P : Program} {w : World} {K : PySem.W.Frag} {W : Wd} {C C' : Ct} {H H' : Hp}
structure Nes (W : Wd) (C : Ct) : Prop where
  wE : W.wy ≠ W.aE
  wR : W.wy ≠ W.aR
  wA : W.wy ≠ W.aA
  wK : W.wy ≠ C.aK
  ER : W.aE ≠ W.aR
  EA : W.aE ≠ W.aA
  EK : W.aE ≠ C.aK
  RA : W.aR ≠ W.aA
  RK : W.aR ≠ C.aK
  AK : W.aA ≠ C.aK
  ew : ∀ g ∈ C.EK, C.ea g ≠ W.wy
  eE : ∀ g ∈ C.EK, C.ea g ≠ W.aE
  eR : ∀ g ∈ C.EK, C.ea g ≠ W.aR
  eA : ∀ g ∈ C.EK, C.ea g ≠ W.aA
  eK : ∀ g ∈ C.EK, C.ea g ≠ C.aK
  ee : ∀ g ∈ C.EK, ∀ g' ∈ C.EK, C.ea g = C.ea g' → g = g'
theorem SW.nes (x : SW P w K W C H) : Nes W C := by
  have nd := x.nd
  unfold Wd.M at nd
  obtain ⟨n1, nd⟩ := List.nodup_cons.mp nd
  obtain ⟨n2, nd⟩ := List.nodup_cons.mp nd
  obtain ⟨n3, nd⟩ := List.nodup_cons.mp nd
  obtain ⟨n4, nd⟩ := List.nodup_cons.mp nd
  obtain ⟨n5, nd⟩ := List.nodup_cons.mp nd
  simp only [List.mem_cons, not_or, List.mem_map, not_exists, not_and] at n1 n2 n3 n4 n5
  obtain ⟨a1, a2, a3, a4, a5⟩ := n1
  obtain ⟨b1, b2, b3, b4⟩ := n2
  obtain ⟨c1, c2, c3⟩ := n3
  obtain ⟨d1, d2⟩ := n4
  exact ⟨a1, a2, a3, a4, b1, b2, b3, c1, c2, d1, a5, b4, c3, d2, n5, nodup_map_inj nd⟩
theorem NDG.congr {α : Type} [DecidableEq α] {kf : α → NestedKey} {a : Addr} {ks : List α} {f f' : α → V} (d : NDG P w kf H a ks f) (h : ∀ g ∈ ks, f g = f' g) : NDG P w kf H a ks f' := by
  obtain ⟨kas, h1, h2, h3⟩ := d.ex
  exact ⟨kas, h1, h2, fun g hg => by rw [← h g hg]; exact h3 g hg⟩
theorem fset_ref {α : Type} [DecidableEq α] (f : α → Addr) (g : α) (p : Addr) (g' : α) : fset (fun g => V.ref (f g)) g (.ref p) g' = .ref (fset f g p g') := by
  unfold fset
  split <;> rfl
theorem fset_same {α β : Type} [DecidableEq α] {f : α → β} {g : α} {v : β} : fset f g v g = v := if_pos rfl
theorem fset_ne {α β : Type} [DecidableEq α] {f : α → β} {g g' : α} {v : β} (h : g' ≠ g) : fset f g v g' = f g' := if_neg h
/-- the standing part goes along -/
theorem SW.move (x : SW P w K W C H) (f : Fr (W.M C) H (W.M C') H') : fz (W.M C') H' W.s = some (.ins (He.ga K "Search") W.dxs (fSearch (.ref W.wy) W.st (.ref W.aE) (.ref W.aR) (.ref W.aA))) ∧ EngAt K (fz (W.M C') H') W.en W.h W.ln W.pn ∧ ∃ vs, fz (W.M C') H' W.es = some (.lst vs) ∧ Paired (EntAt (fz (W.M C') H')) vs W.h.ents := by
  have s := f.same
  obtain ⟨vs, h1, h2⟩ := x.ent
  exact ⟨s _ _ x.so, x.eng.to s, vs, s _ _ h1, Paired.imp' (fun _ _ z => z.ts (TpS.of s)) h2⟩
theorem memM_E {W : Wd} {C : Ct} : W.aE ∈ W.M C := by unfold Wd.M; simp
theorem memM_R {W : Wd} {C : Ct} : W.aR ∈ W.M C := by unfold Wd.M; simp
theorem memM_A {W : Wd} {C : Ct} : W.aA ∈ W.M C := by unfold Wd.M; simp
theorem memM_K {W : Wd} {C : Ct} : C.aK ∈ W.M C := by unfold Wd.M; simp
theorem memM_w {W : Wd} {C : Ct} : W.wy ∈ W.M C := by unfold Wd.M; simp
theorem memM_e {W : Wd} {C : Ct} {g : GG} (h : g ∈ C.EK) : C.ea g ∈ W.M C := by
  unfold Wd.M
  simp only [List.mem_cons, List.mem_map]
  exact .inr (.inr (.inr (.inr (.inr ⟨g, h, rfl⟩))))
/-! ### asked[G] = True -/
def Ct.ask (C : Ct) (G : GG) : Ct := { C with AK := addk C.AK G }
theorem SW.ask (x : SW P w K W C H) {G : GG} (hg : Good W.h G) {kas : List KAV} (d : NDG P w (kS W.h) (upd H W.aA (nO P w W.aA kas)) W.aA (addk C.AK G) (fset (fun _ => V.bl true) G (.bl true))) :
    SW P w K W (C.ask G) (upd H W.aA (nO P w W.aA kas)) ∧ Fr (W.M C) H (W.M (C.ask G)) (upd H W.aA (nO P w W.aA kas)) := by
  have f : Fr (W.M C) H (W.M (C.ask G)) (upd H W.aA (nO P w W.aA kas)) := (Fr.refl (M := W.M C)).upd memM_A
  have t := f.ts x.ntp
  have n := x.nes
  obtain ⟨so, eng, ent⟩ := x.move f
  refine ⟨⟨so, (upd_ne n.wA).trans x.wo, eng, ent, x.dE.ts t (upd_ne n.EA), x.dR.ts t (upd_ne n.RA), d.congr fun g _ => ?_, x.dK.ts t (upd_ne n.AK.symm), fun g hg => ?_, fun g hg => ?_, fun q hq => ?_, x.nd, x.goE, x.ndE, fun g hg' => ?_, ?_, x.goR, x.emE, x.rmR, x.goK, x.fit⟩, f⟩
  · unfold fset
    split <;> rfl
  · obtain ⟨vs, h1, h2⟩ := x.le g hg
    exact ⟨vs, (upd_ne (n.eA g hg)).trans h1, stvs_ts h2 t⟩
  · obtain ⟨vs, h1, h2⟩ := x.lr g hg
    exact ⟨vs, f.same _ _ h1, stvs_ts h2 t⟩
  · obtain ⟨h1, h2, h3, vs, h4, h5⟩ := x.lk q hq
    exact ⟨h1, h2, f.same _ _ h3, vs, f.same _ _ h4, stvs_ts h5 t⟩
  · have hg2 : g ∈ addk C.AK G := hg'
    unfold addk at hg2
    split at hg2
    · exact x.goA g hg2
    · rcases List.mem_append.mp hg2 with z | z
      · exact x.goA g z
      · obtain rfl := List.mem_singleton.mp z
        exact hg
  · show (addk C.AK G).Nodup
    unfold addk
    split
    · exact x.ndA
    · rename_i hn
      rw [List.nodup_append]
      exact ⟨x.ndA, by simp, fun a ha b hb => by
        obtain rfl := List.mem_singleton.mp hb
        exact fun z => hn (z ▸ ha)⟩
/-! ### ends[G] = [] -/
def Ct.meet (C : Ct) (G : GG) (p : Addr) : Ct := { C with EK := C.EK ++ [G], ea := fset C.ea G p, EM := fset C.EM G [] }
theorem map_fset {G : GG} {p : Addr} {ks : List GG} {f : GG → Addr} (h : G ∉ ks) : (ks ++ [G]).map (fset f G p) = ks.map f ++ [p] := by
  rw [List.map_append]
  congr 1
  · exact List.map_congr_left fun g hg => fset_ne fun e => h (e ▸ hg)
  · show [fset f G p G] = [p]
    rw [fset_same]
theorem SW.meet (x : SW P w K W C H) {G : GG} (hg : Good W.h G) (hn : G ∉ C.EK) {p : Addr} (hp : H p = none) {kas : List KAV} (d : NDG P w (kS W.h) (upd (upd H p (.lst [])) W.aE (nO P w W.aE kas)) W.aE (addk C.EK G) (fset (fun g => V.ref (C.ea g)) G (.ref p))) :
    SW P w K W (C.meet G p) (upd (upd H p (.lst [])) W.aE (nO P w W.aE kas)) ∧ Fr (W.M C) H (W.M (C.meet G p)) (upd (upd H p (.lst [])) W.aE (nO P w W.aE kas)) := by
  have eM : W.M (C.meet G p) = W.M C ++ [p] := by
    show W.wy :: W.aE :: W.aR :: W.aA :: C.aK :: (C.EK ++ [G]).map (fset C.ea G p) = _
    rw [map_fset hn]
    rfl
  have f : Fr (W.M C) H (W.M (C.meet G p)) (upd (upd H p (.lst [])) W.aE (nO P w W.aE kas)) := by
    refine ⟨(Kp.refl.new hp _).upd memM_E, fun a ha => ?_⟩
    rw [eM] at ha
    rcases List.mem_append.mp ha with z | z
    · exact .inl z
    · obtain rfl := List.mem_singleton.mp z
      exact .inr hp
  have t := f.ts x.ntp
  have n := x.nes
  have np : ∀ {a : Addr} {u : HO}, H a = some u → a ≠ p := fun h => ne_of_none h hp
  obtain ⟨so, eng, ent⟩ := x.move f
  have pn : ∀ {a : Addr} {u : HO}, H a = some u → a ≠ W.aE → (upd (upd H p (.lst [])) W.aE (nO P w W.aE kas)) a = H a := fun h hne => (upd_ne hne).trans (upd_ne (np h))
  obtain ⟨k1, hk1⟩ := x.dR.at_
  obtain ⟨k2, hk2⟩ := x.dA.at_
  obtain ⟨k3, hk3⟩ := x.dK.at_
  obtain ⟨k4, hk4⟩ := x.dE.at_
  refine ⟨⟨so, (pn x.wo n.wE).trans x.wo, eng, ent, ?_, x.dR.ts t (pn hk1 n.ER.symm), x.dA.ts t (pn hk2 n.EA.symm), x.dK.ts t (pn hk3 n.EK.symm), fun g hg' => ?_, fun g hg => ?_, fun q hq => ?_, ?_, fun g hg' => ?_, ?_, x.goA, x.ndA, x.goR, fun g hg' => ?_, x.rmR, x.goK, x.fit⟩, f⟩
  · rw [addk_new hn] at d
    exact d.congr fun g _ => fset_ref C.ea G p g
  · show ∃ vs, (upd (upd H p (.lst [])) W.aE (nO P w W.aE kas)) (fset C.ea G p g) = some (.lst vs) ∧ Paired (StV W.h _) vs (fset C.EM G [] g)
    by_cases e : g = G
    · rw [e, fset_same, fset_same]
      exact ⟨[], (upd_ne (np hk4).symm).trans upd_same, .nil⟩
    · rw [fset_ne e, fset_ne e]
      have hg2 : g ∈ C.EK := (List.mem_append.mp hg').elim id fun z => absurd (List.mem_singleton.mp z) e
      obtain ⟨vs, h1, h2⟩ := x.le g hg2
      exact ⟨vs, (pn h1 (n.eE g hg2)).trans h1, stvs_ts h2 t⟩
  · obtain ⟨vs, h1, h2⟩ := x.lr g hg
    exact ⟨vs, f.same _ _ h1, stvs_ts h2 t⟩
  · obtain ⟨h1, h2, h3, vs, h4, h5⟩ := x.lk q hq
    exact ⟨h1, h2, f.same _ _ h3, vs, f.same _ _ h4, stvs_ts h5 t⟩
  · rw [eM, List.nodup_append]
    refine ⟨x.nd, by simp, fun a ha b hb => ?_⟩
    obtain rfl := List.mem_singleton.mp hb
    intro e
    subst e
    unfold Wd.M at ha
    simp only [List.mem_cons] at ha
    rcases ha with rfl | rfl | rfl | rfl | rfl | ha
    · exact np x.wo rfl
    · exact np hk4 rfl
    · exact np hk1 rfl
    · exact np hk2 rfl
    · exact np hk3 rfl
    · obtain ⟨g, hg, rfl⟩ := List.mem_map.mp ha
      obtain ⟨vs, h1, _⟩ := x.le g hg
      exact np h1 rfl
  · rcases List.mem_append.mp hg' with z | z
    · exact x.goE g z
    · obtain rfl := List.mem_singleton.mp z
      exact hg
  · show (C.EK ++ [G]).Nodup
    rw [List.nodup_append]
    exact ⟨x.ndE, by simp, fun a ha b hb => by
      obtain rfl := List.mem_singleton.mp hb
      exact fun z => hn (z ▸ ha)⟩
  · show (fset C.EM G [] g).Nodup ∧ ∀ e ∈ fset C.EM G [] g, Good W.h e
    by_cases e : g = G
    · rw [e, fset_same]
      exact ⟨List.nodup_nil, fun _ h => (List.not_mem_nil h).elim⟩
    · rw [fset_ne e]
      exact x.emE g ((List.mem_append.mp hg').elim id fun z => absurd (List.mem_singleton.mp z) e)
/-! ### ends[G].append(e) -/
def Ct.addE (C : Ct) (G e : GG) : Ct := { C with EM := fset C.EM G (C.EM G ++ [e]) }
theorem SW.addE (x : SW P w K W C H) {G e : GG} (hG : G ∈ C.EK) (hg : Good W.h e) (hn : e ∉ C.EM G) {vs : List V} {v : V} (hv : H (C.ea G) = some (.lst vs)) (hst : StV W.h H v e) :
    SW P w K W (C.addE G e) (upd H (C.ea G) (.lst (vs ++ [v]))) ∧ Fr (W.M C) H (W.M (C.addE G e)) (upd H (C.ea G) (.lst (vs ++ [v]))) := by
  have f : Fr (W.M C) H (W.M (C.addE G e)) (upd H (C.ea G) (.lst (vs ++ [v]))) := (Fr.refl (M := W.M C)).upd (memM_e hG)
  have t := f.ts x.ntp
  have n := x.nes
  obtain ⟨so, eng, ent⟩ := x.move f
  refine ⟨⟨so, (upd_ne (n.ew G hG).symm).trans x.wo, eng, ent, x.dE.ts t (upd_ne (n.eE G hG).symm), x.dR.ts t (upd_ne (n.eR G hG).symm), x.dA.ts t (upd_ne (n.eA G hG).symm), x.dK.ts t (upd_ne (n.eK G hG).symm), fun g hg' => ?_, fun g hg => ?_, fun q hq => ?_, x.nd, x.goE, x.ndE, x.goA, x.ndA, x.goR, fun g hg' => ?_, x.rmR, x.goK, x.fit⟩, f⟩
  · show ∃ ws, (upd H (C.ea G) (.lst (vs ++ [v]))) (C.ea g) = some (.lst ws) ∧ Paired (StV W.h _) ws (fset C.EM G (C.EM G ++ [e]) g)
    by_cases eg : g = G
    · subst eg
      rw [fset_same, upd_same]
      obtain ⟨us, h1, h2⟩ := x.le g hG
      rw [hv] at h1
      obtain rfl := HO.lst.inj (Option.some.inj h1)
      exact ⟨_, rfl, paired_snoc (stvs_ts h2 t) (hst.ts t)⟩
    · rw [fset_ne eg]
      obtain ⟨us, h1, h2⟩ := x.le g hg'
      exact ⟨us, (upd_ne fun z => eg (n.ee g hg' G hG z)).trans h1, stvs_ts h2 t⟩
  · obtain ⟨us, h1, h2⟩ := x.lr g hg
    exact ⟨us, f.same _ _ h1, stvs_ts h2 t⟩
  · obtain ⟨h1, h2, h3, us, h4, h5⟩ := x.lk q hq
    exact ⟨h1, h2, f.same _ _ h3, us, f.same _ _ h4, stvs_ts h5 t⟩
  · show (fset C.EM G (C.EM G ++ [e]) g).Nodup ∧ ∀ e' ∈ fset C.EM G (C.EM G ++ [e]) g, Good W.h e'
    by_cases eg : g = G
    · subst eg
      rw [fset_same]
      obtain ⟨h1, h2⟩ := x.emE g hG
      refine ⟨?_, fun e' he' => ?_⟩
      · rw [List.nodup_append]
        exact ⟨h1, by simp, fun a ha b hb => by
          obtain rfl := List.mem_singleton.mp hb
          exact fun z => hn (z ▸ ha)⟩
      · rcases List.mem_append.mp he' with z | z
        · exact h2 e' z
        · obtain rfl := List.mem_singleton.mp z
          exact hg
    · rw [fset_ne eg]
      exact x.emE g hg'
/-! ### rows[G] = a list that stands -/
def Ct.row (C : Ct) (G : GG) (r : Addr) (L : List GG) : Ct := { C with RK := addk C.RK G, ra := fset C.ra G r, RM := fset C.RM G L }
theorem SW.row (x : SW P w K W C H) {G : GG} (hg : Good W.h G) {r : Addr} {vs : List V} {L : List GG} (hr : fz (W.M C) H r = some (.lst vs)) (hL : Paired (StV W.h H) vs L) (nL : L.Nodup) (gL : ∀ e ∈ L, Good W.h e) {kas : List KAV} (d : NDG P w (kS W.h) (upd H W.aR (nO P w W.aR kas)) W.aR (addk C.RK G) (fset (fun g => V.ref (C.ra g)) G (.ref r))) :
    SW P w K W (C.row G r L) (upd H W.aR (nO P w W.aR kas)) ∧ Fr (W.M C) H (W.M (C.row G r L)) (upd H W.aR (nO P w W.aR kas)) := by
  have f : Fr (W.M C) H (W.M (C.row G r L)) (upd H W.aR (nO P w W.aR kas)) := (Fr.refl (M := W.M C)).upd memM_R
  have t := f.ts x.ntp
  have n := x.nes
  obtain ⟨so, eng, ent⟩ := x.move f
  have mk : ∀ {g}, g ∈ addk C.RK G → g ≠ G → g ∈ C.RK := fun {g} hg' e => by
    unfold addk at hg'
    split at hg'
    · exact hg'
    · exact (List.mem_append.mp hg').elim id fun z => absurd (List.mem_singleton.mp z) e
  refine ⟨⟨so, (upd_ne n.wR).trans x.wo, eng, ent, x.dE.ts t (upd_ne n.ER), d.congr fun g _ => fset_ref C.ra G r g, x.dA.ts t (upd_ne n.RA.symm), x.dK.ts t (upd_ne n.RK.symm), fun g hg => ?_, fun g hg' => ?_, fun q hq => ?_, x.nd, x.goE, x.ndE, x.goA, x.ndA, fun g hg' => ?_, x.emE, fun g hg' => ?_, x.goK, x.fit⟩, f⟩
  · obtain ⟨us, h1, h2⟩ := x.le g hg
    exact ⟨us, (upd_ne (n.eR g hg)).trans h1, stvs_ts h2 t⟩
  · show ∃ us, fz (W.M (C.row G r L)) (upd H W.aR (nO P w W.aR kas)) (fset C.ra G r g) = some (.lst us) ∧ Paired (StV W.h _) us (fset C.RM G L g)
    by_cases e : g = G
    · rw [e, fset_same, fset_same]
      exact ⟨vs, f.same _ _ hr, stvs_ts hL t⟩
    · rw [fset_ne e, fset_ne e]
      obtain ⟨us, h1, h2⟩ := x.lr g (mk hg' e)
      exact ⟨us, f.same _ _ h1, stvs_ts h2 t⟩
  · obtain ⟨h1, h2, h3, us, h4, h5⟩ := x.lk q hq
    exact ⟨h1, h2, f.same _ _ h3, us, f.same _ _ h4, stvs_ts h5 t⟩
  · by_cases e : g = G
    · rw [e]; exact hg
    · exact x.goR g (mk hg' e)
  · show (fset C.RM G L g).Nodup ∧ ∀ e' ∈ fset C.RM G L g, Good W.h e'
    by_cases e : g = G
    · rw [e, fset_same]
      exact ⟨nL, gL⟩
    · rw [fset_ne e]
      exact x.rmR g (mk hg' e)
/-! ### kept[q] = (a list, a count) -/
def Ct.keep (C : Ct) (q : GG × List Int) (t l : Addr) (L : List GG) (c : Int) : Ct := { C with KK := addk C.KK q, ka := fset C.ka q t, kl := fset C.kl q l, KM := fset C.KM q L, kc := fset C.kc q c }
theorem SW.keep (x : SW P w K W C H) {q : GG × List Int} (hg : Good W.h q.1) {ta l : Addr} {vs : List V} {L : List GG} {c : Int} (c0 : 0 ≤ c) (c1 : c ≤ 100) (ht : fz (W.M C) H ta = some (.tup [.ref l, .int c])) (hr : fz (W.M C) H l = some (.lst vs)) (hL : Paired (StV W.h H) vs L) {kas : List KAV} (d : NDG P w (kP W.h) (upd H C.aK (nO P w C.aK kas)) C.aK (addk C.KK q) (fset (fun g => V.ref (C.ka g)) q (.ref ta))) :
    SW P w K W (C.keep q ta l L c) (upd H C.aK (nO P w C.aK kas)) ∧ Fr (W.M C) H (W.M (C.keep q ta l L c)) (upd H C.aK (nO P w C.aK kas)) := by
  have f : Fr (W.M C) H (W.M (C.keep q ta l L c)) (upd H C.aK (nO P w C.aK kas)) := (Fr.refl (M := W.M C)).upd memM_K
  have t := f.ts x.ntp
  have n := x.nes
  obtain ⟨so, eng, ent⟩ := x.move f
  have mk : ∀ {g}, g ∈ addk C.KK q → g ≠ q → g ∈ C.KK := fun {g} hg' e => by
    unfold addk at hg'
    split at hg'
    · exact hg'
    · exact (List.mem_append.mp hg').elim id fun z => absurd (List.mem_singleton.mp z) e
  refine ⟨⟨so, (upd_ne n.wK).trans x.wo, eng, ent, x.dE.ts t (upd_ne n.EK), x.dR.ts t (upd_ne n.RK), x.dA.ts t (upd_ne n.AK), d.congr fun g _ => fset_ref C.ka q ta g, fun g hg => ?_, fun g hg' => ?_, fun q' hq => ?_, x.nd, x.goE, x.ndE, x.goA, x.ndA, x.goR, x.emE, x.rmR, fun g hg' => ?_, x.fit⟩, f⟩
  · obtain ⟨us, h1, h2⟩ := x.le g hg
    exact ⟨us, (upd_ne (n.eK g hg)).trans h1, stvs_ts h2 t⟩
  · obtain ⟨us, h1, h2⟩ := x.lr g hg'
    exact ⟨us, f.same _ _ h1, stvs_ts h2 t⟩
  · show 0 ≤ fset C.kc q c q' ∧ fset C.kc q c q' ≤ 100 ∧ fz (W.M (C.keep q ta l L c)) (upd H C.aK (nO P w C.aK kas)) (fset C.ka q ta q') = some (.tup [.ref (fset C.kl q l q'), .int (fset C.kc q c q')]) ∧ ∃ us, fz (W.M (C.keep q ta l L c)) (upd H C.aK (nO P w C.aK kas)) (fset C.kl q l q') = some (.lst us) ∧ Paired (StV W.h _) us (fset C.KM q L q')
    by_cases e : q' = q
    · rw [e, fset_same, fset_same, fset_same, fset_same]
      exact ⟨c0, c1, f.same _ _ ht, vs, f.same _ _ hr, stvs_ts hL t⟩
    · rw [fset_ne e, fset_ne e, fset_ne e, fset_ne e]
      obtain ⟨h1, h2, h3, us, h4, h5⟩ := x.lk q' (mk hq e)
      exact ⟨h1, h2, f.same _ _ h3, us, f.same _ _ h4, stvs_ts h5 t⟩
  · by_cases e : g = q
    · rw [e]; exact hg
    · exact x.goK g (mk hg' e)
/-! ### kept = {} -/
def Ct.forget (C : Ct) (p : Addr) : Ct := { C with aK := p, KK := [] }
theorem SW.forget (x : SW P w K W C H) {p : Addr} (hp : H p = none) :
    SW P w K W (C.forget p) (upd (upd H p (nO P w p [])) W.wy (.ins (He.ga K "Ways") W.dxw (fWays (.ref W.en) (.ref W.es) (.ref W.s) (.ref p)))) ∧ Fr (W.M C) H (W.M (C.forget p)) (upd (upd H p (nO P w p [])) W.wy (.ins (He.ga K "Ways") W.dxw (fWays (.ref W.en) (.ref W.es) (.ref W.s) (.ref p)))) := by
  have f : Fr (W.M C) H (W.M (C.forget p)) (upd (upd H p (nO P w p [])) W.wy (.ins (He.ga K "Ways") W.dxw (fWays (.ref W.en) (.ref W.es) (.ref W.s) (.ref p)))) := by
    refine ⟨(Kp.refl.new hp _).upd memM_w, fun a ha => ?_⟩
    unfold Wd.M at ha ⊢
    simp only [List.mem_cons] at ha ⊢
    rcases ha with rfl | rfl | rfl | rfl | rfl | ha
    · simp
    · simp
    · simp
    · simp
    · exact .inr hp
    · exact .inl (.inr (.inr (.inr (.inr (.inr ha)))))
  have t := f.ts x.ntp
  have n := x.nes
  have np : ∀ {a : Addr} {u : HO}, H a = some u → a ≠ p := fun h => ne_of_none h hp
  obtain ⟨so, eng, ent⟩ := x.move f
  have pn : ∀ {a : Addr} {u : HO}, H a = some u → a ≠ W.wy → (upd (upd H p (nO P w p [])) W.wy (.ins (He.ga K "Ways") W.dxw (fWays (.ref W.en) (.ref W.es) (.ref W.s) (.ref p)))) a = H a := fun h hne => (upd_ne hne).trans (upd_ne (np h))
  obtain ⟨k1, hk1⟩ := x.dR.at_
  obtain ⟨k2, hk2⟩ := x.dA.at_
  obtain ⟨k4, hk4⟩ := x.dE.at_
  refine ⟨⟨so, upd_same, eng, ent, x.dE.ts t (pn hk4 n.wE.symm), x.dR.ts t (pn hk1 n.wR.symm), x.dA.ts t (pn hk2 n.wA.symm), ?_, fun g hg => ?_, fun g hg => ?_, fun q hq => (List.not_mem_nil hq).elim, ?_, x.goE, x.ndE, x.goA, x.ndA, x.goR, x.emE, x.rmR, fun q hq => (List.not_mem_nil hq).elim, x.fit⟩, f⟩
  · have d0 : NDG P w (kP W.h) (upd H p (nO P w p [])) p [] (fun q => V.ref (C.ka q)) := NDG.empty
    exact d0.ts ((TpS.refl _).upd (by rw [(upd_ne (np x.wo)).trans x.wo]; exact id)) (upd_ne (np x.wo).symm)
  · obtain ⟨us, h1, h2⟩ := x.le g hg
    exact ⟨us, (pn h1 (n.ew g hg)).trans h1, stvs_ts h2 t⟩
  · obtain ⟨us, h1, h2⟩ := x.lr g hg
    exact ⟨us, f.same _ _ h1, stvs_ts h2 t⟩
  · have nd := x.nd
    unfold Wd.M at nd ⊢
    have hpM : p ∉ W.M C := fun z => by
      unfold Wd.M at z
      simp only [List.mem_cons] at z
      rcases z with rfl | rfl | rfl | rfl | rfl | z
      · exact np x.wo rfl
      · exact np hk4 rfl
      · exact np hk1 rfl
      · exact np hk2 rfl
      · obtain ⟨k5, hk5⟩ := x.dK.at_
        exact np hk5 rfl
      · obtain ⟨g, hg, rfl⟩ := List.mem_map.mp z
        obtain ⟨vs, h1, _⟩ := x.le g hg
        exact np h1 rfl
    unfold Wd.M at hpM
    simp only [List.mem_cons, not_or] at hpM
    obtain ⟨q1, q2, q3, q4, q5, q6⟩ := hpM
    obtain ⟨n1, nd⟩ := List.nodup_cons.mp nd
    obtain ⟨n2, nd⟩ := List.nodup_cons.mp nd
    obtain ⟨n3, nd⟩ := List.nodup_cons.mp nd
    obtain ⟨n4, nd⟩ := List.nodup_cons.mp nd
    obtain ⟨n5, nd⟩ := List.nodup_cons.mp nd
    simp only [List.mem_cons, not_or] at n1 n2 n3 n4
    show (W.wy :: W.aE :: W.aR :: W.aA :: p :: C.EK.map C.ea).Nodup
    rw [List.nodup_cons, List.nodup_cons, List.nodup_cons, List.nodup_cons, List.nodup_cons]
    simp only [List.mem_cons, not_or]
    exact ⟨⟨n1.1, n1.2.1, n1.2.2.1, Ne.symm q1, n1.2.2.2.2⟩, ⟨n2.1, n2.2.1, Ne.symm q2, n2.2.2.2⟩, ⟨n3.1, Ne.symm q3, n3.2.2⟩, ⟨Ne.symm q4, n4.2⟩, q6, nd⟩
end
end Nc

-- S3
set_option maxHeartbeats 4000000
namespace Nc
open PySem L2 C8
section
variable {P : Program} {w : World} {α : Type} [DecidableEq α] {kf : α → NestedKey} {H : Hp} {a b : Addr} {ks : List α} {f : α → V} {g : α} {v : V} {kas : List KAV}
theorem NDG.isT (h2 : kas.map (·.1) = ks.map kf) (inj : KInj kf ks g) (h : g ∈ ks) : (nGet kas (kf g)).isSome = true := by
  rw [NDG.isSome h2 inj]
  exact decide_eq_true h
theorem NDG.isF (h2 : kas.map (·.1) = ks.map kf) (inj : KInj kf ks g) (h : g ∉ ks) : (nGet kas (kf g)).isSome = false := by
  rw [NDG.isSome h2 inj]
  exact decide_eq_false h
theorem NDG.put1 (h1 : ND P w H a kas) (h2 : kas.map (·.1) = ks.map kf) (h3 : ∀ g ∈ ks, nGet kas (kf g) = some (f g)) (inj : KInj kf ks g) (hk : Rp H (.ref b) (kf g).data) (hd : (kf g).depth ≤ 8) :
    NDG P w kf (upd H a (nO P w a (nPut kas (kf g) b v))) a (addk ks g) (fset f g v) := by
  refine ⟨_, h1.put hk hd, ?_, fun g' hg' => ?_⟩
  · unfold nPut addk
    rw [NDG.isSome h2 inj]
    by_cases hg : g ∈ ks
    · rw [decide_eq_true hg, if_pos rfl, if_pos hg, ← h2, List.map_map]
      refine List.map_congr_left fun p _ => ?_
      show (if p.1 = kf g then (p.1, p.2.1, v) else p).1 = p.1
      split <;> rfl
    · rw [decide_eq_false hg, if_neg Bool.false_ne_true, if_neg hg, List.map_append, List.map_append, h2]
      rfl
  · rw [nGet_put]
    unfold fset
    by_cases e : g' = g
    · subst e
      rw [if_pos rfl, if_pos rfl]
    · rw [if_neg e]
      have hgk : g' ∈ ks := by
        unfold addk at hg'
        split at hg'
        · exact hg'
        · rcases List.mem_append.mp hg' with z | z
          · exact z
          · exact absurd (List.mem_singleton.mp z) e
      rw [if_neg fun z => e (inj g' hgk z)]
      exact h3 g' hgk
end
theorem hu9_of {A : Around} {k : Nat} (hr : Room k A) : A.units + 9 < cLine := by have := hr.un; omega
section
variable {P : Program} {w : World} {K : PySem.W.Frag} {mg : Str → Option Value} {base : Heap}
theorem dS8 (h : HH) (g : GG) : (kS h g).depth ≤ 8 := Nat.le_trans (kS_depth h g) (by decide)
theorem kP8 (h : HH) (q : GG × List Int) : (kP h q).depth ≤ 8 := Nat.le_trans (kP_depth h q) (by decide)
theorem SW.ek (W : Wd) {C : Ct} {H : Hp} (x : SW P w K W C H) : C.EK.length ≤ 36 := good_bound x.fit x.ndE x.goE
theorem SW.ak (W : Wd) {C : Ct} {H : Hp} (x : SW P w K W C H) : C.AK.length ≤ 36 := good_bound x.fit x.ndA x.goA
/-! ### meet -/
abbrev N_Search_meet : List Str := ["self", "state"]
theorem sc_Search_meet : FnScope N_Search_meet ["self", "state"] (defScope s_Search_meet) := ⟨rfl, rfl, rfl, by decide +kernel, rfl, by decide +kernel, by decide +kernel⟩
def spMeet (P : Program) (w : World) (K : PySem.W.Frag) : Sp := fun vs H Q _ => ∃ (W : Wd) (C : Ct) (v : V) (G : GG), vs = [.ref W.s, v] ∧ SW P w K W C H ∧ StV W.h H v G ∧ Good W.h G ∧
  (G ∈ C.EK → Q .non H) ∧ (G ∉ C.EK → ∀ p H', SW P w K W (C.meet G p) H' → Fr (W.M C) H (W.M (C.meet G p)) H' → Q .non H')
theorem ok_meet (T : Tx K mg) : Met P w K mg base 1 (He.ga K "Search") "meet" (spMeet P w K) [] := by
  refine met_of T 29 rfl T.cl_Search T.me_Search_meet sc_Search_meet (fun _ _ _ _ _ _ us hl => match us, hl with | [_, _], _ => rfl) (fun vs H Q E h => ?_) (fun cdv A outer s H vs Q E hr h => ?_)
  · obtain ⟨_, _, _, _, rfl, _⟩ := h
    rfl
  obtain ⟨W, C, v, G, rfl, x, hst, hg, q1, q2⟩ := h
  have hu9 := hu9_of hr
  obtain ⟨a, rfl⟩ := hst.ref
  refine ⟨_, (pss_one (ps_if (pt_cmp (pc_nnotin hu9 (pv 1) (pe_fld (pv 0) rfl)) (by rfl))
    (pss_cons (ps_nput hu9 (pe_fld (pv 0) rfl) (pv 1) (pe_lst pa_nil) rfl)
    (pss_one (ps_if (pt_cmpR op_gt (pe_callB call_lenN (by rfl) T.f_len (by decide +kernel) (pa_cons (pe_fld (pv 0) rfl) pa_nil)) (pe_gint rfl T.i_MOST_STATES) (nomark _))
    (pss_one ps_never)
    pss_nil)))
    pss_nil)), ?_⟩
  obtain ⟨kE, e1, e2, e3⟩ := x.dE.ex
  have inj := kS_KInj (ks := C.EK) x.goE hg
  refine ⟨_, rfl, _, rfl, W.s, _, W.dxs, _, _, rfl, x.so', T.cl_Search, T.na_Search_ends, fSearch_ends, W.aE, a, kE, kS W.h G, rfl, rfl, e1, hst.key, dS8 _ _, _, rfl, ?_⟩
  by_cases hm : G ∈ C.EK
  · rw [NDG.isT e2 inj hm]
    exact iteF (q1 hm)
  · rw [NDG.isF e2 inj hm]
    refine iteT ?_
    refine ⟨by show 0 ≤ sizeLine; decide, fun p hp => ?_⟩
    have s1 := same_new hp (.lst [])
    refine ⟨_, rfl, W.s, _, W.dxs, _, _, rfl, s1 _ _ x.so', T.cl_Search, T.na_Search_ends, fSearch_ends, _, rfl, W.aE, a, kE, kS W.h G, rfl, rfl, e1.same s1, (hst.ts (TpS.of s1)).key, dS8 _ _, szl _ (by rw [NDG.lenE e2]; have := x.ek; omega), ?_⟩
    have d := NDG.put1 (e1.same s1) e2 e3 inj (hst.ts (TpS.of s1)).key (dS8 _ _) (v := .ref p)
    obtain ⟨x2, f2⟩ := x.meet hg hm hp d
    obtain ⟨kE', e1', e2', _⟩ := x2.dE.ex
    refine ⟨_, rfl, W.s, _, W.dxs, _, _, rfl, x2.so', T.cl_Search, T.na_Search_ends, fSearch_ends, W.aE, kE', rfl, e1', _, _, rfl, rfl, _, rfl, ifN ?_ ?_⟩
    · have h1 : kE'.length = (C.meet G p).EK.length := NDG.lenE e2'
      have h2 := x2.ek
      omega
    · exact q2 hm p _ x2 f2
/-! ### row_of -/
abbrev N_Search_row_of : List Str := ["self", "state"]
theorem sc_Search_row_of : FnScope N_Search_row_of ["self", "state"] (defScope s_Search_row_of) := ⟨rfl, rfl, rfl, by decide +kernel, rfl, by decide +kernel, by decide +kernel⟩
/-- a state that is asked for the first time; p: its list of ends, where it is new there, too -/
def Ct.fst (C : Ct) (G : GG) (p r : Addr) : Ct := ((if G ∈ C.EK then C.ask G else (C.ask G).meet G p)).row G r [G]
def RowTo (C C1 : Ct) (G : GG) : Prop := (G ∈ C.AK ∧ C1 = C) ∨ (G ∉ C.AK ∧ ∃ p r, C1 = C.fst G p r)
def spRow (P : Program) (w : World) (K : PySem.W.Frag) : Sp := fun vs H Q _ => ∃ (W : Wd) (C : Ct) (v : V) (G : GG), vs = [.ref W.s, v] ∧ SW P w K W C H ∧ StV W.h H v G ∧ Good W.h G ∧ C.RK = C.AK ∧
  ∀ C1 r us H', RowTo C C1 G → SW P w K W C1 H' → Fr (W.M C) H (W.M C1) H' → fz (W.M C1) H' r = some (.lst us) → Paired (StV W.h H') us (C1.RM G) → Q (.ref r) H'
theorem ok_row_of (T : Tx K mg) : Met P w K mg base 2 (He.ga K "Search") "row_of" (spRow P w K) [] := by
  have m_Search_meet : Met P w K mg base 1 (He.ga K "Search") "meet" (spMeet P w K) [] := ok_meet T
  refine met_of T 28 rfl T.cl_Search T.me_Search_row_of sc_Search_row_of (fun _ _ _ _ _ _ us hl => match us, hl with | [_, _], _ => rfl) (fun vs H Q E h => ?_) (fun cdv A outer s H vs Q E hr h => ?_)
  · obtain ⟨_, _, _, _, rfl, _⟩ := h
    rfl
  obtain ⟨W, C, v, G, rfl, x, hst, hg, era, q⟩ := h
  have hu9 := hu9_of hr
  obtain ⟨a, rfl⟩ := hst.ref
  refine ⟨_, (pss_cons (ps_if (pt_cmp (pc_nnotin hu9 (pv 1) (pe_fld (pv 0) rfl)) (by rfl))
    (pss_cons (ps_nput hu9 (pe_fld (pv 0) rfl) (pv 1) pe_bl rfl)
    (pss_cons (ps_expr (pe_mt m_Search_meet hr (by decide) (pv 0) (pa_cons (pv 1) pa_nil)))
    (pss_one (ps_nput hu9 (pe_fld (pv 0) rfl) (pv 1) (pe_lst (pa_cons (pv 1) pa_nil)) rfl))))
    pss_nil)
    (pss_one (ps_ret (pe_nget hu9 (pe_fld (pv 0) rfl) (pv 1) (fun _ _ => rfl))))), ?_⟩
  obtain ⟨kA, a1, a2, a3⟩ := x.dA.ex
  have injA := kS_KInj (ks := C.AK) x.goA hg
  refine ⟨_, rfl, _, rfl, W.s, _, W.dxs, _, _, rfl, x.so', T.cl_Search, T.na_Search_asked, fSearch_asked, W.aA, a, kA, kS W.h G, rfl, rfl, a1, hst.key, dS8 _ _, _, rfl, ?_⟩
  by_cases hm : G ∈ C.AK
  · rw [NDG.isT a2 injA hm]
    refine iteF ?_
    have hmR : G ∈ C.RK := by rw [era]; exact hm
    obtain ⟨kR, r1, r2, r3⟩ := x.dR.ex
    obtain ⟨us, h1, h2⟩ := x.lr G hmR
    exact ⟨_, rfl, W.s, _, W.dxs, _, _, rfl, x.so', T.cl_Search, T.na_Search_rows, fSearch_rows, _, rfl, W.aR, a, kR, kS W.h G, _, rfl, rfl, r1, hst.key, dS8 _ _, r3 G hmR, q C _ us H (.inl ⟨hm, rfl⟩) x Fr.refl h1 h2⟩
  · rw [NDG.isF a2 injA hm]
    refine iteT ?_
    refine ⟨_, rfl, W.s, _, W.dxs, _, _, rfl, x.so', T.cl_Search, T.na_Search_asked, fSearch_asked, _, rfl, W.aA, a, kA, kS W.h G, rfl, rfl, a1, hst.key, dS8 _ _, szl _ (by rw [NDG.lenE a2]; have := x.ak; omega), ?_⟩
    have d := NDG.put1 a1 a2 a3 injA hst.key (dS8 _ _) (v := .bl true)
    obtain ⟨x1, f1⟩ := x.ask hg d
    have t1 := f1.ts x.ntp
    have hst1 := hst.ts t1
    refine ⟨_, rfl, W.s, W.dxs, _, rfl, x1.so', fSearch_no_meet, _, rfl, W, C.ask G, .ref a, G, rfl, x1, hst1, hg, fun hE => ?_, fun hE p H2 x2 f2 => ?_⟩
    · have hE' : G ∈ C.EK := hE
      obtain ⟨kR, r1, r2, r3⟩ := x1.dR.ex
      have injR := kS_KInj (ks := (C.ask G).RK) x1.goR hg
      have hst2 := hst1.ts (TpS.refl _)
      refine ⟨_, rfl, by show 1 ≤ sizeLine; decide, fun r hr => ?_⟩
      have s3 := same_new hr (.lst [.ref a])
      have x3 := x1.to s3
      refine ⟨_, rfl, W.s, _, W.dxs, _, _, rfl, x3.so', T.cl_Search, T.na_Search_rows, fSearch_rows, _, rfl, W.aR, a, kR, kS W.h G, rfl, rfl, r1.same s3, (hst2.ts (TpS.of s3)).key, dS8 _ _, szl _ (by rw [NDG.lenE r2]; show C.RK.length < _; rw [era]; have := x.ak; omega), ?_⟩
      have d3 := NDG.put1 (r1.same s3) r2 r3 injR (hst2.ts (TpS.of s3)).key (dS8 _ _) (v := .ref r)
      have rM : r ∉ W.M (C.ask G) := fun z => by
        have n3 := x1.to (Same.refl _)
        unfold Wd.M at z
        simp only [List.mem_cons] at z
        obtain ⟨k1, g1⟩ := x1.dE.at_
        obtain ⟨k2, g2⟩ := x1.dR.at_
        obtain ⟨k3, g3⟩ := x1.dA.at_
        obtain ⟨k4, g4⟩ := x1.dK.at_
        rcases z with rfl | rfl | rfl | rfl | rfl | z
        · exact ne_of_none x1.wo hr rfl
        · exact ne_of_none g1 hr rfl
        · exact ne_of_none g2 hr rfl
        · exact ne_of_none g3 hr rfl
        · exact ne_of_none g4 hr rfl
        · obtain ⟨g, hg, rfl⟩ := List.mem_map.mp z
          obtain ⟨vs, h1, _⟩ := x1.le g hg
          exact ne_of_none h1 hr rfl
      obtain ⟨x4, f4⟩ := x3.row hg (fz_get rM upd_same) (.cons (hst2.ts (TpS.of s3)) .nil) (by simp) (fun e he => by obtain rfl := List.mem_singleton.mp he; exact hg) d3
      have t4 := f4.ts x3.ntp
      obtain ⟨kR', r1', r2', r3'⟩ := x4.dR.ex
      have hmR : G ∈ ((C.ask G).row G r [G]).RK := by
        show G ∈ addk (C.ask G).RK G
        unfold addk
        split
        · assumption
        · simp
      obtain ⟨us, u1, u2⟩ := x4.lr G hmR
      have era2 : ((C.ask G).row G r [G]).ra G = r := fset_same
      have erm2 : ((C.ask G).row G r [G]).RM G = [G] := fset_same
      rw [era2] at u1
      rw [erm2] at u2
      have r3'' := r3' G hmR
      have era3 : (V.ref (((C.ask G).row G r [G]).ra G)) = V.ref r := by rw [era2]
      rw [era3] at r3''
      refine ⟨_, rfl, W.s, _, W.dxs, _, _, rfl, x4.so', T.cl_Search, T.na_Search_rows, fSearch_rows, _, rfl, W.aR, a, kR', kS W.h G, _, rfl, rfl, r1', ((hst2.ts (TpS.of s3)).ts t4).key, dS8 _ _, r3'', ?_⟩
      have fF := f1.trans ((Fr.of (M := W.M (C.ask G)) s3).trans f4)
      have ec : C.fst G 0 r = (C.ask G).row G r [G] := by unfold Ct.fst; rw [if_pos hE']
      exact q _ r us _ (.inr ⟨hm, 0, r, ec.symm⟩) x4 fF u1 (by rw [erm2]; exact u2)
    · have hE' : G ∉ C.EK := hE
      obtain ⟨kR, r1, r2, r3⟩ := x2.dR.ex
      have injR := kS_KInj (ks := ((C.ask G).meet G p).RK) x2.goR hg
      have hst2 := hst1.ts (f2.ts x1.ntp)
      refine ⟨_, rfl, by show 1 ≤ sizeLine; decide, fun r hr => ?_⟩
      have s3 := same_new hr (.lst [.ref a])
      have x3 := x2.to s3
      refine ⟨_, rfl, W.s, _, W.dxs, _, _, rfl, x3.so', T.cl_Search, T.na_Search_rows, fSearch_rows, _, rfl, W.aR, a, kR, kS W.h G, rfl, rfl, r1.same s3, (hst2.ts (TpS.of s3)).key, dS8 _ _, szl _ (by rw [NDG.lenE r2]; show C.RK.length < _; rw [era]; have := x.ak; omega), ?_⟩
      have d3 := NDG.put1 (r1.same s3) r2 r3 injR (hst2.ts (TpS.of s3)).key (dS8 _ _) (v := .ref r)
      have rM : r ∉ W.M ((C.ask G).meet G p) := fun z => by
        have n3 := x2.to (Same.refl _)
        unfold Wd.M at z
        simp only [List.mem_cons] at z
        obtain ⟨k1, g1⟩ := x2.dE.at_
        obtain ⟨k2, g2⟩ := x2.dR.at_
        obtain ⟨k3, g3⟩ := x2.dA.at_
        obtain ⟨k4, g4⟩ := x2.dK.at_
        rcases z with rfl | rfl | rfl | rfl | rfl | z
        · exact ne_of_none x2.wo hr rfl
        · exact ne_of_none g1 hr rfl
        · exact ne_of_none g2 hr rfl
        · exact ne_of_none g3 hr rfl
        · exact ne_of_none g4 hr rfl
        · obtain ⟨g, hg, rfl⟩ := List.mem_map.mp z
          obtain ⟨vs, h1, _⟩ := x2.le g hg
          exact ne_of_none h1 hr rfl
      obtain ⟨x4, f4⟩ := x3.row hg (fz_get rM upd_same) (.cons (hst2.ts (TpS.of s3)) .nil) (by simp) (fun e he => by obtain rfl := List.mem_singleton.mp he; exact hg) d3
      have t4 := f4.ts x3.ntp
      obtain ⟨kR', r1', r2', r3'⟩ := x4.dR.ex
      have hmR : G ∈ (((C.ask G).meet G p).row G r [G]).RK := by
        show G ∈ addk ((C.ask G).meet G p).RK G
        unfold addk
        split
        · assumption
        · simp
      obtain ⟨us, u1, u2⟩ := x4.lr G hmR
      have era2 : (((C.ask G).meet G p).row G r [G]).ra G = r := fset_same
      have erm2 : (((C.ask G).meet G p).row G r [G]).RM G = [G] := fset_same
      rw [era2] at u1
      rw [erm2] at u2
      have r3'' := r3' G hmR
      have era3 : (V.ref ((((C.ask G).meet G p).row G r [G]).ra G)) = V.ref r := by rw [era2]
      rw [era3] at r3''
      refine ⟨_, rfl, W.s, _, W.dxs, _, _, rfl, x4.so', T.cl_Search, T.na_Search_rows, fSearch_rows, _, rfl, W.aR, a, kR', kS W.h G, _, rfl, rfl, r1', ((hst2.ts (TpS.of s3)).ts t4).key, dS8 _ _, r3'', ?_⟩
      have fF := (f1.trans f2).trans ((Fr.of (M := W.M ((C.ask G).meet G p)) s3).trans f4)
      have ec : C.fst G p r = ((C.ask G).meet G p).row G r [G] := by unfold Ct.fst; rw [if_neg hE']
      exact q _ r us _ (.inr ⟨hm, p, r, ec.symm⟩) x4 fF u1 (by rw [erm2]; exact u2)
end
end Nc

-- S4
set_option maxHeartbeats 4000000
namespace Nc
open PySem L2 C8
section
variable {P : Program} {w : World} {K : PySem.W.Frag} {mg : Str → Option Value} {base : Heap}
/-! ### forget -/
abbrev N_Ways_forget : List Str := ["self"]
theorem sc_Ways_forget : FnScope N_Ways_forget ["self"] (defScope s_Ways_forget) := ⟨rfl, rfl, rfl, by decide +kernel, rfl, by decide +kernel, by decide +kernel⟩
def spForget (P : Program) (w : World) (K : PySem.W.Frag) : Sp := fun vs H Q _ => ∃ (W : Wd) (C : Ct), vs = [.ref W.wy] ∧ SW P w K W C H ∧ ∀ p H', SW P w K W (C.forget p) H' → Fr (W.M C) H (W.M (C.forget p)) H' → Q .non H'
theorem ok_forget (T : Tx K mg) : Met P w K mg base 1 (He.ga K "Ways") "forget" (spForget P w K) [] := by
  refine met_of T 24 rfl T.cl_Ways T.me_Ways_forget sc_Ways_forget (fun _ _ _ _ _ _ us hl => match us, hl with | [_], _ => rfl) (fun vs H Q E h => ?_) (fun cdv A outer s H vs Q E hr h => ?_)
  · obtain ⟨_, _, rfl, _⟩ := h
    rfl
  obtain ⟨W, C, rfl, x, q⟩ := h
  refine ⟨_, (pss_one (ps_fld (pv 0) pe_nnew rfl)), ?_⟩
  refine fun p hp => ⟨_, rfl, W.wy, _, _, _, rfl, (upd_ne (ne_of_none x.wo hp)).trans x.wo, T.cl_Ways, T.na_Ways_kept, (show 4 < 1000 by decide), ?_⟩
  obtain ⟨x2, f2⟩ := x.forget hp
  rw [pWays_kept]
  exact q p _ x2 f2
/-! ### closed -/
abbrev N_Search_closed : List Str := ["self", "begin", "row", "seen", "at", "end"]
theorem sc_Search_closed : FnScope N_Search_closed ["self", "begin"] (defScope s_Search_closed) := ⟨rfl, rfl, rfl, by decide +kernel, rfl, by decide +kernel, by decide +kernel⟩
structure CloOk (C : Ct) (G : GG) (L : List GG) : Prop where
  nd : L.Nodup
  beg : G ∈ L
  sub : ∀ t ∈ L, t ∈ C.EK
  clo : ∀ t ∈ L, ∀ e ∈ C.EM t, e ∈ L
  snd : ∀ R : GG → Prop, R G → (∀ t e, R t → t ∈ C.EK → e ∈ C.EM t → R e) → ∀ t ∈ L, R t
def spClosed (P : Program) (w : World) (K : PySem.W.Frag) : Sp := fun vs H Q _ => ∃ (W : Wd) (C : Ct) (v : V) (G : GG), vs = [.ref W.s, v] ∧ SW P w K W C H ∧ StV W.h H v G ∧ G ∈ C.EK ∧ (∀ g ∈ C.EK, ∀ e ∈ C.EM g, e ∈ C.EK) ∧
  ∀ r us L H', Same H H' → H r = none → H' r = some (.lst us) → Paired (StV W.h H') us L → CloOk C G L → Q (.ref r) H'
/-- a turn's state -/
structure WClo (P : Program) (w : World) (W : Wd) (C : Ct) (G : GG) (rr sd : Addr) (H0 H : Hp) (us : List V) (L : List GG) : Prop where
  s : Same H0 H
  r : H rr = some (.lst us)
  st : Paired (StV W.h H) us L
  d : NDG P w (kS W.h) H sd L (fun _ => V.bl true)
  nd : L.Nodup
  beg : G ∈ L
  sub : ∀ t ∈ L, t ∈ C.EK
  snd : ∀ R : GG → Prop, R G → (∀ t e, R t → t ∈ C.EK → e ∈ C.EM t → R e) → ∀ t ∈ L, R t
theorem ok_closed (T : Tx K mg) : Met P w K mg base 1 (He.ga K "Search") "closed" (spClosed P w K) [] := by
  refine met_of T 31 rfl T.cl_Search T.me_Search_closed sc_Search_closed (fun _ _ _ _ _ _ us hl => match us, hl with | [_, _], _ => rfl) (fun vs H Q E h => ?_) (fun cdv A outer s H vs Q E hr h => ?_)
  · obtain ⟨_, _, _, _, rfl, _⟩ := h
    rfl
  obtain ⟨W, C, v, G, rfl, x, hst, hG, hcl, q⟩ := h
  have hu9 := hu9_of hr
  obtain ⟨a, rfl⟩ := hst.ref
  have hg := x.goE G hG
  refine ⟨_, (pss_cons (ps_set (i := 2) sc_Search_closed.nd rfl (Or.inl rfl) (pe_lst (pa_cons (pv 1) pa_nil)))
    (pss_cons (ps_set (i := 3) sc_Search_closed.nd rfl (Or.inl rfl) (pe_ndisp hu9 (pv 1) pe_bl))
    (pss_cons (ps_set (i := 4) sc_Search_closed.nd rfl (Or.inl rfl) pe_int)
    (pss_cons (ps_while PassesOwn.never (pt_cmpR op_lt (pv 4) (pe_callB call_len_seq (by rfl) T.f_len (by decide +kernel) (pa_cons (pv 2) pa_nil)) (nomark _))
    (pss_cons (ps_for PassesOwn.never rfl (pi_list (pe_nget hu9 (pe_fld (pv 0) rfl) (pe_ix ix_list (pv 2) (pv 4) (fun _ _ => rfl)) (fun _ _ => rfl))) (pg_name (i := 5) sc_Search_closed.nd rfl (Or.inl rfl))
    (pss_one (ps_if (pt_cmp (pc_nnotin hu9 (pv 5) (pv 3)) (by rfl))
    (pss_cons (ps_nput hu9 (pv 3) (pv 5) pe_bl rfl)
    (pss_one (ps_expr (pe_bm PySem.F.plainAttrs_list PySem.F.slot_list_append PySem.F.type_list_append mt_append (pv 2) (pa_cons (pv 5) pa_nil)))))
    pss_nil)))
    (pss_one (ps_set (i := 4) sc_Search_closed.nd rfl (Or.inl rfl) (pe_op op_add (pv 4) pe_int)))))
    (pss_one (ps_ret (pv 2))))))), ?_⟩
  refine ⟨_, rfl, by show 1 ≤ sizeLine; decide, fun rr hrr => ?_⟩
  have s1 := same_new hrr (.lst [.ref a])
  refine fun sd hsd => ?_
  have s2 := s1.trans (same_new hsd (nO P w sd []))
  have nrs : rr ≠ sd := ne_of_none upd_same hsd
  have key1 : Rp (upd (upd H rr (.lst [.ref a])) sd (nO P w sd [])) (.ref a) (kS W.h G).data := (hst.ts (TpS.of s2)).key
  refine ⟨_, rfl, a, kS W.h G, rfl, upd_same, key1, dS8 _ _, ?_⟩
  have s3 : Same H (upd (upd (upd H rr (.lst [.ref a])) sd (nO P w sd [])) sd (nO P w sd [(kS W.h G, a, .bl true)])) := by
    rw [upd_upd]
    exact s1.trans (same_new hsd _)
  have w0 : WClo P w W C G rr sd H (upd (upd (upd H rr (.lst [.ref a])) sd (nO P w sd [])) sd (nO P w sd [(kS W.h G, a, .bl true)])) [.ref a] [G] := by
    refine ⟨s3, ?_, .cons (hst.ts (TpS.of s3)) .nil, ⟨[(kS W.h G, a, .bl true)], ⟨upd_same, fun p hp => ?_⟩, rfl, fun g hg' => ?_⟩, by simp, by simp, fun t ht => ?_, fun R h0 _ t ht => ?_⟩
    · rw [upd_upd, upd_ne nrs, upd_same]
    · obtain rfl := List.mem_singleton.mp hp
      exact ⟨(hst.ts (TpS.of s3)).key, dS8 _ _⟩
    · obtain rfl := List.mem_singleton.mp hg'
      show (([(kS W.h g, a, V.bl true)] : List KAV).find? fun p => decide (p.1 = kS W.h g)).map _ = _
      simp
    · obtain rfl := List.mem_singleton.mp ht
      exact hG
    · obtain rfl := List.mem_singleton.mp ht
      exact h0
  refine ⟨fun m σ H' => ∃ us L at' v5, m = 40 - at' ∧ σ = [some (.ref W.s), some (.ref a), some (.ref rr), some (.ref sd), some (.int ((at' : Nat) : Int)), v5] ∧ WClo P w W C G rr sd H H' us L ∧ at' ≤ L.length ∧ ∀ (i : Nat) t, i < at' → L[i]? = some t → ∀ e ∈ C.EM t, e ∈ L, ⟨40, [.ref a], [G], 0, none, rfl, rfl, w0, Nat.zero_le _, fun i t hi => absurd hi (Nat.not_lt_zero _)⟩, ?_⟩
  rintro m σ H1 ⟨us, L, at', v5, rfl, rfl, wc, hat, hdone⟩
  have lus : us.length = L.length := paired_len wc.st
  have l36 : L.length ≤ 36 := good_bound x.fit wc.nd fun g hg' => x.goE g (wc.sub g hg')
  refine ⟨_, rfl, _, rfl, rr, us, rfl, .inl (SqL.of wc.r), _, _, rfl, rfl, _, rfl, ?_⟩
  refine if2 (fun c => ?_) (fun c => ?_)
  · -- one more state
    have hlt : at' < L.length := by
      have c' : ((at' : Nat) : Int) < ((us.length : Nat) : Int) := c
      omega
    have hu : us[at']? = some (us[at']'(by omega)) := by simp
    obtain ⟨t, ht, hstt⟩ := stvs_get wc.st hu
    have htm : t ∈ L := List.mem_of_getElem? ht
    have htE := wc.sub t htm
    obtain ⟨ta, hta⟩ := hstt.ref
    rw [hta] at hu hstt
    have x1 := x.to wc.s
    obtain ⟨kE, e1, e2, e3⟩ := x1.dE.ex
    obtain ⟨ws, hw1, hw2⟩ := x1.le t htE
    refine ⟨fun σ' H' => ∃ m', m' < 40 - at' ∧ ∃ us L at' v5, m' = 40 - at' ∧ σ' = [some (.ref W.s), some (.ref a), some (.ref rr), some (.ref sd), some (.int ((at' : Nat) : Int)), v5] ∧ WClo P w W C G rr sd H H' us L ∧ at' ≤ L.length ∧ ∀ (i : Nat) t, i < at' → L[i]? = some t → ∀ e ∈ C.EM t, e ∈ L, fun σ' H' z => z, ?_⟩
    refine ⟨_, rfl, W.s, _, W.dxs, _, _, rfl, x1.so', T.cl_Search, T.na_Search_ends, fSearch_ends, _, rfl, _, rfl, rr, us, _, _, rfl, rfl, SqL.of wc.r, atI_nat hu, W.aE, ta, kE, kS W.h t, _, rfl, rfl, e1, hstt.key, dS8 _ _, e3 t htE, C.ea t, rfl, ⟨_, SqL.of hw1⟩, for_list (xs := ws) (fun j σ' H' => ∃ us' ext v5', σ' = [some (.ref W.s), some (.ref a), some (.ref rr), some (.ref sd), some (.int ((at' : Nat) : Int)), v5'] ∧ WClo P w W C G rr sd H H' us' (L ++ ext) ∧ ∀ e ∈ (C.EM t).take j, e ∈ L ++ ext)
      ⟨us, [], v5, rfl, by rw [List.append_nil]; exact wc, fun e he => by rw [List.take_zero] at he; exact (List.not_mem_nil he).elim⟩ (fun j σ' H' _ ⟨_, _, _, _, wc', _⟩ => ?_) ?_ ?_⟩
    · obtain ⟨vs, h1, h2⟩ := x.le t htE
      have e1 := wc.s _ _ h1
      rw [e1] at hw1
      obtain rfl := HO.lst.inj (Option.some.inj hw1)
      exact SqL.of (wc'.s _ _ h1)
    · rintro j z σ' H' hj ⟨us', ext, v5', rfl, wc', hdn⟩
      obtain ⟨e, he, hste⟩ := stvs_get hw2 hj
      have heM : e ∈ C.EM t := List.mem_of_getElem? he
      have heE := hcl t htE e heM
      have hge := x.goE e heE
      obtain ⟨za, rfl⟩ := hste.ref
      have x2 := x.to wc'.s
      -- the state of z now
      have hste' : StV W.h H' (.ref za) e := by
        obtain ⟨vs, h1, h2⟩ := x.le t htE
        have e1 := wc.s _ _ h1
        rw [e1] at hw1
        obtain rfl := HO.lst.inj (Option.some.inj hw1)
        obtain ⟨e', he', hs'⟩ := stvs_get h2 hj
        rw [he] at he'
        obtain rfl := Option.some.inj he'
        exact hs'.ts (TpS.of wc'.s)
      obtain ⟨kk, d1, d2, d3⟩ := wc'.d.ex
      have inj := kS_KInj (h := W.h) (ks := L ++ ext) (g := e) (fun g hg' => x.goE g (wc'.sub g hg')) hge
      refine ⟨_, rfl, _, rfl, sd, za, kk, kS W.h e, rfl, rfl, d1, hste'.key, dS8 _ _, _, rfl, ?_⟩
      have etake : (C.EM t).take (j + 1) = (C.EM t).take j ++ [e] := by rw [List.take_add_one, he]; rfl
      by_cases hm : e ∈ L ++ ext
      · rw [NDG.isT d2 inj hm]
        refine iteF ?_
        refine ⟨us', ext, _, rfl, wc', fun e' he' => ?_⟩
        rw [etake] at he'
        rcases List.mem_append.mp he' with z | z
        · exact hdn e' z
        · obtain rfl := List.mem_singleton.mp z
          exact hm
      · rw [NDG.isF d2 inj hm]
        refine iteT ?_
        have l36' : (L ++ ext).length ≤ 36 := good_bound x.fit wc'.nd fun g hg' => x.goE g (wc'.sub g hg')
        refine ⟨_, rfl, _, rfl, sd, za, kk, kS W.h e, rfl, rfl, d1, hste'.key, dS8 _ _, szl _ (by rw [NDG.lenE d2]; omega), ?_⟩
        have dd := NDG.put1 d1 d2 d3 inj hste'.key (dS8 _ _) (v := .bl true)
        have ts1 : TpS H' (upd H' sd (nO P w sd (nPut kk (kS W.h e) za (.bl true)))) := (TpS.refl _).upd wc'.d.ntp
        have gr1 : (upd H' sd (nO P w sd (nPut kk (kS W.h e) za (.bl true)))) rr = some (.lst us') := (upd_ne nrs).trans wc'.r
        refine ⟨_, rfl, .inl ⟨rfl, _, SqL.of gr1⟩, _, rfl, rr, us', _, rfl, rfl, gr1, szl _ (by rw [paired_len wc'.st]; omega), ?_⟩
        have ts2 : TpS H' (upd (upd H' sd (nO P w sd (nPut kk (kS W.h e) za (.bl true)))) rr (.lst (us' ++ [.ref za]))) := ts1.upd (by rw [gr1]; exact id)
        have hsd' : H sd = none := s1.free hsd
        refine ⟨us' ++ [.ref za], ext ++ [e], _, rfl, ⟨same_mut (same_mut wc'.s hsd') hrr, upd_same, ?_, ?_, ?_, ?_, ?_, ?_⟩, fun e' he' => ?_⟩
        · rw [← List.append_assoc]
          exact paired_snoc (stvs_ts wc'.st ts2) (hste'.ts ts2)
        · rw [addk_new hm] at dd
          rw [← List.append_assoc]
          have ts3 : TpS (upd H' sd (nO P w sd (nPut kk (kS W.h e) za (.bl true)))) (upd (upd H' sd (nO P w sd (nPut kk (kS W.h e) za (.bl true)))) rr (.lst (us' ++ [.ref za]))) := (TpS.refl _).upd (by rw [gr1]; exact id)
          refine (dd.congr fun g _ => ?_).ts ts3 (upd_ne nrs.symm)
          unfold fset
          split <;> rfl
        · rw [← List.append_assoc, List.nodup_append]
          exact ⟨wc'.nd, by simp, fun a ha b hb => by
            obtain rfl := List.mem_singleton.mp hb
            exact fun z => hm (z ▸ ha)⟩
        · exact List.mem_append_left _ wc.beg
        · intro t' ht'
          rw [← List.append_assoc] at ht'
          rcases List.mem_append.mp ht' with z | z
          · exact wc'.sub t' z
          · obtain rfl := List.mem_singleton.mp z
            exact heE
        · intro R h0 hR t' ht'
          rw [← List.append_assoc] at ht'
          rcases List.mem_append.mp ht' with z | z
          · exact wc'.snd R h0 hR t' z
          · obtain rfl := List.mem_singleton.mp z
            exact hR t _ (wc'.snd R h0 hR t (List.mem_append_left _ htm)) htE heM
        · rw [etake] at he'
          rw [← List.append_assoc]
          rcases List.mem_append.mp he' with z | z
          · exact List.mem_append_left _ (hdn e' z)
          · exact List.mem_append_right _ z
    · rintro σ' H' ⟨us', ext, v5', rfl, wc', hdn⟩
      have lws : ws.length = (C.EM t).length := paired_len hw2
      rw [lws, List.take_length] at hdn
      refine ⟨_, rfl, _, _, rfl, rfl, ⟨40 - (at' + 1), by omega, us', L ++ ext, at' + 1, v5', rfl, rfl, wc', by rw [List.length_append]; omega, fun i t' hi ht' => ?_⟩⟩
      by_cases hia : i = at'
      · subst hia
        rw [List.getElem?_append_left hlt, ht] at ht'
        obtain rfl := Option.some.inj ht'
        exact hdn
      · rw [List.getElem?_append_left (by omega)] at ht'
        exact fun e he => List.mem_append_left _ (hdone i t' (by omega) ht' e he)
  · have hge : ¬ at' < L.length := fun z => c (by
      show ((at' : Nat) : Int) < ((us.length : Nat) : Int)
      omega)
    refine ⟨_, rfl, q rr us L H1 wc.s hrr wc.r wc.st ⟨wc.nd, wc.beg, wc.sub, fun t ht e he => ?_, wc.snd⟩⟩
    obtain ⟨i, hi⟩ := List.getElem?_of_mem ht
    exact hdone i t (by have := lt_of_get hi; omega) hi e he
end
end Nc

-- S5
set_option maxHeartbeats 4000000
namespace Nc
open PySem L2 C8
/-! ### what stays true of the content -/
structure CtInv (h : HH) (C : Ct) : Prop where
  re : C.RK = C.AK
  ae : ∀ g ∈ C.AK, g ∈ C.EK
  ee : ∀ g ∈ C.EK, ∀ e ∈ C.EM g, e ∈ C.EK
  rr : ∀ g ∈ C.AK, ∀ t ∈ C.RM g, t ∈ C.EK
  rb : ∀ g ∈ C.AK, g ∈ C.RM g
  se : ∀ g ∈ C.EK, ∀ e ∈ C.EM g, Row h g e
  sr : ∀ g ∈ C.AK, ∀ t ∈ C.RM g, Row h g t
/-- how it grows within a round -/
structure Ext (C C' : Ct) : Prop where
  e : ∃ x, C'.EK = C.EK ++ x
  a : ∃ x, C'.AK = C.AK ++ x
  r : ∀ g ∈ C.AK, C'.RM g = C.RM g
  m : ∀ g ∈ C.EK, ∃ x, C'.EM g = C.EM g ++ x
theorem Ext.refl (C : Ct) : Ext C C := ⟨⟨[], by rw [List.append_nil]⟩, ⟨[], by rw [List.append_nil]⟩, fun _ _ => rfl, fun _ _ => ⟨[], by rw [List.append_nil]⟩⟩
theorem Ext.eIn {C C' : Ct} (x : Ext C C') {g : GG} (h : g ∈ C.EK) : g ∈ C'.EK := by
  obtain ⟨y, e⟩ := x.e
  rw [e]
  exact List.mem_append_left _ h
theorem Ext.aIn {C C' : Ct} (x : Ext C C') {g : GG} (h : g ∈ C.AK) : g ∈ C'.AK := by
  obtain ⟨y, e⟩ := x.a
  rw [e]
  exact List.mem_append_left _ h
theorem Ext.mIn {C C' : Ct} (x : Ext C C') {g e : GG} (h : g ∈ C.EK) (he : e ∈ C.EM g) : e ∈ C'.EM g := by
  obtain ⟨y, ey⟩ := x.m g h
  rw [ey]
  exact List.mem_append_left _ he
theorem Ext.trans {C C1 C2 : Ct} (x : Ext C C1) (y : Ext C1 C2) : Ext C C2 := by
  obtain ⟨e1, h1⟩ := x.e
  obtain ⟨e2, h2⟩ := y.e
  obtain ⟨a1, k1⟩ := x.a
  obtain ⟨a2, k2⟩ := y.a
  refine ⟨⟨e1 ++ e2, by rw [h2, h1, List.append_assoc]⟩, ⟨a1 ++ a2, by rw [k2, k1, List.append_assoc]⟩, fun g hg => (y.r g (x.aIn hg)).trans (x.r g hg), fun g hg => ?_⟩
  obtain ⟨m1, j1⟩ := x.m g hg
  obtain ⟨m2, j2⟩ := y.m g (x.eIn hg)
  exact ⟨m1 ++ m2, by rw [j2, j1, List.append_assoc]⟩
def KOk (F : Hp) (W : Wd) (C : Ct) : Prop := ∀ q ∈ C.KK, q.1 ∈ C.AK ∧ ∃ b g n rest, Den F W.h W.ln W.pn b g q.2 n rest ∧ ∀ e, e ∈ C.KM q ↔ outS W.h b g rest n (fun S => S ∈ C.RM q.1) e
theorem fst_old {C : Ct} {G : GG} {p r : Addr} (h : G ∈ C.EK) : C.fst G p r = (C.ask G).row G r [G] := by unfold Ct.fst; rw [if_pos h]
theorem fst_new {C : Ct} {G : GG} {p r : Addr} (h : G ∉ C.EK) : C.fst G p r = ((C.ask G).meet G p).row G r [G] := by unfold Ct.fst; rw [if_neg h]
/-- a first question keeps all that -/
theorem fst_props {h : HH} {C : Ct} (v : CtInv h C) {G : GG} (hn : G ∉ C.AK) (p r : Addr) : CtInv h (C.fst G p r) ∧ Ext C (C.fst G p r) ∧ G ∈ (C.fst G p r).AK ∧ (C.fst G p r).KK = C.KK ∧ (C.fst G p r).KM = C.KM := by
  have eA : (C.fst G p r).AK = C.AK ++ [G] := by
    by_cases hE : G ∈ C.EK
    · rw [fst_old hE]; exact addk_new hn
    · rw [fst_new hE]; exact addk_new hn
  have hnR : G ∉ C.RK := by rw [v.re]; exact hn
  have eR : (C.fst G p r).RK = C.RK ++ [G] := by
    by_cases hE : G ∈ C.EK
    · rw [fst_old hE]; exact addk_new hnR
    · rw [fst_new hE]; exact addk_new hnR
  have eM : (C.fst G p r).RM = fset C.RM G [G] := by
    by_cases hE : G ∈ C.EK
    · rw [fst_old hE]; rfl
    · rw [fst_new hE]; rfl
  have eE : (∀ g ∈ C.EK, g ∈ (C.fst G p r).EK) ∧ G ∈ (C.fst G p r).EK ∧ (∀ g ∈ (C.fst G p r).EK, g ∈ C.EK ∨ (g = G ∧ G ∉ C.EK)) ∧ (∀ g ∈ C.EK, (C.fst G p r).EM g = C.EM g) ∧ (G ∉ C.EK → (C.fst G p r).EM G = []) ∧ ∃ x, (C.fst G p r).EK = C.EK ++ x := by
    by_cases hE : G ∈ C.EK
    · rw [fst_old hE]
      exact ⟨fun g hg => hg, hE, fun g hg => .inl hg, fun g hg => rfl, fun z => absurd hE z, [], by rw [List.append_nil]; rfl⟩
    · rw [fst_new hE]
      refine ⟨fun g hg => List.mem_append_left _ hg, List.mem_append_right _ (List.mem_singleton.mpr rfl), fun g hg => ?_, fun g hg => ?_, fun _ => fset_same, [G], rfl⟩
      · rcases List.mem_append.mp (show g ∈ C.EK ++ [G] from hg) with z | z
        · exact .inl z
        · exact .inr ⟨List.mem_singleton.mp z, hE⟩
      · show fset C.EM G [] g = C.EM g
        exact fset_ne fun z => hE (z ▸ hg)
  obtain ⟨e1, e2, e3, e4, e5, e6⟩ := eE
  have rmOld : ∀ g ∈ C.AK, (C.fst G p r).RM g = C.RM g := fun g hg => by rw [eM]; exact fset_ne fun z => hn (z ▸ hg)
  have rmNew : (C.fst G p r).RM G = [G] := by rw [eM]; exact fset_same
  have mA : ∀ g ∈ (C.fst G p r).AK, g ∈ C.AK ∨ g = G := fun g hg => by
    rw [eA] at hg
    exact (List.mem_append.mp hg).imp id fun z => List.mem_singleton.mp z
  refine ⟨⟨by rw [eR, eA, v.re], fun g hg => ?_, fun g hg e he => ?_, fun g hg t ht => ?_, fun g hg => ?_, fun g hg e he => ?_, fun g hg t ht => ?_⟩, ⟨e6, ⟨[G], eA⟩, rmOld, fun g hg => ⟨[], by rw [e4 g hg, List.append_nil]⟩⟩, by rw [eA]; simp, ?_, ?_⟩
  · rcases mA g hg with z | z
    · exact e1 g (v.ae g z)
    · rw [z]; exact e2
  · rcases e3 g hg with z | ⟨z, hz⟩
    · rw [e4 g z] at he
      exact e1 e (v.ee g z e he)
    · rw [z, e5 hz] at he
      exact (List.not_mem_nil he).elim
  · rcases mA g hg with z | z
    · rw [rmOld g z] at ht
      exact e1 t (v.rr g z t ht)
    · rw [z, rmNew] at ht
      rw [List.mem_singleton.mp ht]; exact e2
  · rcases mA g hg with z | z
    · rw [rmOld g z]; exact v.rb g z
    · rw [z, rmNew]; simp
  · rcases e3 g hg with z | ⟨z, hz⟩
    · rw [e4 g z] at he
      exact v.se g z e he
    · rw [z, e5 hz] at he
      exact (List.not_mem_nil he).elim
  · rcases mA g hg with z | z
    · rw [rmOld g z] at ht
      exact v.sr g z t ht
    · rw [z, rmNew] at ht
      rw [z, List.mem_singleton.mp ht]; exact .refl _
  · by_cases hE : G ∈ C.EK
    · rw [fst_old hE]; rfl
    · rw [fst_new hE]; rfl
  · by_cases hE : G ∈ C.EK
    · rw [fst_old hE]; rfl
    · rw [fst_new hE]; rfl
theorem rowTo_props {h : HH} {C C1 : Ct} (v : CtInv h C) {G : GG} (t : RowTo C C1 G) : CtInv h C1 ∧ Ext C C1 ∧ G ∈ C1.AK ∧ C1.KK = C.KK ∧ C1.KM = C.KM := by
  rcases t with ⟨hm, rfl⟩ | ⟨hn, p, r, rfl⟩
  · exact ⟨v, Ext.refl _, hm, rfl, rfl⟩
  · exact fst_props v hn p r
theorem KOk.ext {F F' : Hp} {W : Wd} {C C1 : Ct} (k : KOk F W C) (s : Same F F') (x : Ext C C1) (e1 : C1.KK = C.KK) (e2 : C1.KM = C.KM) : KOk F' W C1 := fun q hq => by
  rw [e1] at hq
  obtain ⟨h1, b, g, n, rest, h2, h3⟩ := k q hq
  refine ⟨x.aIn h1, b, g, n, rest, h2.to s, fun e => ?_⟩
  rw [e2, h3 e, x.r _ h1]
section
variable {P : Program} {w : World} {K : PySem.W.Frag} {mg : Str → Option Value} {base : Heap}
theorem Num.tsN {H H' : Hp} {ln pn : List V} {ci : Nat} {b : Bool} {n : Nat} {x : Sx} (k : Num H ln pn ci b n x) (t : TpS H H') : Num H' ln pn ci b n x := by
  have := Num.mono (lx := []) k t (pn' := pn) (fun j v hj _ => hj)
  rw [List.append_nil] at this
  exact this
/-! ### after, of what has no question -/
abbrev N_Ways_after : List Str := ["self", "pause", "key", "found", "count", "state", "answer", "ends", "more", "end"]
theorem sc_Ways_after : FnScope N_Ways_after ["self", "pause"] (defScope s_Ways_after) := ⟨rfl, rfl, rfl, by decide +kernel, rfl, by decide +kernel, by decide +kernel⟩
def spAft0 : Sp := fun _ _ _ _ => False
def spAft1 (K : PySem.W.Frag) : Sp := fun vs H Q _ => ∃ (wy : Addr) (p : V), vs = [.ref wy, p] ∧
  ((∃ st pd c, PauseIs K H p "failed" st pd c ∧ ∀ t l H', Same H H' → H t = none → H l = none → H' t = some (.tup [.ref l, .int 1]) → H' l = some (.lst []) → Q (.ref t) H') ∨
   (∃ st pd c, PauseIs K H p "done" st pd c ∧ ∀ t l H', Same H H' → H t = none → H l = none → H' t = some (.tup [.ref l, .int 1]) → H' l = some (.lst [st]) → Q (.ref t) H'))
theorem b_after : BindOk "after" "Ways.after" s_Ways_after ["self", "pause"] := fun _ _ _ _ _ _ us hl => match us, hl with | [_, _], _ => rfl
theorem ok_after1 (T : Tx K mg) : Met P w K mg base 9 (He.ga K "Ways") "after" (spAft1 K) [] := by
  have m_Ways_after : Met P w K mg base 1 (He.ga K "Ways") "after" spAft0 [] := met_no T 26 rfl T.cl_Ways T.me_Ways_after b_after fun vs H Q E z => z
  have m_Engine_answered : Met P w K mg base 8 (He.ga K "Engine") "answered" (spAns K) [] := ok_answered T
  have m_Search_row_of : Met P w K mg base 2 (He.ga K "Search") "row_of" (spRow P w K) [] := ok_row_of T
  refine met_of T 26 rfl T.cl_Ways T.me_Ways_after sc_Ways_after b_after (fun vs H Q E h => ?_) (fun cdv A outer s H vs Q E hr h => ?_)
  · obtain ⟨_, _, rfl, _⟩ := h
    rfl
  obtain ⟨wy, p, rfl, h⟩ := h
  have hu9 := hu9_of hr
  refine ⟨_, (pss_cons (ps_if (pt_cmpR op_eq (pe_fld (pv 1) rfl) pe_str (nomark _))
    (pss_one (ps_ret (pe_tup (pa_cons (pe_lst pa_nil) (pa_cons pe_int pa_nil)))))
    pss_nil)
    (pss_cons (ps_if (pt_cmpR op_eq (pe_fld (pv 1) rfl) pe_str (nomark _))
    (pss_one (ps_ret (pe_tup (pa_cons (pe_lst (pa_cons (pe_fld (pv 1) rfl) pa_nil)) (pa_cons pe_int pa_nil)))))
    pss_nil)
    (pss_cons (ps_set (i := 2) sc_Ways_after.nd rfl (Or.inl rfl) (pe_tup (pa_cons (pe_fld (pv 1) rfl) (pa_cons (pe_fld (pv 1) rfl) pa_nil))))
    (pss_cons (ps_if (pt_cmp (pc_nnotin hu9 (pv 2) (pe_fld (pv 0) rfl)) (by rfl))
    (pss_cons (ps_set (i := 3) sc_Ways_after.nd rfl (Or.inl rfl) pe_nnew)
    (pss_cons (ps_set (i := 4) sc_Ways_after.nd rfl (Or.inl rfl) pe_int)
    (pss_cons (ps_for PassesOwn.never rfl (pi_list (pe_mt m_Search_row_of hr (by decide) (pe_fld (pv 0) rfl) (pa_cons (pe_fld (pv 1) rfl) pa_nil))) (pg_name (i := 5) sc_Ways_after.nd rfl (Or.inl rfl))
    (pss_one (ps_for PassesOwn.never rfl (pi_range1 rfl T.f_range (pa_cons (pe_fld (pv 1) rfl) pa_nil)) (pg_name (i := 6) sc_Ways_after.nd rfl (Or.inl rfl))
    (pss_cons (ps_asg (pe_mt m_Ways_after hr (by decide) (pv 0) (pa_cons (pe_mt m_Engine_answered hr (by decide) (pe_fld (pv 0) rfl) (pa_cons (pv 1) (pa_cons (pv 5) (pa_cons (pv 6) pa_nil)))) pa_nil)) (pg_tup rfl (pgs_cons (pg_name (i := 7) sc_Ways_after.nd rfl (Or.inl rfl)) (pgs_cons (pg_name (i := 8) sc_Ways_after.nd rfl (Or.inl rfl)) pgs_nil))))
    (pss_cons (ps_set (i := 4) sc_Ways_after.nd rfl (Or.inl rfl) (pe_op op_add (pv 4) (pv 8)))
    (pss_one (ps_for PassesOwn.never rfl (pi_list (pv 7)) (pg_name (i := 9) sc_Ways_after.nd rfl (Or.inl rfl))
    (pss_one (ps_nput hu9 (pv 3) (pv 9) pe_bl rfl)))))))))
    (pss_one (ps_nput hu9 (pe_fld (pv 0) rfl) (pv 2) (pe_tup (pa_cons (pe_callTy (call_listN rfl) (by rfl) T.f_list (by decide +kernel) (pa_cons (pv 3) pa_nil)) (pa_cons (pv 4) pa_nil))) rfl)))))
    pss_nil)
    (pss_one (ps_ret (pe_nget hu9 (pe_fld (pv 0) rfl) (pv 2) (fun _ _ => rfl)))))))), ?_⟩
  rcases h with ⟨st, pd, c, ⟨pa, pdx, rfl, hpa⟩, q⟩ | ⟨st, pd, c, ⟨pa, pdx, rfl, hpa⟩, q⟩
  · refine ⟨_, rfl, pa, _, pdx, _, _, rfl, hpa, T.cl_Pause, T.na_Pause_kind, fPause_kind, rfl, _, rfl, ifY (by decide +kernel) ?_⟩
    refine ⟨by show 0 ≤ sizeLine; decide, fun l hl => ⟨by show 2 ≤ sizeLine; decide, fun t ht => ?_⟩⟩
    have s1 := same_new hl (.lst [])
    exact q t l _ (s1.trans (same_new ht _)) (s1.free ht) hl upd_same (same_new ht _ _ _ upd_same)
  · refine ⟨_, rfl, pa, _, pdx, _, _, rfl, hpa, T.cl_Pause, T.na_Pause_kind, fPause_kind, rfl, _, rfl, ifN (by decide +kernel) ?_⟩
    refine ⟨_, rfl, pa, _, pdx, _, _, rfl, hpa, T.cl_Pause, T.na_Pause_kind, fPause_kind, rfl, _, rfl, ifY (by decide +kernel) ?_⟩
    refine ⟨_, rfl, pa, _, pdx, _, _, rfl, hpa, T.cl_Pause, T.na_Pause_state, fPause_state, by show 1 ≤ sizeLine; decide, fun l hl => ⟨by show 2 ≤ sizeLine; decide, fun t ht => ?_⟩⟩
    have s1 := same_new hl (.lst [st])
    exact q t l _ (s1.trans (same_new ht _)) (s1.free ht) hl upd_same (same_new ht _ _ _ upd_same)
end
end Nc

-- S6
set_option maxHeartbeats 4000000
namespace Nc
open PySem L2 C8
section
variable {P : Program} {w : World} {K : PySem.W.Frag} {mg : Str → Option Value} {base : Heap}
theorem fz_mono {M M' : List Addr} {H : Hp} (h : ∀ a ∈ M, a ∈ M') : Same (fz M' H) (fz M H) := fun a u e => fz_get (fun z => fz_out e (h a z)) (fz_same _ _ e)
theorem SW.out {W : Wd} {C : Ct} {H : Hp} (x : SW P w K W C H) {a : Addr} (h : H a = none) : a ∉ W.M C := fun z => by
  obtain ⟨k1, g1⟩ := x.dE.at_
  obtain ⟨k2, g2⟩ := x.dR.at_
  obtain ⟨k3, g3⟩ := x.dA.at_
  obtain ⟨k4, g4⟩ := x.dK.at_
  unfold Wd.M at z
  simp only [List.mem_cons] at z
  rcases z with rfl | rfl | rfl | rfl | rfl | z
  · exact ne_of_none x.wo h rfl
  · exact ne_of_none g1 h rfl
  · exact ne_of_none g2 h rfl
  · exact ne_of_none g3 h rfl
  · exact ne_of_none g4 h rfl
  · obtain ⟨g, hg, rfl⟩ := List.mem_map.mp z
    obtain ⟨vs, h1, _⟩ := x.le g hg
    exact ne_of_none h1 h rfl
/-- a dict of one's own changed, and fresh objects came -/
theorem SW.mut {W : Wd} {C0 C : Ct} {H0 H H' : Hp} (x0 : SW P w K W C0 H0) (x : SW P w K W C H) {fd : Addr} {kas : List KAV} (f : Fr (W.M C0) H0 (fd :: W.M C) H') (k : Kp [fd] H H') (hf : H fd = some (nO P w fd kas)) (hm : fd ∉ W.M C) : SW P w K W C H' := by
  have t : TpS H H' := k.ts fun z hz => by
    obtain rfl := List.mem_singleton.mp hz
    rw [hf]; exact id
  have sm : Same (fz (fd :: W.M C) H') (fz (W.M C) H') := fz_mono fun a ha => List.mem_cons_of_mem _ ha
  have s0 := f.same.trans sm
  have mm : ∀ {m : Addr} {u : HO}, m ∈ W.M C → H m = some u → H' m = some u := fun hm' hu => k _ _ (nmem1 fun e => hm (e ▸ hm')) hu
  have ff : ∀ {a : Addr} {u : HO}, fz (W.M C) H a = some u → u ≠ nO P w fd kas → fz (W.M C) H' a = some u := fun {a u} h n => fz_get (fz_out h) (k _ _ (nmem1 fun e => by
    subst e
    have := fz_same _ _ h
    rw [hf] at this
    exact n (Option.some.inj this).symm) (fz_same _ _ h))
  refine ⟨s0 _ _ x0.so, mm memM_w x.wo, x0.eng.to s0, ?_, ?_, ?_, ?_, ?_, fun g hg => ?_, fun g hg => ?_, fun q hq => ?_, x.nd, x.goE, x.ndE, x.goA, x.ndA, x.goR, x.emE, x.rmR, x.goK, x.fit⟩
  · obtain ⟨vs, h1, h2⟩ := x0.ent
    exact ⟨vs, s0 _ _ h1, Paired.imp' (fun _ _ z => z.ts (TpS.of s0)) h2⟩
  · obtain ⟨kas, h1⟩ := x.dE.at_
    exact x.dE.ts t ((mm memM_E h1).trans h1.symm)
  · obtain ⟨kas, h1⟩ := x.dR.at_
    exact x.dR.ts t ((mm memM_R h1).trans h1.symm)
  · obtain ⟨kas, h1⟩ := x.dA.at_
    exact x.dA.ts t ((mm memM_A h1).trans h1.symm)
  · obtain ⟨kas, h1⟩ := x.dK.at_
    exact x.dK.ts t ((mm memM_K h1).trans h1.symm)
  · obtain ⟨vs, h1, h2⟩ := x.le g hg
    exact ⟨vs, mm (memM_e hg) h1, stvs_ts h2 t⟩
  · obtain ⟨vs, h1, h2⟩ := x.lr g hg
    exact ⟨vs, ff h1 (fun z => nomatch z), stvs_ts h2 t⟩
  · obtain ⟨h1, h2, h3, vs, h4, h5⟩ := x.lk q hq
    exact ⟨h1, h2, ff h3 (fun z => nomatch z), vs, ff h4 (fun z => nomatch z), stvs_ts h5 t⟩
def AftOk (c : CC) (l0 : Lo) : Res → Prop
  | .fail => True
  | .done l => Kept c l0 l
  | .asks l n rest => Kept c l0 l ∧ c.hv = true ∧ 1 ≤ n ∧ n ≤ 2 ∧ (∀ s ∈ rest, s.fit c.hv) ∧ wts rest ≤ 30 ∧ nask rest = 0
/-- what after promises -/
def AftQ (P : Program) (w : World) (K : PySem.W.Frag) (W : Wd) (C : Ct) (G : GG) (b : Bool) (g : Int) (res : Res) (H : Hp) (Q : VK) : Prop :=
  ∀ t l us L c C' H', SW P w K W C' H' → CtInv W.h C' → KOk (fz (W.M C') H') W C' → Ext C C' → (∀ g ∈ C.EK, C'.EM g = C.EM g) → Fr (W.M C) H (W.M C') H' → fz (W.M C') H' t = some (.tup [.ref l, .int c]) → fz (W.M C') H' l = some (.lst us) → Paired (StV W.h H') us L → c ≤ 100 →
    (∀ e, e ∈ L ↔ resOut W.h G b g (fun A S => S ∈ C'.RM A) res e) → (∀ l n rest, res = .asks l n rest → gset G b l ∈ C'.AK) → C'.KK.length ≤ C.KK.length + 1 → Q (.ref t) H'
def spAft2 (P : Program) (w : World) (K : PySem.W.Frag) : Sp := fun vs H Q _ => ∃ (W : Wd) (C : Ct) (p : V) (G : GG) (ci : Nat) (b : Bool) (g : Int) (res : Res), vs = [.ref W.wy, p] ∧ SW P w K W C H ∧ CtInv W.h C ∧ KOk (fz (W.M C) H) W C ∧ C.KK.length ≤ 5000 ∧ Good W.h G ∧ W.h.pres[ci]? = some b ∧ W16 g ∧ ResAt K H p W.h G W.ln W.pn ci b g res ∧ AftOk (W.h.cc b) (gat G b) res ∧
  AftQ P w K W C G b g res H Q
theorem rowTo_EM {C C1 : Ct} {G : GG} (t : RowTo C C1 G) : ∀ g ∈ C.EK, C1.EM g = C.EM g := fun g hg => by
  rcases t with ⟨hm, rfl⟩ | ⟨hn, p, r, rfl⟩
  · rfl
  · by_cases hE : G ∈ C.EK
    · rw [fst_old hE]; rfl
    · rw [fst_new hE]
      show fset C.EM G [] g = C.EM g
      exact fset_ne fun z => hE (z ▸ hg)
/-- what comes of pairs of states and answers -/
def outP (h : HH) (b : Bool) (g : Int) (rest : List Sx) (ps : List (GG × Int)) (e : GG) : Prop := ∃ S k l2, (S, k) ∈ ps ∧ ansRun h S b g rest k = .done l2 ∧ e = gset (gans h S b k) b l2
def prs (nn : Nat) (S : GG) : List (GG × Int) := (List.range nn).map fun (k : Nat) => (S, (k : Int))
theorem outP_app {h : HH} {b : Bool} {g : Int} {rest : List Sx} {ps qs : List (GG × Int)} {e : GG} : outP h b g rest (ps ++ qs) e ↔ outP h b g rest ps e ∨ outP h b g rest qs e := by
  constructor
  · rintro ⟨S, k, l2, h1, h2⟩
    rcases List.mem_append.mp h1 with z | z
    · exact .inl ⟨S, k, l2, z, h2⟩
    · exact .inr ⟨S, k, l2, z, h2⟩
  · rintro (⟨S, k, l2, h1, h2⟩ | ⟨S, k, l2, h1, h2⟩)
    · exact ⟨S, k, l2, List.mem_append_left _ h1, h2⟩
    · exact ⟨S, k, l2, List.mem_append_right _ h1, h2⟩
theorem outP_one {h : HH} {b : Bool} {g : Int} {rest : List Sx} {S : GG} {k : Int} {e : GG} : outP h b g rest [(S, k)] e ↔ ∃ l2, ansRun h S b g rest k = .done l2 ∧ e = gset (gans h S b k) b l2 := by
  constructor
  · rintro ⟨S', k', l2, h1, h2⟩
    cases List.mem_singleton.mp h1
    exact ⟨l2, h2⟩
  · rintro ⟨l2, h2⟩
    exact ⟨S, k, l2, List.mem_singleton.mpr rfl, h2⟩
theorem outP_all {h : HH} {b : Bool} {g n : Int} {rest : List Sx} {Ls : List GG} {e : GG} (hn : 0 ≤ n) : outP h b g rest (Ls.flatMap (prs n.toNat)) e ↔ outS h b g rest n (fun S => S ∈ Ls) e := by
  constructor
  · rintro ⟨S, k, l2, h1, h2, h3⟩
    obtain ⟨S', hS, hk⟩ := List.mem_flatMap.mp h1
    obtain ⟨j, hj, e2⟩ := List.mem_map.mp hk
    cases e2
    have := List.mem_range.mp hj
    exact ⟨_, _, l2, hS, by omega, by omega, h2, h3⟩
  · rintro ⟨S, k, l2, h1, h2, h3, h4, h5⟩
    refine ⟨S, k, l2, List.mem_flatMap.mpr ⟨S, h1, List.mem_map.mpr ⟨k.toNat, List.mem_range.mpr (by omega), ?_⟩⟩, h4, h5⟩
    rw [Int.toNat_of_nonneg h2]
/-- found, between two turns -/
structure WFd (P : Program) (w : World) (h : HH) (b : Bool) (g : Int) (rest : List Sx) (fd : Addr) (ps : List (GG × Int)) (H3 H : Hp) (fks : List GG) : Prop where
  k : Kp [fd] H3 H
  d : NDG P w (kS h) H fd fks (fun _ => V.bl true)
  nd : fks.Nodup
  go : ∀ e ∈ fks, Good h e
  ou : ∀ e, e ∈ fks ↔ outP h b g rest ps e
theorem ok_after2 (T : Tx K mg) : Met P w K mg base 10 (He.ga K "Ways") "after" (spAft2 P w K) [] := by
  have m_Ways_after : Met P w K mg base 9 (He.ga K "Ways") "after" (spAft1 K) [] := ok_after1 T
  have m_Engine_answered : Met P w K mg base 8 (He.ga K "Engine") "answered" (spAns K) [] := ok_answered T
  have m_Search_row_of : Met P w K mg base 2 (He.ga K "Search") "row_of" (spRow P w K) [] := ok_row_of T
  refine met_of T 26 rfl T.cl_Ways T.me_Ways_after sc_Ways_after b_after (fun vs H Q E h => ?_) (fun cdv A outer s H vs Q E hr h => ?_)
  · obtain ⟨_, _, _, _, _, _, _, _, rfl, _⟩ := h
    rfl
  obtain ⟨W, C, p, G, ci, b, g, res, rfl, x, inv, kok, lKK, hG, hb, hg, hres, hok, q⟩ := h
  have hu9 := hu9_of hr
  have hbm : b ∈ W.h.pres := List.mem_of_getElem? hb
  refine ⟨_, (pss_cons (ps_if (pt_cmpR op_eq (pe_fld (pv 1) rfl) pe_str (nomark _))
    (pss_one (ps_ret (pe_tup (pa_cons (pe_lst pa_nil) (pa_cons pe_int pa_nil)))))
    pss_nil)
    (pss_cons (ps_if (pt_cmpR op_eq (pe_fld (pv 1) rfl) pe_str (nomark _))
    (pss_one (ps_ret (pe_tup (pa_cons (pe_lst (pa_cons (pe_fld (pv 1) rfl) pa_nil)) (pa_cons pe_int pa_nil)))))
    pss_nil)
    (pss_cons (ps_set (i := 2) sc_Ways_after.nd rfl (Or.inl rfl) (pe_tup (pa_cons (pe_fld (pv 1) rfl) (pa_cons (pe_fld (pv 1) rfl) pa_nil))))
    (pss_cons (ps_if (pt_cmp (pc_nnotin hu9 (pv 2) (pe_fld (pv 0) rfl)) (by rfl))
    (pss_cons (ps_set (i := 3) sc_Ways_after.nd rfl (Or.inl rfl) pe_nnew)
    (pss_cons (ps_set (i := 4) sc_Ways_after.nd rfl (Or.inl rfl) pe_int)
    (pss_cons (ps_for PassesOwn.never rfl (pi_list (pe_mt m_Search_row_of hr (by decide) (pe_fld (pv 0) rfl) (pa_cons (pe_fld (pv 1) rfl) pa_nil))) (pg_name (i := 5) sc_Ways_after.nd rfl (Or.inl rfl))
    (pss_one (ps_for PassesOwn.never rfl (pi_range1 rfl T.f_range (pa_cons (pe_fld (pv 1) rfl) pa_nil)) (pg_name (i := 6) sc_Ways_after.nd rfl (Or.inl rfl))
    (pss_cons (ps_asg (pe_mt m_Ways_after hr (by decide) (pv 0) (pa_cons (pe_mt m_Engine_answered hr (by decide) (pe_fld (pv 0) rfl) (pa_cons (pv 1) (pa_cons (pv 5) (pa_cons (pv 6) pa_nil)))) pa_nil)) (pg_tup rfl (pgs_cons (pg_name (i := 7) sc_Ways_after.nd rfl (Or.inl rfl)) (pgs_cons (pg_name (i := 8) sc_Ways_after.nd rfl (Or.inl rfl)) pgs_nil))))
    (pss_cons (ps_set (i := 4) sc_Ways_after.nd rfl (Or.inl rfl) (pe_op op_add (pv 4) (pv 8)))
    (pss_one (ps_for PassesOwn.never rfl (pi_list (pv 7)) (pg_name (i := 9) sc_Ways_after.nd rfl (Or.inl rfl))
    (pss_one (ps_nput hu9 (pv 3) (pv 9) pe_bl rfl)))))))))
    (pss_one (ps_nput hu9 (pe_fld (pv 0) rfl) (pv 2) (pe_tup (pa_cons (pe_callTy (call_listN rfl) (by rfl) T.f_list (by decide +kernel) (pa_cons (pv 3) pa_nil)) (pa_cons (pv 4) pa_nil))) rfl)))))
    pss_nil)
    (pss_one (ps_ret (pe_nget hu9 (pe_fld (pv 0) rfl) (pv 2) (fun _ _ => rfl)))))))), ?_⟩
  cases res with
  | fail =>
    obtain ⟨st, pd, c, pa, pdx, rfl, hpa⟩ := hres
    refine ⟨_, rfl, pa, _, pdx, _, _, rfl, hpa, T.cl_Pause, T.na_Pause_kind, fPause_kind, rfl, _, rfl, ifY (by decide +kernel) ?_⟩
    refine ⟨by show 0 ≤ sizeLine; decide, fun l hl => ⟨by show 2 ≤ sizeLine; decide, fun t ht => ?_⟩⟩
    have s1 := same_new hl (.lst [])
    have s2 := s1.trans (same_new ht (.tup [.ref l, .int 1]))
    exact q t l [] [] 1 C _ (x.to s2) inv (kok.ext (Fr.of s2).same (Ext.refl _) rfl rfl) (Ext.refl _) (fun _ _ => rfl) (Fr.of s2) (fz_get (x.out (s1.free ht)) upd_same) (fz_get (x.out hl) (same_new ht _ _ _ upd_same)) .nil (by decide) (fun e => ⟨fun z => (List.not_mem_nil z).elim, fun z => z.elim⟩) (fun _ _ _ z => nomatch z) (by omega)
  | done l0 =>
    obtain ⟨st, pd, c, ⟨pa, pdx, rfl, hpa⟩, hst⟩ := hres
    refine ⟨_, rfl, pa, _, pdx, _, _, rfl, hpa, T.cl_Pause, T.na_Pause_kind, fPause_kind, rfl, _, rfl, ifN (by decide +kernel) ?_⟩
    refine ⟨_, rfl, pa, _, pdx, _, _, rfl, hpa, T.cl_Pause, T.na_Pause_kind, fPause_kind, rfl, _, rfl, ifY (by decide +kernel) ?_⟩
    refine ⟨_, rfl, pa, _, pdx, _, _, rfl, hpa, T.cl_Pause, T.na_Pause_state, fPause_state, by show 1 ≤ sizeLine; decide, fun l hl => ⟨by show 2 ≤ sizeLine; decide, fun t ht => ?_⟩⟩
    have s1 := same_new hl (.lst [st])
    have s2 := s1.trans (same_new ht (.tup [.ref l, .int 1]))
    exact q t l [st] [gset G b l0] 1 C _ (x.to s2) inv (kok.ext (Fr.of s2).same (Ext.refl _) rfl rfl) (Ext.refl _) (fun _ _ => rfl) (Fr.of s2) (fz_get (x.out (s1.free ht)) upd_same) (fz_get (x.out hl) (same_new ht _ _ _ upd_same)) (.cons (Rp.to hst s2) .nil) (by decide) (fun e => List.mem_singleton) (fun _ _ _ z => nomatch z) (by omega)
  | asks l0 n rest =>
    obtain ⟨st, a, ⟨pa, pdx, rfl, hpa⟩, hst, hask⟩ := hres
    obtain ⟨hkept, hv1, n1, n2, hfr, hwr, hnr⟩ := hok
    have hG1 := hG.set hbm hkept
    refine ⟨_, rfl, pa, _, pdx, _, _, rfl, hpa, T.cl_Pause, T.na_Pause_kind, fPause_kind, rfl, _, rfl, ifN (by decide +kernel) ?_⟩
    refine ⟨_, rfl, pa, _, pdx, _, _, rfl, hpa, T.cl_Pause, T.na_Pause_kind, fPause_kind, rfl, _, rfl, ifN (by decide +kernel) ?_⟩
    refine ⟨_, rfl, pa, _, pdx, _, _, rfl, hpa, T.cl_Pause, T.na_Pause_state, fPause_state, _, rfl, pa, _, pdx, _, _, rfl, hpa, T.cl_Pause, T.na_Pause_pending, fPause_pending, by show 2 ≤ sizeLine; decide, fun kt hkt => ?_⟩
    have s1 := same_new hkt (.tup [st, .ref a])
    have x1 := x.to s1
    obtain ⟨n0, ns, hpd, hn0, hns⟩ := id hask
    have key1 : Rp (upd H kt (.tup [st, .ref a])) (.ref kt) (kP W.h (gset G b l0, pendL g (n0 :: ns))).data := by
      rw [kP_data]
      exact .tup upd_same (.cons (Rp.to hst s1) (.cons (Rp.dI (s1 _ _ hpd)) .nil))
    obtain ⟨kK, d1, d2, d3⟩ := x1.dK.ex
    have injK := kP_KInj (h := W.h) (ks := C.KK) (g := (gset G b l0, pendL g (n0 :: ns))) x.goK hG1
    -- what the pending row denotes
    have den1 : Den (fz (W.M C) (upd H kt (.tup [st, .ref a]))) W.h W.ln W.pn b g (pendL g (n0 :: ns)) n rest := by
      have t := (TpS.of s1).trans (fz_ts x1.ntp)
      exact ⟨ci, n0, ns, hb, rfl, hn0.tsN t, Paired.imp' (fun _ _ z => z.tsN t) hns⟩
    have kok1 := kok.ext (Fr.of (M := W.M C) s1).same (Ext.refl _) rfl rfl
    refine ⟨_, rfl, _, rfl, W.wy, _, W.dxw, _, _, rfl, x1.wo, T.cl_Ways, T.na_Ways_kept, fWays_kept, C.aK, kt, kK, kP W.h (gset G b l0, pendL g (n0 :: ns)), rfl, rfl, d1, key1, kP8 _ _, _, rfl, ?_⟩
    by_cases hm : (gset G b l0, pendL g (n0 :: ns)) ∈ C.KK
    · rw [NDG.isT d2 injK hm]
      refine iteF ?_
      refine ⟨_, rfl, W.wy, _, W.dxw, _, _, rfl, x1.wo, T.cl_Ways, T.na_Ways_kept, fWays_kept, _, rfl, C.aK, kt, kK, kP W.h (gset G b l0, pendL g (n0 :: ns)), _, rfl, rfl, d1, key1, kP8 _ _, d3 _ hm, ?_⟩
      obtain ⟨c0, c1, ht, us, hl, hus⟩ := x1.lk _ hm
      obtain ⟨hA, b', g', n', rest', den2, hout⟩ := kok1 _ hm
      obtain ⟨rfl, rfl, rfl, rfl⟩ := den1.det den2
      exact q _ _ us _ _ C _ x1 inv kok1 (Ext.refl _) (fun _ _ => rfl) (Fr.of s1) ht hl hus c1 hout (fun l n' rest' e => by cases e; exact hA) (by omega)
    · rw [NDG.isF d2 injK hm]
      refine iteT ?_
      refine fun fd hfd => ?_
      have s2 := same_new hfd (nO P w fd [])
      have x2 := x1.to s2
      have s12 := s1.trans s2
      have hfd0 : H fd = none := s1.free hfd
      refine ⟨_, rfl, W.wy, _, W.dxw, _, _, rfl, x2.wo, T.cl_Ways, T.na_Ways_rows, fWays_rows, W.s, W.dxs, _, rfl, x2.so', fSearch_no_row_of, _, rfl, pa, _, pdx, _, _, rfl, s12 _ _ hpa, T.cl_Pause, T.na_Pause_state, fPause_state, ?_⟩
      refine ⟨W, C, st, gset G b l0, rfl, x2, Rp.to hst s12, hG1, inv.re, fun C1 r us H3 hrt x3 f3 hr1 hr2 => ?_⟩
      obtain ⟨inv1, ext1, hA1, eKK1, eKM1⟩ := rowTo_props inv hrt
      have em1 := rowTo_EM hrt
      have hR1 : gset G b l0 ∈ C1.RK := by rw [inv1.re]; exact hA1
      have f03 : Fr (W.M C) H (W.M C1) H3 := (Fr.of (M := W.M C) s12).trans f3
      have t03 := f03.ts x.ntp
      have hfdM : fd ∉ W.M C := x1.out hfd
      have g3fd : fz (W.M C1) H3 fd = some (nO P w fd []) := f3.same _ _ (fz_get hfdM upd_same)
      have gfd := fz_same _ _ g3fd
      have fdM1 := fz_out g3fd
      have paM : pa ∉ W.M C := fun z => x.noPause z hpa
      have ktM : kt ∉ W.M C := x.out hkt
      have key3 : Rp H3 (.ref kt) (kP W.h (gset G b l0, pendL g (n0 :: ns))).data := Rp.ts ((TpS.of s2).trans (f3.ts x2.ntp)) _ _ key1
      have kt_ne : kt ≠ fd := ne_of_none upd_same hfd
      have wy_ne : W.wy ≠ fd := fun z => fdM1 (z ▸ memM_w)
      have hpa3 : H3 pa = some (.ins (He.ga K "Pause") pdx (fPause (.str "asks") st (.ref a) (.int n))) := f03.k _ _ paM hpa
      have pa_ne : pa ≠ fd := ne_of_none hpa hfd0
      -- while only found and fresh objects change
      have F' : ∀ {H' : Hp}, Kp [fd] H3 H' → Fr (W.M C) H (fd :: W.M C1) H' := fun {H'} k => ⟨fun u o hu ho => k _ _ (nmem1 (ne_of_none ho hfd0)) (f03.k u o hu ho), fun u hu => by
        rcases List.mem_cons.mp hu with rfl | hu
        · exact .inr hfd0
        · exact f03.m u hu⟩
      have tF : ∀ {H' : Hp}, Kp [fd] H3 H' → TpS H3 H' := fun {H'} k => k.ts fun z hz => by
        obtain rfl := List.mem_singleton.mp hz
        rw [gfd]; exact id
      have engF : ∀ {H' : Hp}, Kp [fd] H3 H' → EngAt K H' W.en W.h W.ln W.pn := fun {H'} k => (x.eng.to (F' k).same).to fz_same
      have woF : ∀ {H' : Hp}, Kp [fd] H3 H' → H' W.wy = some (.ins (He.ga K "Ways") W.dxw (fWays (.ref W.en) (.ref W.es) (.ref W.s) (.ref C1.aK))) := fun {H'} k => k _ _ (nmem1 wy_ne) x3.wo
      have askF : ∀ {H' : Hp}, Kp [fd] H3 H' → AskAt H' W.ln W.pn ci b g a n rest := fun {H'} k => by
        have t := t03.trans (tF k)
        exact ⟨n0, ns, t.t _ _ hpd, hn0.tsN t, Paired.imp' (fun _ _ z => z.tsN t) hns⟩
      have hpaF : ∀ {H' : Hp}, Kp [fd] H3 H' → H' pa = some (.ins (He.ga K "Pause") pdx (fPause (.str "asks") st (.ref a) (.int n))) := fun {H'} k => k _ _ (nmem1 pa_ne) hpa3
      have lus : us.length = (C1.RM (gset G b l0)).length := paired_len hr2
      obtain ⟨ndR, goRM⟩ := x3.rmR _ hR1
      have l36 : (C1.RM (gset G b l0)).length ≤ 36 := good_bound x.fit ndR goRM
      have nn2 : n.toNat ≤ 2 := by omega
      have rne : r ≠ fd := fun z => by
        have h1 := fz_same _ _ hr1
        rw [z, gfd] at h1
        cases h1
      have hr3 : H3 r = some (.lst us) := fz_same _ _ hr1
      refine ⟨r, rfl, ⟨us, SqL.of hr3⟩, for_list (xs := us) (fun i σ H' => ∃ v5 v6 v7 v8 v9 fks, σ = [some (.ref W.wy), some (.ref pa), some (.ref kt), some (.ref fd), some (.int ((i * n.toNat : Nat) : Int)), v5, v6, v7, v8, v9] ∧ WFd P w W.h b g rest fd (((C1.RM (gset G b l0)).take i).flatMap (prs n.toNat)) H3 H' fks)
        ⟨none, none, none, none, none, [], by rw [Nat.zero_mul]; rfl, Kp.refl, ⟨[], ⟨gfd, fun _ z => (List.not_mem_nil z).elim⟩, rfl, fun _ z => (List.not_mem_nil z).elim⟩, List.nodup_nil, fun _ z => (List.not_mem_nil z).elim, fun e => ⟨fun z => (List.not_mem_nil z).elim, fun ⟨_, _, _, z, _⟩ => (List.not_mem_nil z).elim⟩⟩ (fun i σ H' _ ⟨_, _, _, _, _, _, _, wf⟩ => SqL.of (wf.k _ _ (nmem1 rne) hr3)) ?_ ?_⟩
      · -- one state
        rintro i v σ H' hi ⟨v5, v6, v7, v8, v9, fks, rfl, wf⟩
        obtain ⟨S, hS, hstS⟩ := stvs_get hr2 hi
        have hSm : S ∈ C1.RM (gset G b l0) := List.mem_of_getElem? hS
        have goS := goRM S hSm
        have il : i < 36 := by have := lt_of_get hS; omega
        have etake : ((C1.RM (gset G b l0)).take (i + 1)).flatMap (prs n.toNat) = ((C1.RM (gset G b l0)).take i).flatMap (prs n.toNat) ++ prs n.toNat S := by
          rw [List.take_add_one, hS, List.flatMap_append]
          show _ ++ (prs n.toNat S ++ []) = _
          rw [List.append_nil]
        refine ⟨_, rfl, pa, _, pdx, _, _, rfl, hpaF wf.k, T.cl_Pause, T.na_Pause_count, fPause_count, n, rfl, by omega, by omega, for_range (n := n.toNat) (fun j σ H' => ∃ v6 v7 v8 v9 fks, σ = [some (.ref W.wy), some (.ref pa), some (.ref kt), some (.ref fd), some (.int ((i * n.toNat + j : Nat) : Int)), some v, v6, v7, v8, v9] ∧ WFd P w W.h b g rest fd (((C1.RM (gset G b l0)).take i).flatMap (prs n.toNat) ++ prs j S) H3 H' fks)
          ⟨v6, v7, v8, v9, fks, rfl, by show WFd P w W.h b g rest fd (_ ++ []) H3 H' fks; rw [List.append_nil]; exact wf⟩ ?_ ?_⟩
        · rintro j σ H4 hj ⟨v6, v7, v8, v9, fks, rfl, wf⟩
          have e0 : (0 + ((j : Nat) : Int)) = (j : Int) := Int.zero_add _
          rw [e0]
          have j2 : j < 2 := by omega
          have eprs : prs (j + 1) S = prs j S ++ [(S, (j : Int))] := by unfold prs; rw [List.range_succ, List.map_append]; rfl
          obtain ⟨edx, eeh, eaA, eaC, eaP, eaPl, eaS, eaL, eaPa, eaB, epls, eszs, ebo, ez1, _⟩ := (engF wf.k).ex
          have stS4 := hstS.ts (tF wf.k)
          refine ⟨_, rfl, W.wy, W.dxw, _, rfl, woF wf.k, fWays_no_after, _, rfl, W.wy, _, W.dxw, _, _, rfl, woF wf.k, T.cl_Ways, T.na_Ways_engine, fWays_engine, W.en, edx, _, rfl, ez1, fEngine_no_answered, _, rfl, _, rfl, _, rfl, ?_⟩
          refine ⟨W.en, a, W.h, W.ln, W.pn, .ref pa, st, v, .int n, b, n, rest, ci, g, (j : Int), S, rfl, engF wf.k, ⟨pa, pdx, rfl, hpaF wf.k⟩, askF wf.k, hv1, hfr, hwr, HH.ccfit x.fit b, hb, hg, goS.ok b, stS4, fun p1 H5 s5 res5 => ?_⟩
          have kF5 : Kp [fd] H3 H5 := wf.k.same s5
          have hres5 : ∀ q, ansRun W.h S b g rest (j : Int) = q → (q = .fail ∨ ∃ l2, q = .done l2) := fun q e => by
            have h1 := run_ok (HH.ccfit x.fit b) hg rest _ ((gans_good (k := (j : Int)) x.fit hbm hv1 goS).ok b) hfr
            have e' : run (W.h.cc b).size g rest (gat (gans W.h S b (j : Int)) b) = q := e
            rw [e'] at h1
            cases q with
            | fail => exact .inl rfl
            | done l2 => exact .inr ⟨l2, rfl⟩
            | asks l' n' rest' =>
              have h2 : nask rest' + 1 ≤ nask rest := h1.2.2.2.2.2.2
              omega
          have res5' : ResAt K H5 p1 W.h (gans W.h S b (j : Int)) W.ln W.pn ci b g (ansRun W.h S b g rest (j : Int)) := res5
          rcases hres5 _ rfl with hq | ⟨l2, hq⟩
          · rw [hq] at res5'
            obtain ⟨st5, pd5, c5, pk5⟩ := res5'
            refine ⟨W.wy, p1, rfl, .inl ⟨st5, pd5, c5, pk5, fun t l H6 s6 ht hl htt hll => ?_⟩⟩
            refine ⟨t, _, rfl, SqT.tp htt, rfl, _, _, rfl, _, _, rfl, rfl, ?_⟩
            refine ⟨_, rfl, _, rfl, _, _, rfl, rfl, ?_⟩
            refine ⟨_, rfl, l, rfl, ⟨_, SqL.of hll⟩, for_list (xs := []) (fun _ σ' H' => ∃ v9, σ' = [some (.ref W.wy), some (.ref pa), some (.ref kt), some (.ref fd), some (.int (((i * n.toNat + j : Nat) : Int) + 1)), some v, some (.int (j : Int)), some (.ref l), some (.int 1), v9] ∧ H' = H6) ⟨v9, rfl, rfl⟩ (fun _ σ' H' _ ⟨_, _, e⟩ => by rw [e]; exact SqL.of hll) (fun i' x' σ' H' e => by simp at e) ?_⟩
            rintro σ' H' ⟨v9', rfl, rfl⟩
            have k6 : Kp [fd] H4 H' := (Kp.of s5).same s6
            refine ⟨_, _, _, _, fks, rfl, wf.k.trans k6, ?_, wf.nd, wf.go, fun e => ?_⟩
            · obtain ⟨kas, hk⟩ := wf.d.at_
              exact wf.d.ts (TpS.of (s5.trans s6)) (((s5.trans s6) _ _ hk).trans hk.symm)
            · rw [wf.ou e, eprs, ← List.append_assoc, outP_app (qs := [(S, (j : Int))]), outP_one, hq]
              exact ⟨.inl, fun z => z.elim id fun ⟨_, z, _⟩ => nomatch z⟩
          · rw [hq] at res5'
            obtain ⟨st5, pd5, c5, pk5, hst5⟩ := res5'
            have goE := ans_good x.fit hbm hv1 hg hfr goS hq
            refine ⟨W.wy, p1, rfl, .inr ⟨st5, pd5, c5, pk5, fun t l H6 s6 ht hl htt hll => ?_⟩⟩
            have k46 : Same H4 H6 := s5.trans s6
            have k6 : Kp [fd] H3 H6 := wf.k.same k46
            have d6 : NDG P w (kS W.h) H6 fd fks (fun _ => V.bl true) := by
              obtain ⟨kas, hk⟩ := wf.d.at_
              exact wf.d.ts (TpS.of k46) ((k46 _ _ hk).trans hk.symm)
            have hst6 : StV W.h H6 st5 (gset (gans W.h S b (j : Int)) b l2) := Rp.to hst5 s6
            obtain ⟨ea, rfl⟩ := hst6.ref
            refine ⟨t, _, rfl, SqT.tp htt, rfl, _, _, rfl, _, _, rfl, rfl, ?_⟩
            refine ⟨_, rfl, _, rfl, _, _, rfl, rfl, ?_⟩
            obtain ⟨kf, q1, q2, q3⟩ := d6.ex
            have injF := kS_KInj (h := W.h) (ks := fks) (g := gset (gans W.h S b (j : Int)) b l2) wf.go goE
            have fks36 : fks.length ≤ 36 := good_bound x.fit wf.nd wf.go
            have dput := NDG.put1 q1 q2 q3 injF hst6.key (dS8 _ _) (v := .bl true)
            have lne : l ≠ fd := fun z => by
              obtain ⟨kas, hk⟩ := d6.at_
              rw [z, hk] at hll
              cases hll
            refine ⟨_, rfl, l, rfl, ⟨_, SqL.of hll⟩, for_list (xs := [.ref ea]) (fun m σ' H' => ∃ v9, σ' = [some (.ref W.wy), some (.ref pa), some (.ref kt), some (.ref fd), some (.int (((i * n.toNat + j : Nat) : Int) + 1)), some v, some (.int (j : Int)), some (.ref l), some (.int 1), v9] ∧ (m = 0 → H' = H6) ∧ (m = 1 → H' = upd H6 fd (nO P w fd (nPut kf (kS W.h (gset (gans W.h S b (j : Int)) b l2)) ea (.bl true))))) ⟨v9, rfl, fun _ => rfl, fun z => by omega⟩ (fun m σ' H' hm ⟨_, _, z0, z1⟩ => ?_) ?_ ?_⟩
            · have hm1 : m ≤ 1 := hm
              obtain rfl | rfl : m = 0 ∨ m = 1 := by omega
              · rw [z0 rfl]; exact SqL.of hll
              · rw [z1 rfl]; exact SqL.of ((upd_ne lne).trans hll)
            · rintro m x' σ' H' hm ⟨v9', rfl, z0, z1⟩
              have m0 : m = 0 := by
                have := lt_of_get hm
                have l1 : ([V.ref ea] : List V).length = 1 := rfl
                omega
              subst m0
              obtain rfl := Option.some.inj hm
              obtain rfl := z0 rfl
              refine ⟨_, rfl, _, rfl, fd, ea, kf, _, rfl, rfl, q1, hst6.key, dS8 _ _, szl _ (by rw [NDG.lenE q2]; omega), ?_⟩
              exact ⟨_, rfl, fun z => by omega, fun _ => rfl⟩
            · rintro σ' H' ⟨v9', rfl, _, z1⟩
              obtain rfl := z1 rfl
              refine ⟨_, _, _, _, addk fks (gset (gans W.h S b (j : Int)) b l2), rfl, k6.upd mem1, dput.congr fun g' _ => ?_, ?_, fun e he => ?_, fun e => ?_⟩
              · unfold fset
                split <;> rfl
              · unfold addk
                split
                · exact wf.nd
                · rename_i hn
                  rw [List.nodup_append]
                  exact ⟨wf.nd, by simp, fun a ha b hb => by
                    obtain rfl := List.mem_singleton.mp hb
                    exact fun z => hn (z ▸ ha)⟩
              · unfold addk at he
                split at he
                · exact wf.go e he
                · rcases List.mem_append.mp he with z | z
                  · exact wf.go e z
                  · rw [List.mem_singleton.mp z]; exact goE
              · rw [eprs, ← List.append_assoc, outP_app (qs := [(S, (j : Int))]), outP_one, ← wf.ou e, hq]
                constructor
                · intro he
                  unfold addk at he
                  split at he
                  · exact .inl he
                  · rcases List.mem_append.mp he with z | z
                    · exact .inl z
                    · exact .inr ⟨l2, rfl, List.mem_singleton.mp z⟩
                · intro he
                  unfold addk
                  rcases he with z | ⟨l3, e3, z⟩
                  · split
                    · exact z
                    · exact List.mem_append_left _ z
                  · cases e3
                    rw [z]
                    split
                    · assumption
                    · exact List.mem_append_right _ (List.mem_singleton.mpr rfl)
        · rintro σ H4 ⟨v6', v7', v8', v9', fks', rfl, wf'⟩
          exact ⟨_, _, _, _, _, fks', by rw [Nat.succ_mul], by rw [etake]; exact wf'⟩
      · -- all states
        rintro σ H' ⟨v5, v6, v7, v8, v9, fks, rfl, wf⟩
        have kok3 : KOk (fz (W.M C1) H3) W C1 := kok1.ext ((Fr.of (M := W.M C) s2).trans f3).same ext1 eKK1 eKM1
        have x4 : SW P w K W C1 H' := SW.mut x x3 (F' wf.k) wf.k gfd fdM1
        have fks36 : fks.length ≤ 36 := good_bound x.fit wf.nd wf.go
        have sF : Same (fz (W.M C) H) (fz (W.M C1) H') := (F' wf.k).same.trans (fz_mono fun a ha => List.mem_cons_of_mem _ ha)
        have kok4 : KOk (fz (W.M C1) H') W C1 := kok.ext sF ext1 eKK1 eKM1
        have den0 : Den (fz (W.M C) H) W.h W.ln W.pn b g (pendL g (n0 :: ns)) n rest := by
          have t := fz_ts x.ntp
          exact ⟨ci, n0, ns, hb, rfl, hn0.tsN t, Paired.imp' (fun _ _ z => z.tsN t) hns⟩
        obtain ⟨kf, q1, q2, q3⟩ := wf.d.ex
        have hvf := stv_of (NDG.keys (kf := kS W.h) q1 (fun _ h => h) q2)
        refine ⟨_, rfl, fd, kf, rfl, q1, fun lf hlf => ⟨_, rfl, by show 2 ≤ sizeLine; decide, fun tf htf => ?_⟩⟩
        have s5 := same_new hlf (.lst (kf.map fun k => V.ref k.2.1))
        have s6 := s5.trans (same_new htf (.tup [.ref lf, .int ((us.length * n.toNat : Nat) : Int)]))
        have x6 := x4.to s6
        have lfM : lf ∉ W.M C1 := x4.out hlf
        have tfM : tf ∉ W.M C1 := x4.out (s5.free htf)
        have keyF : Rp H' (.ref kt) (kP W.h (gset G b l0, pendL g (n0 :: ns))).data := Rp.ts (tF wf.k) _ _ key3
        have key6 := Rp.to keyF s6
        obtain ⟨kK2, w1, w2, w3⟩ := x6.dK.ex
        have injK2 := kP_KInj (h := W.h) (ks := C1.KK) (g := (gset G b l0, pendL g (n0 :: ns))) x6.goK hG1
        have lKK1 : C1.KK.length ≤ 5000 := by rw [eKK1]; exact lKK
        refine ⟨_, rfl, W.wy, _, W.dxw, _, _, rfl, x6.wo, T.cl_Ways, T.na_Ways_kept, fWays_kept, _, rfl, C1.aK, kt, kK2, kP W.h (gset G b l0, pendL g (n0 :: ns)), rfl, rfl, w1, key6, kP8 _ _, szl _ (by rw [NDG.lenE w2]; omega), ?_⟩
        have d7 := NDG.put1 w1 w2 w3 injK2 key6 (kP8 _ _) (v := .ref tf)
        have hus6 := stvs_ts hvf (TpS.of s6)
        have c100 : ((us.length * n.toNat : Nat) : Int) ≤ 100 := by
          have : us.length * n.toNat ≤ 36 * 2 := Nat.mul_le_mul (by omega) nn2
          omega
        obtain ⟨x7, f7⟩ := x6.keep hG1 (by omega) c100 (fz_get tfM upd_same) (fz_get lfM (same_new htf _ _ _ upd_same)) hus6 d7
        have t7 := f7.ts x6.ntp
        obtain ⟨kK3, y1, y2, y3⟩ := x7.dK.ex
        have hmq : (gset G b l0, pendL g (n0 :: ns)) ∈ (C1.keep (gset G b l0, pendL g (n0 :: ns)) tf lf fks ((us.length * n.toNat : Nat) : Int)).KK := by
          show _ ∈ addk C1.KK _
          unfold addk
          split
          · assumption
          · simp
        have y3' := y3 _ hmq
        have eka : (C1.keep (gset G b l0, pendL g (n0 :: ns)) tf lf fks ((us.length * n.toNat : Nat) : Int)).ka (gset G b l0, pendL g (n0 :: ns)) = tf := fset_same
        have eka2 : (V.ref ((C1.keep (gset G b l0, pendL g (n0 :: ns)) tf lf fks ((us.length * n.toNat : Nat) : Int)).ka (gset G b l0, pendL g (n0 :: ns)))) = V.ref tf := by rw [eka]
        rw [eka2] at y3'
        refine ⟨_, rfl, W.wy, _, W.dxw, _, _, rfl, x7.wo, T.cl_Ways, T.na_Ways_kept, fWays_kept, _, rfl, C1.aK, kt, kK3, kP W.h (gset G b l0, pendL g (n0 :: ns)), _, rfl, rfl, y1, Rp.ts t7 _ _ key6, kP8 _ _, y3', ?_⟩
        have houtF : ∀ e, e ∈ fks ↔ outS W.h b g rest n (fun S => S ∈ C1.RM (gset G b l0)) e := fun e => by
          rw [wf.ou e, lus, List.take_length, outP_all (by omega)]
        have sF7 := (Fr.of (M := W.M C1) s6).same.trans f7.same
        have f1 : Fr (W.M C) H (W.M C1) H' := ⟨(F' wf.k).k, fun u hu => (F' wf.k).m u (List.mem_cons_of_mem _ hu)⟩
        have frame := f1.trans ((Fr.of (M := W.M C1) s6).trans f7)
        refine q tf lf _ fks _ (C1.keep (gset G b l0, pendL g (n0 :: ns)) tf lf fks ((us.length * n.toNat : Nat) : Int)) _ x7 ⟨inv1.re, inv1.ae, inv1.ee, inv1.rr, inv1.rb, inv1.se, inv1.sr⟩ ?_ ⟨ext1.e, ext1.a, ext1.r, ext1.m⟩ em1 frame (f7.same _ _ (fz_get tfM upd_same)) (f7.same _ _ (fz_get lfM (same_new htf _ _ _ upd_same))) (stvs_ts hus6 t7) c100 houtF (fun l n' rest' e => by cases e; exact hA1) ?_
        · intro q' hq'
          by_cases eq : q' = (gset G b l0, pendL g (n0 :: ns))
          · subst eq
            refine ⟨hA1, b, g, n, rest, (den0.to sF).to sF7, fun e => ?_⟩
            show e ∈ fset C1.KM _ fks _ ↔ _
            rw [fset_same]
            exact houtF e
          · have hq2 : q' ∈ C1.KK := by
              have hq3 : q' ∈ addk C1.KK (gset G b l0, pendL g (n0 :: ns)) := hq'
              unfold addk at hq3
              split at hq3
              · exact hq3
              · exact (List.mem_append.mp hq3).elim id fun z => absurd (List.mem_singleton.mp z) eq
            obtain ⟨h1, b', g', n', rest', h2, h3⟩ := kok4 q' hq2
            refine ⟨h1, b', g', n', rest', h2.to sF7, fun e => ?_⟩
            show e ∈ fset C1.KM _ fks q' ↔ _
            rw [fset_ne eq]
            exact h3 e
        · show (addk C1.KK _).length ≤ _
          unfold addk
          split
          · rw [eKK1]; omega
          · rw [len_snoc, eKK1]; exact Nat.le_refl _
end
end Nc

-- S7
set_option maxHeartbeats 4000000
namespace Nc
open PySem L2 C8
theorem wts_le {hv : Bool} : ∀ l : List Sx, (∀ s ∈ l, s.fit hv) → wts l ≤ 3 * l.length
  | [], _ => Nat.le_refl _
  | s :: r, hf => by
    have h1 := wts_le r fun s hs => hf s (List.mem_cons_of_mem _ hs)
    have h2 : s.wt ≤ 3 := by
      have h3 := hf s (List.mem_cons_self ..)
      cases s with
      | sm m => show 1 ≤ 3; decide
      | ask n => show 1 ≤ 3; decide
      | ite e t f =>
        obtain ⟨_, a, b, _⟩ := h3
        show t.length + f.length + 1 ≤ 3
        omega
    show s.wt + wts r ≤ 3 * (r.length + 1)
    omega
section
variable {P : Program} {w : World} {K : PySem.W.Frag} {mg : Str → Option Value} {base : Heap}
/-! ### of -/
abbrev N_Ways_of : List Str := ["self", "state", "entry", "ends", "count"]
theorem sc_Ways_of : FnScope N_Ways_of ["self", "state", "entry"] (defScope s_Ways_of) := ⟨rfl, rfl, rfl, by decide +kernel, rfl, by decide +kernel, by decide +kernel⟩
def spOf (P : Program) (w : World) (K : PySem.W.Frag) : Sp := fun vs H Q _ => ∃ (W : Wd) (C : Ct) (v ve : V) (G : GG) (b : Bool) (g : Int), vs = [.ref W.wy, v, ve] ∧ SW P w K W C H ∧ CtInv W.h C ∧ KOk (fz (W.M C) H) W C ∧ C.KK.length ≤ 5000 ∧ StV W.h H v G ∧ Good W.h G ∧ EntAt H ve (b, g) ∧ (b, g) ∈ W.h.ents ∧
  ∀ l us L C' H', SW P w K W C' H' → CtInv W.h C' → KOk (fz (W.M C') H') W C' → Ext C C' → (∀ g ∈ C.EK, C'.EM g = C.EM g) → Fr (W.M C) H (W.M C') H' → fz (W.M C') H' l = some (.lst us) → Paired (StV W.h H') us L →
    (∀ e, e ∈ L ↔ Way W.h (fun A S => S ∈ C'.RM A) G (b, g) e) → (∀ l n rest, startRun W.h G b g = .asks l n rest → gset G b l ∈ C'.AK) → C'.KK.length ≤ C.KK.length + 1 → Q (.ref l) H'
theorem ok_of (T : Tx K mg) : Met P w K mg base 11 (He.ga K "Ways") "of" (spOf P w K) [] := by
  have m_Ways_after : Met P w K mg base 10 (He.ga K "Ways") "after" (spAft2 P w K) [] := ok_after2 T
  have m_Engine_begun : Met P w K mg base 8 (He.ga K "Engine") "begun" (spBeg K) [] := ok_begun T
  refine met_of T 25 rfl T.cl_Ways T.me_Ways_of sc_Ways_of (fun _ _ _ _ _ _ us hl => match us, hl with | [_, _, _], _ => rfl) (fun vs H Q E h => ?_) (fun cdv A outer s H vs Q E hr h => ?_)
  · obtain ⟨_, _, _, _, _, _, _, rfl, _⟩ := h
    rfl
  obtain ⟨W, C, v, ve, G, b, g, rfl, x, inv, kok, lKK, hst, hG, ⟨et, rfl, het⟩, hent, q⟩ := h
  refine ⟨_, (pss_cons (ps_asg (pe_mt m_Ways_after hr (by decide) (pv 0) (pa_cons (pe_mt m_Engine_begun hr (by decide) (pe_fld (pv 0) rfl) (pa_cons (pv 1) (pa_cons (pe_ix ix_tup (pv 2) pe_int (fun _ _ => rfl)) (pa_cons (pe_ix ix_tup (pv 2) pe_int (fun _ _ => rfl)) (pa_cons (pe_ix ix_tup (pv 2) pe_int (fun _ _ => rfl)) pa_nil))))) pa_nil)) (pg_tup rfl (pgs_cons (pg_name (i := 3) sc_Ways_of.nd rfl (Or.inl rfl)) (pgs_cons (pg_name (i := 4) sc_Ways_of.nd rfl (Or.inl rfl)) pgs_nil))))
    (pss_cons (ps_if (pt_cmpR op_gt (pv 4) (pe_gint rfl T.i_MOST_WAYS) (nomark _))
    (pss_one ps_never)
    pss_nil)
    (pss_one (ps_ret (pv 3))))), ?_⟩
  obtain ⟨s0, l0, hpr, hsr, hfl, hll, hnk, hrok⟩ := start_ok x.fit hent hG
  obtain ⟨hbm, _⟩ := ents_mem hent
  obtain ⟨ci, hci⟩ := mem_pres_at hbm
  have engH := x.eng.to fz_same
  obtain ⟨edx, eeh, eaA, eaC, eaP, eaPl, eaS, eaL, eaPa, eaB, epls, eszs, ebo, ez1, _⟩ := engH.ex
  have hwl : wts l0 ≤ 9 := Nat.le_trans (wts_le l0 hfl) (by omega)
  refine ⟨_, rfl, W.wy, W.dxw, _, rfl, x.wo, fWays_no_after, _, rfl, W.wy, _, W.dxw, _, _, rfl, x.wo, T.cl_Ways, T.na_Ways_engine, fWays_engine, W.en, edx, _, rfl, ez1, fEngine_no_begun, _, rfl, _, rfl, et, _, 0, _, rfl, rfl, SqT.tp het, rfl, _, rfl, et, _, 1, _, rfl, rfl, SqT.tp het, rfl, _, rfl, et, _, 2, _, rfl, rfl, SqT.tp het, rfl, ?_⟩
  refine ⟨W.en, W.h, W.ln, W.pn, v, b, s0, true, l0, ci, g, G, rfl, engH, hpr, by omega, HH.ccfit x.fit b, hci, ents_w16 x.fit hent, hG.ok b, hst, fun p1 H1 s1 res1 => ?_⟩
  rw [← hsr] at res1
  have hok : AftOk (W.h.cc b) (gat G b) (startRun W.h G b g) := by
    cases hq : startRun W.h G b g with
    | fail => exact True.intro
    | done l => rw [hq] at hrok; exact hrok
    | asks l n rest =>
      rw [hq] at hrok
      obtain ⟨h1, h2, h3, h4, h5, h6, h7⟩ := hrok
      exact ⟨h1, h2, h3, h4, h5, by omega, by omega⟩
  refine ⟨W, C, p1, G, ci, b, g, startRun W.h G b g, rfl, x.to s1, inv, kok.ext (Fr.of s1).same (Ext.refl _) rfl rfl, lKK, hG, hci, ents_w16 x.fit hent, res1, hok, fun t l us L c C' H' x' inv' kok' ext' em' fr' ht hl hus hc hL hA hK => ?_⟩
  refine ⟨t, _, rfl, SqT.tp (fz_same _ _ ht), rfl, _, _, rfl, _, _, rfl, rfl, ?_⟩
  refine ⟨_, rfl, _, _, rfl, rfl, _, rfl, ifN (by omega) ?_⟩
  exact ⟨_, rfl, q l us L C' H' x' inv' kok' ext' em' ((Fr.of s1).trans fr') hl hus hL hA hK⟩
end
end Nc

-- S8
set_option maxHeartbeats 4000000
namespace Nc
open PySem L2 C8
/-! ### grow -/
def Cmp1 (h : HH) (C : Ct) (G : GG) (p : Bool × Int) : Prop :=
  (∀ e, Way h (fun A S => S ∈ C.RM A) G p e → e ∈ C.EM G) ∧ ∀ l n rest, startRun h G p.1 p.2 = .asks l n rest → gset G p.1 l ∈ C.AK
theorem Cmp1.ext {h : HH} {C C' : Ct} {G : GG} {p : Bool × Int} (c : Cmp1 h C G p) (x : Ext C C') (hG : G ∈ C.EK) : Cmp1 h C' G p := by
  refine ⟨fun e he => x.mIn hG (c.1 e ?_), fun l n rest hs => x.aIn (c.2 l n rest hs)⟩
  unfold Way at he ⊢
  cases hq : startRun h G p.1 p.2 with
  | fail => rw [hq] at he; exact he
  | done l => rw [hq] at he; exact he
  | asks l n rest =>
    rw [hq] at he
    obtain ⟨S, k, l2, h1, h2⟩ := he
    refine ⟨S, k, l2, ?_, h2⟩
    have h1' : S ∈ C'.RM (gset G p.1 l) := h1
    rw [x.r _ (c.2 l n rest hq)] at h1'
    exact h1'
theorem way_row {h : HH} {C : Ct} (v : CtInv h C) {G e : GG} {p : Bool × Int} (hp : p ∈ h.ents) (hA : ∀ l n rest, startRun h G p.1 p.2 = .asks l n rest → gset G p.1 l ∈ C.AK) (w : Way h (fun A S => S ∈ C.RM A) G p e) : Row h G e := by
  refine Row.way (.refl G) hp ?_
  unfold Way at w ⊢
  cases hq : startRun h G p.1 p.2 with
  | fail => rw [hq] at w; exact w
  | done l => rw [hq] at w; exact w
  | asks l n rest =>
    rw [hq] at w
    obtain ⟨S, k, l2, h1, h2⟩ := w
    exact ⟨S, k, l2, v.sr _ (hA l n rest hq) S h1, h2⟩
theorem any_eqv {h : HH} {e : GG} (he : Good h e) : ∀ {L : List GG}, (∀ g ∈ L, Good h g) → (((L.map h.dS).any fun z => PyData.eqv z (h.dS e)) = true ↔ e ∈ L)
  | [], _ => ⟨fun z => (nomatch z), fun z => (List.not_mem_nil z).elim⟩
  | g :: r, hL => by
    rw [List.map_cons, List.any_cons, Bool.or_eq_true, any_eqv he fun g hg => hL g (List.mem_cons_of_mem _ hg), eqv_dS, List.mem_cons]
    refine ⟨fun z => z.imp (fun z => (((hL g (List.mem_cons_self ..)).inj he z)).symm) id, fun z => z.imp (fun z => ?_) id⟩
    subst z
    exact ⟨rfl, rfl, rfl, rfl⟩
def tot (C : Ct) : Nat := C.EK.length + C.AK.length + (C.EK.map fun g => (C.EM g).length).sum
theorem sum_le {f f' : GG → Nat} : ∀ {l : List GG}, (∀ g ∈ l, f g ≤ f' g) → (l.map f).sum ≤ (l.map f').sum
  | [], _ => Nat.le_refl _
  | g :: r, h => by
    rw [List.map_cons, List.map_cons, List.sum_cons, List.sum_cons]
    have h1 := h g (List.mem_cons_self ..)
    have h2 := sum_le (l := r) fun g hg => h g (List.mem_cons_of_mem _ hg)
    omega
theorem sum_lt {f f' : GG → Nat} : ∀ {l : List GG}, (∀ g ∈ l, f g ≤ f' g) → (∃ g ∈ l, f g < f' g) → (l.map f).sum < (l.map f').sum
  | [], _, ⟨g, hg, _⟩ => (List.not_mem_nil hg).elim
  | g :: r, h, ⟨g', hg', hlt⟩ => by
    rw [List.map_cons, List.map_cons, List.sum_cons, List.sum_cons]
    have h1 := h g (List.mem_cons_self ..)
    have h2 := sum_le (l := r) fun g hg => h g (List.mem_cons_of_mem _ hg)
    rcases List.mem_cons.mp hg' with z | z
    · subst z
      omega
    · have h3 := sum_lt (l := r) (fun g hg => h g (List.mem_cons_of_mem _ hg)) ⟨g', z, hlt⟩
      omega
theorem tot_ext {C C' : Ct} (x : Ext C C') (s : C.EK.length + C.AK.length < C'.EK.length + C'.AK.length ∨ ∃ g ∈ C.EK, (C.EM g).length < (C'.EM g).length) : tot C < tot C' := by
  obtain ⟨e, he⟩ := x.e
  obtain ⟨a, ha⟩ := x.a
  unfold tot
  have h1 : (C.EK.map fun g => (C.EM g).length).sum ≤ (C.EK.map fun g => (C'.EM g).length).sum := sum_le fun g hg => by
    obtain ⟨y, hy⟩ := x.m g hg
    rw [hy, List.length_append]
    omega
  have h2 : (C'.EK.map fun g => (C'.EM g).length).sum = (C.EK.map fun g => (C'.EM g).length).sum + (e.map fun g => (C'.EM g).length).sum := by rw [he, List.map_append, List.sum_append]
  have h3 : C'.EK.length = C.EK.length + e.length := by rw [he, List.length_append]
  have h4 : C'.AK.length = C.AK.length + a.length := by rw [ha, List.length_append]
  rcases s with s | s
  · omega
  · have h5 : (C.EK.map fun g => (C.EM g).length).sum < (C.EK.map fun g => (C'.EM g).length).sum := sum_lt (fun g hg => by
      obtain ⟨y, hy⟩ := x.m g hg
      rw [hy, List.length_append]
      omega) s
    omega
theorem sum_bound {f : GG → Nat} {n : Nat} : ∀ {l : List GG}, (∀ g ∈ l, f g ≤ n) → (l.map f).sum ≤ n * l.length
  | [], _ => Nat.le_refl _
  | g :: r, h => by
    rw [List.map_cons, List.sum_cons, List.length_cons, Nat.mul_succ]
    have h1 := h g (List.mem_cons_self ..)
    have h2 := sum_bound (l := r) fun g hg => h g (List.mem_cons_of_mem _ hg)
    omega
theorem ents_len {h : HH} (f : h.fit) : h.ents.length ≤ 6 := by
  have : ∀ l : List Bool, (l.flatMap (entB h)).length ≤ 3 * l.length := fun l => by
    induction l with
    | nil => exact Nat.le_refl _
    | cons b r ih =>
      rw [List.flatMap_cons, List.length_append, List.length_cons]
      have := entB_len f b
      omega
  have h2 := this h.pres
  have h3 := h.pres_len
  show (h.pres.flatMap (entB h)).length ≤ 6
  omega
section
variable {P : Program} {w : World} {K : PySem.W.Frag} {mg : Str → Option Value} {base : Heap}
theorem SW.tot {W : Wd} {C : Ct} {H : Hp} (x : SW P w K W C H) : tot C ≤ 2000 := by
  have h1 := x.ek
  have h2 := x.ak
  have h3 : (C.EK.map fun g => (C.EM g).length).sum ≤ 36 * C.EK.length := sum_bound fun g hg => good_bound x.fit (x.emE g hg).1 (x.emE g hg).2
  unfold Nc.tot
  omega
abbrev N_Search_grow : List Str := ["self", "count", "new", "state", "entry", "end"]
theorem sc_Search_grow : FnScope N_Search_grow ["self"] (defScope s_Search_grow) := ⟨rfl, rfl, rfl, by decide +kernel, rfl, by decide +kernel, by decide +kernel⟩
def spGrow (P : Program) (w : World) (K : PySem.W.Frag) : Sp := fun vs H Q _ => ∃ (W : Wd) (C : Ct), vs = [.ref W.s] ∧ SW P w K W C H ∧ CtInv W.h C ∧ C.KK = [] ∧
  ∀ r C' H', SW P w K W C' H' → CtInv W.h C' → Ext C C' → Fr (W.M C) H (W.M C') H' → (r = true → tot C < tot C') → (r = false → C'.EK = C.EK ∧ C'.AK = C.AK ∧ ∀ g ∈ C.EK, C'.EM g = C.EM g) → (∀ g ∈ C.EK, ∀ p ∈ W.h.ents, Cmp1 W.h C' g p) → Q (.bl r) H'
/-- between two turns -/
structure WGr (P : Program) (w : World) (K : PySem.W.Frag) (W : Wd) (C : Ct) (H0 : Hp) (new : Bool) (kk : Nat) (C1 : Ct) (H : Hp) : Prop where
  x : SW P w K W C1 H
  inv : CtInv W.h C1
  kok : KOk (fz (W.M C1) H) W C1
  ext : Ext C C1
  fr : Fr (W.M C) H0 (W.M C1) H
  kk : C1.KK.length ≤ kk
  nf : new = false → ∀ g ∈ C.EK, C1.EM g = C.EM g
  nt : new = true → ∃ g ∈ C.EK, (C.EM g).length < (C1.EM g).length
theorem ok_grow (T : Tx K mg) : Met P w K mg base 12 (He.ga K "Search") "grow" (spGrow P w K) [] := by
  have m_Ways_of : Met P w K mg base 11 (He.ga K "Ways") "of" (spOf P w K) [] := ok_of T
  have m_Search_meet : Met P w K mg base 1 (He.ga K "Search") "meet" (spMeet P w K) [] := ok_meet T
  refine met_of T 30 rfl T.cl_Search T.me_Search_grow sc_Search_grow (fun _ _ _ _ _ _ us hl => match us, hl with | [_], _ => rfl) (fun vs H Q E h => ?_) (fun cdv A outer s H vs Q E hr h => ?_)
  · obtain ⟨_, _, rfl, _⟩ := h
    rfl
  obtain ⟨W, C, rfl, x, inv, eKK, q⟩ := h
  have hu9 := hu9_of hr
  have hu65 := hu65_of hr
  refine ⟨_, (pss_cons (ps_set (i := 1) sc_Search_grow.nd rfl (Or.inl rfl) (pe_op op_add (pe_callB call_lenN (by rfl) T.f_len (by decide +kernel) (pa_cons (pe_fld (pv 0) rfl) pa_nil)) (pe_callB call_lenN (by rfl) T.f_len (by decide +kernel) (pa_cons (pe_fld (pv 0) rfl) pa_nil))))
    (pss_cons (ps_set (i := 2) sc_Search_grow.nd rfl (Or.inl rfl) pe_bl)
    (pss_cons (ps_for PassesOwn.never rfl (pi_list (pe_callTy (call_listN rfl) (by rfl) T.f_list (by decide +kernel) (pa_cons (pe_fld (pv 0) rfl) pa_nil))) (pg_name (i := 3) sc_Search_grow.nd rfl (Or.inl rfl))
    (pss_one (ps_for PassesOwn.never rfl (pi_list (pe_fld (pe_fld (pv 0) rfl) rfl)) (pg_name (i := 4) sc_Search_grow.nd rfl (Or.inl rfl))
    (pss_one (ps_for PassesOwn.never rfl (pi_list (pe_mt m_Ways_of hr (by decide) (pe_fld (pv 0) rfl) (pa_cons (pv 3) (pa_cons (pv 4) pa_nil)))) (pg_name (i := 5) sc_Search_grow.nd rfl (Or.inl rfl))
    (pss_one (ps_if (pt_cmpR (op_notInD hu65) (pv 5) (pe_nget hu9 (pe_fld (pv 0) rfl) (pv 3) (fun _ _ => rfl)) (by rfl))
    (pss_cons (ps_expr (pe_bm PySem.F.plainAttrs_list PySem.F.slot_list_append PySem.F.type_list_append mt_append (pe_nget hu9 (pe_fld (pv 0) rfl) (pv 3) (fun _ _ => rfl)) (pa_cons (pv 5) pa_nil)))
    (pss_cons (ps_expr (pe_mt m_Search_meet hr (by decide) (pv 0) (pa_cons (pv 5) pa_nil)))
    (pss_one (ps_set (i := 2) sc_Search_grow.nd rfl (Or.inl rfl) pe_bl))))
    pss_nil)))))))
    (pss_one (ps_ret (pe_or (pv 2) (pe_one (pe_cmpR op_gt (pe_op op_add (pe_callB call_lenN (by rfl) T.f_len (by decide +kernel) (pa_cons (pe_fld (pv 0) rfl) pa_nil)) (pe_callB call_lenN (by rfl) T.f_len (by decide +kernel) (pa_cons (pe_fld (pv 0) rfl) pa_nil))) (pv 1) (nomark _))))))))), ?_⟩
  obtain ⟨kE, e1, e2, e3⟩ := x.dE.ex
  obtain ⟨kA, a1, a2, a3⟩ := x.dA.ex
  have lkE := NDG.lenE e2
  have lkA := NDG.lenE a2
  refine ⟨_, rfl, W.s, _, W.dxs, _, _, rfl, x.so', T.cl_Search, T.na_Search_ends, fSearch_ends, W.aE, kE, rfl, e1, _, rfl, W.s, _, W.dxs, _, _, rfl, x.so', T.cl_Search, T.na_Search_asked, fSearch_asked, W.aA, kA, rfl, a1, _, _, rfl, rfl, ?_⟩
  rw [lkE, lkA]
  have hv0 := stv_of (NDG.keys (kf := kS W.h) e1 (fun _ h => h) e2)
  refine ⟨_, rfl, W.s, _, W.dxs, _, _, rfl, x.so', T.cl_Search, T.na_Search_ends, fSearch_ends, W.aE, kE, rfl, e1, fun p hp => ?_⟩
  have s1 := same_new hp (.lst (kE.map fun k => V.ref k.2.1))
  have x1 := x.to s1
  have pM : p ∉ W.M C := x.out hp
  have hpF : fz (W.M C) (upd H p (.lst (kE.map fun k => V.ref k.2.1))) p = some (.lst (kE.map fun k => V.ref k.2.1)) := fz_get pM upd_same
  have hv1 := stvs_ts hv0 (TpS.of s1)
  have lv0 : (kE.map fun k => V.ref k.2.1).length = C.EK.length := paired_len hv0
  generalize kE.map (fun k => V.ref k.2.1) = vs0 at s1 x1 hpF hv1 lv0 hv0 ⊢
  have h36 := x.ek
  have le6 := ents_len x.fit
  have w0 : WGr P w K W C (upd H p (.lst vs0)) false 0 C (upd H p (.lst vs0)) := ⟨x1, inv, fun q hq => (by rw [eKK] at hq; exact (List.not_mem_nil hq).elim), Ext.refl _, Fr.refl, by rw [eKK]; exact Nat.le_refl _, fun _ _ _ => rfl, fun z => nomatch z⟩
  refine ⟨p, rfl, ⟨_, SqL.of upd_same⟩, for_list (xs := vs0) (fun i σ H' => ∃ new v3 v4 v5 C1, σ = [some (.ref W.s), some (.int (((C.EK.length : Nat) : Int) + ((C.AK.length : Nat) : Int))), some (.bl new), v3, v4, v5] ∧ WGr P w K W C (upd H p (.lst vs0)) new (i * W.h.ents.length) C1 H' ∧ ∀ g ∈ C.EK.take i, ∀ q ∈ W.h.ents, Cmp1 W.h C1 g q)
    ⟨false, none, none, none, C, rfl, by rw [Nat.zero_mul]; exact w0, fun g hg => by rw [List.take_zero] at hg; exact (List.not_mem_nil hg).elim⟩ (fun i σ H' _ ⟨_, _, _, _, _, _, wg, _⟩ => SqL.of (fz_same _ _ (wg.fr.same _ _ hpF))) ?_ ?_⟩
  · -- a state
    rintro i v σ H' hi ⟨new, v3, v4, v5, C1, rfl, wg, hcmp⟩
    obtain ⟨G, hG0, hstG⟩ := stvs_get hv1 hi
    have hGm : G ∈ C.EK := List.mem_of_getElem? hG0
    have goG := x.goE G hGm
    have il : i < 36 := by have := lt_of_get hG0; omega
    have etake : C.EK.take (i + 1) = C.EK.take i ++ [G] := by rw [List.take_add_one, hG0]; rfl
    obtain ⟨vse, hse, hpe⟩ := wg.x.ent
    have lse : vse.length = W.h.ents.length := paired_len hpe
    refine ⟨_, rfl, W.s, _, W.dxs, _, _, rfl, wg.x.so', T.cl_Search, T.na_Search_ways, fSearch_ways, W.wy, _, W.dxw, _, _, rfl, wg.x.wo, T.cl_Ways, T.na_Ways_entries, fWays_entries, W.es, rfl, ⟨_, SqL.of (fz_same _ _ hse)⟩, for_list (xs := vse) (fun j σ H2 => ∃ new v4 v5 C2, σ = [some (.ref W.s), some (.int (((C.EK.length : Nat) : Int) + ((C.AK.length : Nat) : Int))), some (.bl new), some v, v4, v5] ∧ WGr P w K W C (upd H p (.lst vs0)) new (i * W.h.ents.length + j) C2 H2 ∧ Ext C1 C2 ∧ Fr (W.M C1) H' (W.M C2) H2 ∧ ∀ q ∈ W.h.ents.take j, Cmp1 W.h C2 G q)
      ⟨new, v4, v5, C1, rfl, wg, Ext.refl _, Fr.refl, fun q hq => by rw [List.take_zero] at hq; exact (List.not_mem_nil hq).elim⟩ (fun j σ H2 _ ⟨_, _, _, _, _, _, _, f, _⟩ => SqL.of (fz_same _ _ (f.same _ _ hse))) ?_ ?_⟩
    · -- an entry
      rintro j ve σ H2 hj ⟨new, v4, v5, C2, rfl, wg2, ext2, fr2, hcmp2⟩
      have hent : ∃ bg, W.h.ents[j]? = some bg ∧ EntAt H2 ve bg := by
        have : ∀ {vs : List V} {ps : List (Bool × Int)}, Paired (EntAt (fz (W.M C1) H')) vs ps → ∀ {j : Nat} {v : V}, vs[j]? = some v → ∃ bg, ps[j]? = some bg ∧ EntAt (fz (W.M C1) H') v bg := by
          intro vs ps pp
          induction pp with
          | nil => intro j v e; simp at e
          | cons a t ih =>
            intro j v e
            match j, e with
            | 0, e => obtain rfl := Option.some.inj e; exact ⟨_, rfl, a⟩
            | j + 1, e =>
              obtain ⟨bg, h1, h2⟩ := ih (j := j) (v := v) (by simpa using e)
              exact ⟨bg, by simpa using h1, h2⟩
        obtain ⟨bg, h1, h2⟩ := this hpe hj
        exact ⟨bg, h1, h2.ts ((TpS.of fr2.same).trans (TpS.of fz_same))⟩
      obtain ⟨⟨b, g⟩, hbg, heat⟩ := hent
      have hbgm : (b, g) ∈ W.h.ents := List.mem_of_getElem? hbg
      have jl : j < 6 := by have := lt_of_get hbg; omega
      have etake2 : W.h.ents.take (j + 1) = W.h.ents.take j ++ [(b, g)] := by rw [List.take_add_one, hbg]; rfl
      have stG2 : StV W.h H2 v G := hstG.ts (wg2.fr.ts x1.ntp)
      have hGm2 : G ∈ C2.EK := wg2.ext.eIn hGm
      have kkb : i * W.h.ents.length ≤ 36 * 6 := Nat.mul_le_mul (by omega) le6
      have kk2 : C2.KK.length ≤ 5000 := Nat.le_trans wg2.kk (by omega)
      refine ⟨_, rfl, W.s, _, W.dxs, _, _, rfl, wg2.x.so', T.cl_Search, T.na_Search_ways, fSearch_ways, W.wy, W.dxw, _, rfl, wg2.x.wo, fWays_no_of, _, rfl, _, rfl, ?_⟩
      refine ⟨W, C2, v, ve, G, b, g, rfl, wg2.x, wg2.inv, wg2.kok, kk2, stG2, goG, heat, hbgm, fun l us L C3 H3 x3 inv3 kok3 ext3 em3 fr3 hl3 hus3 hL hA kk3 => ?_⟩
      have w3 : WGr P w K W C (upd H p (.lst vs0)) new (i * W.h.ents.length + (j + 1)) C3 H3 := ⟨x3, inv3, kok3, wg2.ext.trans ext3, wg2.fr.trans fr3, by have := wg2.kk; omega, fun z g' hg' => (em3 g' (wg2.ext.eIn hg')).trans (wg2.nf z g' hg'), fun z => by
        obtain ⟨g', h1, h2⟩ := wg2.nt z
        exact ⟨g', h1, by rw [em3 g' (wg2.ext.eIn h1)]; exact h2⟩⟩
      refine ⟨l, rfl, ⟨us, SqL.of (fz_same _ _ hl3)⟩, for_list (xs := us) (fun m σ H4 => ∃ new v5 C4, σ = [some (.ref W.s), some (.int (((C.EK.length : Nat) : Int) + ((C.AK.length : Nat) : Int))), some (.bl new), some v, some ve, v5] ∧ WGr P w K W C (upd H p (.lst vs0)) new (i * W.h.ents.length + (j + 1)) C4 H4 ∧ Ext C3 C4 ∧ Fr (W.M C3) H3 (W.M C4) H4 ∧ (C4.AK = C3.AK ∧ C4.RM = C3.RM) ∧ ∀ e ∈ L.take m, e ∈ C4.EM G)
        ⟨new, v5, C3, rfl, w3, Ext.refl _, Fr.refl, ⟨rfl, rfl⟩, fun e he => by rw [List.take_zero] at he; exact (List.not_mem_nil he).elim⟩ (fun m σ H4 _ ⟨_, _, _, _, _, _, f, _⟩ => SqL.of (fz_same _ _ (f.same _ _ hl3))) ?_ ?_⟩
      · -- an end
        rintro m ve2 σ H4 hm ⟨new, v5, C4, rfl, w4, ext4, fr4, ⟨ea4, er4⟩, hin⟩
        obtain ⟨e, he, hste⟩ := stvs_get hus3 hm
        have heL : e ∈ L := List.mem_of_getElem? he
        have etake3 : L.take (m + 1) = L.take m ++ [e] := by rw [List.take_add_one, he]; rfl
        have rowE : Row W.h G e := way_row inv3 hbgm hA ((hL e).mp heL)
        have goE := rowE.good x.fit goG
        have ste4 : StV W.h H4 ve2 e := hste.ts (fr4.ts x3.ntp)
        obtain ⟨ea, rfl⟩ := ste4.ref
        have stG4 : StV W.h H4 v G := hstG.ts (w4.fr.ts x1.ntp)
        obtain ⟨va, rfl⟩ := stG4.ref
        have hGm4 : G ∈ C4.EK := w4.ext.eIn hGm
        obtain ⟨kE4, g1, g2, g3⟩ := w4.x.dE.ex
        obtain ⟨vsE, hE1, hE2⟩ := w4.x.le G hGm4
        obtain ⟨ndE, goEM⟩ := w4.x.emE G hGm4
        have dpe : Dp K H4 (.ref ea) (W.h.dS e) := Rp.dp _ _ (stvs_dp.noL_dS _ _) ste4
        have dpl : Dp K H4 (.ref (C4.ea G)) (.list ((C4.EM G).map W.h.dS)) := .lst (SqL.of hE1) (stvs_dp hE2)
        refine ⟨_, rfl, _, rfl, W.s, _, W.dxs, _, _, rfl, w4.x.so', T.cl_Search, T.na_Search_ends, fSearch_ends, _, rfl, W.aE, va, kE4, kS W.h G, _, rfl, rfl, g1, stG4.key, dS8 _ _, g3 G hGm4, _, _, dpe, dpl, shaped_dS _ _, shaped_list _ _, _, rfl, ?_⟩
        by_cases hmem : e ∈ C4.EM G
        · rw [(any_eqv goE goEM).mpr hmem]
          refine iteF ?_
          refine ⟨new, _, C4, rfl, w4, ext4, fr4, ⟨ea4, er4⟩, fun e' he' => ?_⟩
          rw [etake3] at he'
          rcases List.mem_append.mp he' with z | z
          · exact hin e' z
          · rw [List.mem_singleton.mp z]; exact hmem
        · rw [Bool.eq_false_iff.mpr fun z => hmem ((any_eqv goE goEM).mp z)]
          refine iteT ?_
          have lvsE : vsE.length ≤ 36 := by rw [paired_len hE2]; exact good_bound x.fit ndE goEM
          refine ⟨_, rfl, W.s, _, W.dxs, _, _, rfl, w4.x.so', T.cl_Search, T.na_Search_ends, fSearch_ends, _, rfl, W.aE, va, kE4, kS W.h G, _, rfl, rfl, g1, stG4.key, dS8 _ _, g3 G hGm4, .inl ⟨rfl, _, SqL.of hE1⟩, _, rfl, C4.ea G, vsE, _, rfl, rfl, hE1, szl _ (by omega), ?_⟩
          obtain ⟨x5, f5⟩ := w4.x.addE hGm4 goE hmem hE1 ste4
          have ste5 := ste4.ts (f5.ts w4.x.ntp)
          refine ⟨_, rfl, W.s, W.dxs, _, rfl, x5.so', fSearch_no_meet, _, rfl, W, C4.addE G e, .ref ea, e, rfl, x5, ste5, goE, ?_⟩
          -- both ways
          have ext5 : Ext C4 (C4.addE G e) := ⟨⟨[], by rw [List.append_nil]; rfl⟩, ⟨[], by rw [List.append_nil]; rfl⟩, fun _ _ => rfl, fun g' hg' => by
            show ∃ y, fset C4.EM G (C4.EM G ++ [e]) g' = C4.EM g' ++ y
            by_cases eg : g' = G
            · rw [eg, fset_same]; exact ⟨[e], rfl⟩
            · rw [fset_ne eg]; exact ⟨[], by rw [List.append_nil]⟩⟩
          have fin : ∀ (C6 : Ct) (H6 : Hp), SW P w K W C6 H6 → Fr (W.M (C4.addE G e)) (upd H4 (C4.ea G) (.lst (vsE ++ [.ref ea]))) (W.M C6) H6 → C6.AK = C4.AK → C6.RK = C4.RK → C6.RM = C4.RM → C6.KK = C4.KK → C6.KM = C4.KM → (∃ y, C6.EK = C4.EK ++ y) → e ∈ C6.EK → (∀ g ∈ C6.EK, (g ∈ C4.EK ∧ C6.EM g = fset C4.EM G (C4.EM G ++ [e]) g) ∨ C6.EM g = []) → (∀ g ∈ C4.EK, C6.EM g = fset C4.EM G (C4.EM G ++ [e]) g) →
              WGr P w K W C (upd H p (.lst vs0)) true (i * W.h.ents.length + (j + 1)) C6 H6 ∧ Ext C3 C6 ∧ Fr (W.M C3) H3 (W.M C6) H6 ∧ (C6.AK = C3.AK ∧ C6.RM = C3.RM) ∧ ∀ e' ∈ L.take (m + 1), e' ∈ C6.EM G := by
            intro C6 H6 x6 f6 h1 h2 h3 h4 h5 ⟨y, h6⟩ h7 h8 h9
            have eIn : ∀ g ∈ C4.EK, g ∈ C6.EK := fun g hg => by rw [h6]; exact List.mem_append_left _ hg
            have emG : C6.EM G = C4.EM G ++ [e] := by rw [h9 G hGm4, fset_same]
            have ext6 : Ext C4 C6 := ⟨⟨y, h6⟩, ⟨[], by rw [h1, List.append_nil]⟩, fun g _ => by rw [h3], fun g' hg' => by
              rw [h9 g' hg']
              by_cases eg : g' = G
              · rw [eg, fset_same]; exact ⟨[e], rfl⟩
              · rw [fset_ne eg]; exact ⟨[], by rw [List.append_nil]⟩⟩
            have fr6 : Fr (W.M C4) H4 (W.M C6) H6 := f5.trans f6
            refine ⟨⟨x6, ⟨by rw [h2, h1]; exact w4.inv.re, fun g hg => eIn g (w4.inv.ae g (by rw [← h1]; exact hg)), fun g hg e' he' => ?_, fun g hg t ht => ?_, fun g hg => ?_, fun g hg e' he' => ?_, fun g hg t ht => ?_⟩, w4.kok.ext fr6.same ext6 h4 h5, w4.ext.trans ext6, w4.fr.trans fr6, by rw [h4]; exact w4.kk, fun z => (nomatch z), fun _ => ⟨G, hGm, ?_⟩⟩, ext4.trans ext6, fr4.trans fr6, ⟨h1.trans ea4, h3.trans er4⟩, fun e' he' => ?_⟩
            · rcases h8 g hg with ⟨z1, z2⟩ | z
              · rw [z2] at he'
                by_cases eg : g = G
                · rw [eg, fset_same] at he'
                  rcases List.mem_append.mp he' with z | z
                  · exact eIn e' (w4.inv.ee G hGm4 e' z)
                  · rw [List.mem_singleton.mp z]; exact h7
                · rw [fset_ne eg] at he'
                  exact eIn e' (w4.inv.ee g z1 e' he')
              · rw [z] at he'
                exact (List.not_mem_nil he').elim
            · rw [h3] at ht
              exact eIn t (w4.inv.rr g (by rw [← h1]; exact hg) t ht)
            · rw [h3]
              exact w4.inv.rb g (by rw [← h1]; exact hg)
            · rcases h8 g hg with ⟨z1, z2⟩ | z
              · rw [z2] at he'
                by_cases eg : g = G
                · rw [eg, fset_same] at he'
                  rcases List.mem_append.mp he' with z | z
                  · rw [eg]; exact w4.inv.se G hGm4 e' z
                  · rw [eg, List.mem_singleton.mp z]; exact rowE
                · rw [fset_ne eg] at he'
                  exact w4.inv.se g z1 e' he'
              · rw [z] at he'
                exact (List.not_mem_nil he').elim
            · rw [h3] at ht
              exact w4.inv.sr g (by rw [← h1]; exact hg) t ht
            · obtain ⟨y2, hy2⟩ := w4.ext.m G hGm
              rw [emG, hy2, List.length_append, List.length_append]
              show _ < _ + _ + 1
              omega
            · rw [etake3] at he'
              rw [emG]
              rcases List.mem_append.mp he' with z | z
              · exact List.mem_append_left _ (hin e' z)
              · exact List.mem_append_right _ z
          refine ⟨fun hE => ?_, fun hE p6 H6 x6 f6 => ?_⟩
          · have hE' : e ∈ C4.EK := hE
            exact ⟨true, _, C4.addE G e, rfl, fin _ _ x5 Fr.refl rfl rfl rfl rfl rfl ⟨[], by rw [List.append_nil]; rfl⟩ hE' (fun g hg => .inl ⟨hg, rfl⟩) (fun g hg => rfl)⟩
          · have hE' : e ∉ C4.EK := hE
            refine ⟨true, _, (C4.addE G e).meet e p6, rfl, fin _ _ x6 f6 rfl rfl rfl rfl rfl ⟨[e], rfl⟩ (by show e ∈ C4.EK ++ [e]; simp) (fun g hg => ?_) (fun g hg => ?_)⟩
            · rcases List.mem_append.mp (show g ∈ C4.EK ++ [e] from hg) with z | z
              · refine .inl ⟨z, ?_⟩
                show fset (fset C4.EM G (C4.EM G ++ [e])) e [] g = _
                rw [fset_ne fun (z' : g = e) => hE' (by rw [← z']; exact z)]
              · refine .inr ?_
                show fset (fset C4.EM G (C4.EM G ++ [e])) e [] g = _
                rw [List.mem_singleton.mp z, fset_same]
            · show fset (fset C4.EM G (C4.EM G ++ [e])) e [] g = _
              rw [fset_ne fun (z' : g = e) => hE' (by rw [← z']; exact hg)]
      · -- the entry is done
        rintro σ H4 ⟨new, v5, C4, rfl, w4, ext4, fr4, ⟨ea4, er4⟩, hin⟩
        rw [show us.length = L.length from paired_len hus3, List.take_length] at hin
        refine ⟨new, _, _, C4, rfl, w4, (ext2.trans ext3).trans ext4, (fr2.trans fr3).trans fr4, fun q hq => ?_⟩
        rw [etake2] at hq
        rcases List.mem_append.mp hq with z | z
        · exact (hcmp2 q z).ext (ext3.trans ext4) hGm2
        · rw [List.mem_singleton.mp z]
          refine ⟨fun e he => hin e ((hL e).mpr ?_), fun l n rest hs => by rw [ea4]; exact hA l n rest hs⟩
          rw [er4] at he
          exact he
    · -- the state is done
      rintro σ H2 ⟨new, v4, v5, C2, rfl, wg2, ext2, fr2, hcmp2⟩
      rw [lse, List.take_length] at hcmp2
      rw [lse] at wg2
      refine ⟨new, _, _, _, C2, rfl, by rw [Nat.succ_mul]; exact wg2, fun g hg q hq => ?_⟩
      rw [etake] at hg
      rcases List.mem_append.mp hg with z | z
      · exact (hcmp g z q hq).ext ext2 (wg.ext.eIn (List.mem_of_mem_take z))
      · rw [List.mem_singleton.mp z]
        exact hcmp2 q hq
  · -- all states are done
    rintro σ H' ⟨new, v3, v4, v5, C1, rfl, wg, hcmp⟩
    rw [lv0, List.take_length] at hcmp
    have frF : Fr (W.M C) H (W.M C1) H' := (Fr.of s1).trans wg.fr
    refine ⟨_, rfl, new, rfl, ?_⟩
    cases new with
    | true =>
      refine iteT ?_
      exact q true C1 H' wg.x wg.inv wg.ext frF (fun _ => tot_ext wg.ext (.inr (wg.nt rfl))) (fun z => nomatch z) hcmp
    | false =>
      refine iteF ?_
      obtain ⟨kE1, e11, e12, _⟩ := wg.x.dE.ex
      obtain ⟨kA1, a11, a12, _⟩ := wg.x.dA.ex
      have lkE1 := NDG.lenE e12
      have lkA1 := NDG.lenE a12
      refine ⟨_, rfl, W.s, _, W.dxs, _, _, rfl, wg.x.so', T.cl_Search, T.na_Search_ends, fSearch_ends, W.aE, kE1, rfl, e11, _, rfl, W.s, _, W.dxs, _, _, rfl, wg.x.so', T.cl_Search, T.na_Search_asked, fSearch_asked, W.aA, kA1, rfl, a11, _, _, rfl, rfl, _, rfl, _, _, rfl, rfl, ?_⟩
      rw [lkE1, lkA1]
      refine q _ C1 H' wg.x wg.inv wg.ext frF (fun z => ?_) (fun z => ?_) hcmp
      · have hlt := of_decide_eq_true z
        exact tot_ext wg.ext (.inl (by omega))
      · have hle := of_decide_eq_false z
        obtain ⟨y1, hy1⟩ := wg.ext.e
        obtain ⟨y2, hy2⟩ := wg.ext.a
        have l1 : C1.EK.length = C.EK.length + y1.length := by rw [hy1, List.length_append]
        have l2 : C1.AK.length = C.AK.length + y2.length := by rw [hy2, List.length_append]
        have n1 : y1 = [] := List.length_eq_zero_iff.mp (by omega)
        have n2 : y2 = [] := List.length_eq_zero_iff.mp (by omega)
        rw [n1, List.append_nil] at hy1
        rw [n2, List.append_nil] at hy2
        exact ⟨hy1, hy2, wg.nf rfl⟩
end
end Nc

-- S9
set_option maxHeartbeats 4000000
namespace Nc
open PySem L2 C8
section
variable {P : Program} {w : World} {K : PySem.W.Frag} {mg : Str → Option Value} {base : Heap}
/-- a class whose __init__ has one default -/
theorem mak_of1 {c qual : Str} {st : Stmt} {N ps : List Str} {k : Nat} {sp : Sp} (T : Tx K mg) (i : Nat) (hi : fn[i]? = some ⟨(c, some "__init__"), "__init__", qual, defArgs st, defBody st, defScope st, [He.Dv.non], []⟩) (hg : mg c = some (.ref (He.ga K c))) (M : Mk K (He.ga K c) (He.ma K (He.ga K c) "__init__")) (S : FnScope N ps (defScope st)) (n : Nat) (hn : n + 1 = ps.length)
    (B : ∀ (T : Addr) (kV doc pm : Value) (an : Option Addr) (cdv ct : Value) (us its : List Value), us.length = n → its.length = 1 → ∃ k, bindArgs (PySem.W.fnOf "__init__" qual (defArgs st) (defBody st) (defScope st) (.ref T) kV doc pm an cdv ct) ⟨us, []⟩ = seqItems? (.ref T) >>= k ∧ k (some its.toArray) = pure (ps.zip (us ++ its.drop 0)))
    (len : ∀ vs H Q E, sp vs H Q E → vs.length = ps.length) (hb : BodyOk P w K mg base N qual st (He.ma K (He.ga K c) "__init__") k sp) : C8.Mak P w K mg base (k + 1) c (He.ga K c) sp [.non] := by
  obtain ⟨fd, F⟩ := T.says.def_ i hi
  have F' : FunD K "__init__" qual (defArgs st) (defBody st) (defScope st) [V.non] [] (He.ma K (He.ga K c) "__init__") fd := F
  obtain ⟨ds, hv, hB⟩ := FunD.binds1 (ps := ps) F' n 0 (by simp) hn B
  exact ⟨_, fd, ps, ds, M, fnd_ok F' S len hb, hg, hB, hv⟩
theorem b_Search : ∀ (T : Addr) (kV doc pm : Value) (an : Option Addr) (cdv ct : Value) (us its : List Value), us.length = 2 → its.length = 1 → ∃ k, bindArgs (PySem.W.fnOf "__init__" "Search.__init__" (defArgs s_Search_init) (defBody s_Search_init) (defScope s_Search_init) (.ref T) kV doc pm an cdv ct) ⟨us, []⟩ = seqItems? (.ref T) >>= k ∧ k (some its.toArray) = pure ((["self", "house", "state"] : List Str).zip (us ++ its.drop 0)) := fun T kV doc pm an cdv ct us its h1 h2 => match us, its, h1, h2 with
  | [_, _], [_], _, _ => ⟨_, rfl, rfl⟩
/-! ### Ways -/
abbrev N_Ways_init : List Str := ["self", "house", "rows"]
theorem sc_Ways_init : FnScope N_Ways_init ["self", "house", "rows"] (defScope s_Ways_init) := ⟨rfl, rfl, rfl, by decide +kernel, rfl, by decide +kernel, by decide +kernel⟩
def spWays (P : Program) (w : World) (K : PySem.W.Frag) : Sp := fun vs H Q _ => ∃ (wy dxw eh s : Addr) (h : HH), vs = [.ref wy, .ref eh, .ref s] ∧ H wy = some (.ins (He.ga K "Ways") dxw []) ∧ HouseAt K H eh h ∧ h.fit ∧
  ∀ en es aK ln pn vse H', SameX wy H H' → H' wy = some (.ins (He.ga K "Ways") dxw (fWays (.ref en) (.ref es) (.ref s) (.ref aK))) → EngAt K H' en h ln pn → H' es = some (.lst vse) → Paired (EntAt H') vse h.ents → H' aK = some (nO P w aK []) → H aK = none → Q .non H'
/-- objects of another kind -/
def Foreign (P : Program) (w : World) (H : Hp) (m : Addr) : Prop := (∃ kas, H m = some (nO P w m kas)) ∨ ∃ C dx fs, H m = some (.ins C dx fs) ∧ fs.lookup ("house" : Str) = none ∧ fs.lookup ("assets" : Str) = none
theorem Foreign.ntp {H : Hp} {m : Addr} (f : Foreign P w H m) : ¬ IsTp (H m) := by
  rcases f with ⟨kas, h⟩ | ⟨C, dx, fs, h, _⟩ <;> rw [h] <;> exact id
theorem EngAt.apart {H : Hp} {en : Addr} {h : HH} {ln pn : List V} {M : List Addr} (k : EngAt K H en h ln pn) (hm : ∀ m ∈ M, Foreign P w H m) : EngAt K (fz M H) en h ln pn := by
  obtain ⟨dx, eh, aA, aC, aP, aPl, aS, aL, aPa, aB, pls, szs, bo, z1, ⟨hdx, va, vc, y1, y2, y3⟩, z3, z4, z5, z6, z7, z8, z9⟩ := k.ex
  have nt : NTp M H := fun m h => (hm m h).ntp
  have ts := fz_ts nt
  have g : ∀ {a : Addr} {u : HO}, H a = some u → (∀ kas, u ≠ nO P w a kas) → (∀ C dx fs, u ≠ .ins C dx fs) → fz M H a = some u := fun {a u} ha n1 n2 => fz_get (fun z => by
    rcases hm a z with ⟨kas, e⟩ | ⟨C, dx, fs, e, _⟩
    · rw [ha] at e
      exact n1 kas (Option.some.inj e)
    · rw [ha] at e
      exact n2 C dx fs (Option.some.inj e)) ha
  have gi1 : fz M H en = some (.ins (He.ga K "Engine") dx (fEngine (.ref eh) (.ref aA) (.ref aC) (.ref aP) (.ref aPl) (.ref aS) (.ref aL) (.ref aPa) (.ref aB))) := fz_get (fun z => by
    rcases hm en z with ⟨kas, e⟩ | ⟨C, dx', fs, e, e1, _⟩
    · rw [z1] at e; cases e
    · rw [z1] at e
      cases e
      have : (fEngine (.ref eh) (.ref aA) (.ref aC) (.ref aP) (.ref aPl) (.ref aS) (.ref aL) (.ref aPa) (.ref aB)).lookup ("house" : Str) = some (V.ref eh) := fEngine_house
      rw [this] at e1
      cases e1) z1
  have gi2 : fz M H eh = some (.ins (He.ga K "House") hdx (fHouse va vc)) := fz_get (fun z => by
    rcases hm eh z with ⟨kas, e⟩ | ⟨C, dx', fs, e, _, e1⟩
    · rw [y1] at e; cases e
    · rw [y1] at e
      cases e
      have : (fHouse va vc).lookup ("assets" : Str) = some va := fHouse_assets
      rw [this] at e1
      cases e1) y1
  refine ⟨dx, eh, aA, aC, aP, aPl, aS, aL, aPa, aB, pls, szs, bo, gi1, ⟨hdx, va, vc, gi2, Rp.ts ts _ _ y2, Rp.ts ts _ _ y3⟩, g z3 (fun _ e => nomatch e) (fun _ _ _ e => nomatch e), g z4 (fun _ e => nomatch e) (fun _ _ _ e => nomatch e), g z5 (fun _ e => nomatch e) (fun _ _ _ e => nomatch e), g z6 (fun _ e => nomatch e) (fun _ _ _ e => nomatch e), g z7 (fun _ e => nomatch e) (fun _ _ _ e => nomatch e), g z8 (fun _ e => nomatch e) (fun _ _ _ e => nomatch e), fun i b hb => ?_⟩
  have c := z9 i b hb
  refine ⟨?_, ?_, fun s sh l hp => ?_⟩
  · obtain ⟨q, h1, h2⟩ := c.pl
    exact ⟨q, h1, g h2 (fun _ e => nomatch e) (fun _ _ _ e => nomatch e)⟩
  · obtain ⟨q, h1, h2⟩ := c.sz
    exact ⟨q, h1, g h2 (fun _ e => nomatch e) (fun _ _ _ e => nomatch e)⟩
  · obtain ⟨u, ns, h1, h2, h3⟩ := c.bo s sh l hp
    exact ⟨u, ns, h1, ts.t _ _ h2, Paired.imp' (fun _ _ z => z.tsN ts) h3⟩
theorem ok_Ways_init (T : Tx K mg) : Mak P w K mg base 5 "Ways" (He.ga K "Ways") (spWays P w K) [] := by
  have c_Engine : Mak P w K mg base 3 "Engine" (He.ga K "Engine") (spEng K) [] := ok_Engine_init T
  have m_Engine_entries : Met P w K mg base 1 (He.ga K "Engine") "entries" (spEnts K) [] := ok_entries T
  refine mak_of T 23 rfl T.g_Ways T.mk_Ways sc_Ways_init (fun _ _ _ _ _ _ us hl => match us, hl with | [_, _, _], _ => rfl) (fun vs H Q E h => ?_) (fun cdv A outer s H vs Q E hr h => ?_)
  · obtain ⟨_, _, _, _, _, rfl, _⟩ := h
    rfl
  obtain ⟨wy, dxw, eh, s, h, rfl, hwy, hh, fit, q⟩ := h
  refine ⟨_, (pss_cons (ps_fld (pv 0) (pe_mk c_Engine hr (by decide) rfl (pa_cons (pv 1) pa_nil)) rfl)
    (pss_cons (ps_fld (pv 0) (pe_mt0 m_Engine_entries hr (by decide) (pe_fld (pv 0) rfl)) rfl)
    (pss_cons (ps_fld (pv 0) (pv 2) rfl)
    (pss_one (ps_fld (pv 0) pe_nnew rfl))))), ?_⟩
  refine ⟨_, rfl, fun en edx hen hedx hne => ?_⟩
  have s1 : Same H (upd (upd H edx (.own en)) en (.ins (He.ga K "Engine") edx [])) := same_mut (same_new hedx _) hen
  refine ⟨en, edx, eh, h, rfl, upd_same, hh.to s1, fit, fun ln pn H2 sx2 eng => ⟨rfl, ?_⟩⟩
  have s2 : Same H H2 := fun a u hu => sx2 a u (ne_of_none hu hen) (s1 _ _ hu)
  refine ⟨_, rfl, wy, _, _, _, rfl, s2 _ _ hwy, T.cl_Ways, T.na_Ways_engine, len0, ?_⟩
  rw [gWays_engine]
  -- wy stands apart
  have eng2 : EngAt K (fz [wy] H2) en h ln pn := EngAt.apart (P := P) (w := w) eng fun m hm => by
    obtain rfl := List.mem_singleton.mp hm
    exact .inr ⟨_, _, _, s2 _ _ hwy, rfl, rfl⟩
  have fr3 : Fr [wy] H2 [wy] (upd H2 wy (.ins (He.ga K "Ways") dxw [(("engine" : Str), .ref en)])) := (Fr.refl (M := [wy])).upd mem1
  have eng3 := eng2.to fr3.same
  have eng3' := eng3.to fz_same
  obtain ⟨dx, eh', aA, aC, aP, aPl, aS, aL, aPa, aB, pls, szs, bo, z1, _⟩ := eng3'.ex
  refine ⟨_, rfl, wy, _, dxw, _, _, rfl, upd_same, T.cl_Ways, T.na_Ways_engine, rfl, en, dx, _, rfl, z1, fEngine_no_entries, ?_⟩
  refine ⟨en, h, ln, pn, rfl, eng3', fit, fun es vse H4 s4 hes hes2 hpe => ?_⟩
  refine ⟨_, rfl, wy, _, _, _, rfl, s4 _ _ upd_same, T.cl_Ways, T.na_Ways_entries, (show 1 < 1000 by decide), ?_⟩
  rw [gWays_entries]
  refine ⟨_, rfl, _, rfl, wy, _, _, _, rfl, upd_same, T.cl_Ways, T.na_Ways_rows, (show 2 < 1000 by decide), ?_⟩
  rw [gWays_rows, upd_upd]
  refine fun aK haK => ?_
  have wyaK : wy ≠ aK := ne_of_none upd_same haK
  refine ⟨_, rfl, wy, _, _, _, rfl, (upd_ne wyaK).trans upd_same, T.cl_Ways, T.na_Ways_kept, (show 3 < 1000 by decide), ?_⟩
  rw [gWays_kept]
  have fr7 : Fr [wy] (upd H2 wy (.ins (He.ga K "Ways") dxw [(("engine" : Str), .ref en)])) [wy] (upd (upd (upd H4 wy (.ins (He.ga K "Ways") dxw [(("engine" : Str), .ref en), (("entries" : Str), .ref es), (("rows" : Str), .ref s)])) aK (nO P w aK [])) wy (.ins (He.ga K "Ways") dxw [(("engine" : Str), .ref en), (("entries" : Str), .ref es), (("rows" : Str), .ref s), (("kept" : Str), .ref aK)])) := by
    have h1 := (Fr.of (M := [wy]) s4).upd (o := .ins (He.ga K "Ways") dxw [(("engine" : Str), .ref en), (("entries" : Str), .ref es), (("rows" : Str), .ref s)]) mem1
    have h2 := h1.trans (Fr.of (M := [wy]) (same_new haK (nO P w aK [])))
    exact h2.upd mem1
  have nt3 : NTp [wy] (upd H2 wy (.ins (He.ga K "Ways") dxw [(("engine" : Str), .ref en)])) := fun m hm => by
    obtain rfl := List.mem_singleton.mp hm
    rw [upd_same]; exact id
  have eswy : es ≠ wy := ne_of hes2 (s4 _ _ upd_same) (fun z => nomatch z)
  have esaK : es ≠ aK := ne_of_none ((upd_ne eswy).trans hes2) haK
  have t47 : TpS H4 (upd (upd (upd H4 wy (.ins (He.ga K "Ways") dxw [(("engine" : Str), .ref en), (("entries" : Str), .ref es), (("rows" : Str), .ref s)])) aK (nO P w aK [])) wy (.ins (He.ga K "Ways") dxw [(("engine" : Str), .ref en), (("entries" : Str), .ref es), (("rows" : Str), .ref s), (("kept" : Str), .ref aK)])) := by
    have h1 : TpS H4 (upd H4 wy (.ins (He.ga K "Ways") dxw [(("engine" : Str), .ref en), (("entries" : Str), .ref es), (("rows" : Str), .ref s)])) := (TpS.refl _).upd (by rw [s4 _ _ upd_same]; exact id)
    exact (h1.new haK).upd (by rw [(upd_ne wyaK).trans upd_same]; exact id)
  have aKn : H aK = none := by
    have h1 : H4 aK = none := by rw [upd_ne wyaK.symm] at haK; exact haK
    have h2 := s4.free h1
    rw [upd_ne wyaK.symm] at h2
    exact s2.free h2
  refine q en es aK ln pn vse _ (fun a u ha hu => ?_) upd_same ((eng3.to fr7.same).to fz_same) ((upd_ne eswy).trans ((upd_ne esaK).trans ((upd_ne eswy).trans hes2))) (Paired.imp' (fun _ _ z => z.ts t47) hpe) ((upd_ne wyaK.symm).trans upd_same) aKn
  exact fr7.k a u (nmem1 ha) ((upd_ne ha).trans (s2 _ _ hu))
end
end Nc

-- S10
set_option maxHeartbeats 4000000
namespace Nc
open PySem L2 C8
section
variable {P : Program} {w : World} {K : PySem.W.Frag} {mg : Str → Option Value} {base : Heap}
/-! ### Search -/
abbrev N_Search_init : List Str := ["self", "house", "state", "begin"]
theorem sc_Search_init : FnScope N_Search_init ["self", "house", "state"] (defScope s_Search_init) := ⟨rfl, rfl, rfl, by decide +kernel, rfl, by decide +kernel, by decide +kernel⟩
def spSearch (P : Program) (w : World) (K : PySem.W.Frag) : Sp := fun vs H Q _ => ∃ (s dxs eh : Addr) (h : HH), vs = [.ref s, .ref eh, .non] ∧ H s = some (.ins (He.ga K "Search") dxs []) ∧ HouseAt K H eh h ∧ h.fit ∧
  ∀ W C H', W.s = s → W.h = h → SW P w K W C H' → StV h H' W.st h.g0 → h.g0 ∈ C.RK → (∀ t, t ∈ C.RM h.g0 ↔ Row h h.g0 t) → SameX s H H' → Q .non H'
theorem pS2 {x y z : V} : putF ("start" : Str) z [(("ways" : Str), x), (("start" : Str), y)] = [(("ways" : Str), x), (("start" : Str), z)] := by kernel_rfl
theorem lS2 {x y : V} : ([(("ways" : Str), x), (("start" : Str), y)] : List (Str × V)).lookup ("start" : Str) = some y := by kernel_rfl
theorem lS3 {x y z : V} : ([(("ways" : Str), x), (("start" : Str), y), (("ends" : Str), z)] : List (Str × V)).lookup ("start" : Str) = some y := by kernel_rfl
theorem lS4 {x y z u : V} : ([(("ways" : Str), x), (("start" : Str), y), (("ends" : Str), z), (("rows" : Str), u)] : List (Str × V)).lookup ("start" : Str) = some y := by kernel_rfl
def ClosedC (C : Ct) : Prop := ∀ A ∈ C.AK, ∀ t ∈ C.RM A, ∀ e ∈ C.EM t, e ∈ C.RM A
/-- between two rounds -/
structure WRd (P : Program) (w : World) (K : PySem.W.Frag) (W : Wd) (M0 : List Addr) (H0 : Hp) (C : Ct) (H : Hp) : Prop where
  x : SW P w K W C H
  inv : CtInv W.h C
  kk : C.KK = []
  cl : ClosedC C
  g0 : W.h.g0 ∈ C.AK
  fr : Fr M0 H0 (W.M C) H
  st : StV W.h H W.st W.h.g0
/-- within the rows' renewal -/
structure WRn (P : Program) (w : World) (K : PySem.W.Frag) (W : Wd) (C : Ct) (H0 : Hp) (i : Nat) (C1 : Ct) (H : Hp) : Prop where
  x : SW P w K W C1 H
  inv : CtInv W.h C1
  fr : Fr (W.M C) H0 (W.M C1) H
  e : C1.EK = C.EK
  m : C1.EM = C.EM
  a : C1.AK = C.AK
  cl : ∀ A ∈ C.AK.take i, ∀ t ∈ C1.RM A, ∀ e ∈ C.EM t, e ∈ C1.RM A
/-- the world at the beginning -/
theorem start_SW {H2 H8 : Hp} {s wy en es aE aR aA aK p r va dxs dxw : Addr} {h : HH} {ln pn vse : List V} (fit : h.fit)
    (r8 : Reg H8 [(aA, nO P w aA [(kS h h.g0, va, .bl true)]), (r, .lst [.ref va]), (aR, nO P w aR [(kS h h.g0, va, .ref r)]), (p, .lst []), (aE, nO P w aE [(kS h h.g0, va, .ref p)]), (s, .ins (He.ga K "Search") dxs (fSearch (.ref wy) (.ref va) (.ref aE) (.ref aR) (.ref aA)))])
    (k : Kp [s] H2 H8) (nA : H2 aA = none) (nr : H2 r = none) (nR : H2 aR = none) (np : H2 p = none) (nE : H2 aE = none)
    (hwy : H2 wy = some (.ins (He.ga K "Ways") dxw (fWays (.ref en) (.ref es) (.ref s) (.ref aK)))) (haK : H2 aK = some (nO P w aK [])) (hs : H2 s = some (.ins (He.ga K "Search") dxs [])) (swy : s ≠ wy) (saK : s ≠ aK)
    (eng : EngAt K H2 en h ln pn) (hes : H2 es = some (.lst vse)) (hpe : Paired (EntAt H2) vse h.ents) (hst : StV h H8 (.ref va) h.g0) :
    ∃ (W : Wd) (C : Ct), W.s = s ∧ W.dxs = dxs ∧ W.h = h ∧ W.st = .ref va ∧ W.wy = wy ∧ WRd P w K W [wy, aK, s] H2 C H8 := by
  have ge : HH.g0 h ∈ [h.g0] := List.mem_singleton.mpr rfl
  have good := HH.g0_good fit
  let W : Wd := ⟨s, wy, en, es, aE, aR, aA, dxs, dxw, h, ln, pn, .ref va⟩
  let C : Ct := ⟨aK, [h.g0], fun _ => p, fun _ => [], [h.g0], [h.g0], fun _ => r, fun _ => [h.g0], [], fun _ => 0, fun _ => 0, fun _ => [], fun _ => 0⟩
  have eM : W.M C = [wy, aE, aR, aA, aK, p] := rfl
  have wyx : ∀ {x}, H2 x = none → wy ≠ x := fun hx => ne_of_none hwy hx
  have aKx : ∀ {x}, H2 x = none → aK ≠ x := fun hx => ne_of_none haK hx
  have wyaK : wy ≠ aK := ne_of hwy haK (fun z => nomatch z)
  have fr : Fr [wy, aK, s] H2 (W.M C) H8 := by
    refine ⟨k.mono (by simp), fun a ha => ?_⟩
    rw [eM] at ha
    simp only [List.mem_cons, List.not_mem_nil, or_false] at ha
    rcases ha with rfl | rfl | rfl | rfl | rfl | rfl
    · exact .inl (by simp)
    · exact .inr nE
    · exact .inr nR
    · exact .inr nA
    · exact .inl (by simp)
    · exact .inr np
  have hwy8 := k _ _ (nmem1 swy.symm) hwy
  have haK8 := k _ _ (nmem1 saK.symm) haK
  have eng0 : EngAt K (fz [wy, aK, s] H2) en h ln pn := EngAt.apart (P := P) (w := w) eng fun m hm => by
    simp only [List.mem_cons, List.not_mem_nil, or_false] at hm
    rcases hm with rfl | rfl | rfl
    · exact .inr ⟨_, _, _, hwy, rfl, rfl⟩
    · exact .inl ⟨_, haK⟩
    · exact .inr ⟨_, _, _, hs, rfl, rfl⟩
  have nt0 : NTp [wy, aK, s] H2 := fun m hm => by
    simp only [List.mem_cons, List.not_mem_nil, or_false] at hm
    rcases hm with rfl | rfl | rfl
    · rw [hwy]; exact id
    · rw [haK]; exact id
    · rw [hs]; exact id
  have esM : es ∉ [wy, aK, s] := fun z => by
    simp only [List.mem_cons, List.not_mem_nil, or_false] at z
    rcases z with rfl | rfl | rfl
    · rw [hes] at hwy; cases hwy
    · rw [hes] at haK; cases haK
    · rw [hes] at hs; cases hs
  have sM : s ∉ W.M C := fun z => by
    rw [eM] at z
    simp only [List.mem_cons, List.not_mem_nil, or_false] at z
    rcases z with rfl | rfl | rfl | rfl | rfl | rfl
    · exact swy rfl
    · exact ne_of_none hs nE rfl
    · exact ne_of_none hs nR rfl
    · exact ne_of_none hs nA rfl
    · exact saK rfl
    · exact ne_of_none hs np rfl
  have rM : r ∉ W.M C := fun z => by
    rw [eM] at z
    simp only [List.mem_cons, List.not_mem_nil, or_false] at z
    rcases z with rfl | rfl | rfl | rfl | rfl | rfl
    · exact wyx nr rfl
    · exact r8.ne 1 4 rfl rfl (by decide) rfl
    · exact r8.ne 1 2 rfl rfl (by decide) rfl
    · exact r8.ne 1 0 rfl rfl (by decide) rfl
    · exact aKx nr rfl
    · exact r8.ne 1 3 rfl rfl (by decide) rfl
  have nd1 : ∀ {a : Addr} {v : V}, H8 a = some (nO P w a [(kS h h.g0, va, v)]) → NDG P w (kS h) H8 a [h.g0] (fun _ => v) := fun {a v} e => ⟨[(kS h h.g0, va, v)], ⟨e, fun q hq => by
    obtain rfl := List.mem_singleton.mp hq
    exact ⟨hst.key, dS8 _ _⟩⟩, rfl, fun g hg => by
    obtain rfl := List.mem_singleton.mp hg
    show (([(kS h h.g0, va, v)] : List KAV).find? fun p => decide (p.1 = kS h h.g0)).map _ = _
    simp⟩
  have sw : SW P w K W C H8 := by
    refine ⟨fz_get sM (r8.get 5 rfl), hwy8, eng0.to fr.same, ⟨vse, fr.same _ _ (fz_get esM hes), Paired.imp' (fun _ _ z => z.ts ((fz_ts nt0).trans (TpS.of fr.same))) hpe⟩, nd1 (r8.get 4 rfl), nd1 (r8.get 2 rfl), nd1 (r8.get 0 rfl), ⟨[], ⟨haK8, fun _ z => (List.not_mem_nil z).elim⟩, rfl, fun _ z => (List.not_mem_nil z).elim⟩, fun g hg => ⟨[], r8.get 3 rfl, .nil⟩, fun g hg => ⟨[.ref va], fz_get rM (r8.get 1 rfl), .cons hst .nil⟩, fun q hq => (List.not_mem_nil hq).elim, ?_, fun g hg => ?_, ?_, fun g hg => ?_, ?_, fun g hg => ?_, fun g hg => ⟨List.nodup_nil, fun _ z => (List.not_mem_nil z).elim⟩, fun g hg => ⟨?_, fun e he => ?_⟩, fun q hq => (List.not_mem_nil hq).elim, fit⟩
    · rw [eM]
      simp only [List.nodup_cons, List.mem_cons, List.not_mem_nil, or_false, not_or, List.nodup_nil, not_false_eq_true, and_true]
      exact ⟨⟨wyx nE, wyx nR, wyx nA, wyaK, wyx np⟩, ⟨r8.ne 4 2 rfl rfl (by decide), r8.ne 4 0 rfl rfl (by decide), (aKx nE).symm, r8.ne 4 3 rfl rfl (by decide)⟩, ⟨r8.ne 2 0 rfl rfl (by decide), (aKx nR).symm, r8.ne 2 3 rfl rfl (by decide)⟩, ⟨(aKx nA).symm, r8.ne 0 3 rfl rfl (by decide)⟩, aKx np⟩
    · rw [List.mem_singleton.mp hg]; exact good
    · show ([h.g0] : List GG).Nodup
      simp
    · rw [List.mem_singleton.mp hg]; exact good
    · show ([h.g0] : List GG).Nodup
      simp
    · rw [List.mem_singleton.mp hg]; exact good
    · show ([h.g0] : List GG).Nodup
      simp
    · rw [List.mem_singleton.mp he]; exact good
  refine ⟨W, C, rfl, rfl, rfl, rfl, rfl, sw, ⟨rfl, fun g hg => hg, fun g hg e he => (List.not_mem_nil he).elim, fun g hg t ht => ht, fun g hg => hg, fun g hg e he => (List.not_mem_nil he).elim, fun g hg t ht => ?_⟩, rfl, fun A hA t ht e he => (List.not_mem_nil he).elim, ge, fr, hst⟩
  rw [List.mem_singleton.mp hg, List.mem_singleton.mp ht]
  exact .refl _
theorem ok_Search_init (T : Tx K mg) : Mak P w K mg base 13 "Search" (He.ga K "Search") (spSearch P w K) [.non] := by
  have c_Ways : Mak P w K mg base 5 "Ways" (He.ga K "Ways") (spWays P w K) [] := ok_Ways_init T
  have c_first_state : Cal P w K mg base 1 "first_state" (spFirst K) [] := ok_first_state T
  have m_Search_grow : Met P w K mg base 12 (He.ga K "Search") "grow" (spGrow P w K) [] := ok_grow T
  have m_Search_closed : Met P w K mg base 1 (He.ga K "Search") "closed" (spClosed P w K) [] := ok_closed T
  have m_Ways_forget : Met P w K mg base 1 (He.ga K "Ways") "forget" (spForget P w K) [] := ok_forget T
  refine mak_of1 T 27 rfl T.g_Search T.mk_Search sc_Search_init 2 rfl b_Search (fun vs H Q E h => ?_) (fun cdv A outer sh H vs Q E hr h => ?_)
  · obtain ⟨_, _, _, _, rfl, _⟩ := h
    rfl
  obtain ⟨s, dxs, eh, h, rfl, hs, hh, fit, q⟩ := h
  have hu9 := hu9_of hr
  refine ⟨_, (pss_cons (ps_fld (pv 0) (pe_mk c_Ways hr (by decide) rfl (pa_cons (pv 1) (pa_cons (pv 0) pa_nil))) rfl)
    (pss_cons (ps_fld (pv 0) (pv 2) rfl)
    (pss_cons (ps_if (pt_cmpR op_isN (pv 2) pe_non (nomark _))
    (pss_one (ps_fld (pv 0) (pe_c c_first_state hr (by decide) rfl (pa_cons (pv 1) pa_nil)) rfl))
    pss_nil)
    (pss_cons (ps_fld (pv 0) (pe_ndisp hu9 (pe_fld (pv 0) rfl) (pe_lst pa_nil)) rfl)
    (pss_cons (ps_fld (pv 0) (pe_ndisp hu9 (pe_fld (pv 0) rfl) (pe_lst (pa_cons (pe_fld (pv 0) rfl) pa_nil))) rfl)
    (pss_cons (ps_fld (pv 0) (pe_ndisp hu9 (pe_fld (pv 0) rfl) pe_bl) rfl)
    (pss_one (ps_while PassesOwn.never (pt_val (pe_mt0 m_Search_grow hr (by decide) (pv 0)))
    (pss_cons (ps_for PassesOwn.never rfl (pi_list (pe_callTy (call_listN rfl) (by rfl) T.f_list (by decide +kernel) (pa_cons (pe_fld (pv 0) rfl) pa_nil))) (pg_name (i := 3) sc_Search_init.nd rfl (Or.inl rfl))
    (pss_one (ps_nput hu9 (pe_fld (pv 0) rfl) (pv 3) (pe_mt m_Search_closed hr (by decide) (pv 0) (pa_cons (pv 3) pa_nil)) rfl)))
    (pss_one (ps_expr (pe_mt0 m_Ways_forget hr (by decide) (pe_fld (pv 0) rfl))))))))))))), ?_⟩
  -- ways
  refine ⟨_, rfl, _, rfl, fun wy dxw hwy hdxw hne => ?_⟩
  have s1 : Same H (upd (upd H dxw (.own wy)) wy (.ins (He.ga K "Ways") dxw [])) := same_mut (same_new hdxw _) hwy
  refine ⟨wy, dxw, eh, s, h, rfl, upd_same, hh.to s1, fit, fun en es aK ln pn vse H2 sx2 hwy2 eng hes hpe haK haKn => ⟨rfl, ?_⟩⟩
  have s2 : Same H H2 := fun a u hu => sx2 a u (ne_of_none hu hwy) (s1 _ _ hu)
  have aKn : H aK = none := s1.free haKn
  have aKwy : aK ≠ wy := ne_of haK hwy2 (fun z => nomatch z)
  have swy : s ≠ wy := ne_of_none hs hwy
  have saK : s ≠ aK := ne_of_none hs aKn
  refine ⟨_, rfl, s, _, _, _, rfl, s2 _ _ hs, T.cl_Search, T.na_Search_ways, len0, ?_⟩
  rw [gSearch_ways]
  refine ⟨_, rfl, _, rfl, s, _, _, _, rfl, upd_same, T.cl_Search, T.na_Search_start, (show 1 < 1000 by decide), ?_⟩
  rw [gSearch_start, upd_upd]
  refine ⟨_, rfl, rfl, _, rfl, ifY rfl ?_⟩
  have k3 : Kp [s] H2 (upd H2 s (.ins (He.ga K "Search") dxs [(("ways" : Str), .ref wy), (("start" : Str), .non)])) := Kp.refl.upd mem1
  have g3 : (upd H2 s (.ins (He.ga K "Search") dxs [(("ways" : Str), .ref wy), (("start" : Str), .non)])) s = some (.ins (He.ga K "Search") dxs [(("ways" : Str), .ref wy), (("start" : Str), .non)]) := upd_same
  generalize upd H2 s (.ins (He.ga K "Search") dxs [(("ways" : Str), .ref wy), (("start" : Str), .non)]) = H3 at k3 g3 ⊢
  have nts : ∀ z ∈ [s], ¬ IsTp (H2 z) := fun z hz => by
    obtain rfl := List.mem_singleton.mp hz
    rw [s2 _ _ hs]; exact id
  have hh3 : HouseAt K H3 eh h := by
    obtain ⟨hdx, va, vc, y1, y2, y3⟩ := hh.to s2
    have ehs : eh ≠ s := ne_of y1 (s2 _ _ hs) (fun z => by
      have h1 := congrArg (fun o => match o with | HO.ins _ _ fs => fs.length | _ => 0) z
      exact absurd h1 (show ¬ (2 = 0) by decide))
    exact ⟨hdx, va, vc, k3 _ _ (nmem1 ehs) y1, Rp.ts (k3.ts nts) _ _ y2, Rp.ts (k3.ts nts) _ _ y3⟩
  refine ⟨_, rfl, eh, h, rfl, hh3, fun v H4 s4 hst => ⟨_, rfl, s, _, _, _, rfl, s4 _ _ g3, T.cl_Search, T.na_Search_start, (show 2 < 1000 by decide), ?_⟩⟩
  rw [pS2]
  obtain ⟨va, rfl⟩ : ∃ a, v = .ref a := Rp.dS_ref hst
  have k5 : Kp [s] H2 (upd H4 s (.ins (He.ga K "Search") dxs [(("ways" : Str), .ref wy), (("start" : Str), .ref va)])) := (k3.same s4).upd mem1
  have r5 : Reg (upd H4 s (.ins (He.ga K "Search") dxs [(("ways" : Str), .ref wy), (("start" : Str), .ref va)])) [(s, .ins (He.ga K "Search") dxs [(("ways" : Str), .ref wy), (("start" : Str), .ref va)])] := ⟨fun p hp => by obtain rfl := List.mem_singleton.mp hp; exact upd_same, by simp⟩
  have hst5 : StV h (upd H4 s (.ins (He.ga K "Search") dxs [(("ways" : Str), .ref wy), (("start" : Str), .ref va)])) (.ref va) h.g0 := Rp.ts ((TpS.refl _).upd (by rw [s4 _ _ g3]; exact id)) _ _ hst
  generalize upd H4 s (.ins (He.ga K "Search") dxs [(("ways" : Str), .ref wy), (("start" : Str), .ref va)]) = H5 at k5 r5 hst5 ⊢
  -- ends
  refine fun aE naE => ?_
  have rE := r5.add naE (nO P w aE [])
  refine ⟨_, rfl, s, _, dxs, _, _, rfl, rE.get 1 rfl, T.cl_Search, T.na_Search_start, lS2, by show 0 ≤ sizeLine; decide, fun p np => ?_⟩
  have rP := rE.add np (.lst [])
  have tP : TpS H5 (upd (upd H5 aE (nO P w aE [])) p (.lst [])) := ((TpS.refl _).new naE).new np
  refine ⟨va, kS h h.g0, rfl, rP.get 1 rfl, (hst5.ts tP).key, dS8 _ _, ?_⟩
  have rE2 : Reg (upd (upd (upd H5 aE (nO P w aE [])) p (.lst [])) aE (nO P w aE [(kS h h.g0, va, .ref p)])) [(p, .lst []), (aE, nO P w aE [(kS h h.g0, va, .ref p)]), (s, .ins (He.ga K "Search") dxs [(("ways" : Str), .ref wy), (("start" : Str), .ref va)])] := rP.upd 1 rfl _
  refine ⟨_, rfl, s, _, _, _, rfl, rE2.get 2 rfl, T.cl_Search, T.na_Search_ends, (show 2 < 1000 by decide), ?_⟩
  rw [gSearch_ends]
  have r6 : Reg (upd (upd (upd (upd H5 aE (nO P w aE [])) p (.lst [])) aE (nO P w aE [(kS h h.g0, va, .ref p)])) s (.ins (He.ga K "Search") dxs [(("ways" : Str), .ref wy), (("start" : Str), .ref va), (("ends" : Str), .ref aE)])) [(p, .lst []), (aE, nO P w aE [(kS h h.g0, va, .ref p)]), (s, .ins (He.ga K "Search") dxs [(("ways" : Str), .ref wy), (("start" : Str), .ref va), (("ends" : Str), .ref aE)])] := rE2.upd 2 rfl _
  have k6 : Kp [aE, s] H5 (upd (upd (upd (upd H5 aE (nO P w aE [])) p (.lst [])) aE (nO P w aE [(kS h h.g0, va, .ref p)])) s (.ins (He.ga K "Search") dxs [(("ways" : Str), .ref wy), (("start" : Str), .ref va), (("ends" : Str), .ref aE)])) := (((Kp.refl.new naE _).new np _).upd (by simp)).upd (by simp)
  have t6 : TpS H5 (upd (upd (upd (upd H5 aE (nO P w aE [])) p (.lst [])) aE (nO P w aE [(kS h h.g0, va, .ref p)])) s (.ins (He.ga K "Search") dxs [(("ways" : Str), .ref wy), (("start" : Str), .ref va), (("ends" : Str), .ref aE)])) := (tP.upd (by rw [rP.get 1 rfl]; exact id)).upd (by rw [rE2.get 2 rfl]; exact id)
  have k6' := k6.drop naE
  have np5 : H5 p = none := (same_new naE _).free np
  have hst6 := hst5.ts t6
  -- rows
  refine fun aR naR => ?_
  have rR := r6.add naR (nO P w aR [])
  refine ⟨_, rfl, s, _, dxs, _, _, rfl, rR.get 3 rfl, T.cl_Search, T.na_Search_start, lS3, _, rfl, s, _, dxs, _, _, rfl, rR.get 3 rfl, T.cl_Search, T.na_Search_start, lS3, by show 1 ≤ sizeLine; decide, fun r nr => ?_⟩
  have rL := rR.add nr (.lst [.ref va])
  have tL : TpS (upd (upd (upd (upd H5 aE (nO P w aE [])) p (.lst [])) aE (nO P w aE [(kS h h.g0, va, .ref p)])) s (.ins (He.ga K "Search") dxs [(("ways" : Str), .ref wy), (("start" : Str), .ref va), (("ends" : Str), .ref aE)])) (upd (upd (upd (upd (upd (upd H5 aE (nO P w aE [])) p (.lst [])) aE (nO P w aE [(kS h h.g0, va, .ref p)])) s (.ins (He.ga K "Search") dxs [(("ways" : Str), .ref wy), (("start" : Str), .ref va), (("ends" : Str), .ref aE)])) aR (nO P w aR [])) r (.lst [.ref va])) := ((TpS.refl _).new naR).new nr
  refine ⟨va, kS h h.g0, rfl, rL.get 1 rfl, (hst6.ts tL).key, dS8 _ _, ?_⟩
  have rL2 : Reg (upd (upd (upd (upd (upd (upd (upd H5 aE (nO P w aE [])) p (.lst [])) aE (nO P w aE [(kS h h.g0, va, .ref p)])) s (.ins (He.ga K "Search") dxs [(("ways" : Str), .ref wy), (("start" : Str), .ref va), (("ends" : Str), .ref aE)])) aR (nO P w aR [])) r (.lst [.ref va])) aR (nO P w aR [(kS h h.g0, va, .ref r)])) [(r, .lst [.ref va]), (aR, nO P w aR [(kS h h.g0, va, .ref r)]), (p, .lst []), (aE, nO P w aE [(kS h h.g0, va, .ref p)]), (s, .ins (He.ga K "Search") dxs [(("ways" : Str), .ref wy), (("start" : Str), .ref va), (("ends" : Str), .ref aE)])] := rL.upd 1 rfl _
  refine ⟨_, rfl, s, _, _, _, rfl, rL2.get 4 rfl, T.cl_Search, T.na_Search_rows, (show 3 < 1000 by decide), ?_⟩
  rw [gSearch_rows]
  have r7 : Reg (upd (upd (upd (upd (upd (upd (upd (upd H5 aE (nO P w aE [])) p (.lst [])) aE (nO P w aE [(kS h h.g0, va, .ref p)])) s (.ins (He.ga K "Search") dxs [(("ways" : Str), .ref wy), (("start" : Str), .ref va), (("ends" : Str), .ref aE)])) aR (nO P w aR [])) r (.lst [.ref va])) aR (nO P w aR [(kS h h.g0, va, .ref r)])) s (.ins (He.ga K "Search") dxs [(("ways" : Str), .ref wy), (("start" : Str), .ref va), (("ends" : Str), .ref aE), (("rows" : Str), .ref aR)])) [(r, .lst [.ref va]), (aR, nO P w aR [(kS h h.g0, va, .ref r)]), (p, .lst []), (aE, nO P w aE [(kS h h.g0, va, .ref p)]), (s, .ins (He.ga K "Search") dxs [(("ways" : Str), .ref wy), (("start" : Str), .ref va), (("ends" : Str), .ref aE), (("rows" : Str), .ref aR)])] := rL2.upd 4 rfl _
  have k7 : Kp [aR, s] (upd (upd (upd (upd H5 aE (nO P w aE [])) p (.lst [])) aE (nO P w aE [(kS h h.g0, va, .ref p)])) s (.ins (He.ga K "Search") dxs [(("ways" : Str), .ref wy), (("start" : Str), .ref va), (("ends" : Str), .ref aE)])) (upd (upd (upd (upd (upd (upd (upd (upd H5 aE (nO P w aE [])) p (.lst [])) aE (nO P w aE [(kS h h.g0, va, .ref p)])) s (.ins (He.ga K "Search") dxs [(("ways" : Str), .ref wy), (("start" : Str), .ref va), (("ends" : Str), .ref aE)])) aR (nO P w aR [])) r (.lst [.ref va])) aR (nO P w aR [(kS h h.g0, va, .ref r)])) s (.ins (He.ga K "Search") dxs [(("ways" : Str), .ref wy), (("start" : Str), .ref va), (("ends" : Str), .ref aE), (("rows" : Str), .ref aR)])) := (((Kp.refl.new naR _).new nr _).upd (by simp)).upd (by simp)
  have t7 : TpS (upd (upd (upd (upd H5 aE (nO P w aE [])) p (.lst [])) aE (nO P w aE [(kS h h.g0, va, .ref p)])) s (.ins (He.ga K "Search") dxs [(("ways" : Str), .ref wy), (("start" : Str), .ref va), (("ends" : Str), .ref aE)])) (upd (upd (upd (upd (upd (upd (upd (upd H5 aE (nO P w aE [])) p (.lst [])) aE (nO P w aE [(kS h h.g0, va, .ref p)])) s (.ins (He.ga K "Search") dxs [(("ways" : Str), .ref wy), (("start" : Str), .ref va), (("ends" : Str), .ref aE)])) aR (nO P w aR [])) r (.lst [.ref va])) aR (nO P w aR [(kS h h.g0, va, .ref r)])) s (.ins (He.ga K "Search") dxs [(("ways" : Str), .ref wy), (("start" : Str), .ref va), (("ends" : Str), .ref aE), (("rows" : Str), .ref aR)])) := (tL.upd (by rw [rL.get 1 rfl]; exact id)).upd (by rw [rL2.get 4 rfl]; exact id)
  have k7' := k7.drop naR
  have nr6 : (upd (upd (upd (upd H5 aE (nO P w aE [])) p (.lst [])) aE (nO P w aE [(kS h h.g0, va, .ref p)])) s (.ins (He.ga K "Search") dxs [(("ways" : Str), .ref wy), (("start" : Str), .ref va), (("ends" : Str), .ref aE)])) r = none := (same_new naR _).free nr
  have hst7 := hst6.ts t7
  -- asked
  refine fun aA naA => ?_
  have rA := r7.add naA (nO P w aA [])
  refine ⟨_, rfl, s, _, dxs, _, _, rfl, rA.get 5 rfl, T.cl_Search, T.na_Search_start, lS4, ?_⟩
  have tA : TpS (upd (upd (upd (upd (upd (upd (upd (upd H5 aE (nO P w aE [])) p (.lst [])) aE (nO P w aE [(kS h h.g0, va, .ref p)])) s (.ins (He.ga K "Search") dxs [(("ways" : Str), .ref wy), (("start" : Str), .ref va), (("ends" : Str), .ref aE)])) aR (nO P w aR [])) r (.lst [.ref va])) aR (nO P w aR [(kS h h.g0, va, .ref r)])) s (.ins (He.ga K "Search") dxs [(("ways" : Str), .ref wy), (("start" : Str), .ref va), (("ends" : Str), .ref aE), (("rows" : Str), .ref aR)])) (upd (upd (upd (upd (upd (upd (upd (upd (upd H5 aE (nO P w aE [])) p (.lst [])) aE (nO P w aE [(kS h h.g0, va, .ref p)])) s (.ins (He.ga K "Search") dxs [(("ways" : Str), .ref wy), (("start" : Str), .ref va), (("ends" : Str), .ref aE)])) aR (nO P w aR [])) r (.lst [.ref va])) aR (nO P w aR [(kS h h.g0, va, .ref r)])) s (.ins (He.ga K "Search") dxs [(("ways" : Str), .ref wy), (("start" : Str), .ref va), (("ends" : Str), .ref aE), (("rows" : Str), .ref aR)])) aA (nO P w aA [])) := (TpS.refl _).new naA
  refine ⟨va, kS h h.g0, rfl, rA.get 0 rfl, (hst7.ts tA).key, dS8 _ _, ?_⟩
  have rA2 : Reg (upd (upd (upd (upd (upd (upd (upd (upd (upd (upd H5 aE (nO P w aE [])) p (.lst [])) aE (nO P w aE [(kS h h.g0, va, .ref p)])) s (.ins (He.ga K "Search") dxs [(("ways" : Str), .ref wy), (("start" : Str), .ref va), (("ends" : Str), .ref aE)])) aR (nO P w aR [])) r (.lst [.ref va])) aR (nO P w aR [(kS h h.g0, va, .ref r)])) s (.ins (He.ga K "Search") dxs [(("ways" : Str), .ref wy), (("start" : Str), .ref va), (("ends" : Str), .ref aE), (("rows" : Str), .ref aR)])) aA (nO P w aA [])) aA (nO P w aA [(kS h h.g0, va, .bl true)])) [(aA, nO P w aA [(kS h h.g0, va, .bl true)]), (r, .lst [.ref va]), (aR, nO P w aR [(kS h h.g0, va, .ref r)]), (p, .lst []), (aE, nO P w aE [(kS h h.g0, va, .ref p)]), (s, .ins (He.ga K "Search") dxs [(("ways" : Str), .ref wy), (("start" : Str), .ref va), (("ends" : Str), .ref aE), (("rows" : Str), .ref aR)])] := rA.upd 0 rfl _
  refine ⟨_, rfl, s, _, _, _, rfl, rA2.get 5 rfl, T.cl_Search, T.na_Search_asked, (show 4 < 1000 by decide), ?_⟩
  rw [gSearch_asked]
  have r8 : Reg (upd (upd (upd (upd (upd (upd (upd (upd (upd (upd (upd H5 aE (nO P w aE [])) p (.lst [])) aE (nO P w aE [(kS h h.g0, va, .ref p)])) s (.ins (He.ga K "Search") dxs [(("ways" : Str), .ref wy), (("start" : Str), .ref va), (("ends" : Str), .ref aE)])) aR (nO P w aR [])) r (.lst [.ref va])) aR (nO P w aR [(kS h h.g0, va, .ref r)])) s (.ins (He.ga K "Search") dxs [(("ways" : Str), .ref wy), (("start" : Str), .ref va), (("ends" : Str), .ref aE), (("rows" : Str), .ref aR)])) aA (nO P w aA [])) aA (nO P w aA [(kS h h.g0, va, .bl true)])) s (.ins (He.ga K "Search") dxs (fSearch (.ref wy) (.ref va) (.ref aE) (.ref aR) (.ref aA)))) [(aA, nO P w aA [(kS h h.g0, va, .bl true)]), (r, .lst [.ref va]), (aR, nO P w aR [(kS h h.g0, va, .ref r)]), (p, .lst []), (aE, nO P w aE [(kS h h.g0, va, .ref p)]), (s, .ins (He.ga K "Search") dxs (fSearch (.ref wy) (.ref va) (.ref aE) (.ref aR) (.ref aA)))] := rA2.upd 5 rfl _
  have k8 : Kp [aA, s] (upd (upd (upd (upd (upd (upd (upd (upd H5 aE (nO P w aE [])) p (.lst [])) aE (nO P w aE [(kS h h.g0, va, .ref p)])) s (.ins (He.ga K "Search") dxs [(("ways" : Str), .ref wy), (("start" : Str), .ref va), (("ends" : Str), .ref aE)])) aR (nO P w aR [])) r (.lst [.ref va])) aR (nO P w aR [(kS h h.g0, va, .ref r)])) s (.ins (He.ga K "Search") dxs [(("ways" : Str), .ref wy), (("start" : Str), .ref va), (("ends" : Str), .ref aE), (("rows" : Str), .ref aR)])) (upd (upd (upd (upd (upd (upd (upd (upd (upd (upd (upd H5 aE (nO P w aE [])) p (.lst [])) aE (nO P w aE [(kS h h.g0, va, .ref p)])) s (.ins (He.ga K "Search") dxs [(("ways" : Str), .ref wy), (("start" : Str), .ref va), (("ends" : Str), .ref aE)])) aR (nO P w aR [])) r (.lst [.ref va])) aR (nO P w aR [(kS h h.g0, va, .ref r)])) s (.ins (He.ga K "Search") dxs [(("ways" : Str), .ref wy), (("start" : Str), .ref va), (("ends" : Str), .ref aE), (("rows" : Str), .ref aR)])) aA (nO P w aA [])) aA (nO P w aA [(kS h h.g0, va, .bl true)])) s (.ins (He.ga K "Search") dxs (fSearch (.ref wy) (.ref va) (.ref aE) (.ref aR) (.ref aA)))) := ((Kp.refl.new naA _).upd (by simp)).upd (by simp)
  have t8 : TpS (upd (upd (upd (upd (upd (upd (upd (upd H5 aE (nO P w aE [])) p (.lst [])) aE (nO P w aE [(kS h h.g0, va, .ref p)])) s (.ins (He.ga K "Search") dxs [(("ways" : Str), .ref wy), (("start" : Str), .ref va), (("ends" : Str), .ref aE)])) aR (nO P w aR [])) r (.lst [.ref va])) aR (nO P w aR [(kS h h.g0, va, .ref r)])) s (.ins (He.ga K "Search") dxs [(("ways" : Str), .ref wy), (("start" : Str), .ref va), (("ends" : Str), .ref aE), (("rows" : Str), .ref aR)])) (upd (upd (upd (upd (upd (upd (upd (upd (upd (upd (upd H5 aE (nO P w aE [])) p (.lst [])) aE (nO P w aE [(kS h h.g0, va, .ref p)])) s (.ins (He.ga K "Search") dxs [(("ways" : Str), .ref wy), (("start" : Str), .ref va), (("ends" : Str), .ref aE)])) aR (nO P w aR [])) r (.lst [.ref va])) aR (nO P w aR [(kS h h.g0, va, .ref r)])) s (.ins (He.ga K "Search") dxs [(("ways" : Str), .ref wy), (("start" : Str), .ref va), (("ends" : Str), .ref aE), (("rows" : Str), .ref aR)])) aA (nO P w aA [])) aA (nO P w aA [(kS h h.g0, va, .bl true)])) s (.ins (He.ga K "Search") dxs (fSearch (.ref wy) (.ref va) (.ref aE) (.ref aR) (.ref aA)))) := (tA.upd (by rw [rA.get 0 rfl]; exact id)).upd (by rw [rA2.get 5 rfl]; exact id)
  have k8' := k8.drop naA
  have hst8 := hst7.ts t8
  have k28 := ((k5.trans k6').trans k7').trans k8'
  have nE2 : H2 aE = none := k5.free naE (nmem1 (ne_of_none (r5.get 0 rfl) naE).symm)
  have np2 : H2 p = none := k5.free np5 (nmem1 (ne_of_none (r5.get 0 rfl) np5).symm)
  have nR5 := k6'.free naR (nmem1 (ne_of_none (r6.get 2 rfl) naR).symm)
  have nR2 : H2 aR = none := k5.free nR5 (nmem1 (ne_of_none (r6.get 2 rfl) naR).symm)
  have nr5 := k6'.free nr6 (nmem1 (ne_of_none (r6.get 2 rfl) nr6).symm)
  have nr2 : H2 r = none := k5.free nr5 (nmem1 (ne_of_none (r6.get 2 rfl) nr6).symm)
  have sA := nmem1 (ne_of_none (r7.get 4 rfl) naA).symm
  have nA2 : H2 aA = none := k5.free (k6'.free (k7'.free naA sA) sA) sA
  obtain ⟨W, C0, eWs, eWd, eWh, eWst, eWy, w0⟩ := start_SW fit r8 k28 nA2 nr2 nR2 np2 nE2 hwy2 haK (s2 _ _ hs) swy saK eng hes hpe hst8
  subst eWs eWd eWh eWy
  refine ⟨fun m σ H' => ∃ C v3, m = 3000 - tot C ∧ σ = [some (.ref W.s), some (.ref eh), some .non, v3] ∧ WRd P w K W [W.wy, aK, W.s] H2 C H', ⟨_, C0, none, rfl, rfl, w0⟩, ?_⟩
  rintro m σ H1 ⟨C, v3, rfl, rfl, wr⟩
  refine ⟨_, rfl, W.s, W.dxs, _, rfl, wr.x.so', fSearch_no_grow, W, C, rfl, wr.x, wr.inv, wr.kk, fun rb C' H' x' inv' ext' fr' ht hf hcmp => ⟨rb, rfl, ?_⟩⟩
  cases rb with
  | false =>
    refine iteF ?_
    obtain ⟨eE, eA, eM⟩ := hf rfl
    have g0A : W.h.g0 ∈ C'.AK := ext'.aIn wr.g0
    refine q W C' H' rfl rfl x' ?_ (by rw [inv'.re]; exact g0A) (fun t => ⟨fun z => inv'.sr _ g0A t z, fun z => ?_⟩) (fun a u ha hu => ?_)
    · exact wr.st.ts (fr'.ts wr.x.ntp)
    · exact row_complete (AK := fun g => g ∈ C'.AK) (EK := fun g => g ∈ C'.EK) (RM := fun A S => S ∈ C'.RM A) (EM := fun g e => e ∈ C'.EM g) inv'.rb (fun A t hA ht => inv'.rr A hA t ht) (fun A t e hA ht he => by
        have hA' : A ∈ C.AK := by rw [← eA]; exact hA
        rw [ext'.r A hA'] at ht ⊢
        have htE := wr.inv.rr A hA' t ht
        rw [eM t htE] at he
        exact wr.cl A hA' t ht e he) (fun g p e hg hp hw => (hcmp g (by rw [← eE]; exact hg) p hp).1 e hw) (fun g b i l n rest hg hp hs => (hcmp g (by rw [← eE]; exact hg) (b, i) hp).2 l n rest hs) z g0A
    · have hu2 := s2 _ _ hu
      refine (wr.fr.trans fr').k a u (fun z => ?_) hu2
      simp only [List.mem_cons, List.not_mem_nil, or_false] at z
      rcases z with rfl | rfl | rfl
      · exact ne_of_none hu hwy rfl
      · exact ne_of_none hu aKn rfl
      · exact ha rfl
  | true =>
    refine iteT ?_
    have stC := wr.st.ts (fr'.ts wr.x.ntp)
    have g0A : W.h.g0 ∈ C'.AK := ext'.aIn wr.g0
    have tlt := ht rfl
    have tb := x'.tot
    obtain ⟨kA, a1, a2, a3⟩ := x'.dA.ex
    have hv0 := stv_of (NDG.keys (kf := kS W.h) a1 (fun _ h => h) a2)
    refine ⟨fun σ' H'' => ∃ m', m' < 3000 - tot C ∧ ∃ C v3, m' = 3000 - tot C ∧ σ' = [some (.ref W.s), some (.ref eh), some .non, v3] ∧ WRd P w K W [W.wy, aK, W.s] H2 C H'', fun σ' H'' z => z, ?_⟩
    refine ⟨_, rfl, W.s, _, W.dxs, _, _, rfl, x'.so', T.cl_Search, T.na_Search_asked, fSearch_asked, W.aA, kA, rfl, a1, fun lq nlq => ?_⟩
    have s3 := same_new nlq (.lst (kA.map fun k => V.ref k.2.1))
    have x3 := x'.to s3
    have lqM : lq ∉ W.M C' := x'.out nlq
    have hlq : fz (W.M C') (upd H' lq (.lst (kA.map fun k => V.ref k.2.1))) lq = some (.lst (kA.map fun k => V.ref k.2.1)) := fz_get lqM upd_same
    have hv1 := stvs_ts hv0 (TpS.of s3)
    have lv0 : (kA.map fun k => V.ref k.2.1).length = C'.AK.length := paired_len hv0
    refine ⟨lq, rfl, ⟨_, SqL.of upd_same⟩, for_list (xs := kA.map fun k => V.ref k.2.1) (fun i σ' H3 => ∃ v3 C1, σ' = [some (.ref W.s), some (.ref eh), some .non, v3] ∧ WRn P w K W C' (upd H' lq (.lst (kA.map fun k => V.ref k.2.1))) i C1 H3)
      ⟨v3, C', rfl, ⟨x3, inv', Fr.refl, rfl, rfl, rfl, fun A hA => by rw [List.take_zero] at hA; exact (List.not_mem_nil hA).elim⟩⟩ (fun i σ' H3 _ ⟨_, _, _, wn⟩ => SqL.of (fz_same _ _ (wn.fr.same _ _ hlq))) ?_ ?_⟩
    · -- one row anew
      rintro i v σ' H3 hi ⟨v3', C1, rfl, wn⟩
      obtain ⟨A, hA0, hstA⟩ := stvs_get hv1 hi
      have hAm : A ∈ C'.AK := List.mem_of_getElem? hA0
      have etake : C'.AK.take (i + 1) = C'.AK.take i ++ [A] := by rw [List.take_add_one, hA0]; rfl
      have stA : StV W.h H3 v A := hstA.ts (wn.fr.ts x3.ntp)
      obtain ⟨av, rfl⟩ := stA.ref
      have goA := x'.goA A hAm
      have hAE : A ∈ C1.EK := by rw [wn.e]; exact inv'.ae A hAm
      have ee1 : ∀ g ∈ C1.EK, ∀ e ∈ C1.EM g, e ∈ C1.EK := wn.inv.ee
      refine ⟨_, rfl, W.s, W.dxs, _, rfl, wn.x.so', fSearch_no_closed, _, rfl, W, C1, .ref av, A, rfl, wn.x, stA, hAE, ee1, fun r us L H4 s4 hrn hr hus clo => ?_⟩
      have x4 := wn.x.to s4
      have rM : r ∉ W.M C1 := wn.x.out hrn
      obtain ⟨kR, r1, r2, r3⟩ := x4.dR.ex
      have injR := kS_KInj (h := W.h) (ks := C1.RK) (g := A) x4.goR goA
      have stA4 : StV W.h H4 (.ref av) A := stA.ts (TpS.of s4)
      have lR : C1.RK.length ≤ 36 := by rw [wn.inv.re]; exact wn.x.ak
      refine ⟨_, rfl, W.s, _, W.dxs, _, _, rfl, x4.so', T.cl_Search, T.na_Search_rows, fSearch_rows, _, rfl, W.aR, av, kR, kS W.h A, rfl, rfl, r1, stA4.key, dS8 _ _, szl _ (by rw [NDG.lenE r2]; omega), ?_⟩
      have d5 := NDG.put1 r1 r2 r3 injR stA4.key (dS8 _ _) (v := .ref r)
      have goL : ∀ e ∈ L, Good W.h e := fun e he => wn.x.goE e (clo.sub e he)
      obtain ⟨x5, f5⟩ := x4.row goA (fz_get rM hr) hus clo.nd goL d5
      have hAR : A ∈ C1.RK := by rw [wn.inv.re, wn.a]; exact hAm
      have eRK : (C1.row A r L).RK = C1.RK := addk_old hAR
      have eRMA : (C1.row A r L).RM A = L := fset_same
      have eRMo : ∀ g, g ≠ A → (C1.row A r L).RM g = C1.RM g := fun g hg => fset_ne hg
      refine ⟨_, C1.row A r L, rfl, ⟨x5, ⟨by rw [eRK]; exact wn.inv.re, wn.inv.ae, wn.inv.ee, fun g hg t ht => ?_, fun g hg => ?_, wn.inv.se, fun g hg t ht => ?_⟩, wn.fr.trans ((Fr.of (M := W.M C1) s4).trans f5), wn.e, wn.m, wn.a, fun g hg t ht e he => ?_⟩⟩
      · by_cases eg : g = A
        · rw [eg, eRMA] at ht
          exact clo.sub t ht
        · rw [eRMo g eg] at ht
          exact wn.inv.rr g hg t ht
      · by_cases eg : g = A
        · rw [eg, eRMA]; exact clo.beg
        · rw [eRMo g eg]; exact wn.inv.rb g hg
      · by_cases eg : g = A
        · rw [eg, eRMA] at ht
          rw [eg]
          exact clo.snd (fun t => Row W.h A t) (.refl A) (fun t e hR htE he => hR.trans (wn.inv.se t htE e he)) t ht
        · rw [eRMo g eg] at ht
          exact wn.inv.sr g hg t ht
      · by_cases eg : g = A
        · rw [eg, eRMA] at ht ⊢
          refine clo.clo t ht e ?_
          rw [wn.m]
          exact he
        · rw [eRMo g eg] at ht ⊢
          rw [etake] at hg
          rcases List.mem_append.mp hg with z | z
          · exact wn.cl g z t ht e he
          · exact absurd (List.mem_singleton.mp z) eg
    · -- forget
      rintro σ' H3 ⟨v3', C1, rfl, wn⟩
      rw [lv0] at wn
      have wcl := wn.cl
      rw [List.take_length] at wcl
      refine ⟨_, rfl, W.s, _, W.dxs, _, _, rfl, wn.x.so', T.cl_Search, T.na_Search_ways, fSearch_ways, W.wy, W.dxw, _, rfl, wn.x.wo, fWays_no_forget, W, C1, rfl, wn.x, fun pk H4 x4 f4 => ?_⟩
      have et : tot (C1.forget pk) = tot C' := by
        show C1.EK.length + C1.AK.length + (C1.EK.map fun g => (C1.EM g).length).sum = _
        rw [wn.e, wn.a, wn.m]
        rfl
      have f3 : Fr (W.M C') H' (W.M C1) H3 := (Fr.of (M := W.M C') s3).trans wn.fr
      refine ⟨3000 - tot (C1.forget pk), by omega, C1.forget pk, v3', rfl, rfl, ⟨x4, ⟨wn.inv.re, wn.inv.ae, wn.inv.ee, wn.inv.rr, wn.inv.rb, wn.inv.se, wn.inv.sr⟩, rfl, fun A hA t ht e he => ?_, by show W.h.g0 ∈ C1.AK; rw [wn.a]; exact g0A, (wr.fr.trans fr').trans (f3.trans f4), ?_⟩⟩
      · have he' : e ∈ C1.EM t := he
        rw [wn.m] at he'
        exact wcl A (by rw [← wn.a]; exact hA) t ht e he'
      · exact (stC.ts (f3.ts x'.ntp)).ts (f4.ts wn.x.ntp)
end
end Nc

-- S11
set_option maxHeartbeats 4000000
namespace Nc
open PySem L2 C8
section
variable {P : Program} {w : World} {K : PySem.W.Frag} {mg : Str → Option Value} {base : Heap}
/-! ### reachable -/
abbrev N_reachable : List Str := ["house", "search"]
theorem sc_reachable : FnScope N_reachable ["house"] (defScope s_reachable) := ⟨rfl, rfl, rfl, by decide +kernel, rfl, by decide +kernel, by decide +kernel⟩
def spReach (K : PySem.W.Frag) : Sp := fun vs H Q _ => ∃ (eh : Addr) (h : HH), vs = [.ref eh] ∧ HouseAt K H eh h ∧ h.fit ∧
  ∀ p us L H', Same H H' → H' p = some (.lst us) → Paired (StV h H') us L → (∀ t, t ∈ L ↔ Row h h.g0 t) → L.Nodup → Q (.ref p) H'
theorem ok_reachable (T : Tx K mg) : Cal P w K mg base 15 "reachable" (spReach K) [] := by
  have c_Search : Mak P w K mg base 13 "Search" (He.ga K "Search") (spSearch P w K) [.non] := ok_Search_init T
  refine cal_of T 32 rfl T.g_reachable sc_reachable (fun _ _ _ _ _ _ us hl => match us, hl with | [_], _ => rfl) (fun vs H Q E h => ?_) (fun cdv A outer s H vs Q E hr h => ?_)
  · obtain ⟨_, _, rfl, _⟩ := h
    rfl
  obtain ⟨eh, h, rfl, hh, fit, q⟩ := h
  have hu9 := hu9_of hr
  refine ⟨_, (pss_cons (ps_set (i := 1) sc_reachable.nd rfl (Or.inl rfl) (pe_mk c_Search hr (by decide) rfl (pa_cons (pv 0) pa_nil)))
    (pss_one (ps_ret (pe_callTy call_list_of (by rfl) T.f_list (by decide +kernel) (pa_cons (pe_nget hu9 (pe_fld (pv 1) rfl) (pe_fld (pv 1) rfl) (fun _ _ => rfl)) pa_nil))))), ?_⟩
  refine ⟨_, rfl, fun se dxs hs hdxs hne => ?_⟩
  have s1 : Same H (upd (upd H dxs (.own se)) se (.ins (He.ga K "Search") dxs [])) := same_mut (same_new hdxs _) hs
  refine ⟨se, dxs, eh, h, rfl, upd_same, hh.to s1, fit, fun W C H2 e1 e2 sw st g0 char sx => ⟨rfl, ?_⟩⟩
  subst e1 e2
  have s2 : Same H H2 := fun a u hu => sx a u (ne_of_none hu hs) (s1 _ _ hu)
  obtain ⟨sa, hsa⟩ := st.ref
  obtain ⟨kR, r1, r2, r3⟩ := sw.dR.ex
  obtain ⟨us, h1, h2⟩ := sw.lr _ g0
  have st' : StV W.h H2 (.ref sa) W.h.g0 := hsa ▸ st
  have so := sw.so'
  rw [hsa] at so
  refine ⟨_, rfl, W.s, _, W.dxs, _, _, rfl, so, T.cl_Search, T.na_Search_rows, fSearch_rows, _, rfl, W.s, _, W.dxs, _, _, rfl, so, T.cl_Search, T.na_Search_start, fSearch_start, W.aR, sa, kR, kS W.h W.h.g0, _, rfl, rfl, r1, st'.key, dS8 _ _, r3 _ g0, C.ra W.h.g0, us, rfl, .inl (SqL.of (fz_same _ _ h1)), fun l hl => ?_⟩
  exact q l us (C.RM W.h.g0) _ (s2.trans (same_new hl _)) upd_same (stvs_ts h2 (TpS.of (same_new hl _))) char (sw.rmR _ g0).1
/-! ### most -/
abbrev N_most : List Str := ["house", "prices", "state"]
theorem sc_most : FnScope N_most ["house", "prices"] (defScope s_most) := ⟨rfl, rfl, rfl, by decide +kernel, rfl, by decide +kernel, by decide +kernel⟩
def IsMost (h : HH) (p q m : Int) : Prop := (∃ t, Row h h.g0 t ∧ gw t p q = m) ∧ ∀ t, Row h h.g0 t → gw t p q ≤ m
def spMost (K : PySem.W.Frag) : Sp := fun vs H Q _ => ∃ (eh : Addr) (h : HH) (pr : V) (p q : Int), vs = [.ref eh, pr] ∧ HouseAt K H eh h ∧ h.fit ∧ PrAt H pr p q ∧ ∀ m H', Same H H' → IsMost h p q m → Q (.int m) H'
theorem max_of : ∀ {l : List Int}, l ≠ [] → ∃ m, m ∈ l ∧ ∀ y ∈ l, y ≤ m
  | [x], _ => ⟨x, by simp, fun y hy => by rw [List.mem_singleton.mp hy]; exact Int.le_refl _⟩
  | x :: y :: r, _ => by
    obtain ⟨m, h1, h2⟩ := max_of (l := y :: r) (by simp)
    by_cases h : x ≤ m
    · exact ⟨m, List.mem_cons_of_mem _ h1, fun z hz => (List.mem_cons.mp hz).elim (fun e => e ▸ h) (h2 z)⟩
    · exact ⟨x, List.mem_cons_self .., fun z hz => (List.mem_cons.mp hz).elim (fun e => e ▸ Int.le_refl _) (fun e => by have := h2 z e; omega)⟩
theorem ok_most (T : Tx K mg) : Cal P w K mg base 16 "most" (spMost K) [] := by
  have c_reachable : Cal P w K mg base 15 "reachable" (spReach K) [] := ok_reachable T
  have c_worth : Cal P w K mg base 1 "worth" spWorth [] := ok_worth T
  refine cal_of T 33 rfl T.g_most sc_most (fun _ _ _ _ _ _ us hl => match us, hl with | [_, _], _ => rfl) (fun vs H Q E h => ?_) (fun cdv A outer s H vs Q E hr h => ?_)
  · obtain ⟨_, _, _, _, _, rfl, _⟩ := h
    rfl
  obtain ⟨eh, h, pr, p, q, rfl, hh, fit, hpr, k⟩ := h
  refine ⟨_, (pss_one (ps_ret (pe_callB (cr_max rfl) (by rfl) T.f_max (by decide +kernel) (pa_cons (pe_lc (g := (gName 2)) (tt := tYes) (own := [("state", 2)]) rfl sc_most.nd (pi_list (pe_c c_reachable hr (by decide) rfl (pa_cons (pv 0) pa_nil))) (blkOk_by (N := N_most) (sc := defScope s_most) (by decide +kernel)) (fun _ _ _ _ _ => (pg_name (i := 2) sc_most.nd rfl (Or.inl rfl))) (fun _ _ _ _ _ => pts_nil) (fun _ _ _ _ _ => (pe_c c_worth hr (by decide) rfl (pa_cons (pv 2) (pa_cons (pv 1) pa_nil))))) pa_nil)))), ?_⟩
  refine ⟨_, rfl, eh, h, rfl, hh, fit, fun lp us L H1 s1 hlp hus char ndL => ?_⟩
  have goL : ∀ t ∈ L, Good h t := fun t ht => ((char t).mp ht).good fit (HH.g0_good fit)
  have l36 : L.length ≤ 36 := good_bound fit ndL goL
  have lus : us.length = L.length := paired_len hus
  refine ⟨lp, rfl, ⟨_, SqL.of hlp⟩, fun D hD => lc_list (xs := us) (fun i H2 => Same H1 H2 ∧ H2 D = some (.lst (((L.take i).map fun t => gw t p q).map V.int))) ⟨same_new hD _, upd_same⟩ (fun i H2 _ ⟨s2, _⟩ => SqL.of (s2 _ _ hlp)) ?_ ?_⟩
  · rintro i v H2 hi ⟨s2, gD⟩
    obtain ⟨t, ht, hst⟩ := stvs_get hus hi
    have got := goL t (List.mem_of_getElem? ht)
    have b1 := got.ok false
    have b2 := got.ok true
    have o1 : 0 ≤ t.1.o := b1.o
    have o2 : 0 ≤ t.2.o := b2.o
    have a1 : 0 ≤ t.1.a := b1.a
    have a2 : 0 ≤ t.2.a := b2.a
    have u1 : t.1.a + t.1.o ≤ 2 := b1.s
    have u2 : t.2.a + t.2.o ≤ 2 := b2.s
    refine ⟨rfl, _, rfl, _, rfl, v, pr, h, t, p, q, rfl, Rp.to hst s2, hpr.to (s1.trans s2), o1, by omega, o2, by omega, fun H3 s3 => ?_⟩
    refine ⟨_, s3 _ _ gD, szl _ (by rw [List.length_map, List.length_map, List.length_take]; omega), same_mut (s2.trans s3) hD, ?_⟩
    rw [upd_same, List.take_add_one, ht, List.map_append, List.map_append]
    rfl
  · rintro H2 ⟨s2, gD⟩
    rw [lus, List.take_length] at gD
    have hne : (L.map fun t => gw t p q) ≠ [] := fun z => by
      have h1 := (char h.g0).mpr (.refl _)
      rw [List.map_eq_nil_iff] at z
      rw [z] at h1
      exact (List.not_mem_nil h1).elim
    refine ⟨D, L.map fun t => gw t p q, rfl, SqL.of gD, List.length_pos_iff.mpr hne, fun m hm hmax => ?_⟩
    obtain ⟨t, ht, e⟩ := List.mem_map.mp hm
    exact k m H2 (s1.trans s2) ⟨⟨t, (char t).mp ht, e⟩, fun t' ht' => hmax _ (List.mem_map.mpr ⟨t', (char t').mpr ht', rfl⟩)⟩
end
end Nc

-- M6
set_option maxHeartbeats 4000000
/-! the whole and its parts -/
namespace Nc
open PySem L2
theorem sub_pres (h : HH) (b : Bool) : (h.sub b).pres = [b] := by cases b <;> rfl
theorem sub_cc (h : HH) (b c : Bool) : (h.sub b).cc c = h.cc c := by cases b <;> cases c <;> rfl
theorem sub_g0 (h : HH) (b : Bool) : (h.sub b).g0 = h.g0 := rfl
theorem entB_sub (h : HH) (b c : Bool) : entB (h.sub b) c = entB h c := by unfold entB; rw [sub_cc]
theorem sub_ents (h : HH) (b : Bool) : (h.sub b).ents = entB h b := by
  show (h.sub b).pres.flatMap (entB (h.sub b)) = _
  rw [sub_pres]
  show entB (h.sub b) b ++ [] = _
  rw [entB_sub, List.append_nil]
theorem entB_fst {h : HH} {b c : Bool} {g : Int} (m : (c, g) ∈ entB h b) : c = b := by
  unfold entB at m
  cases hp : (h.cc b).proc with
  | none => rw [hp] at m; exact (List.not_mem_nil m).elim
  | some p =>
    obtain ⟨s, sh, l⟩ := p
    rw [hp] at m
    cases sh with
    | false => exact (List.not_mem_nil m).elim
    | true =>
      obtain ⟨k, _, e⟩ := List.mem_map.mp m
      cases e
      rfl
theorem sub_fit {h : HH} (f : h.fit) (b : Bool) : (h.sub b).fit := ⟨f.c, f.d, f.oa, f.oz, by rw [sub_pres]; simp⟩
theorem start_sub (h : HH) (b c : Bool) (G G' : GG) (g : Int) (e : gat G c = gat G' c) : startRun (h.sub b) G c g = startRun h G' c g := by
  unfold startRun
  rw [sub_cc, e]
theorem gans_sub (h : HH) (b c : Bool) (S : GG) (k : Int) : gans (h.sub b) S c k = gans h S c k := by unfold gans; rw [sub_cc]
theorem gat_gans (h : HH) (S : GG) (c : Bool) (k : Int) : gat (gans h S c k) c = (gat S c).setx (k % (h.cc c).size) := gat_gset ..
theorem ans_sub (h : HH) (b c : Bool) (S S' : GG) (g k : Int) (rest : List Sx) (e : gat S c = gat S' c) : ansRun (h.sub b) S c g rest k = ansRun h S' c g rest k := by
  unfold ansRun
  rw [gans_sub, sub_cc, gat_gans, gat_gans, e]
/-- a state of one part and of the other's -/
def mixG (b : Bool) (own oth : GG) : GG := gset oth b (gat own b)
theorem mix_at (b : Bool) (own oth : GG) : gat (mixG b own oth) b = gat own b := gat_gset ..
theorem mix_set (b : Bool) (own oth : GG) (l : Lo) : gset (mixG b own oth) b l = mixG b (gset own b l) oth := by
  unfold mixG
  rw [gset_gset, gat_gset]
theorem mix_gans (h : HH) (b : Bool) (own oth : GG) (k : Int) (l : Lo) : gset (gans h (mixG b own oth) b k) b l = mixG b (gset (gans h own b k) b l) oth := by
  unfold gans mixG
  rw [gset_gset, gset_gset, gset_gset, gat_gset]
theorem mem_ents {h : HH} (hp : h.pres = bs2) {b : Bool} {g : Int} : (b, g) ∈ h.ents ↔ (b, g) ∈ entB h b := by
  unfold HH.ents
  rw [hp]
  constructor
  · intro m
    obtain ⟨c, _, hm⟩ := List.mem_flatMap.mp m
    rw [entB_fst hm]
    rw [entB_fst hm] at hm
    exact hm
  · intro m
    exact List.mem_flatMap.mpr ⟨b, by cases b <;> simp [bs2], m⟩
/-- what a part does, the whole does, the other part's state as it is -/
theorem row_lift {h : HH} (hp : h.pres = bs2) {b : Bool} {A B : GG} (r : Row (h.sub b) A B) : (∀ c, c ≠ b → gat A c = gat B c) ∧ ∀ z, Row h (mixG b A z) (mixG b B z) := by
  induction r with
  | refl _ => exact ⟨fun _ _ => rfl, fun z => .refl _⟩
  | @done A B c g l r hm hs ih =>
    rw [sub_ents] at hm
    obtain rfl := entB_fst hm
    refine ⟨fun d hd => (ih.1 d hd).trans ?_, fun z => ?_⟩
    · cases c <;> cases d <;> first | rfl | exact absurd rfl hd
    · rw [← mix_set]
      refine .done (ih.2 z) ((mem_ents hp).mpr hm) ?_
      rw [← start_sub h c c B _ g (mix_at c B z).symm]
      exact hs
  | @ask A B S c g n k l l2 rest r hm hs hr h0 hn ha ih ih2 =>
    rw [sub_ents] at hm
    obtain rfl := entB_fst hm
    refine ⟨fun d hd => (ih.1 d hd).trans (Eq.trans ?_ ((ih2.1 d hd).trans ?_)), fun z => ?_⟩
    · cases c <;> cases d <;> first | rfl | exact absurd rfl hd
    · rw [gans_sub]
      cases c <;> cases d <;> first | rfl | exact absurd rfl hd
    · rw [gans_sub, ← mix_gans]
      refine .ask (ih.2 z) ((mem_ents hp).mpr hm) ?_ ?_ h0 hn ?_ (l := l) (rest := rest)
      · rw [← start_sub h c c B _ g (mix_at c B z).symm]
        exact hs
      · rw [mix_set]
        exact ih2.2 z
      · rw [← ans_sub h c c S _ g k rest (mix_at c S z).symm]
        exact ha
/-- what the whole does, each part does -/
theorem row_proj {h : HH} (b : Bool) {A B : GG} (r : Row h A B) : ∀ z, Row (h.sub b) (mixG b A z) (mixG b B z) := by
  induction r with
  | refl _ => exact fun z => .refl _
  | @done A B c g l r hm hs ih =>
    intro z
    by_cases e : c = b
    · subst e
      rw [← mix_set]
      have hm2 : (c, g) ∈ (h.sub c).ents := by
        rw [sub_ents]
        unfold HH.ents at hm
        obtain ⟨d, _, hd⟩ := List.mem_flatMap.mp hm
        rw [entB_fst hd]
        rw [entB_fst hd] at hd
        exact hd
      refine .done (ih z) hm2 ?_
      rw [start_sub h c c _ B g (mix_at c B z)]
      exact hs
    · have e2 : mixG b (gset B c l) z = mixG b B z := by
        cases b <;> cases c <;> first | rfl | exact absurd rfl e
      rw [e2]
      exact ih z
  | @ask A B S c g n k l l2 rest r hm hs hr h0 hn ha ih ih2 =>
    intro z
    by_cases e : c = b
    · subst e
      rw [← mix_gans, ← gans_sub h c]
      have hm2 : (c, g) ∈ (h.sub c).ents := by
        rw [sub_ents]
        unfold HH.ents at hm
        obtain ⟨d, _, hd⟩ := List.mem_flatMap.mp hm
        rw [entB_fst hd]
        rw [entB_fst hd] at hd
        exact hd
      refine .ask (ih z) hm2 ?_ ?_ h0 hn ?_ (l := l) (rest := rest)
      · rw [start_sub h c c _ B g (mix_at c B z)]
        exact hs
      · rw [mix_set]
        exact ih2 z
      · rw [ans_sub h c c _ S g k rest (mix_at c S z)]
        exact ha
    · have e2 : mixG b (gset (gans h S c k) c l2) z = mixG b S z := by
        cases b <;> cases c <;> first | rfl | exact absurd rfl e
      have e3 : mixG b (gset B c l) z = mixG b B z := by
        cases b <;> cases c <;> first | rfl | exact absurd rfl e
      rw [e2]
      have h2 := ih2 z
      rw [e3] at h2
      exact (ih z).trans h2
theorem most_adds {h : HH} (hp : h.pres = bs2) {p q m m1 m2 : Int} (k : IsMost h p q m) (k1 : IsMost (h.sub false) p q m1) (k2 : IsMost (h.sub true) p q m2) : m = m1 + m2 - (h.oa * p + h.oz * q) := by
  obtain ⟨⟨t, ht, et⟩, mt⟩ := k
  obtain ⟨⟨u, hu, eu⟩, mu⟩ := k1
  obtain ⟨⟨v, hv, ev⟩, mv⟩ := k2
  rw [sub_g0] at hu mu hv mv
  have e1 : h.g0.1.o = h.oa := rfl
  have e2 : h.g0.2.o = h.oz := rfl
  unfold gw at *
  -- down
  have d1 := mu _ (row_proj false ht h.g0)
  have d2 := mv _ (row_proj true ht h.g0)
  have f1 : (mixG false t h.g0).1.o = t.1.o := rfl
  have f2 : (mixG false t h.g0).2.o = h.oz := rfl
  have f3 : (mixG true t h.g0).1.o = h.oa := rfl
  have f4 : (mixG true t h.g0).2.o = t.2.o := rfl
  rw [f1, f2] at d1
  rw [f3, f4] at d2
  -- up
  obtain ⟨cu, lu⟩ := row_lift hp hu
  obtain ⟨cv, lv⟩ := row_lift hp hv
  have u2 : u.2 = h.g0.2 := (cu true (by decide)).symm
  have v1 : v.1 = h.g0.1 := (cv false (by decide)).symm
  have r1 : Row h h.g0 (mixG false u h.g0) := lu h.g0
  have r2 : Row h (mixG false u h.g0) (mixG true v (mixG false u h.g0)) := lv (mixG false u h.g0)
  have d3 := mt _ (r1.trans r2)
  have g1 : (mixG true v (mixG false u h.g0)).1.o = u.1.o := rfl
  have g2 : (mixG true v (mixG false u h.g0)).2.o = v.2.o := rfl
  rw [g1, g2] at d3
  have u2' : u.2.o = h.oz := by rw [u2]; rfl
  have v1' : v.1.o = h.oa := by rw [v1]; rfl
  rw [u2'] at eu
  rw [v1'] at ev
  omega
end Nc

-- Q1
set_option maxHeartbeats 4000000
namespace Nc
open PySem L2 C8
section
variable {P : Program} {w : World} {K : PySem.W.Frag} {mg : Str → Option Value} {base : Heap}
/-! ### cells and rows -/
abbrev N_law_cell : List Str := ["_law_script", "_law_k"]
theorem sc_law_cell : FnScope N_law_cell ["_law_script", "_law_k"] (defScope s_law_cell) := ⟨rfl, rfl, rfl, by decide +kernel, rfl, by decide +kernel, by decide +kernel⟩
def spCell (K : PySem.W.Frag) : Sp := fun vs H Q _ => ∃ (a : Addr) (ns : List Int) (k : Nat), vs = [.ref a, .int (k : Int)] ∧ SqL K H a (ns.map V.int) ∧ ∀ i, Q (.int i) H
theorem ok_law_cell (T : Tx K mg) : Cal P w K mg base 1 "_law_cell" (spCell K) [] := by
  refine cal_of T 34 rfl T.g__law_cell sc_law_cell (fun _ _ _ _ _ _ us hl => match us, hl with | [_, _], _ => rfl) (fun vs H Q E h => ?_) (fun cdv A outer s H vs Q E hr h => ?_)
  · obtain ⟨_, _, _, rfl, _⟩ := h
    rfl
  obtain ⟨a, ns, k, rfl, ha, q⟩ := h
  refine ⟨_, (pss_cons (ps_if (pt_cmpR op_lt (pv 1) (pe_callB call_len_seq (by rfl) T.f_len (by decide +kernel) (pa_cons (pv 0) pa_nil)) (nomark _))
    (pss_one (ps_ret (pe_ix ix_list (pv 0) (pv 1) (fun _ _ => rfl))))
    pss_nil)
    (pss_one (ps_ret pe_int))), ?_⟩
  refine ⟨_, rfl, _, rfl, a, _, rfl, .inl ha, _, _, rfl, rfl, _, rfl, ?_⟩
  refine if2 (fun c => ?_) (fun c => ?_)
  · have c' : (k : Int) < (((ns.map V.int).length : Nat) : Int) := c
    rw [List.length_map] at c'
    have hk : k < ns.length := by omega
    have hg : (ns.map V.int)[k]? = some (.int ns[k]) := by rw [List.getElem?_map]; simp [hk]
    exact ⟨_, rfl, _, rfl, a, _, _, _, rfl, rfl, ha, atI_nat hg, q _⟩
  · exact q 0
abbrev N_law_row : List Str := ["_law_cell_here", "_law_count", "_law_size", "_law_state", "_law_row_here", "_law_k"]
theorem sc_law_row : FnScope N_law_row ["_law_cell_here", "_law_count", "_law_size"] (defScope s_law_row) := ⟨rfl, rfl, rfl, by decide +kernel, rfl, by decide +kernel, by decide +kernel⟩
def spRowL : Sp := fun vs H Q _ => ∃ (c : Int) (n : Nat) (m : Int), vs = [.int c, .int (n : Int), .int m] ∧ n ≤ 100 ∧ 0 < m ∧ m < 1073741824 ∧ ∀ (p : Addr) (L : List Int) (H' : Hp), Same H H' → H p = none → H' p = some (.lst (L.map V.int)) → L.length = n → (∀ x ∈ L, 0 ≤ x ∧ x < m) → Q (.ref p) H'
theorem ok_law_row (T : Tx K mg) : Cal P w K mg base 1 "_law_row" spRowL [] := by
  refine cal_of T 35 rfl T.g__law_row sc_law_row (fun _ _ _ _ _ _ us hl => match us, hl with | [_, _, _], _ => rfl) (fun vs H Q E h => ?_) (fun cdv A outer s H vs Q E hr h => ?_)
  · obtain ⟨_, _, _, rfl, _⟩ := h
    rfl
  obtain ⟨c, n, m, rfl, hn, m0, m1, q⟩ := h
  refine ⟨_, (pss_cons (ps_set (i := 3) sc_law_row.nd rfl (Or.inl rfl) (pv 0))
    (pss_cons (ps_set (i := 4) sc_law_row.nd rfl (Or.inl rfl) (pe_lst pa_nil))
    (pss_cons (ps_for PassesOwn.never rfl (pi_range1 rfl T.f_range (pa_cons (pv 1) pa_nil)) (pg_name (i := 5) sc_law_row.nd rfl (Or.inl rfl))
    (pss_one (ps_if (pt_cmpR op_ge (pv 0) (pe_op op_pow pe_int pe_int) (nomark _))
    (pss_cons (ps_expr (pe_bm PySem.F.plainAttrs_list PySem.F.slot_list_append PySem.F.type_list_append mt_append (pv 4) (pa_cons (pe_op op_mod (pe_callTy call_int1 (by rfl) T.f_int (by decide +kernel) (pa_cons (pv 3) pa_nil)) (pv 2)) pa_nil)))
    (pss_one (ps_set (i := 3) sc_law_row.nd rfl (Or.inl rfl) (pe_op op_fdiv (pv 3) (pv 2)))))
    (pss_cons (ps_set (i := 3) sc_law_row.nd rfl (Or.inl rfl) (pe_op op_mod (pe_op op_add (pe_op op_mulR (pv 3) pe_int) pe_int) pe_int))
    (pss_one (ps_expr (pe_bm PySem.F.plainAttrs_list PySem.F.slot_list_append PySem.F.type_list_append mt_append (pv 4) (pa_cons (pe_op op_mod (pe_op op_mod (pe_callTy call_int1 (by rfl) T.f_int (by decide +kernel) (pa_cons (pe_op op_add (pe_op op_mulR (pv 3) pe_int) (pe_op op_mulR (pv 5) pe_int)) pa_nil)) pe_int) (pv 2)) pa_nil))))))))
    (pss_one (ps_ret (pv 4)))))), ?_⟩
  refine ⟨_, rfl, by show 0 ≤ sizeLine; decide, fun p hp => ?_⟩
  refine ⟨_, rfl, (n : Int), rfl, by omega, by omega, for_range (n := n) (fun i σ H' => ∃ (st : Int) (v5 : Option V) (L : List Int), σ = [some (.int c), some (.int (n : Int)), some (.int m), some (.int st), some (.ref p), v5] ∧ Same H H' ∧ H' p = some (.lst (L.map V.int)) ∧ L.length = i ∧ ∀ x ∈ L, 0 ≤ x ∧ x < m)
    ⟨c, none, [], rfl, same_new hp _, upd_same, rfl, fun _ z => (List.not_mem_nil z).elim⟩ ?_ ?_⟩
  · rintro i σ H' hi ⟨st, v5, L, rfl, s1, gp, lL, hL⟩
    have add : ∀ y : Int, Same H (upd H' p (.lst (L.map V.int ++ [.int (y % m)]))) ∧ (upd H' p (.lst (L.map V.int ++ [.int (y % m)]))) p = some (.lst ((L ++ [y % m]).map V.int)) ∧ (L ++ [y % m]).length = i + 1 ∧ ∀ x ∈ L ++ [y % m], 0 ≤ x ∧ x < m := fun y => by
      refine ⟨same_mut s1 hp, by rw [upd_same, List.map_append]; rfl, by rw [len_snoc, lL], fun x hx => ?_⟩
      rcases List.mem_append.mp hx with z | z
      · exact hL x z
      · rw [List.mem_singleton.mp z]
        exact ⟨Int.emod_nonneg _ (by omega), Int.emod_lt_of_pos _ m0⟩
    refine ⟨_, rfl, _, _, rfl, rfl, ⟨by decide, by decide, by decide⟩, _, _, rfl, rfl, _, rfl, ?_⟩
    refine if2 (fun _ => ?_) (fun _ => ?_)
    · refine ⟨_, rfl, .inl ⟨rfl, _, SqL.of gp⟩, _, rfl, .inl ⟨_, rfl, _, rfl, _, _, rfl, rfl, m0, p, _, _, rfl, rfl, gp, szl _ (by rw [List.length_map]; omega), ?_⟩⟩
      obtain ⟨z1, z2, z3, z4⟩ := add st
      refine ⟨_, rfl, _, rfl, _, _, rfl, rfl, ⟨m0, m1⟩, ?_⟩
      exact ⟨_, _, L ++ [st % m], rfl, z1, z2, z3, z4⟩
    · refine ⟨_, rfl, _, _, rfl, rfl, ⟨by decide, by decide⟩, _, _, rfl, rfl, _, _, rfl, rfl, (show (0 : Int) < 2147483647 by decide), ?_⟩
      refine ⟨_, rfl, .inl ⟨rfl, _, SqL.of gp⟩, _, rfl, _, _, rfl, rfl, ⟨by decide, by decide⟩, _, rfl, _, _, rfl, rfl, ⟨by decide, by decide⟩, _, _, rfl, rfl, .inl ⟨_, rfl, _, _, rfl, rfl, (show (0 : Int) < 2147483647 by decide), _, rfl, _, _, rfl, rfl, m0, p, _, _, rfl, rfl, gp, szl _ (by rw [List.length_map]; omega), ?_⟩⟩
      obtain ⟨z1, z2, z3, z4⟩ := add (((((st * 48271 + 12345) % 2147483647) * 69621 + (0 + (i : Nat)) * 7919)) % 2147483647)
      exact ⟨_, _, _, rfl, z1, z2, z3, z4⟩
  · rintro σ H' ⟨st, v5, L, rfl, s1, gp, lL, hL⟩
    exact ⟨_, rfl, q p L H' s1 hp gp lL hL⟩
end
end Nc

-- Q2
set_option maxHeartbeats 4000000
namespace Nc
open PySem L2 C8
section
variable {P : Program} {w : World} {K : PySem.W.Frag} {mg : Str → Option Value} {base : Heap}
/-! ### expressions -/
def NmAt (H : Hp) (v : V) (hv : Bool) : Prop := ∃ a, v = .ref a ∧ H a = some (.lst (if hv then [.str "x"] else []))
def AsAt (H : Hp) (v : V) : Prop := ∃ a, v = .ref a ∧ H a = some (.lst [.str "a"])
theorem NmAt.to {H H' : Hp} {v : V} {hv : Bool} (k : NmAt H v hv) (s : Same H H') : NmAt H' v hv := by
  obtain ⟨a, e, h⟩ := k
  exact ⟨a, e, s _ _ h⟩
theorem AsAt.to {H H' : Hp} {v : V} (k : AsAt H v) (s : Same H H') : AsAt H' v := by
  obtain ⟨a, e, h⟩ := k
  exact ⟨a, e, s _ _ h⟩
def bnd (n : Nat) (c : Int) : Prop := (n = 1 → 0 ≤ c ∧ c ≤ 1) ∧ (n = 2 → 0 ≤ c ∧ c < 60)
abbrev N_law_expression : List Str := ["_law_cell_here", "_law_names", "_law_assets", "_law_kind", "_law_rest", "_law_left"]
theorem sc_law_expression : FnScope N_law_expression ["_law_cell_here", "_law_names", "_law_assets"] (defScope s_law_expression) := ⟨rfl, rfl, rfl, by decide +kernel, rfl, by decide +kernel, by decide +kernel⟩
def spExL (n : Nat) : Sp := fun vs H Q _ => ∃ (c : Int) (nv av : V) (hv : Bool), vs = [.int c, nv, av] ∧ 0 < n ∧ n ≤ 3 ∧ bnd n c ∧ NmAt H nv hv ∧ AsAt H av ∧ ∀ (e : Ex) v H', Same H H' → Rp H' v (e.d false) → e.ok hv → e.dep < n → Q v H'
theorem b_law_expression : BindOk "_law_expression" "_law_expression" s_law_expression ["_law_cell_here", "_law_names", "_law_assets"] := fun _ _ _ _ _ _ us hl => match us, hl with | [_, _, _], _ => rfl
def sgs : List Sg := [.add, .sub, .mul, .div, .mod, .lt, .eq]
theorem sgs_at {i : Int} (h0 : 0 ≤ i) (h1 : i < 7) : ∃ s : Sg, atI ([.str "+", .str "-", .str "*", .str "/", .str "mod", .str "<", .str "="] : List V) i = some (.str s.str) := by
  obtain ⟨k, rfl⟩ := Int.eq_ofNat_of_zero_le h0
  have hk : k < 7 := by omega
  match k, hk with
  | 0, _ => exact ⟨.add, rfl⟩
  | 1, _ => exact ⟨.sub, rfl⟩
  | 2, _ => exact ⟨.mul, rfl⟩
  | 3, _ => exact ⟨.div, rfl⟩
  | 4, _ => exact ⟨.mod, rfl⟩
  | 5, _ => exact ⟨.lt, rfl⟩
  | 6, _ => exact ⟨.eq, rfl⟩
theorem two_at {x y : V} {i : Int} (h0 : 0 ≤ i) (h1 : i < 2) : atI ([x, y] : List V) i = some x ∨ atI ([x, y] : List V) i = some y := by
  obtain ⟨k, rfl⟩ := Int.eq_ofNat_of_zero_le h0
  have hk : k < 2 := by omega
  match k, hk with
  | 0, _ => exact .inl rfl
  | 1, _ => exact .inr rfl
theorem one_at {x : V} {i : Int} : atI ([x] : List V) (i % 1) = some x := by
  rw [Int.emod_one]
  rfl
theorem ok_law_expression (T : Tx K mg) : ∀ n : Nat, Cal P w K mg base n "_law_expression" (spExL n) []
  | 0 => cal_no T 36 rfl T.g__law_expression b_law_expression fun vs H Q E ⟨_, _, _, _, _, z, _⟩ => absurd z (Nat.lt_irrefl _)
  | n + 1 => by
    have c_law_expression : Cal P w K mg base n "_law_expression" (spExL n) [] := ok_law_expression T n
    refine cal_of T 36 rfl T.g__law_expression sc_law_expression b_law_expression (fun vs H Q E h => ?_) (fun cdv A outer s H vs Q E hr h => ?_)
    · obtain ⟨_, _, _, _, rfl, _⟩ := h
      rfl
    obtain ⟨c, nv, av, hv, rfl, _, n3, hb, ⟨na, rfl, hna⟩, ⟨aa, rfl, haa⟩, q⟩ := h
    refine ⟨_, (pss_cons (ps_set (i := 3) sc_law_expression.nd rfl (Or.inl rfl) (pe_op op_mod (pe_callTy call_int1 (by rfl) T.f_int (by decide +kernel) (pa_cons (pv 0) pa_nil)) pe_int))
    (pss_cons (ps_set (i := 4) sc_law_expression.nd rfl (Or.inl rfl) (pe_op op_fdiv (pe_callTy call_int1 (by rfl) T.f_int (by decide +kernel) (pa_cons (pv 0) pa_nil)) pe_int))
    (pss_cons (ps_if (PW.pt (pw_and (pt_cmpR op_lt (pv 3) pe_int (nomark _)) (pw_and1 (pt_cmpR op_gt (pe_callB call_len_seq (by rfl) T.f_len (by decide +kernel) (pa_cons (pv 1) pa_nil)) pe_int (nomark _)))))
    (pss_one (ps_ret (pe_tup (pa_cons pe_str (pa_cons (pe_ix ix_list (pv 1) (pe_op op_mod (pv 4) (pe_callB call_len_seq (by rfl) T.f_len (by decide +kernel) (pa_cons (pv 1) pa_nil))) (fun _ _ => rfl)) pa_nil)))))
    pss_nil)
    (pss_cons (ps_if (pt_cmpR op_eq (pv 3) pe_int (nomark _))
    (pss_one (ps_ret (pe_tup (pa_cons pe_str pa_nil))))
    pss_nil)
    (pss_cons (ps_if (PW.pt (pw_and (pt_cmpR op_eq (pv 3) pe_int (nomark _)) (pw_and1 (pt_cmpR op_gt (pe_callB call_len_seq (by rfl) T.f_len (by decide +kernel) (pa_cons (pv 2) pa_nil)) pe_int (nomark _)))))
    (pss_one (ps_ret (pe_tup (pa_cons (pe_ix ix_tup (pe_tup (pa_cons pe_str (pa_cons pe_str pa_nil))) (pe_op op_mod (pv 4) pe_int) (fun _ _ => rfl)) (pa_cons (pe_ix ix_list (pv 2) (pe_op op_mod (pe_op op_fdiv (pv 4) pe_int) (pe_callB call_len_seq (by rfl) T.f_len (by decide +kernel) (pa_cons (pv 2) pa_nil))) (fun _ _ => rfl)) pa_nil)))))
    pss_nil)
    (pss_cons (ps_if (pt_cmpR op_eq (pv 3) pe_int (nomark _))
    (pss_cons (ps_set (i := 5) sc_law_expression.nd rfl (Or.inl rfl) (pe_c c_law_expression hr (Nat.le_refl _) rfl (pa_cons (pe_op op_mod (pe_op op_fdiv (pv 4) pe_int) pe_int) (pa_cons (pv 1) (pa_cons (pv 2) pa_nil)))))
    (pss_one (ps_ret (pe_tup (pa_cons (pe_ix ix_tup (pe_tup (pa_cons pe_str (pa_cons pe_str (pa_cons pe_str (pa_cons pe_str (pa_cons pe_str (pa_cons pe_str (pa_cons pe_str pa_nil)))))))) (pe_op op_mod (pv 4) pe_int) (fun _ _ => rfl)) (pa_cons (pv 5) (pa_cons (pe_c c_law_expression hr (Nat.le_refl _) rfl (pa_cons (pe_op op_mod (pe_op op_fdiv (pv 4) pe_int) pe_int) (pa_cons (pv 1) (pa_cons (pv 2) pa_nil)))) pa_nil)))))))
    pss_nil)
    (pss_one (ps_ret (pe_tup (pa_cons pe_str (pa_cons (pe_op op_mod (pv 4) pe_int) pa_nil))))))))))), ?_⟩
    have r0 := Int.emod_nonneg c (show (8 : Int) ≠ 0 by decide)
    have r1 := Int.emod_lt_of_pos c (show (0 : Int) < 8 by decide)
    have num : ∀ p, H p = none → Q (.ref p) (upd H p (.tup [.str "number", .int (c / 8 % 4)])) := fun p hp => by
      have h0 := Int.emod_nonneg (c / 8) (show (4 : Int) ≠ 0 by decide)
      have h1 := Int.emod_lt_of_pos (c / 8) (show (0 : Int) < 4 by decide)
      exact q (.num (c / 8 % 4)) _ _ (same_new hp _) (.tup upd_same (.cons (.str _) (.cons (.int _) .nil))) ⟨h0, by omega⟩ (Nat.succ_pos n)
    refine ⟨_, rfl, .inl ⟨_, rfl, _, _, rfl, rfl, (show (0 : Int) < 8 by decide), ?_⟩⟩
    refine ⟨_, rfl, .inl ⟨_, rfl, _, _, rfl, rfl, ⟨(show (0 : Int) < 8 by decide), (show (8 : Int) < 1073741824 by decide)⟩, ?_⟩⟩
    have nd : ∀ (m : Int), c % 8 ≠ m → ¬ (V.int (c % 8) = V.int m) := fun m h z => h (V.int.inj z)
    -- kind < 2 and names
    refine ⟨_, rfl, _, _, rfl, rfl, _, rfl, ?_⟩
    refine if2 (fun k2 => ?_) (fun k2 => ?_)
    · have k2' : c % 8 < 2 := k2
      cases hv with
      | true =>
        refine ⟨_, rfl, na, _, rfl, .inl (SqL.of hna), _, _, rfl, rfl, _, rfl, ifY (show (0 : Int) < 1 by decide) ?_⟩
        refine ⟨_, rfl, _, rfl, _, rfl, na, _, rfl, .inl (SqL.of hna), _, _, rfl, rfl, (show (0 : Int) < 1 by decide), na, _, _, _, rfl, rfl, SqL.of hna, one_at, (by show 2 ≤ sizeLine; decide), fun p hp => ?_⟩
        exact q .var _ _ (same_new hp _) (.tup upd_same (.cons (.str _) (.cons (.str _) .nil))) rfl (Nat.succ_pos n)
      | false =>
        refine ⟨_, rfl, na, _, rfl, .inl (SqL.of hna), _, _, rfl, rfl, _, rfl, ifN (show ¬ ((0 : Int) < 0) by decide) ?_⟩
        refine ⟨_, rfl, rfl, _, rfl, ifN (nd 2 (by omega)) ?_⟩
        refine ⟨_, rfl, rfl, _, rfl, ifN (nd 3 (by omega)) ?_⟩
        refine iteF ?_
        refine ⟨_, rfl, rfl, _, rfl, ifN (nd 4 (by omega)) ?_⟩
        exact ⟨_, rfl, _, _, rfl, rfl, (show (0 : Int) < 4 by decide), (by show 2 ≤ sizeLine; decide), num⟩
    · have k2' : ¬ c % 8 < 2 := k2
      refine iteF ?_
      refine ⟨_, rfl, rfl, _, rfl, ?_⟩
      refine if2 (fun k => ?_) (fun k => ?_)
      · exact ⟨(by show 1 ≤ sizeLine; decide), fun p hp => q .given _ _ (same_new hp _) (.tup upd_same (.cons (.str _) .nil)) True.intro (Nat.succ_pos n)⟩
      have e2 : c % 8 ≠ 2 := fun z => k (congrArg V.int z)
      refine ⟨_, rfl, rfl, _, rfl, ?_⟩
      refine if2 (fun k => ?_) (fun k => ?_)
      · refine ⟨_, rfl, aa, _, rfl, .inl (SqL.of haa), _, _, rfl, rfl, _, rfl, ifY (show (0 : Int) < 1 by decide) ?_⟩
        refine ⟨(by show 2 ≤ sizeLine; decide), fun p1 hp1 => ?_⟩
        have s1 := same_new hp1 (.tup [.str "have", .str "out"])
        have h0 := Int.emod_nonneg (c / 8) (show (2 : Int) ≠ 0 by decide)
        have h1 := Int.emod_lt_of_pos (c / 8) (show (0 : Int) < 2 by decide)
        rcases two_at (x := .str "have") (y := .str "out") h0 h1 with ea | ea
        · refine ⟨_, rfl, _, _, rfl, rfl, (show (0 : Int) < 2 by decide), p1, _, _, _, rfl, rfl, SqT.tp upd_same, ea, _, rfl, _, rfl, _, _, rfl, rfl, ⟨(show (0 : Int) < 2 by decide), (show (2 : Int) < 1073741824 by decide)⟩, _, rfl, aa, _, rfl, .inl (SqL.of (s1 _ _ haa)), _, _, rfl, rfl, (show (0 : Int) < 1 by decide), aa, _, _, _, rfl, rfl, SqL.of (s1 _ _ haa), one_at, (by show 2 ≤ sizeLine; decide), fun p hp => ?_⟩
          exact q .hav _ _ (s1.trans (same_new hp _)) (.tup upd_same (.cons (.str _) (.cons (.str _) .nil))) True.intro (Nat.succ_pos n)
        · refine ⟨_, rfl, _, _, rfl, rfl, (show (0 : Int) < 2 by decide), p1, _, _, _, rfl, rfl, SqT.tp upd_same, ea, _, rfl, _, rfl, _, _, rfl, rfl, ⟨(show (0 : Int) < 2 by decide), (show (2 : Int) < 1073741824 by decide)⟩, _, rfl, aa, _, rfl, .inl (SqL.of (s1 _ _ haa)), _, _, rfl, rfl, (show (0 : Int) < 1 by decide), aa, _, _, _, rfl, rfl, SqL.of (s1 _ _ haa), one_at, (by show 2 ≤ sizeLine; decide), fun p hp => ?_⟩
          exact q .out _ _ (s1.trans (same_new hp _)) (.tup upd_same (.cons (.str _) (.cons (.str _) .nil))) True.intro (Nat.succ_pos n)
      have e3 : c % 8 ≠ 3 := fun z => k (congrArg V.int z)
      refine iteF ?_
      refine ⟨_, rfl, rfl, _, rfl, ?_⟩
      refine if2 (fun k => ?_) (fun k => ?_)
      · have k4 : c % 8 = 4 := V.int.inj k
        -- the depth is bounded
        have hn : 0 < n := by
          cases n with
          | zero =>
            obtain ⟨b1, _⟩ := hb
            have := b1 rfl
            omega
          | succ m => exact Nat.succ_pos m
        have bd : ∀ j : Int, (j = 7 ∨ j = 420) → bnd n (c / 8 / j % 60) := fun j hj => by
          refine ⟨fun e1 => ?_, fun e1 => ?_⟩
          · subst e1
            have := hb.2 rfl
            rcases hj with rfl | rfl
            · omega
            · omega
          · rcases hj with rfl | rfl
            · omega
            · omega
        refine ⟨_, rfl, _, _, rfl, rfl, ⟨(show (0 : Int) < 7 by decide), (show (7 : Int) < 1073741824 by decide)⟩, _, _, rfl, rfl, (show (0 : Int) < 60 by decide), _, rfl, _, rfl, ?_⟩
        refine ⟨_, .ref na, .ref aa, hv, rfl, hn, by omega, bd 7 (.inl rfl), ⟨na, rfl, hna⟩, ⟨aa, rfl, haa⟩, fun l v1 H1 s1 hl okl dl => ?_⟩
        refine ⟨(by show 7 ≤ sizeLine; decide), fun p1 hp1 => ?_⟩
        have s2 := s1.trans (same_new hp1 (.tup [.str "+", .str "-", .str "*", .str "/", .str "mod", .str "<", .str "="]))
        have h0 := Int.emod_nonneg (c / 8) (show (7 : Int) ≠ 0 by decide)
        have h1 := Int.emod_lt_of_pos (c / 8) (show (0 : Int) < 7 by decide)
        obtain ⟨sg, esg⟩ := sgs_at h0 h1
        refine ⟨_, rfl, _, _, rfl, rfl, (show (0 : Int) < 7 by decide), p1, _, _, _, rfl, rfl, SqT.tp upd_same, esg, _, rfl, _, rfl, _, _, rfl, rfl, ⟨(show (0 : Int) < 420 by decide), (show (420 : Int) < 1073741824 by decide)⟩, _, _, rfl, rfl, (show (0 : Int) < 60 by decide), _, rfl, _, rfl, ?_⟩
        refine ⟨_, .ref na, .ref aa, hv, rfl, hn, by omega, bd 420 (.inr rfl), ⟨na, rfl, s2 _ _ hna⟩, ⟨aa, rfl, s2 _ _ haa⟩, fun r v2 H2 s3 hr2 okr dr => ?_⟩
        refine ⟨(by show 3 ≤ sizeLine; decide), fun p hp => ?_⟩
        have s4 := s3.trans (same_new hp (.tup [.str sg.str, v1, v2]))
        refine q (.op sg l r) _ _ (s2.trans s4) (.tup upd_same (.cons (.str _) (.cons ((hl.to (same_new hp1 _)).to s4) (.cons (hr2.to (same_new hp _)) .nil)))) ⟨okl, okr⟩ ?_
        show max l.dep r.dep + 1 < n + 1
        omega
      · exact ⟨_, rfl, _, _, rfl, rfl, (show (0 : Int) < 4 by decide), (by show 2 ≤ sizeLine; decide), num⟩
end
end Nc

-- Q3
set_option maxHeartbeats 4000000
namespace Nc
open PySem L2 C8
section
variable {P : Program} {w : World} {K : PySem.W.Frag} {mg : Str → Option Value} {base : Heap}
/-! ### statements -/
def KnAt (H : Hp) (v : V) : Prop := ∃ a, v = .ref a ∧ (H a = some (.lst []) ∨ H a = some (.tup []))
theorem KnAt.to {H H' : Hp} {v : V} (k : KnAt H v) (s : Same H H') : KnAt H' v := by
  obtain ⟨a, e, h⟩ := k
  exact ⟨a, e, h.imp (s _ _) (s _ _)⟩
def Plain : Sx → Prop
  | .ite _ _ _ => False
  | _ => True
abbrev N_law_statement : List Str := ["_law_cell_here", "_law_names", "_law_assets", "_law_known", "_law_asks", "_law_kind", "_law_rest", "_law_pair"]
theorem sc_law_statement : FnScope N_law_statement ["_law_cell_here", "_law_names", "_law_assets", "_law_known", "_law_asks"] (defScope s_law_statement) := ⟨rfl, rfl, rfl, by decide +kernel, rfl, by decide +kernel, by decide +kernel⟩
def spStL : Sp := fun vs H Q _ => ∃ (c : Int) (nv av kv : V) (k : Int) (hv : Bool), vs = [.int c, nv, av, kv, .int k] ∧ NmAt H nv hv ∧ AsAt H av ∧ KnAt H kv ∧ ∀ (s : Sx) v H', Same H H' → Rp H' v (s.d false) → s.fit hv → Plain s → (isAsk s = true → 0 < k) → Q v H'
theorem ok_law_statement (T : Tx K mg) : Cal P w K mg base 4 "_law_statement" spStL [] := by
  have c_law_expression : Cal P w K mg base 3 "_law_expression" (spExL 3) [] := ok_law_expression T 3
  refine cal_of T 37 rfl T.g__law_statement sc_law_statement (fun _ _ _ _ _ _ us hl => match us, hl with | [_, _, _, _, _], _ => rfl) (fun vs H Q E h => ?_) (fun cdv A outer s H vs Q E hr h => ?_)
  · obtain ⟨_, _, _, _, _, _, rfl, _⟩ := h
    rfl
  obtain ⟨c, nv, av, kv, k, hv, rfl, ⟨na, rfl, hna⟩, ⟨aa, rfl, haa⟩, ⟨ka, rfl, hka⟩, q⟩ := h
  refine ⟨_, (pss_cons (ps_set (i := 5) sc_law_statement.nd rfl (Or.inl rfl) (pe_op op_mod (pe_callTy call_int1 (by rfl) T.f_int (by decide +kernel) (pa_cons (pv 0) pa_nil)) pe_int))
    (pss_cons (ps_set (i := 6) sc_law_statement.nd rfl (Or.inl rfl) (pe_op op_fdiv (pe_callTy call_int1 (by rfl) T.f_int (by decide +kernel) (pa_cons (pv 0) pa_nil)) pe_int))
    (pss_cons (ps_if (PW.pt (pw_and (pt_cmpR op_eq (pv 5) pe_int (nomark _)) (pw_and1 (pt_cmpR op_gt (pe_callB call_len_seq (by rfl) T.f_len (by decide +kernel) (pa_cons (pv 1) pa_nil)) pe_int (nomark _)))))
    (pss_one (ps_ret (pe_tup (pa_cons pe_str (pa_cons (pe_ix ix_list (pv 1) (pe_op op_mod (pv 6) (pe_callB call_len_seq (by rfl) T.f_len (by decide +kernel) (pa_cons (pv 1) pa_nil))) (fun _ _ => rfl)) (pa_cons (pe_c c_law_expression hr (by decide) rfl (pa_cons (pe_op op_fdiv (pv 6) pe_int) (pa_cons (pv 1) (pa_cons (pv 2) pa_nil)))) pa_nil))))))
    pss_nil)
    (pss_cons (ps_if (pt_cmpR op_eq (pv 5) pe_int (nomark _))
    (pss_one (ps_ret (pe_tup (pa_cons pe_str (pa_cons (pe_c c_law_expression hr (by decide) rfl (pa_cons (pv 6) (pa_cons (pv 1) (pa_cons (pv 2) pa_nil)))) pa_nil)))))
    pss_nil)
    (pss_cons (ps_if (PW.pt (pw_and (pt_cmpR op_lt (pv 5) pe_int (nomark _)) (pw_and1 (pt_cmpR op_gt (pe_callB call_len_seq (by rfl) T.f_len (by decide +kernel) (pa_cons (pv 2) pa_nil)) pe_int (nomark _)))))
    (pss_one (ps_ret (pe_tup (pa_cons (pe_ix ix_tup (pe_tup (pa_cons pe_str (pa_cons pe_str pa_nil))) (pe_op op_mod (pv 6) pe_int) (fun _ _ => rfl)) (pa_cons (pe_ix ix_list (pv 2) (pe_op op_mod (pe_op op_fdiv (pv 6) pe_int) (pe_callB call_len_seq (by rfl) T.f_len (by decide +kernel) (pa_cons (pv 2) pa_nil))) (fun _ _ => rfl)) (pa_cons (pe_c c_law_expression hr (by decide) rfl (pa_cons (pe_op op_fdiv (pv 6) pe_int) (pa_cons (pv 1) (pa_cons (pv 2) pa_nil)))) pa_nil))))))
    pss_nil)
    (pss_cons (ps_if (PW.pt (pw_and (pt_cmpR op_eq (pv 5) pe_int (nomark _)) (pw_and (pt_cmpR op_gt (pe_callB call_len_seq (by rfl) T.f_len (by decide +kernel) (pa_cons (pv 1) pa_nil)) pe_int (nomark _)) (pw_and1 (pt_cmpR op_gt (pv 4) pe_int (nomark _))))))
    (pss_one (ps_ret (pe_tup (pa_cons pe_str (pa_cons (pe_ix ix_list (pv 1) (pe_op op_mod (pv 6) (pe_callB call_len_seq (by rfl) T.f_len (by decide +kernel) (pa_cons (pv 1) pa_nil))) (fun _ _ => rfl)) (pa_cons (pe_op op_add pe_int (pe_op op_mod (pe_op op_fdiv (pv 6) pe_int) pe_int)) pa_nil))))))
    pss_nil)
    (pss_cons (ps_if (PW.pt (pw_and (pt_cmpR op_eq (pv 5) pe_int (nomark _)) (pw_and1 (pt_cmpR op_gt (pe_callB call_len_seq (by rfl) T.f_len (by decide +kernel) (pa_cons (pv 3) pa_nil)) pe_int (nomark _)))))
    pss_never
    pss_nil)
    (pss_one (ps_ret (pe_ifExp (pt_cmpR op_gt (pe_callB call_len_seq (by rfl) T.f_len (by decide +kernel) (pa_cons (pv 1) pa_nil)) pe_int (nomark _)) (pe_tup (pa_cons pe_str (pa_cons (pe_ix ix_list (pv 1) pe_int (fun _ _ => rfl)) (pa_cons (pe_tup (pa_cons pe_str (pa_cons (pe_op op_mod (pv 6) pe_int) pa_nil))) pa_nil)))) (pe_tup (pa_cons pe_str (pa_cons (pe_tup (pa_cons pe_str (pa_cons pe_int pa_nil))) pa_nil))))))))))))), ?_⟩
  have r0 := Int.emod_nonneg c (show (7 : Int) ≠ 0 by decide)
  have r1 := Int.emod_lt_of_pos c (show (0 : Int) < 7 by decide)
  have bd : ∀ x : Int, bnd 3 x := fun x => ⟨fun z => absurd z (by decide), fun z => absurd z (by decide)⟩
  have nd : ∀ (m : Int), c % 7 ≠ m → ¬ (V.int (c % 7) = V.int m) := fun m h z => h (V.int.inj z)
  have hka' : SqL K H ka [] ∨ SqT K H ka [] := hka.imp (fun z => SqL.of z) (fun z => SqT.tp z)
  refine ⟨_, rfl, .inl ⟨_, rfl, _, _, rfl, rfl, (show (0 : Int) < 7 by decide), ?_⟩⟩
  refine ⟨_, rfl, .inl ⟨_, rfl, _, _, rfl, rfl, ⟨(show (0 : Int) < 7 by decide), (show (7 : Int) < 1073741824 by decide)⟩, ?_⟩⟩
  -- set
  by_cases k0 : c % 7 = 0
  · refine ⟨_, rfl, rfl, _, rfl, ifY (congrArg V.int k0) ?_⟩
    cases hv with
    | true =>
      refine ⟨_, rfl, na, _, rfl, .inl (SqL.of hna), _, _, rfl, rfl, _, rfl, ifY (show (0 : Int) < 1 by decide) ?_⟩
      refine ⟨_, rfl, _, rfl, _, rfl, na, _, rfl, .inl (SqL.of hna), _, _, rfl, rfl, (show (0 : Int) < 1 by decide), na, _, _, _, rfl, rfl, SqL.of hna, one_at, _, rfl, _, _, rfl, rfl, ⟨(show (0 : Int) < 6 by decide), (show (6 : Int) < 1073741824 by decide)⟩, _, rfl, _, rfl, ?_⟩
      refine ⟨_, .ref na, .ref aa, true, rfl, by decide, by decide, bd _, ⟨na, rfl, hna⟩, ⟨aa, rfl, haa⟩, fun e v1 H1 s2 he oke de => ⟨(by show 3 ≤ sizeLine; decide), fun p hp => ?_⟩⟩
      exact q (.sm (.set e)) _ _ (s2.trans (same_new hp _)) (.tup upd_same (.cons (.str _) (.cons (.str _) (.cons (he.to (same_new hp _)) .nil)))) ⟨rfl, ⟨oke, by omega⟩⟩ True.intro (fun z => nomatch z)
    | false =>
      refine ⟨_, rfl, na, _, rfl, .inl (SqL.of hna), _, _, rfl, rfl, _, rfl, ifN (show ¬ ((0 : Int) < 0) by decide) ?_⟩
      refine ⟨_, rfl, rfl, _, rfl, ifN (nd 1 (by omega)) ?_⟩
      refine ⟨_, rfl, _, _, rfl, rfl, _, rfl, ifY (show c % 7 < 4 by omega) ?_⟩
      refine ⟨_, rfl, aa, _, rfl, .inl (SqL.of haa), _, _, rfl, rfl, _, rfl, ifY (show (0 : Int) < 1 by decide) ?_⟩
      refine ⟨(by show 2 ≤ sizeLine; decide), fun p1 hp1 => ?_⟩
      have s1 := same_new hp1 (.tup [.str "give", .str "get"])
      have h0 := Int.emod_nonneg (c / 7) (show (2 : Int) ≠ 0 by decide)
      have h1 := Int.emod_lt_of_pos (c / 7) (show (0 : Int) < 2 by decide)
      rcases two_at (x := .str "give") (y := .str "get") h0 h1 with ea | ea
      · refine ⟨_, rfl, _, _, rfl, rfl, (show (0 : Int) < 2 by decide), p1, _, _, _, rfl, rfl, SqT.tp upd_same, ea, _, rfl, _, rfl, _, _, rfl, rfl, ⟨(show (0 : Int) < 2 by decide), (show (2 : Int) < 1073741824 by decide)⟩, _, rfl, aa, _, rfl, .inl (SqL.of (s1 _ _ haa)), _, _, rfl, rfl, (show (0 : Int) < 1 by decide), aa, _, _, _, rfl, rfl, SqL.of (s1 _ _ haa), one_at, _, rfl, _, _, rfl, rfl, ⟨(show (0 : Int) < 6 by decide), (show (6 : Int) < 1073741824 by decide)⟩, _, rfl, _, rfl, ?_⟩
        refine ⟨_, .ref na, .ref aa, false, rfl, by decide, by decide, bd _, ⟨na, rfl, s1 _ _ hna⟩, ⟨aa, rfl, s1 _ _ haa⟩, fun e v1 H1 s2 he oke de => ⟨(by show 3 ≤ sizeLine; decide), fun p hp => ?_⟩⟩
        exact q (.sm (.give e)) _ _ ((s1.trans s2).trans (same_new hp _)) (.tup upd_same (.cons (.str _) (.cons (.str _) (.cons (he.to (same_new hp _)) .nil)))) ⟨oke, by omega⟩ True.intro (fun z => nomatch z)
      · refine ⟨_, rfl, _, _, rfl, rfl, (show (0 : Int) < 2 by decide), p1, _, _, _, rfl, rfl, SqT.tp upd_same, ea, _, rfl, _, rfl, _, _, rfl, rfl, ⟨(show (0 : Int) < 2 by decide), (show (2 : Int) < 1073741824 by decide)⟩, _, rfl, aa, _, rfl, .inl (SqL.of (s1 _ _ haa)), _, _, rfl, rfl, (show (0 : Int) < 1 by decide), aa, _, _, _, rfl, rfl, SqL.of (s1 _ _ haa), one_at, _, rfl, _, _, rfl, rfl, ⟨(show (0 : Int) < 6 by decide), (show (6 : Int) < 1073741824 by decide)⟩, _, rfl, _, rfl, ?_⟩
        refine ⟨_, .ref na, .ref aa, false, rfl, by decide, by decide, bd _, ⟨na, rfl, s1 _ _ hna⟩, ⟨aa, rfl, s1 _ _ haa⟩, fun e v1 H1 s2 he oke de => ⟨(by show 3 ≤ sizeLine; decide), fun p hp => ?_⟩⟩
        exact q (.sm (.get e)) _ _ ((s1.trans s2).trans (same_new hp _)) (.tup upd_same (.cons (.str _) (.cons (.str _) (.cons (he.to (same_new hp _)) .nil)))) ⟨oke, by omega⟩ True.intro (fun z => nomatch z)
  refine ⟨_, rfl, rfl, _, rfl, ifN (nd 0 (by omega)) ?_⟩
  refine iteF ?_
  by_cases k1 : c % 7 = 1
  · refine ⟨_, rfl, rfl, _, rfl, ifY (congrArg V.int k1) ?_⟩
    refine ⟨_, rfl, _, rfl, _, rfl, ?_⟩
    refine ⟨_, .ref na, .ref aa, hv, rfl, by decide, by decide, bd _, ⟨na, rfl, hna⟩, ⟨aa, rfl, haa⟩, fun e v1 H1 s2 he oke de => ⟨(by show 2 ≤ sizeLine; decide), fun p hp => ?_⟩⟩
    exact q (.sm (.need e)) _ _ (s2.trans (same_new hp _)) (.tup upd_same (.cons (.str _) (.cons (he.to (same_new hp _)) .nil))) ⟨oke, by omega⟩ True.intro (fun z => nomatch z)
  refine ⟨_, rfl, rfl, _, rfl, ifN (nd 1 (by omega)) ?_⟩
  by_cases k2 : c % 7 < 4
  · refine ⟨_, rfl, _, _, rfl, rfl, _, rfl, ifY (show c % 7 < 4 by omega) ?_⟩
    refine ⟨_, rfl, aa, _, rfl, .inl (SqL.of haa), _, _, rfl, rfl, _, rfl, ifY (show (0 : Int) < 1 by decide) ?_⟩
    refine ⟨(by show 2 ≤ sizeLine; decide), fun p1 hp1 => ?_⟩
    have s1 := same_new hp1 (.tup [.str "give", .str "get"])
    have h0 := Int.emod_nonneg (c / 7) (show (2 : Int) ≠ 0 by decide)
    have h1 := Int.emod_lt_of_pos (c / 7) (show (0 : Int) < 2 by decide)
    rcases two_at (x := .str "give") (y := .str "get") h0 h1 with ea | ea
    · refine ⟨_, rfl, _, _, rfl, rfl, (show (0 : Int) < 2 by decide), p1, _, _, _, rfl, rfl, SqT.tp upd_same, ea, _, rfl, _, rfl, _, _, rfl, rfl, ⟨(show (0 : Int) < 2 by decide), (show (2 : Int) < 1073741824 by decide)⟩, _, rfl, aa, _, rfl, .inl (SqL.of (s1 _ _ haa)), _, _, rfl, rfl, (show (0 : Int) < 1 by decide), aa, _, _, _, rfl, rfl, SqL.of (s1 _ _ haa), one_at, _, rfl, _, _, rfl, rfl, ⟨(show (0 : Int) < 6 by decide), (show (6 : Int) < 1073741824 by decide)⟩, _, rfl, _, rfl, ?_⟩
      refine ⟨_, .ref na, .ref aa, hv, rfl, by decide, by decide, bd _, ⟨na, rfl, s1 _ _ hna⟩, ⟨aa, rfl, s1 _ _ haa⟩, fun e v1 H1 s2 he oke de => ⟨(by show 3 ≤ sizeLine; decide), fun p hp => ?_⟩⟩
      exact q (.sm (.give e)) _ _ ((s1.trans s2).trans (same_new hp _)) (.tup upd_same (.cons (.str _) (.cons (.str _) (.cons (he.to (same_new hp _)) .nil)))) ⟨oke, by omega⟩ True.intro (fun z => nomatch z)
    · refine ⟨_, rfl, _, _, rfl, rfl, (show (0 : Int) < 2 by decide), p1, _, _, _, rfl, rfl, SqT.tp upd_same, ea, _, rfl, _, rfl, _, _, rfl, rfl, ⟨(show (0 : Int) < 2 by decide), (show (2 : Int) < 1073741824 by decide)⟩, _, rfl, aa, _, rfl, .inl (SqL.of (s1 _ _ haa)), _, _, rfl, rfl, (show (0 : Int) < 1 by decide), aa, _, _, _, rfl, rfl, SqL.of (s1 _ _ haa), one_at, _, rfl, _, _, rfl, rfl, ⟨(show (0 : Int) < 6 by decide), (show (6 : Int) < 1073741824 by decide)⟩, _, rfl, _, rfl, ?_⟩
      refine ⟨_, .ref na, .ref aa, hv, rfl, by decide, by decide, bd _, ⟨na, rfl, s1 _ _ hna⟩, ⟨aa, rfl, s1 _ _ haa⟩, fun e v1 H1 s2 he oke de => ⟨(by show 3 ≤ sizeLine; decide), fun p hp => ?_⟩⟩
      exact q (.sm (.get e)) _ _ ((s1.trans s2).trans (same_new hp _)) (.tup upd_same (.cons (.str _) (.cons (.str _) (.cons (he.to (same_new hp _)) .nil)))) ⟨oke, by omega⟩ True.intro (fun z => nomatch z)
  refine ⟨_, rfl, _, _, rfl, rfl, _, rfl, ifN (show ¬ c % 7 < 4 by omega) ?_⟩
  refine iteF ?_
  by_cases k4 : c % 7 = 4
  · refine ⟨_, rfl, rfl, _, rfl, ifY (congrArg V.int k4) ?_⟩
    cases hv with
    | true =>
      refine ⟨_, rfl, na, _, rfl, .inl (SqL.of hna), _, _, rfl, rfl, _, rfl, ifY (show (0 : Int) < 1 by decide) ?_⟩
      refine ⟨_, rfl, _, _, rfl, rfl, _, rfl, ?_⟩
      refine if2 (fun ka0 => ?_) (fun ka0 => ?_)
      · refine ⟨_, rfl, _, rfl, _, rfl, na, _, rfl, .inl (SqL.of hna), _, _, rfl, rfl, (show (0 : Int) < 1 by decide), na, _, _, _, rfl, rfl, SqL.of hna, one_at, _, rfl, _, _, rfl, rfl, ⟨(show (0 : Int) < 6 by decide), (show (6 : Int) < 1073741824 by decide)⟩, _, _, rfl, rfl, (show (0 : Int) < 2 by decide), _, _, rfl, rfl, (by show 3 ≤ sizeLine; decide), fun p hp => ?_⟩
        have h0 := Int.emod_nonneg (c / 7 / 6) (show (2 : Int) ≠ 0 by decide)
        have h1 := Int.emod_lt_of_pos (c / 7 / 6) (show (0 : Int) < 2 by decide)
        exact q (.ask (1 + c / 7 / 6 % 2)) _ _ (same_new hp _) (.tup upd_same (.cons (.str _) (.cons (.str _) (.cons (.int _) .nil)))) ⟨rfl, by omega, by omega⟩ True.intro (fun _ => ka0)
      · refine ⟨_, rfl, rfl, _, rfl, ifN (nd 5 (by omega)) ?_⟩
        refine iteF ?_
        refine ⟨_, rfl, na, _, rfl, .inl (SqL.of hna), _, _, rfl, rfl, _, rfl, ifY (show (0 : Int) < 1 by decide) ?_⟩
        refine ⟨_, rfl, na, _, 0, _, rfl, rfl, SqL.of hna, rfl, _, rfl, _, _, rfl, rfl, (show (0 : Int) < 3 by decide), (by show 2 ≤ sizeLine; decide), fun p1 hp1 => ⟨(by show 3 ≤ sizeLine; decide), fun p hp => ?_⟩⟩
        have h0 := Int.emod_nonneg (c / 7) (show (3 : Int) ≠ 0 by decide)
        have h1 := Int.emod_lt_of_pos (c / 7) (show (0 : Int) < 3 by decide)
        exact q (.sm (.set (.num (c / 7 % 3)))) _ _ ((same_new hp1 _).trans (same_new hp _)) (.tup upd_same (.cons (.str _) (.cons (.str _) (.cons (.tup (same_new hp _ _ _ upd_same) (.cons (.str _) (.cons (.int _) .nil))) .nil)))) ⟨rfl, ⟨⟨h0, by omega⟩, (show 0 < 4 by decide)⟩⟩ True.intro (fun z => nomatch z)
    | false =>
      refine ⟨_, rfl, na, _, rfl, .inl (SqL.of hna), _, _, rfl, rfl, _, rfl, ifN (show ¬ ((0 : Int) < 0) by decide) ?_⟩
      refine iteF ?_
      refine ⟨_, rfl, rfl, _, rfl, ifN (nd 5 (by omega)) ?_⟩
      refine iteF ?_
      refine ⟨_, rfl, na, _, rfl, .inl (SqL.of hna), _, _, rfl, rfl, _, rfl, ifN (show ¬ ((0 : Int) < 0) by decide) ?_⟩
      refine ⟨(by show 2 ≤ sizeLine; decide), fun p1 hp1 => ⟨(by show 2 ≤ sizeLine; decide), fun p hp => ?_⟩⟩
      exact q (.sm (.need (.num 1))) _ _ ((same_new hp1 _).trans (same_new hp _)) (.tup upd_same (.cons (.str _) (.cons (.tup (same_new hp _ _ _ upd_same) (.cons (.str _) (.cons (.int _) .nil))) .nil))) ⟨⟨(by decide), (by decide)⟩, (show 0 < 4 by decide)⟩ True.intro (fun z => nomatch z)
  refine ⟨_, rfl, rfl, _, rfl, ifN (nd 4 (by omega)) ?_⟩
  refine iteF ?_
  by_cases k5 : c % 7 = 5
  · refine ⟨_, rfl, rfl, _, rfl, ifY (congrArg V.int k5) ?_⟩
    refine ⟨_, rfl, ka, [], rfl, hka', _, _, rfl, rfl, _, rfl, ifN (show ¬ ((0 : Int) < 0) by decide) ?_⟩
    cases hv with
    | true =>
      refine ⟨_, rfl, na, _, rfl, .inl (SqL.of hna), _, _, rfl, rfl, _, rfl, ifY (show (0 : Int) < 1 by decide) ?_⟩
      refine ⟨_, rfl, na, _, 0, _, rfl, rfl, SqL.of hna, rfl, _, rfl, _, _, rfl, rfl, (show (0 : Int) < 3 by decide), (by show 2 ≤ sizeLine; decide), fun p1 hp1 => ⟨(by show 3 ≤ sizeLine; decide), fun p hp => ?_⟩⟩
      have h0 := Int.emod_nonneg (c / 7) (show (3 : Int) ≠ 0 by decide)
      have h1 := Int.emod_lt_of_pos (c / 7) (show (0 : Int) < 3 by decide)
      exact q (.sm (.set (.num (c / 7 % 3)))) _ _ ((same_new hp1 _).trans (same_new hp _)) (.tup upd_same (.cons (.str _) (.cons (.str _) (.cons (.tup (same_new hp _ _ _ upd_same) (.cons (.str _) (.cons (.int _) .nil))) .nil)))) ⟨rfl, ⟨⟨h0, by omega⟩, (show 0 < 4 by decide)⟩⟩ True.intro (fun z => nomatch z)
    | false =>
      refine ⟨_, rfl, na, _, rfl, .inl (SqL.of hna), _, _, rfl, rfl, _, rfl, ifN (show ¬ ((0 : Int) < 0) by decide) ?_⟩
      refine ⟨(by show 2 ≤ sizeLine; decide), fun p1 hp1 => ⟨(by show 2 ≤ sizeLine; decide), fun p hp => ?_⟩⟩
      exact q (.sm (.need (.num 1))) _ _ ((same_new hp1 _).trans (same_new hp _)) (.tup upd_same (.cons (.str _) (.cons (.tup (same_new hp _ _ _ upd_same) (.cons (.str _) (.cons (.int _) .nil))) .nil))) ⟨⟨(by decide), (by decide)⟩, (show 0 < 4 by decide)⟩ True.intro (fun z => nomatch z)
  refine ⟨_, rfl, rfl, _, rfl, ifN (nd 5 (by omega)) ?_⟩
  refine iteF ?_
  cases hv with
  | true =>
    refine ⟨_, rfl, na, _, rfl, .inl (SqL.of hna), _, _, rfl, rfl, _, rfl, ifY (show (0 : Int) < 1 by decide) ?_⟩
    refine ⟨_, rfl, na, _, 0, _, rfl, rfl, SqL.of hna, rfl, _, rfl, _, _, rfl, rfl, (show (0 : Int) < 3 by decide), (by show 2 ≤ sizeLine; decide), fun p1 hp1 => ⟨(by show 3 ≤ sizeLine; decide), fun p hp => ?_⟩⟩
    have h0 := Int.emod_nonneg (c / 7) (show (3 : Int) ≠ 0 by decide)
    have h1 := Int.emod_lt_of_pos (c / 7) (show (0 : Int) < 3 by decide)
    exact q (.sm (.set (.num (c / 7 % 3)))) _ _ ((same_new hp1 _).trans (same_new hp _)) (.tup upd_same (.cons (.str _) (.cons (.str _) (.cons (.tup (same_new hp _ _ _ upd_same) (.cons (.str _) (.cons (.int _) .nil))) .nil)))) ⟨rfl, ⟨⟨h0, by omega⟩, (show 0 < 4 by decide)⟩⟩ True.intro (fun z => nomatch z)
  | false =>
    refine ⟨_, rfl, na, _, rfl, .inl (SqL.of hna), _, _, rfl, rfl, _, rfl, ifN (show ¬ ((0 : Int) < 0) by decide) ?_⟩
    refine ⟨(by show 2 ≤ sizeLine; decide), fun p1 hp1 => ⟨(by show 2 ≤ sizeLine; decide), fun p hp => ?_⟩⟩
    exact q (.sm (.need (.num 1))) _ _ ((same_new hp1 _).trans (same_new hp _)) (.tup upd_same (.cons (.str _) (.cons (.tup (same_new hp _ _ _ upd_same) (.cons (.str _) (.cons (.int _) .nil))) .nil))) ⟨⟨(by decide), (by decide)⟩, (show 0 < 4 by decide)⟩ True.intro (fun z => nomatch z)
end
end Nc

-- Q4
set_option maxHeartbeats 4000000
namespace Nc
open PySem L2 C8
section
variable {P : Program} {w : World} {K : PySem.W.Frag} {mg : Str → Option Value} {base : Heap}
/-! ### bodies -/
abbrev N_law_body : List Str := ["_law_cells", "_law_names", "_law_assets", "_law_known", "_law_asks", "_law_block", "_law_left", "_law_cell_here", "_law_inner", "_law_other", "_law_statement_here"]
theorem sc_law_body : FnScope N_law_body ["_law_cells", "_law_names", "_law_assets", "_law_known", "_law_asks"] (defScope s_law_body) := ⟨rfl, rfl, rfl, by decide +kernel, rfl, by decide +kernel, by decide +kernel⟩
def spBoL : Sp := fun vs H Q _ => ∃ (ca : Addr) (cs : List Int) (nv av kv : V) (k : Int) (hv : Bool), vs = [.ref ca, nv, av, kv, .int k] ∧ H ca = some (.lst (cs.map V.int)) ∧ cs.length ≤ 10 ∧ NmAt H nv hv ∧ AsAt H av ∧ KnAt H kv ∧
  ∀ (t : Addr) (v : V) (k' : Int) (l : List Sx) (H' : Hp), Same H H' → H' t = some (.tup [v, .int k']) → Rp H' v (blkD false l) → l.length = cs.length → (∀ s ∈ l, s.fit hv) → Q (.ref t) H'
theorem plain_sm {s : Sx} (p : Plain s) (a : isAsk s = true → (0 : Int) < 0) : ∃ m, s = .sm m := by
  cases s with
  | sm m => exact ⟨m, rfl⟩
  | ask n => exact absurd (a rfl) (by decide)
  | ite e t f => exact p.elim
theorem ok_law_body (T : Tx K mg) : Cal P w K mg base 5 "_law_body" spBoL [] := by
  have c_law_expression : Cal P w K mg base 3 "_law_expression" (spExL 3) [] := ok_law_expression T 3
  have c_law_statement : Cal P w K mg base 4 "_law_statement" spStL [] := ok_law_statement T
  refine cal_of T 38 rfl T.g__law_body sc_law_body (fun _ _ _ _ _ _ us hl => match us, hl with | [_, _, _, _, _], _ => rfl) (fun vs H Q E h => ?_) (fun cdv A outer s H vs Q E hr h => ?_)
  · obtain ⟨_, _, _, _, _, _, _, rfl, _⟩ := h
    rfl
  obtain ⟨ca, cs, nv, av, kv, k, hv, rfl, hca, lcs, hnv, hav, hkv, q⟩ := h
  refine ⟨_, (pss_cons (ps_set (i := 5) sc_law_body.nd rfl (Or.inl rfl) (pe_lst pa_nil))
    (pss_cons (ps_set (i := 6) sc_law_body.nd rfl (Or.inl rfl) (pv 4))
    (pss_cons (ps_for PassesOwn.never rfl (pi_list (pv 0)) (pg_name (i := 7) sc_law_body.nd rfl (Or.inl rfl))
    (pss_one (ps_if (PW.pt (pw_and (pt_cmpR op_eq (pe_op op_mod (pe_callTy call_int1 (by rfl) T.f_int (by decide +kernel) (pa_cons (pv 7) pa_nil)) pe_int) pe_int (nomark _)) (pw_and1 (pt_cmpR op_gt (pe_callB call_len_seq (by rfl) T.f_len (by decide +kernel) (pa_cons (pv 0) pa_nil)) pe_int (nomark _)))))
    (pss_cons (ps_set (i := 8) sc_law_body.nd rfl (Or.inl rfl) (pe_c c_law_statement hr (by decide) rfl (pa_cons (pe_op op_fdiv (pe_callTy call_int1 (by rfl) T.f_int (by decide +kernel) (pa_cons (pv 7) pa_nil)) pe_int) (pa_cons (pv 1) (pa_cons (pv 2) (pa_cons (pe_tup pa_nil) (pa_cons pe_int pa_nil)))))))
    (pss_cons (ps_set (i := 9) sc_law_body.nd rfl (Or.inl rfl) (pe_tup pa_nil))
    (pss_cons (ps_if (pt_cmpR op_eq (pe_op op_mod (pe_op op_fdiv (pe_callTy call_int1 (by rfl) T.f_int (by decide +kernel) (pa_cons (pv 7) pa_nil)) pe_int) pe_int) pe_int (nomark _))
    (pss_one (ps_set (i := 9) sc_law_body.nd rfl (Or.inl rfl) (pe_tup (pa_cons (pe_c c_law_statement hr (by decide) rfl (pa_cons (pe_op op_fdiv (pe_callTy call_int1 (by rfl) T.f_int (by decide +kernel) (pa_cons (pv 7) pa_nil)) pe_int) (pa_cons (pv 1) (pa_cons (pv 2) (pa_cons (pe_tup pa_nil) (pa_cons pe_int pa_nil)))))) pa_nil))))
    pss_nil)
    (pss_one (ps_expr (pe_bm PySem.F.plainAttrs_list PySem.F.slot_list_append PySem.F.type_list_append mt_append (pv 5) (pa_cons (pe_tup (pa_cons pe_str (pa_cons (pe_c c_law_expression hr (by decide) rfl (pa_cons (pe_op op_fdiv (pe_callTy call_int1 (by rfl) T.f_int (by decide +kernel) (pa_cons (pv 7) pa_nil)) pe_int) (pa_cons (pv 1) (pa_cons (pv 2) pa_nil)))) (pa_cons (pe_tup (pa_cons (pv 8) pa_nil)) (pa_cons (pv 9) pa_nil))))) pa_nil)))))))
    (pss_cons (ps_set (i := 10) sc_law_body.nd rfl (Or.inl rfl) (pe_c c_law_statement hr (by decide) rfl (pa_cons (pe_op op_fdiv (pe_callTy call_int1 (by rfl) T.f_int (by decide +kernel) (pa_cons (pv 7) pa_nil)) pe_int) (pa_cons (pv 1) (pa_cons (pv 2) (pa_cons (pv 3) (pa_cons (pv 6) pa_nil)))))))
    (pss_cons (ps_set (i := 6) sc_law_body.nd rfl (Or.inl rfl) (pe_op op_sub (pv 6) (pe_callTy call_int1 (by rfl) T.f_int (by decide +kernel) (pa_cons (pe_cmpR op_eq (pe_ix ix_tup (pv 10) pe_int (fun _ _ => rfl)) pe_str (nomark _)) pa_nil))))
    (pss_one (ps_expr (pe_bm PySem.F.plainAttrs_list PySem.F.slot_list_append PySem.F.type_list_append mt_append (pv 5) (pa_cons (pv 10) pa_nil)))))))))
    (pss_one (ps_ret (pe_tup (pa_cons (pe_callTy call_tuple_of (by rfl) T.f_tuple (by decide +kernel) (pa_cons (pv 5) pa_nil)) (pa_cons (pv 6) pa_nil)))))))), ?_⟩
  have bd : ∀ x : Int, bnd 3 x := fun x => ⟨fun z => absurd z (by decide), fun z => absurd z (by decide)⟩
  refine ⟨by show 0 ≤ sizeLine; decide, fun B nB => ?_⟩
  have s1 := same_new nB (.lst [])
  have d11 : (0 : Int) < 11 ∧ (11 : Int) < 1073741824 := by decide
  have d22 : (0 : Int) < 22 ∧ (22 : Int) < 1073741824 := by decide
  have d77 : (0 : Int) < 77 ∧ (77 : Int) < 1073741824 := by decide
  refine ⟨_, rfl, _, rfl, ca, rfl, ⟨_, SqL.of (s1 _ _ hca)⟩, for_list (xs := cs.map V.int) (fun i σ H' => ∃ (k' : Int) (l : List Sx) (ws : List V) (v7 v8 v9 v10 : Option V), σ = [some (.ref ca), some nv, some av, some kv, some (.int k), some (.ref B), some (.int k'), v7, v8, v9, v10] ∧ Same H H' ∧ H' B = some (.lst ws) ∧ Rps H' ws (l.map (Sx.d false)) ∧ l.length = i ∧ ∀ s ∈ l, s.fit hv)
    ⟨k, [], [], none, none, none, none, rfl, s1, upd_same, .nil, rfl, fun _ z => (List.not_mem_nil z).elim⟩ (fun i σ H' _ ⟨_, _, _, _, _, _, _, _, s2, _⟩ => SqL.of (s2 _ _ hca)) ?_ ?_⟩
  · rintro i x σ H' hi ⟨k', l, ws, v7, v8, v9, v10, rfl, s2, gB, hws, ll, hl⟩
    rw [List.getElem?_map] at hi
    obtain ⟨c, hc, rfl⟩ := Option.map_eq_some_iff.mp hi
    have il : i < 10 := by have := lt_of_get hc; omega
    have lws : ws.length = i := by rw [Rps.length hws, List.length_map, ll]
    -- one more statement
    have next : ∀ (s : Sx) (v : V) (H2 : Hp), Same H' H2 → Rp H2 v (s.d false) → s.fit hv → Same H (upd H2 B (.lst (ws ++ [v]))) ∧ (upd H2 B (.lst (ws ++ [v]))) B = some (.lst (ws ++ [v])) ∧ Rps (upd H2 B (.lst (ws ++ [v]))) (ws ++ [v]) ((l ++ [s]).map (Sx.d false)) ∧ (l ++ [s]).length = i + 1 ∧ ∀ z ∈ l ++ [s], z.fit hv := by
      intro s v H2 s3 hv2 hf
      have ts : TpS H2 (upd H2 B (.lst (ws ++ [v]))) := (TpS.refl _).upd (by rw [s3 _ _ gB]; exact id)
      refine ⟨same_mut (s2.trans s3) nB, upd_same, ?_, by rw [len_snoc, ll], fun z hz => ?_⟩
      · rw [List.map_append]
        exact (Rps.ts ts _ _ (hws.to s3)).append (.cons (Rp.ts ts _ _ hv2) .nil)
      · rcases List.mem_append.mp hz with z' | z'
        · exact hl z z'
        · rw [List.mem_singleton.mp z']; exact hf
    have hnv' := hnv.to s2
    have hav' := hav.to s2
    have hkv' := hkv.to s2
    refine ⟨_, rfl, .inl ⟨_, rfl, _, _, rfl, rfl, d11.1, rfl, _, rfl, ?_⟩⟩
    refine if2 (fun k5 => ?_) (fun k5 => ?_)
    · refine ⟨_, rfl, ca, _, rfl, .inl (SqL.of (s2 _ _ hca)), _, _, rfl, rfl, _, rfl, ?_⟩
      refine if2 (fun _ => ?_) (fun _ => ?_)
      · -- if
        refine ⟨_, rfl, .inl ⟨_, rfl, _, _, rfl, rfl, d11, _, rfl, _, rfl, by show 0 ≤ sizeLine; decide, fun e1 he1 => ?_⟩⟩
        have s3 := same_new he1 (.tup [])
        refine ⟨_, nv, av, .ref e1, 0, hv, rfl, hnv'.to s3, hav'.to s3, ⟨e1, rfl, .inr upd_same⟩, fun st1 v1 H1 s4 h1 hf1 pl1 ak1 => ?_⟩
        obtain ⟨m1, rfl⟩ := plain_sm pl1 ak1
        refine ⟨by show 0 ≤ sizeLine; decide, fun e2 he2 => ?_⟩
        have s5 := same_new he2 (.tup [])
        refine ⟨_, rfl, .inl ⟨_, rfl, _, _, rfl, rfl, d11, _, _, rfl, rfl, (show (0 : Int) < 2 by decide), rfl, _, rfl, ?_⟩⟩
        refine if2 (fun _ => ?_) (fun _ => ?_)
        · refine ⟨_, rfl, .inl ⟨_, rfl, _, _, rfl, rfl, d77, _, rfl, _, rfl, by show 0 ≤ sizeLine; decide, fun e3 he3 => ?_⟩⟩
          have s6 := ((s3.trans s4).trans s5).trans (same_new he3 (.tup []))
          refine ⟨_, nv, av, .ref e3, 0, hv, rfl, hnv'.to s6, hav'.to s6, ⟨e3, rfl, .inr upd_same⟩, fun st2 v2 H2 s7 h2 hf2 pl2 ak2 => ?_⟩
          obtain ⟨m2, rfl⟩ := plain_sm pl2 ak2
          refine ⟨by show 1 ≤ sizeLine; decide, fun e4 he4 => ?_⟩
          have s8 := same_new he4 (.tup [v2])
          have SA := (s6.trans s7).trans s8
          have h1A : Rp (upd H2 e4 (.tup [v2])) v1 (m1.d false) := (Rp.to h1 s5).to (((same_new he3 (.tup [])).trans s7).trans s8)
          refine ⟨_, rfl, .inl ⟨rfl, _, SqL.of (SA _ _ gB)⟩, _, rfl, .inl ⟨_, rfl, _, _, rfl, rfl, d22, _, rfl, _, rfl, ?_⟩⟩
          refine ⟨_, nv, av, hv, rfl, by decide, by decide, bd _, hnv'.to SA, hav'.to SA, fun e v3 H3 s3 he oke de => ?_⟩
          refine ⟨_, rfl, (by show 1 ≤ sizeLine; decide), fun p1 hp1 => ⟨_, rfl, (by show 4 ≤ sizeLine; decide), fun p hp => ?_⟩⟩
          have sB := s3.trans ((same_new hp1 (.tup [v1])).trans (same_new hp (.tup [.str "if", v3, .ref p1, .ref e4])))
          refine ⟨B, ws, _, rfl, rfl, (SA.trans sB) _ _ gB, szl _ (by omega), ?_⟩
          have sm : Rp (upd (upd H3 p1 (.tup [v1])) p (.tup [.str "if", v3, .ref p1, .ref e4])) (.ref p) ((Sx.ite e [m1] [m2]).d false) := .tup upd_same (.cons (.str _) (.cons (he.to ((same_new hp1 _).trans (same_new hp _))) (.cons (.tup (same_new hp _ _ _ upd_same) (.cons (h1A.to sB) .nil)) (.cons (Rp.to ((.tup upd_same (.cons (Rp.to h2 s8) .nil) : Rp (upd H2 e4 (.tup [v2])) (.ref e4) (.tuple ([m2].map (Sm.d false))))) sB) .nil))))
          obtain ⟨z1, z2, z3, z4, z5⟩ := next (.ite e [m1] [m2]) (.ref p) _ (SA.trans sB) sm ⟨⟨oke, by omega⟩, (show 1 ≤ 1 by decide), (show 1 ≤ 1 by decide), fun z hz => by rw [List.mem_singleton.mp hz]; exact hf1, fun z hz => by rw [List.mem_singleton.mp hz]; exact hf2⟩
          exact ⟨_, _, _, _, _, _, _, rfl, z1, z2, z3, z4, z5⟩
        · have SA := (s3.trans s4).trans s5
          have h1A : Rp (upd H1 e2 (.tup [])) v1 (m1.d false) := Rp.to h1 s5
          refine ⟨_, rfl, .inl ⟨rfl, _, SqL.of (SA _ _ gB)⟩, _, rfl, .inl ⟨_, rfl, _, _, rfl, rfl, d22, _, rfl, _, rfl, ?_⟩⟩
          refine ⟨_, nv, av, hv, rfl, by decide, by decide, bd _, hnv'.to SA, hav'.to SA, fun e v3 H3 s3 he oke de => ?_⟩
          refine ⟨_, rfl, (by show 1 ≤ sizeLine; decide), fun p1 hp1 => ⟨_, rfl, (by show 4 ≤ sizeLine; decide), fun p hp => ?_⟩⟩
          have sB := s3.trans ((same_new hp1 (.tup [v1])).trans (same_new hp (.tup [.str "if", v3, .ref p1, .ref e2])))
          refine ⟨B, ws, _, rfl, rfl, (SA.trans sB) _ _ gB, szl _ (by omega), ?_⟩
          have sm : Rp (upd (upd H3 p1 (.tup [v1])) p (.tup [.str "if", v3, .ref p1, .ref e2])) (.ref p) ((Sx.ite e [m1] []).d false) := .tup upd_same (.cons (.str _) (.cons (he.to ((same_new hp1 _).trans (same_new hp _))) (.cons (.tup (same_new hp _ _ _ upd_same) (.cons (h1A.to sB) .nil)) (.cons (Rp.to ((.tup upd_same .nil : Rp (upd H1 e2 (.tup [])) (.ref e2) (.tuple (([] : List Sm).map (Sm.d false))))) sB) .nil))))
          obtain ⟨z1, z2, z3, z4, z5⟩ := next (.ite e [m1] []) (.ref p) _ (SA.trans sB) sm ⟨⟨oke, by omega⟩, (show 1 ≤ 1 by decide), (show 0 ≤ 1 by decide), fun z hz => by rw [List.mem_singleton.mp hz]; exact hf1, fun z hz => (List.not_mem_nil hz).elim⟩
          exact ⟨_, _, _, _, _, _, _, rfl, z1, z2, z3, z4, z5⟩
      · -- one cell
        refine ⟨_, rfl, .inl ⟨_, rfl, _, _, rfl, rfl, d11, _, rfl, _, rfl, _, rfl, _, rfl, ?_⟩⟩
        refine ⟨_, nv, av, kv, k', hv, rfl, hnv', hav', hkv', fun st v1 H1 s3 h1 hf1 _ _ => ?_⟩
        obtain ⟨y, ys, rfl, hy⟩ := sx_kind st h1
        have a0 : atI (V.str (sk st) :: ys) (0 : Int) = some (V.str (sk st)) := atI_nat (j := 0) rfl
        refine ⟨_, rfl, _, rfl, y, _, 0, _, rfl, rfl, SqT.tp hy, a0, rfl, .inr ⟨_, rfl, _, _, rfl, rfl, ?_⟩⟩
        refine ⟨_, rfl, .inl ⟨rfl, _, SqL.of (s3 _ _ gB)⟩, _, rfl, B, ws, _, rfl, rfl, s3 _ _ gB, szl _ (by omega), ?_⟩
        obtain ⟨z1, z2, z3, z4, z5⟩ := next st (.ref y) H1 s3 h1 hf1
        exact ⟨_, _, _, _, _, _, _, rfl, z1, z2, z3, z4, z5⟩
    · refine iteF ?_
      refine ⟨_, rfl, .inl ⟨_, rfl, _, _, rfl, rfl, d11, _, rfl, _, rfl, _, rfl, _, rfl, ?_⟩⟩
      refine ⟨_, nv, av, kv, k', hv, rfl, hnv', hav', hkv', fun st v1 H1 s3 h1 hf1 _ _ => ?_⟩
      obtain ⟨y, ys, rfl, hy⟩ := sx_kind st h1
      have a0 : atI (V.str (sk st) :: ys) (0 : Int) = some (V.str (sk st)) := atI_nat (j := 0) rfl
      refine ⟨_, rfl, _, rfl, y, _, 0, _, rfl, rfl, SqT.tp hy, a0, rfl, .inr ⟨_, rfl, _, _, rfl, rfl, ?_⟩⟩
      refine ⟨_, rfl, .inl ⟨rfl, _, SqL.of (s3 _ _ gB)⟩, _, rfl, B, ws, _, rfl, rfl, s3 _ _ gB, szl _ (by omega), ?_⟩
      obtain ⟨z1, z2, z3, z4, z5⟩ := next st (.ref y) H1 s3 h1 hf1
      exact ⟨_, _, _, _, _, _, _, rfl, z1, z2, z3, z4, z5⟩
  · rintro σ H' ⟨k', l, ws, v7, v8, v9, v10, rfl, s2, gB, hws, ll, hl⟩
    refine ⟨_, rfl, B, ws, rfl, .inl ⟨SqL.of gB, fun t1 ht1 => ⟨_, rfl, (by show 2 ≤ sizeLine; decide), fun t ht => ?_⟩⟩⟩
    have s3 := (same_new ht1 (.tup ws)).trans (same_new ht (.tup [.ref t1, .int k']))
    exact q t (.ref t1) k' l _ (s2.trans s3) upd_same (.tup (same_new ht _ _ _ upd_same) (hws.to s3)) (by rw [ll, List.length_map]) hl
end
end Nc

-- Q5
set_option maxHeartbeats 4000000
namespace Nc
open PySem L2 C8
abbrev rAdd : R2 := rI0 fun i j => .int (i + j)
abbrev rSub : R2 := rI0 fun i j => .int (i - j)
abbrev rMod : R2 := rI (fun _ j => 0 < j) fun i j => .int (i % j)
abbrev rMul : R2 := rI CMul fun i j => .int (i * j)
abbrev rGtI : R2 := rI0 fun i j => .bl (decide (j < i))
abbrev rInt1 : List V → Hp → VK → Prop := fun xs H Q => (∃ i, xs = [.int i] ∧ Q (.int i) H) ∨ ∃ k, xs = [.bl k] ∧ Q (.int (if k then 1 else 0)) H
abbrev rMin2I : List V → Hp → VK → Prop := fun xs H Q => ∃ i j, xs = [.int i, .int j] ∧ Q (.int (if j < i then j else i)) H
section
variable {P : Program} {w : World} {K : PySem.W.Frag} {mg : Str → Option Value} {base : Heap}
/-! ### contracts as they are drawn -/
abbrev N_law_contract : List Str := ["_law_name", "_law_cells", "_law_assets", "_law_known", "_law_asks", "_law_small", "_law_digits", "_law_names", "_law_k", "_law_variables", "_law_holds", "_law_procs", "_law_links", "_law_left", "_law_size", "_law_body_here", "_law_calls", "_law_asset", "_law_statement_here"]
theorem sc_law_contract : FnScope N_law_contract ["_law_name", "_law_cells", "_law_assets", "_law_known", "_law_asks", "_law_small"] (defScope s_law_contract) := ⟨rfl, rfl, rfl, by decide +kernel, rfl, by decide +kernel, by decide +kernel⟩
def pnS : Nat → Str
  | 0 => "p"
  | _ => "q"
def PrcG (H : Hp) (hv : Bool) (i : Nat) (x : V) : Prop := ∃ t s sh wb l, x = .ref t ∧ H t = some (.tup [.str (pnS i), .int s, .bl sh, wb]) ∧ 1 ≤ s ∧ s ≤ 3 ∧ Rp H wb (blkD false l) ∧ l.length ≤ 10 ∧ ∀ z ∈ l, z.fit hv
def HolG (H : Hp) (x : V) : Prop := ∃ t n, x = .ref t ∧ H t = some (.tup [.str "a", .int n]) ∧ 0 ≤ n
def GcAt (H : Hp) (v : V) (nm : Str) : Prop := ∃ (y w2 w3 : Addr) (w1 : V) (var : Option (Int × Int)) (hs ps : List V), v = .ref y ∧ H y = some (.tup [.str nm, w1, .ref w2, .ref w3]) ∧ Rp H w1 (varD var) ∧ (∀ p, var = some p → p.1 = 2 ∧ 0 ≤ p.2 ∧ p.2 ≤ 1) ∧ H w2 = some (.tup hs) ∧ hs.length ≤ 1 ∧ (∀ x ∈ hs, HolG H x) ∧
  H w3 = some (.tup ps) ∧ ps.length ≤ 2 ∧ ∀ (i : Nat) x, ps[i]? = some x → PrcG H var.isSome i x
theorem PrcG.ts {H H' : Hp} {hv : Bool} {i : Nat} {x : V} (k : PrcG H hv i x) (t : TpS H H') : PrcG H' hv i x := by
  obtain ⟨a, s, sh, wb, l, e, h1, h2, h3, h4, h5⟩ := k
  exact ⟨a, s, sh, wb, l, e, t.t _ _ h1, h2, h3, Rp.ts t _ _ h4, h5⟩
theorem HolG.ts {H H' : Hp} {x : V} (k : HolG H x) (t : TpS H H') : HolG H' x := by
  obtain ⟨a, n, e, h1, h2⟩ := k
  exact ⟨a, n, e, t.t _ _ h1, h2⟩
def spConL : Sp := fun vs H Q _ => ∃ (nm : Str) (ca ka : Addr) (c0 c1 c2 : Int) (av : V), vs = [.str nm, .ref ca, av, .ref ka, .int 2, .bl true] ∧ H ca = some (.lst [.int c0, .int c1, .int c2]) ∧ AsAt H av ∧ H ka = some (.lst []) ∧
  ∀ (t : Addr) (v lk k' : V) (H' : Hp), Same H H' → H' t = some (.tup [v, lk, k']) → GcAt H' v nm → Q (.ref t) H'
theorem dg_at {L : List Int} {k : Nat} (h : k < L.length) : (L.map V.int)[k]? = some (.int (L.getD k 0)) := by
  rw [List.getElem?_map, List.getD_eq_getElem?_getD]
  simp [h]
theorem dg_bd {L : List Int} {m : Int} (hL : ∀ x ∈ L, 0 ≤ x ∧ x < m) {k : Nat} (h : k < L.length) : 0 ≤ L.getD k 0 ∧ L.getD k 0 < m := by
  rw [List.getD_eq_getElem?_getD]
  have : L[k]? = some L[k] := by simp [h]
  rw [this]
  exact hL _ (List.getElem_mem h)
theorem nm_cut {d : Int} (h0 : 0 ≤ d) (h1 : d < 3) : cutV (cutV [.str "x", .str "y"] none (some d)) none (some 1) = if decide (0 < d) = true then [V.str "x"] else [] := by
  obtain ⟨k, rfl⟩ := Int.eq_ofNat_of_zero_le h0
  have hk : k < 3 := by omega
  match k, hk with
  | 0, _ => rfl
  | 1, _ => rfl
  | 2, _ => rfl
theorem three_at {i : Int} (h0 : 0 ≤ i) (h1 : i < 3) : ∃ s : Int, atI ([.int 1, .int 2, .int 3] : List V) i = some (.int s) ∧ 1 ≤ s ∧ s ≤ 3 := by
  obtain ⟨k, rfl⟩ := Int.eq_ofNat_of_zero_le h0
  have hk : k < 3 := by omega
  match k, hk with
  | 0, _ => exact ⟨1, rfl, by decide, by decide⟩
  | 1, _ => exact ⟨2, rfl, by decide, by decide⟩
  | 2, _ => exact ⟨3, rfl, by decide, by decide⟩
theorem ok_law_contract (T : Tx K mg) : Cal P w K mg base 6 "_law_contract" spConL [] := by
  have c_law_row : Cal P w K mg base 1 "_law_row" spRowL [] := ok_law_row T
  have c_law_body : Cal P w K mg base 5 "_law_body" spBoL [] := ok_law_body T
  refine cal_of T 39 rfl T.g__law_contract sc_law_contract (fun _ _ _ _ _ _ us hl => match us, hl with | [_, _, _, _, _, _], _ => rfl) (fun vs H Q E h => ?_) (fun cdv A outer s H vs Q E hr h => ?_)
  · obtain ⟨_, _, _, _, _, _, _, rfl, _⟩ := h
    rfl
  obtain ⟨nm, ca, ka, c0, c1, c2, av, rfl, hca, hav, hka, q⟩ := h
  refine ⟨_, (pss_cons (ps_set (i := 6) sc_law_contract.nd rfl (Or.inr rfl) (pe_c c_law_row hr (by decide) rfl (pa_cons (pe_ix ix_list (pv 1) pe_int (fun _ _ => rfl)) (pa_cons pe_int (pa_cons pe_int pa_nil)))))
    (pss_cons (ps_set (i := 7) sc_law_contract.nd rfl (Or.inr rfl) (pe_slice sl_list (pe_lst (pa_cons pe_str (pa_cons pe_str pa_nil))) po_none (po_some (pe_op op_mod (pe_ix ix_list (pv 6) pe_int (fun _ _ => rfl)) pe_int))))
    (pss_cons (ps_if (pt_val (pv 5))
    (pss_one (ps_set (i := 7) sc_law_contract.nd rfl (Or.inr rfl) (pe_slice sl_list (pv 7) po_none (po_some pe_int))))
    pss_nil)
    (pss_cons (ps_setLc (i := 9) (te := (tTup (tCons (tOp (rIxL K) (tVar 7) (tVar 8)) (tCons (tOp rAdd (tC (.int 2)) (tOp rMod (tOp (rIxL K) (tVar 6) (tOp rAdd (tC (.int 1)) (tVar 8))) (tOp rSub (tC (.int 2)) (tCB rInt1 (tCons (tVar 5) tNil))))) (tCons (tOp rMod (tOp (rIxL K) (tVar 6) (tOp rAdd (tC (.int 3)) (tVar 8))) (tC (.int 2))) tNil))))) (g := (gName 8)) (tt := tYes) (own := [("_law_k", 8)]) rfl sc_law_contract.nd rfl rfl (sw_true rfl rfl rfl (by decide +kernel)) (pi_range1 rfl T.f_range (pa_cons (pe_callB call_len_seq (by rfl) T.f_len (by decide +kernel) (pa_cons (pv 7) pa_nil)) pa_nil)) (blkOk_by (N := N_law_contract) (sc := defScope s_law_contract) (by decide +kernel)) (fun _ _ _ _ _ => (pg_name (i := 8) sc_law_contract.nd rfl (Or.inl rfl))) (fun _ _ _ _ _ => pts_nil) (fun _ _ _ _ _ => (pe_tup (pa_cons (pe_ix ix_list (pv 7) (pv 8) (fun _ _ => rfl)) (pa_cons (pe_op op_add pe_int (pe_op op_mod (pe_ix ix_list (pv 6) (pe_op op_add pe_int (pv 8)) (fun _ _ => rfl)) (pe_op op_sub pe_int (pe_callTy call_int1 (by rfl) T.f_int (by decide +kernel) (pa_cons (pv 5) pa_nil))))) (pa_cons (pe_op op_mod (pe_ix ix_list (pv 6) (pe_op op_add pe_int (pv 8)) (fun _ _ => rfl)) pe_int) pa_nil))))))
    (pss_cons (ps_setLc (i := 10) (te := (tTup (tCons (tVar 17) (tCons (tOp rMod (tOp (rIxL K) (tVar 6) (tC (.int 5))) (tOp rSub (tC (.int 4)) (tCB rInt1 (tCons (tVar 5) tNil)))) tNil)))) (tt := tTest (tOp rGtI (tOp rMod (tOp (rIxL K) (tVar 6) (tC (.int 6))) (tC (.int 4))) (tC (.int 0)))) (g := (gName 17)) (own := [("_law_asset", 17)]) rfl sc_law_contract.nd rfl rfl (sw_true rfl rfl rfl (by decide +kernel)) (pi_list (pv 2)) (blkOk_by (N := N_law_contract) (sc := defScope s_law_contract) (by decide +kernel)) (fun _ _ _ _ _ => (pg_name (i := 17) sc_law_contract.nd rfl (Or.inl rfl))) (fun _ _ _ _ _ => (pts_one (pt_cmpR op_gt (pe_op op_mod (pe_ix ix_list (pv 6) pe_int (fun _ _ => rfl)) pe_int) pe_int (nomark _)))) (fun _ _ _ _ _ => (pe_tup (pa_cons (pv 17) (pa_cons (pe_op op_mod (pe_ix ix_list (pv 6) pe_int (fun _ _ => rfl)) (pe_op op_sub pe_int (pe_callTy call_int1 (by rfl) T.f_int (by decide +kernel) (pa_cons (pv 5) pa_nil)))) pa_nil)))))
    (pss_cons (ps_set (i := 11) sc_law_contract.nd rfl (Or.inl rfl) (pe_lst pa_nil))
    (pss_cons (ps_set (i := 12) sc_law_contract.nd rfl (Or.inl rfl) (pe_callTy call_list_of (by rfl) T.f_list (by decide +kernel) (pa_cons (pv 3) pa_nil)))
    (pss_cons (ps_set (i := 13) sc_law_contract.nd rfl (Or.inl rfl) (pv 4))
    (pss_cons (ps_for PassesOwn.never rfl (pi_range1 rfl T.f_range (pa_cons (pe_op op_mod (pe_ix ix_list (pv 6) pe_int (fun _ _ => rfl)) pe_int) pa_nil)) (pg_name (i := 8) sc_law_contract.nd rfl (Or.inl rfl))
    (pss_cons (ps_set (i := 14) sc_law_contract.nd rfl (Or.inl rfl) (pe_ix ix_tup (pe_tup (pa_cons pe_int (pa_cons pe_int (pa_cons pe_int pa_nil)))) (pe_op op_mod (pe_ix ix_list (pv 6) (pe_op op_add pe_int (pv 8)) (fun _ _ => rfl)) pe_int) (fun _ _ => rfl)))
    (pss_cons (ps_if (pt_not (pt_val (pv 5)))
    pss_never
    pss_nil)
    (pss_cons (ps_set (i := 15) sc_law_contract.nd rfl (Or.inl rfl) (pe_c c_law_body hr (by decide) rfl (pa_cons (pe_c c_law_row hr (by decide) rfl (pa_cons (pe_ix ix_list (pv 1) (pe_op op_add pe_int (pv 8)) (fun _ _ => rfl)) (pa_cons (pe_op op_add pe_int (pe_op op_mod (pe_ix ix_list (pv 6) (pe_op op_add pe_int (pv 8)) (fun _ _ => rfl)) pe_int)) (pa_cons (pe_op op_pow pe_int pe_int) pa_nil)))) (pa_cons (pv 7) (pa_cons (pv 2) (pa_cons (pv 12) (pa_cons (pv 13) pa_nil)))))))
    (pss_cons (ps_set (i := 13) sc_law_contract.nd rfl (Or.inl rfl) (pe_ix ix_tup (pv 15) pe_int (fun _ _ => rfl)))
    (pss_cons (ps_expr (pe_bm PySem.F.plainAttrs_list PySem.F.slot_list_append PySem.F.type_list_append mt_append (pv 11) (pa_cons (pe_tup (pa_cons (pe_ix ix_str pe_str (pv 8) (fun _ _ => rfl)) (pa_cons (pv 14) (pa_cons (pe_cmpR op_gt (pe_op op_mod (pe_op op_fdiv (pe_ix ix_list (pv 6) (pe_op op_add pe_int (pv 8)) (fun _ _ => rfl)) pe_int) pe_int) pe_int (nomark _)) (pa_cons (pe_ix ix_tup (pv 15) pe_int (fun _ _ => rfl)) pa_nil))))) pa_nil)))
    (pss_cons (ps_setLc (i := 16) (tt := tTest (tOp rEq (tOp (rIxT K) (tVar 18) (tC (.int 0))) (tC (.str "call")))) (g := (gName 18)) (own := [("_law_statement_here", 18)]) rfl sc_law_contract.nd rfl rfl (sw_true rfl rfl rfl (by decide +kernel)) (pi_tup (pe_ix ix_tup (pv 15) pe_int (fun _ _ => rfl))) (blkOk_by (N := N_law_contract) (sc := defScope s_law_contract) (by decide +kernel)) (fun _ _ _ _ _ => (pg_name (i := 18) sc_law_contract.nd rfl (Or.inl rfl))) (fun _ _ _ _ _ => (pts_one (pt_cmpR op_eq (pe_ix ix_tup (pv 18) pe_int (fun _ _ => rfl)) pe_str (nomark _)))) (fun _ _ _ _ _ => (pv 18)))
    (pss_one (ps_if (PW.pt (pw_and (pt_cmpR op_eq (pe_callB call_len_seq (by rfl) T.f_len (by decide +kernel) (pa_cons (pv 16) pa_nil)) pe_int (nomark _)) (pw_and1 (pt_not (pt_val (pv 5))))))
    pss_never
    pss_nil)))))))))
    (pss_one (ps_ret (pe_tup (pa_cons (pe_tup (pa_cons (pv 0) (pa_cons (pe_callTy call_tuple_of (by rfl) T.f_tuple (by decide +kernel) (pa_cons (pv 9) pa_nil)) (pa_cons (pe_callTy call_tuple_of (by rfl) T.f_tuple (by decide +kernel) (pa_cons (pv 10) pa_nil)) (pa_cons (pe_callTy call_tuple_of (by rfl) T.f_tuple (by decide +kernel) (pa_cons (pv 11) pa_nil)) pa_nil))))) (pa_cons (pv 12) (pa_cons (pv 13) pa_nil))))))))))))))), ?_⟩
  have m60 : (0 : Int) < 60 ∧ (60 : Int) < 1073741824 := by decide
  refine ⟨_, rfl, ca, _, 0, _, rfl, rfl, SqL.of hca, rfl, ?_⟩
  refine ⟨c0, 12, 60, rfl, by decide, m60.1, m60.2, fun dg L H1 s1 _ hdg lL hL => ?_⟩
  have at_ : ∀ k : Nat, k < 12 → atI (L.map V.int) (k : Int) = some (.int (L.getD k 0)) := fun k hk => atI_nat (dg_at (by omega))
  have bd_ : ∀ k : Nat, k < 12 → 0 ≤ L.getD k 0 ∧ L.getD k 0 < 60 := fun k hk => dg_bd hL (by omega)
  -- names
  refine ⟨by show 2 ≤ sizeLine; decide, fun p1 hp1 => ?_⟩
  have s2 := s1.trans (same_new hp1 (.lst [.str "x", .str "y"]))
  have dg2 := same_new hp1 (.lst [.str "x", .str "y"]) _ _ hdg
  refine ⟨_, rfl, dg, _, 0, _, rfl, rfl, SqL.of dg2, at_ 0 (by decide), _, _, rfl, rfl, (show (0 : Int) < 3 by decide), _, rfl, ?_⟩
  dsimp only [tNoPart]
  refine ⟨p1, _, rfl, SqL.of upd_same, fun n1 hn1 => ?_⟩
  refine ⟨_, rfl, _, rfl, iteT ?_⟩
  refine ⟨_, rfl, _, rfl, ?_⟩
  dsimp only [tNoPart]
  refine ⟨n1, _, rfl, SqL.of upd_same, fun n2 hn2 => ?_⟩
  have hd0 := Int.emod_nonneg (L.getD 0 0) (show (3 : Int) ≠ 0 by decide)
  have hd1 := Int.emod_lt_of_pos (L.getD 0 0) (show (0 : Int) < 3 by decide)
  have s3 := (s2.trans (same_new hn1 (.lst (cutV [.str "x", .str "y"] none (some (L.getD 0 0 % 3)))))).trans (same_new hn2 (.lst (cutV (cutV [.str "x", .str "y"] none (some (L.getD 0 0 % 3))) none (some 1))))
  have dg3 := same_new hn2 (.lst (cutV (cutV [.str "x", .str "y"] none (some (L.getD 0 0 % 3))) none (some 1))) _ _ (same_new hn1 (.lst (cutV [.str "x", .str "y"] none (some (L.getD 0 0 % 3)))) _ _ dg2)
  rw [nm_cut hd0 hd1] at s3 dg3 ⊢
  generalize decide (0 < L.getD 0 0 % 3) = hv at s3 dg3 ⊢
  have gn2 : (upd (upd (upd H1 p1 (.lst [.str "x", .str "y"])) n1 (.lst (cutV [.str "x", .str "y"] none (some (L.getD 0 0 % 3))))) n2 (.lst (if hv = true then [V.str "x"] else []))) n2 = some (.lst (if hv = true then [V.str "x"] else [])) := upd_same
  generalize upd (upd (upd H1 p1 (.lst [.str "x", .str "y"])) n1 (.lst (cutV [.str "x", .str "y"] none (some (L.getD 0 0 % 3))))) n2 (.lst (if hv = true then [V.str "x"] else [])) = H3 at s3 dg3 gn2 ⊢
  have lnl : (if hv = true then [V.str "x"] else []).length ≤ 1 := by cases hv <;> decide
  have nl0 : ∀ i, i < (if hv = true then [V.str "x"] else []).length → i = 0 ∧ hv = true := fun i hi => by
    cases hv
    · exact absurd hi (Nat.not_lt_zero _)
    · exact ⟨by have : i < 1 := hi; omega, rfl⟩
  -- variables
  refine ⟨_, rfl, n2, _, rfl, .inl (SqL.of gn2), (((if hv = true then [V.str "x"] else []).length : Nat) : Int), rfl, by omega, by omega, fun D1 hD1 => lc_range (n := (if hv = true then [V.str "x"] else []).length) (fun i H' => ∃ acc : List V, Same H3 H' ∧ H' D1 = some (.lst acc) ∧ acc.length = i ∧ ∀ x ∈ acc, ∃ t nn f, x = .ref t ∧ H' t = some (.tup [.str "x", .int nn, .int f]) ∧ nn = 2 ∧ 0 ≤ f ∧ f ≤ 1) ⟨[], same_new hD1 _, upd_same, rfl, fun _ z => (List.not_mem_nil z).elim⟩ ?_ ?_⟩
  · rintro i H' hi ⟨acc, s4, gD, la, hacc⟩
    obtain ⟨rfl, rfl⟩ := nl0 i hi
    have hlt : H' n2 = some (.lst [.str "x"]) := s4 _ _ gn2
    have f0 := Int.emod_nonneg (L.getD 3 0) (show (2 : Int) ≠ 0 by decide)
    have f1 := Int.emod_lt_of_pos (L.getD 3 0) (show (0 : Int) < 2 by decide)
    refine ⟨rfl, _, rfl, _, rfl, n2, _, _, _, rfl, rfl, SqL.of hlt, (show atI ([.str "x"] : List V) (0 + ((0 : Nat) : Int)) = some (.str "x") from rfl), ?_⟩
    refine ⟨_, rfl, _, rfl, _, _, rfl, rfl, dg, _, _, _, rfl, rfl, SqL.of (s4 _ _ dg3), at_ 1 (by decide), _, rfl, .inr ⟨true, rfl, _, _, rfl, rfl, _, _, rfl, rfl, (show (0 : Int) < 2 - (if true = true then (1 : Int) else 0) by decide), _, _, rfl, rfl, ?_⟩⟩
    refine ⟨_, rfl, _, rfl, _, _, rfl, rfl, dg, _, _, _, rfl, rfl, SqL.of (s4 _ _ dg3), at_ 3 (by decide), _, _, rfl, rfl, (show (0 : Int) < 2 by decide), by show 3 ≤ sizeLine; decide, fun p hp => ?_⟩
    have e2 : (2 : Int) + L.getD 1 0 % (2 - (if true = true then (1 : Int) else 0)) = 2 := by
      show (2 : Int) + L.getD 1 0 % 1 = 2
      rw [Int.emod_one]
      rfl
    have gD2 := same_new hp (.tup [.str "x", .int (2 + L.getD 1 0 % (2 - (if true = true then (1 : Int) else 0))), .int (L.getD 3 0 % 2)]) _ _ gD
    have ts : TpS H' (upd (upd H' p (.tup [.str "x", .int (2 + L.getD 1 0 % (2 - (if true = true then (1 : Int) else 0))), .int (L.getD 3 0 % 2)])) D1 (.lst (acc ++ [.ref p]))) := ((TpS.refl _).new hp).upd (by rw [gD2]; exact id)
    refine ⟨acc, gD2, szl _ (by omega), acc ++ [.ref p], same_mut (s4.trans (same_new hp _)) hD1, upd_same, by rw [len_snoc, la], fun x hx => ?_⟩
    rcases List.mem_append.mp hx with z | z
    · obtain ⟨t, nn, f, e, h1, h2⟩ := hacc x z
      exact ⟨t, nn, f, e, ts.t _ _ h1, h2⟩
    · rw [List.mem_singleton.mp z]
      exact ⟨p, _, _, rfl, (upd_ne (ne_of_none gD hp).symm).trans upd_same, e2, f0, by omega⟩
  rintro H4 ⟨acc1, s4, gD1, la1, hacc1⟩
  -- holdings
  obtain ⟨aa, rfl, haa⟩ := hav
  have haa4 := s4 _ _ (s3 _ _ haa)
  refine ⟨_, rfl, aa, rfl, ⟨_, SqL.of haa4⟩, fun D2 hD2 => lc_list (xs := [.str "a"]) (fun i H' => ∃ acc : List V, Same H4 H' ∧ H' D2 = some (.lst acc) ∧ acc.length ≤ i ∧ ∀ x ∈ acc, HolG H' x) ⟨[], same_new hD2 _, upd_same, Nat.le_refl _, fun _ z => (List.not_mem_nil z).elim⟩ (fun i H' _ ⟨_, s5, _⟩ => SqL.of (s5 _ _ haa4)) ?_ ?_⟩
  · rintro i x H' hi ⟨acc, s5, gD, la, hacc⟩
    have dg5 := s5 _ _ (s4 _ _ dg3)
    refine ⟨rfl, _, rfl, dg, _, 6, _, rfl, rfl, SqL.of dg5, at_ 6 (by decide), _, _, rfl, rfl, (show (0 : Int) < 4 by decide), _, _, rfl, rfl, _, rfl, ?_⟩
    have i0 : i = 0 := by
      have := lt_of_get hi
      have l1 : ([V.str "a"] : List V).length = 1 := rfl
      omega
    subst i0
    obtain rfl := Option.some.inj hi
    refine if2 (fun _ => ?_) (fun _ => ?_)
    · refine ⟨_, rfl, _, rfl, dg, _, 5, _, rfl, rfl, SqL.of dg5, at_ 5 (by decide), _, rfl, .inr ⟨true, rfl, _, _, rfl, rfl, _, _, rfl, rfl, (show (0 : Int) < 4 - (if true = true then (1 : Int) else 0) by decide), by show 2 ≤ sizeLine; decide, fun p hp => ?_⟩⟩
      have h0 : 0 ≤ L.getD 5 0 % (4 - (if true = true then (1 : Int) else 0)) := Int.emod_nonneg _ (by decide)
      have gD2 := same_new hp (.tup [.str "a", .int (L.getD 5 0 % (4 - (if true = true then (1 : Int) else 0)))]) _ _ gD
      have ts : TpS H' (upd (upd H' p (.tup [.str "a", .int (L.getD 5 0 % (4 - (if true = true then (1 : Int) else 0)))])) D2 (.lst (acc ++ [.ref p]))) := ((TpS.refl _).new hp).upd (by rw [gD2]; exact id)
      refine ⟨acc, gD2, szl _ (by omega), acc ++ [.ref p], same_mut (s5.trans (same_new hp _)) hD2, upd_same, by rw [len_snoc]; omega, fun x hx => ?_⟩
      rcases List.mem_append.mp hx with z | z
      · exact (hacc x z).ts ts
      · rw [List.mem_singleton.mp z]
        exact ⟨p, _, rfl, (upd_ne (ne_of_none gD hp).symm).trans upd_same, h0⟩
    · exact ⟨acc, s5, gD, by omega, hacc⟩
  rintro H5 ⟨acc2, s5, gD2, la2, hacc2⟩
  -- procedures
  refine ⟨by show 0 ≤ sizeLine; decide, fun pr hpr => ?_⟩
  have s6 := same_new hpr (.lst [])
  have hka6 := s6 _ _ (s5 _ _ (s4 _ _ (s3 _ _ hka)))
  refine ⟨_, rfl, ka, [], rfl, .inl (SqL.of hka6), fun lk hlk => ?_⟩
  have s7 := s6.trans (same_new hlk (.lst []))
  have gpr7 : (upd (upd H5 pr (.lst [])) lk (.lst [])) pr = some (.lst []) := same_new hlk (.lst []) _ _ upd_same
  have glk7 : (upd (upd H5 pr (.lst [])) lk (.lst [])) lk = some (.lst []) := upd_same
  have prlk : pr ≠ lk := ne_of_none upd_same hlk
  generalize upd (upd H5 pr (.lst [])) lk (.lst []) = H7 at s7 gpr7 glk7 ⊢
  have dg5 := s5 _ _ (s4 _ _ dg3)
  have h70 := Int.emod_nonneg (L.getD 7 0) (show (3 : Int) ≠ 0 by decide)
  have h71 := Int.emod_lt_of_pos (L.getD 7 0) (show (0 : Int) < 3 by decide)
  refine ⟨_, rfl, ?_⟩
  refine ⟨_, rfl, dg, _, 7, _, rfl, rfl, SqL.of (s7 _ _ dg5), at_ 7 (by decide), _, _, rfl, rfl, (show (0 : Int) < 3 by decide), _, rfl, by omega, by omega, for_range (n := (L.getD 7 0 % 3).toNat) (fun k σ H' => ∃ (v8 : Option V) (lf : Int) (v14 v15 v16 : Option V) (ps : List V), σ = [some (.str nm), some (.ref ca), some (.ref aa), some (.ref ka), some (.int 2), some (.bl true), some (.ref dg), some (.ref n2), v8, some (.ref D1), some (.ref D2), some (.ref pr), some (.ref lk), some (.int lf), v14, v15, v16, none, none] ∧ Same H5 H' ∧ H' lk = some (.lst []) ∧ H' pr = some (.lst ps) ∧ ps.length = k ∧ ∀ (i : Nat) x, ps[i]? = some x → PrcG H' hv i x)
    ⟨none, 2, none, none, none, [], rfl, s7, glk7, gpr7, rfl, fun i x e => by simp at e⟩ ?_ ?_⟩
  · rintro k σ H' hk ⟨v8, lf, v14, v15, v16, ps, rfl, s8, glk, gpr, lps, hps⟩
    have k2 : k < 2 := by omega
    have ix : ∀ (m : Nat), m + k < 12 → atI (L.map V.int) ((m : Int) + (0 + (k : Nat))) = some (.int (L.getD (m + k) 0)) := fun m hm => by
      rw [show ((m : Int) + (0 + ((k : Nat) : Int))) = ((m + k : Nat) : Int) by omega]
      exact at_ (m + k) hm
    have ixc : ∃ c, atI ([.int c0, .int c1, .int c2] : List V) (1 + (0 + ((k : Nat) : Int))) = some (.int c) := by
      match k, k2 with
      | 0, _ => exact ⟨c1, rfl⟩
      | 1, _ => exact ⟨c2, rfl⟩
    obtain ⟨cc, hcc⟩ := ixc
    have pqk : ∃ c, atI ("pq" : Str).cps.toList (0 + ((k : Nat) : Int)) = some c ∧ (⟨#[c]⟩ : Str) = pnS k := by
      match k, k2 with
      | 0, _ => exact ⟨_, rfl, rfl⟩
      | 1, _ => exact ⟨_, rfl, rfl⟩
    obtain ⟨pc, hpc, epc⟩ := pqk
    have dg8 := s8 _ _ dg5
    have hca8 := s8 _ _ (s5 _ _ (s4 _ _ (s3 _ _ hca)))
    -- size
    refine ⟨by show 3 ≤ sizeLine; decide, fun t1 ht1 => ?_⟩
    have s9 := same_new ht1 (.tup [.int 1, .int 2, .int 3])
    obtain ⟨sz, hsz, sz1, sz3⟩ := three_at (Int.emod_nonneg (L.getD (8 + k) 0) (show (3 : Int) ≠ 0 by decide)) (Int.emod_lt_of_pos (L.getD (8 + k) 0) (show (0 : Int) < 3 by decide))
    refine ⟨_, rfl, _, rfl, _, _, rfl, rfl, dg, _, _, _, rfl, rfl, SqL.of (s9 _ _ dg8), ix 8 (by omega), _, _, rfl, rfl, (show (0 : Int) < 3 by decide), t1, _, _, _, rfl, rfl, SqT.tp upd_same, hsz, ?_⟩
    refine ⟨_, rfl, true, rfl, iteF ?_⟩
    -- the body
    have h10 := Int.emod_nonneg (L.getD (10 + k) 0) (show (4 : Int) ≠ 0 by decide)
    have h11 := Int.emod_lt_of_pos (L.getD (10 + k) 0) (show (0 : Int) < 4 by decide)
    refine ⟨_, rfl, _, rfl, _, _, rfl, rfl, ca, _, _, _, rfl, rfl, SqL.of (s9 _ _ hca8), hcc, ?_⟩
    refine ⟨_, rfl, _, rfl, _, _, rfl, rfl, dg, _, _, _, rfl, rfl, SqL.of (s9 _ _ dg8), ix 10 (by omega), _, _, rfl, rfl, (show (0 : Int) < 4 by decide), _, _, rfl, rfl, _, _, rfl, rfl, ⟨by decide, by decide, by decide⟩, ?_⟩
    refine ⟨cc, (1 + L.getD (10 + k) 0 % 4).toNat, ((10 : Int) ^ (9 : Int).toNat), congrArg (fun z => [V.int cc, V.int z, V.int ((10 : Int) ^ (9 : Int).toNat)]) (Int.toNat_of_nonneg (by omega)).symm, by omega, by decide, by decide, fun rp Lr H10 s10 _ hrp lLr _ => ?_⟩
    have s910 := s9.trans s10
    refine ⟨_, rfl, _, rfl, _, rfl, _, rfl, ?_⟩
    refine ⟨rp, Lr, .ref n2, .ref aa, .ref lk, lf, hv, rfl, hrp, by omega, ⟨n2, rfl, s910 _ _ (s8 _ _ (s5 _ _ (s4 _ _ gn2)))⟩, ⟨aa, rfl, s910 _ _ (s8 _ _ (s5 _ _ haa4))⟩, ⟨lk, rfl, .inl (s910 _ _ glk)⟩, fun tb vb kb l H11 s11 htb hvb ll hfl => ?_⟩
    have s911 := s910.trans s11
    refine ⟨_, rfl, tb, _, 1, _, rfl, rfl, SqT.tp htb, rfl, ?_⟩
    obtain ⟨ba, bx, rfl, hba, hbx⟩ := Rp.tupE hvb
    -- append
    have gpr11 := s911 _ _ gpr
    refine ⟨_, rfl, .inl ⟨rfl, _, SqL.of gpr11⟩, _, rfl, _, _, pc, rfl, rfl, (by show 2 ≤ sizeLine; decide), hpc, _, rfl, ?_⟩
    refine ⟨_, rfl, _, rfl, _, _, rfl, rfl, dg, _, _, _, rfl, rfl, SqL.of (s911 _ _ dg8), ix 8 (by omega), _, _, rfl, rfl, ⟨(show (0 : Int) < 2 by decide), (show (2 : Int) < 1073741824 by decide)⟩, _, _, rfl, rfl, (show (0 : Int) < 5 by decide), _, _, rfl, rfl, ?_⟩
    refine ⟨_, rfl, tb, _, 0, _, rfl, rfl, SqT.tp htb, rfl, by show 4 ≤ sizeLine; decide, fun p hp => ?_⟩
    rw [epc]
    have s12 := same_new hp (.tup [.str (pnS k), .int sz, .bl (decide (0 < L.getD (8 + k) 0 / 2 % 5)), .ref ba])
    refine ⟨pr, ps, _, rfl, rfl, s12 _ _ gpr11, szl _ (by omega), ?_⟩
    have ppr : p ≠ pr := (ne_of_none gpr11 hp).symm
    have ts12 : TpS H11 (upd (upd H11 p (.tup [.str (pnS k), .int sz, .bl (decide (0 < L.getD (8 + k) 0 / 2 % 5)), .ref ba])) pr (.lst (ps ++ [.ref p]))) := (TpS.of s12).upd (by rw [s12 _ _ gpr11]; exact id)
    -- calls
    have htb12 := ts12.t _ _ htb
    have hba12 := ts12.t _ _ hba
    refine ⟨_, rfl, tb, _, 0, _, rfl, rfl, SqT.tp htb12, rfl, ba, rfl, ⟨_, SqT.tp hba12⟩, fun D3 hD3 => lcF_tup (acc := fun _ => []) rfl hba12 hD3 ?_ ?_⟩
    · rintro j z hj
      obtain ⟨d, hd, rz⟩ := Rps.getV hbx hj
      rw [List.getElem?_map] at hd
      obtain ⟨st, hst, rfl⟩ := Option.map_eq_some_iff.mp hd
      obtain ⟨y, ys, rfl, hy⟩ := sx_kind st rz
      have a0 : atI (V.str (sk st) :: ys) (0 : Int) = some (V.str (sk st)) := atI_nat (j := 0) rfl
      have nc : ¬ (V.str (sk st) = V.str "call") := by
        cases st with
        | sm m => exact (sk_sm m).2.2
        | ask n => exact (show ¬ (V.str "ask" = V.str "call") by decide +kernel)
        | ite e t f => exact (show ¬ (V.str "if" = V.str "call") by decide +kernel)
      exact ⟨rfl, _, rfl, y, _, 0, _, rfl, rfl, SqT.tp (same_new hD3 _ _ _ (ts12.t _ _ hy)), a0, rfl, _, rfl, ifN nc rfl⟩
    refine ⟨_, rfl, D3, [], rfl, .inl (SqL.of upd_same), rfl, _, rfl, ifY rfl ?_⟩
    refine ⟨_, rfl, true, rfl, iteF ?_⟩
    have ts13 := (TpS.of s9).trans ((TpS.of s10).trans ((TpS.of s11).trans (ts12.trans (TpS.of (same_new hD3 (.lst []))))))
    have lkpr : lk ≠ pr := prlk.symm
    refine ⟨_, _, _, _, _, ps ++ [.ref p], rfl, ?_, ?_, same_new hD3 (.lst []) _ _ upd_same, by rw [len_snoc, lps], fun i x hx => ?_⟩
    · exact (same_mut ((s8.trans s911).trans s12) hpr).trans (same_new hD3 _)
    · exact same_new hD3 _ _ _ ((upd_ne lkpr).trans (s12 _ _ (s911 _ _ glk)))
    · by_cases hi : i < ps.length
      · rw [List.getElem?_append_left hi] at hx
        exact (hps i x hx).ts ts13
      · have hi2 := lt_of_get hx
        rw [len_snoc] at hi2
        have ei : i = k := by omega
        subst ei
        rw [List.getElem?_append_right (by omega), lps, Nat.sub_self] at hx
        obtain rfl := Option.some.inj hx
        exact ⟨p, sz, _, .ref ba, l, rfl, same_new hD3 _ _ _ ((upd_ne ppr).trans upd_same), sz1, sz3, Rp.ts (ts12.trans (TpS.of (same_new hD3 _))) _ _ hvb, by omega, hfl⟩
  · rintro σ H8 ⟨v8, lf, v14, v15, v16, ps, rfl, s8, glk, gpr, lps, hps⟩
    have gD18 := s8 _ _ (s5 _ _ gD1)
    have gD28 := s8 _ _ gD2
    refine ⟨_, rfl, _, rfl, D1, acc1, rfl, .inl ⟨SqL.of gD18, fun w1 hw1 => ?_⟩⟩
    have s9 := same_new hw1 (.tup acc1)
    refine ⟨_, rfl, D2, acc2, rfl, .inl ⟨SqL.of (s9 _ _ gD28), fun w2 hw2 => ?_⟩⟩
    have s10 := s9.trans (same_new hw2 (.tup acc2))
    refine ⟨_, rfl, pr, ps, rfl, .inl ⟨SqL.of (s10 _ _ gpr), fun w3 hw3 => ?_⟩⟩
    have s11 := s10.trans (same_new hw3 (.tup ps))
    refine ⟨by show 4 ≤ sizeLine; decide, fun y hy => ?_⟩
    have s12 := s11.trans (same_new hy (.tup [.str nm, .ref w1, .ref w2, .ref w3]))
    refine ⟨_, rfl, _, rfl, by show 3 ≤ sizeLine; decide, fun t ht => ?_⟩
    have s13 := s12.trans (same_new ht (.tup [.ref y, .ref lk, .int lf]))
    have s213 := (s5.trans s8).trans s13
    refine q t (.ref y) _ _ _ (((s3.trans s4).trans s5).trans (s8.trans s13)) upd_same ?_
    -- the variable
    have hvar : ∃ var : Option (Int × Int), var.isSome = hv ∧ Rp (upd (upd (upd (upd (upd H8 w1 (.tup acc1)) w2 (.tup acc2)) w3 (.tup ps)) y (.tup [.str nm, .ref w1, .ref w2, .ref w3])) t (.tup [.ref y, .ref lk, .int lf])) (.ref w1) (varD var) ∧ ∀ p, var = some p → p.1 = 2 ∧ 0 ≤ p.2 ∧ p.2 ≤ 1 := by
      have gw1 : (upd (upd (upd (upd (upd H8 w1 (.tup acc1)) w2 (.tup acc2)) w3 (.tup ps)) y (.tup [.str nm, .ref w1, .ref w2, .ref w3])) t (.tup [.ref y, .ref lk, .int lf])) w1 = some (.tup acc1) := same_new ht _ _ _ (same_new hy _ _ _ (same_new hw3 _ _ _ (same_new hw2 _ _ _ upd_same)))
      cases hv with
      | false =>
        have e : acc1 = [] := List.length_eq_zero_iff.mp la1
        subst e
        exact ⟨none, rfl, .tup gw1 .nil, fun p z => nomatch z⟩
      | true =>
        have l1 : acc1.length = 1 := la1
        match acc1, l1 with
        | [x1], _ =>
          obtain ⟨t1, nn, f, rfl, ht1, rfl, f0, f1⟩ := hacc1 x1 (List.mem_singleton.mpr rfl)
          refine ⟨some (2, f), rfl, .tup gw1 (.cons (.tup (s213 _ _ ht1) (.cons (.str _) (.cons (.int _) (.cons (.int _) .nil)))) .nil), fun p z => ?_⟩
          cases z
          exact ⟨rfl, f0, f1⟩
    obtain ⟨var, ev, hvr, hvb⟩ := hvar
    refine ⟨y, w2, w3, .ref w1, var, acc2, ps, rfl, same_new ht _ _ _ upd_same, hvr, hvb, same_new ht _ _ _ (same_new hy _ _ _ (same_new hw3 _ _ _ upd_same)), la2, fun x hx => (hacc2 x hx).ts (TpS.of (s8.trans s13)), same_new ht _ _ _ (same_new hy _ _ _ upd_same), by omega, fun i x hx => ?_⟩
    rw [ev]
    exact (hps i x hx).ts (TpS.of s13)
end
end Nc

-- Q6
set_option maxHeartbeats 4000000
namespace Nc
open PySem L2 C8
theorem cut_to' {xs : List V} {j : Nat} : cutV xs none (some (j : Int)) = xs.take j := by
  by_cases h : j ≤ xs.length
  · exact cut_to h
  · unfold cutV
    rw [HT.sIx_none, HT.sIx_nat, List.drop_zero, Nat.min_eq_right (by omega), Nat.sub_zero, List.take_length, List.take_of_length_le (by omega)]
section
variable {P : Program} {w : World} {K : PySem.W.Frag} {mg : Str → Option Value} {base : Heap}
/-! ### contracts made short -/
abbrev N_law_short : List Str := ["_law_contract_here", "_law_procs", "_law_left", "_law_proc", "_law_block", "_law_statement_here", "_law_held", "_law_pair"]
theorem sc_law_short : FnScope N_law_short ["_law_contract_here"] (defScope s_law_short) := ⟨rfl, rfl, rfl, by decide +kernel, rfl, by decide +kernel, by decide +kernel⟩
def ShAt (H : Hp) (v : V) (nm : Str) (b : Bool) (c : CC) : Prop := ∃ y w1 w2 w3, v = .ref y ∧ H y = some (.tup [.str nm, w1, w2, w3]) ∧ Rp H w1 (varD c.var) ∧ Rp H w2 (holD b c.hold) ∧ Rp H w3 (prcD b c.proc) ∧ c.fit
def spShort : Sp := fun vs H Q _ => ∃ (v : V) (nm : Str), vs = [v] ∧ GcAt H v nm ∧ ∀ v' c H', Same H H' → ShAt H' v' nm false c → Q v' H'
theorem ok_law_short (T : Tx K mg) : Cal P w K mg base 1 "_law_short" spShort [] := by
  refine cal_of T 43 rfl T.g__law_short sc_law_short (fun _ _ _ _ _ _ us hl => match us, hl with | [_], _ => rfl) (fun vs H Q E h => ?_) (fun cdv A outer s H vs Q E hr h => ?_)
  · obtain ⟨_, _, rfl, _⟩ := h
    rfl
  obtain ⟨v, nm, rfl, ⟨y, w2, w3, w1, var, hs, ps, rfl, hy, hw1, hvar, hw2, lhs, hhs, hw3, lps, hps⟩, q⟩ := h
  refine ⟨_, (pss_cons (ps_set (i := 1) sc_law_short.nd rfl (Or.inl rfl) (pe_lst pa_nil))
    (pss_cons (ps_set (i := 2) sc_law_short.nd rfl (Or.inl rfl) pe_int)
    (pss_cons (ps_for PassesOwn.never rfl (pi_tup (pe_slice sl_tupA (pe_ix ix_tup (pv 0) pe_int (fun _ _ => rfl)) po_none (po_some pe_int))) (pg_name (i := 3) sc_law_short.nd rfl (Or.inl rfl))
    (pss_cons (ps_set (i := 4) sc_law_short.nd rfl (Or.inl rfl) (pe_lst pa_nil))
    (pss_cons (ps_for PassesOwn.never rfl (pi_tup (pe_slice sl_tupA (pe_ix ix_tup (pv 3) pe_int (fun _ _ => rfl)) po_none (po_some pe_int))) (pg_name (i := 5) sc_law_short.nd rfl (Or.inl rfl))
    (pss_one (ps_if (PW.pt (pw_or (pt_cmpR op_ne (pe_ix ix_tup (pv 5) pe_int (fun _ _ => rfl)) pe_str (nomark _)) (pw_or1 (pt_cmpR op_gt (pv 2) pe_int (nomark _)))))
    (pss_cons (ps_expr (pe_bm PySem.F.plainAttrs_list PySem.F.slot_list_append PySem.F.type_list_append mt_append (pv 4) (pa_cons (pv 5) pa_nil)))
    (pss_one (ps_set (i := 2) sc_law_short.nd rfl (Or.inl rfl) (pe_op op_sub (pv 2) (pe_callTy call_int1 (by rfl) T.f_int (by decide +kernel) (pa_cons (pe_cmpR op_eq (pe_ix ix_tup (pv 5) pe_int (fun _ _ => rfl)) pe_str (nomark _)) pa_nil))))))
    pss_nil)))
    (pss_one (ps_expr (pe_bm PySem.F.plainAttrs_list PySem.F.slot_list_append PySem.F.type_list_append mt_append (pv 1) (pa_cons (pe_tup (pa_cons (pe_ix ix_tup (pv 3) pe_int (fun _ _ => rfl)) (pa_cons (pe_ix ix_tup (pv 3) pe_int (fun _ _ => rfl)) (pa_cons (pe_ix ix_tup (pv 3) pe_int (fun _ _ => rfl)) (pa_cons (pe_callTy call_tuple_of (by rfl) T.f_tuple (by decide +kernel) (pa_cons (pv 4) pa_nil)) pa_nil))))) pa_nil)))))))
    (pss_cons (ps_set (i := 6) sc_law_short.nd rfl (Or.inl rfl) (pe_callTy call_tuple_frz (by rfl) T.f_tuple (by decide +kernel) (pa_cons (pe_lc (te := (tTup (tCons (tOp (rIxT K) (tVar 7) (tC (.int 0))) (tCons (tCB rMin2I (tCons (tC (.int 1)) (tCons (tOp (rIxT K) (tVar 7) (tC (.int 1))) tNil))) tNil)))) (g := (gName 7)) (tt := tYes) (own := [("_law_pair", 7)]) rfl sc_law_short.nd (pi_tup (pe_ix ix_tup (pv 0) pe_int (fun _ _ => rfl))) (blkOk_by (N := N_law_short) (sc := defScope s_law_short) (by decide +kernel)) (fun _ _ _ _ _ => (pg_name (i := 7) sc_law_short.nd rfl (Or.inl rfl))) (fun _ _ _ _ _ => pts_nil) (fun _ _ _ _ _ => (pe_tup (pa_cons (pe_ix ix_tup (pv 7) pe_int (fun _ _ => rfl)) (pa_cons (pe_callB (call_min2 rfl) (by rfl) T.f_min (by decide +kernel) (pa_cons pe_int (pa_cons (pe_ix ix_tup (pv 7) pe_int (fun _ _ => rfl)) pa_nil))) pa_nil))))) pa_nil)))
    (pss_one (ps_ret (pe_tup (pa_cons (pe_ix ix_tup (pv 0) pe_int (fun _ _ => rfl)) (pa_cons (pe_ix ix_tup (pv 0) pe_int (fun _ _ => rfl)) (pa_cons (pv 6) (pa_cons (pe_callTy call_tuple_of (by rfl) T.f_tuple (by decide +kernel) (pa_cons (pv 1) pa_nil)) pa_nil))))))))))), ?_⟩
  refine ⟨by show 0 ≤ sizeLine; decide, fun PR nPR => ?_⟩
  have s1 := same_new nPR (.lst [])
  refine ⟨_, rfl, y, _, 3, _, rfl, rfl, SqT.tp (s1 _ _ hy), rfl, _, rfl, ?_⟩
  unfold tNoPart
  refine slA (s1 _ _ hw3) fun sp1 H2 s2 hsp => ?_
  have ec : cutV ps none (some 1) = ps.take 1 := cut_to' (j := 1)
  rw [ec] at hsp
  have s12 := s1.trans s2
  have gPR2 := s2 _ _ upd_same
  have ltk : (ps.take 1).length ≤ 1 := by rw [List.length_take]; omega
  refine ⟨sp1, rfl, ⟨_, SqT.tp hsp⟩, for_tup (xs := ps.take 1) (fun i σ H' => ∃ (lf : Int) (v3 v4 v5 : Option V) (pps : List V) (proc : Option (Int × Bool × List Sx)), σ = [some (.ref y), some (.ref PR), some (.int lf), v3, v4, v5, none, none] ∧ Same H H' ∧ H' PR = some (.lst pps) ∧ H' sp1 = some (.tup (ps.take 1)) ∧ (i = 0 → pps = [] ∧ proc = none ∧ lf = 1) ∧ (∀ t, Rp (upd H' t (.tup pps)) (.ref t) (prcD false proc) ∨ H' t ≠ none) ∧ ∀ p, proc = some p → 1 ≤ p.1 ∧ p.1 ≤ 3 ∧ p.2.2.length ≤ 3 ∧ (∀ s ∈ p.2.2, s.fit var.isSome) ∧ nask p.2.2 ≤ 1)
    ⟨1, none, none, none, [], none, rfl, s12, gPR2, hsp, fun _ => ⟨rfl, rfl, rfl⟩, fun t => .inl (.tup upd_same .nil), fun p z => nomatch z⟩ (fun i σ H' _ ⟨_, _, _, _, _, _, _, _, _, h, _⟩ => SqT.tp h) ?_ ?_⟩
  · rintro i x σ H' hi ⟨lf, v3, v4, v5, pps, proc, rfl, s3, gPR, gsp, h0, _, _⟩
    have i0 : i = 0 := by have := lt_of_get hi; omega
    subst i0
    obtain ⟨rfl, rfl, rfl⟩ := h0 rfl
    have hx : ps[0]? = some x := by
      rw [List.getElem?_take] at hi
      simpa using hi
    obtain ⟨t, sz, sh, wb, l, rfl, ht, sz1, sz3, hwb, ll, hfl⟩ := hps 0 x hx
    obtain ⟨ba, bx, rfl, hba, hbx⟩ := Rp.tupE hwb
    refine ⟨by show 0 ≤ sizeLine; decide, fun BL nBL => ?_⟩
    have s4 := s3.trans (same_new nBL (.lst []))
    refine ⟨_, rfl, t, _, 3, _, rfl, rfl, SqT.tp (s4 _ _ ht), rfl, _, rfl, ?_⟩
    refine slA (s4 _ _ hba) fun sp2 H5 s5 hsp2 => ?_
    have ec2 : cutV bx none (some 3) = bx.take 3 := cut_to' (j := 3)
    rw [ec2] at hsp2
    have gBL5 := s5 _ _ upd_same
    have gPR5 := s5 _ _ ((same_new nBL (.lst [])) _ _ gPR)
    have gsp5 := s5 _ _ ((same_new nBL (.lst [])) _ _ gsp)
    have PRBL : PR ≠ BL := ne_of_none gPR nBL
    have s45 := s4.trans s5
    have nBLH : H BL = none := s3.free nBL
    refine ⟨sp2, rfl, ⟨_, SqT.tp hsp2⟩, for_tup (xs := bx.take 3) (fun j σ H6 => ∃ (lf : Int) (v5 : Option V) (l' : List Sx) (bs : List V), σ = [some (.ref y), some (.ref PR), some (.int lf), some (.ref t), some (.ref BL), v5, none, none] ∧ Kp [BL] H5 H6 ∧ H6 BL = some (.lst bs) ∧ Rps H6 bs (l'.map (Sx.d false)) ∧ l'.length ≤ j ∧ (∀ s ∈ l', s ∈ l) ∧ ((nask l' : Nat) : Int) + lf = 1 ∧ 0 ≤ lf)
      ⟨1, v5, [], [], rfl, Kp.refl, gBL5, .nil, Nat.le_refl _, fun _ z => (List.not_mem_nil z).elim, rfl, by decide⟩ (fun j σ H6 _ ⟨_, _, _, _, _, k, _⟩ => SqT.tp (k.tup (nTp1 gBL5) hsp2)) ?_ ?_⟩
    · rintro j z σ H6 hj ⟨lf, v5, l', bs, rfl, k6, gBL, hbs, ll', hsub, hna, hlf⟩
      have hj3 : j < 3 := by
        have := lt_of_get hj
        rw [List.length_take] at this
        omega
      have hjx : bx[j]? = some z := by
        rw [List.getElem?_take, if_pos hj3] at hj
        exact hj
      obtain ⟨d, hd, rz⟩ := Rps.getV hbx hjx
      rw [List.getElem?_map] at hd
      obtain ⟨st, hst, rfl⟩ := Option.map_eq_some_iff.mp hd
      have rz6 : Rp H6 z (st.d false) := Rp.ts (k6.ts (nTp1 gBL5)) _ _ (Rp.to rz s45)
      obtain ⟨ya, ys, rfl, hya⟩ := sx_kind st rz6
      have a0 : atI (V.str (sk st) :: ys) (0 : Int) = some (V.str (sk st)) := atI_nat (j := 0) rfl
      have lbs : bs.length ≤ 3 := by rw [Rps.length hbs, List.length_map]; omega
      -- one more statement, with the count behind it
      have fin : ∀ lf' : Int, ((nask (l' ++ [st]) : Nat) : Int) + lf' = 1 → 0 ≤ lf' → ∃ (lf : Int) (v5 : Option V) (l2 : List Sx) (bs2 : List V), ([some (.ref y), some (.ref PR), some (.int lf'), some (.ref t), some (.ref BL), some (.ref ya), none, none] : L2.St) = [some (.ref y), some (.ref PR), some (.int lf), some (.ref t), some (.ref BL), v5, none, none] ∧ Kp [BL] H5 (upd H6 BL (.lst (bs ++ [.ref ya]))) ∧ (upd H6 BL (.lst (bs ++ [.ref ya]))) BL = some (.lst bs2) ∧ Rps (upd H6 BL (.lst (bs ++ [.ref ya]))) bs2 (l2.map (Sx.d false)) ∧ l2.length ≤ j + 1 ∧ (∀ s ∈ l2, s ∈ l) ∧ ((nask l2 : Nat) : Int) + lf = 1 ∧ 0 ≤ lf := fun lf' h1 h2 => by
        have ts : TpS H6 (upd H6 BL (.lst (bs ++ [.ref ya]))) := (TpS.refl _).upd (by rw [gBL]; exact id)
        refine ⟨lf', _, l' ++ [st], bs ++ [.ref ya], rfl, k6.upd mem1, upd_same, ?_, by rw [len_snoc]; omega, fun z hz => ?_, h1, h2⟩
        · rw [List.map_append]
          exact (Rps.ts ts _ _ hbs).append (.cons (Rp.ts ts _ _ rz6) .nil)
        · rcases List.mem_append.mp hz with z' | z'
          · exact hsub z z'
          · rw [List.mem_singleton.mp z']; exact List.mem_of_getElem? hst
      have nk : nask (l' ++ [st]) = nask l' + if isAsk st then 1 else 0 := by
        unfold nask
        rw [List.filter_append, List.length_append]
        cases h : isAsk st <;> simp [List.filter, h]
      have hyaB : ya ≠ BL := ne_of hya gBL (fun z => nomatch z)
      have hya2 : (upd H6 BL (.lst (bs ++ [.ref ya]))) ya = some (.tup (.str (sk st) :: ys)) := (upd_ne hyaB).trans hya
      have isA : decide (V.str (sk st) = V.str "ask") = isAsk st := by
        cases st with
        | sm m => exact decide_eq_false (sk_sm m).1
        | ask n => exact decide_eq_true rfl
        | ite e t f => exact decide_eq_false (show ¬ (V.str "if" = V.str "ask") by decide +kernel)
      refine ⟨_, rfl, ya, _, 0, _, rfl, rfl, SqT.tp hya, a0, rfl, _, rfl, ?_⟩
      rw [isA]
      cases hk : isAsk st with
      | false =>
        refine iteT (iteT ?_)
        refine ⟨_, rfl, .inl ⟨rfl, _, SqL.of gBL⟩, _, rfl, BL, bs, _, rfl, rfl, gBL, szl _ (by omega), ?_⟩
        refine ⟨_, rfl, _, rfl, ya, _, 0, _, rfl, rfl, SqT.tp hya2, a0, rfl, .inr ⟨_, rfl, _, _, rfl, rfl, ?_⟩⟩
        rw [isA, hk]
        refine fin (lf - 0) ?_ (by omega)
        rw [nk, hk]
        show ((nask l' + 0 : Nat) : Int) + (lf - 0) = 1
        omega
      | true =>
        refine iteF ?_
        refine ⟨_, rfl, _, _, rfl, rfl, _, rfl, ?_⟩
        refine if2 (fun c => ?_) (fun c => ?_)
        · have c' : 0 < lf := c
          refine ⟨_, rfl, .inl ⟨rfl, _, SqL.of gBL⟩, _, rfl, BL, bs, _, rfl, rfl, gBL, szl _ (by omega), ?_⟩
          refine ⟨_, rfl, _, rfl, ya, _, 0, _, rfl, rfl, SqT.tp hya2, a0, rfl, .inr ⟨_, rfl, _, _, rfl, rfl, ?_⟩⟩
          rw [isA, hk]
          refine fin (lf - 1) ?_ (by omega)
          rw [nk, hk]
          show ((nask l' + 1 : Nat) : Int) + (lf - 1) = 1
          omega
        · exact ⟨lf, _, l', bs, rfl, k6, gBL, hbs, by omega, hsub, hna, hlf⟩
    · rintro σ H6 ⟨lf, v5, l', bs, rfl, k6, gBL, hbs, ll', hsub, hna, hlf⟩
      have ts6 := k6.ts (nTp1 gBL5)
      have ht6 := ts6.t _ _ (s45 _ _ ht)
      have gPR6 : H6 PR = some (.lst []) := k6 _ _ (nmem1 PRBL) gPR5
      have l3 : (bx.take 3).length ≤ 3 := by rw [List.length_take]; omega
      refine ⟨_, rfl, .inl ⟨rfl, _, SqL.of gPR6⟩, _, rfl, t, _, 0, _, rfl, rfl, SqT.tp ht6, rfl, _, rfl, t, _, 1, _, rfl, rfl, SqT.tp ht6, rfl, _, rfl, t, _, 2, _, rfl, rfl, SqT.tp ht6, rfl, _, rfl, BL, bs, rfl, .inl ⟨SqL.of gBL, fun w4 hw4 => ?_⟩⟩
      refine ⟨by show 4 ≤ sizeLine; decide, fun p hp => ?_⟩
      have s7 := (same_new hw4 (.tup bs)).trans (same_new hp (.tup [.str (pnS 0), .int sz, .bl sh, .ref w4]))
      refine ⟨PR, [], _, rfl, rfl, s7 _ _ gPR6, (by show 0 < sizeLine; decide), ?_⟩
      have pPR : p ≠ PR := (ne_of_none ((same_new hw4 (.tup bs)) _ _ gPR6) hp).symm
      have ts8 : TpS H6 (upd (upd (upd H6 w4 (.tup bs)) p (.tup [.str (pnS 0), .int sz, .bl sh, .ref w4])) PR (.lst [.ref p])) := (TpS.of s7).upd (by rw [s7 _ _ gPR6]; exact id)
      have w4PR : w4 ≠ PR := (ne_of_none gPR6 hw4).symm
      refine ⟨lf, _, _, _, [.ref p], some (sz, sh, l'), rfl, ?_, upd_same, ?_, fun z => by omega, fun tq => ?_, fun pq z => ?_⟩
      · refine same_mut (fun a u hu => s7 a u (k6 a u (nmem1 (ne_of_none hu nBLH)) (s45 _ _ hu))) nPR
      · exact ts8.t _ _ (ts6.t _ _ gsp5)
      · by_cases hq : (upd (upd (upd H6 w4 (.tup bs)) p (.tup [.str (pnS 0), .int sz, .bl sh, .ref w4])) PR (.lst ([] ++ [.ref p]))) tq = none
        · refine .inl ?_
          have sq := same_new hq (.tup [.ref p])
          have hwp : Rp (upd (upd (upd H6 w4 (.tup bs)) p (.tup [.str (pnS 0), .int sz, .bl sh, .ref w4])) PR (.lst [.ref p])) (.ref p) (.tuple [.str "p", .int sz, .bool sh, blkD false l']) :=
            .tup ((upd_ne pPR).trans upd_same) (.cons (.str _) (.cons (.int _) (.cons (.bl _) (.cons (.tup ((upd_ne w4PR).trans (same_new hp _ _ _ upd_same)) (Rps.ts ts8 _ _ hbs)) .nil))))
          exact .tup upd_same (.cons (Rp.to hwp sq) .nil)
        · exact .inr hq
      · cases z
        exact ⟨sz1, sz3, Nat.le_trans ll' l3, fun s hs => hfl s (hsub s hs), by show nask l' ≤ 1; omega⟩
  · rintro σ H3 ⟨lf, v3, v4, v5, pps, proc, rfl, s3, gPR, gsp, _, hproc, hpf⟩
    -- the holdings
    refine ⟨_, rfl, y, _, 2, _, rfl, rfl, SqT.tp (s3 _ _ hy), rfl, w2, rfl, ⟨_, SqT.tp (s3 _ _ hw2)⟩, fun D hD => lc_tup (xs := hs) (fun i H' => ∃ acc : List V, Same H3 H' ∧ H' D = some (.lst acc) ∧ acc.length = i ∧ ∀ x ∈ acc, ∃ t n, x = .ref t ∧ H' t = some (.tup [.str "a", .int n]) ∧ 0 ≤ n ∧ n ≤ 1) ⟨[], same_new hD _, upd_same, rfl, fun _ z => (List.not_mem_nil z).elim⟩ (fun i H' _ ⟨_, s4, _⟩ => SqT.tp (s4 _ _ (s3 _ _ hw2))) ?_ ?_⟩
    · rintro i x H' hi ⟨acc, s4, gD, la, hacc⟩
      obtain ⟨t, n, rfl, ht, hn⟩ := hhs x (List.mem_of_getElem? hi)
      have ht4 := s4 _ _ (s3 _ _ ht)
      have il : i < 1 := Nat.lt_of_lt_of_le (lt_of_get hi) lhs
      refine ⟨rfl, _, rfl, t, _, 0, _, rfl, rfl, SqT.tp ht4, rfl, _, rfl, t, _, 1, _, rfl, rfl, SqT.tp ht4, rfl, _, _, rfl, by show 2 ≤ sizeLine; decide, fun p hp => ?_⟩
      have gD2 := same_new hp (.tup [.str "a", .int (if n < 1 then n else 1)]) _ _ gD
      have ts : TpS H' (upd (upd H' p (.tup [.str "a", .int (if n < 1 then n else 1)])) D (.lst (acc ++ [.ref p]))) := ((TpS.refl _).new hp).upd (by rw [gD2]; exact id)
      refine ⟨acc, gD2, szl _ (by omega), acc ++ [.ref p], same_mut (s4.trans (same_new hp _)) hD, upd_same, by rw [len_snoc, la], fun x hx => ?_⟩
      rcases List.mem_append.mp hx with z | z
      · obtain ⟨t2, n2, e, h1, h2⟩ := hacc x z
        exact ⟨t2, n2, e, ts.t _ _ h1, h2⟩
      · rw [List.mem_singleton.mp z]
        refine ⟨p, _, rfl, (upd_ne (ne_of_none gD hp).symm).trans upd_same, ?_, ?_⟩ <;> split <;> omega
    rintro H4 ⟨acc, s4, gD, la, hacc⟩
    refine ⟨D, acc, rfl, SqL.of gD, fun fr fo hfr hfo => ?_⟩
    have s5 := s4.trans (same_new hfr (.frz fo (.tup acc)))
    have s35 := s3.trans s5
    refine ⟨_, rfl, y, _, 0, _, rfl, rfl, SqT.tp (s35 _ _ hy), rfl, _, rfl, y, _, 1, _, rfl, rfl, SqT.tp (s35 _ _ hy), rfl, _, rfl, _, rfl, PR, pps, rfl, .inl ⟨SqL.of (s5 _ _ gPR), fun tp htp => ?_⟩⟩
    refine ⟨by show 4 ≤ sizeLine; decide, fun p hp => ?_⟩
    have s6 := (same_new htp (.tup pps)).trans (same_new hp (.tup [.str nm, w1, .ref fr, .ref tp]))
    have hprc : Rp (upd (upd H4 fr (.frz fo (.tup acc))) tp (.tup pps)) (.ref tp) (prcD false proc) := by
      have ntp : H3 tp = none := s5.free htp
      rcases hproc tp with h | h
      · have ts : TpS (upd H3 tp (.tup pps)) (upd (upd H4 fr (.frz fo (.tup acc))) tp (.tup pps)) := by
          refine ⟨fun a xs ha => ?_, fun a o xs ha => ?_⟩
          · by_cases e : a = tp
            · subst e
              rw [upd_same] at ha ⊢
              exact ha
            · rw [upd_ne e] at ha ⊢
              exact s5 _ _ ha
          · by_cases e : a = tp
            · subst e
              rw [upd_same] at ha
              cases ha
            · rw [upd_ne e] at ha ⊢
              exact s5 _ _ ha
        exact Rp.ts ts _ _ h
      · exact absurd ntp h
    have hhold : ∃ hold : Option Int, Rp (upd H4 fr (.frz fo (.tup acc))) (.ref fr) (holD false hold) ∧ ∀ h, hold = some h → 0 ≤ h ∧ h ≤ 1 := by
      have l1 : acc.length ≤ 1 := by rw [la]; exact lhs
      match acc, l1 with
      | [], _ => exact ⟨none, .frz upd_same hfo .nil, fun _ z => nomatch z⟩
      | [x1], _ =>
        obtain ⟨t1, n1, rfl, ht1, n0, n1'⟩ := hacc x1 (List.mem_singleton.mpr rfl)
        refine ⟨some n1, .frz upd_same hfo (.cons (.tup (same_new hfr _ _ _ ht1) (.cons (.str _) (.cons (.int _) .nil))) .nil), fun h z => ?_⟩
        cases z
        exact ⟨n0, n1'⟩
    obtain ⟨hold, hh1, hh2⟩ := hhold
    refine q (.ref p) ⟨var, hold, proc⟩ _ (s35.trans s6) ⟨p, w1, .ref fr, .ref tp, rfl, upd_same, Rp.to hw1 (s35.trans s6), Rp.to hh1 s6, Rp.to hprc (same_new hp _), ⟨fun p hp => ?_, hh2, fun p hp => ?_⟩⟩
    · obtain ⟨h1, h2, h3⟩ := hvar p hp
      exact ⟨by omega, by omega, h2, by omega⟩
    · exact hpf p hp
end
end Nc

-- Q7
set_option maxHeartbeats 4000000
namespace Nc
open PySem L2 C8
section
variable {P : Program} {w : World} {K : PySem.W.Frag} {mg : Str → Option Value} {base : Heap}
/-! ### the second contract's names -/
abbrev N_law_named : List Str := ["_law_expression_here"]
theorem sc_law_named : FnScope N_law_named ["_law_expression_here"] (defScope s_law_named) := ⟨rfl, rfl, rfl, by decide +kernel, rfl, by decide +kernel, by decide +kernel⟩
def spNmL (n : Nat) : Sp := fun vs H Q _ => ∃ (v : V) (e : Ex), vs = [v] ∧ Rp H v (e.d false) ∧ e.dep < n ∧ ∀ v' H', Same H H' → Rp H' v' (e.d true) → Q v' H'
theorem b_law_named : BindOk "_law_named" "_law_named" s_law_named ["_law_expression_here"] := fun _ _ _ _ _ _ us hl => match us, hl with | [_], _ => rfl
def inB (x : Str) (l : List V) : Bool := if false then !inV (.str x) l else inV (.str x) l
theorem inB_sg (s : Sg) : inB s.str [.str "have", .str "out"] = false := by cases s <;> decide +kernel
theorem ok_law_named (T : Tx K mg) : ∀ n : Nat, Cal P w K mg base n "_law_named" (spNmL n) []
  | 0 => cal_no T 41 rfl T.g__law_named b_law_named fun vs H Q E ⟨_, _, _, _, h, _⟩ => absurd h (Nat.not_lt_zero _)
  | n + 1 => by
    have c_law_named : Cal P w K mg base n "_law_named" (spNmL n) [] := ok_law_named T n
    refine cal_of T 41 rfl T.g__law_named sc_law_named b_law_named (fun vs H Q E h => ?_) (fun cdv A outer s H vs Q E hr h => ?_)
    · obtain ⟨_, _, rfl, _⟩ := h
      rfl
    obtain ⟨v, e, rfl, hv, hd, q⟩ := h
    refine ⟨_, (pss_cons (ps_if (pt_cmpR op_in_seq (pe_ix ix_tup (pv 0) pe_int (fun _ _ => rfl)) (pe_tup (pa_cons pe_str (pa_cons pe_str pa_nil))) (by rfl))
    (pss_one (ps_ret (pe_tup (pa_cons (pe_ix ix_tup (pv 0) pe_int (fun _ _ => rfl)) (pa_cons pe_str pa_nil)))))
    pss_nil)
    (pss_cons (ps_if (pt_cmpR op_eq (pe_callB call_len_seq (by rfl) T.f_len (by decide +kernel) (pa_cons (pv 0) pa_nil)) pe_int (nomark _))
    (pss_one (ps_ret (pe_tup (pa_cons (pe_ix ix_tup (pv 0) pe_int (fun _ _ => rfl)) (pa_cons (pe_c c_law_named hr (Nat.le_refl _) rfl (pa_cons (pe_ix ix_tup (pv 0) pe_int (fun _ _ => rfl)) pa_nil)) (pa_cons (pe_c c_law_named hr (Nat.le_refl _) rfl (pa_cons (pe_ix ix_tup (pv 0) pe_int (fun _ _ => rfl)) pa_nil)) pa_nil))))))
    pss_nil)
    (pss_one (ps_ret (pv 0))))), ?_⟩
    cases e with
    | num i =>
      obtain ⟨a, xs, rfl, ha, hx⟩ := Rp.tupE (show Rp H v (.tuple [.str "number", .int i]) from hv)
      obtain ⟨u1, r1, rfl, h1, hx⟩ := Rps.consE hx
      obtain ⟨u2, r2, rfl, h2, hx⟩ := Rps.consE hx
      obtain rfl := Rps.nilE hx
      obtain rfl := h1.strE
      refine ⟨_, rfl, a, _, 0, _, rfl, rfl, SqT.tp ha, rfl, by show 2 ≤ sizeLine; decide, fun tp htp => ?_⟩
      have s1 := same_new htp (.tup [.str "have", .str "out"])
      refine ⟨tp, _, rfl, .inr (SqT.tp upd_same), rfl, rfl, _, rfl, ?_⟩
      rw [show (if false then !inV (V.str "number") [.str "have", .str "out"] else inV (V.str "number") [.str "have", .str "out"]) = false from (by decide +kernel : inB "number" [.str "have", .str "out"] = false)]
      refine iteF ?_
      refine ⟨_, rfl, a, _, rfl, .inr (SqT.tp (s1 _ _ ha)), rfl, _, rfl, ifN (show ¬ (V.int 2 = V.int 3) by decide +kernel) ?_⟩
      exact ⟨_, rfl, q _ _ s1 (hv.to s1)⟩
    | var =>
      obtain ⟨a, xs, rfl, ha, hx⟩ := Rp.tupE (show Rp H v (.tuple [.str "variable", .str "x"]) from hv)
      obtain ⟨u1, r1, rfl, h1, hx⟩ := Rps.consE hx
      obtain ⟨u2, r2, rfl, h2, hx⟩ := Rps.consE hx
      obtain rfl := Rps.nilE hx
      obtain rfl := h1.strE
      refine ⟨_, rfl, a, _, 0, _, rfl, rfl, SqT.tp ha, rfl, by show 2 ≤ sizeLine; decide, fun tp htp => ?_⟩
      have s1 := same_new htp (.tup [.str "have", .str "out"])
      refine ⟨tp, _, rfl, .inr (SqT.tp upd_same), rfl, rfl, _, rfl, ?_⟩
      rw [show (if false then !inV (V.str "variable") [.str "have", .str "out"] else inV (V.str "variable") [.str "have", .str "out"]) = false from (by decide +kernel : inB "variable" [.str "have", .str "out"] = false)]
      refine iteF ?_
      refine ⟨_, rfl, a, _, rfl, .inr (SqT.tp (s1 _ _ ha)), rfl, _, rfl, ifN (show ¬ (V.int 2 = V.int 3) by decide +kernel) ?_⟩
      exact ⟨_, rfl, q _ _ s1 (hv.to s1)⟩
    | given =>
      obtain ⟨a, xs, rfl, ha, hx⟩ := Rp.tupE (show Rp H v (.tuple [.str "given"]) from hv)
      obtain ⟨u1, r1, rfl, h1, hx⟩ := Rps.consE hx
      obtain rfl := Rps.nilE hx
      obtain rfl := h1.strE
      refine ⟨_, rfl, a, _, 0, _, rfl, rfl, SqT.tp ha, rfl, by show 2 ≤ sizeLine; decide, fun tp htp => ?_⟩
      have s1 := same_new htp (.tup [.str "have", .str "out"])
      refine ⟨tp, _, rfl, .inr (SqT.tp upd_same), rfl, rfl, _, rfl, ?_⟩
      rw [show (if false then !inV (V.str "given") [.str "have", .str "out"] else inV (V.str "given") [.str "have", .str "out"]) = false from (by decide +kernel : inB "given" [.str "have", .str "out"] = false)]
      refine iteF ?_
      refine ⟨_, rfl, a, _, rfl, .inr (SqT.tp (s1 _ _ ha)), rfl, _, rfl, ifN (show ¬ (V.int 1 = V.int 3) by decide +kernel) ?_⟩
      exact ⟨_, rfl, q _ _ s1 (hv.to s1)⟩
    | hav =>
      obtain ⟨a, xs, rfl, ha, hx⟩ := Rp.tupE (show Rp H v (.tuple [.str "have", .str (asN false)]) from hv)
      obtain ⟨u1, r1, rfl, h1, hx⟩ := Rps.consE hx
      obtain ⟨u2, r2, rfl, h2, hx⟩ := Rps.consE hx
      obtain rfl := Rps.nilE hx
      obtain rfl := h1.strE
      refine ⟨_, rfl, a, _, 0, _, rfl, rfl, SqT.tp ha, rfl, by show 2 ≤ sizeLine; decide, fun tp htp => ?_⟩
      have s1 := same_new htp (.tup [.str "have", .str "out"])
      refine ⟨tp, _, rfl, .inr (SqT.tp upd_same), rfl, rfl, _, rfl, ?_⟩
      rw [show (if false then !inV (V.str "have") [.str "have", .str "out"] else inV (V.str "have") [.str "have", .str "out"]) = true from (by decide +kernel : inB "have" [.str "have", .str "out"] = true)]
      refine iteT ?_
      refine ⟨_, rfl, a, _, 0, _, rfl, rfl, SqT.tp (s1 _ _ ha), rfl, by show 2 ≤ sizeLine; decide, fun p hp => ?_⟩
      exact q _ _ (s1.trans (same_new hp _)) (.tup upd_same (.cons (.str _) (.cons (.str _) .nil)))
    | out =>
      obtain ⟨a, xs, rfl, ha, hx⟩ := Rp.tupE (show Rp H v (.tuple [.str "out", .str (asN false)]) from hv)
      obtain ⟨u1, r1, rfl, h1, hx⟩ := Rps.consE hx
      obtain ⟨u2, r2, rfl, h2, hx⟩ := Rps.consE hx
      obtain rfl := Rps.nilE hx
      obtain rfl := h1.strE
      refine ⟨_, rfl, a, _, 0, _, rfl, rfl, SqT.tp ha, rfl, by show 2 ≤ sizeLine; decide, fun tp htp => ?_⟩
      have s1 := same_new htp (.tup [.str "have", .str "out"])
      refine ⟨tp, _, rfl, .inr (SqT.tp upd_same), rfl, rfl, _, rfl, ?_⟩
      rw [show (if false then !inV (V.str "out") [.str "have", .str "out"] else inV (V.str "out") [.str "have", .str "out"]) = true from (by decide +kernel : inB "out" [.str "have", .str "out"] = true)]
      refine iteT ?_
      refine ⟨_, rfl, a, _, 0, _, rfl, rfl, SqT.tp (s1 _ _ ha), rfl, by show 2 ≤ sizeLine; decide, fun p hp => ?_⟩
      exact q _ _ (s1.trans (same_new hp _)) (.tup upd_same (.cons (.str _) (.cons (.str _) .nil)))
    | op sg l r =>
      obtain ⟨a, xs, rfl, ha, hx⟩ := Rp.tupE (show Rp H v (.tuple [.str sg.str, l.d false, r.d false]) from hv)
      obtain ⟨u1, r1, rfl, h1, hx⟩ := Rps.consE hx
      obtain ⟨u2, r2, rfl, h2, hx⟩ := Rps.consE hx
      obtain ⟨u3, r3, rfl, h3, hx⟩ := Rps.consE hx
      obtain rfl := Rps.nilE hx
      obtain rfl := h1.strE
      refine ⟨_, rfl, a, _, 0, _, rfl, rfl, SqT.tp ha, rfl, by show 2 ≤ sizeLine; decide, fun tp htp => ?_⟩
      have s1 := same_new htp (.tup [.str "have", .str "out"])
      refine ⟨tp, _, rfl, .inr (SqT.tp upd_same), rfl, rfl, _, rfl, ?_⟩
      rw [show (if false then !inV (V.str sg.str) [.str "have", .str "out"] else inV (V.str sg.str) [.str "have", .str "out"]) = false from inB_sg sg]
      refine iteF ?_
      refine ⟨_, rfl, a, _, rfl, .inr (SqT.tp (s1 _ _ ha)), rfl, _, rfl, ifY (show V.int 3 = V.int 3 from rfl) ?_⟩
      have hd' : max l.dep r.dep + 1 < n + 1 := hd
      refine ⟨_, rfl, a, _, 0, _, rfl, rfl, SqT.tp (s1 _ _ ha), rfl, _, rfl, a, _, 1, _, rfl, rfl, SqT.tp (s1 _ _ ha), rfl, u2, l, rfl, h2.to s1, by omega, fun v1 H2 s2 k1 => ?_⟩
      have s12 := s1.trans s2
      refine ⟨_, rfl, a, _, 2, _, rfl, rfl, SqT.tp (s12 _ _ ha), rfl, u3, r, rfl, h3.to s12, by omega, fun v2 H3 s3 k2 => ?_⟩
      refine ⟨by show 3 ≤ sizeLine; decide, fun p hp => ?_⟩
      have s4 := s3.trans (same_new hp (.tup [.str sg.str, v1, v2]))
      exact q _ _ (s12.trans s4) (.tup upd_same (.cons (.str _) (.cons (k1.to s4) (.cons (k2.to (same_new hp _)) .nil))))
abbrev N_law_moved : List Str := ["_law_block", "_law_moved_here", "_law_statement_here"]
theorem sc_law_moved : FnScope N_law_moved ["_law_block"] (defScope s_law_moved) := ⟨rfl, rfl, rfl, by decide +kernel, rfl, by decide +kernel, by decide +kernel⟩
def spMvL (m : Nat) : Sp := fun vs H Q _ => ∃ (v : V) (l : List Sx) (hv : Bool), vs = [v] ∧ 0 < m ∧ Rp H v (blkD false l) ∧ l.length ≤ 10 ∧ (∀ s ∈ l, s.fit hv ∧ s.lev < m) ∧ ∀ v' H', Same H H' → Rp H' v' (blkD true l) → Q v' H'
theorem b_law_moved : BindOk "_law_moved" "_law_moved" s_law_moved ["_law_block"] := fun _ _ _ _ _ _ us hl => match us, hl with | [_], _ => rfl
theorem ok_law_moved (T : Tx K mg) : ∀ m : Nat, Cal P w K mg base (m + 4) "_law_moved" (spMvL m) []
  | 0 => cal_no T 42 rfl T.g__law_moved b_law_moved fun vs H Q E ⟨_, _, _, _, h, _⟩ => absurd h (Nat.lt_irrefl _)
  | m + 1 => by
    have c_law_named : Cal P w K mg base 4 "_law_named" (spNmL 4) [] := ok_law_named T 4
    have c_law_moved : Cal P w K mg base (m + 4) "_law_moved" (spMvL m) [] := ok_law_moved T m
    refine cal_of T 42 rfl T.g__law_moved sc_law_moved b_law_moved (fun vs H Q E h => ?_) (fun cdv A outer s H vs Q E hr h => ?_)
    · obtain ⟨_, _, _, rfl, _⟩ := h
      rfl
    obtain ⟨v, l, hv, rfl, _, hv0, ll, hl, q⟩ := h
    obtain ⟨a, xs, rfl, ha, hx⟩ := Rp.tupE hv0
    have lx : xs.length = l.length := by rw [Rps.length hx, List.length_map]
    refine ⟨_, (pss_cons (ps_set (i := 1) sc_law_moved.nd rfl (Or.inl rfl) (pe_lst pa_nil))
    (pss_cons (ps_for PassesOwn.never rfl (pi_tup (pv 0)) (pg_name (i := 2) sc_law_moved.nd rfl (Or.inl rfl))
    (pss_one (ps_if (pt_cmpR op_eq (pe_ix ix_tup (pv 2) pe_int (fun _ _ => rfl)) pe_str (nomark _))
    (pss_one (ps_expr (pe_bm PySem.F.plainAttrs_list PySem.F.slot_list_append PySem.F.type_list_append mt_append (pv 1) (pa_cons (pe_tup (pa_cons pe_str (pa_cons (pe_c c_law_named hr (by omega) rfl (pa_cons (pe_ix ix_tup (pv 2) pe_int (fun _ _ => rfl)) pa_nil)) (pa_cons (pe_c c_law_moved hr (by omega) rfl (pa_cons (pe_ix ix_tup (pv 2) pe_int (fun _ _ => rfl)) pa_nil)) (pa_cons (pe_c c_law_moved hr (by omega) rfl (pa_cons (pe_ix ix_tup (pv 2) pe_int (fun _ _ => rfl)) pa_nil)) pa_nil))))) pa_nil))))
    (pss_one (ps_if (pt_cmpR op_in_seq (pe_ix ix_tup (pv 2) pe_int (fun _ _ => rfl)) (pe_tup (pa_cons pe_str (pa_cons pe_str pa_nil))) (by rfl))
    (pss_one (ps_expr (pe_bm PySem.F.plainAttrs_list PySem.F.slot_list_append PySem.F.type_list_append mt_append (pv 1) (pa_cons (pe_tup (pa_cons (pe_ix ix_tup (pv 2) pe_int (fun _ _ => rfl)) (pa_cons pe_str (pa_cons (pe_c c_law_named hr (by omega) rfl (pa_cons (pe_ix ix_tup (pv 2) pe_int (fun _ _ => rfl)) pa_nil)) pa_nil)))) pa_nil))))
    (pss_one (ps_if (pt_cmpR op_eq (pe_ix ix_tup (pv 2) pe_int (fun _ _ => rfl)) pe_str (nomark _))
    (pss_one (ps_expr (pe_bm PySem.F.plainAttrs_list PySem.F.slot_list_append PySem.F.type_list_append mt_append (pv 1) (pa_cons (pv 2) pa_nil))))
    (pss_one (ps_expr (pe_bm PySem.F.plainAttrs_list PySem.F.slot_list_append PySem.F.type_list_append mt_append (pv 1) (pa_cons (pe_op op_catA (pe_slice sl_tupA (pv 2) po_none (po_some (pe_un un_neg pe_int))) (pe_tup (pa_cons (pe_c c_law_named hr (by omega) rfl (pa_cons (pe_ix ix_tup (pv 2) (pe_un un_neg pe_int) (fun _ _ => rfl)) pa_nil)) pa_nil))) pa_nil)))))))))))
    (pss_one (ps_ret (pe_callTy call_tuple_of (by rfl) T.f_tuple (by decide +kernel) (pa_cons (pv 1) pa_nil)))))), ?_⟩
    refine ⟨by show 0 ≤ sizeLine; decide, fun MV nMV => ?_⟩
    have s1 := same_new nMV (.lst [])
    refine ⟨_, rfl, a, rfl, ⟨_, SqT.tp (s1 _ _ ha)⟩, for_tup (xs := xs) (fun i σ H' => ∃ (v2 : Option V) (ws : List V), σ = [some (.ref a), some (.ref MV), v2] ∧ Same H H' ∧ H' MV = some (.lst ws) ∧ Rps H' ws ((l.take i).map (Sx.d true))) ⟨none, [], rfl, s1, upd_same, by rw [List.take_zero]; exact .nil⟩ (fun i σ H' _ ⟨_, _, _, s2, _⟩ => SqT.tp (s2 _ _ ha)) ?_ ?_⟩
    · rintro i x σ H' hi ⟨v2, ws, rfl, s2, gM, hws⟩
      obtain ⟨d, hd, rx⟩ := Rps.getV hx hi
      rw [List.getElem?_map] at hd
      obtain ⟨st, hst, rfl⟩ := Option.map_eq_some_iff.mp hd
      have il : i < l.length := lt_of_get hst
      obtain ⟨hf, hlev⟩ := hl st (List.mem_of_getElem? hst)
      have rx' := Rp.to rx s2
      have lws : ws.length ≤ 10 := by rw [Rps.length hws, List.length_map, List.length_take]; omega
      have next : ∀ (v : V) (H2 : Hp), Same H' H2 → Rp H2 v (st.d true) → ∃ (v2 : Option V) (ws2 : List V), ([some (.ref a), some (.ref MV), some x] : L2.St) = [some (.ref a), some (.ref MV), v2] ∧ Same H (upd H2 MV (.lst (ws ++ [v]))) ∧ (upd H2 MV (.lst (ws ++ [v]))) MV = some (.lst ws2) ∧ Rps (upd H2 MV (.lst (ws ++ [v]))) ws2 ((l.take (i + 1)).map (Sx.d true)) := fun v H2 s3 hv2 => by
        have ts : TpS H2 (upd H2 MV (.lst (ws ++ [v]))) := (TpS.refl _).upd (by rw [s3 _ _ gM]; exact id)
        refine ⟨_, ws ++ [v], rfl, same_mut (s2.trans s3) nMV, upd_same, ?_⟩
        rw [take_map_snoc hst]
        exact (Rps.ts ts _ _ (hws.to s3)).append (.cons (Rp.ts ts _ _ hv2) .nil)
      cases st with
      | ask n =>
        obtain ⟨y, r0, rfl, hy, hr1⟩ := Rp.tupE (show Rp H' x (.tuple [.str "ask", .str "x", .int n]) from rx')
        obtain ⟨u1, r1, rfl, k1, hr1⟩ := Rps.consE hr1
        obtain ⟨u2, r2, rfl, k2, hr1⟩ := Rps.consE hr1
        obtain ⟨u3, r3, rfl, k3, hr1⟩ := Rps.consE hr1
        obtain rfl := Rps.nilE hr1
        obtain rfl := k1.strE
        refine ⟨_, rfl, y, _, 0, _, rfl, rfl, SqT.tp hy, rfl, rfl, _, rfl, ifN (by decide +kernel) ?_⟩
        refine ⟨_, rfl, y, _, 0, _, rfl, rfl, SqT.tp hy, rfl, by show 2 ≤ sizeLine; decide, fun tp htp => ?_⟩
        have s3 := same_new htp (.tup [.str "give", .str "get"])
        refine ⟨tp, _, rfl, .inr (SqT.tp upd_same), rfl, rfl, _, rfl, ?_⟩
        rw [show (if false then !inV (V.str "ask") [.str "give", .str "get"] else inV (V.str "ask") [.str "give", .str "get"]) = false from (by decide +kernel : inB "ask" [.str "give", .str "get"] = false)]
        refine iteF ?_
        refine ⟨_, rfl, y, _, 0, _, rfl, rfl, SqT.tp (s3 _ _ hy), rfl, rfl, _, rfl, ifY rfl ?_⟩
        refine ⟨_, rfl, .inl ⟨rfl, _, SqL.of (s3 _ _ gM)⟩, _, rfl, MV, ws, _, rfl, rfl, s3 _ _ gM, szl _ (by omega), ?_⟩
        exact next (.ref y) _ s3 (Rp.to rx' s3)
      | ite e t f =>
        obtain ⟨ef, lt, lf, ft, ff⟩ := hf
        obtain ⟨y, r0, rfl, hy, hr1⟩ := Rp.tupE (show Rp H' x (.tuple [.str "if", e.d false, .tuple (t.map (Sm.d false)), .tuple (f.map (Sm.d false))]) from rx')
        obtain ⟨u1, r1, rfl, k1, hr1⟩ := Rps.consE hr1
        obtain ⟨u2, r2, rfl, k2, hr1⟩ := Rps.consE hr1
        obtain ⟨u3, r3, rfl, k3, hr1⟩ := Rps.consE hr1
        obtain ⟨u4, r4, rfl, k4, hr1⟩ := Rps.consE hr1
        obtain rfl := Rps.nilE hr1
        obtain rfl := k1.strE
        rw [blk_sm] at k3 k4
        have hm1 : 0 < m := by
          have h : (1 : Nat) < m + 1 := hlev
          omega
        have fitM : ∀ (l : List Sm), (∀ s ∈ l, s.fit hv) → ∀ s ∈ l.map Sx.sm, s.fit hv ∧ s.lev < m := fun l h s hs => by
          obtain ⟨z, hz, rfl⟩ := List.mem_map.mp hs
          exact ⟨h z hz, hm1⟩
        refine ⟨_, rfl, y, _, 0, _, rfl, rfl, SqT.tp hy, rfl, rfl, _, rfl, ifY rfl ?_⟩
        refine ⟨_, rfl, .inl ⟨rfl, _, SqL.of gM⟩, _, rfl, y, _, 1, _, rfl, rfl, SqT.tp hy, rfl, u2, e, rfl, k2, ef.dep, fun v1 H2 s3 j1 => ?_⟩
        refine ⟨_, rfl, y, _, 2, _, rfl, rfl, SqT.tp (s3 _ _ hy), rfl, u3, t.map Sx.sm, hv, rfl, hm1, Rp.to k3 s3, by rw [List.length_map]; omega, fitM t ft, fun v2 H3 s4 j2 => ?_⟩
        have s34 := s3.trans s4
        refine ⟨_, rfl, y, _, 3, _, rfl, rfl, SqT.tp (s34 _ _ hy), rfl, u4, f.map Sx.sm, hv, rfl, hm1, Rp.to k4 s34, by rw [List.length_map]; omega, fitM f ff, fun v3 H4 s5 j3 => ?_⟩
        refine ⟨by show 4 ≤ sizeLine; decide, fun p hp => ?_⟩
        have s6 := same_new hp (.tup [.str "if", v1, v2, v3])
        have s35 := (s34.trans s5).trans s6
        refine ⟨MV, ws, _, rfl, rfl, s35 _ _ gM, szl _ (by omega), ?_⟩
        rw [← blk_sm] at j2 j3
        exact next (.ref p) _ s35 (.tup upd_same (.cons (.str _) (.cons (Rp.to j1 (s4.trans (s5.trans s6))) (.cons (Rp.to j2 (s5.trans s6)) (.cons (Rp.to j3 s6) .nil)))))
      | sm sm0 =>
        cases sm0 with
        | set e =>
          have ef : e.fit hv := hf.2
          obtain ⟨y, r0, rfl, hy, hr1⟩ := Rp.tupE (show Rp H' x (.tuple [.str "set", .str "x", e.d false]) from rx')
          obtain ⟨u1, r1, rfl, k1, hr1⟩ := Rps.consE hr1
          obtain ⟨u2, r2, rfl, k2, hr1⟩ := Rps.consE hr1
          obtain ⟨u3, r3, rfl, k3, hr1⟩ := Rps.consE hr1
          obtain rfl := Rps.nilE hr1
          obtain rfl := k1.strE
          refine ⟨_, rfl, y, _, 0, _, rfl, rfl, SqT.tp hy, rfl, rfl, _, rfl, ifN (by decide +kernel) ?_⟩
          refine ⟨_, rfl, y, _, 0, _, rfl, rfl, SqT.tp hy, rfl, by show 2 ≤ sizeLine; decide, fun tp htp => ?_⟩
          have s3 := same_new htp (.tup [.str "give", .str "get"])
          refine ⟨tp, _, rfl, .inr (SqT.tp upd_same), rfl, rfl, _, rfl, ?_⟩
          rw [show (if false then !inV (V.str "set") [.str "give", .str "get"] else inV (V.str "set") [.str "give", .str "get"]) = false from (by decide +kernel : inB "set" [.str "give", .str "get"] = false)]
          refine iteF ?_
          refine ⟨_, rfl, y, _, 0, _, rfl, rfl, SqT.tp (s3 _ _ hy), rfl, rfl, _, rfl, ifN (by decide +kernel) ?_⟩
          refine ⟨_, rfl, .inl ⟨rfl, _, SqL.of (s3 _ _ gM)⟩, _, rfl, _, rfl, _, rfl, slA (s3 _ _ hy) fun c1 H4 s4 h4 => ?_⟩
          have ec : cutV [.str "set", u2, u3] none (some (-1)) = [.str "set", u2] := cut_last (xs := [.str "set", u2]) (z := u3)
          rw [ec] at h4
          have s34 := s3.trans s4
          refine ⟨_, rfl, _, rfl, y, _, -1, _, rfl, rfl, SqT.tp (s34 _ _ hy), rfl, u3, e, rfl, k3.to s34, ef.dep, fun v1 H5 s5 j1 => ⟨by show 1 ≤ sizeLine; decide, fun c2 hc2 => ?_⟩⟩
          have s6 := same_new hc2 (.tup [v1])
          refine catA (s6 _ _ (s5 _ _ h4)) upd_same (show 3 ≤ 100000 by decide) fun c3 H7 s7 h7 => ?_
          have s37 := ((s34.trans s5).trans s6).trans s7
          refine ⟨MV, ws, _, rfl, rfl, s37 _ _ gM, szl _ (by omega), ?_⟩
          exact next (.ref c3) _ s37 (.tup h7 (.cons (.str _) (.cons (Rp.to k2 s37) (.cons (Rp.to j1 (s6.trans s7)) .nil))))
        | need e =>
          have ef : e.fit hv := hf
          obtain ⟨y, r0, rfl, hy, hr1⟩ := Rp.tupE (show Rp H' x (.tuple [.str "need", e.d false]) from rx')
          obtain ⟨u1, r1, rfl, k1, hr1⟩ := Rps.consE hr1
          obtain ⟨u2, r2, rfl, k2, hr1⟩ := Rps.consE hr1
          obtain rfl := Rps.nilE hr1
          obtain rfl := k1.strE
          refine ⟨_, rfl, y, _, 0, _, rfl, rfl, SqT.tp hy, rfl, rfl, _, rfl, ifN (by decide +kernel) ?_⟩
          refine ⟨_, rfl, y, _, 0, _, rfl, rfl, SqT.tp hy, rfl, by show 2 ≤ sizeLine; decide, fun tp htp => ?_⟩
          have s3 := same_new htp (.tup [.str "give", .str "get"])
          refine ⟨tp, _, rfl, .inr (SqT.tp upd_same), rfl, rfl, _, rfl, ?_⟩
          rw [show (if false then !inV (V.str "need") [.str "give", .str "get"] else inV (V.str "need") [.str "give", .str "get"]) = false from (by decide +kernel : inB "need" [.str "give", .str "get"] = false)]
          refine iteF ?_
          refine ⟨_, rfl, y, _, 0, _, rfl, rfl, SqT.tp (s3 _ _ hy), rfl, rfl, _, rfl, ifN (by decide +kernel) ?_⟩
          refine ⟨_, rfl, .inl ⟨rfl, _, SqL.of (s3 _ _ gM)⟩, _, rfl, _, rfl, _, rfl, slA (s3 _ _ hy) fun c1 H4 s4 h4 => ?_⟩
          have ec : cutV [.str "need", u2] none (some (-1)) = [.str "need"] := cut_last (xs := [.str "need"]) (z := u2)
          rw [ec] at h4
          have s34 := s3.trans s4
          refine ⟨_, rfl, _, rfl, y, _, -1, _, rfl, rfl, SqT.tp (s34 _ _ hy), rfl, u2, e, rfl, k2.to s34, ef.dep, fun v1 H5 s5 j1 => ⟨by show 1 ≤ sizeLine; decide, fun c2 hc2 => ?_⟩⟩
          have s6 := same_new hc2 (.tup [v1])
          refine catA (s6 _ _ (s5 _ _ h4)) upd_same (show 2 ≤ 100000 by decide) fun c3 H7 s7 h7 => ?_
          have s37 := ((s34.trans s5).trans s6).trans s7
          refine ⟨MV, ws, _, rfl, rfl, s37 _ _ gM, szl _ (by omega), ?_⟩
          exact next (.ref c3) _ s37 (.tup h7 (.cons (.str _) (.cons (Rp.to j1 (s6.trans s7)) .nil)))
        | give e =>
          have ef : e.fit hv := hf
          obtain ⟨y, r0, rfl, hy, hr1⟩ := Rp.tupE (show Rp H' x (.tuple [.str "give", .str (asN false), e.d false]) from rx')
          obtain ⟨u1, r1, rfl, k1, hr1⟩ := Rps.consE hr1
          obtain ⟨u2, r2, rfl, k2, hr1⟩ := Rps.consE hr1
          obtain ⟨u3, r3, rfl, k3, hr1⟩ := Rps.consE hr1
          obtain rfl := Rps.nilE hr1
          obtain rfl := k1.strE
          refine ⟨_, rfl, y, _, 0, _, rfl, rfl, SqT.tp hy, rfl, rfl, _, rfl, ifN (by decide +kernel) ?_⟩
          refine ⟨_, rfl, y, _, 0, _, rfl, rfl, SqT.tp hy, rfl, by show 2 ≤ sizeLine; decide, fun tp htp => ?_⟩
          have s3 := same_new htp (.tup [.str "give", .str "get"])
          refine ⟨tp, _, rfl, .inr (SqT.tp upd_same), rfl, rfl, _, rfl, ?_⟩
          rw [show (if false then !inV (V.str "give") [.str "give", .str "get"] else inV (V.str "give") [.str "give", .str "get"]) = true from (by decide +kernel : inB "give" [.str "give", .str "get"] = true)]
          refine iteT ?_
          refine ⟨_, rfl, .inl ⟨rfl, _, SqL.of (s3 _ _ gM)⟩, _, rfl, y, _, 0, _, rfl, rfl, SqT.tp (s3 _ _ hy), rfl, _, rfl, y, _, 2, _, rfl, rfl, SqT.tp (s3 _ _ hy), rfl, u3, e, rfl, k3.to s3, ef.dep, fun v1 H4 s4 j1 => ⟨by show 3 ≤ sizeLine; decide, fun p hp => ?_⟩⟩
          have s5 := same_new hp (.tup [.str "give", .str "z", v1])
          have s35 := (s3.trans s4).trans s5
          refine ⟨MV, ws, _, rfl, rfl, s35 _ _ gM, szl _ (by omega), ?_⟩
          exact next (.ref p) _ s35 (.tup upd_same (.cons (.str _) (.cons (.str _) (.cons (Rp.to j1 s5) .nil))))
        | get e =>
          have ef : e.fit hv := hf
          obtain ⟨y, r0, rfl, hy, hr1⟩ := Rp.tupE (show Rp H' x (.tuple [.str "get", .str (asN false), e.d false]) from rx')
          obtain ⟨u1, r1, rfl, k1, hr1⟩ := Rps.consE hr1
          obtain ⟨u2, r2, rfl, k2, hr1⟩ := Rps.consE hr1
          obtain ⟨u3, r3, rfl, k3, hr1⟩ := Rps.consE hr1
          obtain rfl := Rps.nilE hr1
          obtain rfl := k1.strE
          refine ⟨_, rfl, y, _, 0, _, rfl, rfl, SqT.tp hy, rfl, rfl, _, rfl, ifN (by decide +kernel) ?_⟩
          refine ⟨_, rfl, y, _, 0, _, rfl, rfl, SqT.tp hy, rfl, by show 2 ≤ sizeLine; decide, fun tp htp => ?_⟩
          have s3 := same_new htp (.tup [.str "give", .str "get"])
          refine ⟨tp, _, rfl, .inr (SqT.tp upd_same), rfl, rfl, _, rfl, ?_⟩
          rw [show (if false then !inV (V.str "get") [.str "give", .str "get"] else inV (V.str "get") [.str "give", .str "get"]) = true from (by decide +kernel : inB "get" [.str "give", .str "get"] = true)]
          refine iteT ?_
          refine ⟨_, rfl, .inl ⟨rfl, _, SqL.of (s3 _ _ gM)⟩, _, rfl, y, _, 0, _, rfl, rfl, SqT.tp (s3 _ _ hy), rfl, _, rfl, y, _, 2, _, rfl, rfl, SqT.tp (s3 _ _ hy), rfl, u3, e, rfl, k3.to s3, ef.dep, fun v1 H4 s4 j1 => ⟨by show 3 ≤ sizeLine; decide, fun p hp => ?_⟩⟩
          have s5 := same_new hp (.tup [.str "get", .str "z", v1])
          have s35 := (s3.trans s4).trans s5
          refine ⟨MV, ws, _, rfl, rfl, s35 _ _ gM, szl _ (by omega), ?_⟩
          exact next (.ref p) _ s35 (.tup upd_same (.cons (.str _) (.cons (.str _) (.cons (Rp.to j1 s5) .nil))))
    · rintro σ H' ⟨v2, ws, rfl, s2, gM, hws⟩
      rw [lx, List.take_length] at hws
      refine ⟨_, rfl, MV, ws, rfl, .inl ⟨SqL.of gM, fun t ht => ?_⟩⟩
      exact q (.ref t) _ (s2.trans (same_new ht _)) (.tup upd_same (hws.to (same_new ht _)))
end
end Nc

-- Q8
set_option maxHeartbeats 4000000
namespace Nc
open PySem L2 C8
section
variable {P : Program} {w : World} {K : PySem.W.Frag} {mg : Str → Option Value} {base : Heap}
/-! ### the house is made -/
abbrev N_law_made : List Str := ["_law_house_here"]
theorem sc_law_made : FnScope N_law_made ["_law_house_here"] (defScope s_law_made) := ⟨rfl, rfl, rfl, by decide +kernel, rfl, by decide +kernel, by decide +kernel⟩
def spMade (K : PySem.W.Frag) : Sp := fun vs H Q _ => ∃ (hp la lc a1 a2 : Addr) (v1 v2 : V) (h : HH), vs = [.ref hp] ∧ H hp = some (.tup [.ref la, .ref lc]) ∧ H la = some (.lst [.ref a1, .ref a2]) ∧ H a1 = some (.tup [.str "a", .int h.oa]) ∧ H a2 = some (.tup [.str "z", .int h.oz]) ∧ H lc = some (.lst [v1, v2]) ∧ Rp H v1 (h.c.d false) ∧ Rp H v2 (h.d.d true) ∧ h.pc = true ∧ h.pd = true ∧
  ∀ e H', Same H H' → HouseAt K H' e h → Q (.ref e) H'
theorem ok_law_made (T : Tx K mg) : Cal P w K mg base 3 "_law_made" (spMade K) [] := by
  have c_House : Mak P w K mg base 1 "House" (He.ga K "House") (spHouse K) [] := ok_House_init T
  refine cal_of T 40 rfl T.g__law_made sc_law_made (fun _ _ _ _ _ _ us hl => match us, hl with | [_], _ => rfl) (fun vs H Q E h => ?_) (fun cdv A outer s H vs Q E hr h => ?_)
  · obtain ⟨_, _, _, _, _, _, _, _, rfl, _⟩ := h
    rfl
  obtain ⟨hp, la, lc, a1, a2, v1, v2, h, rfl, hhp, hla, ha1, ha2, hlc, hv1, hv2, h1, h2, q⟩ := h
  refine ⟨_, (pss_one (ps_ret (pe_mk c_House hr (by decide) rfl (pa_cons (pe_callTy call_tuple_of (by rfl) T.f_tuple (by decide +kernel) (pa_cons (pe_ix ix_tup (pv 0) pe_int (fun _ _ => rfl)) pa_nil)) (pa_cons (pe_callTy call_tuple_of (by rfl) T.f_tuple (by decide +kernel) (pa_cons (pe_ix ix_tup (pv 0) pe_int (fun _ _ => rfl)) pa_nil)) pa_nil))))), ?_⟩
  refine ⟨_, rfl, hp, _, 0, _, rfl, rfl, SqT.tp hhp, rfl, la, _, rfl, .inl ⟨SqL.of hla, fun t1 ht1 => ?_⟩⟩
  have s1 := same_new ht1 (.tup [.ref a1, .ref a2])
  refine ⟨_, rfl, hp, _, 1, _, rfl, rfl, SqT.tp (s1 _ _ hhp), rfl, lc, _, rfl, .inl ⟨SqL.of (s1 _ _ hlc), fun t2 ht2 => ?_⟩⟩
  have s2 := s1.trans (same_new ht2 (.tup [v1, v2]))
  refine fun e dx he hdx hne => ?_
  have s3 := same_mut (s2.trans (same_new hdx (.own e))) (s2.free he) (o := .ins (He.ga K "House") dx [])
  have t1s : Same _ _ := same_new ht2 (.tup [v1, v2])
  have sx : ∀ {a : Addr} {u : HO}, (upd (upd H t1 (.tup [.ref a1, .ref a2])) t2 (.tup [v1, v2])) a = some u → (upd (upd (upd (upd H t1 (.tup [.ref a1, .ref a2])) t2 (.tup [v1, v2])) dx (.own e)) e (.ins (He.ga K "House") dx [])) a = some u := fun {a u} hu => by
    rw [upd_ne (ne_of_none hu he), upd_ne (ne_of_none hu hdx)]
    exact hu
  have ep : h.pres = [false, true] := by unfold HH.pres; rw [h1, h2]; rfl
  have hA : Rp (upd (upd (upd (upd H t1 (.tup [.ref a1, .ref a2])) t2 (.tup [v1, v2])) dx (.own e)) e (.ins (He.ga K "House") dx [])) (.ref t1) h.assD :=
    .tup (sx (t1s _ _ upd_same)) (.cons (.tup (s3 _ _ ha1) (.cons (.str _) (.cons (.int _) .nil))) (.cons (.tup (s3 _ _ ha2) (.cons (.str _) (.cons (.int _) .nil))) .nil))
  have hC : Rp (upd (upd (upd (upd H t1 (.tup [.ref a1, .ref a2])) t2 (.tup [v1, v2])) dx (.own e)) e (.ins (He.ga K "House") dx [])) (.ref t2) h.conD := by
    unfold HH.conD
    rw [ep]
    exact .tup (sx upd_same) (.cons (Rp.to hv1 s3) (.cons (Rp.to hv2 s3) .nil))
  refine ⟨e, dx, .ref t1, .ref t2, h, rfl, upd_same, hA, .inl hC, fun H' sX hh => ⟨rfl, q e H' (fun a u hu => sX a u (ne_of_none hu (s2.free he)) (s3 _ _ hu)) hh⟩⟩
end
end Nc

-- Q9
set_option maxHeartbeats 4000000
namespace Nc
open PySem L2 C8
theorem SqL.to' {K : PySem.W.Frag} {H H' : Hp} {a : Addr} {xs : List V} (h : SqL K H a xs) (s : Same H H') : SqL K H' a xs := by
  rcases h with h | h
  · rcases h with h | ⟨o, h⟩
    · exact .inl (.inl (s _ _ h))
    · exact .inl (.inr ⟨o, s _ _ h⟩)
  · exact .inr h
theorem cut3a {L : List V} (h : L.length = 8) : ∃ x y z, L[1]? = some x ∧ L[2]? = some y ∧ L[3]? = some z ∧ cutV L (some 1) (some 4) = [x, y, z] := by
  match L, h with
  | [_, b, c, d, _, _, _, _], _ => exact ⟨b, c, d, rfl, rfl, rfl, rfl⟩
theorem cut3b {L : List V} (h : L.length = 8) : ∃ x y z, L[4]? = some x ∧ L[5]? = some y ∧ L[6]? = some z ∧ cutV L (some 4) (some 7) = [x, y, z] := by
  match L, h with
  | [_, _, _, _, b, c, d, _], _ => exact ⟨b, c, d, rfl, rfl, rfl, rfl⟩
theorem int_of {L : List Int} {k : Nat} {x : V} (h : (L.map V.int)[k]? = some x) : ∃ i, x = .int i := by
  rw [List.getElem?_map] at h
  obtain ⟨i, _, rfl⟩ := Option.map_eq_some_iff.mp h
  exact ⟨i, rfl⟩
theorem holdE2 {H : Hp} {v : V} {o : Option Int} {b : Bool} (h : Rp H v (holD b o)) : ∃ a ob xs, v = .ref a ∧ H a = some (.frz ob (.tup xs)) ∧ xs.length = (if o.isSome then 1 else 0) ∧ ∀ x ∈ xs, ∃ t n, x = .ref t ∧ o = some n ∧ H t = some (.tup [.str (asN b), .int n]) := by
  cases o with
  | none =>
    obtain ⟨a, ob, xs, rfl, h1, h0, h2⟩ := Rp.frzE (show Rp H v (.list []) from h)
    obtain rfl := Rps.nilE h2
    exact ⟨a, ob, [], rfl, h1, rfl, fun _ z => (List.not_mem_nil z).elim⟩
  | some n =>
    obtain ⟨a, ob, xs, rfl, h1, h0, h2⟩ := Rp.frzE (show Rp H v (.list [.tuple [.str (asN b), .int n]]) from h)
    obtain ⟨u, r, rfl, k1, h2⟩ := Rps.consE h2
    obtain rfl := Rps.nilE h2
    obtain ⟨t, ys, rfl, h3, h4⟩ := Rp.tupE k1
    obtain ⟨u1, r, rfl, m1, h4⟩ := Rps.consE h4
    obtain ⟨u2, r, rfl, m2, h4⟩ := Rps.consE h4
    obtain rfl := Rps.nilE h4
    obtain rfl := m1.strE
    obtain rfl := m2.intE
    refine ⟨a, ob, _, rfl, h1, rfl, fun x z => ?_⟩
    rw [List.mem_singleton.mp z]
    exact ⟨t, n, rfl, rfl, h3⟩
theorem hold_mk {H : Hp} {t : Addr} {ob : Obj} {acc : List V} {o : Option Int} {b : Bool} (h : H t = some (.frz ob (.tup acc))) (d : ob.dict = none) (l : acc.length = if o.isSome then 1 else 0) (ha : ∀ x ∈ acc, ∃ n, o = some n ∧ Rp H x (.tuple [.str (asN b), .int n])) : Rp H (.ref t) (holD b o) := by
  cases o with
  | none =>
    obtain rfl := List.eq_nil_of_length_eq_zero l
    exact .frz h d .nil
  | some n =>
    match acc, l with
    | [x], _ =>
      obtain ⟨n', e, r⟩ := ha x (List.mem_singleton.mpr rfl)
      cases e
      exact .frz h d (.cons r .nil)
theorem var_mk {H : Hp} {t : Addr} {acc : List V} {hv : Bool} (h : H t = some (.tup acc)) (l : acc.length = if hv then 1 else 0) (ha : ∀ x ∈ acc, Rp H x (.tuple [.str "x", .int 1, .int 0])) : Rp H (.ref t) (varD (if hv then some (1, 0) else none)) := by
  cases hv with
  | false =>
    obtain rfl := List.eq_nil_of_length_eq_zero l
    exact .tup h .nil
  | true =>
    match acc, l with
    | [x], _ => exact .tup h (.cons (ha x (List.mem_singleton.mpr rfl)) .nil)
theorem prc_mk {H : Hp} {t : Addr} {acc : List V} {pr : Option (Int × Bool × List Sx)} (h : H t = some (.tup acc)) (l : acc.length = if pr.isSome then 1 else 0) (ha : ∀ x ∈ acc, ∃ p, pr = some p ∧ Rp H x (.tuple [.str "p", .int p.1, .bool p.2.1, blkD true p.2.2])) : Rp H (.ref t) (prcD true pr) := by
  cases pr with
  | none =>
    obtain rfl := List.eq_nil_of_length_eq_zero l
    exact .tup h .nil
  | some n =>
    match acc, l with
    | [x], _ =>
      obtain ⟨n', e, r⟩ := ha x (List.mem_singleton.mpr rfl)
      cases e
      exact .tup h (.cons r .nil)
def DueI (h : HH) (p q : Int) (i : Nat) (due : Int) : Prop := (i = 0 → due = h.oa * p + h.oz * q) ∧ (i = 1 → IsMost (h.sub false) p q due) ∧ (i = 2 → ∃ m1 m2, IsMost (h.sub false) p q m1 ∧ IsMost (h.sub true) p q m2 ∧ due = m1 + m2 - (h.oa * p + h.oz * q))
section
variable {P : Program} {w : World} {K : PySem.W.Frag} {mg : Str → Option Value} {base : Heap}
/-! ### the law -/
abbrev N_law : List Str := ["_law_script", "_law_digits", "_law_cells", "_law_first", "_law_second", "_law_procs", "_law_row_here", "_law_variables", "_law_house_here", "_law_made_here", "_law_prices", "_law_base", "_law_due", "_law_k", "_law_proc", "_law_held"]
theorem sc_law : FnScope N_law ["_law_script"] (defScope s_law) := ⟨rfl, rfl, rfl, by decide +kernel, rfl, by decide +kernel, by decide +kernel⟩
def spLaw (K : PySem.W.Frag) : Sp := fun vs H Q _ => ∃ (a : Addr) (ns : List Int), vs = [.ref a] ∧ SqL K H a (ns.map V.int) ∧ ns.length ≤ 63 ∧ ∀ H', Q (.bl true) H'
theorem law_body (T : Tx K mg) : BodyOk P w K mg base N_law "law" s_law (He.ga K "law") 39 (spLaw K) := by
  intro cdv A outer s H vs Q E hr h
  have c_law_cell : Cal P w K mg base 1 "_law_cell" (spCell K) [] := ok_law_cell T
  have c_law_row : Cal P w K mg base 1 "_law_row" spRowL [] := ok_law_row T
  have c_law_contract : Cal P w K mg base 6 "_law_contract" spConL [] := ok_law_contract T
  have c_law_short : Cal P w K mg base 1 "_law_short" spShort [] := ok_law_short T
  have c_law_moved : Cal P w K mg base 6 "_law_moved" (spMvL 2) [] := ok_law_moved T 2
  have c_law_made : Cal P w K mg base 3 "_law_made" (spMade K) [] := ok_law_made T
  have c_parts : Cal P w K mg base 8 "parts" (spParts K) [] := ok_parts T
  have c_part_house : Cal P w K mg base 3 "part_house" (spPart K) [] := ok_part_house T
  have c_most : Cal P w K mg base 16 "most" (spMost K) [] := ok_most T
  obtain ⟨a, ns, rfl, hS, _, q⟩ := h
  refine ⟨_, (pss_cons (ps_set (i := 1) sc_law.nd rfl (Or.inl rfl) (pe_c c_law_row hr (by decide) rfl (pa_cons (pe_c c_law_cell hr (by decide) rfl (pa_cons (pv 0) (pa_cons pe_int pa_nil))) (pa_cons pe_int (pa_cons pe_int pa_nil)))))
    (pss_cons (ps_setLc (i := 2) (g := (gName 13)) (tt := tYes) (own := [("_law_k", 13)]) rfl sc_law.nd rfl rfl (sw_true rfl rfl rfl (by decide +kernel)) (pi_range1 rfl T.f_range (pa_cons pe_int pa_nil)) (blkOk_by (N := N_law) (sc := defScope s_law) (by decide +kernel)) (fun _ _ _ _ _ => (pg_name (i := 13) sc_law.nd rfl (Or.inl rfl))) (fun _ _ _ _ _ => pts_nil) (fun _ _ _ _ _ => (pe_c c_law_cell hr (by decide) rfl (pa_cons (pv 0) (pa_cons (pv 13) pa_nil)))))
    (pss_cons (ps_set (i := 3) sc_law.nd rfl (Or.inl rfl) (pe_c c_law_short hr (by decide) rfl (pa_cons (pe_ix ix_tup (pe_c c_law_contract hr (by decide) rfl (pa_cons pe_str (pa_cons (pe_slice sl_list (pv 2) (po_some pe_int) (po_some pe_int)) (pa_cons (pe_lst (pa_cons pe_str pa_nil)) (pa_cons (pe_lst pa_nil) (pa_cons pe_int (pa_cons pe_bl pa_nil))))))) pe_int (fun _ _ => rfl)) pa_nil)))
    (pss_cons (ps_set (i := 4) sc_law.nd rfl (Or.inl rfl) (pe_c c_law_short hr (by decide) rfl (pa_cons (pe_ix ix_tup (pe_c c_law_contract hr (by decide) rfl (pa_cons pe_str (pa_cons (pe_slice sl_list (pv 2) (po_some pe_int) (po_some pe_int)) (pa_cons (pe_lst (pa_cons pe_str pa_nil)) (pa_cons (pe_lst pa_nil) (pa_cons pe_int (pa_cons pe_bl pa_nil))))))) pe_int (fun _ _ => rfl)) pa_nil)))
    (pss_cons (ps_setLc (i := 5) (te := tTup (tCons (tOp (rIxT K) (tVar 14) (tC (.int 0))) (tCons (tOp (rIxT K) (tVar 14) (tC (.int 1))) (tCons (tOp (rIxT K) (tVar 14) (tC (.int 2))) (tCons (tCall (spMvL 2) [] C8.E0 (tCons (tOp (rIxT K) (tVar 14) (tC (.int 3))) tNil)) tNil))))) (g := (gName 14)) (tt := tYes) (own := [("_law_proc", 14)]) rfl sc_law.nd rfl rfl (sw_true rfl rfl rfl (by decide +kernel)) (pi_tup (pe_ix ix_tup (pv 4) pe_int (fun _ _ => rfl))) (blkOk_by (N := N_law) (sc := defScope s_law) (by decide +kernel)) (fun _ _ _ _ _ => (pg_name (i := 14) sc_law.nd rfl (Or.inl rfl))) (fun _ _ _ _ _ => pts_nil) (fun _ _ _ _ _ => (pe_tup (pa_cons (pe_ix ix_tup (pv 14) pe_int (fun _ _ => rfl)) (pa_cons (pe_ix ix_tup (pv 14) pe_int (fun _ _ => rfl)) (pa_cons (pe_ix ix_tup (pv 14) pe_int (fun _ _ => rfl)) (pa_cons (pe_c c_law_moved hr (by decide) rfl (pa_cons (pe_ix ix_tup (pv 14) pe_int (fun _ _ => rfl)) pa_nil)) pa_nil)))))))
    (pss_cons (ps_set (i := 7) sc_law.nd rfl (Or.inl rfl) (pe_callTy call_tuple_of (by rfl) T.f_tuple (by decide +kernel) (pa_cons (pe_lc (te := (tTup (tCons (tOp (rIxT K) (tVar 6) (tC (.int 0))) (tCons (tC (.int 1)) (tCons (tC (.int 0)) tNil))))) (g := (gName 6)) (tt := tYes) (own := [("_law_row_here", 6)]) rfl sc_law.nd (pi_tup (pe_ix ix_tup (pv 4) pe_int (fun _ _ => rfl))) (blkOk_by (N := N_law) (sc := defScope s_law) (by decide +kernel)) (fun _ _ _ _ _ => (pg_name (i := 6) sc_law.nd rfl (Or.inl rfl))) (fun _ _ _ _ _ => pts_nil) (fun _ _ _ _ _ => (pe_tup (pa_cons (pe_ix ix_tup (pv 6) pe_int (fun _ _ => rfl)) (pa_cons pe_int (pa_cons pe_int pa_nil)))))) pa_nil)))
    (pss_cons (ps_set (i := 4) sc_law.nd rfl (Or.inl rfl) (pe_tup (pa_cons pe_str (pa_cons (pv 7) (pa_cons (pe_callTy call_tuple_frz (by rfl) T.f_tuple (by decide +kernel) (pa_cons (pe_lc (te := (tTup (tCons (tC (.str "z")) (tCons (tOp (rIxT K) (tVar 15) (tC (.int 1))) tNil)))) (g := (gName 15)) (tt := tYes) (own := [("_law_held", 15)]) rfl sc_law.nd (pi_tup (pe_ix ix_tup (pv 4) pe_int (fun _ _ => rfl))) (blkOk_by (N := N_law) (sc := defScope s_law) (by decide +kernel)) (fun _ _ _ _ _ => (pg_name (i := 15) sc_law.nd rfl (Or.inl rfl))) (fun _ _ _ _ _ => pts_nil) (fun _ _ _ _ _ => (pe_tup (pa_cons pe_str (pa_cons (pe_ix ix_tup (pv 15) pe_int (fun _ _ => rfl)) pa_nil))))) pa_nil)) (pa_cons (pe_callTy call_tuple_of (by rfl) T.f_tuple (by decide +kernel) (pa_cons (pv 5) pa_nil)) pa_nil))))))
    (pss_cons (ps_set (i := 8) sc_law.nd rfl (Or.inr rfl) (pe_tup (pa_cons (pe_lst (pa_cons (pe_tup (pa_cons pe_str (pa_cons (pe_op op_mod (pe_ix ix_list (pv 1) pe_int (fun _ _ => rfl)) pe_int) pa_nil))) (pa_cons (pe_tup (pa_cons pe_str (pa_cons (pe_op op_mod (pe_ix ix_list (pv 1) pe_int (fun _ _ => rfl)) pe_int) pa_nil))) pa_nil))) (pa_cons (pe_lst (pa_cons (pv 3) (pa_cons (pv 4) pa_nil))) pa_nil))))
    (pss_cons (ps_set (i := 9) sc_law.nd rfl (Or.inl rfl) (pe_c c_law_made hr (by decide) rfl (pa_cons (pv 8) pa_nil)))
    (pss_cons (ps_set (i := 10) sc_law.nd rfl (Or.inr rfl) (pe_lst (pa_cons (pe_op op_mod (pe_ix ix_list (pv 1) pe_int (fun _ _ => rfl)) pe_int) (pa_cons (pe_op op_mod (pe_ix ix_list (pv 1) pe_int (fun _ _ => rfl)) pe_int) pa_nil))))
    (pss_cons (ps_set (i := 11) sc_law.nd rfl (Or.inl rfl) (pe_callB (cr_sum rfl) (by rfl) T.f_sum (by decide +kernel) (pa_cons (pe_lc (te := (tOp rMul (tOp (rIxT K) (tOp (rIxL K) (tOp (rIxT K) (tVar 8) (tC (.int 0))) (tVar 13)) (tC (.int 1))) (tOp (rIxL K) (tVar 10) (tVar 13)))) (g := (gName 13)) (tt := tYes) (own := [("_law_k", 13)]) rfl sc_law.nd (pi_range1 rfl T.f_range (pa_cons (pe_callB call_len_seq (by rfl) T.f_len (by decide +kernel) (pa_cons (pv 10) pa_nil)) pa_nil)) (blkOk_by (N := N_law) (sc := defScope s_law) (by decide +kernel)) (fun _ _ _ _ _ => (pg_name (i := 13) sc_law.nd rfl (Or.inl rfl))) (fun _ _ _ _ _ => pts_nil) (fun _ _ _ _ _ => (pe_op op_mul (pe_ix ix_tup (pe_ix ix_list (pe_ix ix_tup (pv 8) pe_int (fun _ _ => rfl)) (pv 13) (fun _ _ => rfl)) pe_int (fun _ _ => rfl)) (pe_ix ix_list (pv 10) (pv 13) (fun _ _ => rfl))))) pa_nil)))
    (pss_cons (ps_set (i := 12) sc_law.nd rfl (Or.inl rfl) (pv 11))
    (pss_cons (ps_for PassesOwn.never rfl (pi_list (pe_c c_parts hr (by decide) rfl (pa_cons (pv 9) pa_nil))) (pg_name (i := 6) sc_law.nd rfl (Or.inl rfl))
    (pss_one (ps_set (i := 12) sc_law.nd rfl (Or.inl rfl) (pe_op op_sub (pe_op op_add (pv 12) (pe_c c_most hr (by decide) rfl (pa_cons (pe_c c_part_house hr (by decide) rfl (pa_cons (pv 9) (pa_cons (pv 6) pa_nil))) (pa_cons (pe_callTy call_list_of (by rfl) T.f_list (by decide +kernel) (pa_cons (pv 10) pa_nil)) pa_nil)))) (pv 11)))))
    (pss_one (ps_ret (pe_cmpR op_eq (pe_c c_most hr (by decide) rfl (pa_cons (pv 9) (pa_cons (pe_callTy call_list_of (by rfl) T.f_list (by decide +kernel) (pa_cons (pv 10) pa_nil)) pa_nil))) (pv 12) (nomark _))))))))))))))))), ?_⟩
  have m60 : (0 : Int) < 60 ∧ (60 : Int) < 1073741824 := by decide
  refine ⟨_, rfl, a, ns, 0, rfl, hS, fun i0 => ⟨i0, 8, 60, rfl, by decide, m60.1, m60.2, fun dg L H1 s1 _ hdg lL hL => ?_⟩⟩
  have at_ : ∀ k : Nat, k < 8 → atI (L.map V.int) (k : Int) = some (.int (L.getD k 0)) := fun k hk => atI_nat (dg_at (by omega))
  -- cells
  refine ⟨8, rfl, by decide, by decide, fun D hD => lc_range (n := 8) (fun i H' => ∃ Lc : List Int, H' = upd H1 D (.lst (Lc.map V.int)) ∧ Lc.length = i) ⟨[], rfl, rfl⟩ ?_ ?_⟩
  · rintro i H' hi ⟨Lc, rfl, lLc⟩
    refine ⟨rfl, _, rfl, _, rfl, a, ns, i, by rw [Int.zero_add]; rfl, SqL.to' hS (s1.trans (same_new hD _)), fun v => ?_⟩
    refine ⟨_, upd_same, szl _ (by rw [List.length_map]; omega), Lc ++ [v], ?_, by rw [len_snoc, lLc]⟩
    rw [upd_upd, List.map_append]
    rfl
  rintro H2 ⟨Lc, rfl, lLc⟩
  have s2 := s1.trans (same_new hD (.lst (Lc.map V.int)))
  have hdg2 := same_new hD (.lst (Lc.map V.int)) _ _ hdg
  have gD : (upd H1 D (.lst (Lc.map V.int))) D = some (.lst (Lc.map V.int)) := upd_same
  generalize upd H1 D (.lst (Lc.map V.int)) = H2 at s2 hdg2 gD ⊢
  have l8 : (Lc.map V.int).length = 8 := by rw [List.length_map, lLc]
  -- the first
  obtain ⟨x1, x2, x3, e1, e2, e3, ec⟩ := cut3a l8
  obtain ⟨c0, rfl⟩ := int_of e1
  obtain ⟨c1, rfl⟩ := int_of e2
  obtain ⟨c2, rfl⟩ := int_of e3
  refine ⟨_, rfl, _, rfl, _, rfl, D, _, rfl, SqL.of gD, fun l1 hl1 => ?_⟩
  rw [ec]
  refine ⟨by show 1 ≤ sizeLine; decide, fun l2 hl2 => ⟨by show 0 ≤ sizeLine; decide, fun l3 hl3 => ?_⟩⟩
  have s3a := (same_new hl1 (.lst [.int c0, .int c1, .int c2])).trans ((same_new hl2 (.lst [.str "a"])).trans (same_new hl3 (.lst [])))
  refine ⟨"c", l1, l3, c0, c1, c2, .ref l2, rfl, same_new hl3 _ _ _ (same_new hl2 _ _ _ upd_same), ⟨l2, rfl, same_new hl3 _ _ _ upd_same⟩, upd_same, fun t1 v1 lk1 k1 H3 s3 ht1 gc1 => ?_⟩
  refine ⟨t1, _, 0, _, rfl, rfl, SqT.tp ht1, rfl, v1, "c", rfl, gc1, fun f1 cc1 H4 s4 sh1 => ?_⟩
  have s24 := (s3a.trans s3).trans s4
  -- the second
  obtain ⟨x1, x2, x3, e1, e2, e3, ec⟩ := cut3b l8
  obtain ⟨d0, rfl⟩ := int_of e1
  obtain ⟨d1, rfl⟩ := int_of e2
  obtain ⟨d2, rfl⟩ := int_of e3
  refine ⟨_, rfl, _, rfl, _, rfl, D, _, rfl, SqL.of (s24 _ _ gD), fun l1 hl1 => ?_⟩
  rw [ec]
  refine ⟨by show 1 ≤ sizeLine; decide, fun l2 hl2 => ⟨by show 0 ≤ sizeLine; decide, fun l3 hl3 => ?_⟩⟩
  have s5a := (same_new hl1 (.lst [.int d0, .int d1, .int d2])).trans ((same_new hl2 (.lst [.str "a"])).trans (same_new hl3 (.lst [])))
  refine ⟨"d", l1, l3, d0, d1, d2, .ref l2, rfl, same_new hl3 _ _ _ (same_new hl2 _ _ _ upd_same), ⟨l2, rfl, same_new hl3 _ _ _ upd_same⟩, upd_same, fun t2 v2 lk2 k2 H5 s5 ht2 gc2 => ?_⟩
  refine ⟨t2, _, 0, _, rfl, rfl, SqT.tp ht2, rfl, v2, "d", rfl, gc2, fun f2 cc2 H6 s6 sh2 => ?_⟩
  have s46 := (s5a.trans s5).trans s6
  have s26 := s24.trans s46
  obtain ⟨y2, w21, w22, w23, rfl, hy2, hw21, hw22, hw23, fit2⟩ := sh2
  -- its procedures
  obtain ⟨ap, ps, rfl, hap, lps, hps⟩ := prcE hw23
  refine ⟨_, rfl, y2, _, 3, _, rfl, rfl, SqT.tp hy2, rfl, ap, rfl, ⟨_, SqT.tp hap⟩, fun D5 hD5 => lc_tup (xs := ps) (fun i H' => ∃ acc : List V, Same H6 H' ∧ H' D5 = some (.lst acc) ∧ acc.length = i ∧ ∀ x ∈ acc, ∃ p, cc2.proc = some p ∧ Rp H' x (.tuple [.str "p", .int p.1, .bool p.2.1, blkD true p.2.2])) ⟨[], same_new hD5 _, upd_same, rfl, fun _ z => (List.not_mem_nil z).elim⟩ (fun i H' _ ⟨_, s7, _⟩ => SqT.tp (s7 _ _ hap)) ?_ ?_⟩
  · rintro i x H' hi ⟨acc, s7, gD5, la, _⟩
    obtain ⟨t, sz, sh, l, pw, rfl, ht, rfl, hpe, hwb, _⟩ := hps i x hi
    obtain rfl : acc = [] := List.eq_nil_of_length_eq_zero la
    have fp := fit2.proc _ hpe
    have ht7 := s7 _ _ ht
    refine ⟨rfl, _, rfl, t, _, 0, _, rfl, rfl, SqT.tp ht7, rfl, _, rfl, t, _, 1, _, rfl, rfl, SqT.tp ht7, rfl, _, rfl, t, _, 2, _, rfl, rfl, SqT.tp ht7, rfl, _, rfl, t, _, 3, _, rfl, rfl, SqT.tp ht7, rfl, ?_⟩
    refine ⟨_, pw, cc2.hv, rfl, (show 0 < 2 by decide), Rp.to hwb s7, Nat.le_trans fp.2.2.1 (by decide), fun s hs => ⟨fp.2.2.2.1 s hs, Sx.lev2 s⟩, fun v' H8 s8 hv' => ⟨by show 4 ≤ sizeLine; decide, fun p hp => ?_⟩⟩
    have gD8 := same_new hp (.tup [.str "p", .int sz, .bl sh, v']) _ _ (s8 _ _ gD5)
    have ts : TpS H8 (upd (upd H8 p (.tup [.str "p", .int sz, .bl sh, v'])) D5 (.lst ([] ++ [.ref p]))) := ((TpS.refl _).new hp).upd (by rw [gD8]; exact id)
    refine ⟨[], gD8, szl _ (show 0 < 100000 by decide), [.ref p], same_mut ((s7.trans s8).trans (same_new hp _)) hD5, upd_same, rfl, fun x hx => ?_⟩
    rw [List.mem_singleton.mp hx]
    exact ⟨_, hpe, .tup ((upd_ne (ne_of_none (s8 _ _ gD5) hp).symm).trans upd_same) (.cons (.str _) (.cons (.int _) (.cons (.bl _) (.cons (Rp.ts ts _ _ hv') .nil))))⟩
  rintro H7 ⟨acc5, s7, gD5, la5, hacc5⟩
  -- its variables
  obtain ⟨av, vs1, rfl, hav, lvs, hvs⟩ := varE hw21
  have hav7 := s7 _ _ hav
  refine ⟨_, rfl, y2, _, 1, _, rfl, rfl, SqT.tp (s7 _ _ hy2), rfl, av, rfl, ⟨_, SqT.tp hav7⟩, fun D7 hD7 => lc_tup (xs := vs1) (fun i H' => ∃ acc : List V, Same H7 H' ∧ H' D7 = some (.lst acc) ∧ acc.length = i ∧ ∀ x ∈ acc, Rp H' x (.tuple [.str "x", .int 1, .int 0])) ⟨[], same_new hD7 _, upd_same, rfl, fun _ z => (List.not_mem_nil z).elim⟩ (fun i H' _ ⟨_, s8, _⟩ => SqT.tp (s8 _ _ hav7)) ?_ ?_⟩
  · rintro i x H' hi ⟨acc, s8, gD7, la, _⟩
    obtain ⟨t, sz, f, rfl, ht, rfl, _⟩ := hvs i x hi
    obtain rfl : acc = [] := List.eq_nil_of_length_eq_zero la
    have ht8 := s8 _ _ (s7 _ _ ht)
    refine ⟨rfl, _, rfl, t, _, 0, _, rfl, rfl, SqT.tp ht8, rfl, by show 3 ≤ sizeLine; decide, fun p hp => ?_⟩
    have gD8 := same_new hp (.tup [.str "x", .int 1, .int 0]) _ _ gD7
    refine ⟨[], gD8, szl _ (show 0 < 100000 by decide), [.ref p], same_mut (s8.trans (same_new hp _)) hD7, upd_same, rfl, fun x hx => ?_⟩
    rw [List.mem_singleton.mp hx]
    exact .tup ((upd_ne (ne_of_none gD7 hp).symm).trans upd_same) (.cons (.str _) (.cons (.int _) (.cons (.int _) .nil)))
  rintro H8 ⟨acc7, s8, gD7, la7, hacc7⟩
  refine ⟨D7, acc7, rfl, .inl ⟨SqL.of gD7, fun tv htv => ?_⟩⟩
  have s8b := s8.trans (same_new htv (.tup acc7))
  have rv : Rp (upd H8 tv (.tup acc7)) (.ref tv) (varD (if cc2.hv then some (1, 0) else none)) := var_mk upd_same (la7.trans lvs) fun x hx => Rp.to (hacc7 x hx) (same_new htv _)
  generalize upd H8 tv (.tup acc7) = H8b at s8b rv ⊢
  -- its holdings
  obtain ⟨ah, oh, hs1, rfl, hah, lhs, hhs⟩ := holdE2 hw22
  have s68 := s7.trans s8b
  have hah8 := s68 _ _ hah
  refine ⟨_, rfl, _, rfl, y2, _, 2, _, rfl, rfl, SqT.tp (s68 _ _ hy2), rfl, ah, rfl, ⟨_, SqT.fz hah8⟩, fun D9 hD9 => lc_tup (xs := hs1) (fun i H' => ∃ acc : List V, Same H8b H' ∧ H' D9 = some (.lst acc) ∧ acc.length = i ∧ ∀ x ∈ acc, ∃ n, cc2.hold = some n ∧ Rp H' x (.tuple [.str "z", .int n])) ⟨[], same_new hD9 _, upd_same, rfl, fun _ z => (List.not_mem_nil z).elim⟩ (fun i H' _ ⟨_, s9, _⟩ => SqT.fz (s9 _ _ hah8)) ?_ ?_⟩
  · rintro i x H' hi ⟨acc, s9, gD9, la, _⟩
    obtain ⟨t, n, rfl, hn, ht⟩ := hhs x (List.mem_of_getElem? hi)
    have il : i < 1 := Nat.lt_of_lt_of_le (lt_of_get hi) (by rw [lhs]; split <;> decide)
    obtain rfl : i = 0 := by omega
    obtain rfl : acc = [] := List.eq_nil_of_length_eq_zero la
    have ht9 := s9 _ _ (s68 _ _ ht)
    refine ⟨rfl, _, rfl, t, _, 1, _, rfl, rfl, SqT.tp ht9, rfl, by show 2 ≤ sizeLine; decide, fun p hp => ?_⟩
    have gD8 := same_new hp (.tup [.str "z", .int n]) _ _ gD9
    refine ⟨[], gD8, szl _ (show 0 < 100000 by decide), [.ref p], same_mut (s9.trans (same_new hp _)) hD9, upd_same, rfl, fun x hx => ?_⟩
    rw [List.mem_singleton.mp hx]
    exact ⟨n, hn, .tup ((upd_ne (ne_of_none gD9 hp).symm).trans upd_same) (.cons (.str _) (.cons (.int _) .nil))⟩
  rintro H9 ⟨acc9, s9, gD9, la9, hacc9⟩
  refine ⟨D9, acc9, rfl, SqL.of gD9, fun fr fo hfr hfo => ?_⟩
  have s9b := s9.trans (same_new hfr (.frz fo (.tup acc9)))
  have rh : Rp (upd H9 fr (.frz fo (.tup acc9))) (.ref fr) (holD true cc2.hold) := hold_mk upd_same hfo (la9.trans lhs) fun x hx => by
    obtain ⟨n, e, r⟩ := hacc9 x hx
    exact ⟨n, e, Rp.to r (same_new hfr _)⟩
  generalize upd H9 fr (.frz fo (.tup acc9)) = H9b at s9b rh ⊢
  have s79 := s8b.trans s9b
  refine ⟨_, rfl, D5, acc5, rfl, .inl ⟨SqL.of (s79 _ _ gD5), fun tp htp => ?_⟩⟩
  have s10 := s9b.trans (same_new htp (.tup acc5))
  have rp : Rp (upd H9b tp (.tup acc5)) (.ref tp) (prcD true cc2.proc) := prc_mk upd_same (la5.trans lps) fun x hx => by
    obtain ⟨n, e, r⟩ := hacc5 x hx
    exact ⟨n, e, Rp.to r (s79.trans (same_new htp _))⟩
  have rh' := Rp.to rh (same_new htp (.tup acc5))
  generalize upd H9b tp (.tup acc5) = H10 at s10 rp rh' ⊢
  refine ⟨by show 4 ≤ sizeLine; decide, fun t4 ht4 => ?_⟩
  let c2' : CC := ⟨if cc2.hv then some (1, 0) else none, cc2.hold, cc2.proc⟩
  have hv2 : c2'.hv = cc2.hv := by
    show (if cc2.hv = true then some ((1 : Int), (0 : Int)) else none).isSome = cc2.hv
    cases cc2.hv <;> rfl
  have fv2 : ∀ p, c2'.var = some p → 1 ≤ p.1 ∧ p.1 ≤ 2 ∧ 0 ≤ p.2 ∧ p.2 < p.1 := fun p e => by
    have e2 : (if cc2.hv = true then some ((1 : Int), (0 : Int)) else none) = some p := e
    split at e2
    · cases e2
      decide
    · cases e2
  have fit2' : c2'.fit := ⟨fv2, fit2.hold, by rw [hv2]; exact fit2.proc⟩
  have rc : Rp (upd H10 t4 (.tup [.str "d", .ref tv, .ref fr, .ref tp])) (.ref t4) (c2'.d true) := .tup upd_same (.cons (.str _) (.cons (Rp.to rv (s10.trans (same_new ht4 _))) (.cons (Rp.to rh' (same_new ht4 _)) (.cons (Rp.to rp (same_new ht4 _)) .nil))))
  have s11 := s10.trans (same_new ht4 (.tup [.str "d", .ref tv, .ref fr, .ref tp]))
  generalize upd H10 t4 (.tup [.str "d", .ref tv, .ref fr, .ref tp]) = H11 at s11 rc ⊢
  have s4b := s46.trans (s68.trans s11)
  have s2b := s24.trans s4b
  have sAll := s2.trans s2b
  have dgA := s2b _ _ hdg2
  -- the first contract stands
  obtain ⟨y1, w11, w12, w13, rfl, hy1, hw11, hw12, hw13, fit1⟩ := sh1
  have rc1 : Rp H11 (.ref y1) (cc1.d false) := Rp.to (.tup hy1 (.cons (.str _) (.cons hw11 (.cons hw12 (.cons hw13 .nil))))) s4b
  -- assets
  refine ⟨_, rfl, dg, _, 0, _, rfl, rfl, SqL.of dgA, at_ 0 (by decide), _, _, rfl, rfl, (show (0 : Int) < 2 by decide), by show 2 ≤ sizeLine; decide, fun a1 ha1 => ?_⟩
  have s12 := same_new ha1 (.tup [.str "a", .int (L.getD 0 0 % 2)])
  refine ⟨_, rfl, dg, _, 1, _, rfl, rfl, SqL.of (s12 _ _ dgA), at_ 1 (by decide), _, _, rfl, rfl, (show (0 : Int) < 2 by decide), by show 2 ≤ sizeLine; decide, fun a2 ha2 => ?_⟩
  have s13 := same_new ha2 (.tup [.str "z", .int (L.getD 1 0 % 2)])
  refine ⟨by show 2 ≤ sizeLine; decide, fun la hla => ?_⟩
  have s14 := same_new hla (.lst [.ref a1, .ref a2])
  refine ⟨_, rfl, _, rfl, by show 2 ≤ sizeLine; decide, fun lc hlc => ?_⟩
  have s15 := same_new hlc (.lst [.ref y1, .ref t4])
  refine ⟨by show 2 ≤ sizeLine; decide, fun hp hhp => ?_⟩
  have s16 := same_new hhp (.tup [.ref la, .ref lc])
  have ga1 := s16 _ _ (s15 _ _ (s14 _ _ (s13 _ _ (upd_same (H := H11) (a := a1) (o := .tup [.str "a", .int (L.getD 0 0 % 2)])))))
  have ga2 := s16 _ _ (s15 _ _ (s14 _ _ (upd_same (a := a2) (o := .tup [.str "z", .int (L.getD 1 0 % 2)]))))
  have hp0 := Int.emod_nonneg (L.getD 2 0) (show (10 : Int) ≠ 0 by decide)
  have hp1 := Int.emod_lt_of_pos (L.getD 2 0) (show (0 : Int) < 10 by decide)
  have hq0 := Int.emod_nonneg (L.getD 3 0) (show (10 : Int) ≠ 0 by decide)
  have hq1 := Int.emod_lt_of_pos (L.getD 3 0) (show (0 : Int) < 10 by decide)
  have ha0 := Int.emod_nonneg (L.getD 0 0) (show (2 : Int) ≠ 0 by decide)
  have ha1' := Int.emod_lt_of_pos (L.getD 0 0) (show (0 : Int) < 2 by decide)
  have hz0 := Int.emod_nonneg (L.getD 1 0) (show (2 : Int) ≠ 0 by decide)
  have hz1 := Int.emod_lt_of_pos (L.getD 1 0) (show (0 : Int) < 2 by decide)
  have gla := s16 _ _ (s15 _ _ (upd_same (a := la) (o := .lst [.ref a1, .ref a2])))
  have glc := s16 _ _ (upd_same (a := lc) (o := .lst [.ref y1, .ref t4]))
  have s1116 := s12.trans (s13.trans (s14.trans (s15.trans s16)))
  let hh : HH := ⟨cc1, c2', true, true, L.getD 0 0 % 2, L.getD 1 0 % 2⟩
  have hhfit : hh.fit := ⟨fit1, fit2', ⟨ha0, by show L.getD 0 0 % 2 ≤ 1; omega⟩, ⟨hz0, by show L.getD 1 0 % 2 ≤ 1; omega⟩, by show ([false] ++ [true] : List Bool) ≠ []; decide⟩
  have hpres : hh.pres = bs2 := rfl
  -- the house is made
  refine ⟨_, rfl, hp, la, lc, a1, a2, .ref y1, .ref t4, hh, rfl, upd_same, gla, ga1, ga2, glc, Rp.to rc1 s1116, Rp.to rc s1116, rfl, rfl, fun e H17 s17 hhe => ?_⟩
  have dg17 := s17 _ _ (s1116 _ _ dgA)
  have ga1' := s17 _ _ ga1
  have ga2' := s17 _ _ ga2
  have gla' := s17 _ _ gla
  have ghp' := s17 _ _ (upd_same (a := hp) (o := HO.tup [.ref la, .ref lc]))
  -- prices
  refine ⟨_, rfl, dg, _, 2, _, rfl, rfl, SqL.of dg17, at_ 2 (by decide), _, _, rfl, rfl, (show (0 : Int) < 10 by decide), ?_⟩
  refine ⟨_, rfl, dg, _, 3, _, rfl, rfl, SqL.of dg17, at_ 3 (by decide), _, _, rfl, rfl, (show (0 : Int) < 10 by decide), by show 2 ≤ sizeLine; decide, fun pl hpl => ?_⟩
  have s18 := same_new hpl (.lst [.int (L.getD 2 0 % 10), .int (L.getD 3 0 % 10)])
  have gpl := upd_same (H := H17) (a := pl) (o := HO.lst [.int (L.getD 2 0 % 10), .int (L.getD 3 0 % 10)])
  have ga1p := s18 _ _ ga1'
  have ga2p := s18 _ _ ga2'
  have glap := s18 _ _ gla'
  have ghpp := s18 _ _ ghp'
  have hhp := HouseAt.to hhe s18
  generalize upd H17 pl (.lst [.int (L.getD 2 0 % 10), .int (L.getD 3 0 % 10)]) = H18 at gpl ga1p ga2p glap ghpp hhp ⊢
  -- the base
  let ys : List V := [.int (hh.oa * (L.getD 2 0 % 10)), .int (hh.oz * (L.getD 3 0 % 10))]
  refine ⟨_, rfl, pl, _, rfl, .inl (SqL.of gpl), 2, rfl, by decide, by decide, fun D11 hD11 => lcF_range (n := 2) (fun i => ys.take i) rfl (fun i hi => ?_) ?_⟩
  · match i, hi with
    | 0, _ =>
      have sd := same_new hD11 (.lst (ys.take 0))
      refine ⟨rfl, _, rfl, hp, _, 0, _, rfl, rfl, SqT.tp (sd _ _ ghpp), rfl, _, rfl, la, _, 0, _, rfl, rfl, SqL.of (sd _ _ glap), rfl, a1, _, 1, _, rfl, rfl, SqT.tp (sd _ _ ga1p), rfl, ?_⟩
      refine ⟨_, rfl, _, rfl, pl, _, 0, _, rfl, rfl, SqL.of (sd _ _ gpl), rfl, _, _, rfl, rfl, .inl ⟨by omega, by omega⟩, ?_⟩
      exact lc_end (acc := fun i => ys.take i) rfl (show 0 < 100000 by decide)
    | 1, _ =>
      have sd := same_new hD11 (.lst (ys.take 1))
      refine ⟨rfl, _, rfl, hp, _, 0, _, rfl, rfl, SqT.tp (sd _ _ ghpp), rfl, _, rfl, la, _, 1, _, rfl, rfl, SqL.of (sd _ _ glap), rfl, a2, _, 1, _, rfl, rfl, SqT.tp (sd _ _ ga2p), rfl, ?_⟩
      refine ⟨_, rfl, _, rfl, pl, _, 1, _, rfl, rfl, SqL.of (sd _ _ gpl), rfl, _, _, rfl, rfl, .inl ⟨by omega, by omega⟩, ?_⟩
      exact lc_end (acc := fun i => ys.take i) rfl (show 1 < 100000 by decide)
  have s19 := same_new hD11 (.lst (ys.take 2))
  have gplq := s19 _ _ gpl
  have hhq := HouseAt.to hhp s19
  refine ⟨D11, [hh.oa * (L.getD 2 0 % 10), hh.oz * (L.getD 3 0 % 10)], rfl, SqL.of upd_same, ?_⟩
  have es : ([hh.oa * (L.getD 2 0 % 10), hh.oz * (L.getD 3 0 % 10)] : List Int).sum = hh.oa * (L.getD 2 0 % 10) + hh.oz * (L.getD 3 0 % 10) := by simp
  rw [es]
  generalize upd H18 D11 (.lst (ys.take 2)) = H19 at s19 gplq hhq ⊢
  refine ⟨_, rfl, ?_⟩
  refine ⟨_, rfl, e, hh, rfl, hhq, hhfit, rfl, rfl, fun pp H20 s20 hrow => ?_⟩
  obtain ⟨r0, r1, hpp, hr0, hr1⟩ := hrow
  have gpl20 := s20 _ _ gplq
  have hh20 := HouseAt.to hhq s20
  have prx : ∀ (H' : Hp) (x : Addr), H' x = some (.lst [.int (L.getD 2 0 % 10), .int (L.getD 3 0 % 10)]) → PrAt H' (.ref x) (L.getD 2 0 % 10) (L.getD 3 0 % 10) := fun H' x hx => ⟨x, rfl, hx, hp0, Int.le_of_lt_add_one hp1, hq0, Int.le_of_lt_add_one hq1⟩
  refine ⟨pp, rfl, ⟨_, SqL.of hpp⟩, for_list (xs := [.ref r0, .ref r1]) (fun i σ H' => ∃ (v6 : Option V) (due : Int), σ = [some (.ref a), some (.ref dg), some (.ref D), some (.ref y1), some (.ref t4), some (.ref D5), v6, some (.ref tv), some (.ref hp), some (.ref e), some (.ref pl), some (.int (hh.oa * (L.getD 2 0 % 10) + hh.oz * (L.getD 3 0 % 10))), some (.int due), none, none, none] ∧ Same H20 H' ∧ DueI hh (L.getD 2 0 % 10) (L.getD 3 0 % 10) i due) ⟨none, _, rfl, Same.refl _, fun _ => rfl, fun z => absurd z (by decide), fun z => absurd z (by decide)⟩ (fun i σ H' _ ⟨_, _, _, s21, _⟩ => SqL.of (s21 _ _ hpp)) ?_ ?_⟩
  · rintro i x σ H' hi ⟨v6, due, rfl, s21, hdue⟩
    have hr : ∃ (r : Addr) (b : Bool), x = .ref r ∧ H' r = some (.lst [.int (if b then 1 else 0)]) ∧ ((i = 0 ∧ b = false) ∨ (i = 1 ∧ b = true)) := by
      match i, hi with
      | 0, hi =>
        obtain rfl := Option.some.inj hi
        exact ⟨r0, false, rfl, s21 _ _ hr0, .inl ⟨rfl, rfl⟩⟩
      | 1, hi =>
        obtain rfl := Option.some.inj hi
        exact ⟨r1, true, rfl, s21 _ _ hr1, .inr ⟨rfl, rfl⟩⟩
      | i + 2, hi => exact nomatch hi
    obtain ⟨r, b, rfl, hrr, hib⟩ := hr
    have hh21 := HouseAt.to hh20 s21
    have gpl21 := s21 _ _ gpl20
    refine ⟨_, rfl, _, rfl, _, rfl, e, r, hh, b, rfl, hh21, rfl, rfl, hrr, fun sp H22 s22 hsp => ?_⟩
    have gpl22 := s22 _ _ gpl21
    refine ⟨_, rfl, pl, _, rfl, .inl (SqL.of gpl22), fun pc hpc => ?_⟩
    have s23 := same_new hpc (.lst [.int (L.getD 2 0 % 10), .int (L.getD 3 0 % 10)])
    refine ⟨sp, hh.sub b, .ref pc, _, _, rfl, HouseAt.to hsp s23, sub_fit hhfit b, prx _ _ upd_same, fun m H24 s24 hm => ?_⟩
    refine ⟨_, _, rfl, rfl, _, rfl, _, _, rfl, rfl, ?_⟩
    refine ⟨_, _, rfl, s21.trans (s22.trans (s23.trans s24)), ?_⟩
    rcases hib with ⟨rfl, rfl⟩ | ⟨rfl, rfl⟩
    · have hd := hdue.1 rfl
      refine ⟨fun z => absurd z (by decide), fun _ => ?_, fun z => absurd z (by decide)⟩
      have ed : due + m - (hh.oa * (L.getD 2 0 % 10) + hh.oz * (L.getD 3 0 % 10)) = m := by rw [hd]; omega
      rw [ed]
      exact hm
    · have hd := hdue.2.1 rfl
      exact ⟨fun z => absurd z (by decide), fun z => absurd z (by decide), fun _ => ⟨due, m, hd, hm, rfl⟩⟩
  · rintro σ H21 ⟨v6, due, rfl, s21, hdue⟩
    obtain ⟨m1, m2, k1, k2, ed⟩ := hdue.2.2 rfl
    have hh21 := HouseAt.to hh20 s21
    have gpl21 := s21 _ _ gpl20
    refine ⟨_, rfl, _, rfl, pl, _, rfl, .inl (SqL.of gpl21), fun pc hpc => ?_⟩
    have s23 := same_new hpc (.lst [.int (L.getD 2 0 % 10), .int (L.getD 3 0 % 10)])
    refine ⟨e, hh, .ref pc, _, _, rfl, HouseAt.to hh21 s23, hhfit, prx _ _ upd_same, fun m H24 s24 hm => ?_⟩
    have em : m = due := by rw [ed]; exact most_adds hpres hm k1 k2
    subst em
    refine ⟨_, rfl, rfl, ?_⟩
    rw [decide_eq_true rfl]
    exact q _
end
end Nc

-- H2
set_option maxHeartbeats 0
namespace Nc
open PySem PySem.Spec PyProof.Rows L2
abbrev R : PySem.W.OpenRow := PySem.W.OpenLaw.row PySem.Challenge.rw_nestcall_k53_whole_parts_add_up
abbrev hk : PySem.W.Hook := He.hookD 6 fa fn
def hob (s : PySem.W.SharedT) : He.AlD := He.obsDG 6 fa fn (HandSHeadRun.getT s)
theorem hob_eq (s : PySem.W.SharedT) : hob s = hk.obs s.abs := He.obsDG_eq (HandSHeadRun.getT_eq s)
def loose : List Str := (["__name__", "HouseError", "TooLarge", "GREATEST", "combine", "House", "mentioned", "named", "ties", "parts", "part_house", "first_state", "put", "moved", "worth", "Pause", "Engine", "MOST_WAYS", "Ways", "MOST_STATES", "Search", "reachable", "most"] : List Str) ++
  (["_law_cell", "_law_is_integer", "_law_row", "_law_expression", "_law_statement", "_law_body", "_law_contract", "_law_house", "_law_made", "_law_named", "_law_moved", "_law_short"] : List Str)
theorem headRun (w : World) : HandSHeadRun.RunEq R (PySem.W.view R.prog [44]) hk hob 4000 loose w := by
  intro os
  kernel_rfl
end Nc

-- H3
set_option maxHeartbeats 0
namespace Nc
open PySem PySem.Spec PyProof.Rows L2
theorem facts {P : Program} {w : World} {K : PySem.W.Frag} {h : Heap} {mg : Str → Option Value} {f : Addr} (X : K.In h) (G : h.Ns mainGlobals mg) (hfa : mg ("law" : Str) = some (.ref f)) (c : He.SaysD fa fn K) :
    ∃ fd : FuncData, (∀ (s : Shared) (v : Value), BindsTo s fd ⟨[v], []⟩ [("_law_script", v)]) ∧ ∀ base : Heap, K.In base → base.Ns mainGlobals mg → FnOk P w K mg base CX0 40 f fd ["_law_script"] (spLaw K) := by
  obtain ⟨fd, F⟩ := c.def_ 44 (d := d_law) rfl
  have T := tx_of X G c
  have e := hfa.symm.trans T.g_law
  cases e
  have b := FunD.bindsA (ps := ["_law_script"]) F fun _ _ _ _ _ _ us hl => match us, hl with | [_], _ => rfl
  exact ⟨fd, fun s v => b s [v] rfl, fun base _ _ => fnd_ok F sc_law (fun vs H Q E z => by obtain ⟨_, _, rfl, _⟩ := z; rfl) (law_body T)⟩
end Nc
open PySem PySem.W PySem.Calls PyProof.Rows
theorem PySem.Challenge.cw_nestcall_k53_whole_parts_add_up_holds : PySem.Challenge.rw_nestcall_k53_whole_parts_add_up.Holds := by
  w_on; o_law
  refine HandSHeadRun.head_any (r := Nc.R) (q := view Nc.R.prog [44]) (H := Nc.hk) (ob := Nc.hob) (M := 4000) (loose := Nc.loose) (d := HandSHeadRun.topDef Nc.R.prog 44) (kwd := []) Nc.hob_eq
    (by kernel_rfl) (fun s => by kernel_rfl) Nc.headRun (by kernel_rfl) (by kernel_rfl) (by kernel_rfl) (by rfl) (by first | assumption | decide +kernel) (by decide +kernel) ⟨rfl, rfl, rfl, rfl, rfl, by decide +kernel⟩ ?hw ?hc
  case hw => w_witness2
  case hc =>
    refine L2.walk_ofE (l := PySem.Challenge.rw_nestcall_k53_whole_parts_add_up) (n := 63) (k := 40) (x := "_law_script") (CX := L2.CX0) rfl (by decide) (by kernel_rfl) ⟨rfl, by decide, by decide⟩ ?F (fun _ _ _ _ z => z)
    intro w mg fa h Y G hmg0
    obtain ⟨K, KX, c⟩ := Y
    have hmg : mg ("law" : PySem.Str) = some (.ref fa) := by
      have e : (HandSHeadRun.topDef Nc.R.prog 44).name = ("law" : PySem.Str) := by kernel_rfl
      rw [← e]
      exact hmg0
    obtain ⟨fd, hb, hF⟩ := Nc.facts (P := (PySem.Challenge.rw_nestcall_k53_whole_parts_add_up).prog) (w := w) KX G hmg c
    exact ⟨K, fd, Nc.spLaw K, KX, hb, fun H a ns hl _ hS => ⟨a, ns, rfl, hS, hl, fun _ => rfl⟩, hF⟩

